/- Lemmas for the proofs of chapter 11. -/
import Derived.WalkKit
import Derived.Test.YtdgjplfcpcphoaaGreatDoorZz
set_option maxRecDepth 100000
set_option maxHeartbeats 16000000
namespace Cl
structure Ed where
 lo:Nat
 hi:Nat
 to:Int
structure Sn where
 accept:Bool
 edges:List Ed
abbrev Table:=List Sn
def aV (n:Nat):Int→List Ed→Prop
 | _,[]=>True
 | p,e::es=>e.lo≤e.hi∧0≤e.to∧e.to<n∧p<e.lo∧aV n e.hi es
def WF (l:Table):Prop:=∀s∈l,aV l.length (-1) s.edges
def dZ (es:List Ed):Prop:=∀e∈es,e.lo<256∧e.hi<256
def Bytes (l:Table):Prop:=∀s∈l,dZ s.edges
def aS:List Ed→Nat→Int
 | [],_ => -1
 | e::es,b=>if e.lo≤b∧b≤e.hi then e.to else aS es b
def aW (l:Table) (s:Int) (b:Nat):Int:=
 if s<0 then -1 else match l[s.toNat]? with
  | some st=>aS st.edges b
  | none => -1
def dS (l:Table) (s:Int):Bool:=
 if s<0 then false else match l[s.toNat]? with
  | some st=>st.accept
  | none=>false
def aF (l:Table):Int→List UInt8→Bool
 | s,[]=>dS l s
 | s,b::w=>aF l (aW l s b.toNat) w
theorem gP {l:Table} {s:Int} (h:s<0) (b:Nat):aW l s b = -1:=by simp[aW,h]
theorem bJ {l:Table} {s:Int} (h:s<0) (w:List UInt8):aF l s w=false:=by
 induction w generalizing s with
 | nil=>simp[aF,dS,h]
 | cons b w ih=>simp only[aF];rw[gP h];exact ih zo
theorem bV (l:Table) (k:Nat) (b:Nat) (h:k<l.length):aW l (k:Int) b=aS (l[k]).edges b:=by
 have h0:¬ ((k:Int)<0):=zo;simp[aW,h0,h]
theorem dB (l:Table) (k:Int) (b:Nat) (h:(l.length:Int)≤k):aW l k b = -1:=by
 have h0:¬ (k<0):=zo;have h1:l.length≤k.toNat:=zo;simp[aW,h0,h1]
theorem dX (l:Table) (k:Int) (w:List UInt8) (h:(l.length:Int)≤k):aF l k w=false:=by
 cases w with
 | nil=>
  have h0:¬ (k<0):=zo;have h1:l.length≤k.toNat:=zo
  simp[aF,dS,h0,h1]
 | cons b w=>simp only[aF];rw[dB _ _ _ h];exact bJ zo w
theorem og {n:Nat} {p:Int} {es:List Ed} (h:aV n p es) (b:Nat):aS es b = -1∨(0≤aS es b∧aS es b<n):=by
 induction es generalizing p with
 | nil=>left;rfl
 | cons e es ih=>
  obtain⟨h1,h2,h3,h4,h5⟩:=h;simp only[aS]
  split
  ·right;exact⟨h2,h3⟩
  ·exact ih h5
theorem dU {l:Table} (h:WF l) (k:Int) (b:Nat):aW l k b = -1∨(0≤aW l k b∧aW l k b<l.length):=by
 by_cases h0:k<0
 ·left;exact gP h0 b
 ·by_cases h1:k<l.length
  ·obtain⟨n,rfl⟩:=Int.eq_ofNat_of_zero_le (by omega:0≤k);rw[bV l n b zo];exact og (h _ (List.getElem_mem _)) b
  ·left;exact dB l k b zo
def Merged:List Ed→Prop
 | []=>True
 | [_]=>True
 | e::f::es=>¬ (e.to=f.to∧e.hi+1=f.lo)∧Merged (f::es)
structure Canon (l:Table):Prop where
 wf:WF l
 bytes:Bytes l
 merged:∀s∈l,Merged s.edges
 live:∀k:Nat,k<l.length→∃w,aF l k w=true
 dist:∀i j:Nat,i<l.length→j<l.length→(∀w,aF l i w=aF l j w)→i=j
 seen:∀(k b t:Nat),b<256→aW l k b=t→∀t':Nat,0<t'→t'<t→∃k' b':Nat,b'<256∧(k'<k∨k'=k∧b'<b)∧aW l k' b'=t'
 reach:∀t:Nat,0<t→t<l.length→∃k b:Nat,k<t∧b<256∧aW l k b=t
theorem ky {n:Nat} {p:Int} {es:List Ed} (h:aV n p es) {b:Nat} (hb:(b:Int)≤p):aS es b = -1:=by
 induction es generalizing p with
 | nil=>rfl
 | cons e es ih=>
  obtain⟨h1,h2,h3,h4,h5⟩:=h;simp only[aS];rw[if_neg zo];exact ih h5 zo
theorem Bd {n m:Nat} (es:List Ed):∀(fs:List Ed) (p:Int),aV n p es→aV m p fs→dZ es→dZ fs→Merged es→Merged fs →
 (∀b:Nat,b<256→p<(b:Int)→aS es b=aS fs b)→es=fs:=by
 induction es with
 | nil=>
  intro fs p _ hf _ bf _ _ h
  cases fs with
  | nil=>rfl
  | cons f fs=>
   obtain⟨f1,f2,f3,f4,f5⟩:=hf;have:=h f.lo (bf f zS).1 f4;simp[aS] at this
   omega
 | cons e es ih=>
  intro fs p he hf be bf me mf h;obtain⟨e1,e2,e3,e4,e5⟩:=he
  cases fs with
  | nil=>
   have:=h e.lo (be e zS).1 e4;simp[aS,e1] at this
   omega
  | cons f fs=>
   obtain⟨f1,f2,f3,f4,f5⟩:=hf;have be':dZ es:=fun x hx=>be x (by simp[hx]);have bf':dZ fs:=fun x hx=>bf x (by simp[hx]);have blo:=(be e zS);have flo:=(bf f zS);have hlo:e.lo=f.lo:=by
    have A:=h e.lo blo.1 e4;have B:=h f.lo flo.1 f4;simp only[aS] at A B;rw[if_pos ⟨Nat.le_refl _,e1⟩] at A;rw[if_pos (⟨Nat.le_refl _,f1⟩:f.lo≤f.lo∧f.lo≤f.hi)] at B;by_cases c:e.lo<f.lo
    ·rw[if_neg zo,ky f5 zo] at A;omega
    ·by_cases c':f.lo<e.lo
     ·rw[if_neg zo,ky e5 zo] at B;omega
     ·omega
   have hto:e.to=f.to:=by
    have A:=h e.lo blo.1 e4;simp only[aS] at A;rw[if_pos ⟨Nat.le_refl _,e1⟩,if_pos zo] at A;exact A
   have next:∀{k:Nat} {g:Ed} {gs:List Ed},aV k (g.hi:Int) gs→Merged (g::gs)→0≤g.to→aS gs (g.hi+1)≠g.to:=by
    intro k g gs hg mg g0 hh
    cases gs with
    | nil=>simp[aS] at hh;omega
    | cons x xs=>
     obtain⟨x1,x2,x3,x4,x5⟩:=hg;simp only[aS] at hh;by_cases c:x.lo=g.hi+1
     ·rw[if_pos zo] at hh;exact mg.1 ⟨hh.symm,c.symm⟩
     ·rw[if_neg zo,ky x5 zo] at hh;omega
   have hhi:e.hi=f.hi:=by
    by_cases c:e.hi<f.hi
    ·have A:=h (e.hi+1) zo zo;simp only[aS] at A;rw[if_neg zo,if_pos zo] at A;exact absurd (A.trans hto.symm) (next e5 me e2)
    ·by_cases c':f.hi<e.hi
     ·have A:=h (f.hi+1) zo zo;simp only[aS] at A;rw[if_pos zo,if_neg zo] at A;exact absurd (A.symm.trans hto) (next f5 mf f2)
     ·omega
   have heq:e=f:=by
    cases e;cases f;simp_all
   subst heq
   congr 1
   have me':Merged es:=by
    cases es with
    | nil=>trivial
    | cons x xs=>exact me.2
   have mf':Merged fs:=by
    cases fs with
    | nil=>trivial
    | cons x xs=>exact mf.2
   refine ih fs e.hi e5 f5 be' bf' me' mf' ?_;intro b hb hp;have A:=h b hb zo;simp only[aS] at A;rw[if_neg zo,if_neg zo] at A;exact A
theorem byteOf (b:Nat) (h:b<256):∃u:UInt8,u.toNat=b:=⟨UInt8.ofNat b,by simp[Nat.mod_eq_of_lt h]⟩
theorem FV {l m:Table} {i j:Int} (h:∀w,aF l i w=aF m j w) (b:Nat) (hb:b<256):∀w,aF l (aW l i b) w=aF m (aW m j b) w:=by
 obtain⟨u,rfl⟩:=byteOf b hb;intro w;have:=h (u::w);simpa [aF] using this
theorem LB {l m:Table} (hl:Canon l) (hm:Canon m) {i j:Int} (hi:i = -1∨(0≤i∧i<l.length)) (hj:j = -1∨(0≤j∧j<m.length))
 (h:∀w,aF l i w=aF m j w):(i = -1∧j = -1)∨(∃s t:Nat,i=s∧j=t∧s<l.length∧t<m.length):=by
 rcases hi with hi | ⟨hi0,hi1⟩
 ·rcases hj with hj | ⟨hj0,hj1⟩
  ·exact .inl ⟨hi,hj⟩
  ·obtain⟨t,rfl⟩:=Int.eq_ofNat_of_zero_le hj0;obtain⟨w,hw⟩:=hm.live t zo;have:=h w;rw[hw,bJ zo] at this;cases this
 ·obtain⟨s,rfl⟩:=Int.eq_ofNat_of_zero_le hi0;rcases hj with hj | ⟨hj0,hj1⟩
  ·obtain⟨w,hw⟩:=hl.live s zo;have:=h w;rw[hw,bJ zo] at this;cases this
  ·obtain⟨t,rfl⟩:=Int.eq_ofNat_of_zero_le hj0;exact .inr ⟨s,t,rfl,rfl,zo,zo⟩
theorem Cj {l m:Table} (hl:Canon l) (hm:Canon m) (h:∀w,aF l 0 w=aF m 0 w) :
 ∀N k b:Nat,b<256→256*k+b<N→((k<l.length∨k<m.length)→(∀w,aF l k w=aF m k w))∧aW l k b=aW m k b:=by
 intro N
 induction N with
 | zero=>intro k b _ hN;omega
 | succ N ih=>
  intro k b hb hN;have hres:(k<l.length∨k<m.length)→(∀w,aF l k w=aF m k w):=by
   intro hk;by_cases k0:k=0
   ·subst k0;exact h
   ·rcases hk with hk | hk
    ·obtain⟨k',b',h1,h2,h3⟩:=hl.reach k zo hk;have:=ih k' b' h2 zo;have hk':k'<l.length:=zo;have r:=FV (this.1 (.inl hk')) b' h2;rw[← this.2,h3] at r;exact r
    ·obtain⟨k',b',h1,h2,h3⟩:=hm.reach k zo hk;have:=ih k' b' h2 zo;have hk':k'<m.length:=zo;have r:=FV (this.1 (.inr hk')) b' h2;rw[this.2,h3] at r;exact r
  refine ⟨hres,?_⟩;by_cases hk:k<l.length∨k<m.length
  ·have r:=FV (hres hk) b hb;rcases LB hl hm (dU hl.wf _ b) (dU hm.wf _ b) r with ⟨e1,e2⟩ | ⟨s,t,e1,e2,hs,ht⟩
   ·rw[e1,e2]
   ·rw[e1,e2] at r ⊢;have:s=t:=by
     by_cases c:s<t
     ·
      have hm':∀w,aF l s w=aF m s w:=by
       by_cases s0:s=0
       ·subst s0;exact h
       ·obtain⟨k',b',h1,h2,h3⟩:=hm.seen k b t hb e2 s zo c;have I:=ih k' b' h1 zo;by_cases hk':k'<l.length∨k'<m.length
        ·have r':=FV (I.1 hk') b' h1;rw[I.2,h3] at r';exact r'
        ·rw[dB m k' b' zo] at h3;omega
      exact hm.dist s t zo ht (fun w=>(hm' w).symm.trans (r w))
     ·by_cases c':t<s
      ·have hm':∀w,aF l t w=aF m t w:=by
        by_cases t0:t=0
        ·subst t0;exact h
        ·obtain⟨k',b',h1,h2,h3⟩:=hl.seen k b s hb e1 t zo c';have I:=ih k' b' h1 zo;by_cases hk':k'<l.length∨k'<m.length
         ·have r':=FV (I.1 hk') b' h1;rw[← I.2,h3] at r';exact r'
         ·rw[dB l k' b' zo] at h3;omega
       exact hl.dist s t hs zo (fun w=>(r w).trans (hm' w).symm)
      ·omega
    rw[this]
  ·rw[dB l k b zo,dB m k b zo]
theorem dF (l:Table) (k:Nat) (h:k<l.length):dS l (k:Int)=(l[k]).accept:=by
 have h0:¬ ((k:Int)<0):=zo;simp[dS,h0,h]
theorem lens {l m:Table} (hl:Canon l) (hm:Canon m) (h:∀w,aF l 0 w=aF m 0 w):l.length≤m.length:=by
 apply Nat.le_of_not_lt;intro c;have A:=(Cj hl hm h (256*m.length+1) m.length 0 zo zo).1 (.inl c);obtain⟨w,hw⟩:=hl.live m.length c;rw[A w,dX m _ w zo] at hw;cases hw
theorem Br {l m:Table} (hl:Canon l) (hm:Canon m) (h:∀w,aF l 0 w=aF m 0 w):l=m:=by
 have hlen:l.length=m.length:=Nat.le_antisymm (lens hl hm h) (lens hm hl (fun w=>(h w).symm));apply List.ext_getElem hlen;intro k h1 h2;have ha:(l[k]).accept=(m[k]).accept:=by
  have:=(Cj hl hm h (256*k+1) k 0 zo zo).1 (.inl h1) [];simp only[aF] at this
  rwa [dF l k h1,dF m k h2] at this
 have he:(l[k]).edges=(m[k]).edges:=by
  refine Bd _ _ (-1) (hl.wf _ (List.getElem_mem h1)) (hm.wf _ (List.getElem_mem h2)) (hl.bytes _ (List.getElem_mem h1)) (hm.bytes _ (List.getElem_mem h2))
   (hl.merged _ (List.getElem_mem h1)) (hm.merged _ (List.getElem_mem h2)) ?_
  intro b hb _;have:=(Cj hl hm h (256*k+b+1) k b hb zo).2
  rwa [bV l k b h1,bV m k b h2] at this
 cases hx:l[k];cases hy:m[k];simp_all
end Cl
namespace Cl
noncomputable def tf (p:Prop):Bool:=@decide p (Classical.propDecidable p)
theorem aI {p:Prop} (h:p):tf p=true:=by simp[tf,h]
theorem az {p:Prop} (h:¬ p):tf p=false:=by simp[tf,h]
theorem zB {p:Prop}:tf p=true↔p:=by simp[tf]
theorem aZ {p q:Prop} (h:p↔q):tf p=tf q:=by rw[show p=q from propext h]
def jG (es:List Ed) (k:Nat):Int:=if h:0<k∧k≤es.length then ((es[k - 1]'zo).hi:Int) else -1
theorem tY (es:List Ed) (k:Nat) (h:¬ 0<k):jG es k = -1:=by simp[jG,h]
theorem qV {n:Nat} {es:List Ed} {k:Nat} (h:k<es.length) :
 aV n (jG es k) (es.drop k)↔(es[k]).lo≤(es[k]).hi∧0≤(es[k]).to∧(es[k]).to<n∧jG es k<(es[k]).lo∧aV n (jG es (k+1)) (es.drop (k+1)):=by
 rw[List.drop_eq_getElem_cons h,aV];have:jG es (k+1)=(es[k]).hi:=by simp[jG,Nat.succ_le_of_lt h]
 rw[this]
theorem Ip {n:Nat} {l:Table} {k:Nat} (h:k<l.length) :
 (∀s∈l.drop k,aV n (-1) s.edges)↔aV n (-1) (l[k]).edges∧∀s∈l.drop (k+1),aV n (-1) s.edges:=by
 rw[List.drop_eq_getElem_cons h,List.forall_mem_cons]
end Cl
namespace Cl
inductive Dt where
 | mk (kind num:Int) (str:ByteArray) (items:List Dt) (labels:List ByteArray) (lL:List Dt)
def Dt.kind:Dt→Int | mk k _ _ _ _ _=>k
def Dt.num:Dt→Int | mk _ n _ _ _ _=>n
def Dt.str:Dt→ByteArray | mk _ _ s _ _ _=>s
def Dt.items:Dt→List Dt | mk _ _ _ i _ _=>i
def Dt.labels:Dt→List ByteArray | mk _ _ _ _ l _=>l
def Dt.lL:Dt→List Dt | mk _ _ _ _ _ d=>d
end Cl
namespace Cl
abbrev Spn:=Int × Int
def mems (l:List Spn) (x:Int):Prop:=∃s∈l,s.1≤x∧x≤s.2
structure Norm (l:List Spn):Prop where
 ok:∀s∈l,s.1≤s.2
 sep:l.Pairwise fun s t=>s.2+1<t.1
theorem iB (x:Int):¬ mems [] x:=by rintro ⟨s,h,-⟩;cases h
theorem bF {s:Spn} {l:List Spn} {x:Int}:mems (s::l) x↔(s.1≤x∧x≤s.2)∨mems l x:=by
 constructor
 ·rintro ⟨t,h,hx⟩;rcases List.mem_cons.1 h with rfl | h
  ·exact .inl hx
  ·exact .inr ⟨t,h,hx⟩
 ·rintro (h | ⟨t,h,hx⟩)
  ·exact⟨s,List.mem_cons_self ..,h⟩
  ·exact⟨t,List.mem_cons_of_mem _ h,hx⟩
theorem Norm.nil:Norm []:=⟨fun s h=>by simp at h,.nil⟩
theorem Norm.tail {s:Spn} {l:List Spn} (h:Norm (s::l)):Norm l:=⟨fun t ht=>h.ok t (List.mem_cons_of_mem _ ht),(List.pairwise_cons.1 h.sep).2⟩
theorem Norm.head {s:Spn} {l:List Spn} (h:Norm (s::l)):s.1≤s.2:=h.ok s (List.mem_cons_self ..)
theorem Norm.after {s:Spn} {l:List Spn} (h:Norm (s::l)) {x:Int} (hx:mems l x):s.2+1<x:=by
 obtain⟨t,ht,h1,-⟩:=hx;have:=(List.pairwise_cons.1 h.sep).1 t ht;omega
theorem Norm.cons {s:Spn} {l:List Spn} (h1:s.1≤s.2) (h2:∀t∈l,s.2+1<t.1) (h:Norm l):Norm (s::l):=by
 refine ⟨fun t ht=>?_,List.pairwise_cons.2 ⟨h2,h.sep⟩⟩;rcases List.mem_cons.1 ht with rfl | ht
 ·exact h1
 ·exact h.ok t ht
theorem iY:∀{l l':List Spn},Norm l→Norm l'→(∀x,mems l x↔mems l' x)→l=l'
 | [],[],_,_,_=>rfl
 | [],s::r,_,h',e=>absurd ((e s.1).2 (bF.2 (.inl ⟨Int.le_refl _,h'.head⟩))) (iB _)
 | s::r,[],h,_,e=>absurd ((e s.1).1 (bF.2 (.inl ⟨Int.le_refl _,h.head⟩))) (iB _)
 | s::r,s'::r',h,h',e=>by
  have a:=h.head;have a':=h'.head;have out:¬ mems (s::r) (s.2+1):=fun hx=>by
   rcases bF.1 hx with hx | hx
   ·omega
   ·have:=h.after hx;omega
  have out':¬ mems (s'::r') (s'.2+1):=fun hx=>by
   rcases bF.1 hx with hx | hx
   ·omega
   ·have:=h'.after hx;omega
  have lo:s.1=s'.1:=by
   have h1:s'.1≤s.1:=by
    rcases bF.1 ((e s.1).1 (bF.2 (.inl ⟨Int.le_refl _,a⟩))) with hx | hx
    ·exact hx.1
    ·have:=h'.after hx;omega
   have h2:s.1≤s'.1:=by
    rcases bF.1 ((e s'.1).2 (bF.2 (.inl ⟨Int.le_refl _,a'⟩))) with hx | hx
    ·exact hx.1
    ·have:=h.after hx;omega
   omega
  have hi:s.2=s'.2:=by
   have h1:s.2≤s'.2:=by
    refine Int.not_lt.1 fun hlt=>out' ((e _).1 (bF.2 (.inl ⟨?_,?_⟩))) <;> omega
   have h2:s'.2≤s.2:=by
    refine Int.not_lt.1 fun hlt=>out ((e _).2 (bF.2 (.inl ⟨?_,?_⟩))) <;> omega
   omega
  obtain⟨x,y⟩:=s;obtain⟨x',y'⟩:=s';obtain rfl:x=x':=lo;obtain rfl:y=y':=hi;have hr:r=r':=iY h.tail h'.tail fun z=>by
   constructor
   ·intro hz;have:=h.after hz;rcases bF.1 ((e z).1 (bF.2 (.inr hz))) with hx | hx
    ·omega
    ·exact hx
   ·intro hz;have:=h'.after hz;rcases bF.1 ((e z).2 (bF.2 (.inr hz))) with hx | hx
    ·omega
    ·exact hx
  rw[hr]
def nW:List Spn→List Spn→List Spn
 | [],out=>out
 | s::l,[]=>nW l [s]
 | s::l,t::out=>if s.1≤t.2+1 then nW l ((t.1,max t.2 s.2)::out) else nW l (s::t::out)
structure MH (l:List Spn):Prop where
 ok:∀s∈l,s.1≤s.2
 sep:l.Pairwise fun s t=>t.2+1<s.1
theorem MH.rev {l:List Spn} (h:MH l):Norm l.reverse:=⟨fun s hs=>h.ok s (List.mem_reverse.1 hs),List.pairwise_reverse.2 h.sep⟩
theorem Al {l:List Spn} {x:Int}:mems l.reverse x↔mems l x:=by simp[mems]
theorem mq:∀(l out:List Spn),(∀s∈l,s.1≤s.2)→l.Pairwise (fun s t=>s.1≤t.1)→MH out→(∀t∈out,∀s∈l,t.1≤s.1) →
 MH (nW l out)∧∀x,mems (nW l out) x↔mems out x∨mems l x
 | [],out,_,_,hn,_=>⟨hn,fun x=>by simp[nW,iB]⟩
 | s::l,[],hok,hs,_,_=>by
  have hs':=List.pairwise_cons.1 hs;have hk:=hok s (List.mem_cons_self ..);obtain⟨h1,h2⟩:=mq l [s] (fun t ht=>hok t (List.mem_cons_of_mem _ ht)) hs'.2 ⟨fun t ht=>by simp at ht;subst ht;exact hk,List.pairwise_singleton _ _⟩
   (fun t ht u hu=>by simp at ht;subst ht;exact hs'.1 u hu)
  exact⟨h1,fun x=>by rw[nW,h2,bF,bF];simp[iB]⟩
 | s::l,t::out,hok,hs,hn,hle=>by
  have hs':=List.pairwise_cons.1 hs;have hk:=hok s (List.mem_cons_self ..);have hn':=List.pairwise_cons.1 hn.sep;have ht:=hn.ok t (List.mem_cons_self ..);have hts:=hle t (List.mem_cons_self ..) s (List.mem_cons_self ..);have hok':∀u∈l,u.1≤u.2:=fun u hu=>hok u (List.mem_cons_of_mem _ hu);unfold nW;by_cases hj:s.1≤t.2+1
  ·rw[if_pos hj];obtain⟨h1,h2⟩:=mq l ((t.1,max t.2 s.2)::out) hok' hs'.2
    ⟨fun u hu=>by
     rcases List.mem_cons.1 hu with rfl | hu
     ·show t.1≤max t.2 s.2;omega
     ·exact hn.ok u (List.mem_cons_of_mem _ hu),
     List.pairwise_cons.2 ⟨fun u hu=>hn'.1 u hu,hn'.2⟩⟩
    (fun u hu v hv=>by
     rcases List.mem_cons.1 hu with rfl | hu
     ·exact hle t (List.mem_cons_self ..) v (List.mem_cons_of_mem _ hv)
     ·exact hle u (List.mem_cons_of_mem _ hu) v (List.mem_cons_of_mem _ hv))
   refine ⟨h1,fun x=>?_⟩;rw[h2,bF,bF,bF];have:(t.1≤x∧x≤max t.2 s.2)↔((t.1≤x∧x≤t.2)∨(s.1≤x∧x≤s.2)):=zo;show ((t.1≤x∧x≤max t.2 s.2)∨_)∨_↔_;rw[this];constructor
   ·rintro (((h | h) | h) | h)
    ·exact .inl (.inl h)
    ·exact .inr (.inl h)
    ·exact .inl (.inr h)
    ·exact .inr (.inr h)
   ·rintro ((h | h) | (h | h))
    ·exact .inl (.inl (.inl h))
    ·exact .inl (.inr h)
    ·exact .inl (.inl (.inr h))
    ·exact .inr h
  ·rw[if_neg hj];obtain⟨h1,h2⟩:=mq l (s::t::out) hok' hs'.2
    ⟨fun u hu=>by
     rcases List.mem_cons.1 hu with rfl | hu
     ·exact hk
     ·exact hn.ok u hu,
     List.pairwise_cons.2 ⟨fun u hu=>by
      rcases List.mem_cons.1 hu with rfl | hu
      ·omega
      ·have:=hn'.1 u hu;omega,hn.sep⟩⟩
    (fun u hu v hv=>by
     rcases List.mem_cons.1 hu with rfl | hu
     ·exact hs'.1 v hv
     ·exact hle u hu v (List.mem_cons_of_mem _ hv))
   refine ⟨h1,fun x=>?_⟩;rw[h2,bF (s:=s),bF (s:=s)];constructor
   ·rintro ((h | h) | h)
    ·exact .inr (.inl h)
    ·exact .inl h
    ·exact .inr (.inr h)
   ·rintro (h | (h | h))
    ·exact .inl (.inr h)
    ·exact .inl (.inl h)
    ·exact .inr h
def insS:Spn→Bool→List Spn→List Spn
 | s,d,[]=>if d then [] else [s]
 | s,d,x::r=>if x.2+1<s.1 then x::insS s d r else if s.2+1<x.1 then (if d then [] else [s]) ++ x::insS s true r else insS (min s.1 x.1,max s.2 x.2) d r
theorem AQ {s:Spn}:∀{r:List Spn},(∀t∈r,s.2+1<t.1)→insS s true r=r
 | [],_=>rfl
 | x::r,h=>by
  have h1:=h x (List.mem_cons_self ..);have ih:=AQ (s:=s) (r:=r) fun t ht=>h t (List.mem_cons_of_mem _ ht);unfold insS;rw[ih];by_cases h2:x.2+1<s.1
  ·rw[if_pos h2]
  ·rw[if_neg h2,if_pos h1,if_pos rfl];rfl
theorem Norm.first {l:List Spn} (h:Norm l) {t:Spn} (ht:t∈l):mems l t.1:=⟨t,ht,Int.le_refl _,h.ok t ht⟩
theorem uA:∀(out:List Spn) (s:Spn),s.1≤s.2→Norm out→Norm (insS s false out)∧∀x,mems (insS s false out) x↔(s.1≤x∧x≤s.2)∨mems out x
 | [],s,hs,_=>⟨.cons hs (fun t ht=>by cases ht) .nil,fun x=>by simp[insS,bF,iB]⟩
 | y::r,s,hs,hn=>by
  have hy:=hn.head;unfold insS;by_cases h1:y.2+1<s.1
  ·rw[if_pos h1];obtain⟨a,b⟩:=uA r s hs hn.tail;refine ⟨.cons hy (fun t ht=>?_) a,fun x=>?_⟩
   ·rcases (b _).1 (a.first ht) with h | h
    ·omega
    ·exact hn.after h
   ·rw[bF,b,bF];constructor
    ·rintro (h | h | h)
     ·exact .inr (.inl h)
     ·exact .inl h
     ·exact .inr (.inr h)
    ·rintro (h | h | h)
     ·exact .inr (.inl h)
     ·exact .inl h
     ·exact .inr (.inr h)
  ·rw[if_neg h1];by_cases h2:s.2+1<y.1
   ·rw[if_pos h2,if_neg zD,AQ fun t ht=>by have:=(List.pairwise_cons.1 hn.sep).1 t ht;omega];refine ⟨.cons hs (fun t ht=>?_) hn,fun x=>bF⟩;rcases List.mem_cons.1 ht with rfl | ht
    ·exact h2
    ·have:=(List.pairwise_cons.1 hn.sep).1 t ht;omega
   ·rw[if_neg h2];obtain⟨a,b⟩:=uA r (min s.1 y.1,max s.2 y.2) (by show min s.1 y.1≤max s.2 y.2;omega) hn.tail;refine ⟨a,fun x=>?_⟩;rw[b,bF];have:(min s.1 y.1≤x∧x≤max s.2 y.2)↔((s.1≤x∧x≤s.2)∨(y.1≤x∧x≤y.2)):=zo;show ((min s.1 y.1≤x∧x≤max s.2 y.2)∨_)↔_;rw[this,or_assoc]
def eB (l:List Spn):List Spn:=l.foldl (fun out s=>if s.2<s.1 then out else insS s false out) []
theorem qD:∀(l out:List Spn),Norm out→Norm (l.foldl (fun out s=>if s.2<s.1 then out else insS s false out) out) ∧
 ∀x,mems (l.foldl (fun out s=>if s.2<s.1 then out else insS s false out) out) x↔mems out x∨mems l x
 | [],out,hn=>⟨hn,fun x=>by simp[iB]⟩
 | s::l,out,hn=>by
  rw[List.foldl_cons];by_cases h:s.2<s.1
  ·rw[if_pos h];obtain⟨a,b⟩:=qD l out hn;refine ⟨a,fun x=>?_⟩;rw[b,bF];have:¬ (s.1≤x∧x≤s.2):=zo;simp[this]
  ·rw[if_neg h];obtain⟨a0,b0⟩:=uA out s zo hn;obtain⟨a,b⟩:=qD l _ a0;refine ⟨a,fun x=>?_⟩;rw[b,b0,bF];constructor
   ·rintro ((h | h) | h)
    ·exact .inr (.inl h)
    ·exact .inl h
    ·exact .inr (.inr h)
   ·rintro (h | h | h)
    ·exact .inl (.inr h)
    ·exact .inl (.inl h)
    ·exact .inr h
theorem dm (l:List Spn):Norm (eB l)∧∀x,mems (eB l) x↔mems l x:=by
 obtain⟨a,b⟩:=qD l [] .nil;exact⟨a,fun x=>by rw[eB,b];simp[iB]⟩
end Cl
namespace Cl
def ek (u:Int):Int:=u / 10000*9999+u % 10000 - 1
def bK (k:Int):Int:=k / 9999*10000+k % 9999+1
theorem iQ {u:Int} (h:u % 10000≠0):bK (ek u)=u:=by unfold bK ek;omega
theorem Co (k:Int):ek (bK k)=k:=by unfold bK ek;omega
theorem nP (k:Int):bK k % 10000≠0:=by unfold bK;omega
theorem qz {u v:Int} (hu:u % 10000≠0) (hv:v % 10000≠0):ek u≤ek v↔u≤v:=by unfold ek;omega
theorem iR {k l:Int}:bK k≤bK l↔k≤l:=by unfold bK;omega
def p9 (u:Int):Int:=if (u+1) % 10000=0 then u+2 else u+1
theorem BC (k:Int):p9 (bK k)=bK (k+1):=by unfold p9 bK;split <;> omega
end Cl
namespace Cl
theorem JA {l p:List Spn} (h:p.Perm l) (x:Int):mems p x↔mems l x:=by
 simp only[mems,h.mem_iff]
theorem AJ {l p:List Spn} (hp:p.Perm l) (hs:p.Pairwise fun s t=>s.1≤t.1) (hok:∀s∈l,s.1≤s.2):(nW p []).reverse=eB l:=by
 obtain⟨a,b⟩:=mq p [] (fun s h=>hok s (hp.mem_iff.1 h)) hs ⟨fun s h=>(by cases h),.nil⟩ (fun t h=>(by cases h));refine iY a.rev (dm l).1 fun x=>?_;rw[Al,b,(dm l).2,JA hp];simp[iB]
def jr (s:Spn):Spn:=(ek s.1,ek s.2)
def dP (s:Spn):Spn:=(bK s.1,bK s.2)
def gX (nx:Int→Int):List Spn→List Spn→List Spn
 | [],out=>out
 | s::l,[]=>gX nx l [s]
 | s::l,t::out=>if s.1≤nx t.2 then gX nx l ((t.1,max t.2 s.2)::out) else gX nx l (s::t::out)
theorem nX:∀l out:List Spn,gX (fun n=>n+1) l out=nW l out
 | [],out=>rfl
 | s::l,[]=>by simp only[gX,nW,nX]
 | s::l,t::out=>by simp only[gX,nW,nX]
theorem Fz (k l:Int):max (bK k) (bK l)=bK (max k l):=by unfold bK;omega
theorem j4:∀l out:List Spn,gX p9 (l.map dP) (out.map dP)=(nW l out).map dP
 | [],out=>rfl
 | s::l,[]=>by
  have ih:=j4 l [s]
  simpa only[gX,nW,List.map_cons,List.map_nil] using ih
 | s::l,t::out=>by
  simp only[List.map_cons,gX,nW];show (if bK s.1≤p9 (bK t.2) then gX p9 (l.map dP) ((bK t.1,max (bK t.2) (bK s.2))::out.map dP) else _)=_;rw[BC];by_cases h:s.1≤t.2+1
  ·rw[if_pos (iR.2 h),if_pos h,Fz];exact j4 l ((t.1,max t.2 s.2)::out)
  ·rw[if_neg (fun e=>h (iR.1 e)),if_neg h];exact j4 l (s::t::out)
def iF:Int:=100000000000
def maxU:Int:=1000000000000000
def jA (s:Spn):Spn:=(max s.1 (-iF),min s.2 iF)
def jL (l:List Spn):List Spn:=(l.map jA).filter fun s=>decide (s.1≤s.2)
def trimF (s:Spn):Spn:=(if s.1 % 10000=0 then s.1+1 else s.1,if s.2 % 10000=0 then s.2 - 1 else s.2)
def fO (s:Spn):Spn:=trimF (max s.1 (-maxU),min s.2 maxU)
def iq (l:List Spn):List Spn:=(l.map fO).filter fun s=>decide (s.1≤s.2)
theorem EE {l:List Spn}:∀s∈jL l,s.1≤s.2:=fun s h=>by simpa using (List.mem_filter.1 h).2
theorem EG {l:List Spn}:∀s∈iq l,s.1≤s.2:=fun s h=>by simpa using (List.mem_filter.1 h).2
theorem II (s:Spn):(trimF s).1 % 10000≠0∧(trimF s).2 % 10000≠0:=by
 unfold trimF;constructor
 ·show (if s.1 % 10000=0 then s.1+1 else s.1) % 10000≠0
  split <;> omega
 ·show (if s.2 % 10000=0 then s.2 - 1 else s.2) % 10000≠0
  split <;> omega
theorem mh {l:List Spn}:∀s∈iq l,s.1 % 10000≠0∧s.2 % 10000≠0:=fun s h=>by
 obtain⟨t,-,rfl⟩:=List.mem_map.1 (List.mem_filter.1 h).1;exact II _
def pG (l:List Spn):List Spn:=eB (jL l)
def lG (l:List Spn):List Spn:=eB ((iq l).map jr)
theorem Jj {l:List Spn}:∀s∈(iq l).map jr,s.1≤s.2:=fun s h=>by
 obtain⟨t,ht,rfl⟩:=List.mem_map.1 h;obtain⟨h1,h2⟩:=mh t ht;exact (qz h1 h2).2 (EG t ht)
theorem JE {l p:List Spn} (hp:p.Perm (jL l)) (hs:p.Pairwise fun s t=>s.1≤t.1):(gX (fun n=>n+1) p []).reverse=pG l:=by
 rw[nX];exact AJ hp hs EE
theorem Gt {l p:List Spn} (hp:p.Perm (iq l)) (hs:p.Pairwise fun s t=>s.1≤t.1):(gX p9 p []).reverse=(lG l).map dP:=by
 have hf:∀s∈p,s.1 % 10000≠0∧s.2 % 10000≠0:=fun s h=>mh s (hp.mem_iff.1 h);have e:(p.map jr).map dP=p:=by
  rw[List.map_map];refine (List.map_congr_left fun s h=>?_).trans (List.map_id _);obtain⟨h1,h2⟩:=hf s h;show (bK (ek s.1),bK (ek s.2))=s;rw[iQ h1,iQ h2]
 have hs':(p.map jr).Pairwise fun s t=>s.1≤t.1:=by
  refine List.pairwise_map.2 (hs.imp_of_mem fun {a b} ha hb h=>?_);exact (qz (hf a ha).1 (hf b hb).1).2 h
 have key:=AJ (hp.map jr) hs' Jj;rw[← e];rw[show ([]:List Spn)=([]:List Spn).map dP from rfl,j4,← List.map_reverse,key]
 rfl
end Cl
namespace Cl
structure NS where
 i:List Spn
 f:List Spn
def rA:Int := -999900000000000
def AB:Int:=999899999999999
structure NSok (x:NS):Prop where
 ni:Norm x.i
 nf:Norm x.f
 bi:∀s∈x.i,-iF≤s.1∧s.2≤iF
 bf:∀s∈x.f,rA≤s.1∧s.2≤AB
def NS.rf (x:NS):List Spn:=x.f.map dP
def mkN (I F:List Spn):NS:=⟨pG I,lG F⟩
def kV (u:Int):Prop := -maxU≤u∧u≤maxU
instance (u:Int):Decidable (kV u):=by unfold kV;infer_instance
def NS.has (x:NS) (u:Int):Prop:=(u % 10000=0∧mems x.i (u / 10000))∨(u % 10000≠0∧mems x.f (ek u))
def MN (I F:List Spn) (u:Int):Prop:=(u % 10000=0∧mems I (u / 10000))∨(u % 10000≠0∧mems F u)
def ER:NS:=⟨[],[]⟩
theorem qE {l:List Spn} (h:Norm l) {lo hi:Int} (hm:∀x,mems l x→lo≤x∧x≤hi):∀s∈l,lo≤s.1∧s.2≤hi:=fun s hs=>
 ⟨(hm s.1 ⟨s,hs,Int.le_refl _,h.ok s hs⟩).1,(hm s.2 ⟨s,hs,h.ok s hs,Int.le_refl _⟩).2⟩
theorem Gn {l:List Spn} {x:Int}:mems (jL l) x↔(-iF≤x∧x≤iF)∧mems l x:=by
 constructor
 ·rintro ⟨s,hs,h1,h2⟩;obtain⟨hm,-⟩:=List.mem_filter.1 hs;obtain⟨t,ht,rfl⟩:=List.mem_map.1 hm;simp only[jA] at h1 h2;exact⟨zo,t,ht,zo,zo⟩
 ·rintro ⟨hb,t,ht,h1,h2⟩;refine ⟨jA t,List.mem_filter.2 ⟨List.mem_map.2 ⟨t,ht,rfl⟩,?_⟩,?_,?_⟩
  ·exact decide_eq_true (show max t.1 (-iF)≤min t.2 iF by omega)
  ·show max t.1 (-iF)≤x;omega
  ·show x≤min t.2 iF;omega
theorem IJ {s:Spn} {u:Int} (hu:u % 10000≠0):((trimF s).1≤u∧u≤(trimF s).2)↔s.1≤u∧u≤s.2:=by
 have e1:(trimF s).1=if s.1 % 10000=0 then s.1+1 else s.1:=rfl;have e2:(trimF s).2=if s.2 % 10000=0 then s.2 - 1 else s.2:=rfl;rw[e1,e2];by_cases h1:s.1 % 10000=0 <;> by_cases h2:s.2 % 10000=0 <;> simp only[h1,h2,if_true,if_false] <;> omega
theorem Bp {t:Spn} {u:Int} (hu:u % 10000≠0):((fO t).1≤u∧u≤(fO t).2)↔kV u∧t.1≤u∧u≤t.2:=by
 unfold fO;rw[IJ hu];show (max t.1 (-maxU)≤u∧u≤min t.2 maxU)↔_;simp only[kV];omega
theorem Gp {l:List Spn} {u:Int} (hu:u % 10000≠0):mems (iq l) u↔kV u∧mems l u:=by
 constructor
 ·rintro ⟨s,hs,h1,h2⟩;obtain⟨hm,-⟩:=List.mem_filter.1 hs;obtain⟨t,ht,rfl⟩:=List.mem_map.1 hm;obtain⟨h3,h4⟩:=(Bp hu).1 ⟨h1,h2⟩;exact⟨h3,t,ht,h4⟩
 ·rintro ⟨hb,t,ht,h⟩;have h3:=(Bp (t:=t) hu).2 ⟨hb,h⟩;exact⟨fO t,List.mem_filter.2 ⟨List.mem_map.2 ⟨t,ht,rfl⟩,by simp only[decide_eq_true_eq];omega⟩,h3⟩
theorem Jz {l:List Spn} (hl:∀s∈l,s.1 % 10000≠0∧s.2 % 10000≠0) {u:Int} (hu:u % 10000≠0):mems (l.map jr) (ek u)↔mems l u:=by
 constructor
 ·rintro ⟨s,hs,h1,h2⟩;obtain⟨t,ht,rfl⟩:=List.mem_map.1 hs;have:=hl t ht;exact⟨t,ht,(qz this.1 hu).1 h1,(qz hu this.2).1 h2⟩
 ·rintro ⟨t,ht,h1,h2⟩;have:=hl t ht;exact⟨jr t,List.mem_map.2 ⟨t,ht,rfl⟩,(qz this.1 hu).2 h1,(qz hu this.2).2 h2⟩
theorem uk {l:List Spn} {u:Int} (hu:u % 10000≠0):mems (l.map dP) u↔mems l (ek u):=by
 constructor
 ·rintro ⟨s,hs,h1,h2⟩;obtain⟨t,ht,rfl⟩:=List.mem_map.1 hs;rw[← iQ hu] at h1 h2;exact⟨t,ht,iR.1 h1,iR.1 h2⟩
 ·rintro ⟨t,ht,h1,h2⟩;refine ⟨dP t,List.mem_map.2 ⟨t,ht,rfl⟩,?_,?_⟩
  ·rw[← iQ hu];exact iR.2 h1
  ·rw[← iQ hu];exact iR.2 h2
theorem Jy (I F:List Spn) (u:Int):(mkN I F).has u↔kV u∧MN I F u:=by
 simp only[NS.has,mkN,MN];by_cases hu:u % 10000=0
 ·simp only[hu,ne_eq,not_true_eq_false,false_and,or_false,true_and,pG,(dm _).2,Gn];have:(-iF≤u / 10000∧u / 10000≤iF)↔kV u:=by simp only[kV,iF,maxU];omega
  rw[this]
 ·simp only[hu,ne_eq,not_false_eq_true,false_and,false_or,true_and,lG,(dm _).2];rw[Jz mh hu,Gp hu]
theorem NSok.Lp {x:NS} {n:Int}:mems x.i n↔x.has (n*10000):=by
 simp only[NS.has];rw[show n*10000 % 10000=0 by omega,show n*10000 / 10000=n by omega];simp
theorem NSok.Ny {x:NS} {k:Int}:mems x.f k↔x.has (bK k):=by
 simp only[NS.has,Co];have:=nP k;constructor
 ·exact fun h=>.inr ⟨this,h⟩
 ·rintro (⟨h1,-⟩ | ⟨-,h2⟩)
  ·exact absurd h1 this
  ·exact h2
theorem Ov {x y:NS} (hx:NSok x) (hy:NSok y) (h:∀u,x.has u↔y.has u):x=y:=by
 obtain⟨xi,xf⟩:=x;obtain⟨yi,yf⟩:=y;have h1:xi=yi:=iY hx.ni hy.ni fun n=>(NSok.Lp (x:=⟨xi,xf⟩)).trans ((h _).trans (NSok.Lp (x:=⟨yi,yf⟩)).symm);have h2:xf=yf:=iY hx.nf hy.nf fun n=>(NSok.Ny (x:=⟨xi,xf⟩)).trans ((h _).trans (NSok.Ny (x:=⟨yi,yf⟩)).symm);rw[h1,h2]
theorem NSok.of {x:NS} (h1:Norm x.i) (h2:Norm x.f) (hv:∀u,x.has u→kV u):NSok x:=by
 refine ⟨h1,h2,qE h1 fun n hn=>?_,qE h2 fun k hk=>?_⟩
 ·have:=hv _ (NSok.Lp.1 hn);simp only[kV,iF,maxU] at *
  omega
 ·have:=hv _ (NSok.Ny.1 hk);simp only[kV,rA,AB,maxU,bK] at *
  omega
theorem Eu (I F:List Spn):NSok (mkN I F):=.of (dm _).1 (dm _).1 fun u h=>((Jy I F u).1 h).1
theorem Kn:NSok ER:=⟨.nil,.nil,fun s h=>(by cases h),fun s h=>(by cases h)⟩
theorem xe (u:Int):¬ ER.has u:=by
 rintro (⟨-,h⟩ | ⟨-,h⟩) <;> exact iB _ h
theorem Nw:mkN [] []=ER:=by
 refine Ov (Eu _ _) Kn fun u=>?_;rw[Jy];refine ⟨fun h=>?_,fun h=>absurd h (xe u)⟩;rcases h.2 with ⟨-,h⟩ | ⟨-,h⟩ <;> exact absurd h (iB _)
end Cl
namespace Cl
def near (u v:Int):Prop:=max u (-u)<max v (-v)∨(max u (-u)=max v (-v)∧v<u)
instance (u v:Int):Decidable (near u v):=by unfold near;infer_instance
theorem CU (u:Int):¬ near u u:=by unfold near;omega
theorem l8 {a b c:Int} (h:near a b) (k:near b c):near a c:=by unfold near at *;omega
theorem wP {a b:Int} (h:a≠b):near a b∨near b a:=by unfold near;omega
structure lS (p:Int→Prop) (r:Option Int):Prop where
 no:r=none→∀u,¬ p u
 one:∀u,r=some u→p u∧∀v,p v→v=u∨near u v
theorem lS.congr {p q:Int→Prop} {r:Option Int} (h:lS p r) (e:∀u,p u↔q u):lS q r:=
 ⟨fun hr u hu=>h.no hr u ((e u).2 hu),fun u hr=>⟨(e u).1 (h.one u hr).1,fun v hv=>(h.one u hr).2 v ((e v).2 hv)⟩⟩
def dR:List Int→Option Int→Option Int
 | [],b=>b
 | u::l,none=>dR l (some u)
 | u::l,some b=>dR l (some (if near u b then u else b))
theorem ow:∀(l:List Int) (b:Option Int),lS (fun u=>u∈l∨b=some u) (dR l b)
 | [],none=>⟨fun _ u hu=>(by simp at hu),fun u hr=>(by cases hr)⟩
 | [],some b=>⟨fun h=>(by cases h),fun u hr=>⟨.inr hr,fun v hv=>by
  rcases hv with hv | hv
  ·cases hv
  ·rw[show dR [] (some b)=some b from rfl] at hr;rw[hr] at hv;cases hv;exact .inl rfl⟩⟩
 | u::l,none=>by
  refine (ow l (some u)).congr fun v=>?_;simp only[List.mem_cons,Option.some.injEq,reduceCtorEq,or_false];constructor
  ·rintro (h | h)
   ·exact .inr h
   ·exact .inl h.symm
  ·rintro (h | h)
   ·exact .inr h.symm
   ·exact .inl h
 | u::l,some b=>by
  have ih:=ow l (some (if near u b then u else b));refine ⟨fun hr v hv=>?_,fun v hr=>?_⟩
  ·exact ih.no hr (if near u b then u else b) (.inr rfl)
  ·obtain⟨h1,h2⟩:=ih.one v hr;refine ⟨?_,fun x hx=>?_⟩
   ·rcases h1 with h1 | h1
    ·exact .inl (List.mem_cons_of_mem _ h1)
    ·simp only[Option.some.injEq] at h1;by_cases hn:near u b
     ·rw[if_pos hn] at h1;exact .inl (by rw[h1];exact List.mem_cons_self ..)
     ·rw[if_neg hn] at h1;exact .inr (by rw[h1])
   ·
    have h3:=h2 (if near u b then u else b) (.inr rfl);rcases hx with hx | hx
    ·rcases List.mem_cons.1 hx with hx | hx
     ·subst hx;by_cases hn:near x b
      ·rw[if_pos hn] at h3;exact h3
      ·rw[if_neg hn] at h3;by_cases he:x=b
       ·rw[he];exact h3
       ·rcases wP he with h4 | h4
        ·exact absurd h4 hn
        ·rcases h3 with h3 | h3
         ·rw[← h3];exact .inr h4
         ·exact .inr (l8 h3 h4)
     ·exact h2 x (.inl hx)
    ·simp only[Option.some.injEq] at hx;subst hx;by_cases hn:near u b
     ·rw[if_pos hn] at h3;rcases h3 with h3 | h3
      ·rw[← h3];exact .inr hn
      ·exact .inr (l8 h3 hn)
     ·rw[if_neg hn] at h3;exact h3
theorem lS.Nu {p:Int→Prop} {l:List Int} (h1:∀u∈l,p u) (h2:∀v,p v→∃u∈l,v=u∨near u v):lS p (dR l none):=by
 have h:=ow l none;refine ⟨fun hr v hv=>?_,fun u hr=>?_⟩
 ·obtain⟨u,hu,-⟩:=h2 v hv;exact h.no hr u (.inl hu)
 ·obtain⟨h3,h4⟩:=h.one u hr;refine ⟨h1 u (by simpa using h3),fun v hv=>?_⟩;obtain⟨x,hx,hxv⟩:=h2 v hv;rcases h4 x (.inl hx) with h5 | h5
  ·subst h5;exact hxv
  ·rcases hxv with h6 | h6
   ·subst h6;exact .inr h5
   ·exact .inr (l8 h5 h6)
def bM (s:Spn) (mid:Int):Int:=if s.1 > 0 then s.1 else if s.2<0 then s.2 else mid
def OH (x:NS):List Int:=x.i.map (fun s=>bM s 0*10000) ++ x.rf.map (fun s=>bM s 1)
def kL (x:NS):Option Int:=dR (OH x) none
theorem MQ {x:NS} {s:Spn} (hs:s∈x.rf):∃t∈x.f,s=dP t:=by
 obtain⟨t,ht,rfl⟩:=List.mem_map.1 hs;exact⟨t,ht,rfl⟩
theorem Jg {x:NS} {s:Spn} (hs:s∈x.rf) {u:Int} (hu:u % 10000≠0) (h1:s.1≤u) (h2:u≤s.2):x.has u:=
 .inr ⟨hu,(uk hu).1 ⟨s,hs,h1,h2⟩⟩
theorem Np {x:NS} (h:NSok x) {s:Spn} (hs:s∈x.rf):s.1≤s.2∧s.1 % 10000≠0∧s.2 % 10000≠0:=by
 obtain⟨t,ht,rfl⟩:=MQ hs;exact⟨iR.2 (h.nf.ok t ht),nP _,nP _⟩
theorem NG {x:NS} {s:Spn} (hs:s∈x.i) {n:Int} (h1:s.1≤n) (h2:n≤s.2):x.has (n*10000):=NSok.Lp.1 ⟨s,hs,h1,h2⟩
theorem J3 {x:NS} {u:Int} (h:x.has u):(∃s∈x.i,∃n,u=n*10000∧s.1≤n∧n≤s.2)∨(∃s∈x.rf,u % 10000≠0∧s.1≤u∧u≤s.2):=by
 rcases h with ⟨h1,s,hs,h2,h3⟩ | ⟨h1,h2⟩
 ·exact .inl ⟨s,hs,u / 10000,zo,h2,h3⟩
 ·obtain⟨s,hs,h3,h4⟩:=(uk h1).2 h2;exact .inr ⟨s,hs,h1,h3,h4⟩
theorem Av {x:NS} (h:NSok x):lS x.has (kL x):=by
 refine lS.Nu (fun u hu=>?_) fun v hv=>?_
 ·rcases List.mem_append.1 hu with hu | hu
  ·obtain⟨s,hs,rfl⟩:=List.mem_map.1 hu;have:=h.ni.ok s hs;unfold bM
   split
   ·exact NG hs (Int.le_refl _) this
   ·split
    ·exact NG hs this (Int.le_refl _)
    ·exact NG hs zo zo
  ·obtain⟨s,hs,rfl⟩:=List.mem_map.1 hu;obtain⟨e1,e2,e3⟩:=Np h hs;show x.has (bM s 1);unfold bM
   split
   ·exact Jg hs e2 (Int.le_refl _) e1
   ·split
    ·exact Jg hs e3 e1 (Int.le_refl _)
    ·exact Jg hs zD zo zo
 ·rcases J3 hv with ⟨s,hs,n,rfl,h1,h2⟩ | ⟨s,hs,h0,h1,h2⟩
  ·refine ⟨bM s 0*10000,List.mem_append_left _ (List.mem_map.2 ⟨s,hs,rfl⟩),?_⟩;unfold bM near
   split
   ·omega
   ·split
    ·omega
    ·omega
  ·refine ⟨bM s 1,List.mem_append_right _ (List.mem_map.2 ⟨s,hs,rfl⟩),?_⟩;unfold bM near
   split
   ·omega
   ·split
    ·omega
    ·have:v≠0:=fun e=>h0 (by rw[e];rfl);omega
end Cl
namespace Cl
theorem kS {n n':Nat} (h:n≤n') {es:List Ed}:∀{p:Int},aV n p es→aV n' p es:=by
 induction es with
 | nil=>intro p _;trivial
 | cons e es ih=>intro p ⟨h1,h2,h3,h4,h5⟩;exact⟨h1,h2,zo,h4,ih h5⟩
theorem sI {n:Nat} {es:List Ed} {p q:Int} (h:aV n p es) (hq:q≤p):aV n q es:=by
 cases es with
 | nil=>trivial
 | cons e es=>obtain⟨h1,h2,h3,h4,h5⟩:=h;exact⟨h1,h2,h3,zo,h5⟩
theorem nL {n:Nat} {es fs:List Ed}:∀{p q:Int},aV n p es→(∀e∈es,(e.hi:Int)≤q)→p≤q→aV n q fs→aV n p (es ++ fs):=by
 induction es with
 | nil=>intro p q _ _ hpq hf;exact sI hf hpq
 | cons e es ih=>
  intro p q ⟨h1,h2,h3,h4,h5⟩ hq _ hf;exact⟨h1,h2,h3,h4,ih h5 (fun x hx=>hq x (by simp[hx])) (hq e zS) hf⟩
theorem xA {n:Nat} {es fs:List Ed}:∀{p:Int},aV n p (es ++ fs)→aV n p es:=by
 induction es with
 | nil=>intro p _;trivial
 | cons e es ih=>intro p ⟨h1,h2,h3,h4,h5⟩;exact⟨h1,h2,h3,h4,ih h5⟩
theorem jN (es fs:List Ed) (b:Nat) (h:∀e∈es,¬ (e.lo≤b∧b≤e.hi)):aS (es ++ fs) b=aS fs b:=by
 induction es with
 | nil=>rfl
 | cons e es ih=>
  simp only[List.cons_append,aS];rw[if_neg (h e zS)];exact ih fun x hx=>h x (by simp[hx])
theorem iC (es fs:List Ed) (b:Nat) (h:∃e∈es,e.lo≤b∧b≤e.hi):aS (es ++ fs) b=aS es b:=by
 induction es with
 | nil=>obtain⟨e,h,_⟩:=h;simp at h
 | cons e es ih=>
  simp only[List.cons_append,aS]
  split
  ·rfl
  ·rename_i hn;obtain⟨x,hx,h1⟩:=h;rcases List.mem_cons.1 hx with rfl | hx
   ·exact absurd h1 hn
   ·exact ih ⟨x,hx,h1⟩
theorem mE (es:List Ed) (b:Nat) (h:∀e∈es,¬ (e.lo≤b∧b≤e.hi)):aS es b = -1:=by
 have:=jN es [] b h;simpa [aS] using this
theorem eO {n:Nat} {es:List Ed}:∀{p:Int},aV n p es→∀e∈es,p<e.lo∧e.lo≤e.hi∧0≤e.to∧e.to<n:=by
 induction es with
 | nil=>intro p _ e he;simp at he
 | cons x es ih=>
  intro p ⟨h1,h2,h3,h4,h5⟩ e he;rcases List.mem_cons.1 he with rfl | he
  ·exact⟨h4,h1,h2,h3⟩
  ·have:=ih h5 e he;exact⟨zo,this.2⟩
theorem yY {n:Nat} {es:List Ed} {x:Ed}:∀{p:Int},aV n p (es ++ [x])→∀e∈es,e.hi<x.lo:=by
 induction es with
 | nil=>intro p _ e he;simp at he
 | cons y es ih=>
  intro p ⟨h1,h2,h3,h4,h5⟩ e he;rcases List.mem_cons.1 he with rfl | he
  ·have:=(eO h5 x zS).1;omega
  ·exact ih h5 e he
theorem Gm {es:List Ed} {x:Ed} (h:Merged es) (hx:∀y,es.getLast?=some y→¬ (y.to=x.to∧y.hi+1=x.lo)):Merged (es ++ [x]):=by
 induction es with
 | nil=>trivial
 | cons e es ih=>
  cases es with
  | nil=>exact⟨hx e rfl,trivial⟩
  | cons f es=>exact⟨h.1,ih h.2 (fun y hy=>hx y (by simpa using hy))⟩
theorem Ak {es:List Ed} {x:Ed} {hi:Nat} (h:Merged (es ++ [x])):Merged (es ++ [⟨x.lo,hi,x.to⟩]):=by
 induction es with
 | nil=>trivial
 | cons e es ih=>
  cases es with
  | nil=>exact⟨h.1,trivial⟩
  | cons f es=>exact⟨h.1,ih h.2⟩
def gY (es:List Ed) (lo hi:Nat) (to:Nat):List Ed:=match es.getLast? with
 | some e=>if e.to=to∧e.hi+1=lo then es.dropLast ++ [⟨e.lo,hi,to⟩] else es ++ [⟨lo,hi,to⟩]
 | none=>es ++ [⟨lo,hi,to⟩]
theorem Cy {n:Nat} {es:List Ed} {lo hi to:Nat} (hw:aV n (-1) es) (hlt:∀e∈es,e.hi<lo) (hlh:lo≤hi) (h256:hi<256) (hto:to<n) (hb:dZ es) (hm:Merged es) :
 aV n (-1) (gY es lo hi to)∧(∀e∈gY es lo hi to,e.hi≤hi)∧dZ (gY es lo hi to)∧Merged (gY es lo hi to) ∧
  ∀b,aS (gY es lo hi to) b=if lo≤b∧b≤hi then (to:Int) else aS es b:=by
 have plain:(∀y,es.getLast?=some y→¬ (y.to=(to:Int)∧y.hi+1=lo))→aV n (-1) (es ++ [⟨lo,hi,to⟩])∧(∀e∈es ++ [⟨lo,hi,to⟩],e.hi≤hi)∧dZ (es ++ [⟨lo,hi,to⟩])∧Merged (es ++ [⟨lo,hi,to⟩]) ∧
  ∀b,aS (es ++ [⟨lo,hi,to⟩]) b=if lo≤b∧b≤hi then (to:Int) else aS es b:=by
  intro hl;refine ⟨nL (q:=(lo:Int) - 1) hw (fun e he=>by have:=hlt e he;omega) zo ⟨hlh,zS,by simpa using hto,by show (lo:Int) - 1<(lo:Int);omega,trivial⟩,?_,?_,Gm hm hl,?_⟩
  ·intro e he;rcases List.mem_append.1 he with h | h
   ·have:=hlt e h;omega
   ·simp only[List.mem_singleton] at h;subst h;exact Nat.le_refl _
  ·intro e he;rcases List.mem_append.1 he with h | h
   ·exact hb e h
   ·simp only[List.mem_singleton] at h;subst h;exact⟨by simp;omega,by simpa using h256⟩
  ·intro b;by_cases c:lo≤b∧b≤hi
   ·rw[if_pos c,jN _ _ _ (fun e he=>by have:=hlt e he;omega)];simp[aS,c]
   ·rw[if_neg c];by_cases d:∃e∈es,e.lo≤b∧b≤e.hi
    ·exact iC _ _ _ d
    ·have d':∀e∈es,¬ (e.lo≤b∧b≤e.hi):=fun e he h=>d ⟨e,he,h⟩;rw[jN _ _ _ d',mE _ _ d'];simp[aS,c]
 unfold gY
 split
 ·rename_i e he
  split
  ·rename_i hc;obtain⟨hc1,hc2⟩:=hc;obtain⟨fs,rfl⟩:∃fs,es=fs ++ [e]:=List.getLast?_eq_some_iff.1 he;rw[List.dropLast_concat];have hfl:=yY hw;have hel:=(eO hw e zS);have hle:=hlt e zS;refine ⟨nL (q:=(e.lo:Int) - 1) (xA hw) (fun x hx=>by have:=hfl x hx;omega) zo ⟨by show e.lo≤hi;omega,zS,by simpa using hto,by show (e.lo:Int) - 1<(e.lo:Int);omega,trivial⟩,?_,?_,?_,?_⟩
   ·intro x hx;rcases List.mem_append.1 hx with h | h
    ·have:=hfl x h;omega
    ·simp only[List.mem_singleton] at h;subst h;exact Nat.le_refl _
   ·intro x hx;rcases List.mem_append.1 hx with h | h
    ·exact hb x (by simp[h])
    ·simp only[List.mem_singleton] at h;subst h;exact⟨by simp;omega,by simpa using h256⟩
   ·have:=Ak (hi:=hi) hm
    rwa [hc1] at this
   ·intro b;by_cases d:∃x∈fs,x.lo≤b∧b≤x.hi
    ·obtain⟨x,hx,h1,h2⟩:=d;have:=hfl x hx;rw[iC _ _ _ ⟨x,hx,h1,h2⟩,iC _ _ _ ⟨x,hx,h1,h2⟩,if_neg zo]
    ·have d':∀x∈fs,¬ (x.lo≤b∧b≤x.hi):=fun x hx h=>d ⟨x,hx,h⟩;rw[jN _ _ _ d',jN _ _ _ d'];simp only[aS];by_cases c:lo≤b∧b≤hi
     ·rw[if_pos c,if_pos zo]
     ·rw[if_neg c];by_cases c2:e.lo≤b∧b≤e.hi
      ·rw[if_pos zo,if_pos c2,hc1]
      ·rw[if_neg zo,if_neg c2]
  ·rename_i hc;exact plain fun y hy=>by rw[he] at hy;cases hy;exact hc
 ·rename_i he;exact plain fun y hy=>by rw[he] at hy;cases hy
def df (cf:Nat→Int) (o:List Nat) (t:Nat):Nat:=o.findIdx fun s=>cf s==cf t
def bS (cf:Nat→Int) (o:List Nat) (t:Nat):List Nat:=if df cf o t<o.length then o else o ++ [t]
def Dif (cf:Nat→Int) (o:List Nat):Prop:=o.Pairwise fun a b=>cf a≠cf b
theorem l6 (cf:Nat→Int) (o:List Nat) (t:Nat):df cf o t≤o.length:=List.findIdx_le_length
theorem lu {cf:Nat→Int} {o:List Nat} {t:Nat} (h:df cf o t<o.length):cf (o[df cf o t])=cf t:=by
 have:=List.findIdx_getElem (p:=fun s=>cf s==cf t) (w:=h);exact eq_of_beq this
theorem vD {cf:Nat→Int} {o x:List Nat} {t:Nat} (h:df cf o t<o.length):df cf (o ++ x) t=df cf o t:=by
 unfold df at *
 rw[List.findIdx_append,if_pos h]
theorem Jn {cf:Nat→Int} {o:List Nat} {t:Nat} (h:¬ df cf o t<o.length):df cf (o ++ [t]) t=o.length:=by
 unfold df at *
 rw[List.findIdx_append,if_neg h];simp[List.findIdx_cons]
theorem F9 {cf:Nat→Int} {o:List Nat} {t:Nat} (h:¬ df cf o t<o.length):∀s∈o,cf s≠cf t:=by
 intro s hs e;exact h (List.findIdx_lt_length.2 ⟨s,hs,by simpa using e⟩)
theorem Ku {cf:Nat→Int} {o:List Nat} (t:Nat) (h:Dif cf o):Dif cf (bS cf o t):=by
 unfold bS
 split
 ·exact h
 ·rename_i hn;exact List.pairwise_append.2 ⟨h,zS,fun a ha b hb=>by
   simp only[List.mem_singleton] at hb;subst hb;exact F9 hn a ha⟩
theorem NK {cf:Nat→Int} {o:List Nat} (h:Dif cf o) {i j:Nat} (hi:i<o.length) (hj:j<o.length) (e:cf o[i]=cf o[j]):i=j:=by
 have:=List.pairwise_iff_getElem.1 h;rcases Nat.lt_trichotomy i j with c | c | c
 ·exact absurd e (this i j hi hj c)
 ·exact c
 ·exact absurd e.symm (this j i hj hi c)
theorem wG (cf:Nat→Int) (o:List Nat) (t:Nat):o <+: bS cf o t:=by
 unfold bS
 split
 ·exact List.prefix_rfl
 ·exact List.prefix_append _ _
theorem l7 (cf:Nat→Int) (o:List Nat) (t:Nat):df cf (bS cf o t) t=df cf o t∧df cf o t<(bS cf o t).length:=by
 unfold bS
 split
 ·rename_i h;exact⟨rfl,h⟩
 ·rename_i h;have:=l6 cf o t;exact⟨by rw[Jn h];omega,by simp;omega⟩
theorem Cz {cf:Nat→Int} {o o':List Nat} (h:o <+: o') {t:Nat} (ht:df cf o t<o.length):df cf o' t=df cf o t:=by
 obtain⟨x,rfl⟩:=h;exact vD ht
theorem tZ {o o':List Nat} (h:o <+: o') {i:Nat} (hi:i<o.length):o'[i]'(Nat.lt_of_lt_of_le hi h.length_le)=o[i]:=by
 obtain⟨x,rfl⟩:=h;exact List.getElem_append_left hi
theorem wH {cf:Nat→Int} {o:List Nat} {t:Nat}:∀x∈bS cf o t,x∈o∨x=t:=by
 intro x hx;unfold bS at hx
 split at hx
 ·exact .inl hx
 ·simpa using hx
theorem wI {cf:Nat→Int} {o:List Nat} {t:Nat}:(bS cf o t).length=o.length∨(bS cf o t).length=o.length+1∧df cf o t=o.length:=by
 unfold bS
 split
 ·exact .inl rfl
 ·rename_i h;have:=l6 cf o t;exact .inr ⟨zS,zo⟩
section
variable (cf:Nat→Int) (dl:Nat→Nat→Option Nat) (lo hi:Nat→Nat) (ac:Nat→Bool) (K:Nat)
def bI (s:Nat) (o:List Nat):Nat→List Nat × List Ed
 | 0=>(o,[])
 | i+1=>match dl s i with
  | none=>bI s o i
  | some t=>(bS cf (bI s o i).1 t,gY (bI s o i).2 (lo i) (hi i) (df cf (bI s o i).1 t))
def cO:Nat→List Nat × Table
 | 0=>([0],[])
 | k+1=>((bI cf dl lo hi ((cO k).1.getD k 0) (cO k).1 K).1,(cO k).2 ++ [⟨ac ((cO k).1.getD k 0),(bI cf dl lo hi ((cO k).1.getD k 0) (cO k).1 K).2⟩])
structure Ivs:Prop where
 le:∀i,i<K→lo i≤hi i∧hi i<256
 sep:∀i j,i<j→j<K→hi i<lo j
 cover:∀b,b<256→∃i,i<K∧lo i≤b∧b≤hi i
def tgt (o:List Nat):Option Nat→Int
 | none => -1
 | some t=>df cf o t
structure Fa (N s:Nat) (o:List Nat) (i:Nat) (r:List Nat × List Ed):Prop where
 pre:o <+: r.1
 dif:Dif cf r.1
 lt:∀x∈r.1,x<N
 wf:aV r.1.length (-1) r.2
 low:∀e∈r.2,∀j,i≤j→j<K→e.hi<lo j
 bytes:dZ r.2
 merged:Merged r.2
 step:∀j,j<i→∀b,lo j≤b→b≤hi j→aS r.2 b=tgt cf r.1 (dl s j)
 there:∀j,j<i→∀t,dl s j=some t→df cf r.1 t<r.1.length
 new:∀p,o.length≤p→p<r.1.length→∃j,j<i∧∃t,dl s j=some t∧df cf r.1 t=p
 seen:∀j,j<i→∀t,dl s j=some t→∀p,o.length≤p→p<df cf r.1 t→∃j',j'<j∧∃t',dl s j'=some t'∧df cf r.1 t'=p
variable {cf dl lo hi ac K}
theorem Ck {N s:Nat} {o:List Nat} (hI:Ivs lo hi K) (hd:Dif cf o) (hlt:∀x∈o,x<N) (hdl:∀i t,i<K→dl s i=some t→t<N) :
 ∀i,i≤K→Fa cf dl lo hi K N s o i (bI cf dl lo hi s o i):=by
 intro i
 induction i with
 | zero=>
  intro _
  exact⟨List.prefix_rfl,hd,hlt,trivial,fun e he=>by simp[bI] at he,fun e he=>by simp[bI] at he,trivial,fun j hj=>zo,fun j hj=>zo,fun p h1 h2=>by simp[bI] at h2;omega,fun j hj=>zo⟩
 | succ i ih=>
  intro hi';have ih:=ih zo;have hle:=hI.le i zo
  cases hc:dl s i with
  | none=>
   have e:bI cf dl lo hi s o (i+1)=bI cf dl lo hi s o i:=by simp[bI,hc]
   rw[e];generalize bI cf dl lo hi s o i=r at *
   refine ⟨ih.pre,ih.dif,ih.lt,ih.wf,fun e he j hj=>ih.low e he j zo,ih.bytes,ih.merged,?_,?_,?_,?_⟩
   ·intro j hj b h1 h2;by_cases c:j=i
    ·subst c;rw[hc];show _=(-1:Int);apply mE;intro e he;have:=ih.low e he j (Nat.le_refl _) zo;omega
    ·exact ih.step j zo b h1 h2
   ·intro j hj t ht;by_cases c:j=i
    ·subst c;rw[hc] at ht;cases ht
    ·exact ih.there j zo t ht
   ·intro p h1 h2;obtain⟨j,hj,h⟩:=ih.new p h1 h2;exact⟨j,zo,h⟩
   ·intro j hj t ht;by_cases c:j=i
    ·subst c;rw[hc] at ht;cases ht
    ·exact ih.seen j zo t ht
  | some t=>
   have e:bI cf dl lo hi s o (i+1)=(bS cf (bI cf dl lo hi s o i).1 t,gY (bI cf dl lo hi s o i).2 (lo i) (hi i) (df cf (bI cf dl lo hi s o i).1 t)):=by simp[bI,hc]
   rw[e];generalize bI cf dl lo hi s o i=r at *
   have hpre:=wG cf r.1 t;have hpos:=l7 cf r.1 t;have hlen:=hpre.length_le;obtain⟨p1,p2,p3,p4,p5⟩:=Cy (to:=df cf r.1 t) (kS hlen ih.wf) (fun e he=>ih.low e he i (Nat.le_refl _) zo) hle.1 hle.2 hpos.2 ih.bytes ih.merged;have hsame:∀j,j<i→∀u,dl s j=some u→df cf (bS cf r.1 t) u=df cf r.1 u:=fun j hj u hu=>Cz hpre (ih.there j hj u hu);refine ⟨ih.pre.trans hpre,Ku t ih.dif,?_,p1,?_,p3,p4,?_,?_,?_,?_⟩
   ·intro x hx;rcases wH x hx with h | h
    ·exact ih.lt x h
    ·subst h;exact hdl i _ zo hc
   ·intro e he j hj hjK;have h1:=p2 e he;have h2:=hI.sep i j zo hjK;omega
   ·intro j hj b h1 h2;show aS (gY r.2 (lo i) (hi i) (df cf r.1 t)) b=tgt cf (bS cf r.1 t) (dl s j);rw[p5];by_cases c:j=i
    ·subst c;rw[if_pos ⟨h1,h2⟩,hc];show _=((df cf (bS cf r.1 t) t:Nat):Int);rw[hpos.1]
    ·have:=hI.sep j i zo zo;rw[if_neg zo,ih.step j zo b h1 h2]
     cases hu:dl s j with
     | none=>rfl
     | some u=>simp only[tgt];rw[hsame j zo u hu]
   ·intro j hj u hu;by_cases c:j=i
    ·subst c;rw[hc] at hu;cases hu;show df cf (bS cf r.1 t) t<(bS cf r.1 t).length;rw[hpos.1];exact hpos.2
    ·have:=ih.there j zo u hu;show df cf (bS cf r.1 t) u<(bS cf r.1 t).length;rw[hsame j zo u hu];omega
   ·intro p h1 h2;have h2:p<(bS cf r.1 t).length:=h2;by_cases c:p<r.1.length
    ·obtain⟨j,hj,u,hu,he⟩:=ih.new p h1 c;exact⟨j,zo,u,hu,by rw[← he];exact hsame j hj u hu⟩
    ·rcases wI (cf:=cf) (o:=r.1) (t:=t) with h | ⟨h,h'⟩
     ·omega
     ·exact⟨i,zo,t,hc,by show df cf (bS cf r.1 t) t=p;rw[hpos.1];omega⟩
   ·intro j hj u hu p h1 h2;have h2:p<df cf (bS cf r.1 t) u:=h2;by_cases c:j=i
    ·subst c;rw[hc] at hu;cases hu;rw[hpos.1] at h2;have:=l6 cf r.1 t;obtain⟨j',hj',u,hu,he⟩:=ih.new p h1 zo;exact⟨j',hj',u,hu,by rw[← he];exact hsame j' hj' u hu⟩
    ·rw[hsame j zo u hu] at h2;obtain⟨j',hj',u',hu',he⟩:=ih.seen j zo u hu p h1 h2;exact⟨j',hj',u',hu',by rw[← he];exact hsame j' zo u' hu'⟩
structure OO (cf:Nat→Int) (dl:Nat→Nat→Option Nat) (lo hi:Nat→Nat) (ac:Nat→Bool) (K N k:Nat) (r:List Nat × Table):Prop where
 first:r.1[0]?=some 0
 dif:Dif cf r.1
 lt:∀x∈r.1,x<N
 len:r.2.length=k
 state:∀j,(h:j<r.2.length)→∃h':j<r.1.length,(r.2[j]).accept=ac r.1[j]∧aV r.1.length (-1) (r.2[j]).edges∧dZ (r.2[j]).edges∧Merged (r.2[j]).edges ∧
  ∀i,i<K→(∀b,lo i≤b→b≤hi i→aS (r.2[j]).edges b=tgt cf r.1 (dl r.1[j] i))∧∀t,dl r.1[j] i=some t→df cf r.1 t<r.1.length
 reach:∀p,0<p→p<r.1.length→∃j,j<k∧j<p∧∃i,i<K∧∃t,dl (r.1.getD j 0) i=some t∧df cf r.1 t=p
 seen:∀j,j<k→∀i,i<K→∀t,dl (r.1.getD j 0) i=some t→∀p,0<p→p<df cf r.1 t →
  ∃j' i',(j'<j∨j'=j∧i'<i)∧i'<K∧∃t',dl (r.1.getD j' 0) i'=some t'∧df cf r.1 t'=p
theorem kg {o o':List Nat} (h:o <+: o') {i:Nat} (hi:i<o.length):o'.getD i 0=o.getD i 0:=by
 have h':=Nat.lt_of_lt_of_le hi h.length_le;simp[hi,h',tZ h hi]
theorem DJ {N:Nat} (hI:Ivs lo hi K) (h0:0<N) (hdl:∀s i t,s<N→i<K→dl s i=some t→t<N) :
 ∀k,(∀j,j<k→j<(cO cf dl lo hi ac K j).1.length)→OO cf dl lo hi ac K N k (cO cf dl lo hi ac K k):=by
 intro k
 induction k with
 | zero=>
  intro _
  exact⟨rfl,by simp[cO,Dif],fun x hx=>by simp[cO] at hx;omega,rfl,fun j h=>by simp[cO] at h,fun p h1 h2=>by simp[cO] at h2;omega,fun j hj=>zo⟩
 | succ k ih=>
  intro hk;have ih:=ih fun j hj=>hk j zo;have hkl:=hk k zo;have e1:(cO cf dl lo hi ac K (k+1)).1=(bI cf dl lo hi ((cO cf dl lo hi ac K k).1.getD k 0) (cO cf dl lo hi ac K k).1 K).1:=rfl;have e2:(cO cf dl lo hi ac K (k+1)).2=(cO cf dl lo hi ac K k).2 ++ [⟨ac ((cO cf dl lo hi ac K k).1.getD k 0),(bI cf dl lo hi ((cO cf dl lo hi ac K k).1.getD k 0) (cO cf dl lo hi ac K k).1 K).2⟩]:=rfl;generalize hr':cO cf dl lo hi ac K (k+1)=r' at *
  generalize cO cf dl lo hi ac K k=r at *
  have hs:r.1.getD k 0<N:=ih.lt _ (by simp[hkl]);have R:=Ck (cf:=cf) (s:=r.1.getD k 0) hI ih.dif ih.lt (fun i t hi ht=>hdl _ i t hs hi ht) K (Nat.le_refl _);obtain⟨q1,q2⟩:=r';simp only at e1 e2;generalize hq:bI cf dl lo hi (r.1.getD k 0) r.1 K=q at *
  obtain⟨qo,qe⟩:=q;subst e1;subst e2;have hpre:=R.pre;have hlen:=hpre.length_le;simp only at R hpre hlen;have same:∀j,j<k→∀i,i<K→∀t,dl (r.1.getD j 0) i=some t→df cf q1 t=df cf r.1 t∧df cf r.1 t<r.1.length:=by
   intro j hj i hi' t ht;obtain⟨h',-,-,-,-,h6⟩:=ih.state j (by rw[ih.len];exact hj);have h7:=(h6 i hi').2 t (by simpa [h'] using ht);exact⟨Cz hpre h7,h7⟩
  refine ⟨?_,R.dif,R.lt,by simp[ih.len],?_,?_,?_⟩
  ·obtain⟨x,hx⟩:=hpre;show q1[0]?=some 0;rw[← hx,List.getElem?_append_left zo];exact ih.first
  ·intro j hj;by_cases c:j<k
   ·obtain⟨h',h1,h2,h3,h4,h5⟩:=ih.state j (by rw[ih.len];exact c);have eg:(r.2 ++ [⟨ac (r.1.getD k 0),qe⟩])[j]'hj=r.2[j]'(by rw[ih.len];exact c):=List.getElem_append_left (by rw[ih.len];exact c);have eo:=tZ hpre h';refine ⟨by show j<q1.length;omega,?_⟩;show ((r.2 ++ [⟨ac (r.1.getD k 0),qe⟩])[j]'hj).accept=_∧_;simp only[eg,eo];refine ⟨h1,kS hlen h2,h3,h4,fun i hi'=>⟨fun b b1 b2=>?_,fun t ht=>?_⟩⟩
    ·rw[(h5 i hi').1 b b1 b2]
     cases hu:dl r.1[j] i with
     | none=>rfl
     | some u=>simp only[tgt];rw[(same j c i hi' u (by simpa [h'] using hu)).1]
    ·have:=same j c i hi' t (by simpa [h'] using ht);omega
   ·have:j=k:=by simp[ih.len] at hj;omega
    subst this;have eg:(r.2 ++ [⟨ac (r.1.getD j 0),qe⟩])[j]'hj=⟨ac (r.1.getD j 0),qe⟩:=by
     rw[List.getElem_append_right (by rw[ih.len];omega)];simp[ih.len]
    have eo:=tZ hpre hkl;have ed:r.1.getD j 0=r.1[j]:=by simp[hkl]
    refine ⟨by show j<q1.length;omega,?_⟩;show ((r.2 ++ [⟨ac (r.1.getD j 0),qe⟩])[j]'hj).accept=_∧_;simp only[eg,eo];rw[ed] at R ⊢;exact⟨rfl,R.wf,R.bytes,R.merged,fun i hi'=>⟨R.step i hi',R.there i hi'⟩⟩
  ·intro p h1 h2;have h2:p<q1.length:=h2;by_cases c:p<r.1.length
   ·obtain⟨j,hj,hjp,i,hi',t,ht,he⟩:=ih.reach p h1 c;refine ⟨j,zo,hjp,i,hi',t,?_,?_⟩
    ·rw[kg hpre zo];exact ht
    ·rw[← he];exact (same j hj i hi' t ht).1
   ·obtain⟨i,hi',t,ht,he⟩:=R.new p zo h2;refine ⟨k,zo,zo,i,hi',t,?_,he⟩;rw[kg hpre hkl];exact ht
  ·intro j hj i hi' t ht p h1 h2;have h2:p<df cf q1 t:=h2;have ht:dl (q1.getD j 0) i=some t:=ht;by_cases c:j<k
   ·rw[kg hpre zo] at ht;rw[(same j c i hi' t ht).1] at h2;obtain⟨j',i',hlt',hi'',t',ht',he⟩:=ih.seen j c i hi' t ht p h1 h2;refine ⟨j',i',hlt',hi'',t',?_,?_⟩
    ·rw[kg hpre zo];exact ht'
    ·rw[← he];exact (same j' zo i' hi'' t' ht').1
   ·have:j=k:=zo;subst this;rw[kg hpre hkl] at ht;by_cases d:p<r.1.length
    ·obtain⟨j',hj',hjp,i',hi'',t',ht',he⟩:=ih.reach p h1 d;refine ⟨j',i',.inl hj',hi'',t',?_,?_⟩
     ·rw[kg hpre zo];exact ht'
     ·rw[← he];exact (same j' hj' i' hi'' t' ht').1
    ·obtain⟨i',hi'',t',ht',he⟩:=R.seen i hi' t ht p zo h2;refine ⟨j,i',.inr ⟨rfl,hi''⟩,zo,t',?_,he⟩;rw[kg hpre hkl];exact ht'
end
structure nD (T:Table) (N:Nat) (cf:Nat→Int) (dl:Nat→Nat→Option Nat) (lo hi:Nat→Nat) (ac:Nat→Bool) (K:Nat):Prop where
 iv:Ivs lo hi K
 pos:0<N
 some:∀s i t,s<N→i<K→dl s i=some t→t<N∧(∃w,aF T t w=true)∧∀b,lo i≤b→b≤hi i→∀w,aF T (aW T s b) w=aF T t w
 none:∀s i,s<N→i<K→dl s i=none→∀b,lo i≤b→b≤hi i→∀w,aF T (aW T s b) w=false
 cls:∀s t,s<N→t<N→(cf s=cf t↔∀w,aF T s w=aF T t w)
 acc:∀s,s<N→ac s=dS T s
 live:∃w,aF T 0 w=true
theorem Bz {T:Table} {N:Nat} {cf:Nat→Int} {dl:Nat→Nat→Option Nat} {lo hi:Nat→Nat} {ac:Nat→Bool} {K k:Nat} (H:nD T N cf dl lo hi ac K)
 (hk:∀j,j<k→j<(cO cf dl lo hi ac K j).1.length) (hend:(cO cf dl lo hi ac K k).1.length=k) :
 Canon (cO cf dl lo hi ac K k).2∧∀w,aF (cO cf dl lo hi ac K k).2 0 w=aF T 0 w:=by
 have B:=DJ (cf:=cf) (ac:=ac) H.iv H.pos (fun s i t h1 h2 h3=>(H.some s i t h1 h2 h3).1) k hk;generalize cO cf dl lo hi ac K k=r at *
 obtain⟨o,out⟩:=r;simp only at *
 have hlen:=B.len;simp only at hlen;have hoN:∀j,(h:j<o.length)→o[j]<N:=fun j h=>B.lt _ (List.getElem_mem h);have hstep:∀j,(h:j<o.length)→∀b,b<256→∃i,i<K∧lo i≤b∧b≤hi i∧aW out j b=tgt cf o (dl o[j] i):=by
  intro j h b hb;obtain⟨i,hi',h1,h2⟩:=H.iv.cover b hb;obtain⟨h',-,-,-,-,h7⟩:=B.state j (by show j<out.length;omega);refine ⟨i,hi',h1,h2,?_⟩;rw[bV out j b zo];exact (h7 i hi').1 b h1 h2
 have hpos:∀j,(h:j<o.length)→∀i,i<K→∀t,dl o[j] i=some t→∃hp:df cf o t<o.length,cf o[df cf o t]=cf t:=by
  intro j h i hi' t ht;obtain⟨h',-,-,-,-,h7⟩:=B.state j (by show j<out.length;omega);have:=(h7 i hi').2 t ht;exact⟨this,lu this⟩
 have hacc:∀w,∀j,(h:j<o.length)→aF out j w=aF T o[j] w:=by
  intro w
  induction w with
  | nil=>
   intro j h;obtain⟨h',h2,-⟩:=B.state j (by show j<out.length;omega);simp only[aF];rw[dF out j zo]
   exact h2.trans (H.acc _ (hoN j h))
  | cons b w ih=>
   intro j h;simp only[aF];obtain⟨i,hi',h1,h2,e⟩:=hstep j h b.toNat b.toNat_lt;rw[e]
   cases hd:dl o[j] i with
   | none=>
    rw[H.none _ i (hoN j h) hi' hd _ h1 h2 w]
    exact bJ (by simp[tgt]) w
   | some t=>
    obtain⟨hp,hc⟩:=hpos j h i hi' t hd;have hs:=H.some _ i t (hoN j h) hi' hd;show aF out (df cf o t:Nat) w=_;rw[ih _ hp,hs.2.2 _ h1 h2 w];exact (H.cls _ _ (hoN _ hp) hs.1).1 hc w
 have hf:=B.first;simp only at hf;have h0:0<o.length:=by
  cases o with
  | nil=>simp at hf
  | cons _ _=>simp
 have ho0:o[0]=0:=by
  obtain⟨h,e⟩:=List.getElem?_eq_some_iff.1 hf;exact e
 have hlive:∀j,(h:j<o.length)→∃w,aF T o[j] w=true:=by
  intro j h;by_cases c:j=0
  ·subst c;simp only[ho0];exact H.live
  ·obtain⟨j',hj',hjp,i,hi',t,ht,he⟩:=B.reach j zo h;have hjo:j'<o.length:=zo;have ht:dl o[j'] i=some t:=by simpa [hjo] using ht
   obtain⟨hp,hc⟩:=hpos j' hjo i hi' t ht;have hs:=H.some _ i t (hoN j' hjo) hi' ht;obtain⟨w,hw⟩:=hs.2.1;have he:df cf o t=j:=he;refine ⟨w,?_⟩;rw[← hw];subst he;exact (H.cls _ _ (hoN _ hp) hs.1).1 hc w
 refine ⟨⟨?_,?_,?_,?_,?_,?_,?_⟩,?_⟩
 ·intro s hs;obtain⟨j,hj,rfl⟩:=List.mem_iff_getElem.1 hs;obtain⟨h',-,h3,-⟩:=B.state j hj;show aV out.length _ _;have h3:aV o.length (-1) out[j].edges:=h3
  rwa [hlen,← hend]
 ·intro s hs;obtain⟨j,hj,rfl⟩:=List.mem_iff_getElem.1 hs;obtain⟨h',-,-,h4,-⟩:=B.state j hj;exact h4
 ·intro s hs;obtain⟨j,hj,rfl⟩:=List.mem_iff_getElem.1 hs;obtain⟨h',-,-,-,h5,-⟩:=B.state j hj;exact h5
 ·intro j hj;obtain⟨w,hw⟩:=hlive j zo;exact⟨w,(hacc w j zo).trans hw⟩
 ·intro i j hi' hj he;refine NK B.dif (show i<o.length by omega) (show j<o.length by omega) ?_;refine (H.cls _ _ (hoN _ _) (hoN _ _)).2 fun w=>?_;rw[← hacc w i zo,← hacc w j zo,he w]
 ·intro j b t hb ht p h1 h2;by_cases c:j<o.length
  ·obtain⟨i,hi',b1,b2,e⟩:=hstep j c b hb;rw[ht] at e
   cases hd:dl o[j] i with
   | none=>rw[hd] at e;simp[tgt] at e
   | some u=>
    rw[hd] at e;have e:t=df cf o u:=by simp only[tgt] at e;omega
    obtain⟨j',i',hlt,hi'',t',ht',he⟩:=B.seen j zo i hi' u (by simpa [c] using hd) p h1 (by show p<df cf o u;omega);have hj':j'<o.length:=zo;have ht':dl o[j'] i'=some t':=by simpa [hj'] using ht'
    have he:df cf o t'=p:=he;have hle:=H.iv.le i' hi'';obtain⟨h',-,-,-,-,h7⟩:=B.state j' (by show j'<out.length;omega);refine ⟨j',lo i',zo,?_,?_⟩
    ·rcases hlt with h | ⟨h,h'⟩
     ·exact .inl h
     ·refine .inr ⟨h,?_⟩;have:=H.iv.sep i' i h' hi';omega
    ·rw[bV out j' _ zo];have:=(h7 i' hi'').1 (lo i') (Nat.le_refl _) hle.1;refine this.trans ?_;show tgt cf o (dl o[j'] i')=_;rw[ht'];simp[tgt,he]
  ·rw[dB out j b zo] at ht;omega
 ·intro t h1 h2;obtain⟨j',hj',hjp,i,hi',u,hu,he⟩:=B.reach t h1 (by show t<o.length;omega);have hjo:j'<o.length:=zo;have hu:dl o[j'] i=some u:=by simpa [hjo] using hu
  have he:df cf o u=t:=he;have hle:=H.iv.le i hi';obtain⟨h',-,-,-,-,h7⟩:=B.state j' (by show j'<out.length;omega);refine ⟨j',lo i,hjp,zo,?_⟩;rw[bV out j' _ zo];have:=(h7 i hi').1 (lo i) (Nat.le_refl _) hle.1;refine this.trans ?_;show tgt cf o (dl o[j'] i)=_;rw[hu];simp[tgt,he]
 ·intro w;have:=hacc w 0 h0;rw[ho0] at this;exact this
end Cl
namespace Cl
theorem gU {α:Type} [DecidableEq α]:∀(l l':List α),l.Nodup→(∀x∈l,x∈l')→l.length≤l'.length:=by
 intro l
 induction l with
 | nil=>intro l' _ _;simp
 | cons a l ih=>
  intro l' hn hs;have hn:=List.nodup_cons.1 hn;have ha:a∈l':=hs a zS;have:=ih (l'.erase a) hn.2 fun x hx=>(List.mem_erase_of_ne (fun e=>hn.1 (by rw[← e];exact hx))).2 (hs x (by simp[hx]));have hl:=List.length_erase_of_mem ha;have hp:=List.length_pos_of_mem ha;simp only[List.length_cons];omega
theorem IM {a b:Nat} (f:Nat→Nat) (h:∀v,v<a→∃u,u<b∧f u=v):a≤b:=by
 have:=gU (List.range a) ((List.range b).map f) List.nodup_range (fun x hx=>by
  obtain⟨u,hu,e⟩:=h x (List.mem_range.1 hx);exact List.mem_map.2 ⟨u,List.mem_range.2 hu,e⟩)
 simpa using this
theorem D8 {a:Nat} (f:Nat→Nat) (h:∀v,v<a→∃u,u<a∧f u=v) {i j:Nat} (hi:i<a) (hj:j<a) (e:f i=f j):i=j:=by
 apply Classical.byContradiction;intro hne;have:=gU (List.range a) (((List.range a).erase j).map f) List.nodup_range (fun x hx=>by
  obtain⟨u,hu,e'⟩:=h x (List.mem_range.1 hx);by_cases c:u=j
  ·subst c;exact List.mem_map.2 ⟨i,(List.mem_erase_of_ne hne).2 (List.mem_range.2 hi),by rw[e];exact e'⟩
  ·exact List.mem_map.2 ⟨u,(List.mem_erase_of_ne c).2 (List.mem_range.2 hu),e'⟩)
 rw[List.length_map,List.length_erase_of_mem (List.mem_range.2 hj),List.length_range] at this;omega
theorem Aj {α:Type}:∀{l:List α},l.Nodup→∀{i j:Nat} (hi:i<l.length) (hj:j<l.length),l[i]=l[j]→i=j:=by
 intro l hn i j hi hj e;have:=List.pairwise_iff_getElem.1 hn;rcases Nat.lt_trichotomy i j with c | c | c
 ·exact absurd e (this i j hi hj c)
 ·exact c
 ·exact absurd e.symm (this j i hj hi c)
def dO (f:Nat→List Int):Nat→List (List Int) × List Int
 | 0=>([],[])
 | k+1=>(if (dO f k).1.findIdx (·==f k)<(dO f k).1.length then (dO f k).1 else (dO f k).1 ++ [f k],(dO f k).2 ++ [((dO f k).1.findIdx (·==f k):Int)])
structure uY (f:Nat→List Int) (k:Nat) (r:List (List Int) × List Int):Prop where
 nodup:r.1.Nodup
 len:r.2.length=k
 le:r.1.length≤k
 at_:∀s,s<k→∃p:Nat,r.2[s]?=some (p:Int)∧r.1[p]?=some (f s)
 from_:∀p,(h:p<r.1.length)→∃s,s<k∧f s=r.1[p]
theorem CE (f:Nat→List Int):∀k,uY f k (dO f k):=by
 intro k
 induction k with
 | zero=>exact⟨by simp[dO],rfl,by simp[dO],fun s h=>zo,fun p h=>by simp[dO] at h⟩
 | succ k ih=>
  have e:dO f (k+1)=(if (dO f k).1.findIdx (·==f k)<(dO f k).1.length then (dO f k).1 else (dO f k).1 ++ [f k],(dO f k).2 ++ [((dO f k).1.findIdx (·==f k):Int)]):=rfl;rw[e];generalize dO f k=r at *
  have hle:r.1.findIdx (·==f k)≤r.1.length:=List.findIdx_le_length;have hlen:=ih.len;by_cases c:r.1.findIdx (·==f k)<r.1.length
  ·rw[if_pos c];have hg:r.1[r.1.findIdx (·==f k)]=f k:=by
    have:=List.findIdx_getElem (p:=(·==f k)) (w:=c);simpa using this
   refine ⟨ih.nodup,by simp[hlen],by have:=ih.le;simp;omega,fun s hs=>?_,fun p h=>?_⟩
   ·by_cases d:s<k
    ·obtain⟨p,h1,h2⟩:=ih.at_ s d;exact⟨p,by rw[List.getElem?_append_left zo];exact h1,h2⟩
    ·have:s=k:=zo;subst this;exact⟨r.1.findIdx (·==f s),by rw[List.getElem?_append_right zo];simp[hlen],by simp[c,hg]⟩
   ·obtain⟨s,h1,h2⟩:=ih.from_ p h;exact⟨s,zo,h2⟩
  ·rw[if_neg c];have hnot:f k ∉ r.1:=fun hm=>c (List.findIdx_lt_length.2 ⟨f k,hm,zS⟩);refine ⟨?_,by simp[hlen],by have:=ih.le;simp;omega,fun s hs=>?_,fun p h=>?_⟩
   ·exact List.nodup_append.2 ⟨ih.nodup,zS,fun a ha b hb=>by
     simp only[List.mem_singleton] at hb;subst hb;exact fun e=>hnot (e ▸ ha)⟩
   ·by_cases d:s<k
    ·obtain⟨p,h1,h2⟩:=ih.at_ s d;refine ⟨p,by show (r.2 ++ _)[s]?=_;rw[List.getElem?_append_left zo];exact h1,?_⟩;have:p<r.1.length:=(List.getElem?_eq_some_iff.1 h2).1;show (r.1 ++ [f k])[p]?=_;rw[List.getElem?_append_left this];exact h2
    ·have:s=k:=zo;subst this;refine ⟨r.1.length,?_,zS⟩;show (r.2 ++ _)[s]?=_;rw[List.getElem?_append_right zo];simp[hlen];omega
   ·by_cases d:p<r.1.length
    ·obtain⟨s,h1,h2⟩:=ih.from_ p d;exact⟨s,zo,by show _=(r.1 ++ [f k])[p];rw[List.getElem_append_left d];exact h2⟩
    ·have h':p<(r.1 ++ [f k]).length:=h;have:p=r.1.length:=by simp at h';omega
     subst this;exact⟨k,zo,by show _=(r.1 ++ [f k])[r.1.length];simp⟩
theorem uY.eq_iff {f:Nat→List Int} {k:Nat} {r:List (List Int) × List Int} (h:uY f k r) {s t:Nat} (hs:s<k) (ht:t<k):r.2.getD s 0=r.2.getD t 0↔f s=f t:=by
 obtain⟨p,h1,h2⟩:=h.at_ s hs;obtain⟨q,h3,h4⟩:=h.at_ t ht;simp only[List.getD_eq_getElem?_getD,h1,h3,Option.getD_some];refine ⟨fun e=>?_,fun e=>?_⟩
 ·have:p=q:=zo;subst this;rw[h2] at h4;simpa using h4
 ·obtain⟨p1,p2⟩:=List.getElem?_eq_some_iff.1 h2;obtain⟨q1,q2⟩:=List.getElem?_eq_some_iff.1 h4;have:=Aj h.nodup p1 q1 (by rw[p2,q2,e]);omega
theorem uY.rng {f:Nat→List Int} {k:Nat} {r:List (List Int) × List Int} (h:uY f k r) {s:Nat} (hs:s<k):0≤r.2.getD s 0∧r.2.getD s 0<r.1.length:=by
 obtain⟨p,h1,h2⟩:=h.at_ s hs;simp only[List.getD_eq_getElem?_getD,h1,Option.getD_some];have:=(List.getElem?_eq_some_iff.1 h2).1;omega
theorem uY.surj {f:Nat→List Int} {k:Nat} {r:List (List Int) × List Int} (h:uY f k r) {v:Nat} (hv:v<r.1.length):∃s,s<k∧r.2.getD s 0=v:=by
 obtain⟨s,hs,e⟩:=h.from_ v hv;refine ⟨s,hs,?_⟩;obtain⟨p,h1,h2⟩:=h.at_ s hs;obtain⟨p1,p2⟩:=List.getElem?_eq_some_iff.1 h2;have:=Aj h.nodup p1 hv (by rw[p2,e]);simp[h1,this]
def pR (cls:List Int) (x:Int):Int:=if x<0 then x else cls.getD x.toNat 0
def sig (cls:List Int) (ta:Nat→Nat→Int) (K:Nat) (s:Nat):List Int:=cls.getD s 0::(List.range K).map fun i=>pR cls (ta s i)
structure BH (T:Table) (N:Nat) (lo hi:Nat→Nat) (K:Nat) (ta:Nat→Nat→Int):Prop where
 iv:Ivs lo hi K
 rng:∀s i,s<N→i<K → -1≤ta s i∧ta s i<N
 step:∀s i,s<N→i<K→∀b,lo i≤b→b≤hi i→∀w,aF T (aW T s b) w=aF T (ta s i) w
 neg:∀s t i,s<N→t<N→i<K→ta s i = -1→(∀w,aF T (ta t i) w=false)→ta t i = -1
def NEq (T:Table) (s t:Nat):Prop:=∀w,aF T s w=aF T t w
structure qR (T:Table) (N:Nat) (cls:List Int):Prop where
 len:cls.length=N
 rng:∀x∈cls,0≤x∧x<N
 eq:∀s t,s<N→t<N→(cls.getD s 0=cls.getD t 0↔NEq T s t)
structure rF (T:Table) (N:Nat) (cls:List Int) (many:Nat):Prop where
 len:cls.length=N
 rng:∀s,s<N→0≤cls.getD s 0∧cls.getD s 0≤N
 coarse:∀s t,s<N→t<N→NEq T s t→cls.getD s 0=cls.getD t 0
 acc:∀s t,s<N→t<N→cls.getD s 0=cls.getD t 0→dS T s=dS T t
 cnt:many=0∨(∀s,s<N→cls.getD s 0<many)∧∀v,v<many→∃s,s<N∧cls.getD s 0=v
theorem zU {T:Table} {N:Nat} {cls:List Int} (hN:1≤N) (hl:cls.length=N) (h:∀s,s<N→cls.getD s 0=if dS T s=true then 1 else 0):rF T N cls 0:=by
 refine ⟨hl,fun s hs=>?_,fun s t hs ht he=>?_,fun s t hs ht he=>?_,.inl rfl⟩
 ·rw[h s hs];split <;> omega
 ·rw[h s hs,h t ht];have:=he [];simp only[aF] at this;rw[this]
 ·rw[h s hs,h t ht] at he;cases h1:dS T s <;> cases h2:dS T t <;> simp[h1,h2] at he ⊢
theorem Ow {T:Table} {N:Nat} {lo hi:Nat→Nat} {K:Nat} {ta:Nat→Nat→Int} (H:BH T N lo hi K ta) {s t i:Nat} (hs:s<N) (ht:t<N) (hi':i<K) (he:NEq T s t) :
 ∀w,aF T (ta s i) w=aF T (ta t i) w:=by
 have hle:=H.iv.le i hi';intro w;rw[← H.step s i hs hi' (lo i) (Nat.le_refl _) hle.1 w,← H.step t i ht hi' (lo i) (Nat.le_refl _) hle.1 w];exact FV he (lo i) zo w
theorem zV {T:Table} {N:Nat} {lo hi:Nat→Nat} {K:Nat} {ta:Nat→Nat→Int} (H:BH T N lo hi K ta) (hN:1≤N) {cls:List Int} {many:Nat} (hr:rF T N cls many) :
 rF T N (dO (sig cls ta K) N).2 (dO (sig cls ta K) N).1.length∧many≤(dO (sig cls ta K) N).1.length∧(dO (sig cls ta K) N).1.length≤N∧1≤(dO (sig cls ta K) N).1.length ∧
  ((dO (sig cls ta K) N).1.length=many→qR T N (dO (sig cls ta K) N).2):=by
 have hn:=CE (sig cls ta K) N;generalize dO (sig cls ta K) N=r at *
 have hsame:∀s t,s<N→t<N→NEq T s t→sig cls ta K s=sig cls ta K t:=by
  intro s t hs ht he;unfold sig;rw[hr.coarse s t hs ht he]
  congr 1
  apply List.map_congr_left;intro i hi';have hi':=List.mem_range.1 hi';have ht':=Ow H hs ht hi' he;have r1:=H.rng s i hs hi';have r2:=H.rng t i ht hi';unfold pR;by_cases c:ta s i<0
  ·have e1:ta s i = -1:=zo;have:=H.neg s t i hs ht hi' e1 (fun w=>by rw[← ht' w,e1];exact bJ zo w);rw[e1,this]
  ·by_cases d:ta t i<0
   ·have e1:ta t i = -1:=zo;have:=H.neg t s i ht hs hi' e1 (fun w=>by rw[ht' w,e1];exact bJ zo w);omega
   ·rw[if_neg c,if_neg d];obtain⟨x,hx⟩:=Int.eq_ofNat_of_zero_le (by omega:0≤ta s i);obtain⟨y,hy⟩:=Int.eq_ofNat_of_zero_le (by omega:0≤ta t i);rw[hx,hy] at ht' ⊢;exact hr.coarse x y zo zo ht'
 have hfine:∀s t,s<N→t<N→r.2.getD s 0=r.2.getD t 0→cls.getD s 0=cls.getD t 0∧∀i,i<K→pR cls (ta s i)=pR cls (ta t i):=by
  intro s t hs ht e;have e:=(hn.eq_iff hs ht).1 e;unfold sig at e;injection e with e1 e2;refine ⟨e1,fun i hi'=>?_⟩;have:=congrArg (fun l=>l[i]?) e2;simpa [hi'] using this
 have hmany:many≤r.1.length∧(r.1.length=many→∀s t,s<N→t<N→cls.getD s 0=cls.getD t 0→r.2.getD s 0=r.2.getD t 0):=by
  rcases hr.cnt with h0 | ⟨h1,h2⟩
  ·refine ⟨zo,fun e=>?_⟩;have:=(hn.rng (s:=0) zo).2;have:=(hn.rng (s:=0) zo).1;omega
  ·
   let g:Nat→Nat:=fun u=>if h:∃s,s<N∧r.2.getD s 0=u then (cls.getD h.choose 0).toNat else 0;have hg:∀s,s<N→g (r.2.getD s 0).toNat=(cls.getD s 0).toNat:=by
    intro s hs;have hex:∃s',s'<N∧r.2.getD s' 0=((r.2.getD s 0).toNat:Int):=⟨s,hs,by have:=(hn.rng hs).1;omega⟩;show (if h:∃s',s'<N∧r.2.getD s' 0=((r.2.getD s 0).toNat:Int) then (cls.getD h.choose 0).toNat else 0)=_;rw[dif_pos hex];have hc:=hex.choose_spec;have:=(hfine _ s hc.1 hs (by rw[hc.2];have:=(hn.rng hs).1;omega)).1;rw[this]
   have hs:∀v,v<many→∃u,u<r.1.length∧g u=v:=by
    intro v hv;obtain⟨s,hs,e⟩:=h2 v hv;have:=hn.rng hs;exact⟨(r.2.getD s 0).toNat,zo,by rw[hg s hs,e];simp⟩
   refine ⟨IM g hs,fun e s t hs' ht' he=>?_⟩;rw[← e] at hs;have r1:=hn.rng hs';have r2:=hn.rng ht';have:=D8 g hs (i:=(r.2.getD s 0).toNat) (j:=(r.2.getD t 0).toNat) zo zo (by rw[hg s hs',hg t ht',he]);omega
 have hacc:∀s t,s<N→t<N→r.2.getD s 0=r.2.getD t 0→dS T s=dS T t:=fun s t hs ht e=>hr.acc s t hs ht (hfine s t hs ht e).1;refine ⟨⟨hn.len,fun s hs=>by have:=hn.rng hs;have:=hn.le;omega,fun s t hs ht he=>(hn.eq_iff hs ht).2 (hsame s t hs ht he),hacc,.inr ⟨fun s hs=>(hn.rng hs).2,fun v hv=>hn.surj hv⟩⟩,hmany.1,hn.le,?_,fun e=>?_⟩
 ·have:=hn.rng (s:=0) zo;omega
 ·have hst:=hmany.2 e;refine ⟨hn.len,fun x hx=>?_,fun s t hs ht=>⟨fun he=>?_,fun he=>(hn.eq_iff hs ht).2 (hsame s t hs ht he)⟩⟩
  ·obtain⟨s,h1,rfl⟩:=List.mem_iff_getElem.1 hx;have:=hn.rng (s:=s) (by rw[← hn.len];exact h1);have:=hn.le;simp only[List.getD_eq_getElem?_getD,h1,List.getElem?_eq_getElem,Option.getD_some] at *
   omega
  ·intro w
   induction w generalizing s t with
   | nil=>simp only[aF];exact hacc s t hs ht he
   | cons b w ih=>
    simp only[aF];obtain⟨i,hi',b1,b2⟩:=H.iv.cover b.toNat b.toNat_lt;rw[H.step s i hs hi' _ b1 b2 w,H.step t i ht hi' _ b1 b2 w];have r1:=H.rng s i hs hi';have r2:=H.rng t i ht hi';have hc:=(hfine s t hs ht he).2 i hi';unfold pR at hc;by_cases c:ta s i<0
    ·by_cases d:ta t i<0
     ·have e1:ta s i = -1:=zo;have e2:ta t i = -1:=zo;rw[e1,e2]
     ·rw[if_pos c,if_neg d] at hc;have:=(hr.rng (ta t i).toNat zo).1;omega
    ·by_cases d:ta t i<0
     ·rw[if_neg c,if_pos d] at hc;have:=(hr.rng (ta s i).toNat zo).1;omega
     ·rw[if_neg c,if_neg d] at hc;obtain⟨x,hx⟩:=Int.eq_ofNat_of_zero_le (by omega:0≤ta s i);obtain⟨y,hy⟩:=Int.eq_ofNat_of_zero_le (by omega:0≤ta t i);rw[hx,hy] at hc ⊢;exact ih x y zo zo (hst x y zo zo hc)
end Cl
