/- Lemmas for the proofs of chapter 11. -/
import Derived.Test.YtjhipmdamaocmaaGreatDoorZy
set_option maxRecDepth 100000
set_option maxHeartbeats 16000000
namespace Cl
structure Ed where
 lo:Nat
 hi:Nat
 to:Int
structure Sn where
 accept:Bool
 edges:List Ed
abbrev Table:=List Sn
def bF (n:Nat):Int→List Ed→Prop
 | _,[]=>True
 | p,e::es=>e.lo≤e.hi∧0≤e.to∧e.to<n∧p<e.lo∧bF n e.hi es
def WF (l:Table):Prop:=∀s∈l,bF l.length (-1) s.edges
def fD (es:List Ed):Prop:=∀e∈es,e.lo<256∧e.hi<256
def Bytes (l:Table):Prop:=∀s∈l,fD s.edges
def aY:List Ed→Nat→Int
 | [],_ => -1
 | e::es,b=>if e.lo≤b∧b≤e.hi then e.to else aY es b
def bD (l:Table) (s:Int) (b:Nat):Int:=
 if s<0 then -1 else match l[s.toNat]? with
  | some st=>aY st.edges b
  | none => -1
def bz (l:Table) (s:Int):Bool:=
 if s<0 then false else match l[s.toNat]? with
  | some st=>st.accept
  | none=>false
def aC (l:Table):Int→List UInt8→Bool
 | s,[]=>bz l s
 | s,b::w=>aC l (bD l s b.toNat) w
theorem jl {l:Table} {s:Int} (h:s<0) (b:Nat):bD l s b = -1:=by simp[bD,h]
theorem bP {l:Table} {s:Int} (h:s<0) (w:List UInt8):aC l s w=false:=by
 induction w generalizing s with
 | nil=>simp[aC,bz,h]
 | cons b w ih=>simp only[aC];rw[jl h];exact ih zo
theorem dC (l:Table) (k:Nat) (b:Nat) (h:k<l.length):bD l (k:Int) b=aY (l[k]).edges b:=by
 have h0:¬ ((k:Int)<0):=zo;simp[bD,h0,h]
theorem dV (l:Table) (k:Int) (b:Nat) (h:(l.length:Int)≤k):bD l k b = -1:=by
 have h0:¬ (k<0):=zo;have h1:l.length≤k.toNat:=zo;simp[bD,h0,h1]
theorem fI (l:Table) (k:Int) (w:List UInt8) (h:(l.length:Int)≤k):aC l k w=false:=by
 cases w with
 | nil=>
  have h0:¬ (k<0):=zo;have h1:l.length≤k.toNat:=zo
  simp[aC,bz,h0,h1]
 | cons b w=>simp only[aC];rw[dV _ _ _ h];exact bP zo w
theorem qI {n:Nat} {p:Int} {es:List Ed} (h:bF n p es) (b:Nat):aY es b = -1∨(0≤aY es b∧aY es b<n):=by
 induction es generalizing p with
 | nil=>left;rfl
 | cons e es ih=>
  obtain⟨h1,h2,h3,h4,h5⟩:=h;simp only[aY]
  split
  ·right;exact⟨h2,h3⟩
  ·exact ih h5
theorem dU {l:Table} (h:WF l) (k:Int) (b:Nat):bD l k b = -1∨(0≤bD l k b∧bD l k b<l.length):=by
 by_cases h0:k<0
 ·left;exact jl h0 b
 ·by_cases h1:k<l.length
  ·obtain⟨n,rfl⟩:=zQ (by omega:0≤k);rw[dC l n b zo];exact qI (h _ (zB _)) b
  ·left;exact dV l k b zo
def Merged:List Ed→Prop
 | []=>True
 | [_]=>True
 | e::f::es=>¬ (e.to=f.to∧e.hi+1=f.lo)∧Merged (f::es)
structure Canon (l:Table):Prop where
 wf:WF l
 bytes:Bytes l
 merged:∀s∈l,Merged s.edges
 live:∀k:Nat,k<l.length→∃w,aC l k w=true
 dist:∀i j:Nat,i<l.length→j<l.length→(∀w,aC l i w=aC l j w)→i=j
 seen:∀(k b t:Nat),b<256→bD l k b=t→∀t':Nat,0<t'→t'<t→∃k' b':Nat,b'<256∧(k'<k∨k'=k∧b'<b)∧bD l k' b'=t'
 reach:∀t:Nat,0<t→t<l.length→∃k b:Nat,k<t∧b<256∧bD l k b=t
theorem ng {n:Nat} {p:Int} {es:List Ed} (h:bF n p es) {b:Nat} (hb:(b:Int)≤p):aY es b = -1:=by
 induction es generalizing p with
 | nil=>rfl
 | cons e es ih=>
  obtain⟨h1,h2,h3,h4,h5⟩:=h;simp only[aY];rw[zH zo];exact ih h5 zo
theorem EU {n m:Nat} (es:List Ed):∀(fs:List Ed) (p:Int),bF n p es→bF m p fs→fD es→fD fs→Merged es→Merged fs →
 (∀b:Nat,b<256→p<(b:Int)→aY es b=aY fs b)→es=fs:=by
 induction es with
 | nil=>
  intro fs p _ hf _ bf _ _ h
  cases fs with
  | nil=>rfl
  | cons f fs=>
   obtain⟨f1,f2,f3,f4,f5⟩:=hf;have:=h f.lo (bf f zS).1 f4;simp[aY] at this
   omega
 | cons e es ih=>
  intro fs p he hf be bf me mf h;obtain⟨e1,e2,e3,e4,e5⟩:=he
  cases fs with
  | nil=>
   have:=h e.lo (be e zS).1 e4;simp[aY,e1] at this
   omega
  | cons f fs=>
   obtain⟨f1,f2,f3,f4,f5⟩:=hf;have be':fD es:=fun x hx=>be x (by simp[hx]);have bf':fD fs:=fun x hx=>bf x (by simp[hx]);have blo:=(be e zS);have flo:=(bf f zS);have hlo:e.lo=f.lo:=by
    have A:=h e.lo blo.1 e4;have B:=h f.lo flo.1 f4;simp only[aY] at A B;rw[zI ⟨zG _,e1⟩] at A;rw[zI (⟨zG _,f1⟩:f.lo≤f.lo∧f.lo≤f.hi)] at B;by_cases c:e.lo<f.lo
    ·rw[zH zo,ng f5 zo] at A;omega
    ·by_cases c':f.lo<e.lo
     ·rw[zH zo,ng e5 zo] at B;omega
     ·omega
   have hto:e.to=f.to:=by
    have A:=h e.lo blo.1 e4;simp only[aY] at A;rw[zI ⟨zG _,e1⟩,zI zo] at A;exact A
   have next:∀{k:Nat} {g:Ed} {gs:List Ed},bF k (g.hi:Int) gs→Merged (g::gs)→0≤g.to→aY gs (g.hi+1)≠g.to:=by
    intro k g gs hg mg g0 hh
    cases gs with
    | nil=>simp[aY] at hh;omega
    | cons x xs=>
     obtain⟨x1,x2,x3,x4,x5⟩:=hg;simp only[aY] at hh;by_cases c:x.lo=g.hi+1
     ·rw[zI zo] at hh;exact mg.1 ⟨hh.symm,c.symm⟩
     ·rw[zH zo,ng x5 zo] at hh;omega
   have hhi:e.hi=f.hi:=by
    by_cases c:e.hi<f.hi
    ·have A:=h (e.hi+1) zo zo;simp only[aY] at A;rw[zH zo,zI zo] at A;exact absurd (A.trans hto.symm) (next e5 me e2)
    ·by_cases c':f.hi<e.hi
     ·have A:=h (f.hi+1) zo zo;simp only[aY] at A;rw[zI zo,zH zo] at A;exact absurd (A.symm.trans hto) (next f5 mf f2)
     ·omega
   have heq:e=f:=by
    cases e;cases f;simp_all
   subst heq
   congr 1
   have me':Merged es:=by
    cases es with
    | nil=>trivial
    | cons x xs=>exact me.2
   have mf':Merged fs:=by
    cases fs with
    | nil=>trivial
    | cons x xs=>exact mf.2
   refine ih fs e.hi e5 f5 be' bf' me' mf' ?_;intro b hb hp;have A:=h b hb zo;simp only[aY] at A;rw[zH zo,zH zo] at A;exact A
theorem byteOf (b:Nat) (h:b<256):∃u:UInt8,u.toNat=b:=⟨UInt8.ofNat b,by simp[Nat.mod_eq_of_lt h]⟩
theorem JY {l m:Table} {i j:Int} (h:∀w,aC l i w=aC m j w) (b:Nat) (hb:b<256):∀w,aC l (bD l i b) w=aC m (bD m j b) w:=by
 obtain⟨u,rfl⟩:=byteOf b hb;intro w;have:=h (u::w);simpa [aC] using this
theorem Po {l m:Table} (hl:Canon l) (hm:Canon m) {i j:Int} (hi:i = -1∨(0≤i∧i<l.length)) (hj:j = -1∨(0≤j∧j<m.length))
 (h:∀w,aC l i w=aC m j w):(i = -1∧j = -1)∨(∃s t:Nat,i=s∧j=t∧s<l.length∧t<m.length):=by
 rcases hi with hi | ⟨hi0,hi1⟩
 ·rcases hj with hj | ⟨hj0,hj1⟩
  ·exact .inl ⟨hi,hj⟩
  ·obtain⟨t,rfl⟩:=zQ hj0;obtain⟨w,hw⟩:=hm.live t zo;have:=h w;rw[hw,bP zo] at this;cases this
 ·obtain⟨s,rfl⟩:=zQ hi0;rcases hj with hj | ⟨hj0,hj1⟩
  ·obtain⟨w,hw⟩:=hl.live s zo;have:=h w;rw[hw,bP zo] at this;cases this
  ·obtain⟨t,rfl⟩:=zQ hj0;exact .inr ⟨s,t,rfl,rfl,zo,zo⟩
theorem FR {l m:Table} (hl:Canon l) (hm:Canon m) (h:∀w,aC l 0 w=aC m 0 w) :
 ∀N k b:Nat,b<256→256*k+b<N→((k<l.length∨k<m.length)→(∀w,aC l k w=aC m k w))∧bD l k b=bD m k b:=by
 intro N
 induction N with
 | zero=>intro k b _ hN;omega
 | succ N ih=>
  intro k b hb hN;have hres:(k<l.length∨k<m.length)→(∀w,aC l k w=aC m k w):=by
   intro hk;by_cases k0:k=0
   ·subst k0;exact h
   ·rcases hk with hk | hk
    ·obtain⟨k',b',h1,h2,h3⟩:=hl.reach k zo hk;have:=ih k' b' h2 zo;have hk':k'<l.length:=zo;have r:=JY (this.1 (.inl hk')) b' h2;rw[← this.2,h3] at r;exact r
    ·obtain⟨k',b',h1,h2,h3⟩:=hm.reach k zo hk;have:=ih k' b' h2 zo;have hk':k'<m.length:=zo;have r:=JY (this.1 (.inr hk')) b' h2;rw[this.2,h3] at r;exact r
  refine ⟨hres,?_⟩;by_cases hk:k<l.length∨k<m.length
  ·have r:=JY (hres hk) b hb;rcases Po hl hm (dU hl.wf _ b) (dU hm.wf _ b) r with ⟨e1,e2⟩ | ⟨s,t,e1,e2,hs,ht⟩
   ·rw[e1,e2]
   ·rw[e1,e2] at r ⊢;have:s=t:=by
     by_cases c:s<t
     ·
      have hm':∀w,aC l s w=aC m s w:=by
       by_cases s0:s=0
       ·subst s0;exact h
       ·obtain⟨k',b',h1,h2,h3⟩:=hm.seen k b t hb e2 s zo c;have I:=ih k' b' h1 zo;by_cases hk':k'<l.length∨k'<m.length
        ·have r':=JY (I.1 hk') b' h1;rw[I.2,h3] at r';exact r'
        ·rw[dV m k' b' zo] at h3;omega
      exact hm.dist s t zo ht (fun w=>(hm' w).symm.trans (r w))
     ·by_cases c':t<s
      ·have hm':∀w,aC l t w=aC m t w:=by
        by_cases t0:t=0
        ·subst t0;exact h
        ·obtain⟨k',b',h1,h2,h3⟩:=hl.seen k b s hb e1 t zo c';have I:=ih k' b' h1 zo;by_cases hk':k'<l.length∨k'<m.length
         ·have r':=JY (I.1 hk') b' h1;rw[← I.2,h3] at r';exact r'
         ·rw[dV l k' b' zo] at h3;omega
       exact hl.dist s t hs zo (fun w=>(r w).trans (hm' w).symm)
      ·omega
    rw[this]
  ·rw[dV l k b zo,dV m k b zo]
theorem eZ (l:Table) (k:Nat) (h:k<l.length):bz l (k:Int)=(l[k]).accept:=by
 have h0:¬ ((k:Int)<0):=zo;simp[bz,h0,h]
theorem lens {l m:Table} (hl:Canon l) (hm:Canon m) (h:∀w,aC l 0 w=aC m 0 w):l.length≤m.length:=by
 apply Nat.le_of_not_lt;intro c;have A:=(FR hl hm h (256*m.length+1) m.length 0 zo zo).1 (.inl c);obtain⟨w,hw⟩:=hl.live m.length c;rw[A w,fI m _ w zo] at hw;cases hw
theorem lH {l m:Table} (hl:Canon l) (hm:Canon m) (h:∀w,aC l 0 w=aC m 0 w):l=m:=by
 have hlen:l.length=m.length:=Nat.le_antisymm (lens hl hm h) (lens hm hl (fun w=>(h w).symm));apply List.ext_getElem hlen;intro k h1 h2;have ha:(l[k]).accept=(m[k]).accept:=by
  have:=(FR hl hm h (256*k+1) k 0 zo zo).1 (.inl h1) [];simp only[aC] at this
  rwa [eZ l k h1,eZ m k h2] at this
 have he:(l[k]).edges=(m[k]).edges:=by
  refine EU _ _ (-1) (hl.wf _ (zB h1)) (hm.wf _ (zB h2)) (hl.bytes _ (zB h1)) (hm.bytes _ (zB h2))
   (hl.merged _ (zB h1)) (hm.merged _ (zB h2)) ?_
  intro b hb _;have:=(FR hl hm h (256*k+b+1) k b hb zo).2
  rwa [dC l k b h1,dC m k b h2] at this
 cases hx:l[k];cases hy:m[k];simp_all
end Cl
namespace Cl
noncomputable def tf (p:Prop):Bool:=@decide p (Classical.propDecidable p)
theorem aN {p:Prop} (h:p):tf p=true:=by simp[tf,h]
theorem aK {p:Prop} (h:¬ p):tf p=false:=by simp[tf,h]
theorem Di {p:Prop}:tf p=true↔p:=by simp[tf]
theorem fK {p q:Prop} (h:p↔q):tf p=tf q:=by rw[show p=q from propext h]
def lU (es:List Ed) (k:Nat):Int:=if h:0<k∧k≤es.length then ((es[k - 1]'zo).hi:Int) else -1
theorem wO (es:List Ed) (k:Nat) (h:¬ 0<k):lU es k = -1:=by simp[lU,h]
theorem uq {n:Nat} {es:List Ed} {k:Nat} (h:k<es.length) :
 bF n (lU es k) (es.drop k)↔(es[k]).lo≤(es[k]).hi∧0≤(es[k]).to∧(es[k]).to<n∧lU es k<(es[k]).lo∧bF n (lU es (k+1)) (es.drop (k+1)):=by
 rw[zZ h,bF];have:lU es (k+1)=(es[k]).hi:=by simp[lU,Nat.succ_le_of_lt h]
 rw[this]
theorem Lu {n:Nat} {l:Table} {k:Nat} (h:k<l.length) :
 (∀s∈l.drop k,bF n (-1) s.edges)↔bF n (-1) (l[k]).edges∧∀s∈l.drop (k+1),bF n (-1) s.edges:=by
 rw[zZ h,List.forall_mem_cons]
end Cl
namespace Cl
inductive Dt where
 | mk (kind num:Int) (str:ByteArray) (items:List Dt) (labels:List ByteArray) (bK:List Dt)
def Dt.kind:Dt→Int | mk k _ _ _ _ _=>k
def Dt.num:Dt→Int | mk _ n _ _ _ _=>n
def Dt.str:Dt→ByteArray | mk _ _ s _ _ _=>s
def Dt.items:Dt→List Dt | mk _ _ _ i _ _=>i
def Dt.labels:Dt→List ByteArray | mk _ _ _ _ l _=>l
def Dt.bK:Dt→List Dt | mk _ _ _ _ _ d=>d
def iZ (k n:Int) (s:Nat) (i m:Nat):Bool:=
 decide (1≤k∧k≤6)&&(decide (k=2∨k=3) || decide (n=0))&&(decide (k=4) || decide (s=0))&&(decide (k=5) || decide (i=0))&&(decide (k=6) || decide (m=0))
def twice:List ByteArray→Bool
 | a::b::r => !Go.Op.bytesLess a.data.toList b.data.toList || twice (b::r)
 | _=>false
def ownE (d:Dt):Int:=
 if iZ d.kind d.num d.str.size d.items.length d.bK.length=false then 11
 else if (d.kind=2∧d.num≠0∧d.num≠1)∨(d.kind=3∧¬ (-1000000000000000≤d.num∧d.num≤1000000000000000)) then 1
 else if twice d.labels then 6 else 0
mutual
def chkD:Dt→Nat→Int
 | .mk k n s i l d,v=>if 16<v then 9 else
  let e:=ownE (.mk k n s i l d)
  if e≠0 then e else
  let e:=chkL i (v+1)
  if e≠0 then e else chkL d (v+1)
def chkL:List Dt→Nat→Int
 | [],_=>0
 | x::r,v=>let e:=chkD x v
  if e≠0 then e else chkL r v
end
theorem qN:∀(a b:List Dt) (v:Nat),chkL (a ++ b) v=if chkL a v≠0 then chkL a v else chkL b v
 | [],b,v=>by simp[chkL]
 | x::a,b,v=>by
  have ih:=qN a b v;simp only[List.cons_append,chkL,ih];by_cases h:chkD x v=0 <;> simp[h]
theorem x9 (d:Dt) (v:Nat):chkD d v=if 16<v then 9 else if ownE d≠0 then ownE d else chkL (d.items ++ d.bK) (v+1):=by
 obtain⟨k,n,s,i,l,e⟩:=d;simp only[chkD,Dt.items,Dt.bK,qN]
mutual
def kZ:Dt→Int→Int
 | .mk _ _ _ i _ d,most=>jk d most (jk i most 1)
def jk:List Dt→Int→Int→Int
 | [],_,n=>n
 | x::r,most,n=>if n≤most then jk r most (n+kZ x (most - n)) else n
end
mutual
def jX:Dt→Bool
 | .mk _ _ s i l d=>decide (s.size≤80)&&nN i&&kI l d
def nN:List Dt→Bool
 | []=>true
 | x::r=>jX x&&nN r
def kI:List ByteArray→List Dt→Bool
 | t::l,x::r=>decide (t.size≤80)&&jX x&&kI l r
 | _,_=>true
end
end Cl
namespace Cl
abbrev Spn:=Int × Int
def mems (l:List Spn) (x:Int):Prop:=∃s∈l,s.1≤x∧x≤s.2
structure Norm (l:List Spn):Prop where
 ok:∀s∈l,s.1≤s.2
 sep:l.Pairwise fun s t=>s.2+1<t.1
theorem fV (x:Int):¬ mems [] x:=by rintro ⟨s,h,-⟩;cases h
theorem bH {s:Spn} {l:List Spn} {x:Int}:mems (s::l) x↔(s.1≤x∧x≤s.2)∨mems l x:=by
 constructor
 ·rintro ⟨t,h,hx⟩;rcases List.mem_cons.1 h with rfl | h
  ·exact .inl hx
  ·exact .inr ⟨t,h,hx⟩
 ·rintro (h | ⟨t,h,hx⟩)
  ·exact⟨s,yA ..,h⟩
  ·exact⟨t,zR _ h,hx⟩
theorem xg {l r:List Spn} {x:Int}:mems (l ++ r) x↔mems l x∨mems r x:=by
 induction l with
 | nil=>simp[fV]
 | cons s l ih=>rw[List.cons_append,bH,bH,ih,or_assoc]
theorem Norm.nil:Norm []:=⟨fun s h=>by simp at h,.nil⟩
theorem Norm.tail {s:Spn} {l:List Spn} (h:Norm (s::l)):Norm l:=⟨fun t ht=>h.ok t (zR _ ht),(List.pairwise_cons.1 h.sep).2⟩
theorem Norm.head {s:Spn} {l:List Spn} (h:Norm (s::l)):s.1≤s.2:=h.ok s (yA ..)
theorem Norm.after {s:Spn} {l:List Spn} (h:Norm (s::l)) {x:Int} (hx:mems l x):s.2+1<x:=by
 obtain⟨t,ht,h1,-⟩:=hx;have:=(List.pairwise_cons.1 h.sep).1 t ht;omega
theorem Norm.cons {s:Spn} {l:List Spn} (h1:s.1≤s.2) (h2:∀t∈l,s.2+1<t.1) (h:Norm l):Norm (s::l):=by
 refine ⟨fun t ht=>?_,List.pairwise_cons.2 ⟨h2,h.sep⟩⟩;rcases List.mem_cons.1 ht with rfl | ht
 ·exact h1
 ·exact h.ok t ht
theorem kP:∀{l l':List Spn},Norm l→Norm l'→(∀x,mems l x↔mems l' x)→l=l'
 | [],[],_,_,_=>rfl
 | [],s::r,_,h',e=>absurd ((e s.1).2 (bH.2 (.inl ⟨Int.le_refl _,h'.head⟩))) (fV _)
 | s::r,[],h,_,e=>absurd ((e s.1).1 (bH.2 (.inl ⟨Int.le_refl _,h.head⟩))) (fV _)
 | s::r,s'::r',h,h',e=>by
  have a:=h.head;have a':=h'.head;have out:¬ mems (s::r) (s.2+1):=fun hx=>by
   rcases bH.1 hx with hx | hx
   ·omega
   ·have:=h.after hx;omega
  have out':¬ mems (s'::r') (s'.2+1):=fun hx=>by
   rcases bH.1 hx with hx | hx
   ·omega
   ·have:=h'.after hx;omega
  have lo:s.1=s'.1:=by
   have h1:s'.1≤s.1:=by
    rcases bH.1 ((e s.1).1 (bH.2 (.inl ⟨Int.le_refl _,a⟩))) with hx | hx
    ·exact hx.1
    ·have:=h'.after hx;omega
   have h2:s.1≤s'.1:=by
    rcases bH.1 ((e s'.1).2 (bH.2 (.inl ⟨Int.le_refl _,a'⟩))) with hx | hx
    ·exact hx.1
    ·have:=h.after hx;omega
   omega
  have hi:s.2=s'.2:=by
   have h1:s.2≤s'.2:=by
    refine Int.not_lt.1 fun hlt=>out' ((e _).1 (bH.2 (.inl ⟨?_,?_⟩))) <;> omega
   have h2:s'.2≤s.2:=by
    refine Int.not_lt.1 fun hlt=>out ((e _).2 (bH.2 (.inl ⟨?_,?_⟩))) <;> omega
   omega
  obtain⟨x,y⟩:=s;obtain⟨x',y'⟩:=s';obtain rfl:x=x':=lo;obtain rfl:y=y':=hi;have hr:r=r':=kP h.tail h'.tail fun z=>by
   constructor
   ·intro hz;have:=h.after hz;rcases bH.1 ((e z).1 (bH.2 (.inr hz))) with hx | hx
    ·omega
    ·exact hx
   ·intro hz;have:=h'.after hz;rcases bH.1 ((e z).2 (bH.2 (.inr hz))) with hx | hx
    ·omega
    ·exact hx
  rw[hr]
def qE:List Spn→List Spn→List Spn
 | [],out=>out
 | s::l,[]=>qE l [s]
 | s::l,t::out=>if s.1≤t.2+1 then qE l ((t.1,max t.2 s.2)::out) else qE l (s::t::out)
structure Qh (l:List Spn):Prop where
 ok:∀s∈l,s.1≤s.2
 sep:l.Pairwise fun s t=>t.2+1<s.1
theorem Qh.rev {l:List Spn} (h:Qh l):Norm l.reverse:=⟨fun s hs=>h.ok s (List.mem_reverse.1 hs),List.pairwise_reverse.2 h.sep⟩
theorem Es {l:List Spn} {x:Int}:mems l.reverse x↔mems l x:=by simp[mems]
theorem o5:∀(l out:List Spn),(∀s∈l,s.1≤s.2)→l.Pairwise (fun s t=>s.1≤t.1)→Qh out→(∀t∈out,∀s∈l,t.1≤s.1) →
 Qh (qE l out)∧∀x,mems (qE l out) x↔mems out x∨mems l x
 | [],out,_,_,hn,_=>⟨hn,fun x=>by simp[qE,fV]⟩
 | s::l,[],hok,hs,_,_=>by
  have hs':=List.pairwise_cons.1 hs;have hk:=hok s (yA ..);obtain⟨h1,h2⟩:=o5 l [s] (fun t ht=>hok t (zR _ ht)) hs'.2 ⟨fun t ht=>by simp at ht;subst ht;exact hk,List.pairwise_singleton _ _⟩
   (fun t ht u hu=>by simp at ht;subst ht;exact hs'.1 u hu)
  exact⟨h1,fun x=>by rw[qE,h2,bH,bH];simp[fV]⟩
 | s::l,t::out,hok,hs,hn,hle=>by
  have hs':=List.pairwise_cons.1 hs;have hk:=hok s (yA ..);have hn':=List.pairwise_cons.1 hn.sep;have ht:=hn.ok t (yA ..);have hts:=hle t (yA ..) s (yA ..);have hok':∀u∈l,u.1≤u.2:=fun u hu=>hok u (zR _ hu);unfold qE;by_cases hj:s.1≤t.2+1
  ·rw[zI hj];obtain⟨h1,h2⟩:=o5 l ((t.1,max t.2 s.2)::out) hok' hs'.2
    ⟨fun u hu=>by
     rcases List.mem_cons.1 hu with rfl | hu
     ·show t.1≤max t.2 s.2;omega
     ·exact hn.ok u (zR _ hu),
     List.pairwise_cons.2 ⟨fun u hu=>hn'.1 u hu,hn'.2⟩⟩
    (fun u hu v hv=>by
     rcases List.mem_cons.1 hu with rfl | hu
     ·exact hle t (yA ..) v (zR _ hv)
     ·exact hle u (zR _ hu) v (zR _ hv))
   refine ⟨h1,fun x=>?_⟩;rw[h2,bH,bH,bH];have:(t.1≤x∧x≤max t.2 s.2)↔((t.1≤x∧x≤t.2)∨(s.1≤x∧x≤s.2)):=zo;show ((t.1≤x∧x≤max t.2 s.2)∨_)∨_↔_;rw[this];constructor
   ·rintro (((h | h) | h) | h)
    ·exact .inl (.inl h)
    ·exact .inr (.inl h)
    ·exact .inl (.inr h)
    ·exact .inr (.inr h)
   ·rintro ((h | h) | (h | h))
    ·exact .inl (.inl (.inl h))
    ·exact .inl (.inr h)
    ·exact .inl (.inl (.inr h))
    ·exact .inr h
  ·rw[zH hj];obtain⟨h1,h2⟩:=o5 l (s::t::out) hok' hs'.2
    ⟨fun u hu=>by
     rcases List.mem_cons.1 hu with rfl | hu
     ·exact hk
     ·exact hn.ok u hu,
     List.pairwise_cons.2 ⟨fun u hu=>by
      rcases List.mem_cons.1 hu with rfl | hu
      ·omega
      ·have:=hn'.1 u hu;omega,hn.sep⟩⟩
    (fun u hu v hv=>by
     rcases List.mem_cons.1 hu with rfl | hu
     ·exact hs'.1 v hv
     ·exact hle u hu v (zR _ hv))
   refine ⟨h1,fun x=>?_⟩;rw[h2,bH (s:=s),bH (s:=s)];constructor
   ·rintro ((h | h) | h)
    ·exact .inr (.inl h)
    ·exact .inl h
    ·exact .inr (.inr h)
   ·rintro (h | (h | h))
    ·exact .inl (.inr h)
    ·exact .inl (.inl h)
    ·exact .inr h
def insS:Spn→Bool→List Spn→List Spn
 | s,d,[]=>if d then [] else [s]
 | s,d,x::r=>if x.2+1<s.1 then x::insS s d r else if s.2+1<x.1 then (if d then [] else [s]) ++ x::insS s true r else insS (min s.1 x.1,max s.2 x.2) d r
theorem ED {s:Spn}:∀{r:List Spn},(∀t∈r,s.2+1<t.1)→insS s true r=r
 | [],_=>rfl
 | x::r,h=>by
  have h1:=h x (yA ..);have ih:=ED (s:=s) (r:=r) fun t ht=>h t (zR _ ht);unfold insS;rw[ih];by_cases h2:x.2+1<s.1
  ·rw[zI h2]
  ·rw[zH h2,zI h1,zI rfl];rfl
theorem Norm.first {l:List Spn} (h:Norm l) {t:Spn} (ht:t∈l):mems l t.1:=⟨t,ht,Int.le_refl _,h.ok t ht⟩
theorem xD:∀(out:List Spn) (s:Spn),s.1≤s.2→Norm out→Norm (insS s false out)∧∀x,mems (insS s false out) x↔(s.1≤x∧x≤s.2)∨mems out x
 | [],s,hs,_=>⟨.cons hs (fun t ht=>by cases ht) .nil,fun x=>by simp[insS,bH,fV]⟩
 | y::r,s,hs,hn=>by
  have hy:=hn.head;unfold insS;by_cases h1:y.2+1<s.1
  ·rw[zI h1];obtain⟨a,b⟩:=xD r s hs hn.tail;refine ⟨.cons hy (fun t ht=>?_) a,fun x=>?_⟩
   ·rcases (b _).1 (a.first ht) with h | h
    ·omega
    ·exact hn.after h
   ·rw[bH,b,bH];constructor
    ·rintro (h | h | h)
     ·exact .inr (.inl h)
     ·exact .inl h
     ·exact .inr (.inr h)
    ·rintro (h | h | h)
     ·exact .inr (.inl h)
     ·exact .inl h
     ·exact .inr (.inr h)
  ·rw[zH h1];by_cases h2:s.2+1<y.1
   ·rw[zI h2,zH zD,ED fun t ht=>by have:=(List.pairwise_cons.1 hn.sep).1 t ht;omega];refine ⟨.cons hs (fun t ht=>?_) hn,fun x=>bH⟩;rcases List.mem_cons.1 ht with rfl | ht
    ·exact h2
    ·have:=(List.pairwise_cons.1 hn.sep).1 t ht;omega
   ·rw[zH h2];obtain⟨a,b⟩:=xD r (min s.1 y.1,max s.2 y.2) (by show min s.1 y.1≤max s.2 y.2;omega) hn.tail;refine ⟨a,fun x=>?_⟩;rw[b,bH];have:(min s.1 y.1≤x∧x≤max s.2 y.2)↔((s.1≤x∧x≤s.2)∨(y.1≤x∧x≤y.2)):=zo;show ((min s.1 y.1≤x∧x≤max s.2 y.2)∨_)↔_;rw[this,or_assoc]
def fP (l:List Spn):List Spn:=l.foldl (fun out s=>if s.2<s.1 then out else insS s false out) []
theorem tH:∀(l out:List Spn),Norm out→Norm (l.foldl (fun out s=>if s.2<s.1 then out else insS s false out) out) ∧
 ∀x,mems (l.foldl (fun out s=>if s.2<s.1 then out else insS s false out) out) x↔mems out x∨mems l x
 | [],out,hn=>⟨hn,fun x=>by simp[fV]⟩
 | s::l,out,hn=>by
  rw[List.foldl_cons];by_cases h:s.2<s.1
  ·rw[zI h];obtain⟨a,b⟩:=tH l out hn;refine ⟨a,fun x=>?_⟩;rw[b,bH];have:¬ (s.1≤x∧x≤s.2):=zo;simp[this]
  ·rw[zH h];obtain⟨a0,b0⟩:=xD out s zo hn;obtain⟨a,b⟩:=tH l _ a0;refine ⟨a,fun x=>?_⟩;rw[b,b0,bH];constructor
   ·rintro ((h | h) | h)
    ·exact .inr (.inl h)
    ·exact .inl h
    ·exact .inr (.inr h)
   ·rintro (h | h | h)
    ·exact .inl (.inr h)
    ·exact .inl (.inl h)
    ·exact .inr h
theorem dx (l:List Spn):Norm (fP l)∧∀x,mems (fP l) x↔mems l x:=by
 obtain⟨a,b⟩:=tH l [] .nil;exact⟨a,fun x=>by rw[fP,b];simp[fV]⟩
def jC:List Spn→Int→Int→List Spn
 | [],lo,hi=>if lo≤hi then [(lo,hi)] else []
 | s::r,lo,hi=>(if lo<s.1 then [(lo,s.1 - 1)] else []) ++ jC r (s.2+1) hi
theorem mh:∀(l:List Spn) (lo hi:Int),Norm l→(∀s∈l,lo≤s.1∧s.2≤hi)→Norm (jC l lo hi)∧∀x,mems (jC l lo hi) x↔(lo≤x∧x≤hi)∧¬ mems l x
 | [],lo,hi,_,_=>by
  unfold jC;by_cases h:lo≤hi
  ·rw[zI h];exact⟨.cons h (fun t ht=>by cases ht) .nil,fun x=>by simp[bH,fV]⟩
  ·rw[zH h]
   exact⟨.nil,fun x=>⟨fun hx=>absurd hx (fV _),fun hx=>zo⟩⟩
 | s::r,lo,hi,hn,hb=>by
  have h0:=hb s (yA ..);have hs:=hn.head;obtain⟨a,b⟩:=mh r (s.2+1) hi hn.tail fun t ht=>⟨by have:=(List.pairwise_cons.1 hn.sep).1 t ht;omega,(hb t (zR _ ht)).2⟩;unfold jC;have key:∀x,((lo≤x∧x<s.1)∨mems (jC r (s.2+1) hi) x)↔(lo≤x∧x≤hi)∧¬ mems (s::r) x:=fun x=>by
   rw[b,bH];constructor
   ·rintro (h | ⟨h1,h2⟩)
    ·refine ⟨zo,?_⟩;rintro (h3 | h3)
     ·omega
     ·have:=hn.after h3;omega
    ·refine ⟨zo,?_⟩;rintro (h3 | h3)
     ·omega
     ·exact h2 h3
   ·rintro ⟨h1,h2⟩;by_cases hx:x<s.1
    ·exact .inl ⟨h1.1,hx⟩
    ·refine .inr ⟨⟨?_,h1.2⟩,fun h3=>h2 (.inr h3)⟩;refine Int.not_lt.1 fun hlt=>h2 (.inl ⟨zo,zo⟩)
  by_cases h:lo<s.1
  ·rw[zI h];refine ⟨.cons (by show lo≤s.1 - 1;omega) (fun t ht=>?_) a,fun x=>?_⟩
   ·have:=((b _).1 (a.first ht)).1;show s.1 - 1+1<t.1;omega
   ·rw[List.singleton_append,bH,← key];show (lo≤x∧x≤s.1 - 1)∨_↔_;rw[show (lo≤x∧x≤s.1 - 1)↔(lo≤x∧x<s.1) by omega]
  ·rw[zH h];refine ⟨a,fun x=>?_⟩;rw[List.nil_append,← key];constructor
   ·exact .inr
   ·rintro (h1 | h1)
    ·omega
    ·exact h1
end Cl
namespace Cl
def fA (u:Int):Int:=u / 10000*9999+u % 10000 - 1
def bL (k:Int):Int:=k / 9999*10000+k % 9999+1
theorem kH {u:Int} (h:u % 10000≠0):bL (fA u)=u:=by unfold bL fA;omega
theorem F4 (k:Int):fA (bL k)=k:=by unfold bL fA;omega
theorem qj (k:Int):bL k % 10000≠0:=by unfold bL;omega
theorem tq {u v:Int} (hu:u % 10000≠0) (hv:v % 10000≠0):fA u≤fA v↔u≤v:=by unfold fA;omega
theorem iB {k l:Int}:bL k≤bL l↔k≤l:=by unfold bL;omega
def iN (u:Int):Int:=if (u+1) % 10000=0 then u+2 else u+1
def gV (u:Int):Int:=if (u - 1) % 10000=0 then u - 2 else u - 1
theorem uT (k:Int):iN (bL k)=bL (k+1):=by unfold iN bL;split <;> omega
theorem CJ (k:Int):gV (bL k)=bL (k - 1):=by unfold gV bL;split <;> omega
end Cl
namespace Cl
theorem MW {l p:List Spn} (h:p.Perm l) (x:Int):mems p x↔mems l x:=by
 simp only[mems,h.mem_iff]
theorem EA {l p:List Spn} (hp:p.Perm l) (hs:p.Pairwise fun s t=>s.1≤t.1) (hok:∀s∈l,s.1≤s.2):(qE p []).reverse=fP l:=by
 obtain⟨a,b⟩:=o5 p [] (fun s h=>hok s (hp.mem_iff.1 h)) hs ⟨fun s h=>(by cases h),.nil⟩ (fun t h=>(by cases h));refine kP a.rev (dx l).1 fun x=>?_;rw[Es,b,(dx l).2,MW hp];simp[fV]
def lJ (s:Spn):Spn:=(fA s.1,fA s.2)
def eH (s:Spn):Spn:=(bL s.1,bL s.2)
def jB (nx:Int→Int):List Spn→List Spn→List Spn
 | [],out=>out
 | s::l,[]=>jB nx l [s]
 | s::l,t::out=>if s.1≤nx t.2 then jB nx l ((t.1,max t.2 s.2)::out) else jB nx l (s::t::out)
theorem qF:∀l out:List Spn,jB (fun n=>n+1) l out=qE l out
 | [],out=>rfl
 | s::l,[]=>by simp only[jB,qE,qF]
 | s::l,t::out=>by simp only[jB,qE,qF]
theorem JH (k l:Int):max (bL k) (bL l)=bL (max k l):=by unfold bL;omega
theorem mR:∀l out:List Spn,jB iN (l.map eH) (out.map eH)=(qE l out).map eH
 | [],out=>rfl
 | s::l,[]=>by
  have ih:=mR l [s]
  simpa only[jB,qE,yG,List.map_nil] using ih
 | s::l,t::out=>by
  simp only[yG,jB,qE];show (if bL s.1≤iN (bL t.2) then jB iN (l.map eH) ((bL t.1,max (bL t.2) (bL s.2))::out.map eH) else _)=_;rw[uT];by_cases h:s.1≤t.2+1
  ·rw[zI (iB.2 h),zI h,JH];exact mR l ((t.1,max t.2 s.2)::out)
  ·rw[zH (fun e=>h (iB.1 e)),zH h];exact mR l (s::t::out)
def fG:Int:=100000000000
def maxU:Int:=1000000000000000
def lL (s:Spn):Spn:=(max s.1 (-fG),min s.2 fG)
def ma (l:List Spn):List Spn:=(l.map lL).filter fun s=>decide (s.1≤s.2)
def trimF (s:Spn):Spn:=(if s.1 % 10000=0 then s.1+1 else s.1,if s.2 % 10000=0 then s.2 - 1 else s.2)
def iH (s:Spn):Spn:=trimF (max s.1 (-maxU),min s.2 maxU)
def jM (l:List Spn):List Spn:=(l.map iH).filter fun s=>decide (s.1≤s.2)
theorem IZ {l:List Spn}:∀s∈ma l,s.1≤s.2:=fun s h=>by simpa using (List.mem_filter.1 h).2
theorem I5 {l:List Spn}:∀s∈jM l,s.1≤s.2:=fun s h=>by simpa using (List.mem_filter.1 h).2
theorem LJ (s:Spn):(trimF s).1 % 10000≠0∧(trimF s).2 % 10000≠0:=by
 unfold trimF;constructor
 ·show (if s.1 % 10000=0 then s.1+1 else s.1) % 10000≠0
  split <;> omega
 ·show (if s.2 % 10000=0 then s.2 - 1 else s.2) % 10000≠0
  split <;> omega
theorem oZ {l:List Spn}:∀s∈jM l,s.1 % 10000≠0∧s.2 % 10000≠0:=fun s h=>by
 obtain⟨t,-,rfl⟩:=List.mem_map.1 (List.mem_filter.1 h).1;exact LJ _
def lD (l:List Spn):List Spn:=fP (ma l)
def jN (l:List Spn):List Spn:=fP ((jM l).map lJ)
theorem Mo {l:List Spn}:∀s∈(jM l).map lJ,s.1≤s.2:=fun s h=>by
 obtain⟨t,ht,rfl⟩:=List.mem_map.1 h;obtain⟨h1,h2⟩:=oZ t ht;exact (tq h1 h2).2 (I5 t ht)
theorem M4 {l p:List Spn} (hp:p.Perm (ma l)) (hs:p.Pairwise fun s t=>s.1≤t.1):(jB (fun n=>n+1) p []).reverse=lD l:=by
 rw[qF];exact EA hp hs IZ
theorem Kq {l p:List Spn} (hp:p.Perm (jM l)) (hs:p.Pairwise fun s t=>s.1≤t.1):(jB iN p []).reverse=(jN l).map eH:=by
 have hf:∀s∈p,s.1 % 10000≠0∧s.2 % 10000≠0:=fun s h=>oZ s (hp.mem_iff.1 h);have e:(p.map lJ).map eH=p:=by
  rw[List.map_map];refine (List.map_congr_left fun s h=>?_).trans (List.map_id _);obtain⟨h1,h2⟩:=hf s h;show (bL (fA s.1),bL (fA s.2))=s;rw[kH h1,kH h2]
 have hs':(p.map lJ).Pairwise fun s t=>s.1≤t.1:=by
  refine List.pairwise_map.2 (hs.imp_of_mem fun {a b} ha hb h=>?_);exact (tq (hf a ha).1 (hf b hb).1).2 h
 have key:=EA (hp.map lJ) hs' Mo;rw[← e];rw[show ([]:List Spn)=([]:List Spn).map eH from rfl,mR,← List.map_reverse,key]
 rfl
end Cl
namespace Cl
structure NS where
 i:List Spn
 f:List Spn
def jT:Int := -999900000000000
def nX:Int:=999899999999999
structure NSok (x:NS):Prop where
 ni:Norm x.i
 nf:Norm x.f
 bi:∀s∈x.i,-fG≤s.1∧s.2≤fG
 bf:∀s∈x.f,jT≤s.1∧s.2≤nX
def NS.rf (x:NS):List Spn:=x.f.map eH
def mkN (I F:List Spn):NS:=⟨lD I,jN F⟩
def bG (u:Int):Prop := -maxU≤u∧u≤maxU
instance (u:Int):Decidable (bG u):=by unfold bG;infer_instance
def NS.has (x:NS) (u:Int):Prop:=(u % 10000=0∧mems x.i (u / 10000))∨(u % 10000≠0∧mems x.f (fA u))
def nO (I F:List Spn) (u:Int):Prop:=(u % 10000=0∧mems I (u / 10000))∨(u % 10000≠0∧mems F u)
def mi:NS:=⟨[],[]⟩
theorem tJ {l:List Spn} (h:Norm l) {lo hi:Int} (hm:∀x,mems l x→lo≤x∧x≤hi):∀s∈l,lo≤s.1∧s.2≤hi:=fun s hs=>
 ⟨(hm s.1 ⟨s,hs,Int.le_refl _,h.ok s hs⟩).1,(hm s.2 ⟨s,hs,h.ok s hs,Int.le_refl _⟩).2⟩
theorem Br {l:List Spn} {lo hi:Int} (h:∀s∈l,lo≤s.1∧s.2≤hi) {x:Int} (hx:mems l x):lo≤x∧x≤hi:=by
 obtain⟨s,hs,h1,h2⟩:=hx;have:=h s hs;omega
theorem Kl {l:List Spn} {x:Int}:mems (ma l) x↔(-fG≤x∧x≤fG)∧mems l x:=by
 constructor
 ·rintro ⟨s,hs,h1,h2⟩;obtain⟨hm,-⟩:=List.mem_filter.1 hs;obtain⟨t,ht,rfl⟩:=List.mem_map.1 hm;simp only[lL] at h1 h2;exact⟨zo,t,ht,zo,zo⟩
 ·rintro ⟨hb,t,ht,h1,h2⟩;refine ⟨lL t,List.mem_filter.2 ⟨List.mem_map.2 ⟨t,ht,rfl⟩,?_⟩,?_,?_⟩
  ·exact zL (show max t.1 (-fG)≤min t.2 fG by omega)
  ·show max t.1 (-fG)≤x;omega
  ·show x≤min t.2 fG;omega
theorem LK {s:Spn} {u:Int} (hu:u % 10000≠0):((trimF s).1≤u∧u≤(trimF s).2)↔s.1≤u∧u≤s.2:=by
 have e1:(trimF s).1=if s.1 % 10000=0 then s.1+1 else s.1:=rfl;have e2:(trimF s).2=if s.2 % 10000=0 then s.2 - 1 else s.2:=rfl;rw[e1,e2];by_cases h1:s.1 % 10000=0 <;> by_cases h2:s.2 % 10000=0 <;> simp only[h1,h2,if_true,if_false] <;> omega
theorem Fb {t:Spn} {u:Int} (hu:u % 10000≠0):((iH t).1≤u∧u≤(iH t).2)↔bG u∧t.1≤u∧u≤t.2:=by
 unfold iH;rw[LK hu];show (max t.1 (-maxU)≤u∧u≤min t.2 maxU)↔_;simp only[bG];omega
theorem Km {l:List Spn} {u:Int} (hu:u % 10000≠0):mems (jM l) u↔bG u∧mems l u:=by
 constructor
 ·rintro ⟨s,hs,h1,h2⟩;obtain⟨hm,-⟩:=List.mem_filter.1 hs;obtain⟨t,ht,rfl⟩:=List.mem_map.1 hm;obtain⟨h3,h4⟩:=(Fb hu).1 ⟨h1,h2⟩;exact⟨h3,t,ht,h4⟩
 ·rintro ⟨hb,t,ht,h⟩;have h3:=(Fb (t:=t) hu).2 ⟨hb,h⟩;exact⟨iH t,List.mem_filter.2 ⟨List.mem_map.2 ⟨t,ht,rfl⟩,by simp only[decide_eq_true_eq];omega⟩,h3⟩
theorem MV {l:List Spn} (hl:∀s∈l,s.1 % 10000≠0∧s.2 % 10000≠0) {u:Int} (hu:u % 10000≠0):mems (l.map lJ) (fA u)↔mems l u:=by
 constructor
 ·rintro ⟨s,hs,h1,h2⟩;obtain⟨t,ht,rfl⟩:=List.mem_map.1 hs;have:=hl t ht;exact⟨t,ht,(tq this.1 hu).1 h1,(tq hu this.2).1 h2⟩
 ·rintro ⟨t,ht,h1,h2⟩;have:=hl t ht;exact⟨lJ t,List.mem_map.2 ⟨t,ht,rfl⟩,(tq this.1 hu).2 h1,(tq hu this.2).2 h2⟩
theorem mO {l:List Spn} {u:Int} (hu:u % 10000≠0):mems (l.map eH) u↔mems l (fA u):=by
 constructor
 ·rintro ⟨s,hs,h1,h2⟩;obtain⟨t,ht,rfl⟩:=List.mem_map.1 hs;rw[← kH hu] at h1 h2;exact⟨t,ht,iB.1 h1,iB.1 h2⟩
 ·rintro ⟨t,ht,h1,h2⟩;refine ⟨eH t,List.mem_map.2 ⟨t,ht,rfl⟩,?_,?_⟩
  ·rw[← kH hu];exact iB.2 h1
  ·rw[← kH hu];exact iB.2 h2
theorem kQ (I F:List Spn) (u:Int):(mkN I F).has u↔bG u∧nO I F u:=by
 simp only[NS.has,mkN,nO];by_cases hu:u % 10000=0
 ·simp only[hu,ne_eq,not_true_eq_false,false_and,or_false,true_and,lD,(dx _).2,Kl];have:(-fG≤u / 10000∧u / 10000≤fG)↔bG u:=by simp only[bG,fG,maxU];omega
  rw[this]
 ·simp only[hu,ne_eq,not_false_eq_true,false_and,false_or,true_and,jN,(dx _).2];rw[MV oZ hu,Km hu]
theorem NSok.jr {x:NS} (h:NSok x) {u:Int} (hu:x.has u):bG u:=by
 rcases hu with ⟨h1,h2⟩ | ⟨h1,h2⟩
 ·have:=Br h.bi h2;simp only[bG,fG,maxU] at *
  omega
 ·have:=Br h.bf h2;simp only[bG,maxU,jT,nX,fA] at *
  omega
theorem NSok.Pj {x:NS} {n:Int}:mems x.i n↔x.has (n*10000):=by
 simp only[NS.has];rw[show n*10000 % 10000=0 by omega,show n*10000 / 10000=n by omega];simp
theorem NSok.QT {x:NS} {k:Int}:mems x.f k↔x.has (bL k):=by
 simp only[NS.has,F4];have:=qj k;constructor
 ·exact fun h=>.inr ⟨this,h⟩
 ·rintro (⟨h1,-⟩ | ⟨-,h2⟩)
  ·exact absurd h1 this
  ·exact h2
theorem rD {x y:NS} (hx:NSok x) (hy:NSok y) (h:∀u,x.has u↔y.has u):x=y:=by
 obtain⟨xi,xf⟩:=x;obtain⟨yi,yf⟩:=y;have h1:xi=yi:=kP hx.ni hy.ni fun n=>(NSok.Pj (x:=⟨xi,xf⟩)).trans ((h _).trans (NSok.Pj (x:=⟨yi,yf⟩)).symm);have h2:xf=yf:=kP hx.nf hy.nf fun n=>(NSok.QT (x:=⟨xi,xf⟩)).trans ((h _).trans (NSok.QT (x:=⟨yi,yf⟩)).symm);rw[h1,h2]
theorem NSok.of {x:NS} (h1:Norm x.i) (h2:Norm x.f) (hv:∀u,x.has u→bG u):NSok x:=by
 refine ⟨h1,h2,tJ h1 fun n hn=>?_,tJ h2 fun k hk=>?_⟩
 ·have:=hv _ (NSok.Pj.1 hn);simp only[bG,fG,maxU] at *
  omega
 ·have:=hv _ (NSok.QT.1 hk);simp only[bG,jT,nX,maxU,bL] at *
  omega
theorem gG (I F:List Spn):NSok (mkN I F):=.of (dx _).1 (dx _).1 fun u h=>((kQ I F u).1 h).1
theorem kU:NSok mi:=⟨.nil,.nil,fun s h=>(by cases h),fun s h=>(by cases h)⟩
theorem jg (u:Int):¬ mi.has u:=by
 rintro (⟨-,h⟩ | ⟨-,h⟩) <;> exact fV _ h
theorem wF (x:NS) (u:Int):nO x.i x.rf u↔x.has u:=by
 simp only[nO,NS.has,NS.rf];by_cases hu:u % 10000=0
 ·simp[hu]
 ·simp only[hu,false_and,false_or,ne_eq,not_false_eq_true,true_and];exact mO hu
theorem gF {x:NS} (h:NSok x):mkN x.i x.rf=x:=rD (gG _ _) h fun u=>by
 rw[kQ,wF];exact⟨And.right,fun hu=>⟨h.jr hu,hu⟩⟩
theorem QS:mkN [] []=mi:=by
 refine rD (gG _ _) kU fun u=>?_;rw[kQ];refine ⟨fun h=>?_,fun h=>absurd h (jg u)⟩;rcases h.2 with ⟨-,h⟩ | ⟨-,h⟩ <;> exact absurd h (fV _)
def notN (x:NS):NS:=⟨jC x.i (-fG) fG,jC x.f jT nX⟩
def orN (x y:NS):NS:=⟨fP (x.i ++ y.i),fP (x.f ++ y.f)⟩
def andN (x y:NS):NS:=notN (orN (notN x) (notN y))
def bY (x y:NS):NS:=andN x (notN y)
def allN:NS:=⟨[(-fG,fG)],[(jT,nX)]⟩
def C9:NS:=⟨[(-fG,fG)],[]⟩
theorem lC {x:NS} (h:NSok x) (u:Int):(notN x).has u↔bG u∧¬ x.has u:=by
 have a:=mh x.i (-fG) fG h.ni h.bi;have b:=mh x.f jT nX h.nf h.bf;simp only[NS.has,notN];by_cases hu:u % 10000=0
 ·simp only[hu,ne_eq,not_true_eq_false,false_and,or_false,true_and,a.2];have:(-fG≤u / 10000∧u / 10000≤fG)↔bG u:=by simp only[bG,fG,maxU];omega
  rw[this]
 ·simp only[hu,ne_eq,not_false_eq_true,false_and,false_or,true_and,b.2];have:(jT≤fA u∧fA u≤nX)↔bG u:=by simp only[bG,jT,nX,maxU,fA];omega
  rw[this]
theorem ik {x:NS} (h:NSok x):NSok (notN x):=.of (mh x.i _ _ h.ni h.bi).1 (mh x.f _ _ h.nf h.bf).1 fun u hu=>((lC h u).1 hu).1
theorem wU (x y:NS) (u:Int):(orN x y).has u↔x.has u∨y.has u:=by
 simp only[NS.has,orN,(dx _).2,xg];by_cases hu:u % 10000=0 <;> simp[hu]
theorem uJ {x y:NS} (hx:NSok x) (hy:NSok y):NSok (orN x y):=.of (dx _).1 (dx _).1 fun u hu=>((wU x y u).1 hu).elim hx.jr hy.jr
theorem Ic {x y:NS} (hx:NSok x) (hy:NSok y):NSok (andN x y):=ik (uJ (ik hx) (ik hy))
theorem CL {x y:NS} (hx:NSok x) (hy:NSok y) (u:Int):(andN x y).has u↔x.has u∧y.has u:=by
 unfold andN;rw[lC (uJ (ik hx) (ik hy)),wU,lC hx,lC hy];constructor
 ·rintro ⟨hv,h⟩;constructor
  ·exact zN fun hn=>h (.inl ⟨hv,hn⟩)
  ·exact zN fun hn=>h (.inr ⟨hv,hn⟩)
 ·rintro ⟨h1,h2⟩;refine ⟨hx.jr h1,?_⟩;rintro (⟨-,h⟩ | ⟨-,h⟩)
  ·exact h h1
  ·exact h h2
theorem dX {x y:NS} (hx:NSok x) (hy:NSok y):NSok (bY x y):=Ic hx (ik hy)
theorem eO {x y:NS} (hx:NSok x) (hy:NSok y) (u:Int):(bY x y).has u↔x.has u∧¬ y.has u:=by
 unfold bY;rw[CL hx (ik hy),lC hy];exact⟨fun h=>⟨h.1,h.2.2⟩,fun h=>⟨h.1,hx.jr h.1,h.2⟩⟩
theorem Ig:NSok allN:=by
 refine ⟨.cons zD (fun t ht=>(by cases ht)) .nil,.cons zD (fun t ht=>(by cases ht)) .nil,?_,?_⟩
 ·intro s hs;simp only[allN,zU] at hs;subst hs;exact⟨Int.le_refl _,Int.le_refl _⟩
 ·intro s hs;simp only[allN,zU] at hs;subst hs;exact⟨Int.le_refl _,Int.le_refl _⟩
theorem rG {a b x:Int}:mems [(a,b)] x↔a≤x∧x≤b:=by rw[bH];simp[fV]
theorem Qc (u:Int):allN.has u↔bG u:=by
 simp only[NS.has,allN,rG];by_cases hu:u % 10000=0
 ·simp only[hu,true_and,ne_eq,not_true_eq_false,false_and,or_false,bG,fG,maxU];omega
 ·simp only[hu,false_and,ne_eq,not_false_eq_true,true_and,false_or,bG,jT,nX,maxU,fA];omega
theorem Lm:NSok C9:=⟨Ig.ni,.nil,Ig.bi,fun s h=>(by cases h)⟩
theorem JD (u:Int):C9.has u↔bG u∧u % 10000=0:=by
 simp only[NS.has,C9,rG,bG,fG,maxU];have:=fV (fA u);by_cases hu:u % 10000=0
 ·simp only[hu,true_and,ne_eq,not_true_eq_false,false_and,or_false,and_true];omega
 ·simp only[hu,false_and,ne_eq,not_false_eq_true,false_or,and_false,this]
theorem Ql (I F I' F':List Spn):mkN (I ++ I') (F ++ F')=orN (mkN I F) (mkN I' F'):=rD (gG _ _) (uJ (gG _ _) (gG _ _)) fun u=>by
 rw[wU,kQ,kQ,kQ,← and_or_left];refine and_congr_right fun _=>?_;simp only[nO,xg];by_cases hu:u % 10000=0 <;> simp[hu]
def kg (x y:Spn):Spn:=(max x.1 y.1,min x.2 y.2)
def dP (a b:List Spn):List Spn:=a.flatMap fun x=>(b.map (kg x)).filter fun z=>decide (z.1≤z.2)
theorem Gr {a b:List Spn} {u:Int}:mems (dP a b) u↔mems a u∧mems b u:=by
 constructor
 ·rintro ⟨s,hs,h1,h2⟩;obtain⟨x,hx,hs⟩:=List.mem_flatMap.1 hs;obtain⟨hm,-⟩:=List.mem_filter.1 hs;obtain⟨y,hy,rfl⟩:=List.mem_map.1 hm;simp only[kg] at h1 h2;exact⟨⟨x,hx,zo,zo⟩,y,hy,zo,zo⟩
 ·rintro ⟨⟨x,hx,h1,h2⟩,y,hy,h3,h4⟩;refine ⟨kg x y,List.mem_flatMap.2 ⟨x,hx,List.mem_filter.2 ⟨List.mem_map.2 ⟨y,hy,rfl⟩,?_⟩⟩,?_,?_⟩
  ·exact zL (show max x.1 y.1≤min x.2 y.2 by omega)
  ·simp only[kg];omega
  ·simp only[kg];omega
theorem Rs {x y:NS} (hx:NSok x) (hy:NSok y):mkN (dP x.i y.i) (dP x.rf y.rf)=andN x y:=rD (gG _ _) (Ic hx hy) fun u=>by
 rw[CL hx hy,kQ,← wF x,← wF y];simp only[nO,Gr];by_cases hu:u % 10000=0
 ·simp only[hu,ne_eq,not_true_eq_false,false_and,or_false,true_and];exact⟨And.right,fun h=>⟨hx.jr (.inl ⟨hu,h.1⟩),h⟩⟩
 ·simp only[hu,ne_eq,not_false_eq_true,false_and,false_or,true_and];exact⟨And.right,fun h=>⟨hx.jr (.inr ⟨hu,(mO hu).1 h.1⟩),h⟩⟩
def gD (nx pv:Int→Int):List Spn→Int→Int→List Spn
 | [],lo,hi=>if lo≤hi then [(lo,hi)] else []
 | s::r,lo,hi=>(if lo≤pv s.1 then [(lo,pv s.1)] else []) ++ gD nx pv r (nx s.2) hi
theorem qG:∀(l:List Spn) (lo hi:Int),gD (fun n=>n+1) (fun n=>n - 1) l lo hi=jC l lo hi
 | [],_,_=>rfl
 | s::r,lo,hi=>by
  simp only[gD,jC,qG];by_cases h:lo<s.1
  ·rw[zI h,zI zo]
  ·rw[zH h,zH zo]
theorem Bf:∀(l:List Spn) (lo hi:Int),gD iN gV (l.map eH) (bL lo) (bL hi)=(jC l lo hi).map eH
 | [],lo,hi=>by
  simp only[gD,jC,List.map_nil];by_cases h:lo≤hi
  ·rw[zI h,zI (iB.2 h)];rfl
  ·rw[zH h,zH (fun e=>h (iB.1 e))];rfl
 | s::r,lo,hi=>by
  simp only[gD,jC,yG];show (if bL lo≤gV (bL s.1) then [(bL lo,gV (bL s.1))] else []) ++ gD iN gV (r.map eH) (iN (bL s.2)) (bL hi)=_;rw[CJ,uT,Bf,yD];by_cases h:lo<s.1
  ·rw[zI h,zI (iB.2 zo)];rfl
  ·rw[zH h,zH (fun e=>h (by have:=iB.1 e;omega))];rfl
theorem Nv (x:NS):gD iN gV x.rf (1 - maxU) (maxU - 1)=(notN x).rf:=by
 have e1:(1 - maxU:Int)=bL jT:=by decide
 have e2:(maxU - 1:Int)=bL nX:=by decide
 rw[e1,e2];exact Bf x.f jT nX
theorem QR {x:NS} (h:NSok x):mkN (gD (fun n=>n+1) (fun n=>n - 1) x.i (-fG) fG) (gD iN gV x.rf (1 - maxU) (maxU - 1))=notN x:=by
 rw[qG,Nv];exact gF (ik h)
def ltN (u:Int):NS:=mkN [(-fG,(u - 1) / 10000)] [(-maxU,u - 1)]
def leN (u:Int):NS:=mkN [(-fG,u / 10000)] [(-maxU,u)]
def eqN (u:Int):NS:=mkN [(-(-u / 10000),u / 10000)] [(u,u)]
theorem Cg (u v:Int):(ltN u).has v↔bG v∧v<u:=by
 unfold ltN;rw[kQ];refine and_congr_right fun hv=>?_;simp only[nO,rG,fG,maxU,bG] at *
 omega
theorem Cj (u v:Int):(leN u).has v↔bG v∧v≤u:=by
 unfold leN;rw[kQ];refine and_congr_right fun hv=>?_;simp only[nO,rG,fG,maxU,bG] at *
 omega
theorem xM (u v:Int):(eqN u).has v↔bG v∧v=u:=by
 unfold eqN;rw[kQ];refine and_congr_right fun hv=>?_;simp only[nO,rG];omega
theorem rJ (u:Int):NSok (ltN u):=gG _ _
theorem xu (u:Int):NSok (leN u):=gG _ _
theorem pW (u:Int):NSok (eqN u):=gG _ _
theorem R8 (u:Int):orN (ltN u) (eqN u)=leN u:=rD (uJ (rJ u) (pW u)) (xu u) fun v=>by
 rw[wU,Cg,xM,Cj,← and_or_left];exact and_congr_right fun _=>zo
theorem Je (u:Int):bY (leN u) (ltN u)=eqN u:=rD (dX (xu u) (rJ u)) (pW u) fun v=>by
 rw[eO (xu u) (rJ u),Cg,xM,Cj];constructor
 ·rintro ⟨⟨h1,h2⟩,h3⟩;refine ⟨h1,?_⟩;have:¬ v<u:=fun h=>h3 ⟨h1,h⟩;omega
 ·rintro ⟨h1,rfl⟩;exact⟨⟨h1,Int.le_refl _⟩,fun h=>zo⟩
end Cl
namespace Cl
def near (u v:Int):Prop:=max u (-u)<max v (-v)∨(max u (-u)=max v (-v)∧v<u)
instance (u v:Int):Decidable (near u v):=by unfold near;infer_instance
theorem wZ (u:Int):¬ near u u:=by unfold near;omega
theorem jK {a b c:Int} (h:near a b) (k:near b c):near a c:=by unfold near at *;omega
theorem lY {a b:Int} (h:a≠b):near a b∨near b a:=by unfold near;omega
theorem kD {a b:Int} (h:near a b):¬ near b a:=by unfold near at *;omega
structure gW (p:Int→Prop) (r:Option Int):Prop where
 no:r=none→∀u,¬ p u
 one:∀u,r=some u→p u∧∀v,p v→v=u∨near u v
theorem gW.unique {p:Int→Prop} {r s:Option Int} (h:gW p r) (k:gW p s):r=s:=by
 cases r with
 | none=>cases s with
  | none=>rfl
  | some u=>exact absurd (k.one u rfl).1 (h.no rfl u)
 | some u=>cases s with
  | none=>exact absurd (h.one u rfl).1 (k.no rfl u)
  | some v=>
   obtain⟨h1,h2⟩:=h.one u rfl;obtain⟨k1,k2⟩:=k.one v rfl;rcases h2 v k1 with e | e
   ·rw[e]
   ·rcases k2 u h1 with e' | e'
    ·rw[e']
    ·exact absurd e (kD e')
theorem gW.congr {p q:Int→Prop} {r:Option Int} (h:gW p r) (e:∀u,p u↔q u):gW q r:=
 ⟨fun hr u hu=>h.no hr u ((e u).2 hu),fun u hr=>⟨(e u).1 (h.one u hr).1,fun v hv=>(h.one u hr).2 v ((e v).2 hv)⟩⟩
def dN:List Int→Option Int→Option Int
 | [],b=>b
 | u::l,none=>dN l (some u)
 | u::l,some b=>dN l (some (if near u b then u else b))
theorem qO:∀(l:List Int) (b:Option Int),gW (fun u=>u∈l∨b=some u) (dN l b)
 | [],none=>⟨fun _ u hu=>(by simp at hu),fun u hr=>(by cases hr)⟩
 | [],some b=>⟨fun h=>(by cases h),fun u hr=>⟨.inr hr,fun v hv=>by
  rcases hv with hv | hv
  ·cases hv
  ·rw[show dN [] (some b)=some b from rfl] at hr;rw[hr] at hv;cases hv;exact .inl rfl⟩⟩
 | u::l,none=>by
  refine (qO l (some u)).congr fun v=>?_;simp only[zV,Option.some.injEq,reduceCtorEq,or_false];constructor
  ·rintro (h | h)
   ·exact .inr h
   ·exact .inl h.symm
  ·rintro (h | h)
   ·exact .inr h.symm
   ·exact .inl h
 | u::l,some b=>by
  have ih:=qO l (some (if near u b then u else b));refine ⟨fun hr v hv=>?_,fun v hr=>?_⟩
  ·exact ih.no hr (if near u b then u else b) (.inr rfl)
  ·obtain⟨h1,h2⟩:=ih.one v hr;refine ⟨?_,fun x hx=>?_⟩
   ·rcases h1 with h1 | h1
    ·exact .inl (zR _ h1)
    ·simp only[Option.some.injEq] at h1;by_cases hn:near u b
     ·rw[zI hn] at h1;exact .inl (by rw[h1];exact yA ..)
     ·rw[zH hn] at h1;exact .inr (by rw[h1])
   ·
    have h3:=h2 (if near u b then u else b) (.inr rfl);rcases hx with hx | hx
    ·rcases List.mem_cons.1 hx with hx | hx
     ·subst hx;by_cases hn:near x b
      ·rw[zI hn] at h3;exact h3
      ·rw[zH hn] at h3;by_cases he:x=b
       ·rw[he];exact h3
       ·rcases lY he with h4 | h4
        ·exact absurd h4 hn
        ·rcases h3 with h3 | h3
         ·rw[← h3];exact .inr h4
         ·exact .inr (jK h3 h4)
     ·exact h2 x (.inl hx)
    ·simp only[Option.some.injEq] at hx;subst hx;by_cases hn:near u b
     ·rw[zI hn] at h3;rcases h3 with h3 | h3
      ·rw[← h3];exact .inr hn
      ·exact .inr (jK h3 hn)
     ·rw[zH hn] at h3;exact h3
theorem gW.MN {p:Int→Prop} {l:List Int} (h1:∀u∈l,p u) (h2:∀v,p v→∃u∈l,v=u∨near u v):gW p (dN l none):=by
 have h:=qO l none;refine ⟨fun hr v hv=>?_,fun u hr=>?_⟩
 ·obtain⟨u,hu,-⟩:=h2 v hv;exact h.no hr u (.inl hu)
 ·obtain⟨h3,h4⟩:=h.one u hr;refine ⟨h1 u (by simpa using h3),fun v hv=>?_⟩;obtain⟨x,hx,hxv⟩:=h2 v hv;rcases h4 x (.inl hx) with h5 | h5
  ·subst h5;exact hxv
  ·rcases hxv with h6 | h6
   ·subst h6;exact .inr h5
   ·exact .inr (jK h5 h6)
def df (s:Spn) (mid:Int):Int:=if s.1 > 0 then s.1 else if s.2<0 then s.2 else mid
def Sd (x:NS):List Int:=x.i.map (fun s=>df s 0*10000) ++ x.rf.map (fun s=>df s 1)
def bR (x:NS):Option Int:=dN (Sd x) none
theorem Qm {x:NS} {s:Spn} (hs:s∈x.rf):∃t∈x.f,s=eH t:=by
 obtain⟨t,ht,rfl⟩:=List.mem_map.1 hs;exact⟨t,ht,rfl⟩
theorem Au {x:NS} {s:Spn} (hs:s∈x.rf) {u:Int} (hu:u % 10000≠0) (h1:s.1≤u) (h2:u≤s.2):x.has u:=
 .inr ⟨hu,(mO hu).1 ⟨s,hs,h1,h2⟩⟩
theorem FX {x:NS} (h:NSok x) {s:Spn} (hs:s∈x.rf):s.1≤s.2∧s.1 % 10000≠0∧s.2 % 10000≠0:=by
 obtain⟨t,ht,rfl⟩:=Qm hs;exact⟨iB.2 (h.nf.ok t ht),qj _,qj _⟩
theorem KF {x:NS} {s:Spn} (hs:s∈x.i) {n:Int} (h1:s.1≤n) (h2:n≤s.2):x.has (n*10000):=NSok.Pj.1 ⟨s,hs,h1,h2⟩
theorem EG {x:NS} {u:Int} (h:x.has u):(∃s∈x.i,∃n,u=n*10000∧s.1≤n∧n≤s.2)∨(∃s∈x.rf,u % 10000≠0∧s.1≤u∧u≤s.2):=by
 rcases h with ⟨h1,s,hs,h2,h3⟩ | ⟨h1,h2⟩
 ·exact .inl ⟨s,hs,u / 10000,zo,h2,h3⟩
 ·obtain⟨s,hs,h3,h4⟩:=(mO h1).2 h2;exact .inr ⟨s,hs,h1,h3,h4⟩
theorem gq {x:NS} (h:NSok x):gW x.has (bR x):=by
 refine gW.MN (fun u hu=>?_) fun v hv=>?_
 ·rcases List.mem_append.1 hu with hu | hu
  ·obtain⟨s,hs,rfl⟩:=List.mem_map.1 hu;have:=h.ni.ok s hs;unfold df
   split
   ·exact KF hs (Int.le_refl _) this
   ·split
    ·exact KF hs this (Int.le_refl _)
    ·exact KF hs zo zo
  ·obtain⟨s,hs,rfl⟩:=List.mem_map.1 hu;obtain⟨e1,e2,e3⟩:=FX h hs;show x.has (df s 1);unfold df
   split
   ·exact Au hs e2 (Int.le_refl _) e1
   ·split
    ·exact Au hs e3 e1 (Int.le_refl _)
    ·exact Au hs zD zo zo
 ·rcases EG hv with ⟨s,hs,n,rfl,h1,h2⟩ | ⟨s,hs,h0,h1,h2⟩
  ·refine ⟨df s 0*10000,List.mem_append_left _ (List.mem_map.2 ⟨s,hs,rfl⟩),?_⟩;unfold df near
   split
   ·omega
   ·split
    ·omega
    ·omega
  ·refine ⟨df s 1,List.mem_append_right _ (List.mem_map.2 ⟨s,hs,rfl⟩),?_⟩;unfold df near
   split
   ·omega
   ·split
    ·omega
    ·have:v≠0:=fun e=>h0 (by rw[e];rfl);omega
def Ho (x:NS):List Int:=x.i.flatMap (fun s=>[s.1*10000,s.2*10000]) ++ x.rf.flatMap (fun s=>[s.1,s.2] ++ if s.1<0∧s.2 > 0 then [1] else [])
def CW (x:NS):Prop:=∃s∈x.i,s.1≤0∧s.2 ≥ 0
theorem Ku {x:NS} (hz:CW x):gW x.has (some 0):=by
 obtain⟨s,hs,h1,h2⟩:=hz;refine gW.mk (fun h=>by cases h) fun u hu=>?_;obtain rfl:0=u:=Option.some.inj hu;refine ⟨by simpa using KF hs h1 h2,fun v _=>?_⟩;unfold near;omega
theorem M8 {x:NS} (h:NSok x) (hz:¬ CW x):gW x.has (dN (Ho x) none):=by
 refine gW.MN (fun u hu=>?_) fun v hv=>?_
 ·rcases List.mem_append.1 hu with hu | hu
  ·obtain⟨s,hs,hu⟩:=List.mem_flatMap.1 hu;have:=h.ni.ok s hs;simp only[zV,List.not_mem_nil,or_false] at hu;rcases hu with rfl | rfl
   ·exact KF hs (Int.le_refl _) this
   ·exact KF hs this (Int.le_refl _)
  ·obtain⟨s,hs,hu⟩:=List.mem_flatMap.1 hu;obtain⟨e1,e2,e3⟩:=FX h hs;rcases List.mem_append.1 hu with hu | hu
   ·simp only[zV,List.not_mem_nil,or_false] at hu;rcases hu with rfl | rfl
    ·exact Au hs e2 (Int.le_refl _) e1
    ·exact Au hs e3 e1 (Int.le_refl _)
   ·split at hu
    ·rename_i hh;simp only[zV,List.not_mem_nil,or_false] at hu;subst hu;exact Au hs zD zo zo
    ·cases hu
 ·rcases EG hv with ⟨s,hs,n,rfl,h1,h2⟩ | ⟨s,hs,h0,h1,h2⟩
  ·have hn:s.1 > 0∨s.2<0:=by
    refine zN fun hc=>hz ⟨s,hs,?_,?_⟩ <;> omega
   rcases hn with hn | hn
   ·refine ⟨s.1*10000,List.mem_append_left _ (List.mem_flatMap.2 ⟨s,hs,zS⟩),?_⟩;unfold near;omega
   ·refine ⟨s.2*10000,List.mem_append_left _ (List.mem_flatMap.2 ⟨s,hs,zS⟩),?_⟩;unfold near;omega
  ·obtain⟨e1,e2,e3⟩:=FX h hs;have hv0:v≠0:=fun e=>h0 (by rw[e];rfl);by_cases h5:s.1<0∧s.2 > 0
   ·refine ⟨1,List.mem_append_right _ (List.mem_flatMap.2 ⟨s,hs,by simp[h5]⟩),?_⟩;unfold near;omega
   ·by_cases h6:s.1 > 0
    ·refine ⟨s.1,List.mem_append_right _ (List.mem_flatMap.2 ⟨s,hs,zS⟩),?_⟩;unfold near;omega
    ·have:s.1≠0:=fun e=>e2 (by rw[e];rfl);have:s.2≠0:=fun e=>e3 (by rw[e];rfl);refine ⟨s.2,List.mem_append_right _ (List.mem_flatMap.2 ⟨s,hs,zS⟩),?_⟩;unfold near;omega
theorem Gv {x:NS} (h:NSok x) (hz:CW x):bR x=some 0:=(gq h).unique (Ku hz)
theorem Kv {x:NS} (h:NSok x) (hz:¬ CW x):dN (Ho x) none=bR x:=(M8 h hz).unique (gq h)
def cmpU:Option Int→Option Int→Int
 | none,none=>0
 | some _,none => -1
 | none,some _=>1
 | some u,some v=>if near u v then -1 else 1
def cmpN (x y:NS):Int:=cmpU (bR (bY x y)) (bR (bY y x))
def orU:Option Int→Option Int→Option Int
 | none,none=>none
 | some u,none=>some u
 | none,some v=>some v
 | some u,some v=>some (if near u v then u else v)
theorem Ps {p q:Int→Prop} {r s:Option Int} (h:gW p r) (k:gW q s):gW (fun u=>p u∨q u) (orU r s):=by
 cases r with
 | none=>
  have e:∀u,q u↔p u∨q u:=fun u=>⟨.inr,fun hu=>hu.elim (fun hp=>absurd hp (h.no rfl u)) id⟩
  cases s with
  | none=>exact k.congr e
  | some v=>exact k.congr e
 | some u=>
  obtain⟨h1,h2⟩:=h.one u rfl
  cases s with
  | none=>exact h.congr fun u=>⟨.inl,fun hu=>hu.elim id (fun hq=>absurd hq (k.no rfl u))⟩
  | some v=>
   obtain⟨k1,k2⟩:=k.one v rfl;refine gW.mk (fun e=>by cases e) fun x hx=>?_;cases hx;by_cases hn:near u v
   ·rw[zI hn];refine ⟨.inl h1,fun y hy=>?_⟩;rcases hy with hy | hy
    ·exact h2 y hy
    ·rcases k2 y hy with rfl | h3
     ·exact .inr hn
     ·exact .inr (jK hn h3)
   ·rw[zH hn];refine ⟨.inr k1,fun y hy=>?_⟩;rcases hy with hy | hy
    ·have hvu:v=u∨near v u:=by
      by_cases e:v=u
      ·exact .inl e
      ·exact .inr ((lY e).resolve_right hn)
     rcases h2 y hy with rfl | h3
     ·rcases hvu with e | e
      ·exact .inl e.symm
      ·exact .inr e
     ·rcases hvu with rfl | e
      ·exact .inr h3
      ·exact .inr (jK e h3)
    ·exact k2 y hy
theorem Rl {x y:NS} (hx:NSok x) (hy:NSok y):(bR (orN (bY x y) (bY y x))=none→cmpN x y=0) ∧
 (∀u,bR (orN (bY x y) (bY y x))=some u→(x.has u→cmpN x y = -1)∧(¬ x.has u→cmpN x y=1)):=by
 have a:=gq (dX hx hy);have b:=gq (dX hy hx);have c:=(Ps a b).congr (fun u=>(wU (bY x y) (bY y x) u).symm);have e:=(gq (uJ (dX hx hy) (dX hy hx))).unique c;have ax:=fun u (h:(bY x y).has u)=>((eO hx hy u).1 h);have bx:=fun u (h:(bY y x).has u)=>((eO hy hx u).1 h);unfold cmpN;rw[e];clear c e
 cases hr:bR (bY x y) with
 | none=>cases hs:bR (bY y x) with
  | none=>exact⟨fun _=>rfl,fun u h=>by cases h⟩
  | some v=>
   refine ⟨fun h=>(by cases h),fun u h=>?_⟩;cases h;have:=bx _ (b.one _ hs).1
   exact⟨fun h=>absurd h this.2,fun _=>rfl⟩
 | some u=>cases hs:bR (bY y x) with
  | none=>
   refine ⟨fun h=>(by cases h),fun u h=>?_⟩;cases h;have:=ax _ (a.one _ hr).1
   exact⟨fun _=>rfl,fun h=>absurd this.1 h⟩
  | some v=>
   refine ⟨fun h=>by simp[orU] at h,fun z h=>?_⟩;simp only[orU,Option.some.injEq] at h;have h1:=ax _ (a.one _ hr).1;have h2:=bx _ (b.one _ hs).1;subst h;by_cases hn:near u v
   ·simp only[zI hn];exact⟨fun _=>zI hn,fun h=>absurd h1.1 h⟩
   ·simp only[zH hn];exact⟨fun h=>absurd h h2.2,fun _=>zH hn⟩
def Ij (p q:Int→Prop):Prop:=∃u,p u∧¬ q u∧∀v,near v u→(p v↔q v)
theorem Ji {x y:NS} (hx:NSok x) (hy:NSok y):cmpN x y = -1↔Ij x.has y.has:=by
 have a:=gq (dX hx hy);have b:=gq (dX hy hx);have key:∀u,bR (bY x y)=some u→(∀v,bR (bY y x)=some v→near u v)→Ij x.has y.has:=fun u hu hv=>by
  obtain⟨h1,h2⟩:=a.one u hu;obtain⟨h3,h4⟩:=(eO hx hy u).1 h1;refine ⟨u,h3,h4,fun v hvu=>⟨fun hxv=>?_,fun hyv=>?_⟩⟩
  ·refine zN fun hn=>?_;rcases h2 v ((eO hx hy v).2 ⟨hxv,hn⟩) with rfl | h
   ·exact wZ _ hvu
   ·exact kD h hvu
  ·refine zN fun hn=>?_;have hm:=(eO hy hx v).2 ⟨hyv,hn⟩
   cases hs:bR (bY y x) with
   | none=>exact b.no hs v hm
   | some z=>
    have hz:=hv z hs;rcases (b.one z hs).2 v hm with rfl | h
    ·exact kD hz hvu
    ·exact kD (jK hz h) hvu
 constructor
 ·intro h;unfold cmpN at h
  cases hr:bR (bY x y) with
  | none=>
   rw[hr] at h
   cases hs:bR (bY y x) with
   | none=>rw[hs] at h;simp[cmpU] at h
   | some v=>rw[hs] at h;simp[cmpU] at h
  | some u=>
   rw[hr] at h;refine key u hr fun v hs=>?_;rw[hs] at h;simp only[cmpU] at h
   split at h
   ·assumption
   ·simp at h
 ·rintro ⟨u,h1,h2,h3⟩;have hm:=(eO hx hy u).2 ⟨h1,h2⟩;unfold cmpN
  cases hr:bR (bY x y) with
  | none=>exact absurd hm (a.no hr u)
  | some z=>
   cases hs:bR (bY y x) with
   | none=>rfl
   | some v=>
    obtain⟨k1,k2⟩:=a.one z hr;obtain⟨k3,k4⟩:=b.one v hs;have k1':=(eO hx hy z).1 k1;have k3':=(eO hy hx v).1 k3;have huz:z=u:=by
     rcases k2 u hm with e | e
     ·exact e.symm
     ·exact absurd ((h3 z e).1 k1'.1) k1'.2
    subst huz;have hzv:near z v:=by
     by_cases e:z=v
     ·subst e;exact absurd k3'.1 h2
     ·rcases lY e with h | h
      ·exact h
      ·exact absurd ((h3 v h).2 k3'.1) k3'.2
    simp only[cmpU,zI hzv]
theorem NV {x y:NS} (hx:NSok x) (hy:NSok y):cmpN x y=0↔x=y:=by
 have a:=gq (dX hx hy);have b:=gq (dX hy hx);constructor
 ·intro h;unfold cmpN at h;refine rD hx hy fun u=>?_
  cases hr:bR (bY x y) with
  | some z=>
   rw[hr] at h
   cases hs:bR (bY y x) with
   | none=>rw[hs] at h;simp[cmpU] at h
   | some v=>rw[hs] at h;simp only[cmpU] at h;split at h <;> simp at h
  | none=>
   cases hs:bR (bY y x) with
   | some v=>rw[hr,hs] at h;simp[cmpU] at h
   | none=>
    constructor
    ·exact fun hu=>zN fun hn=>a.no hr u ((eO hx hy u).2 ⟨hu,hn⟩)
    ·exact fun hu=>zN fun hn=>b.no hs u ((eO hy hx u).2 ⟨hu,hn⟩)
 ·rintro rfl;have e:bY x x=mi:=rD (dX hx hx) kU fun u=>by
   rw[eO hx hx];exact⟨fun h=>absurd h.1 h.2,fun h=>absurd h (jg u)⟩
  unfold cmpN;rw[e]
  rfl
theorem K3 (x y:NS):cmpN x y = -1∨cmpN x y=0∨cmpN x y=1:=by
 unfold cmpN;cases bR (bY x y) <;> cases bR (bY y x)
 ·exact .inr (.inl rfl)
 ·exact .inr (.inr rfl)
 ·exact .inl rfl
 ·rename_i u v;by_cases h:near u v
  ·exact .inl (zI h)
  ·exact .inr (.inr (zH h))
theorem NW {x y:NS} (hx:NSok x) (hy:NSok y):cmpN x y=1↔Ij y.has x.has:=by
 rw[← Ji hy hx];unfold cmpN
 cases hr:bR (bY x y) with
 | none=>cases hs:bR (bY y x) <;> simp[cmpU]
 | some u=>
  cases hs:bR (bY y x) with
  | none=>simp[cmpU]
  | some v=>
   have h1:=(eO hx hy u).1 ((gq (dX hx hy)).one u hr).1;have h2:=(eO hy hx v).1 ((gq (dX hy hx)).one v hs).1;have hne:u≠v:=fun e=>by subst e;exact h1.2 h2.1
   simp only[cmpU];rcases lY hne with h | h
   ·rw[zI h,zH (kD h)];simp
   ·rw[zH (kD h),zI h];simp
end Cl
namespace Cl
theorem nK {n n':Nat} (h:n≤n') {es:List Ed}:∀{p:Int},bF n p es→bF n' p es:=by
 induction es with
 | nil=>intro p _;trivial
 | cons e es ih=>intro p ⟨h1,h2,h3,h4,h5⟩;exact⟨h1,h2,zo,h4,ih h5⟩
theorem vT {n:Nat} {es:List Ed} {p q:Int} (h:bF n p es) (hq:q≤p):bF n q es:=by
 cases es with
 | nil=>trivial
 | cons e es=>obtain⟨h1,h2,h3,h4,h5⟩:=h;exact⟨h1,h2,h3,zo,h5⟩
theorem mE {n:Nat} {es fs:List Ed}:∀{p q:Int},bF n p es→(∀e∈es,(e.hi:Int)≤q)→p≤q→bF n q fs→bF n p (es ++ fs):=by
 induction es with
 | nil=>intro p q _ _ hpq hf;exact vT hf hpq
 | cons e es ih=>
  intro p q ⟨h1,h2,h3,h4,h5⟩ hq _ hf;exact⟨h1,h2,h3,h4,ih h5 (fun x hx=>hq x (by simp[hx])) (hq e zS) hf⟩
theorem qV {n:Nat} {es fs:List Ed}:∀{p:Int},bF n p (es ++ fs)→bF n p es:=by
 induction es with
 | nil=>intro p _;trivial
 | cons e es ih=>intro p ⟨h1,h2,h3,h4,h5⟩;exact⟨h1,h2,h3,h4,ih h5⟩
theorem iU (es fs:List Ed) (b:Nat) (h:∀e∈es,¬ (e.lo≤b∧b≤e.hi)):aY (es ++ fs) b=aY fs b:=by
 induction es with
 | nil=>rfl
 | cons e es ih=>
  simp only[List.cons_append,aY];rw[zH (h e zS)];exact ih fun x hx=>h x (by simp[hx])
theorem ig (es fs:List Ed) (b:Nat) (h:∃e∈es,e.lo≤b∧b≤e.hi):aY (es ++ fs) b=aY es b:=by
 induction es with
 | nil=>obtain⟨e,h,_⟩:=h;simp at h
 | cons e es ih=>
  simp only[List.cons_append,aY]
  split
  ·rfl
  ·rename_i hn;obtain⟨x,hx,h1⟩:=h;rcases List.mem_cons.1 hx with rfl | hx
   ·exact absurd h1 hn
   ·exact ih ⟨x,hx,h1⟩
theorem o9 (es:List Ed) (b:Nat) (h:∀e∈es,¬ (e.lo≤b∧b≤e.hi)):aY es b = -1:=by
 have:=iU es [] b h;simpa [aY] using this
theorem eG {n:Nat} {es:List Ed}:∀{p:Int},bF n p es→∀e∈es,p<e.lo∧e.lo≤e.hi∧0≤e.to∧e.to<n:=by
 induction es with
 | nil=>intro p _ e he;simp at he
 | cons x es ih=>
  intro p ⟨h1,h2,h3,h4,h5⟩ e he;rcases List.mem_cons.1 he with rfl | he
  ·exact⟨h4,h1,h2,h3⟩
  ·have:=ih h5 e he;exact⟨zo,this.2⟩
theorem uu {n:Nat} {es:List Ed} {x:Ed}:∀{p:Int},bF n p (es ++ [x])→∀e∈es,e.hi<x.lo:=by
 induction es with
 | nil=>intro p _ e he;simp at he
 | cons y es ih=>
  intro p ⟨h1,h2,h3,h4,h5⟩ e he;rcases List.mem_cons.1 he with rfl | he
  ·have:=(eG h5 x zS).1;omega
  ·exact ih h5 e he
theorem Kk {es:List Ed} {x:Ed} (h:Merged es) (hx:∀y,es.getLast?=some y→¬ (y.to=x.to∧y.hi+1=x.lo)):Merged (es ++ [x]):=by
 induction es with
 | nil=>trivial
 | cons e es ih=>
  cases es with
  | nil=>exact⟨hx e rfl,trivial⟩
  | cons f es=>exact⟨h.1,ih h.2 (fun y hy=>hx y (by simpa using hy))⟩
theorem Er {es:List Ed} {x:Ed} {hi:Nat} (h:Merged (es ++ [x])):Merged (es ++ [⟨x.lo,hi,x.to⟩]):=by
 induction es with
 | nil=>trivial
 | cons e es ih=>
  cases es with
  | nil=>exact⟨h.1,trivial⟩
  | cons f es=>exact⟨h.1,ih h.2⟩
def jD (es:List Ed) (lo hi:Nat) (to:Nat):List Ed:=match es.getLast? with
 | some e=>if e.to=to∧e.hi+1=lo then es.dropLast ++ [⟨e.lo,hi,to⟩] else es ++ [⟨lo,hi,to⟩]
 | none=>es ++ [⟨lo,hi,to⟩]
theorem F8 {n:Nat} {es:List Ed} {lo hi to:Nat} (hw:bF n (-1) es) (hlt:∀e∈es,e.hi<lo) (hlh:lo≤hi) (h256:hi<256) (hto:to<n) (hb:fD es) (hm:Merged es) :
 bF n (-1) (jD es lo hi to)∧(∀e∈jD es lo hi to,e.hi≤hi)∧fD (jD es lo hi to)∧Merged (jD es lo hi to) ∧
  ∀b,aY (jD es lo hi to) b=if lo≤b∧b≤hi then (to:Int) else aY es b:=by
 have plain:(∀y,es.getLast?=some y→¬ (y.to=(to:Int)∧y.hi+1=lo))→bF n (-1) (es ++ [⟨lo,hi,to⟩])∧(∀e∈es ++ [⟨lo,hi,to⟩],e.hi≤hi)∧fD (es ++ [⟨lo,hi,to⟩])∧Merged (es ++ [⟨lo,hi,to⟩]) ∧
  ∀b,aY (es ++ [⟨lo,hi,to⟩]) b=if lo≤b∧b≤hi then (to:Int) else aY es b:=by
  intro hl;refine ⟨mE (q:=(lo:Int) - 1) hw (fun e he=>by have:=hlt e he;omega) zo ⟨hlh,zS,by simpa using hto,by show (lo:Int) - 1<(lo:Int);omega,trivial⟩,?_,?_,Kk hm hl,?_⟩
  ·intro e he;rcases List.mem_append.1 he with h | h
   ·have:=hlt e h;omega
   ·simp only[zU] at h;subst h;exact zG _
  ·intro e he;rcases List.mem_append.1 he with h | h
   ·exact hb e h
   ·simp only[zU] at h;subst h;exact⟨by simp;omega,by simpa using h256⟩
  ·intro b;by_cases c:lo≤b∧b≤hi
   ·rw[zI c,iU _ _ _ (fun e he=>by have:=hlt e he;omega)];simp[aY,c]
   ·rw[zH c];by_cases d:∃e∈es,e.lo≤b∧b≤e.hi
    ·exact ig _ _ _ d
    ·have d':∀e∈es,¬ (e.lo≤b∧b≤e.hi):=fun e he h=>d ⟨e,he,h⟩;rw[iU _ _ _ d',o9 _ _ d'];simp[aY,c]
 unfold jD
 split
 ·rename_i e he
  split
  ·rename_i hc;obtain⟨hc1,hc2⟩:=hc;obtain⟨fs,rfl⟩:∃fs,es=fs ++ [e]:=List.getLast?_eq_some_iff.1 he;rw[List.dropLast_concat];have hfl:=uu hw;have hel:=(eG hw e zS);have hle:=hlt e zS;refine ⟨mE (q:=(e.lo:Int) - 1) (qV hw) (fun x hx=>by have:=hfl x hx;omega) zo ⟨by show e.lo≤hi;omega,zS,by simpa using hto,by show (e.lo:Int) - 1<(e.lo:Int);omega,trivial⟩,?_,?_,?_,?_⟩
   ·intro x hx;rcases List.mem_append.1 hx with h | h
    ·have:=hfl x h;omega
    ·simp only[zU] at h;subst h;exact zG _
   ·intro x hx;rcases List.mem_append.1 hx with h | h
    ·exact hb x (by simp[h])
    ·simp only[zU] at h;subst h;exact⟨by simp;omega,by simpa using h256⟩
   ·have:=Er (hi:=hi) hm
    rwa [hc1] at this
   ·intro b;by_cases d:∃x∈fs,x.lo≤b∧b≤x.hi
    ·obtain⟨x,hx,h1,h2⟩:=d;have:=hfl x hx;rw[ig _ _ _ ⟨x,hx,h1,h2⟩,ig _ _ _ ⟨x,hx,h1,h2⟩,zH zo]
    ·have d':∀x∈fs,¬ (x.lo≤b∧b≤x.hi):=fun x hx h=>d ⟨x,hx,h⟩;rw[iU _ _ _ d',iU _ _ _ d'];simp only[aY];by_cases c:lo≤b∧b≤hi
     ·rw[zI c,zI zo]
     ·rw[zH c];by_cases c2:e.lo≤b∧b≤e.hi
      ·rw[zI zo,zI c2,hc1]
      ·rw[zH zo,zH c2]
  ·rename_i hc;exact plain fun y hy=>by rw[he] at hy;cases hy;exact hc
 ·rename_i he;exact plain fun y hy=>by rw[he] at hy;cases hy
def dL (cf:Nat→Int) (o:List Nat) (t:Nat):Nat:=o.findIdx fun s=>cf s==cf t
def dw (cf:Nat→Int) (o:List Nat) (t:Nat):List Nat:=if dL cf o t<o.length then o else o ++ [t]
def Dif (cf:Nat→Int) (o:List Nat):Prop:=o.Pairwise fun a b=>cf a≠cf b
theorem oN (cf:Nat→Int) (o:List Nat) (t:Nat):dL cf o t≤o.length:=List.findIdx_le_length
theorem nU {cf:Nat→Int} {o:List Nat} {t:Nat} (h:dL cf o t<o.length):cf (o[dL cf o t])=cf t:=by
 have:=List.findIdx_getElem (p:=fun s=>cf s==cf t) (w:=h);exact eq_of_beq this
theorem zm {cf:Nat→Int} {o x:List Nat} {t:Nat} (h:dL cf o t<o.length):dL cf (o ++ x) t=dL cf o t:=by
 unfold dL at *
 rw[List.findIdx_append,zI h]
theorem Mt {cf:Nat→Int} {o:List Nat} {t:Nat} (h:¬ dL cf o t<o.length):dL cf (o ++ [t]) t=o.length:=by
 unfold dL at *
 rw[List.findIdx_append,zH h];simp[List.findIdx_cons]
theorem Kc {cf:Nat→Int} {o:List Nat} {t:Nat} (h:¬ dL cf o t<o.length):∀s∈o,cf s≠cf t:=by
 intro s hs e;exact h (List.findIdx_lt_length.2 ⟨s,hs,by simpa using e⟩)
theorem NJ {cf:Nat→Int} {o:List Nat} (t:Nat) (h:Dif cf o):Dif cf (dw cf o t):=by
 unfold dw
 split
 ·exact h
 ·rename_i hn;exact List.pairwise_append.2 ⟨h,zS,fun a ha b hb=>by
   simp only[zU] at hb;subst hb;exact Kc hn a ha⟩
theorem Rf {cf:Nat→Int} {o:List Nat} (h:Dif cf o) {i j:Nat} (hi:i<o.length) (hj:j<o.length) (e:cf o[i]=cf o[j]):i=j:=by
 have:=List.pairwise_iff_getElem.1 h;rcases Nat.lt_trichotomy i j with c | c | c
 ·exact absurd e (this i j hi hj c)
 ·exact c
 ·exact absurd e.symm (this j i hj hi c)
theorem AL (cf:Nat→Int) (o:List Nat) (t:Nat):o <+: dw cf o t:=by
 unfold dw
 split
 ·exact List.prefix_rfl
 ·exact List.prefix_append _ _
theorem oQ (cf:Nat→Int) (o:List Nat) (t:Nat):dL cf (dw cf o t) t=dL cf o t∧dL cf o t<(dw cf o t).length:=by
 unfold dw
 split
 ·rename_i h;exact⟨rfl,h⟩
 ·rename_i h;have:=oN cf o t;exact⟨by rw[Mt h];omega,by simp;omega⟩
theorem F9 {cf:Nat→Int} {o o':List Nat} (h:o <+: o') {t:Nat} (ht:dL cf o t<o.length):dL cf o' t=dL cf o t:=by
 obtain⟨x,rfl⟩:=h;exact zm ht
theorem wP {o o':List Nat} (h:o <+: o') {i:Nat} (hi:i<o.length):o'[i]'(Nat.lt_of_lt_of_le hi h.length_le)=o[i]:=by
 obtain⟨x,rfl⟩:=h;exact List.getElem_append_left hi
theorem AO {cf:Nat→Int} {o:List Nat} {t:Nat}:∀x∈dw cf o t,x∈o∨x=t:=by
 intro x hx;unfold dw at hx
 split at hx
 ·exact .inl hx
 ·simpa using hx
theorem AP {cf:Nat→Int} {o:List Nat} {t:Nat}:(dw cf o t).length=o.length∨(dw cf o t).length=o.length+1∧dL cf o t=o.length:=by
 unfold dw
 split
 ·exact .inl rfl
 ·rename_i h;have:=oN cf o t;exact .inr ⟨zS,zo⟩
section
variable (cf:Nat→Int) (dl:Nat→Nat→Option Nat) (lo hi:Nat→Nat) (ac:Nat→Bool) (K:Nat)
def bX (s:Nat) (o:List Nat):Nat→List Nat × List Ed
 | 0=>(o,[])
 | i+1=>match dl s i with
  | none=>bX s o i
  | some t=>(dw cf (bX s o i).1 t,jD (bX s o i).2 (lo i) (hi i) (dL cf (bX s o i).1 t))
def dH:Nat→List Nat × Table
 | 0=>([0],[])
 | k+1=>((bX cf dl lo hi ((dH k).1.getD k 0) (dH k).1 K).1,(dH k).2 ++ [⟨ac ((dH k).1.getD k 0),(bX cf dl lo hi ((dH k).1.getD k 0) (dH k).1 K).2⟩])
structure Ivs:Prop where
 le:∀i,i<K→lo i≤hi i∧hi i<256
 sep:∀i j,i<j→j<K→hi i<lo j
 cover:∀b,b<256→∃i,i<K∧lo i≤b∧b≤hi i
def tgt (o:List Nat):Option Nat→Int
 | none => -1
 | some t=>dL cf o t
structure Jw (N s:Nat) (o:List Nat) (i:Nat) (r:List Nat × List Ed):Prop where
 pre:o <+: r.1
 dif:Dif cf r.1
 lt:∀x∈r.1,x<N
 wf:bF r.1.length (-1) r.2
 low:∀e∈r.2,∀j,i≤j→j<K→e.hi<lo j
 bytes:fD r.2
 merged:Merged r.2
 step:∀j,j<i→∀b,lo j≤b→b≤hi j→aY r.2 b=tgt cf r.1 (dl s j)
 there:∀j,j<i→∀t,dl s j=some t→dL cf r.1 t<r.1.length
 new:∀p,o.length≤p→p<r.1.length→∃j,j<i∧∃t,dl s j=some t∧dL cf r.1 t=p
 seen:∀j,j<i→∀t,dl s j=some t→∀p,o.length≤p→p<dL cf r.1 t→∃j',j'<j∧∃t',dl s j'=some t'∧dL cf r.1 t'=p
variable {cf dl lo hi ac K}
theorem FV {N s:Nat} {o:List Nat} (hI:Ivs lo hi K) (hd:Dif cf o) (hlt:∀x∈o,x<N) (hdl:∀i t,i<K→dl s i=some t→t<N) :
 ∀i,i≤K→Jw cf dl lo hi K N s o i (bX cf dl lo hi s o i):=by
 intro i
 induction i with
 | zero=>
  intro _
  exact⟨List.prefix_rfl,hd,hlt,trivial,fun e he=>by simp[bX] at he,fun e he=>by simp[bX] at he,trivial,fun j hj=>zo,fun j hj=>zo,fun p h1 h2=>by simp[bX] at h2;omega,fun j hj=>zo⟩
 | succ i ih=>
  intro hi';have ih:=ih zo;have hle:=hI.le i zo
  cases hc:dl s i with
  | none=>
   have e:bX cf dl lo hi s o (i+1)=bX cf dl lo hi s o i:=by simp[bX,hc]
   rw[e];generalize bX cf dl lo hi s o i=r at *
   refine ⟨ih.pre,ih.dif,ih.lt,ih.wf,fun e he j hj=>ih.low e he j zo,ih.bytes,ih.merged,?_,?_,?_,?_⟩
   ·intro j hj b h1 h2;by_cases c:j=i
    ·subst c;rw[hc];show _=(-1:Int);apply o9;intro e he;have:=ih.low e he j (zG _) zo;omega
    ·exact ih.step j zo b h1 h2
   ·intro j hj t ht;by_cases c:j=i
    ·subst c;rw[hc] at ht;cases ht
    ·exact ih.there j zo t ht
   ·intro p h1 h2;obtain⟨j,hj,h⟩:=ih.new p h1 h2;exact⟨j,zo,h⟩
   ·intro j hj t ht;by_cases c:j=i
    ·subst c;rw[hc] at ht;cases ht
    ·exact ih.seen j zo t ht
  | some t=>
   have e:bX cf dl lo hi s o (i+1)=(dw cf (bX cf dl lo hi s o i).1 t,jD (bX cf dl lo hi s o i).2 (lo i) (hi i) (dL cf (bX cf dl lo hi s o i).1 t)):=by simp[bX,hc]
   rw[e];generalize bX cf dl lo hi s o i=r at *
   have hpre:=AL cf r.1 t;have hpos:=oQ cf r.1 t;have hlen:=hpre.length_le;obtain⟨p1,p2,p3,p4,p5⟩:=F8 (to:=dL cf r.1 t) (nK hlen ih.wf) (fun e he=>ih.low e he i (zG _) zo) hle.1 hle.2 hpos.2 ih.bytes ih.merged;have hsame:∀j,j<i→∀u,dl s j=some u→dL cf (dw cf r.1 t) u=dL cf r.1 u:=fun j hj u hu=>F9 hpre (ih.there j hj u hu);refine ⟨ih.pre.trans hpre,NJ t ih.dif,?_,p1,?_,p3,p4,?_,?_,?_,?_⟩
   ·intro x hx;rcases AO x hx with h | h
    ·exact ih.lt x h
    ·subst h;exact hdl i _ zo hc
   ·intro e he j hj hjK;have h1:=p2 e he;have h2:=hI.sep i j zo hjK;omega
   ·intro j hj b h1 h2;show aY (jD r.2 (lo i) (hi i) (dL cf r.1 t)) b=tgt cf (dw cf r.1 t) (dl s j);rw[p5];by_cases c:j=i
    ·subst c;rw[zI ⟨h1,h2⟩,hc];show _=((dL cf (dw cf r.1 t) t:Nat):Int);rw[hpos.1]
    ·have:=hI.sep j i zo zo;rw[zH zo,ih.step j zo b h1 h2]
     cases hu:dl s j with
     | none=>rfl
     | some u=>simp only[tgt];rw[hsame j zo u hu]
   ·intro j hj u hu;by_cases c:j=i
    ·subst c;rw[hc] at hu;cases hu;show dL cf (dw cf r.1 t) t<(dw cf r.1 t).length;rw[hpos.1];exact hpos.2
    ·have:=ih.there j zo u hu;show dL cf (dw cf r.1 t) u<(dw cf r.1 t).length;rw[hsame j zo u hu];omega
   ·intro p h1 h2;have h2:p<(dw cf r.1 t).length:=h2;by_cases c:p<r.1.length
    ·obtain⟨j,hj,u,hu,he⟩:=ih.new p h1 c;exact⟨j,zo,u,hu,by rw[← he];exact hsame j hj u hu⟩
    ·rcases AP (cf:=cf) (o:=r.1) (t:=t) with h | ⟨h,h'⟩
     ·omega
     ·exact⟨i,zo,t,hc,by show dL cf (dw cf r.1 t) t=p;rw[hpos.1];omega⟩
   ·intro j hj u hu p h1 h2;have h2:p<dL cf (dw cf r.1 t) u:=h2;by_cases c:j=i
    ·subst c;rw[hc] at hu;cases hu;rw[hpos.1] at h2;have:=oN cf r.1 t;obtain⟨j',hj',u,hu,he⟩:=ih.new p h1 zo;exact⟨j',hj',u,hu,by rw[← he];exact hsame j' hj' u hu⟩
    ·rw[hsame j zo u hu] at h2;obtain⟨j',hj',u',hu',he⟩:=ih.seen j zo u hu p h1 h2;exact⟨j',hj',u',hu',by rw[← he];exact hsame j' zo u' hu'⟩
structure Sm (cf:Nat→Int) (dl:Nat→Nat→Option Nat) (lo hi:Nat→Nat) (ac:Nat→Bool) (K N k:Nat) (r:List Nat × Table):Prop where
 first:r.1[0]?=some 0
 dif:Dif cf r.1
 lt:∀x∈r.1,x<N
 len:r.2.length=k
 state:∀j,(h:j<r.2.length)→∃h':j<r.1.length,(r.2[j]).accept=ac r.1[j]∧bF r.1.length (-1) (r.2[j]).edges∧fD (r.2[j]).edges∧Merged (r.2[j]).edges ∧
  ∀i,i<K→(∀b,lo i≤b→b≤hi i→aY (r.2[j]).edges b=tgt cf r.1 (dl r.1[j] i))∧∀t,dl r.1[j] i=some t→dL cf r.1 t<r.1.length
 reach:∀p,0<p→p<r.1.length→∃j,j<k∧j<p∧∃i,i<K∧∃t,dl (r.1.getD j 0) i=some t∧dL cf r.1 t=p
 seen:∀j,j<k→∀i,i<K→∀t,dl (r.1.getD j 0) i=some t→∀p,0<p→p<dL cf r.1 t →
  ∃j' i',(j'<j∨j'=j∧i'<i)∧i'<K∧∃t',dl (r.1.getD j' 0) i'=some t'∧dL cf r.1 t'=p
theorem mX {o o':List Nat} (h:o <+: o') {i:Nat} (hi:i<o.length):o'.getD i 0=o.getD i 0:=by
 have h':=Nat.lt_of_lt_of_le hi h.length_le;simp[hi,h',wP h hi]
theorem H7 {N:Nat} (hI:Ivs lo hi K) (h0:0<N) (hdl:∀s i t,s<N→i<K→dl s i=some t→t<N) :
 ∀k,(∀j,j<k→j<(dH cf dl lo hi ac K j).1.length)→Sm cf dl lo hi ac K N k (dH cf dl lo hi ac K k):=by
 intro k
 induction k with
 | zero=>
  intro _
  exact⟨rfl,by simp[dH,Dif],fun x hx=>by simp[dH] at hx;omega,rfl,fun j h=>by simp[dH] at h,fun p h1 h2=>by simp[dH] at h2;omega,fun j hj=>zo⟩
 | succ k ih=>
  intro hk;have ih:=ih fun j hj=>hk j zo;have hkl:=hk k zo;have e1:(dH cf dl lo hi ac K (k+1)).1=(bX cf dl lo hi ((dH cf dl lo hi ac K k).1.getD k 0) (dH cf dl lo hi ac K k).1 K).1:=rfl;have e2:(dH cf dl lo hi ac K (k+1)).2=(dH cf dl lo hi ac K k).2 ++ [⟨ac ((dH cf dl lo hi ac K k).1.getD k 0),(bX cf dl lo hi ((dH cf dl lo hi ac K k).1.getD k 0) (dH cf dl lo hi ac K k).1 K).2⟩]:=rfl;generalize hr':dH cf dl lo hi ac K (k+1)=r' at *
  generalize dH cf dl lo hi ac K k=r at *
  have hs:r.1.getD k 0<N:=ih.lt _ (by simp[hkl]);have R:=FV (cf:=cf) (s:=r.1.getD k 0) hI ih.dif ih.lt (fun i t hi ht=>hdl _ i t hs hi ht) K (zG _);obtain⟨q1,q2⟩:=r';simp only at e1 e2;generalize hq:bX cf dl lo hi (r.1.getD k 0) r.1 K=q at *
  obtain⟨qo,qe⟩:=q;subst e1;subst e2;have hpre:=R.pre;have hlen:=hpre.length_le;simp only at R hpre hlen;have same:∀j,j<k→∀i,i<K→∀t,dl (r.1.getD j 0) i=some t→dL cf q1 t=dL cf r.1 t∧dL cf r.1 t<r.1.length:=by
   intro j hj i hi' t ht;obtain⟨h',-,-,-,-,h6⟩:=ih.state j (by rw[ih.len];exact hj);have h7:=(h6 i hi').2 t (by simpa [h'] using ht);exact⟨F9 hpre h7,h7⟩
  refine ⟨?_,R.dif,R.lt,by simp[ih.len],?_,?_,?_⟩
  ·obtain⟨x,hx⟩:=hpre;show q1[0]?=some 0;rw[← hx,yF zo];exact ih.first
  ·intro j hj;by_cases c:j<k
   ·obtain⟨h',h1,h2,h3,h4,h5⟩:=ih.state j (by rw[ih.len];exact c);have eg:(r.2 ++ [⟨ac (r.1.getD k 0),qe⟩])[j]'hj=r.2[j]'(by rw[ih.len];exact c):=List.getElem_append_left (by rw[ih.len];exact c);have eo:=wP hpre h';refine ⟨by show j<q1.length;omega,?_⟩;show ((r.2 ++ [⟨ac (r.1.getD k 0),qe⟩])[j]'hj).accept=_∧_;simp only[eg,eo];refine ⟨h1,nK hlen h2,h3,h4,fun i hi'=>⟨fun b b1 b2=>?_,fun t ht=>?_⟩⟩
    ·rw[(h5 i hi').1 b b1 b2]
     cases hu:dl r.1[j] i with
     | none=>rfl
     | some u=>simp only[tgt];rw[(same j c i hi' u (by simpa [h'] using hu)).1]
    ·have:=same j c i hi' t (by simpa [h'] using ht);omega
   ·have:j=k:=by simp[ih.len] at hj;omega
    subst this;have eg:(r.2 ++ [⟨ac (r.1.getD j 0),qe⟩])[j]'hj=⟨ac (r.1.getD j 0),qe⟩:=by
     rw[List.getElem_append_right (by rw[ih.len];omega)];simp[ih.len]
    have eo:=wP hpre hkl;have ed:r.1.getD j 0=r.1[j]:=by simp[hkl]
    refine ⟨by show j<q1.length;omega,?_⟩;show ((r.2 ++ [⟨ac (r.1.getD j 0),qe⟩])[j]'hj).accept=_∧_;simp only[eg,eo];rw[ed] at R ⊢;exact⟨rfl,R.wf,R.bytes,R.merged,fun i hi'=>⟨R.step i hi',R.there i hi'⟩⟩
  ·intro p h1 h2;have h2:p<q1.length:=h2;by_cases c:p<r.1.length
   ·obtain⟨j,hj,hjp,i,hi',t,ht,he⟩:=ih.reach p h1 c;refine ⟨j,zo,hjp,i,hi',t,?_,?_⟩
    ·rw[mX hpre zo];exact ht
    ·rw[← he];exact (same j hj i hi' t ht).1
   ·obtain⟨i,hi',t,ht,he⟩:=R.new p zo h2;refine ⟨k,zo,zo,i,hi',t,?_,he⟩;rw[mX hpre hkl];exact ht
  ·intro j hj i hi' t ht p h1 h2;have h2:p<dL cf q1 t:=h2;have ht:dl (q1.getD j 0) i=some t:=ht;by_cases c:j<k
   ·rw[mX hpre zo] at ht;rw[(same j c i hi' t ht).1] at h2;obtain⟨j',i',hlt',hi'',t',ht',he⟩:=ih.seen j c i hi' t ht p h1 h2;refine ⟨j',i',hlt',hi'',t',?_,?_⟩
    ·rw[mX hpre zo];exact ht'
    ·rw[← he];exact (same j' zo i' hi'' t' ht').1
   ·have:j=k:=zo;subst this;rw[mX hpre hkl] at ht;by_cases d:p<r.1.length
    ·obtain⟨j',hj',hjp,i',hi'',t',ht',he⟩:=ih.reach p h1 d;refine ⟨j',i',.inl hj',hi'',t',?_,?_⟩
     ·rw[mX hpre zo];exact ht'
     ·rw[← he];exact (same j' hj' i' hi'' t' ht').1
    ·obtain⟨i',hi'',t',ht',he⟩:=R.seen i hi' t ht p zo h2;refine ⟨j,i',.inr ⟨rfl,hi''⟩,zo,t',?_,he⟩;rw[mX hpre hkl];exact ht'
end
structure qh (T:Table) (N:Nat) (cf:Nat→Int) (dl:Nat→Nat→Option Nat) (lo hi:Nat→Nat) (ac:Nat→Bool) (K:Nat):Prop where
 iv:Ivs lo hi K
 pos:0<N
 some:∀s i t,s<N→i<K→dl s i=some t→t<N∧(∃w,aC T t w=true)∧∀b,lo i≤b→b≤hi i→∀w,aC T (bD T s b) w=aC T t w
 none:∀s i,s<N→i<K→dl s i=none→∀b,lo i≤b→b≤hi i→∀w,aC T (bD T s b) w=false
 cls:∀s t,s<N→t<N→(cf s=cf t↔∀w,aC T s w=aC T t w)
 acc:∀s,s<N→ac s=bz T s
 live:∃w,aC T 0 w=true
theorem Fq {T:Table} {N:Nat} {cf:Nat→Int} {dl:Nat→Nat→Option Nat} {lo hi:Nat→Nat} {ac:Nat→Bool} {K k:Nat} (H:qh T N cf dl lo hi ac K)
 (hk:∀j,j<k→j<(dH cf dl lo hi ac K j).1.length) (hend:(dH cf dl lo hi ac K k).1.length=k) :
 Canon (dH cf dl lo hi ac K k).2∧∀w,aC (dH cf dl lo hi ac K k).2 0 w=aC T 0 w:=by
 have B:=H7 (cf:=cf) (ac:=ac) H.iv H.pos (fun s i t h1 h2 h3=>(H.some s i t h1 h2 h3).1) k hk;generalize dH cf dl lo hi ac K k=r at *
 obtain⟨o,out⟩:=r;simp only at *
 have hlen:=B.len;simp only at hlen;have hoN:∀j,(h:j<o.length)→o[j]<N:=fun j h=>B.lt _ (zB h);have hstep:∀j,(h:j<o.length)→∀b,b<256→∃i,i<K∧lo i≤b∧b≤hi i∧bD out j b=tgt cf o (dl o[j] i):=by
  intro j h b hb;obtain⟨i,hi',h1,h2⟩:=H.iv.cover b hb;obtain⟨h',-,-,-,-,h7⟩:=B.state j (by show j<out.length;omega);refine ⟨i,hi',h1,h2,?_⟩;rw[dC out j b zo];exact (h7 i hi').1 b h1 h2
 have hpos:∀j,(h:j<o.length)→∀i,i<K→∀t,dl o[j] i=some t→∃hp:dL cf o t<o.length,cf o[dL cf o t]=cf t:=by
  intro j h i hi' t ht;obtain⟨h',-,-,-,-,h7⟩:=B.state j (by show j<out.length;omega);have:=(h7 i hi').2 t ht;exact⟨this,nU this⟩
 have hacc:∀w,∀j,(h:j<o.length)→aC out j w=aC T o[j] w:=by
  intro w
  induction w with
  | nil=>
   intro j h;obtain⟨h',h2,-⟩:=B.state j (by show j<out.length;omega);simp only[aC];rw[eZ out j zo]
   exact h2.trans (H.acc _ (hoN j h))
  | cons b w ih=>
   intro j h;simp only[aC];obtain⟨i,hi',h1,h2,e⟩:=hstep j h b.toNat b.toNat_lt;rw[e]
   cases hd:dl o[j] i with
   | none=>
    rw[H.none _ i (hoN j h) hi' hd _ h1 h2 w]
    exact bP (by simp[tgt]) w
   | some t=>
    obtain⟨hp,hc⟩:=hpos j h i hi' t hd;have hs:=H.some _ i t (hoN j h) hi' hd;show aC out (dL cf o t:Nat) w=_;rw[ih _ hp,hs.2.2 _ h1 h2 w];exact (H.cls _ _ (hoN _ hp) hs.1).1 hc w
 have hf:=B.first;simp only at hf;have h0:0<o.length:=by
  cases o with
  | nil=>simp at hf
  | cons _ _=>simp
 have ho0:o[0]=0:=by
  obtain⟨h,e⟩:=List.getElem?_eq_some_iff.1 hf;exact e
 have hlive:∀j,(h:j<o.length)→∃w,aC T o[j] w=true:=by
  intro j h;by_cases c:j=0
  ·subst c;simp only[ho0];exact H.live
  ·obtain⟨j',hj',hjp,i,hi',t,ht,he⟩:=B.reach j zo h;have hjo:j'<o.length:=zo;have ht:dl o[j'] i=some t:=by simpa [hjo] using ht
   obtain⟨hp,hc⟩:=hpos j' hjo i hi' t ht;have hs:=H.some _ i t (hoN j' hjo) hi' ht;obtain⟨w,hw⟩:=hs.2.1;have he:dL cf o t=j:=he;refine ⟨w,?_⟩;rw[← hw];subst he;exact (H.cls _ _ (hoN _ hp) hs.1).1 hc w
 refine ⟨⟨?_,?_,?_,?_,?_,?_,?_⟩,?_⟩
 ·intro s hs;obtain⟨j,hj,rfl⟩:=List.mem_iff_getElem.1 hs;obtain⟨h',-,h3,-⟩:=B.state j hj;show bF out.length _ _;have h3:bF o.length (-1) out[j].edges:=h3
  rwa [hlen,← hend]
 ·intro s hs;obtain⟨j,hj,rfl⟩:=List.mem_iff_getElem.1 hs;obtain⟨h',-,-,h4,-⟩:=B.state j hj;exact h4
 ·intro s hs;obtain⟨j,hj,rfl⟩:=List.mem_iff_getElem.1 hs;obtain⟨h',-,-,-,h5,-⟩:=B.state j hj;exact h5
 ·intro j hj;obtain⟨w,hw⟩:=hlive j zo;exact⟨w,(hacc w j zo).trans hw⟩
 ·intro i j hi' hj he;refine Rf B.dif (show i<o.length by omega) (show j<o.length by omega) ?_;refine (H.cls _ _ (hoN _ _) (hoN _ _)).2 fun w=>?_;rw[← hacc w i zo,← hacc w j zo,he w]
 ·intro j b t hb ht p h1 h2;by_cases c:j<o.length
  ·obtain⟨i,hi',b1,b2,e⟩:=hstep j c b hb;rw[ht] at e
   cases hd:dl o[j] i with
   | none=>rw[hd] at e;simp[tgt] at e
   | some u=>
    rw[hd] at e;have e:t=dL cf o u:=by simp only[tgt] at e;omega
    obtain⟨j',i',hlt,hi'',t',ht',he⟩:=B.seen j zo i hi' u (by simpa [c] using hd) p h1 (by show p<dL cf o u;omega);have hj':j'<o.length:=zo;have ht':dl o[j'] i'=some t':=by simpa [hj'] using ht'
    have he:dL cf o t'=p:=he;have hle:=H.iv.le i' hi'';obtain⟨h',-,-,-,-,h7⟩:=B.state j' (by show j'<out.length;omega);refine ⟨j',lo i',zo,?_,?_⟩
    ·rcases hlt with h | ⟨h,h'⟩
     ·exact .inl h
     ·refine .inr ⟨h,?_⟩;have:=H.iv.sep i' i h' hi';omega
    ·rw[dC out j' _ zo];have:=(h7 i' hi'').1 (lo i') (zG _) hle.1;refine this.trans ?_;show tgt cf o (dl o[j'] i')=_;rw[ht'];simp[tgt,he]
  ·rw[dV out j b zo] at ht;omega
 ·intro t h1 h2;obtain⟨j',hj',hjp,i,hi',u,hu,he⟩:=B.reach t h1 (by show t<o.length;omega);have hjo:j'<o.length:=zo;have hu:dl o[j'] i=some u:=by simpa [hjo] using hu
  have he:dL cf o u=t:=he;have hle:=H.iv.le i hi';obtain⟨h',-,-,-,-,h7⟩:=B.state j' (by show j'<out.length;omega);refine ⟨j',lo i,hjp,zo,?_⟩;rw[dC out j' _ zo];have:=(h7 i hi').1 (lo i) (zG _) hle.1;refine this.trans ?_;show tgt cf o (dl o[j'] i)=_;rw[hu];simp[tgt,he]
 ·intro w;have:=hacc w 0 h0;rw[ho0] at this;exact this
end Cl
