/- Lemmas for the proofs of chapter 11. -/
import Derived.WalkKit
import Derived.Test.YtdgjplfcpcphoaaGreatDoorZz
import Derived.Test.YtdgjplfcpcphoaaGreatDoorPkX1
set_option maxRecDepth 100000
set_option maxHeartbeats 16000000
namespace Cl
theorem jQ:Canon []:=
 ⟨fun s hs=>by simp at hs,fun s hs=>by simp at hs,fun s hs=>by simp at hs,fun k hk=>by simp at hk,fun i j hi=>by simp at hi,fun k b t hb ht=>by
  rw[dB [] k b zS] at ht;omega,fun t h1 h2=>by simp at h2⟩
theorem kH (x:List UInt8):aF [] 0 x=false:=dX [] 0 x zS
def lex:List UInt8→List UInt8→Prop
 | [],[]=>False
 | [],_::_=>True
 | _::_,[]=>False
 | a::u,b::v=>a<b∨a=b∧lex u v
def slt (u v:List UInt8):Prop:=u.length<v.length∨u.length=v.length∧lex u v
theorem wS:∀u:List UInt8,¬ lex u u
 | [],h=>h
 | _::u,h=>h.elim (fun h=>by simp at h) (fun h=>wS u h.2)
theorem K6 {a b c:UInt8} (h:a<b) (k:b<c):a<c:=UInt8.lt_trans h k
theorem Ar:∀{u v x:List UInt8},lex u v→lex v x→lex u x
 | [],[],_,h,_=>h.elim
 | [],_::_,[],_,k=>k.elim
 | [],_::_,_::_,_,_=>trivial
 | _::_,[],_,h,_=>h.elim
 | _::_,_::_,[],_,k=>k.elim
 | a::u,b::v,c::x,h,k=>by
  rcases h with h | ⟨rfl,h⟩
  ·rcases k with k | ⟨rfl,k⟩
   ·exact .inl (K6 h k)
   ·exact .inl h
  ·rcases k with k | ⟨rfl,k⟩
   ·exact .inl k
   ·exact .inr ⟨rfl,Ar h k⟩
theorem Au:∀u v:List UInt8,lex u v∨u=v∨lex v u
 | [],[]=>.inr (.inl rfl)
 | [],_::_=>.inl trivial
 | _::_,[]=>.inr (.inr trivial)
 | a::u,b::v=>by
  rcases Nat.lt_trichotomy a.toNat b.toNat with h | h | h
  ·exact .inl (.inl (UInt8.lt_iff_toNat_lt.2 h))
  ·obtain rfl:a=b:=UInt8.toNat_inj.1 h;rcases Au u v with h | h | h
   ·exact .inl (.inr ⟨rfl,h⟩)
   ·exact .inr (.inl (by rw[h]))
   ·exact .inr (.inr (.inr ⟨rfl,h⟩))
  ·exact .inr (.inr (.inl (UInt8.lt_iff_toNat_lt.2 h)))
theorem jD (u:List UInt8):¬ slt u u:=fun h=>h.elim (fun h=>zo) (fun h=>wS u h.2)
theorem zM {u v x:List UInt8} (h:slt u v) (k:slt v x):slt u x:=by
 rcases h with h | ⟨h,h'⟩ <;> rcases k with k | ⟨k,k'⟩
 ·exact .inl zo
 ·exact .inl zo
 ·exact .inl zo
 ·exact .inr ⟨zo,Ar h' k'⟩
theorem tC (u v:List UInt8):slt u v∨u=v∨slt v u:=by
 rcases Nat.lt_trichotomy u.length v.length with h | h | h
 ·exact .inl (.inl h)
 ·rcases Au u v with k | k | k
  ·exact .inl (.inr ⟨h,k⟩)
  ·exact .inr (.inl k)
  ·exact .inr (.inr (.inr ⟨h.symm,k⟩))
 ·exact .inr (.inr (.inl h))
theorem zN {u v:List UInt8} (h:slt u v) (k:slt v u):False:=jD u (zM h k)
structure gz (f:List UInt8→Bool) (k:Nat) (r:List (List UInt8)):Prop where
 sorted:r.Pairwise slt
 mem:∀x∈r,f x=true
 le:r.length≤k
 rest:∀y,f y=true→y ∉ r→r.length=k∧∀x∈r,slt x y
theorem Ol {a b:List UInt8} (h:slt a b):a≠b:=fun e=>jD a (by rw[← e] at h;exact h)
theorem qY {r:List (List UInt8)} (h:r.Pairwise slt):r.Nodup:=h.imp Ol
theorem wh:∀{r t:List (List UInt8)},r.Pairwise slt→t.Pairwise slt→(∀x,x∈r↔x∈t)→r=t
 | [],[],_,_,_=>rfl
 | [],b::t,_,_,h=>absurd ((h b).2 zS) zS
 | a::r,[],_,_,h=>absurd ((h a).1 zS) zS
 | a::r,b::t,h1,h2,h=>by
  have k1:=List.pairwise_cons.1 h1;have k2:=List.pairwise_cons.1 h2;have e:a=b:=by
   rcases List.mem_cons.1 ((h a).1 zS) with h3 | h3
   ·exact h3
   ·rcases List.mem_cons.1 ((h b).2 zS) with h4 | h4
    ·exact h4.symm
    ·exact (zN (k2.1 a h3) (k1.1 b h4)).elim
  subst e;rw[wh k1.2 k2.2 fun x=>?_];constructor
  ·intro hx;rcases List.mem_cons.1 ((h x).1 (List.mem_cons_of_mem _ hx)) with h3 | h3
   ·subst h3;exact (jD _ (k1.1 _ hx)).elim
   ·exact h3
  ·intro hx;rcases List.mem_cons.1 ((h x).2 (List.mem_cons_of_mem _ hx)) with h3 | h3
   ·subst h3;exact (jD _ (k2.1 _ hx)).elim
   ·exact h3
theorem AY {f:List UInt8→Bool} {k:Nat} {r t:List (List UInt8)} (h:gz f k r) (h':gz f k t):∀x∈r,x∈t:=by
 intro x hx;apply Classical.byContradiction;intro hn;obtain⟨h1,h2⟩:=h'.rest x (h.mem x hx) hn;have hsub:∀y∈t,y∈r:=by
  intro y hy;apply Classical.byContradiction;intro hm;obtain⟨-,h4⟩:=h.rest y (h'.mem y hy) hm;exact zN (h4 x hx) (h2 y hy)
 have hc:=gU (x::t) r (List.nodup_cons.2 ⟨hn,qY h'.sorted⟩) (by
  intro y hy;rcases List.mem_cons.1 hy with rfl | hy
  ·exact hx
  ·exact hsub y hy)
 have:=h.le;simp only[List.length_cons] at hc;omega
theorem AX {f:List UInt8→Bool} {k:Nat} {r t:List (List UInt8)} (h:gz f k r) (h':gz f k t):r=t:=
 wh h.sorted h'.sorted fun x=>⟨AY h h' x,AY h' h x⟩
theorem gz.congr {f g:List UInt8→Bool} {k:Nat} {r:List (List UInt8)} (h:gz f k r) (e:∀w,f w=g w):gz g k r:=by
 have:f=g:=funext e;rw[← this];exact h
def wex (l:Table):Nat→Int→List (List UInt8)
 | 0,s=>if dS l s then [[]] else []
 | n+1,s=>(List.range 256).flatMap fun b=>(wex l n (aW l s b)).map (UInt8.ofNat b::·)
theorem OT (b:UInt8):UInt8.ofNat b.toNat=b:=by simp
theorem jw (l:Table):∀(n:Nat) (s:Int) (w:List UInt8),w∈wex l n s↔w.length=n∧aF l s w=true
 | 0,s,w=>by
  unfold wex
  cases w with
  | nil=>by_cases h:dS l s=true <;> simp[h,aF]
  | cons a w=>by_cases h:dS l s=true <;> simp[h]
 | n+1,s,w=>by
  unfold wex;simp only[List.mem_flatMap,List.mem_range,List.mem_map];constructor
  ·rintro ⟨b,hb,v,hv,rfl⟩;obtain⟨h1,h2⟩:=(jw l n _ v).1 hv;refine ⟨by simp[h1],?_⟩;simp only[aF];rw[show (UInt8.ofNat b).toNat=b by simp;omega];exact h2
  ·rintro ⟨h1,h2⟩
   cases w with
   | nil=>simp at h1
   | cons b v=>
    refine ⟨b.toNat,b.toNat_lt,v,(jw l n _ v).2 ⟨by simpa using h1,h2⟩,by rw[OT]⟩
theorem nY {α:Type} {R:α→α→Prop} (f:Nat→List α):∀(l:List Nat),l.Pairwise (·<·)→(∀b∈l,(f b).Pairwise R)→(∀b∈l,∀c∈l,b<c→∀x∈f b,∀y∈f c,R x y)→(l.flatMap f).Pairwise R
 | [],_,_,_=>.nil
 | b::l,h,h1,h2=>by
  have k:=List.pairwise_cons.1 h;rw[List.flatMap_cons,List.pairwise_append];refine ⟨h1 b zS,nY f l k.2 (fun c hc=>h1 c (by simp[hc])) (fun c hc d hd=>h2 c (by simp[hc]) d (by simp[hd])),?_⟩;intro x hx y hy;obtain⟨c,hc,hy⟩:=List.mem_flatMap.1 hy;exact h2 b zS c (by simp[hc]) (k.1 c hc) x hx y hy
theorem vV (l:Table):∀(n:Nat) (s:Int),(wex l n s).Pairwise slt
 | 0,s=>by
  unfold wex
  split <;> simp
 | n+1,s=>by
  unfold wex;refine nY _ _ List.pairwise_lt_range ?_ ?_
  ·intro b _;rw[List.pairwise_map];refine (vV l n _).imp fun {u v} h=>?_;rcases h with h | ⟨h1,h2⟩
   ·exact .inl (by simp[h])
   ·exact .inr ⟨by simp[h1],.inr ⟨rfl,h2⟩⟩
  ·intro b hb c hc hbc x hx y hy;obtain⟨u,hu,rfl⟩:=List.mem_map.1 hx;obtain⟨v,hv,rfl⟩:=List.mem_map.1 hy;have h1:=((jw l n _ u).1 hu).1;have h2:=((jw l n _ v).1 hv).1;have hb:=List.mem_range.1 hb;have hc:=List.mem_range.1 hc;refine .inr ⟨by simp[h1,h2],.inl (UInt8.lt_iff_toNat_lt.2 ?_)⟩;simp only[UInt8.toNat_ofNat'];omega
def enum (l:Table) (s:Int) (L:Nat):List (List UInt8):=(List.range L).flatMap fun n=>wex l n s
theorem ji (l:Table) (s:Int) (L:Nat) (w:List UInt8):w∈enum l s L↔w.length<L∧aF l s w=true:=by
 unfold enum;simp only[List.mem_flatMap,List.mem_range,jw];exact⟨fun ⟨n,h1,h2,h3⟩=>⟨zo,h3⟩,fun ⟨h1,h2⟩=>⟨_,h1,rfl,h2⟩⟩
theorem uI (l:Table) (s:Int) (L:Nat):(enum l s L).Pairwise slt:=by
 refine nY _ _ List.pairwise_lt_range (fun b _=>vV l b s) ?_;intro b _ c _ hbc x hx y hy;have h1:=((jw l _ _ _).1 hx).1;have h2:=((jw l _ _ _).1 hy).1;exact .inl zo
theorem A9 (l:Table) (s:Int) (L:Nat):enum l s (L+1)=enum l s L ++ wex l L s:=by
 unfold enum;rw[List.range_succ,List.flatMap_append];simp
theorem qJ {l:Table} {s:Int} {L k:Nat} (h:k≤(enum l s L).length∨∀y,aF l s y=true→y.length<L):gz (aF l s) k ((enum l s L).take k):=by
 have hs:=uI l s L;refine ⟨hs.sublist (List.take_sublist _ _),fun x hx=>((ji l s L x).1 (List.mem_of_mem_take hx)).2,List.length_take_le _ _,?_⟩;intro y hy hn;by_cases hm:y∈enum l s L
 ·have hd:y∈(enum l s L).drop k:=by
   rw[← List.take_append_drop k (enum l s L)] at hm;rcases List.mem_append.1 hm with h1 | h1
   ·exact absurd h1 hn
   ·exact h1
  refine ⟨?_,fun x hx=>?_⟩
  ·rw[List.length_take];have:k<(enum l s L).length:=by
    apply Classical.byContradiction;intro hk;rw[List.drop_eq_nil_of_le zo] at hd;simp at hd
   omega
  ·rw[← List.take_append_drop k (enum l s L),List.pairwise_append] at hs;exact hs.2.2 x hx y hd
 ·have hL:¬ y.length<L:=fun h1=>hm ((ji l s L y).2 ⟨h1,hy⟩);rcases h with h | h
  ·refine ⟨by rw[List.length_take];omega,fun x hx=>.inl ?_⟩;have:=((ji l s L x).1 (List.mem_of_mem_take hx)).1;omega
  ·exact absurd (h y hy) hL
def jf (l:Table):Int→List UInt8→Int
 | s,[]=>s
 | s,b::w=>jf l (aW l s b.toNat) w
theorem iw (l:Table):∀(u v:List UInt8) (s:Int),aF l s (u ++ v)=aF l (jf l s u) v
 | [],_,_=>rfl
 | _::u,v,_=>iw l u v _
theorem kG {l:Table} {s:Int} {w:List UInt8} (h:aF l s w=true):0≤s∧s<l.length:=by
 constructor
 ·apply Classical.byContradiction;intro hn;rw[bJ zo] at h;cases h
 ·apply Classical.byContradiction;intro hn;rw[dX l s w zo] at h;cases h
theorem xL {l:Table} {s:Int} {y:List UInt8} (h:aF l s y=true) (i:Nat):0≤jf l s (y.take i)∧jf l s (y.take i)<l.length:=by
 refine kG (w:=y.drop i) ?_;rw[← iw,List.take_append_drop];exact h
theorem pump {l:Table} {s:Int} {y:List UInt8} (h:aF l s y=true) (hn:l.length≤y.length):∃y',aF l s y'=true∧y'.length<y.length∧y.length≤y'.length+l.length:=by
 have hnd:¬ ((List.range (l.length+1)).map fun i=>(jf l s (y.take i)).toNat).Nodup:=by
  intro hnd;have:=gU _ (List.range l.length) hnd (by
   intro x hx;obtain⟨i,-,rfl⟩:=List.mem_map.1 hx;have:=xL h i;rw[List.mem_range];omega)
  simp at this;omega
 have hex:∃i j,i<j∧j≤l.length∧jf l s (y.take i)=jf l s (y.take j):=by
  apply Classical.byContradiction;intro hno;apply hnd;rw[List.Nodup,List.pairwise_map];refine (List.pairwise_lt_range (n:=l.length+1)).imp_of_mem fun {i j} hi hj hij e=>hno ⟨i,j,hij,?_,?_⟩
  ·have:=List.mem_range.1 hj;omega
  ·have h1:=xL h i;have h2:=xL h j;omega
 obtain⟨i,j,hij,hj,e⟩:=hex;refine ⟨y.take i ++ y.drop j,?_,?_,?_⟩
 ·rw[iw,e,← iw,List.take_append_drop];exact h
 ·simp;omega
 ·simp;omega
theorem window {l:Table} {s:Int} (t:Nat):∀(N:Nat) (y:List UInt8),y.length≤N→aF l s y=true→t≤y.length→∃y',aF l s y'=true∧t≤y'.length∧y'.length<t+l.length
 | 0,y,hN,h,ht=>⟨y,h,ht,by have:=kG h;omega⟩
 | N+1,y,hN,h,ht=>by
  by_cases hy:y.length<t+l.length
  ·exact⟨y,h,ht,hy⟩
  ·obtain⟨y',h1,h2,h3⟩:=pump h zo;exact window t N y' zo h1 zo
theorem Ba {l:Table} {s:Int} {L L':Nat} (h:L≤L'):(enum l s L).length≤(enum l s L').length:=by
 induction h with
 | refl=>exact Nat.le_refl _
 | step _ ih=>rw[A9,List.length_append];omega
theorem uJ {l:Table} {s:Int} {y:List UInt8} (h:aF l s y=true):∀c,c*l.length≤y.length→c≤(enum l s (c*l.length)).length
 | 0,_=>Nat.zero_le _
 | c+1,hc=>by
  have e:(c+1)*l.length=c*l.length+l.length:=Nat.succ_mul _ _;have ih:=uJ h c zo;obtain⟨y',h1,h2,h3⟩:=window (c*l.length) _ y (Nat.le_refl _) h zo;have h4:y'∈enum l s ((c+1)*l.length):=(ji _ _ _ _).2 ⟨zo,h1⟩;have h5:y' ∉ enum l s (c*l.length):=fun hm=>by have:=((ji _ _ _ _).1 hm).1;omega
  have:=gU (y'::enum l s (c*l.length)) (enum l s ((c+1)*l.length)) (List.nodup_cons.2 ⟨h5,qY (uI _ _ _)⟩) (by
   intro x hx;rcases List.mem_cons.1 hx with rfl | hx
   ·exact h4
   ·obtain⟨g1,g2⟩:=(ji _ _ _ _).1 hx;exact (ji _ _ _ _).2 ⟨zo,g2⟩)
  simp only[List.length_cons] at this;omega
theorem G7 {l:Table} {s:Int} {k L:Nat} (hL:k*l.length≤L):gz (aF l s) k ((enum l s L).take k):=by
 apply qJ;by_cases h:∃y,aF l s y=true∧L≤y.length
 ·obtain⟨y,h1,h2⟩:=h;have h3:=uJ h1 k zo;exact .inl (Nat.le_trans h3 (Ba hL))
 ·exact .inr fun y hy=>by
   apply Classical.byContradiction;intro hn;exact h ⟨y,hy,zo⟩
end Cl
namespace Cl
def lT (f:List UInt8→Bool):Option (List UInt8)→Prop
 | none=>∀y,f y=false
 | some x=>f x=true∧∀y,f y=true→y=x∨slt x y
theorem C8 {f:List UInt8→Bool} {r:List (List UInt8)} (h:gz f 1 r):lT f r.head?:=by
 cases r with
 | nil=>
  intro y
  cases hy:f y with
  | false=>rfl
  | true=>have:=(h.rest y hy zS).1;simp at this
 | cons x r=>
  refine ⟨h.mem x zS,fun y hy=>?_⟩;by_cases hm:y∈x::r
  ·have:=h.le;simp only[List.length_cons] at this;have hr:r=[]:=List.eq_nil_of_length_eq_zero zo;subst hr;exact .inl (by simpa using hm)
  ·exact .inr ((h.rest y hy hm).2 x zS)
theorem lT.congr {f g:List UInt8→Bool} {a:Option (List UInt8)} (h:lT f a) (e:∀w,f w=g w):lT g a:=by
 have:f=g:=funext e;rw[← this];exact h
inductive lV (f g:List UInt8→Bool):Int→Prop where
 | same (h:∀w,f w=g w):lV f g 0
 | lt (x:List UInt8) (h1:f x=true) (h2:g x=false) (h3:∀y,slt y x→f y=g y):lV f g (-1)
 | gt (x:List UInt8) (h1:f x=false) (h2:g x=true) (h3:∀y,slt y x→f y=g y):lV f g 1
theorem Hu {f g:List UInt8→Bool} {c d:Int} (h:lV f g c) (k:lV f g d):c=d:=by
 cases h with
 | same h=>
  cases k with
  | same=>rfl
  | lt x a b _=>rw[h x,b] at a;cases a
  | gt x a b _=>rw[h x,b] at a;cases a
 | lt x a b e=>
  cases k with
  | same h=>rw[h x,b] at a;cases a
  | lt=>rfl
  | gt y a' b' e'=>
   rcases tC x y with q | q | q
   ·have:=e' x q;rw[a,b] at this;cases this
   ·subst q;rw[a] at a';cases a'
   ·have:=e y q;rw[a',b'] at this;cases this
 | gt x a b e=>
  cases k with
  | same h=>rw[h x,b] at a;cases a
  | gt=>rfl
  | lt y a' b' e'=>
   rcases tC x y with q | q | q
   ·have:=e' x q;rw[a,b] at this;cases this
   ·subst q;rw[a] at a';cases a'
   ·have:=e y q;rw[a',b'] at this;cases this
theorem lV.swap {f g:List UInt8→Bool} {c:Int} (h:lV f g c):lV g f (-c):=by
 cases h with
 | same h=>exact .same fun w=>(h w).symm
 | lt x a b e=>exact .gt x b a fun y hy=>(e y hy).symm
 | gt x a b e=>exact .lt x b a fun y hy=>(e y hy).symm
theorem lV.refl (f:List UInt8→Bool):lV f f 0:=.same fun _=>rfl
theorem lV.zero {f g:List UInt8→Bool} {c:Int} (h:lV f g c):c=0↔∀w,f w=g w:=by
 constructor
 ·rintro rfl
  cases h with
  | same h=>exact h
 ·intro e;exact Hu h (.same e)
theorem lV.range {f g:List UInt8→Bool} {c:Int} (h:lV f g c) : -1≤c∧c≤1:=by cases h <;> omega
theorem lV.congr {f g f' g':List UInt8→Bool} {c:Int} (h:lV f g c) (e:∀w,f w=f' w) (e':∀w,g w=g' w):lV f' g' c:=by
 have h1:f=f':=funext e;have h2:g=g':=funext e';rw[← h1,← h2];exact h
noncomputable def Sem (l:Table) (w:List UInt8):Bool:=tf (Canon l)&&aF l 0 w
theorem oO {l:Table} (h:Canon l) (w:List UInt8):Sem l w=aF l 0 w:=by simp[Sem,aI h]
structure nA (f:List UInt8→Bool) (C:Table):Prop where
 canon:Canon C
 lang:∀w,aF C 0 w=f w
theorem nA.sem {f:List UInt8→Bool} {C:Table} (h:nA f C) (w:List UInt8):Sem C w=f w:=by rw[oO h.canon];exact h.lang w
theorem nA.congr {f g:List UInt8→Bool} {C:Table} (h:nA f C) (e:∀w,f w=g w):nA g C:=⟨h.canon,fun w=>(h.lang w).trans (e w)⟩
end Cl
namespace Cl
inductive El where
 | nul | fal | tru
 | num (u:Int)
 | str (x:List UInt8)
def El.rk:El→Nat | nul=>0 | fal=>1 | tru=>2 | num _=>3 | str _=>4
def El.lt:El→El→Prop
 | num u,num v=>near u v
 | str x,str y=>slt x y
 | a,b=>a.rk<b.rk
theorem El.lt_irrefl:∀a:El,¬ a.lt a
 | nul=>by simp[El.lt]
 | fal=>by simp[El.lt]
 | tru=>by simp[El.lt]
 | num u=>CU u
 | str x=>jD x
theorem El.LA {a b:El} (h:a.rk<b.rk):a.lt b:=by
 cases a <;> cases b <;> simp_all [El.lt,El.rk]
theorem El.Oz {a b:El} (h:a.lt b):a.rk≤b.rk:=by
 cases a <;> cases b <;> simp_all [El.lt,El.rk]
theorem El.lt_trans {a b c:El} (h:a.lt b) (k:b.lt c):a.lt c:=by
 by_cases e:a.rk<b.rk
 ·exact El.LA (by have:=El.Oz k;omega)
 ·by_cases e':b.rk<c.rk
  ·exact El.LA (by have:=El.Oz h;omega)
  ·cases a <;> cases b <;> simp_all [El.lt,El.rk] <;> cases c <;> simp_all
   ·exact l8 h k
   ·exact zM h k
theorem El.Ex (a b:El):a.lt b∨a=b∨b.lt a:=by
 rcases Nat.lt_trichotomy a.rk b.rk with h | h | h
 ·exact .inl (El.LA h)
 ·cases a <;> cases b <;> simp_all [El.lt,El.rk]
  ·rename_i u v;by_cases e:u=v
   ·exact .inr (.inl e)
   ·rcases wP e with h | h
    ·exact .inl h
    ·exact .inr (.inr h)
  ·exact tC _ _
 ·exact .inr (.inr (El.LA h))
def jU (p:El→Prop):Option El→Prop
 | none=>∀e,¬ p e
 | some a=>p a∧∀e,p e→e=a∨a.lt e
theorem jU.congr {p q:El→Prop} {r:Option El} (h:jU p r) (e:∀a,p a↔q a):jU q r:=by
 have:p=q:=funext fun a=>propext (e a);rw[← this];exact h
inductive CmpE (p q:El→Prop):Int→Prop where
 | same (h:∀a,p a↔q a):CmpE p q 0
 | lt (x:El) (h1:p x) (h2:¬ q x) (h3:∀y,El.lt y x→(p y↔q y)):CmpE p q (-1)
 | gt (x:El) (h1:¬ p x) (h2:q x) (h3:∀y,El.lt y x→(p y↔q y)):CmpE p q 1
theorem Dy {p q:El→Prop} {c d:Int} (h:CmpE p q c) (k:CmpE p q d):c=d:=by
 cases h with
 | same h=>
  cases k with
  | same=>rfl
  | lt x a b _=>exact absurd ((h x).1 a) b
  | gt x a b _=>exact absurd ((h x).2 b) a
 | lt x a b e=>
  cases k with
  | same h=>exact absurd ((h x).1 a) b
  | lt=>rfl
  | gt y a' b' e'=>
   rcases El.Ex x y with o | o | o
   ·exact absurd ((e' x o).1 a) b
   ·subst o;exact absurd a a'
   ·exact absurd ((e y o).2 b') a'
 | gt x a b e=>
  cases k with
  | same h=>exact absurd ((h x).2 b) a
  | gt=>rfl
  | lt y a' b' e'=>
   rcases El.Ex x y with o | o | o
   ·exact absurd ((e' x o).2 b) a
   ·subst o;exact absurd a' a
   ·exact absurd ((e y o).1 a') b'
theorem CmpE.swap {p q:El→Prop} {c:Int} (h:CmpE p q c):CmpE q p (-c):=by
 cases h with
 | same h=>exact .same fun w=>(h w).symm
 | lt x a b e=>exact .gt x b a fun y hy=>(e y hy).symm
 | gt x a b e=>exact .lt x b a fun y hy=>(e y hy).symm
theorem CmpE.zero {p q:El→Prop} {c:Int} (h:CmpE p q c):c=0↔∀a,p a↔q a:=by
 constructor
 ·rintro rfl
  cases h with
  | same h=>exact h
 ·exact fun e=>Dy h (.same e)
theorem CmpE.range {p q:El→Prop} {c:Int} (h:CmpE p q c) : -1≤c∧c≤1:=by cases h <;> omega
theorem CmpE.congr {p q p' q':El→Prop} {c:Int} (h:CmpE p q c) (e:∀a,p a↔p' a) (e':∀a,q a↔q' a):CmpE p' q' c:=by
 have h1:p=p':=funext fun a=>propext (e a);have h2:q=q':=funext fun a=>propext (e' a);rw[← h1,← h2];exact h
structure RS where
 nul:Bool
 fal:Bool
 tru:Bool
 i:List Spn
 f:List Spn
 t:Table
def RS.ns (s:RS):NS:=mkN s.i s.f
structure RS.iy (s:RS):Prop where
 ei:s.i=s.ns.i
 ef:s.f=s.ns.rf
 ct:Canon s.t
def RS.has (s:RS):El→Prop
 | .nul=>s.nul=true
 | .fal=>s.fal=true
 | .tru=>s.tru=true
 | .num u=>s.ns.has u
 | .str x=>Sem s.t x=true
theorem RS.Ou (s:RS):NSok s.ns:=Eu _ _
structure ScIs (p:El→Prop) (s:RS):Prop where
 valid:s.iy
 mem:∀e,s.has e↔p e
theorem ScIs.congr {p q:El→Prop} {r:RS} (h:ScIs p r) (e:∀a,p a↔q a):ScIs q r:=⟨h.valid,fun a=>(h.mem a).trans (e a)⟩
def dJ:RS:=⟨false,false,false,[],[],[]⟩
theorem iE:dJ.iy:=⟨rfl,rfl,jQ⟩
theorem Hg (e:El):¬ dJ.has e:=by
 have h0:dJ.ns=ER:=Nw
 cases e with
 | nul=>simp[RS.has,dJ]
 | fal=>simp[RS.has,dJ]
 | tru=>simp[RS.has,dJ]
 | num u=>simp only[RS.has,h0];exact xe u
 | str x=>simp only[RS.has,dJ,oO jQ,kH];simp
theorem Km:ScIs (fun _=>False) dJ:=⟨iE,fun e=>⟨Hg e,False.elim⟩⟩
noncomputable def pI (s:RS):RS:=if tf s.iy=true then s else dJ
theorem EM {s:RS} (h:s.iy):pI s=s:=by simp[pI,aI h]
theorem J7 {s:RS} (h:¬ s.iy):pI s=dJ:=by simp[pI,az h]
theorem GA {s:RS} (h:s.nul=true):jU s.has (some .nul):=⟨h,fun e _=>by cases e <;> simp[El.lt,El.rk]⟩
theorem GD {s:RS} (h0:s.nul=false) (h:s.fal=true):jU s.has (some .fal):=⟨h,fun e he=>by
 cases e <;> simp[El.lt,El.rk]
 simp[RS.has,h0] at he⟩
theorem Gx {s:RS} (h0:s.nul=false) (h1:s.fal=false) (h:s.tru=true):jU s.has (some .tru):=⟨h,fun e he=>by
 cases e <;> simp[El.lt,El.rk] <;> simp[RS.has,h0,h1] at he⟩
theorem Gz {s:RS} (h0:s.nul=false) (h1:s.fal=false) (h2:s.tru=false) {u:Int} (h:kL s.ns=some u):jU s.has (some (.num u)):=by
 obtain⟨h3,h4⟩:=(Av s.Ou).one u h;refine ⟨h3,fun e he=>?_⟩
 cases e with
 | nul=>simp[RS.has,h0] at he
 | fal=>simp[RS.has,h1] at he
 | tru=>simp[RS.has,h2] at he
 | num v=>
  rcases h4 v he with rfl | h5
  ·exact .inl rfl
  ·exact .inr h5
 | str w=>exact .inr (by simp[El.lt,El.rk])
theorem Gy {s:RS} (h0:s.nul=false) (h1:s.fal=false) (h2:s.tru=false) (h3:kL s.ns=none) {r:Option (List UInt8)} (h:lT (Sem s.t) r):jU s.has (r.map .str):=by
 have hn:=(Av s.Ou).no h3;have key:∀e,s.has e→∃w,e=.str w∧Sem s.t w=true:=fun e he=>by
  cases e with
  | nul=>simp[RS.has,h0] at he
  | fal=>simp[RS.has,h1] at he
  | tru=>simp[RS.has,h2] at he
  | num v=>exact absurd he (hn v)
  | str w=>exact⟨w,rfl,he⟩
 cases r with
 | none=>
  intro e he;obtain⟨w,-,hw⟩:=key e he;have:=h w;rw[hw] at this
  cases this
 | some x=>
  refine ⟨h.1,fun e he=>?_⟩;obtain⟨w,rfl,hw⟩:=key e he;rcases h.2 w hw with rfl | h5
  ·exact .inl rfl
  ·exact .inr h5
end Cl
namespace Cl
def elDt:El→Dt
 | .nul=>.mk 1 0 ⟨#[]⟩ [] [] []
 | .fal=>.mk 2 0 ⟨#[]⟩ [] [] []
 | .tru=>.mk 2 1 ⟨#[]⟩ [] [] []
 | .num u=>.mk 3 u ⟨#[]⟩ [] [] []
 | .str x=>.mk 4 0 ⟨x.toArray⟩ [] [] []
end Cl
namespace Cl
theorem j6:∀(r:List Spn) (s:Spn),(insS s true r).length≤r.length
 | [],s=>by simp[insS]
 | x::r,s=>by
  have h1:=j6 r s;have h3:=j6 r (min s.1 x.1,max s.2 x.2);rw[insS]
  split
  ·simp only[List.length_cons];omega
  ·split
   ·simp only[if_true,List.nil_append,List.length_cons];omega
   ·simp only[List.length_cons];omega
theorem su:∀(r:List Spn) (s:Spn) (d:Bool),(insS s d r).length≤r.length+1
 | [],s,d=>by unfold insS;split <;> simp
 | x::r,s,d=>by
  have h1:=su r s d;have h3:=su r (min s.1 x.1,max s.2 x.2) d;have h2:=j6 r s;rw[insS]
  split
  ·simp only[List.length_cons];omega
  ·split
   ·cases d <;> simp only[if_true,Bool.false_eq_true,if_false,List.cons_append,List.nil_append,List.length_cons] <;> omega
   ·simp only[List.length_cons];omega
theorem nU (l:List Spn):(eB l).length≤l.length:=by
 have:∀(l out:List Spn),(l.foldl (fun out s=>if s.2<s.1 then out else insS s false out) out).length≤out.length+l.length:=by
  intro l
  induction l with
  | nil=>intro out;simp
  | cons s l ih=>
   intro out;have:=ih (if s.2<s.1 then out else insS s false out);have h2:(if s.2<s.1 then out else insS s false out).length≤out.length+1:=by
    split
    ·omega
    ·exact su out s false
   simp only[List.foldl_cons,List.length_cons];omega
 have:=this l [];rw[eB];simpa using this
theorem uy (l:List Spn):(jL l).length≤l.length:=by
 have:=List.length_filter_le (fun s=>decide (s.1≤s.2)) (l.map jA);simpa [jL] using this
theorem uz (l:List Spn):(iq l).length≤l.length:=by
 have:=List.length_filter_le (fun s=>decide (s.1≤s.2)) (l.map fO);simpa [iq] using this
structure NS.Le (x:NS) (k:Nat):Prop where
 i:x.i.length≤k
 f:x.f.length≤k
theorem NS.Oq (x:NS):x.rf.length=x.f.length:=by simp[NS.rf]
theorem NS.Le.mono {x:NS} {k n:Nat} (h:x.Le k) (hk:k≤n):x.Le n:=⟨Nat.le_trans h.i hk,Nat.le_trans h.f hk⟩
theorem MP {I F:List Spn} {k:Nat} (h1:I.length≤k) (h2:F.length≤k):(mkN I F).Le k:=by
 refine ⟨Nat.le_trans (nU _) (Nat.le_trans (uy I) h1),Nat.le_trans (nU _) ?_⟩;rw[List.length_map];exact Nat.le_trans (uz F) h2
theorem Od (u:Int):u.tmod 10000=if u % 10000=0∨0≤u then u % 10000 else u % 10000 - 10000:=by
 rw[Int.tmod_eq_emod];have:((10000:Int) ∣ u)↔u % 10000=0:=Int.dvd_iff_emod_eq_zero;simp only[this]
 split <;> split <;> omega
theorem lZ (u:Int):u.tmod 10000=0↔u % 10000=0:=by rw[Od];split <;> omega
end Cl
namespace Cl
noncomputable def ng (s:RS):Bool:=tf (∀e,¬ (pI s).has e)
theorem Dr {s:RS} (h:jU (pI s).has none):ng s=true:=aI h
theorem Dq {s:RS} {e:El} (h:jU (pI s).has (some e)):ng s=false:=az fun k=>k e h.1
end Cl
namespace Cl
structure Cmp3 {α:Type} (p:α→Prop) (c:α→α→Int):Prop where
 rng:∀a b,p a→p b → -1≤c a b∧c a b≤1
 anti:∀a b,p a→p b→c b a = - c a b
 eq:∀a b,p a→p b→(c a b=0↔a=b)
 tr:∀a b d,p a→p b→p d→c a b≤0→c b d≤0→c a d≤0
def orI (a b:Int):Int:=if a=0 then b else a
namespace Cmp3
variable {α β:Type} {p:α→Prop} {q:β→Prop} {c:α→α→Int} {d:β→β→Int}
theorem self (h:Cmp3 p c) {a:α} (ha:p a):c a a=0:=(h.eq a a ha ha).2 rfl
theorem sub (h:Cmp3 p c) {p':α→Prop} (k:∀a,p' a→p a):Cmp3 p' c where
 rng a b ha hb:=h.rng a b (k a ha) (k b hb)
 anti a b ha hb:=h.anti a b (k a ha) (k b hb)
 eq a b ha hb:=h.eq a b (k a ha) (k b hb)
 tr a b d ha hb hd:=h.tr a b d (k a ha) (k b hb) (k d hd)
end Cmp3
def yt (a b:Bool):Int:=if a=b then 0 else if a then -1 else 1
end Cl
namespace Cl
inductive Vl where
 | mk (any:Bool) (s:RS) (lists:List (List (Vl × Vl) × List (Vl × Vl))) (structs:List (List ((ByteArray × Int) × (Vl × Vl)) × List (Table × (Vl × Vl))))
abbrev Vd:=Vl × Vl
abbrev Lc:=List Vd × List Vd
abbrev Fd:=(ByteArray × Int) × Vd
abbrev Kl:=Table × Vd
abbrev St:=List Fd × List Kl
def Vl.any:Vl→Bool | .mk a _ _ _=>a
def Vl.s:Vl→RS | .mk _ s _ _=>s
def Vl.lists:Vl→List Lc | .mk _ _ l _=>l
def Vl.structs:Vl→List St | .mk _ _ _ t=>t
def bT (c:Lc):List Vd:=c.1 ++ c.2
def bH (c:St):List Vd:=c.1.map (·.2) ++ c.2.map (·.2)
def Vl.kids (v:Vl):List Vd:=v.lists.flatMap bT ++ v.structs.flatMap bH
def botV:Vl:=.mk false dJ [] []
def topV:Vl:=.mk true dJ [] []
def Ht:Nat→Vl→Prop
 | 0,_=>False
 | n+1,v=>∀x∈v.kids,Ht n x.1∧Ht n x.2
theorem Ht.succ:∀{n:Nat} {v:Vl},Ht n v→Ht (n+1) v
 | 0,_,h=>h.elim
 | _+1,_,h=>fun x hx=>⟨(h x hx).1.succ,(h x hx).2.succ⟩
theorem Ht.mono {n m:Nat} {v:Vl} (h:Ht n v) (k:n≤m):Ht m v:=by
 induction k with
 | refl=>exact h
 | step _ ih=>exact ih.succ
def vcnt:Nat→Vl→Nat
 | 0,_=>0
 | n+1,v=>1+(v.kids.map fun x=>vcnt n x.1+vcnt n x.2).sum
theorem zI {α:Type} {f g:α→Nat}:∀{l:List α},(∀x∈l,f x=g x)→(l.map f).sum=(l.map g).sum
 | [],_=>rfl
 | x::l,h=>by
  simp only[List.map_cons,List.sum_cons];rw[h x zS,zI fun y hy=>h y (by simp[hy])]
theorem kU:∀{n:Nat} {v:Vl},Ht n v→vcnt (n+1) v=vcnt n v
 | 0,_,h=>h.elim
 | n+1,v,h=>by
  rw[vcnt,vcnt]
  congr 1
  exact zI fun x hx=>by rw[kU (h x hx).1,kU (h x hx).2]
theorem jC {n m:Nat} {v:Vl} (h:Ht n v) (k:n≤m):vcnt m v=vcnt n v:=by
 induction k with
 | refl=>rfl
 | step k ih=>rw[kU (h.mono k),ih]
theorem rW {n:Nat} {v:Vl} (h:Ht n v):1≤vcnt n v:=by
 cases n with
 | zero=>exact h.elim
 | succ n=>rw[vcnt];omega
structure DN (k:Nat) (most r:Int):Prop where
 le:(k:Int)≤most→r=k
 gt:most<k→most<r
 pos:1≤r
 top:r≤if most<1 then 1 else 2*most+2
theorem DN.small {k:Nat} {most r:Int} (h:DN k most r):r≤most↔(k:Int)≤most:=by
 have h1:=h.le;have h2:=h.gt;omega
structure rT (p:Nat) (most n:Int):Prop where
 le:(p:Int)≤most→n=p
 gt:most<p→most<n
 pos:1≤n
 top:n≤if most<1 then 1 else 2*most+2
theorem rT.start (most:Int):rT 1 most 1:=⟨fun _=>rfl,fun h=>h,zo,by split <;> omega⟩
theorem rT.step {p a b:Nat} {most n x y:Int} (h:rT p most n) (hn:n≤most) (hx:DN a (most - n) x) (hy:DN b (most - (n+x)) y) (ha:1≤a) (hb:1≤b):rT (p+(a+b)) most (n+x+y):=by
 obtain⟨h1,h2,h3,h4⟩:=h;obtain⟨x1,x2,x3,x4⟩:=hx;obtain⟨y1,y2,y3,y4⟩:=hy;have e:n=p:=zo;rw[if_neg zo] at h4;refine ⟨fun k=>?_,fun k=>?_,zo,?_⟩
 ·have:=x1 zo;have:=y1 zo;omega
 ·by_cases k1:(a:Int)≤most - n
  ·have:=x1 k1;have:=y2 zo;omega
  ·have:=x2 zo;omega
 ·rw[if_neg zo]
  split at x4 <;> split at y4 <;> omega
def bLt (a b:ByteArray):Bool:=Go.Op.bytesLess a.data.toList b.data.toList
structure dE (l:List Fd):Prop where
 pres:∀f∈l,f.1.2=1∨f.1.2=2
 asc:∀i (h:i+1<l.length),bLt l[i].1.1 (l[i+1]).1.1=true
noncomputable def hitN (c:St) (w:List UInt8):Nat:=c.2.countP (fun k=>Sem k.1 w)+c.1.countP (fun f=>f.1.1.data.toList==w)
structure cB (c:St):Prop where
 sets:∀k∈c.2,Canon k.1∧k.1≠[]
 once:∀w,hitN c w=1
structure lU (v:Vl):Prop where
 any:v.any=true→v.s=dJ∧v.lists=[]∧v.structs=[]
 rest:∀c∈v.lists,c.2.length≤1
 st:∀c∈v.structs,dE c.1∧cB c
 sc:v.s.iy
def Snd:Nat→Vl→Prop
 | 0,_=>False
 | n+1,v=>lU v∧∀x∈v.kids,Snd n x.1∧Snd n x.2
def SndV (v:Vl):Prop:=Snd 16 v
theorem Snd.ht:∀{n:Nat} {v:Vl},Snd n v→Ht n v
 | 0,_,h=>h.elim
 | _+1,_,h=>fun x hx=>⟨(h.2 x hx).1.ht,(h.2 x hx).2.ht⟩
def maxL:List Nat→Nat
 | []=>0
 | x::l=>max x (maxL l)
def dep:Nat→Vl→Nat
 | 0,_=>0
 | n+1,v=>maxL (v.kids.map fun x=>max (dep n x.1) (dep n x.2))+1
theorem MW {a b:ByteArray} (h:a.data.toList=b.data.toList):a=b:=by
 obtain⟨⟨a⟩⟩:=a;obtain⟨⟨b⟩⟩:=b;simp only at h;rw[h]
theorem N9 {a b:Vl} (h1:a.any=b.any) (h2:a.s=b.s) (h3:a.lists=b.lists) (h4:a.structs=b.structs):a=b:=by
 obtain⟨_,_,_,_⟩:=a;obtain⟨_,_,_,_⟩:=b;simp only[Vl.any,Vl.s,Vl.lists,Vl.structs] at *
 subst h1 h2 h3 h4;rfl
theorem jK {v:Vl} {c:Lc} (hc:c∈v.lists) {x:Vd} (hx:x∈bT c):x∈v.kids:=List.mem_append.2 (.inl (List.mem_flatMap.2 ⟨c,hc,hx⟩))
theorem il {v:Vl} {c:St} (hc:c∈v.structs) {x:Vd} (hx:x∈bH c):x∈v.kids:=List.mem_append.2 (.inr (List.mem_flatMap.2 ⟨c,hc,hx⟩))
end Cl
namespace Cl
structure Comp where
 n:Nat
 step:Int→Nat→Int
 acc:Int→Bool
structure Comp.Ok (c:Comp):Prop where
 pos:1≤c.n
 step:∀i b,-1≤c.step i b∧c.step i b<c.n
def Comp.from (c:Comp):Int→List UInt8→Int
 | i,[]=>i
 | i,b::w=>c.from (c.step i b.toNat) w
def Comp.lang (c:Comp) (w:List UInt8):Bool:=c.acc (c.from 0 w)
def dK (cs:List Comp) (v:List Int) (b:Nat):List Int:=List.zipWith (fun c i=>c.step i b) cs v
def eu (cs:List Comp):List Int:=cs.map fun _=>0
def je (cs:List Comp) (v:List Int):Nat:=(List.zipWith (fun c i=>c.acc i) cs v).countP id
def vrun (cs:List Comp):List Int→List UInt8→List Int
 | v,[]=>v
 | v,b::w=>vrun cs (dK cs v b.toNat) w
theorem nE {α β γ:Type} (f:α→β→γ) (g:α→β):∀l:List α,List.zipWith f l (l.map g)=l.map fun x=>f x (g x)
 | []=>rfl
 | x::l=>by simp only[List.map_cons,List.zipWith_cons_cons,nE f g l]
theorem rU (cs:List Comp):∀(w:List UInt8) (f:Comp→Int),vrun cs (cs.map f) w=cs.map fun c=>c.from (f c) w
 | [],f=>rfl
 | b::w,f=>by
  rw[vrun,dK,nE,rU cs w]
  rfl
theorem zq (cs:List Comp) (w:List UInt8):je cs (vrun cs (eu cs) w)=cs.countP fun c=>c.lang w:=by
 rw[eu,rU,je,nE,List.countP_map]
 rfl
theorem sJ (cs:List Comp):∀(u w:List UInt8) (v:List Int),vrun cs v (u ++ w)=vrun cs (vrun cs v u) w
 | [],_,_=>rfl
 | b::u,w,v=>by simp only[List.cons_append,vrun,sJ cs u w]
def gV (cs:List Comp) (v:List Int):Prop:=∃w,v=vrun cs (eu cs) w
theorem gV.start (cs:List Comp):gV cs (eu cs):=⟨[],rfl⟩
theorem gV.step {cs:List Comp} {v:List Int} (h:gV cs v) {b:Nat} (hb:b<256):gV cs (dK cs v b):=by
 obtain⟨w,rfl⟩:=h;refine ⟨w ++ [UInt8.ofNat b],?_⟩;rw[sJ];simp only[vrun]
 congr 1
 simp[Nat.mod_eq_of_lt hb]
theorem rD {cs:List Comp} {S:List Int→Prop} (h0:S (eu cs)) (hs:∀v,S v→∀b<256,S (dK cs v b)) {v:List Int} (h:gV cs v):S v:=by
 obtain⟨w,rfl⟩:=h;generalize eu cs=u at h0
 induction w generalizing u with
 | nil=>exact h0
 | cons b w ih=>exact ih _ (hs u h0 b.toNat (UInt8.toNat_lt b))
def qO (cs:List Comp):Prop:=∀w,cs.countP (fun c=>c.lang w)=1
theorem mW {cs:List Comp} {S:List Int→Prop} (h0:S (eu cs)) (hs:∀v,S v→∀b<256,S (dK cs v b)) (h1:∀v,S v→je cs v=1):qO cs:=fun w=>by
 rw[← zq];exact h1 _ (rD h0 hs ⟨w,rfl⟩)
theorem Ep {cs:List Comp} {v:List Int} (h:gV cs v) (k:je cs v≠1):¬ qO cs:=fun ho=>by
 obtain⟨w,rfl⟩:=h;rw[zq] at k;exact k (ho w)
def VIn:List Comp→List Int→Prop
 | [],[]=>True
 | [],_::_=>False
 | _::_,[]=>False
 | c::cs,i::v=>(-1≤i∧i<c.n)∧VIn cs v
theorem VIn.len:∀{cs:List Comp} {v:List Int},VIn cs v→v.length=cs.length
 | [],[],_=>rfl
 | [],_::_,h=>h.elim
 | _::_,[],h=>h.elim
 | c::cs,i::v,h=>by simp[VIn.len h.2]
theorem VIn.start:∀{cs:List Comp},(∀c∈cs,c.Ok)→VIn cs (eu cs)
 | [],_=>trivial
 | c::cs,h=>⟨⟨by show (-1:Int)≤0;omega,by have:=(h c zS).pos;show (0:Int)<c.n;omega⟩,VIn.start fun d hd=>h d (by simp[hd])⟩
theorem VIn.step:∀{cs:List Comp} {v:List Int} (_:∀c∈cs,c.Ok) (_:v.length=cs.length) (b:Nat),VIn cs (dK cs v b)
 | [],[],_,_,_=>trivial
 | [],_::_,_,h,_=>by simp at h
 | _::_,[],_,h,_=>by simp at h
 | c::cs,i::v,h,hl,b=>⟨(h c zS).step i b,VIn.step (fun d hd=>h d (by simp[hd])) (by simpa using hl) b⟩
theorem VIn.get:∀{cs:List Comp} {v:List Int} (_:VIn cs v) (i:Nat) (h1:i<cs.length) (h2:i<v.length),-1≤v[i]∧v[i]<cs[i].n
 | [],_,_,i,h1,_=>by simp at h1
 | _::_,[],h,_,_,_=>h.elim
 | c::cs,x::v,h,0,_,_=>h.1
 | c::cs,x::v,h,i+1,h1,h2=>VIn.get h.2 i (by simpa using h1) (by simpa using h2)
theorem VIn.reach {cs:List Comp} (h:∀c∈cs,c.Ok) {v:List Int} (k:gV cs v):VIn cs v:=
 rD (S:=VIn cs) (VIn.start h) (fun _ hv b _=>VIn.step h hv.len b) k
def univ:List Comp→List (List Int)
 | []=>[[]]
 | c::cs=>(List.range (c.n+1)).flatMap fun (i:Nat)=>(univ cs).map fun v=>((i:Int) - 1)::v
theorem xY:∀{cs:List Comp} {v:List Int},VIn cs v→v∈univ cs
 | [],[],_=>by simp[univ]
 | [],_::_,h=>h.elim
 | _::_,[],h=>h.elim
 | c::cs,i::v,h=>by
  refine List.mem_flatMap.2 ⟨(i+1).toNat,List.mem_range.2 (by have h1:=h.1.1;have h2:=h.1.2;omega),List.mem_map.2 ⟨v,xY h.2,?_⟩⟩
  congr 1
  have:=h.1;omega
def kZ:List Comp→Nat
 | []=>1
 | c::cs=>(c.n+1)*kZ cs
theorem sw {α β:Type} (f:α→List β) (k:Nat):∀(l:List α),(∀x∈l,(f x).length=k)→(l.flatMap f).length=l.length*k
 | [],_=>by simp
 | x::l,h=>by
  rw[List.flatMap_cons,List.length_append,h x zS,sw f k l fun y hy=>h y (by simp[hy]),List.length_cons,Nat.succ_mul,Nat.add_comm]
theorem xG:∀cs:List Comp,(univ cs).length=kZ cs
 | []=>rfl
 | c::cs=>by
  rw[univ,kZ,sw _ (kZ cs) _ (fun x _=>by rw[List.length_map,xG cs]),List.length_range]
theorem xH {k:Nat}:∀{cs:List Comp},(∀c∈cs,c.n+1≤k)→kZ cs≤k ^ cs.length
 | [],_=>by simp[kZ]
 | c::cs,h=>by
  rw[kZ,List.length_cons,Nat.pow_succ,Nat.mul_comm (k ^ cs.length)];exact Nat.mul_le_mul (h c zS) (xH fun d hd=>h d (by simp[hd]))
def tabC (l:Table):Comp:=⟨l.length,aW l,dS l⟩
theorem xN {l:Table} (h:Canon l) (hne:l≠[]):(tabC l).Ok where
 pos:=by have:=List.length_pos_iff.2 hne;exact this
 step i b:=by
  have:=dU h.wf i b;have h0:=List.length_pos_iff.2 hne;show -1≤aW l i b∧aW l i b<(l.length:Int);omega
theorem zG (l:Table):∀(w:List UInt8) (i:Int),dS l ((tabC l).from i w)=aF l i w
 | [],_=>rfl
 | _::w,_=>zG l w _
theorem sV {l:Table} (h:Canon l) (w:List UInt8):(tabC l).lang w=Sem l w:=by
 rw[oO h];exact zG l w 0
def j3 (s:List UInt8) (i:Int) (b:Nat):Int:=if 0≤i∧(s[i.toNat]?).map (·.toNat)=some b then i+1 else -1
def labC (s:List UInt8):Comp:=⟨s.length+1,j3 s,fun i=>i==(s.length:Int)⟩
theorem ND (s:List UInt8):(labC s).Ok where
 pos:=by show 1≤s.length+1;omega
 step i b:=by
  show -1≤j3 s i b∧j3 s i b<((s.length+1:Nat):Int);unfold j3
  split
  ·rename_i h;obtain⟨h1,h2⟩:=h;obtain⟨x,h3,-⟩:=Option.map_eq_some_iff.1 h2;have:=(List.getElem?_eq_some_iff.1 h3).1;omega
  ·omega
theorem yh (s:List UInt8):∀w:List UInt8,(labC s).from (-1) w = -1
 | []=>rfl
 | b::w=>by
  rw[Comp.from,show (labC s).step (-1) b.toNat = -1 by simp[labC,j3]];exact yh s w
theorem AC (s:List UInt8):∀(w:List UInt8) (i:Nat),i≤s.length→((labC s).from i w=(s.length:Int)↔w=s.drop i)
 | [],i,h=>by
  simp only[Comp.from];constructor
  ·intro e;rw[List.drop_eq_nil_iff.2 zo]
  ·intro e;have:=List.drop_eq_nil_iff.1 e.symm
   omega
 | b::w,i,h=>by
  rw[Comp.from];by_cases hi:i<s.length
  ·rw[List.drop_eq_getElem_cons hi];by_cases e:s[i].toNat=b.toNat
   ·have:(labC s).step i b.toNat=((i+1:Nat):Int):=by
     simp only[labC,j3];rw[if_pos ⟨zo,by simp[hi,e]⟩];simp
    rw[this,AC s w (i+1) zo,UInt8.toNat_inj.1 e];simp
   ·have:(labC s).step i b.toNat = -1:=by
     simp only[labC,j3];rw[if_neg (by simp[hi,e])]
    rw[this,yh];constructor
    ·intro h;omega
    ·intro h;simp only[List.cons.injEq] at h;exact absurd (by rw[h.1]) e
  ·have:(labC s).step i b.toNat = -1:=by
    simp only[labC,j3];rw[if_neg (by simp[List.getElem?_eq_none (Nat.le_of_not_lt hi)])]
   rw[this,yh,List.drop_eq_nil_iff.2 zo];constructor
   ·intro h;omega
   ·intro h;cases h
theorem JK (s w:List UInt8):(labC s).lang w=(s==w):=by
 have:=AC s w 0 (Nat.zero_le _);rw[List.drop_zero] at this;show ((labC s).from 0 w==(s.length:Int))=(s==w);rw[Bool.eq_iff_iff,beq_iff_eq,beq_iff_eq];exact this.trans eq_comm
def stC1 (c:St):List Comp:=c.2.map (fun k=>tabC k.1) ++ c.1.map fun f=>labC f.1.1.data.toList
theorem Nj {c:St} (h:∀k∈c.2,Canon k.1∧k.1≠[]):∀x∈stC1 c,x.Ok:=by
 intro x hx;rcases List.mem_append.1 hx with hx | hx
 ·obtain⟨k,hk,rfl⟩:=List.mem_map.1 hx;exact xN (h k hk).1 (h k hk).2
 ·obtain⟨f,hf,rfl⟩:=List.mem_map.1 hx;exact ND _
theorem kC {α:Type} {p q:α→Bool}:∀{l:List α},(∀x∈l,p x=q x)→l.countP p=l.countP q
 | [],_=>rfl
 | x::l,h=>by
  simp only[List.countP_cons,h x zS,kC fun y hy=>h y (List.mem_cons_of_mem _ hy)]
theorem sZ {c:St} (h:∀k∈c.2,Canon k.1∧k.1≠[]):qO (stC1 c)↔∀w,hitN c w=1:=by
 have:∀w,(stC1 c).countP (fun x=>x.lang w)=hitN c w:=fun w=>by
  rw[stC1,List.countP_append,List.countP_map,List.countP_map,hitN]
  congr 1
  ·exact kC fun k hk=>sV (h k hk).1 w
  ·exact kC fun f _=>JK _ _
 simp only[qO,this]
theorem iL (c:St):cB c↔(∀k∈c.2,Canon k.1∧k.1≠[])∧qO (stC1 c):=
 ⟨fun h=>⟨h.sets,(sZ h.sets).2 h.once⟩,fun h=>⟨h.1,(sZ h.1).1 h.2⟩⟩
end Cl
namespace Cl
theorem uF {α:Type} {p:α→Bool} {l:List α} (h:∀i (hi:i<l.length),p l[i]=false):l.find? p=none:=by
 rw[List.find?_eq_none];intro x hx;obtain⟨i,hi,rfl⟩:=List.getElem_of_mem hx;simp[h i hi]
theorem Dg {α:Type} {p:α→Bool}:∀{l:List α} (n:Nat) (hn:n<l.length),(∀i (hi:i<l.length),i<n→p l[i]=false)→p l[n]=true→l.find? p=some l[n]
 | [],n,hn,_,_=>by simp at hn
 | x::l,0,_,_,h=>by simp only[List.getElem_cons_zero] at h ⊢;rw[List.find?_cons,h]
 | x::l,n+1,hn,h0,h=>by
  have e0:=h0 0 zS zo;simp only[List.getElem_cons_zero] at e0;rw[List.find?_cons,e0];exact Dg n (by simpa using hn) (fun i hi hlt=>h0 (i+1) (by simpa using hi) zo) (by simpa using h)
theorem zm (a b:Vl):a=b↔a.any=b.any∧a.s=b.s∧a.lists=b.lists∧a.structs=b.structs:=
 ⟨fun h=>by rw[h];exact⟨rfl,rfl,rfl,rfl⟩,fun h=>N9 h.1 h.2.1 h.2.2.1 h.2.2.2⟩
theorem IV (a b:St):a=b↔a.1.length=b.1.length∧a.2.length=b.2.length∧a.1.map (·.1)=b.1.map (·.1)∧a.2.map (·.1)=b.2.map (·.1)∧bH a=bH b:=by
 constructor
 ·intro h;rw[h];exact⟨rfl,rfl,rfl,rfl,rfl⟩
 ·rintro ⟨h1,h2,h3,h4,h5⟩;obtain⟨h6,h7⟩:=List.append_inj h5 (by simpa using h1);have zip:∀{α β:Type} (l m:List (α × β)),l.map (·.1)=m.map (·.1)→l.map (·.2)=m.map (·.2)→l=m:=by
   intro α β l
   induction l with
   | nil=>intro m h _;cases m with
    | nil=>rfl
    | cons=>simp at h
   | cons x l ih=>
    intro m h k
    cases m with
    | nil=>simp at h
    | cons y m=>
     simp only[List.map_cons,List.cons.injEq] at h k;rw[ih m h.2 k.2,Prod.ext h.1 k.1]
  exact Prod.ext (zip _ _ h3 h6) (zip _ _ h4 h7)
theorem JG (a b:Lc):a=b↔a.1.length=b.1.length∧bT a=bT b:=by
 constructor
 ·intro h;rw[h];exact⟨rfl,rfl⟩
 ·rintro ⟨h1,h2⟩;obtain⟨h3,h4⟩:=List.append_inj h2 h1;exact Prod.ext h3 h4
end Cl
namespace Cl
def Lh (A B:Table) (p:Int × Int) (b:Nat):Int × Int:=(aW A p.1 b,aW B p.2 b)
structure rR (A B:Table) (p:Int × Int) (l:List (Int × Int)) (es:List Ed) (c:Nat):Prop where
 wf:aV l.length (-1) es
 hi:∀e∈es,e.hi<c
 le:c≤256
 step:∀b,b<c→∃t:Nat,aS es b=t∧l[t]?=some (Lh A B p b)
 last:c=0∧es=[]∨∃fs e,es=fs ++ [e]∧e.hi+1=c
theorem rR.start (A B:Table) (p:Int × Int) (l:List (Int × Int)):rR A B p l [] 0:=
 ⟨trivial,fun e he=>by simp at he,zo,fun b hb=>zo,.inl ⟨rfl,rfl⟩⟩
theorem rR.mono {A B:Table} {p:Int × Int} {l l':List (Int × Int)} {es:List Ed} {c:Nat} (h:rR A B p l es c) (hp:l <+: l'):rR A B p l' es c:=by
 refine ⟨kS hp.length_le h.wf,h.hi,h.le,fun b hb=>?_,h.last⟩;obtain⟨t,h1,h2⟩:=h.step b hb;obtain⟨x,rfl⟩:=hp;exact⟨t,h1,by rw[List.getElem?_append_left (List.getElem?_eq_some_iff.1 h2).1];exact h2⟩
theorem rR.seg {A B:Table} {p:Int × Int} {l:List (Int × Int)} {es:List Ed} {c h t:Nat} (H:rR A B p l es c) (hch:c≤h) (h256:h<256) (ht:l[t]?=some (Lh A B p c))
 (hs:∀b,c≤b→b≤h→Lh A B p b=Lh A B p c):rR A B p l (es ++ [⟨c,h,t⟩]) (h+1):=by
 have htl:=(List.getElem?_eq_some_iff.1 ht).1;refine ⟨nL (q:=(c:Int) - 1) H.wf (fun e he=>by have:=H.hi e he;omega) zo ⟨hch,zS,by simpa using htl,by show (c:Int) - 1<(c:Int);omega,trivial⟩,?_,zo,fun b hb=>?_,.inr ⟨es,_,rfl,rfl⟩⟩
 ·intro e he;rcases List.mem_append.1 he with h1 | h1
  ·have:=H.hi e h1;omega
  ·simp only[List.mem_singleton] at h1;subst h1;exact Nat.lt_succ_self _
 ·by_cases hbc:b<c
  ·obtain⟨s,h1,h2⟩:=H.step b hbc;refine ⟨s,?_,h2⟩;rw[← h1];by_cases d:∃e∈es,e.lo≤b∧b≤e.hi
   ·exact iC _ _ _ d
   ·have d':∀e∈es,¬ (e.lo≤b∧b≤e.hi):=fun e he hh=>d ⟨e,he,hh⟩;rw[mE _ _ d'] at h1;omega
  ·refine ⟨t,?_,by rw[hs b zo zo];exact ht⟩;rw[jN _ _ _ (fun e he=>by have:=H.hi e he;omega)];simp only[aS];rw[if_pos ⟨zo,zo⟩]
structure jd (A B:Table) (op:Bool→Bool→Bool) (st:Int × Int) (l:List (Int × Int)) (out:Table):Prop where
 first:l[0]?=some st
 nodup:l.Nodup
 rng:∀q∈l,(-1≤q.1∧q.1≤A.length)∧(-1≤q.2∧q.2≤B.length)
 le:out.length≤l.length
 state:∀j,(h:j<out.length)→∀p,l[j]?=some p→(out[j]).accept=op (dS A p.1) (dS B p.2)∧rR A B p l (out[j]).edges 256
theorem Gc {a b:Nat} {l:List (Int × Int)} (hn:l.Nodup) (hr:∀q∈l,(-1≤q.1∧q.1≤a)∧(-1≤q.2∧q.2≤b)):l.length≤(a+2)*(b+2):=by
 have:=gU l ((List.range (a+2)).flatMap fun (i:Nat)=>(List.range (b+2)).map fun (j:Nat)=>((i:Int) - 1,(j:Int) - 1)) hn (fun q hq=>by
  have:=hr q hq;obtain⟨q1,q2⟩:=q;simp only at this;rw[List.mem_flatMap];refine ⟨(q1+1).toNat,List.mem_range.2 zo,List.mem_map.2 ⟨(q2+1).toNat,List.mem_range.2 zo,?_⟩⟩;simp only[Prod.mk.injEq];omega)
 refine Nat.le_trans this ?_;generalize a+2=x;generalize b+2=y;clear this hr
 induction x with
 | zero=>simp
 | succ x ih=>rw[List.range_succ,List.flatMap_append,List.length_append,Nat.succ_mul];simp at ih ⊢;exact ih
theorem jd.grow {A B:Table} {op:Bool→Bool→Bool} {st:Int × Int} {l:List (Int × Int)} {out:Table} (h:jd A B op st l out) {q:Int × Int} (hq:q ∉ l)
 (hr:(-1≤q.1∧q.1≤A.length)∧(-1≤q.2∧q.2≤B.length)):jd A B op st (l ++ [q]) out:=by
 have h0:0<l.length:=by
  have:=h.first
  cases l with
  | nil=>simp at this
  | cons _ _=>simp
 refine ⟨by rw[List.getElem?_append_left h0];exact h.first,?_,?_,by have:=h.le;simp;omega,fun j hj p hp=>?_⟩
 ·exact List.nodup_append.2 ⟨h.nodup,zS,fun a ha b hb e=>by simp only[List.mem_singleton] at hb;subst hb;exact hq (e ▸ ha)⟩
 ·intro x hx;rcases List.mem_append.1 hx with h1 | h1
  ·exact h.rng x h1
  ·simp only[List.mem_singleton] at h1;subst h1;exact hr
 ·have hj':j<l.length:=by have:=h.le;omega
  rw[List.getElem?_append_left hj'] at hp;obtain⟨h1,h2⟩:=h.state j hj p hp;exact⟨h1,h2.mono (List.prefix_append _ _)⟩
theorem jd.push {A B:Table} {op:Bool→Bool→Bool} {st:Int × Int} {l:List (Int × Int)} {out:Table} (h:jd A B op st l out) {p:Int × Int} (hp:l[out.length]?=some p) {es:List Ed}
 (hc:rR A B p l es 256):jd A B op st l (out ++ [⟨op (dS A p.1) (dS B p.2),es⟩]):=by
 refine ⟨h.first,h.nodup,h.rng,by have:=(List.getElem?_eq_some_iff.1 hp).1;simp;omega,fun j hj q hq=>?_⟩;by_cases c:j<out.length
 ·rw[List.getElem_append_left c];exact h.state j c q hq
 ·have:j=out.length:=by simp at hj;omega
  subst this;rw[hp] at hq;cases hq;have eg:(out ++ [⟨op (dS A p.1) (dS B p.2),es⟩])[out.length]'hj=⟨op (dS A p.1) (dS B p.2),es⟩:=by simp
  rw[eg];exact⟨rfl,hc⟩
theorem jd.done {A B:Table} {op:Bool→Bool→Bool} {st:Int × Int} {l:List (Int × Int)} {out:Table} (h:jd A B op st l out) (_:op false false=false) (he:out.length=l.length) :
 WF out∧Bytes out∧out.length≤(A.length+2)*(B.length+2)∧0<out.length∧∀w,aF out 0 w=op (aF A st.1 w) (aF B st.2 w):=by
 have h0:0<l.length:=by
  have:=h.first
  cases l with
  | nil=>simp at this
  | cons _ _=>simp
 have hlang:∀(w:List UInt8),∀(j:Nat) (p:Int × Int),l[j]?=some p→aF out j w=op (aF A p.1 w) (aF B p.2 w):=by
  intro w
  induction w with
  | nil=>
   intro j p hp;have hj:=(List.getElem?_eq_some_iff.1 hp).1;simp only[aF];rw[dF out j zo]
   exact (h.state j zo p hp).1
  | cons b w ih=>
   intro j p hp;have hj:=(List.getElem?_eq_some_iff.1 hp).1;simp only[aF];rw[bV out j _ zo];obtain⟨t,h1,h2⟩:=(h.state j zo p hp).2.step b.toNat b.toNat_lt;rw[h1];exact ih t _ h2
 refine ⟨?_,?_,by rw[he];exact Gc h.nodup h.rng,zo,fun w=>hlang w 0 st h.first⟩
 ·intro s hs;obtain⟨j,hj,rfl⟩:=List.mem_iff_getElem.1 hs;rw[he];exact (h.state j hj _ (List.getElem?_eq_getElem zo)).2.wf
 ·intro s hs;obtain⟨j,hj,rfl⟩:=List.mem_iff_getElem.1 hs;have:=(h.state j hj _ (List.getElem?_eq_getElem zo)).2;intro e he';have h1:=this.hi e he';have h2:=(eO this.wf e he').2.1;omega
end Cl
namespace Cl
def lI (l:Table) (s:Int):List Ed:=if s<0 then [] else match l[s.toNat]? with
 | some st=>st.edges
 | none=>[]
theorem iU (l:Table) (s:Int) (b:Nat):aW l s b=aS (lI l s) b:=by
 unfold aW lI
 split
 ·rfl
 ·cases l[s.toNat]? <;> rfl
end Cl
namespace Cl
structure Lane (k:Nat) (c:Comp):Prop where
 neg:∀b,c.step (-1) b = -1
 step:∀(i b:Nat),i≤k→c.step (i:Int) b = -1∨(c.step (i:Int) b=((i+1:Nat):Int)∧i+1≤k)
theorem Lane.EN {k:Nat} {c:Comp} (h:Lane k c):∀w,c.from (-1) w = -1
 | []=>rfl
 | b::w=>by rw[Comp.from,h.neg,h.EN w]
theorem Lane.Kb {k:Nat} {c:Comp} (h:Lane k c):∀(w:List UInt8) (i:Nat),i≤k→c.from (i:Int) w = -1∨(c.from (i:Int) w=((i+w.length:Nat):Int)∧i+w.length≤k)
 | [],i,hi=>.inr ⟨rfl,hi⟩
 | b::w,i,hi=>by
  rw[Comp.from];rcases h.step i b.toNat hi with e | ⟨e,h1⟩
  ·rw[e,h.EN];exact .inl rfl
  ·rw[e];rcases h.Kb w (i+1) h1 with e2 | ⟨e2,h2⟩
   ·exact .inl e2
   ·refine .inr ⟨?_,?_⟩
    ·rw[e2,List.length_cons];congr 1;omega
    ·rw[List.length_cons];omega
def oneC:Comp:=⟨1,fun _ _=>0,fun _=>true⟩
def lanes (P:List Comp) (k n:Nat):List (List Int):=(univ P).flatMap fun u=>(List.range (k+1)).flatMap fun j=>(univ (List.replicate n oneC)).map fun f=>u ++ f.map fun e=>if e=0 then ((j:Nat):Int) else -1
theorem JJ (P:List Comp) (k n:Nat):(lanes P k n).length=kZ P*((k+1)*kZ (List.replicate n oneC)):=by
 rw[lanes,sw _ ((k+1)*kZ (List.replicate n oneC)) _ (fun u _=>by
  rw[sw _ (kZ (List.replicate n oneC)) _ (fun j _=>by rw[List.length_map,xG]),List.length_range]),xG]
theorem IA (L:List Comp) (w:List UInt8):VIn (List.replicate L.length oneC) (L.map fun c=>if c.from 0 w = -1 then (-1:Int) else 0):=by
 induction L with
 | nil=>exact trivial
 | cons c L ih=>
  refine ⟨?_,ih⟩;show -1≤(if c.from 0 w = -1 then (-1:Int) else 0)∧(if c.from 0 w = -1 then (-1:Int) else 0)<((1:Nat):Int)
  split <;> omega
theorem JB {P Q:List Comp} {k:Nat} (hP:∀c∈P,c.Ok) (hQ:∀c∈Q,Lane k c) {v:List Int} (h:gV (P ++ Q) v):v∈lanes P k Q.length:=by
 obtain⟨w,rfl⟩:=h;rw[eu,rU,List.map_append];refine List.mem_flatMap.2 ⟨P.map fun c=>c.from 0 w,xY (VIn.reach hP ⟨w,by rw[eu,rU]⟩),List.mem_flatMap.2 ⟨if w.length≤k then w.length else 0,List.mem_range.2 (by split <;> omega),List.mem_map.2 ⟨_,xY (IA Q w),?_⟩⟩⟩
 congr 1
 rw[List.map_map];refine List.map_congr_left fun c hc=>?_;simp only[Function.comp];rcases (hQ c hc).Kb w 0 (Nat.zero_le _) with e | ⟨e,h1⟩
 ·have e:c.from 0 w = -1:=e
  simp[e]
 ·have e:c.from 0 w=((0+w.length:Nat):Int):=e
  have h2:w.length≤k:=zo;have h3:¬ (c.from 0 w = -1):=zo;simp only[h3,h2,if_false,if_true];omega
theorem wo {P Q:List Comp} {k:Nat} (hP:∀c∈P,c.Ok) (hQ:∀c∈Q,Lane k c) {l:List (List Int)} (hn:l.Nodup) (hl:∀v∈l,gV (P ++ Q) v):l.length≤kZ P*((k+1)*kZ (List.replicate Q.length oneC)):=by
 rw[← JJ];exact gU l (lanes P k Q.length) hn fun v hv=>JB hP hQ (hl v hv)
theorem JL {s:List UInt8} {k:Nat} (h:s.length≤k):Lane k (labC s) where
 neg b:=by simp[labC,j3]
 step i b _:=by
  show j3 s i b = -1∨(j3 s i b=_∧_);unfold j3
  split
  ·rename_i h1;obtain⟨x,h3,-⟩:=Option.map_eq_some_iff.1 h1.2;have:=(List.getElem?_eq_some_iff.1 h3).1;exact .inr ⟨zo,zo⟩
  ·exact .inl rfl
theorem uw {P:List Comp} (h1:P.length≤6) (h2:∀c∈P,c.n≤8) {n:Nat} (hn:n≤6):kZ P*((40+1)*kZ (List.replicate n oneC))≤1400000000:=by
 have a1:kZ P≤9 ^ 6:=Nat.le_trans (xH (k:=9) fun x hx=>by have:=h2 x hx;omega) (Nat.pow_le_pow_right zo h1);have a2:kZ (List.replicate n oneC)≤2 ^ 6:=Nat.le_trans (xH (k:=2) fun x hx=>by rw[List.eq_of_mem_replicate hx];exact Nat.le_refl _) (Nat.pow_le_pow_right zo (by simpa using hn));exact Nat.le_trans (Nat.mul_le_mul a1 (Nat.mul_le_mul_left _ a2)) zD
theorem qj {cs:List Comp} {v:List Int} {k:Nat} (h1:k<cs.length) (h2:k<v.length):je (cs.take (k+1)) (v.take (k+1))=je (cs.take k) (v.take k)+if cs[k].acc v[k] then 1 else 0:=by
 unfold je;rw[List.take_succ_eq_append_getElem h1,List.take_succ_eq_append_getElem h2,List.zipWith_append (by simp;omega),List.countP_append]
 congr 1
 simp only[List.zipWith_cons_cons,List.zipWith_nil_left,List.countP_cons,List.countP_nil,id];simp
def mK (b:Nat) (es:List Ed) (o:Int):Int:=es.foldl (fun o e=>if e.lo≤b∧b≤e.hi then e.to else o) o
theorem GG (b:Nat) (o:Int) {es:List Ed} {j:Nat} (h:j<es.length):mK b (es.take (j+1)) o=if (es[j]).lo≤b∧b≤(es[j]).hi then (es[j]).to else mK b (es.take j) o:=by
 unfold mK;rw[List.take_succ_eq_append_getElem h,List.foldl_append]
 rfl
theorem uu {n:Nat} {b:Nat}:∀{es:List Ed} {p:Int} (o:Int),aV n p es→(b:Int)≤p→mK b es o=o
 | [],_,_,_,_=>rfl
 | e::es,p,o,h,hb=>by
  obtain⟨h1,h2,h3,h4,h5⟩:=h;show mK b es (if e.lo≤b∧b≤e.hi then e.to else o)=o;rw[if_neg zo];exact uu o h5 zo
theorem EC {n:Nat} {b:Nat}:∀{es:List Ed} {p:Int},aV n p es→mK b es (-1)=aS es b
 | [],_,_=>rfl
 | e::es,p,h=>by
  obtain⟨h1,h2,h3,h4,h5⟩:=h;show mK b es (if e.lo≤b∧b≤e.hi then e.to else -1)=aS (e::es) b;rw[aS]
  split
  ·exact uu _ h5 zo
  ·exact EC h5
theorem N8 {l:Table} (h:WF l) (x:Int):∃p,aV l.length p (lI l x):=by
 unfold lI
 split
 ·exact⟨0,trivial⟩
 ·cases e:l[x.toNat]? with
  | none=>exact⟨0,trivial⟩
  | some s=>exact⟨-1,h s (List.mem_of_getElem? e)⟩
theorem JI {l:Table} (h:WF l) (x:Int) (b:Nat):mK b (lI l x) (-1)=aW l x b:=by
 obtain⟨p,hp⟩:=N8 h x;rw[iU,EC hp]
def aftK (cs:List Comp) (v:List Int) (b k:Nat):List Int:=dK (cs.take k) (v.take k) b ++ List.replicate (v.length - k) (-1)
theorem Mx {cs:List Comp} {v:List Int} (h:cs.length=v.length) (b:Nat) {k:Nat} (hk:k≤v.length):(aftK cs v b k).length=v.length:=by
 simp[aftK,dK];omega
theorem KI (cs:List Comp) (v:List Int) (b:Nat):aftK cs v b 0=List.replicate v.length (-1):=by simp[aftK,dK]
theorem MB {cs:List Comp} {v:List Int} (h:cs.length=v.length) (b:Nat):aftK cs v b v.length=dK cs v b:=by
 simp only[aftK,Nat.sub_self,List.replicate_zero,List.append_nil,List.take_length];rw[← h,List.take_length]
theorem E5 {cs:List Comp} {v:List Int} (h:cs.length=v.length) (b:Nat) {k:Nat} (hk:k<v.length) (x:Int) :
 (aftK cs v b k).set k x=dK (cs.take k) (v.take k) b ++ x::List.replicate (v.length - (k+1)) (-1):=by
 have hl:(dK (cs.take k) (v.take k) b).length=k:=by simp[dK];omega
 unfold aftK;rw[List.set_append_right _ _ zo,hl,Nat.sub_self,show v.length - k=(v.length - (k+1))+1 by omega,List.replicate_succ,List.set_cons_zero]
theorem BD {cs:List Comp} {v:List Int} (h:cs.length=v.length) (b:Nat) {k:Nat} (hk:k<v.length):(aftK cs v b k).set k ((cs[k]'zo).step v[k] b)=aftK cs v b (k+1):=by
 rw[E5 h b hk];unfold aftK dK;rw[List.take_succ_eq_append_getElem (show k<cs.length by omega),List.take_succ_eq_append_getElem hk,List.zipWith_append (by simp;omega)];simp
def edMk (es:List Ed) (b:Nat):Prop:=∃e∈es,e.lo=b∨e.hi+1=b
def lbMk (s:List UInt8) (x:Int) (b:Nat):Prop:=0≤x∧∃u,s[x.toNat]?=some u∧(u.toNat=b∨u.toNat+1=b)
def stMk (c:St) (v:List Int) (b:Nat):Prop:=
 b=0∨(∃i,∃h:i<c.2.length,edMk (lI (c.2[i]).1 (v.getD i (-1))) b)∨∃i,∃h:i<c.1.length,lbMk (c.1[i]).1.1.data.toList (v.getD (c.2.length+i) (-1)) b
theorem wY {b a:Nat} (hab:a≤b):∀{es:List Ed},(∀j,a<j→j≤b→¬ edMk es j)→aS es b=aS es a
 | [],_=>rfl
 | e::es,h=>by
  have ih:=wY hab (es:=es) fun j h1 h2 ⟨x,hx,hm⟩=>h j h1 h2 ⟨x,List.mem_cons_of_mem _ hx,hm⟩;have h1:∀j,a<j→j≤b→e.lo≠j∧e.hi+1≠j:=fun j k1 k2=>⟨fun k=>h j k1 k2 ⟨e,zS,.inl k⟩,fun k=>h j k1 k2 ⟨e,zS,.inr k⟩⟩;have g1:e.lo≤b↔e.lo≤a:=⟨fun k=>by
   by_cases c:e.lo≤a
   ·exact c
   ·exact absurd rfl (h1 e.lo zo k).1,fun k=>zo⟩
  have g2:b≤e.hi↔a≤e.hi:=⟨fun k=>zo,fun k=>by
   by_cases c:b≤e.hi
   ·exact c
   ·exact absurd rfl (h1 (e.hi+1) zo zo).2⟩
  simp only[aS,ih,g1,g2]
theorem Gv {s:List UInt8} {x:Int} {b a:Nat} (hab:a≤b) (h:∀j,a<j→j≤b→¬ lbMk s x j):j3 s x b=j3 s x a:=by
 unfold j3;by_cases h0:0≤x
 ·cases e:s[x.toNat]? with
  | none=>simp
  | some u=>
   have h1:∀j,a<j→j≤b→u.toNat≠j∧u.toNat+1≠j:=fun j k1 k2=>⟨fun k=>h j k1 k2 ⟨h0,u,e,.inl k⟩,fun k=>h j k1 k2 ⟨h0,u,e,.inr k⟩⟩;have:u.toNat=b↔u.toNat=a:=by
    by_cases hb:a=b
    ·subst hb;exact Iff.rfl
    ·have g1:=h1 b zo (Nat.le_refl _);constructor
     ·intro k;exact absurd k g1.1
     ·intro k;have:=h1 (a+1) zo zo;omega
   simp only[Option.map_some,Option.some.injEq,this]
 ·simp[h0]
theorem Fs {c:St} {v:List Int} {a b:Nat} (hv:v.length=(stC1 c).length) (hab:a≤b) (h:∀j,a<j→j≤b→¬ stMk c v j):dK (stC1 c) v b=dK (stC1 c) v a:=by
 unfold dK;apply List.ext_getElem zS;intro i h1 h2;have hi:i<v.length:=by simp at h1;omega
 have hi2:i<(stC1 c).length:=zo;simp only[List.getElem_zipWith];unfold stC1 at hi2 ⊢;by_cases hk:i<c.2.length
 ·rw[List.getElem_append_left (by simpa using hk)];simp only[List.getElem_map];show aW _ _ b=aW _ _ a;rw[iU,iU];refine wY hab fun j k1 k2 hm=>h j k1 k2 (.inr (.inl ⟨i,hk,?_⟩));simpa [List.getD_eq_getElem?_getD,hi] using hm
 ·rw[List.getElem_append_right (by simp;omega)];simp only[List.getElem_map,List.length_map];refine Gv hab fun j k1 k2 hm=>h j k1 k2 (.inr (.inr ⟨i - c.2.length,by simp at hi2;omega,?_⟩));have e:c.2.length+(i - c.2.length)=i:=zo;rw[e];simpa [List.getD_eq_getElem?_getD,hi] using hm
theorem wR {P:Nat→Prop} (h0:P 0):∀b,∃a,a≤b∧P a∧∀j,a<j→j≤b→¬ P j
 | 0=>⟨0,Nat.le_refl _,h0,fun j h1 h2=>zo⟩
 | b+1=>by
  by_cases h:P (b+1)
  ·exact⟨b+1,Nat.le_refl _,h,fun j h1 h2=>zo⟩
  ·obtain⟨a,h1,h2,h3⟩:=wR h0 b;exact⟨a,zo,h2,fun j k1 k2=>by
    by_cases e:j=b+1
    ·subst e;exact h
    ·exact h3 j k1 zo⟩
theorem IY {c:St} {v:List Int} (hv:v.length=(stC1 c).length) {b:Nat} (hb:b<256):∃a,a<256∧stMk c v a∧dK (stC1 c) v b=dK (stC1 c) v a:=by
 obtain⟨a,h1,h2,h3⟩:=wR (P:=stMk c v) (.inl rfl) b;exact⟨a,zo,h2,Fs hv h1 h3⟩
end Cl
namespace Cl
theorem GL (l:List Spn) (k:Nat) (h:k<l.length):jL (l.take (k+1))=jL (l.take k) ++ if (jA l[k]).1≤(jA l[k]).2 then [jA l[k]] else []:=by
 rw[List.take_succ_eq_append_getElem h];unfold jL;rw[List.map_append,List.filter_append]
 congr 1
 by_cases hc:(jA l[k]).1≤(jA l[k]).2 <;> simp[hc]
theorem wT (l:List Spn) (k:Nat) (h:k<l.length):iq (l.take (k+1))=iq (l.take k) ++ if (fO l[k]).1≤(fO l[k]).2 then [fO l[k]] else []:=by
 rw[List.take_succ_eq_append_getElem h];unfold iq;rw[List.map_append,List.filter_append]
 congr 1
 by_cases hc:(fO l[k]).1≤(fO l[k]).2 <;> simp[hc]
theorem GR (nx:Int→Int) (p:List Spn) (k:Nat) (h:k<p.length) (t:Spn) (r:List Spn) :
 gX nx (p.drop k) (t::r)=if p[k].1≤nx t.2 then gX nx (p.drop (k+1)) ((t.1,max t.2 p[k].2)::r) else gX nx (p.drop (k+1)) (p[k]::t::r):=by
 rw[List.drop_eq_getElem_cons h,gX]
theorem Da (nx:Int→Int) (p:List Spn) (k:Nat) (h:k<p.length):gX nx (p.drop k) []=gX nx (p.drop (k+1)) [p[k]]:=by
 rw[List.drop_eq_getElem_cons h,gX]
theorem jS:∀(l r:List Int) (b:Option Int),dR (l ++ r) b=dR r (dR l b)
 | [],r,b=>rfl
 | u::l,r,none=>by simp only[List.cons_append,dR];exact jS l r _
 | u::l,r,some b=>by simp only[List.cons_append,dR];exact jS l r _
theorem GM {l:List Spn}:∀s∈jL l,-iF≤s.1∧s.2≤iF∧s.1≤s.2:=fun s h=>by
 have h1:=EE s h;obtain⟨t,-,rfl⟩:=List.mem_map.1 (List.mem_filter.1 h).1;unfold jA at *
 simp only[iF] at *
 omega
theorem wU {l:List Spn}:∀s∈iq l,-maxU - 1≤s.1∧s.2≤maxU+1∧s.1≤s.2:=fun s h=>by
 have h1:=EG s h;obtain⟨t,-,e⟩:=List.mem_map.1 (List.mem_filter.1 h).1;have e1:s.1=if (max t.1 (-maxU)) % 10000=0 then max t.1 (-maxU)+1 else max t.1 (-maxU):=by rw[← e];rfl
 have e2:s.2=if (min t.2 maxU) % 10000=0 then min t.2 maxU - 1 else min t.2 maxU:=by rw[← e];rfl
 have b1:s.1=max t.1 (-maxU)+1∨s.1=max t.1 (-maxU):=by rw[e1];split <;> simp
 have b2:s.2=min t.2 maxU - 1∨s.2=min t.2 maxU:=by rw[e2];split <;> simp
 simp only[maxU] at *
 omega
end Cl
namespace Cl
def mR (s:Spn):Prop:=s.1≤s.2 → -1000000000000002≤s.1∧s.2≤1000000000000002
theorem mR.take {l:List Spn} (h:∀s∈l,mR s) (k:Nat):∀s∈l.take k,mR s:=fun s hs=>h s (List.mem_of_mem_take hs)
end Cl
namespace Cl
def aL (p:Nat→Bool):List Nat:=(List.range 256).filter p
def loOf (c:List Nat) (i:Nat):Nat:=c.getD i 0
def hiOf (c:List Nat) (i:Nat):Nat:=if i+1<c.length then c.getD (i+1) 0 - 1 else 255
theorem gL {p:Nat→Bool} {i j:Nat} (hij:i<j) (hj:j<(aL p).length):(aL p).getD i 0<(aL p).getD j 0:=by
 have h:(aL p).Pairwise (·<·):=List.pairwise_lt_range.filter p;have:=List.pairwise_iff_getElem.1 h i j zo hj hij;simpa [hj,Nat.lt_trans hij hj] using this
theorem uQ {p:Nat→Bool} {i:Nat} (hi:i<(aL p).length):(aL p).getD i 0<256∧p ((aL p).getD i 0)=true:=by
 have:(aL p).getD i 0∈aL p:=by simp[hi]
 simpa [aL] using this
theorem uP {p:Nat→Bool} {b:Nat} (hb:b<256) (hp:p b=true):∃j,j<(aL p).length∧(aL p).getD j 0=b:=by
 have:b∈aL p:=by simp[aL,hb,hp]
 obtain⟨j,hj,e⟩:=List.mem_iff_getElem.1 this;exact⟨j,hj,by simp[hj,e]⟩
theorem AL {p:Nat→Bool} (h0:p 0=true):Ivs (loOf (aL p)) (hiOf (aL p)) (aL p).length ∧
 ∀i,i<(aL p).length→∀b,loOf (aL p) i<b→b≤hiOf (aL p) i→p b=false:=by
 have hle:∀i,i<(aL p).length→loOf (aL p) i≤hiOf (aL p) i∧hiOf (aL p) i<256:=by
  intro i hi;unfold loOf hiOf;have:=uQ hi
  split
  ·rename_i h;have:=gL (show i<i+1 by omega) h;have:=(uQ h).1;omega
  ·omega
 refine ⟨⟨hle,?_,?_⟩,?_⟩
 ·intro i j hij hj;unfold loOf hiOf;rw[if_pos zo];have h1:=gL (show i<i+1 by omega) (show i+1<(aL p).length by omega);by_cases c:i+1=j
  ·subst c;omega
  ·have h2:=gL (p:=p) (show i+1<j by omega) hj;omega
 ·intro b
  induction b with
  | zero=>
   intro _;obtain⟨j,hj,e⟩:=uP zo h0
   exact⟨j,hj,by unfold loOf;omega,zo⟩
  | succ b ih=>
   intro hb;obtain⟨i,hi,h1,h2⟩:=ih zo;by_cases c:b+1≤hiOf (aL p) i
   ·exact⟨i,hi,zo,c⟩
   ·have e:hiOf (aL p) i=b:=zo;unfold hiOf at e
    split at e
    ·rename_i h;have:=gL (show i<i+1 by omega) h;have hh:=hle (i+1) h;have:loOf (aL p) (i+1)=b+1:=by unfold loOf;omega
     exact⟨i+1,h,zo,zo⟩
    ·omega
 ·intro i hi b h1 h2
  cases hp:p b with
  | false=>rfl
  | true=>
   have hb:b<256:=by have:=(hle i hi).2;omega
   obtain⟨j,hj,e⟩:=uP hb hp;unfold loOf at h1;have hij:i<j:=by
    rcases Nat.lt_trichotomy i j with c | c | c
    ·exact c
    ·subst c;omega
    ·have:=gL c hi;omega
   unfold hiOf at h2;rw[if_pos zo] at h2;have h3:=gL (show i<i+1 by omega) (show i+1<(aL p).length by omega);by_cases c:i+1=j
   ·subst c;omega
   ·have:=gL (p:=p) (show i+1<j by omega) hj;omega
theorem Dk {es:List Ed} {a b:Nat} (hab:a≤b) (h:∀c,a<c→c≤b→∀e∈es,e.lo≠c∧e.hi+1≠c):aS es b=aS es a:=by
 induction es with
 | nil=>rfl
 | cons e es ih=>
  have ih:=ih fun c h1 h2 x hx=>h c h1 h2 x (by simp[hx]);simp only[aS];by_cases c:e.lo≤a∧a≤e.hi
  ·rw[if_pos c,if_pos];refine ⟨zo,?_⟩;apply Nat.le_of_not_lt;intro d;exact (h (e.hi+1) zo zo e zS).2 rfl
  ·rw[if_neg c];by_cases d:e.lo≤b∧b≤e.hi
   ·exfalso;by_cases f:e.lo≤a
    ·omega
    ·exact (h e.lo zo zo e zS).1 rfl
   ·rw[if_neg d];exact ih
def Marks (l:Table) (p:Nat→Bool):Prop:=p 0=true∧∀s∈l,∀e∈s.edges,∀b,b<256→(e.lo=b∨e.hi+1=b)→p b=true
theorem ib {l:Table} {p:Nat→Bool} (hp:Marks l p) {i b:Nat} (hi:i<(aL p).length) (h1:loOf (aL p) i≤b) (h2:b≤hiOf (aL p) i) (s:Int) :
 aW l s b=aW l s (loOf (aL p) i):=by
 obtain⟨hI,hg⟩:=AL hp.1;by_cases c:s<0
 ·rw[gP c,gP c]
 ·by_cases d:s<l.length
  ·obtain⟨k,rfl⟩:=Int.eq_ofNat_of_zero_le (by omega:0≤s);rw[bV l k _ zo,bV l k _ zo];apply Dk h1;intro c hc1 hc2 e he;have hf:=hg i hi c hc1 zo;have hc256:c<256:=by have:=(hI.le i hi).2;omega
   refine ⟨fun e1=>?_,fun e1=>?_⟩
   ·rw[hp.2 _ (List.getElem_mem zo) e he c hc256 (.inl e1)] at hf;cases hf
   ·rw[hp.2 _ (List.getElem_mem zo) e he c hc256 (.inr e1)] at hf;cases hf
  ·rw[dB l s _ zo,dB l s _ zo]
def snk (n:Nat) (x:Int):Int:=if x<0 then n else x
theorem xQ {l:Table} (_:WF l) (s:Int) (b:Nat) (w:List UInt8):aF l (snk l.length (aW l s b)) w=aF l (aW l s b) w:=by
 unfold snk
 split
 ·rename_i h;rw[dX l _ w (Int.le_refl _),bJ h]
 ·rfl
theorem Ce {l:Table} (hw:WF l) (s:Int) (b:Nat):0≤snk l.length (aW l s b)∧snk l.length (aW l s b)≤l.length:=by
 unfold snk;rcases dU hw s b with h | h
 ·rw[h];simp
 ·rw[if_neg zo];omega
theorem BZ {l:Table} (hw:WF l) {p:Nat→Bool} (hp:Marks l p) :
 BH l (l.length+1) (loOf (aL p)) (hiOf (aL p)) (aL p).length (fun s i=>snk l.length (aW l s (loOf (aL p) i))):=by
 refine ⟨(AL hp.1).1,fun s i hs hi=>?_,fun s i hs hi b h1 h2 w=>?_,fun s t i hs ht hi h=>?_⟩
 ·have:=Ce hw s (loOf (aL p) i);omega
 ·rw[ib hp hi h1 h2,xQ hw]
 ·have:=Ce hw s (loOf (aL p) i);omega
def Lv (l:Table) (s:Int):Prop:=∃w,aF l s w=true
theorem Bw {l:Table} (hw:WF l) {p:Nat→Bool} (hp:Marks l p) {cls:List Int} (hc:qR l (l.length+1) cls) {lives:Nat→Bool}
 (hl:∀s:Nat,s<l.length+1→(lives (cls.getD s 0).toNat=true↔Lv l s)) {ac:Nat→Bool} (ha:∀s:Nat,s<l.length+1→ac s=dS l s) (h0:Lv l 0) :
 nD l (l.length+1) (fun s=>cls.getD s 0)
  (fun s i=>if lives (cls.getD (snk l.length (aW l s (loOf (aL p) i))).toNat 0).toNat=true then some (snk l.length (aW l s (loOf (aL p) i))).toNat else none)
  (loOf (aL p)) (hiOf (aL p)) ac (aL p).length:=by
 have R:=fun (s i:Nat)=>Ce hw s (loOf (aL p) i);have E:=fun (s i:Nat)=>Int.toNat_of_nonneg (R s i).1;refine ⟨(AL hp.1).1,zo,fun s i t hs hi h=>?_,fun s i hs hi h b h1 h2 w=>?_,fun s t hs ht=>hc.eq s t hs ht,fun s hs=>ha s hs,h0⟩
 ·simp only[Option.ite_none_right_eq_some,Option.some.injEq] at h;obtain⟨h1,h2⟩:=h;have r:=R s i;have e:=E s i;have ht:t<l.length+1:=zo;rw[h2] at h1 e;refine ⟨ht,(hl t ht).1 h1,fun b b1 b2 w=>?_⟩;rw[ib hp hi b1 b2,← xQ hw,← e]
 ·simp only[ite_eq_right_iff,reduceCtorEq,imp_false] at h;have r:=R s i;have e:=E s i;rw[ib hp hi h1 h2,← xQ hw,← e];rw[hl _ zo] at h
  cases hx:aF l ((snk l.length (aW l s (loOf (aL p) i))).toNat:Int) w with
  | false=>rfl
  | true=>exact absurd ⟨w,hx⟩ h
end Cl
namespace Cl
theorem ry {cf:Nat→Int} {o:List Nat} (h:Dif cf o):o.Nodup:=List.Pairwise.imp (fun hab e=>hab (by rw[e])) h
theorem jy {cf:Nat→Int} {o:List Nat} {N:Nat} (h:Dif cf o) (hl:∀x∈o,x<N):o.length≤N:=by
 have:=gU o (List.range N) (ry h) (fun x hx=>List.mem_range.2 (hl x hx));simpa using this
def posC (cf:Nat→Int) (o:List Nat) (c:Int):Nat:=o.findIdx fun s=>cf s==c
theorem CB (cf:Nat→Int) (o:List Nat) (t:Nat):posC cf o (cf t)=df cf o t:=rfl
theorem Li (cf:Nat→Int) (o:List Nat) (t:Nat) (c:Int):posC cf (o ++ [t]) c=if posC cf o c<o.length then posC cf o c else if cf t=c then o.length else o.length+1:=by
 unfold posC;rw[List.findIdx_append]
 split
 ·rfl
 ·by_cases h:cf t=c
  ·simp[h]
  ·simp[h];omega
theorem wD {fs:List Ed} {e:Ed} {lo hi to:Nat} (h:¬ (e.to=to∧e.hi+1=lo)):gY (fs ++ [e]) lo hi to=(fs ++ [e]) ++ [⟨lo,hi,to⟩]:=by
 unfold gY;simp[h]
theorem wC {fs:List Ed} {e:Ed} {lo hi to:Nat} (h:e.to=to∧e.hi+1=lo):gY (fs ++ [e]) lo hi to=fs ++ [⟨e.lo,hi,e.to⟩]:=by
 unfold gY;simp[h]
theorem F8 (es:List Ed) (lo hi to:Nat):(gY es lo hi to).length≤es.length+1:=by
 unfold gY
 split
 ·split <;> simp
 ·simp
theorem zT (cf:Nat→Int) (dl:Nat→Nat→Option Nat) (lo hi:Nat→Nat) (s:Nat) (o:List Nat):∀i,(bI cf dl lo hi s o i).2.length≤i:=by
 intro i
 induction i with
 | zero=>simp[bI]
 | succ i ih=>
  simp only[bI]
  split
  ·omega
  ·have:=F8 (bI cf dl lo hi s o i).2 (lo i) (hi i) (df cf (bI cf dl lo hi s o i).1 (by assumption));simp only;omega
theorem ww {cf:Nat→Int} {dl:Nat→Nat→Option Nat} {lo hi:Nat→Nat} {s:Nat} {o:List Nat} {i:Nat} (h:dl s i=none):bI cf dl lo hi s o (i+1)=bI cf dl lo hi s o i:=by simp[bI,h]
theorem wu {cf:Nat→Int} {dl:Nat→Nat→Option Nat} {lo hi:Nat→Nat} {s:Nat} {o:List Nat} {i t:Nat} (h:dl s i=some t) :
 bI cf dl lo hi s o (i+1)=(bS cf (bI cf dl lo hi s o i).1 t,gY (bI cf dl lo hi s o i).2 (lo i) (hi i) (df cf (bI cf dl lo hi s o i).1 t)):=by simp[bI,h]
theorem rZ {cf:Nat→Int} {dl:Nat→Nat→Option Nat} {lo hi:Nat→Nat} {K N s:Nat} {o:List Nat} {i:Nat} {r:List Nat × List Ed} (h:Fa cf dl lo hi K N s o i r) (hN:N≤2000000) :
 ∀e∈r.2,e.lo<256∧e.hi<256 ∧ -9223372036854775808≤e.to∧e.to≤9223372036854775807:=by
 intro e he;have h1:=h.bytes e he;have h2:=eO h.wf e he;have h3:=jy h.dif h.lt;exact⟨h1.1,h1.2,zo,zo⟩
end Cl
