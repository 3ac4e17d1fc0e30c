/- Lemmas for the proofs of chapter 11. -/
import Derived.WalkKit
import Derived.Test.YtajbfioncdnkcaaGreatDoorZz
import Derived.Test.YtajbfioncdnkcaaGreatDoorPkM1
set_option maxRecDepth 100000
set_option maxHeartbeats 16000000
namespace Cl
theorem eu:Canon []:=
 ⟨fun s hs=>by simp at hs,fun s hs=>by simp at hs,fun s hs=>by simp at hs,fun k hk=>by simp at hk,fun i j hi=>by simp at hi,fun k b t hb ht=>by
  rw[fB [] k b zS] at ht;omega,fun t h1 h2=>by simp at h2⟩
theorem dC (x:List UInt8):aJ [] 0 x=false:=iF [] 0 x zS
def lex:List UInt8→List UInt8→Prop
 | [],[]=>False
 | [],_::_=>True
 | _::_,[]=>False
 | a::u,b::v=>a<b∨a=b∧lex u v
def slt (u v:List UInt8):Prop:=u.length<v.length∨u.length=v.length∧lex u v
theorem BR:∀u:List UInt8,¬ lex u u
 | [],h=>h
 | _::u,h=>h.elim (fun h=>by simp at h) (fun h=>BR u h.2)
theorem Ps {a b c:UInt8} (h:a<b) (k:b<c):a<c:=UInt8.lt_trans h k
theorem E8:∀{u v x:List UInt8},lex u v→lex v x→lex u x
 | [],[],_,h,_=>h.elim
 | [],_::_,[],_,k=>k.elim
 | [],_::_,_::_,_,_=>trivial
 | _::_,[],_,h,_=>h.elim
 | _::_,_::_,[],_,k=>k.elim
 | a::u,b::v,c::x,h,k=>by
  rcases h with h | ⟨rfl,h⟩
  ·rcases k with k | ⟨rfl,k⟩
   ·exact .inl (Ps h k)
   ·exact .inl h
  ·rcases k with k | ⟨rfl,k⟩
   ·exact .inl k
   ·exact .inr ⟨rfl,E8 h k⟩
theorem E9:∀u v:List UInt8,lex u v∨u=v∨lex v u
 | [],[]=>.inr (.inl rfl)
 | [],_::_=>.inl trivial
 | _::_,[]=>.inr (.inr trivial)
 | a::u,b::v=>by
  rcases Nat.lt_trichotomy a.toNat b.toNat with h | h | h
  ·exact .inl (.inl (UInt8.lt_iff_toNat_lt.2 h))
  ·obtain rfl:a=b:=UInt8.toNat_inj.1 h;rcases E9 u v with h | h | h
   ·exact .inl (.inr ⟨rfl,h⟩)
   ·exact .inr (.inl (by rw[h]))
   ·exact .inr (.inr (.inr ⟨rfl,h⟩))
  ·exact .inr (.inr (.inl (UInt8.lt_iff_toNat_lt.2 h)))
theorem jG (u:List UInt8):¬ slt u u:=fun h=>h.elim (fun h=>zo) (fun h=>BR u h.2)
theorem tZ {u v x:List UInt8} (h:slt u v) (k:slt v x):slt u x:=by
 rcases h with h | ⟨h,h'⟩ <;> rcases k with k | ⟨k,k'⟩
 ·exact .inl zo
 ·exact .inl zo
 ·exact .inl zo
 ·exact .inr ⟨zo,E8 h' k'⟩
theorem ug (u v:List UInt8):slt u v∨u=v∨slt v u:=by
 rcases Nat.lt_trichotomy u.length v.length with h | h | h
 ·exact .inl (.inl h)
 ·rcases E9 u v with k | k | k
  ·exact .inl (.inr ⟨h,k⟩)
  ·exact .inr (.inl k)
  ·exact .inr (.inr (.inr ⟨h.symm,k⟩))
 ·exact .inr (.inr (.inl h))
theorem uh {u v:List UInt8} (h:slt u v) (k:slt v u):False:=jG u (tZ h k)
structure iG (f:List UInt8→Bool) (k:Nat) (r:List (List UInt8)):Prop where
 sorted:r.Pairwise slt
 mem:∀x∈r,f x=true
 le:r.length≤k
 rest:∀y,f y=true→y ∉ r→r.length=k∧∀x∈r,slt x y
theorem Sr {a b:List UInt8} (h:slt a b):a≠b:=fun e=>jG a (by rw[← e] at h;exact h)
theorem wP {r:List (List UInt8)} (h:r.Pairwise slt):r.Nodup:=h.imp Sr
theorem Bn:∀{r t:List (List UInt8)},r.Pairwise slt→t.Pairwise slt→(∀x,x∈r↔x∈t)→r=t
 | [],[],_,_,_=>rfl
 | [],b::t,_,_,h=>absurd ((h b).2 zS) zS
 | a::r,[],_,_,h=>absurd ((h a).1 zS) zS
 | a::r,b::t,h1,h2,h=>by
  have k1:=List.pairwise_cons.1 h1;have k2:=List.pairwise_cons.1 h2;have e:a=b:=by
   rcases List.mem_cons.1 ((h a).1 zS) with h3 | h3
   ·exact h3
   ·rcases List.mem_cons.1 ((h b).2 zS) with h4 | h4
    ·exact h4.symm
    ·exact (uh (k2.1 a h3) (k1.1 b h4)).elim
  subst e;rw[Bn k1.2 k2.2 fun x=>?_];constructor
  ·intro hx;rcases List.mem_cons.1 ((h x).1 (List.mem_cons_of_mem _ hx)) with h3 | h3
   ·subst h3;exact (jG _ (k1.1 _ hx)).elim
   ·exact h3
  ·intro hx;rcases List.mem_cons.1 ((h x).2 (List.mem_cons_of_mem _ hx)) with h3 | h3
   ·subst h3;exact (jG _ (k2.1 _ hx)).elim
   ·exact h3
theorem Fy {f:List UInt8→Bool} {k:Nat} {r t:List (List UInt8)} (h:iG f k r) (h':iG f k t):∀x∈r,x∈t:=by
 intro x hx;apply Classical.byContradiction;intro hn;obtain⟨h1,h2⟩:=h'.rest x (h.mem x hx) hn;have hsub:∀y∈t,y∈r:=by
  intro y hy;apply Classical.byContradiction;intro hm;obtain⟨-,h4⟩:=h.rest y (h'.mem y hy) hm;exact uh (h4 x hx) (h2 y hy)
 have hc:=lK (x::t) r (List.nodup_cons.2 ⟨hn,wP h'.sorted⟩) (by
  intro y hy;rcases List.mem_cons.1 hy with rfl | hy
  ·exact hx
  ·exact hsub y hy)
 have:=h.le;simp only[List.length_cons] at hc;omega
theorem Fx {f:List UInt8→Bool} {k:Nat} {r t:List (List UInt8)} (h:iG f k r) (h':iG f k t):r=t:=
 Bn h.sorted h'.sorted fun x=>⟨Fy h h' x,Fy h' h x⟩
theorem iG.congr {f g:List UInt8→Bool} {k:Nat} {r:List (List UInt8)} (h:iG f k r) (e:∀w,f w=g w):iG g k r:=by
 have:f=g:=funext e;rw[← this];exact h
def wex (l:Table):Nat→Int→List (List UInt8)
 | 0,s=>if bG l s then [[]] else []
 | n+1,s=>(List.range 256).flatMap fun b=>(wex l n (bL l s b)).map (UInt8.ofNat b::·)
theorem Sc (b:UInt8):UInt8.ofNat b.toNat=b:=by simp
theorem kW (l:Table):∀(n:Nat) (s:Int) (w:List UInt8),w∈wex l n s↔w.length=n∧aJ l s w=true
 | 0,s,w=>by
  unfold wex
  cases w with
  | nil=>by_cases h:bG l s=true <;> simp[h,aJ]
  | cons a w=>by_cases h:bG l s=true <;> simp[h]
 | n+1,s,w=>by
  unfold wex;simp only[List.mem_flatMap,List.mem_range,List.mem_map];constructor
  ·rintro ⟨b,hb,v,hv,rfl⟩;obtain⟨h1,h2⟩:=(kW l n _ v).1 hv;refine ⟨by simp[h1],?_⟩;simp only[aJ];rw[show (UInt8.ofNat b).toNat=b by simp;omega];exact h2
  ·rintro ⟨h1,h2⟩
   cases w with
   | nil=>simp at h1
   | cons b v=>
    refine ⟨b.toNat,b.toNat_lt,v,(kW l n _ v).2 ⟨by simpa using h1,h2⟩,by rw[Sc]⟩
theorem sV {α:Type} {R:α→α→Prop} (f:Nat→List α):∀(l:List Nat),l.Pairwise (·<·)→(∀b∈l,(f b).Pairwise R)→(∀b∈l,∀c∈l,b<c→∀x∈f b,∀y∈f c,R x y)→(l.flatMap f).Pairwise R
 | [],_,_,_=>.nil
 | b::l,h,h1,h2=>by
  have k:=List.pairwise_cons.1 h;rw[List.flatMap_cons,List.pairwise_append];refine ⟨h1 b zS,sV f l k.2 (fun c hc=>h1 c (by simp[hc])) (fun c hc d hd=>h2 c (by simp[hc]) d (by simp[hd])),?_⟩;intro x hx y hy;obtain⟨c,hc,hy⟩:=List.mem_flatMap.1 hy;exact h2 b zS c (by simp[hc]) (k.1 c hc) x hx y hy
theorem vJ (l:Table):∀(n:Nat) (s:Int),(wex l n s).Pairwise slt
 | 0,s=>by
  unfold wex
  split <;> simp
 | n+1,s=>by
  unfold wex;refine sV _ _ List.pairwise_lt_range ?_ ?_
  ·intro b _;rw[List.pairwise_map];refine (vJ l n _).imp fun {u v} h=>?_;rcases h with h | ⟨h1,h2⟩
   ·exact .inl (by simp[h])
   ·exact .inr ⟨by simp[h1],.inr ⟨rfl,h2⟩⟩
  ·intro b hb c hc hbc x hx y hy;obtain⟨u,hu,rfl⟩:=List.mem_map.1 hx;obtain⟨v,hv,rfl⟩:=List.mem_map.1 hy;have h1:=((kW l n _ u).1 hu).1;have h2:=((kW l n _ v).1 hv).1;have hb:=List.mem_range.1 hb;have hc:=List.mem_range.1 hc;refine .inr ⟨by simp[h1,h2],.inl (UInt8.lt_iff_toNat_lt.2 ?_)⟩;simp only[UInt8.toNat_ofNat'];omega
def enum (l:Table) (s:Int) (L:Nat):List (List UInt8):=(List.range L).flatMap fun n=>wex l n s
theorem lq (l:Table) (s:Int) (L:Nat) (w:List UInt8):w∈enum l s L↔w.length<L∧aJ l s w=true:=by
 unfold enum;simp only[List.mem_flatMap,List.mem_range,kW];exact⟨fun ⟨n,h1,h2,h3⟩=>⟨zo,h3⟩,fun ⟨h1,h2⟩=>⟨_,h1,rfl,h2⟩⟩
theorem zT (l:Table) (s:Int) (L:Nat):(enum l s L).Pairwise slt:=by
 refine sV _ _ List.pairwise_lt_range (fun b _=>vJ l b s) ?_;intro b _ c _ hbc x hx y hy;have h1:=((kW l _ _ _).1 hx).1;have h2:=((kW l _ _ _).1 hy).1;exact .inl zo
theorem zR (l:Table) (s:Int) (L:Nat):enum l s (L+1)=enum l s L ++ wex l L s:=by
 unfold enum;rw[List.range_succ,List.flatMap_append];simp
theorem rz {l:Table} {s:Int} {L k:Nat} (h:k≤(enum l s L).length∨∀y,aJ l s y=true→y.length<L):iG (aJ l s) k ((enum l s L).take k):=by
 have hs:=zT l s L;refine ⟨hs.sublist (List.take_sublist _ _),fun x hx=>((lq l s L x).1 (List.mem_of_mem_take hx)).2,List.length_take_le _ _,?_⟩;intro y hy hn;by_cases hm:y∈enum l s L
 ·have hd:y∈(enum l s L).drop k:=by
   rw[← List.take_append_drop k (enum l s L)] at hm;rcases List.mem_append.1 hm with h1 | h1
   ·exact absurd h1 hn
   ·exact h1
  refine ⟨?_,fun x hx=>?_⟩
  ·rw[List.length_take];have:k<(enum l s L).length:=by
    apply Classical.byContradiction;intro hk;rw[List.drop_eq_nil_of_le zo] at hd;simp at hd
   omega
  ·rw[← List.take_append_drop k (enum l s L),List.pairwise_append] at hs;exact hs.2.2 x hx y hd
 ·have hL:¬ y.length<L:=fun h1=>hm ((lq l s L y).2 ⟨h1,hy⟩);rcases h with h | h
  ·refine ⟨by rw[List.length_take];omega,fun x hx=>.inl ?_⟩;have:=((lq l s L x).1 (List.mem_of_mem_take hx)).1;omega
  ·exact absurd (h y hy) hL
def yG (l:Table):Int→List UInt8→Int
 | s,[]=>s
 | s,b::w=>yG l (bL l s b.toNat) w
theorem nC (l:Table):∀(u v:List UInt8) (s:Int),aJ l s (u ++ v)=aJ l (yG l s u) v
 | [],_,_=>rfl
 | _::u,v,_=>nC l u v _
theorem pJ {l:Table} {s:Int} {w:List UInt8} (h:aJ l s w=true):0≤s∧s<l.length:=by
 constructor
 ·apply Classical.byContradiction;intro hn;rw[dD zo] at h;cases h
 ·apply Classical.byContradiction;intro hn;rw[iF l s w zo] at h;cases h
theorem Cy {l:Table} {s:Int} {y:List UInt8} (h:aJ l s y=true) (i:Nat):0≤yG l s (y.take i)∧yG l s (y.take i)<l.length:=by
 refine pJ (w:=y.drop i) ?_;rw[← nC,List.take_append_drop];exact h
theorem pump {l:Table} {s:Int} {y:List UInt8} (h:aJ l s y=true) (hn:l.length≤y.length):∃y',aJ l s y'=true∧y'.length<y.length∧y.length≤y'.length+l.length:=by
 have hnd:¬ ((List.range (l.length+1)).map fun i=>(yG l s (y.take i)).toNat).Nodup:=by
  intro hnd;have:=lK _ (List.range l.length) hnd (by
   intro x hx;obtain⟨i,-,rfl⟩:=List.mem_map.1 hx;have:=Cy h i;rw[List.mem_range];omega)
  simp at this;omega
 have hex:∃i j,i<j∧j≤l.length∧yG l s (y.take i)=yG l s (y.take j):=by
  apply Classical.byContradiction;intro hno;apply hnd;rw[List.Nodup,List.pairwise_map];refine (List.pairwise_lt_range (n:=l.length+1)).imp_of_mem fun {i j} hi hj hij e=>hno ⟨i,j,hij,?_,?_⟩
  ·have:=List.mem_range.1 hj;omega
  ·have h1:=Cy h i;have h2:=Cy h j;omega
 obtain⟨i,j,hij,hj,e⟩:=hex;refine ⟨y.take i ++ y.drop j,?_,?_,?_⟩
 ·rw[nC,e,← nC,List.take_append_drop];exact h
 ·simp;omega
 ·simp;omega
theorem window {l:Table} {s:Int} (t:Nat):∀(N:Nat) (y:List UInt8),y.length≤N→aJ l s y=true→t≤y.length→∃y',aJ l s y'=true∧t≤y'.length∧y'.length<t+l.length
 | 0,y,hN,h,ht=>⟨y,h,ht,by have:=pJ h;omega⟩
 | N+1,y,hN,h,ht=>by
  by_cases hy:y.length<t+l.length
  ·exact⟨y,h,ht,hy⟩
  ·obtain⟨y',h1,h2,h3⟩:=pump h zo;exact window t N y' zo h1 zo
theorem FD {l:Table} {s:Int} {L L':Nat} (h:L≤L'):(enum l s L).length≤(enum l s L').length:=by
 induction h with
 | refl=>exact Nat.le_refl _
 | step _ ih=>rw[zR,List.length_append];omega
theorem zU {l:Table} {s:Int} {y:List UInt8} (h:aJ l s y=true):∀c,c*l.length≤y.length→c≤(enum l s (c*l.length)).length
 | 0,_=>Nat.zero_le _
 | c+1,hc=>by
  have e:(c+1)*l.length=c*l.length+l.length:=Nat.succ_mul _ _;have ih:=zU h c zo;obtain⟨y',h1,h2,h3⟩:=window (c*l.length) _ y (Nat.le_refl _) h zo;have h4:y'∈enum l s ((c+1)*l.length):=(lq _ _ _ _).2 ⟨zo,h1⟩;have h5:y' ∉ enum l s (c*l.length):=fun hm=>by have:=((lq _ _ _ _).1 hm).1;omega
  have:=lK (y'::enum l s (c*l.length)) (enum l s ((c+1)*l.length)) (List.nodup_cons.2 ⟨h5,wP (zT _ _ _)⟩) (by
   intro x hx;rcases List.mem_cons.1 hx with rfl | hx
   ·exact h4
   ·obtain⟨g1,g2⟩:=(lq _ _ _ _).1 hx;exact (lq _ _ _ _).2 ⟨zo,g2⟩)
  simp only[List.length_cons] at this;omega
theorem BZ {l:Table} {s:Int} {k L:Nat} (hL:k*l.length≤L):iG (aJ l s) k ((enum l s L).take k):=by
 apply rz;by_cases h:∃y,aJ l s y=true∧L≤y.length
 ·obtain⟨y,h1,h2⟩:=h;have h3:=zU h1 k zo;exact .inl (Nat.le_trans h3 (FD hL))
 ·exact .inr fun y hy=>by
   apply Classical.byContradiction;intro hn;exact h ⟨y,hy,zo⟩
end Cl
namespace Cl
def kI (f:List UInt8→Bool):Option (List UInt8)→Prop
 | none=>∀y,f y=false
 | some x=>f x=true∧∀y,f y=true→y=x∨slt x y
theorem Ho {f:List UInt8→Bool} {r:List (List UInt8)} (h:iG f 1 r):kI f r.head?:=by
 cases r with
 | nil=>
  intro y
  cases hy:f y with
  | false=>rfl
  | true=>have:=(h.rest y hy zS).1;simp at this
 | cons x r=>
  refine ⟨h.mem x zS,fun y hy=>?_⟩;by_cases hm:y∈x::r
  ·have:=h.le;simp only[List.length_cons] at this;have hr:r=[]:=List.eq_nil_of_length_eq_zero zo;subst hr;exact .inl (by simpa using hm)
  ·exact .inr ((h.rest y hy hm).2 x zS)
theorem kI.congr {f g:List UInt8→Bool} {a:Option (List UInt8)} (h:kI f a) (e:∀w,f w=g w):kI g a:=by
 have:f=g:=funext e;rw[← this];exact h
inductive kJ (f g:List UInt8→Bool):Int→Prop where
 | same (h:∀w,f w=g w):kJ f g 0
 | lt (x:List UInt8) (h1:f x=true) (h2:g x=false) (h3:∀y,slt y x→f y=g y):kJ f g (-1)
 | gt (x:List UInt8) (h1:f x=false) (h2:g x=true) (h3:∀y,slt y x→f y=g y):kJ f g 1
theorem Lu {f g:List UInt8→Bool} {c d:Int} (h:kJ f g c) (k:kJ f g d):c=d:=by
 cases h with
 | same h=>
  cases k with
  | same=>rfl
  | lt x a b _=>rw[h x,b] at a;cases a
  | gt x a b _=>rw[h x,b] at a;cases a
 | lt x a b e=>
  cases k with
  | same h=>rw[h x,b] at a;cases a
  | lt=>rfl
  | gt y a' b' e'=>
   rcases ug x y with q | q | q
   ·have:=e' x q;rw[a,b] at this;cases this
   ·subst q;rw[a] at a';cases a'
   ·have:=e y q;rw[a',b'] at this;cases this
 | gt x a b e=>
  cases k with
  | same h=>rw[h x,b] at a;cases a
  | gt=>rfl
  | lt y a' b' e'=>
   rcases ug x y with q | q | q
   ·have:=e' x q;rw[a,b] at this;cases this
   ·subst q;rw[a] at a';cases a'
   ·have:=e y q;rw[a',b'] at this;cases this
theorem kJ.swap {f g:List UInt8→Bool} {c:Int} (h:kJ f g c):kJ g f (-c):=by
 cases h with
 | same h=>exact .same fun w=>(h w).symm
 | lt x a b e=>exact .gt x b a fun y hy=>(e y hy).symm
 | gt x a b e=>exact .lt x b a fun y hy=>(e y hy).symm
theorem kJ.refl (f:List UInt8→Bool):kJ f f 0:=.same fun _=>rfl
theorem kJ.zero {f g:List UInt8→Bool} {c:Int} (h:kJ f g c):c=0↔∀w,f w=g w:=by
 constructor
 ·rintro rfl
  cases h with
  | same h=>exact h
 ·intro e;exact Lu h (.same e)
theorem kJ.range {f g:List UInt8→Bool} {c:Int} (h:kJ f g c) : -1≤c∧c≤1:=by cases h <;> omega
theorem kJ.congr {f g f' g':List UInt8→Bool} {c:Int} (h:kJ f g c) (e:∀w,f w=f' w) (e':∀w,g w=g' w):kJ f' g' c:=by
 have h1:f=f':=funext e;have h2:g=g':=funext e';rw[← h1,← h2];exact h
noncomputable def Sem (l:Table) (w:List UInt8):Bool:=tf (Canon l)&&aJ l 0 w
theorem gD {l:Table} (h:Canon l) (w:List UInt8):Sem l w=aJ l 0 w:=by simp[Sem,aN h]
structure dX (f:List UInt8→Bool) (C:Table):Prop where
 canon:Canon C
 lang:∀w,aJ C 0 w=f w
theorem dX.sem {f:List UInt8→Bool} {C:Table} (h:dX f C) (w:List UInt8):Sem C w=f w:=by rw[gD h.canon];exact h.lang w
theorem dX.congr {f g:List UInt8→Bool} {C:Table} (h:dX f C) (e:∀w,f w=g w):dX g C:=⟨h.canon,fun w=>(h.lang w).trans (e w)⟩
theorem Hy {f:List UInt8→Bool} {C D:Table} (h:dX f C) (k:dX f D):C=D:=lQ h.canon k.canon fun w=>(h.lang w).trans (k.lang w).symm
theorem Jj:dX (fun _=>false) []:=⟨eu,fun w=>dC w⟩
def gW (s:List UInt8) (self:Bool):Table:=
 (s.zipIdx.map fun x=>(⟨true,(if 0<x.1.toNat then [(⟨0,x.1.toNat - 1,(s.length:Int)+1⟩:Ed)] else []) ++ [⟨x.1.toNat,x.1.toNat,(x.2:Int)+1⟩]⟩:Sn)) ++ [⟨self,[]⟩,⟨true,[⟨0,255,(s.length:Int)+1⟩]⟩]
open Classical in
noncomputable def jM (self:Bool):List UInt8→List UInt8→Bool
 | [],[]=>self
 | _::_,[]=>false
 | [],_::_=>true
 | t::v,c::s=>if t=c then jM self v s else decide (t<c)
theorem oK (s:List UInt8) (self:Bool):(gW s self).length=s.length+2:=by simp[gW]
theorem vC {s:List UInt8} {self:Bool} {i:Nat} (h:i<s.length):(gW s self)[i]?=some ⟨true,(if 0<(s[i]).toNat then [(⟨0,(s[i]).toNat - 1,(s.length:Int)+1⟩:Ed)] else []) ++ [⟨(s[i]).toNat,(s[i]).toNat,(i:Int)+1⟩]⟩:=by
 unfold gW;rw[List.getElem?_append_left (by simpa using h)];simp[h]
theorem wB (s:List UInt8) (self:Bool):(gW s self)[s.length]?=some ⟨self,[]⟩:=by
 unfold gW;rw[List.getElem?_append_right zS];simp
theorem wC (s:List UInt8) (self:Bool):(gW s self)[s.length+1]?=some ⟨true,[⟨0,255,(s.length:Int)+1⟩]⟩:=by
 unfold gW;rw[List.getElem?_append_right zS];simp
theorem F8 (s:List UInt8) (self:Bool):WF (gW s self)∧Bytes (gW s self):=by
 have key:∀x∈gW s self,bQ (s.length+2) (-1) x.edges∧gQ x.edges:=by
  intro x hx;obtain⟨i,hi,rfl⟩:=List.mem_iff_getElem.1 hx;have hg:(gW s self)[i]?=some (gW s self)[i]:=by simp[hi]
  rw[oK] at hi;by_cases h1:i<s.length
  ·rw[vC h1] at hg;rw[← Option.some.inj hg];have hb:=(s[i]).toNat_lt;by_cases h2:0<(s[i]).toNat
   ·simp only[h2,if_true];refine ⟨⟨Nat.zero_le _,by show (0:Int)≤(s.length:Int)+1;omega,by show (s.length:Int)+1<((s.length+2:Nat):Int);omega,by show (-1:Int)<((0:Nat):Int);omega,Nat.le_refl _,by show (0:Int)≤(i:Int)+1;omega,by show (i:Int)+1<((s.length+2:Nat):Int);omega,by show (((s[i]).toNat - 1:Nat):Int)<((s[i]).toNat:Int);omega,trivial⟩,?_⟩;intro e he;simp only[List.cons_append,List.nil_append,List.mem_cons,List.not_mem_nil,or_false] at he;rcases he with rfl | rfl
    ·exact⟨zS,by simp;omega⟩
    ·exact⟨hb,hb⟩
   ·simp only[h2,if_false];refine ⟨⟨Nat.le_refl _,by show (0:Int)≤(i:Int)+1;omega,by show (i:Int)+1<((s.length+2:Nat):Int);omega,by show (-1:Int)<((s[i]).toNat:Int);omega,trivial⟩,?_⟩;intro e he;simp only[List.nil_append,List.mem_cons,List.not_mem_nil,or_false] at he;subst he;exact⟨hb,hb⟩
  ·by_cases h2:i=s.length
   ·subst h2;rw[wB] at hg;rw[← Option.some.inj hg];exact⟨trivial,fun e he=>by cases he⟩
   ·obtain rfl:i=s.length+1:=zo;rw[wC] at hg;rw[← Option.some.inj hg];refine ⟨⟨Nat.zero_le _,by show (0:Int)≤(s.length:Int)+1;omega,by show (s.length:Int)+1<((s.length+2:Nat):Int);omega,by show (-1:Int)<((0:Nat):Int);omega,trivial⟩,?_⟩;intro e he;simp only[List.mem_cons,List.not_mem_nil,or_false] at he;subst he;exact⟨zS,zS⟩
 exact⟨fun x hx=>by rw[oK];exact (key x hx).1,fun x hx=>(key x hx).2⟩
theorem nH {l:Table} {i:Nat} {st:Sn} (h:l[i]?=some st) (b:Nat):bL l (i:Int) b=bu st.edges b:=by
 obtain⟨h1,h2⟩:=List.getElem?_eq_some_iff.1 h;rw[dY l i b h1,h2]
theorem vD {l:Table} {i:Nat} {st:Sn} (h:l[i]?=some st):bG l (i:Int)=st.accept:=by
 obtain⟨h1,h2⟩:=List.getElem?_eq_some_iff.1 h;rw[gG l i h1,h2]
theorem Cn (s:List UInt8) (self:Bool):∀v:List UInt8,aJ (gW s self) ((s.length+1:Nat):Int) v=true
 | []=>by simp only[aJ];rw[vD (wC s self)]
 | c::v=>by
  simp only[aJ];rw[nH (wC s self)];have hc:=c.toNat_lt;have:bu [(⟨0,255,(s.length:Int)+1⟩:Ed)] c.toNat=((s.length+1:Nat):Int):=by
   simp only[bu];rw[if_pos ⟨Nat.zero_le _,zo⟩];omega
  rw[this];exact Cn s self v
theorem wz (s:List UInt8) (self:Bool):∀(v:List UInt8) (i:Nat),i≤s.length→aJ (gW s self) (i:Int) v=jM self v (s.drop i)
 | [],i,hi=>by
  simp only[aJ];by_cases h:i<s.length
  ·rw[vD (vC h),List.drop_eq_getElem_cons h];rfl
  ·obtain rfl:i=s.length:=zo
   rw[vD (wB s self),List.drop_eq_nil_of_le (Nat.le_refl _)];rfl
 | c::v,i,hi=>by
  simp only[aJ];by_cases h:i<s.length
  ·rw[nH (vC h),List.drop_eq_getElem_cons h];simp only[jM];have hb:=(s[i]).toNat_lt;by_cases e:c=s[i]
   ·rw[if_pos e];have hs:bu ((if 0<(s[i]).toNat then [(⟨0,(s[i]).toNat - 1,(s.length:Int)+1⟩:Ed)] else []) ++ [⟨(s[i]).toNat,(s[i]).toNat,(i:Int)+1⟩]) c.toNat=((i+1:Nat):Int):=by
     rw[e]
     split <;> simp only[List.cons_append,List.nil_append,bu]
     ·rw[if_neg zo,if_pos ⟨Nat.le_refl _,Nat.le_refl _⟩];omega
     ·rw[if_pos ⟨Nat.le_refl _,Nat.le_refl _⟩];omega
    rw[hs];exact wz s self v (i+1) h
   ·rw[if_neg e];have hne:c.toNat≠(s[i]).toNat:=fun h=>e (UInt8.toNat_inj.1 h);by_cases hlt:c<s[i]
    ·have hlt':=UInt8.lt_iff_toNat_lt.1 hlt;have hs:bu ((if 0<(s[i]).toNat then [(⟨0,(s[i]).toNat - 1,(s.length:Int)+1⟩:Ed)] else []) ++ [⟨(s[i]).toNat,(s[i]).toNat,(i:Int)+1⟩]) c.toNat=((s.length+1:Nat):Int):=by
      rw[if_pos zo];simp only[List.cons_append,List.nil_append,bu];rw[if_pos ⟨Nat.zero_le _,zo⟩];omega
     rw[hs,Cn,decide_eq_true hlt]
    ·have hlt':¬ c.toNat<(s[i]).toNat:=fun h=>hlt (UInt8.lt_iff_toNat_lt.2 h);have hs:bu ((if 0<(s[i]).toNat then [(⟨0,(s[i]).toNat - 1,(s.length:Int)+1⟩:Ed)] else []) ++ [⟨(s[i]).toNat,(s[i]).toNat,(i:Int)+1⟩]) c.toNat = -1:=by
      split <;> simp only[List.cons_append,List.nil_append,bu]
      ·rw[if_neg zo,if_neg zo]
      ·rw[if_neg zo]
     rw[hs,dD zo,decide_eq_false hlt]
  ·obtain rfl:i=s.length:=zo;rw[nH (wB s self),List.drop_eq_nil_of_le (Nat.le_refl _)];simp only[bu,jM];rw[dD zo]
end Cl
namespace Cl
inductive El where
 | nul | fal | tru
 | num (u:Int)
 | str (x:List UInt8)
def El.rk:El→Nat | nul=>0 | fal=>1 | tru=>2 | num _=>3 | str _=>4
def El.lt:El→El→Prop
 | num u,num v=>near u v
 | str x,str y=>slt x y
 | a,b=>a.rk<b.rk
theorem El.lt_irrefl:∀a:El,¬ a.lt a
 | nul=>by simp[El.lt]
 | fal=>by simp[El.lt]
 | tru=>by simp[El.lt]
 | num u=>zt u
 | str x=>jG x
theorem El.PO {a b:El} (h:a.rk<b.rk):a.lt b:=by
 cases a <;> cases b <;> simp_all [El.lt,El.rk]
theorem El.SI {a b:El} (h:a.lt b):a.rk≤b.rk:=by
 cases a <;> cases b <;> simp_all [El.lt,El.rk]
theorem El.lt_trans {a b c:El} (h:a.lt b) (k:b.lt c):a.lt c:=by
 by_cases e:a.rk<b.rk
 ·exact El.PO (by have:=El.SI k;omega)
 ·by_cases e':b.rk<c.rk
  ·exact El.PO (by have:=El.SI h;omega)
  ·cases a <;> cases b <;> simp_all [El.lt,El.rk] <;> cases c <;> simp_all
   ·exact oz h k
   ·exact tZ h k
theorem El.CZ (a b:El):a.lt b∨a=b∨b.lt a:=by
 rcases Nat.lt_trichotomy a.rk b.rk with h | h | h
 ·exact .inl (El.PO h)
 ·cases a <;> cases b <;> simp_all [El.lt,El.rk]
  ·rename_i u v;by_cases e:u=v
   ·exact .inr (.inl e)
   ·rcases qZ e with h | h
    ·exact .inl h
    ·exact .inr (.inr h)
  ·exact ug _ _
 ·exact .inr (.inr (El.PO h))
theorem El.PP {a b:El} (h:a.lt b) (k:b.lt a):False:=El.lt_irrefl a (El.lt_trans h k)
def gP (p:El→Prop):Option El→Prop
 | none=>∀e,¬ p e
 | some a=>p a∧∀e,p e→e=a∨a.lt e
theorem oV {p:El→Prop} {r s:Option El} (h:gP p r) (k:gP p s):r=s:=by
 cases r with
 | none=>cases s with
  | none=>rfl
  | some b=>exact absurd k.1 (h b)
 | some a=>cases s with
  | none=>exact absurd h.1 (k a)
  | some b=>
   rcases h.2 b k.1 with e | e
   ·rw[e]
   ·rcases k.2 a h.1 with e' | e'
    ·rw[e']
    ·exact (El.PP e e').elim
theorem gP.congr {p q:El→Prop} {r:Option El} (h:gP p r) (e:∀a,p a↔q a):gP q r:=by
 have:p=q:=funext fun a=>propext (e a);rw[← this];exact h
inductive CmpE (p q:El→Prop):Int→Prop where
 | same (h:∀a,p a↔q a):CmpE p q 0
 | lt (x:El) (h1:p x) (h2:¬ q x) (h3:∀y,El.lt y x→(p y↔q y)):CmpE p q (-1)
 | gt (x:El) (h1:¬ p x) (h2:q x) (h3:∀y,El.lt y x→(p y↔q y)):CmpE p q 1
theorem nA {p q:El→Prop} {c d:Int} (h:CmpE p q c) (k:CmpE p q d):c=d:=by
 cases h with
 | same h=>
  cases k with
  | same=>rfl
  | lt x a b _=>exact absurd ((h x).1 a) b
  | gt x a b _=>exact absurd ((h x).2 b) a
 | lt x a b e=>
  cases k with
  | same h=>exact absurd ((h x).1 a) b
  | lt=>rfl
  | gt y a' b' e'=>
   rcases El.CZ x y with o | o | o
   ·exact absurd ((e' x o).1 a) b
   ·subst o;exact absurd a a'
   ·exact absurd ((e y o).2 b') a'
 | gt x a b e=>
  cases k with
  | same h=>exact absurd ((h x).2 b) a
  | gt=>rfl
  | lt y a' b' e'=>
   rcases El.CZ x y with o | o | o
   ·exact absurd ((e' x o).2 b) a
   ·subst o;exact absurd a' a
   ·exact absurd ((e y o).1 a') b'
theorem CmpE.swap {p q:El→Prop} {c:Int} (h:CmpE p q c):CmpE q p (-c):=by
 cases h with
 | same h=>exact .same fun w=>(h w).symm
 | lt x a b e=>exact .gt x b a fun y hy=>(e y hy).symm
 | gt x a b e=>exact .lt x b a fun y hy=>(e y hy).symm
theorem CmpE.zero {p q:El→Prop} {c:Int} (h:CmpE p q c):c=0↔∀a,p a↔q a:=by
 constructor
 ·rintro rfl
  cases h with
  | same h=>exact h
 ·exact fun e=>nA h (.same e)
theorem CmpE.range {p q:El→Prop} {c:Int} (h:CmpE p q c) : -1≤c∧c≤1:=by cases h <;> omega
theorem CmpE.congr {p q p' q':El→Prop} {c:Int} (h:CmpE p q c) (e:∀a,p a↔p' a) (e':∀a,q a↔q' a):CmpE p' q' c:=by
 have h1:p=p':=funext fun a=>propext (e a);have h2:q=q':=funext fun a=>propext (e' a);rw[← h1,← h2];exact h
structure RS where
 nul:Bool
 fal:Bool
 tru:Bool
 i:List Spn
 f:List Spn
 t:Table
def RS.ns (s:RS):NS:=mkN s.i s.f
structure RS.gK (s:RS):Prop where
 ei:s.i=s.ns.i
 ef:s.f=s.ns.rf
 ct:Canon s.t
def RS.has (s:RS):El→Prop
 | .nul=>s.nul=true
 | .fal=>s.fal=true
 | .tru=>s.tru=true
 | .num u=>s.ns.has u
 | .str x=>Sem s.t x=true
theorem RS.lJ (s:RS):NSok s.ns:=jk _ _
structure ScIs (p:El→Prop) (s:RS):Prop where
 valid:s.gK
 mem:∀e,s.has e↔p e
theorem ScIs.congr {p q:El→Prop} {r:RS} (h:ScIs p r) (e:∀a,p a↔q a):ScIs q r:=⟨h.valid,fun a=>(h.mem a).trans (e a)⟩
def dO:RS:=⟨false,false,false,[],[],[]⟩
theorem xz:dO.gK:=⟨rfl,rfl,eu⟩
theorem Ca (e:El):¬ dO.has e:=by
 have h0:dO.ns=j3:=Rn
 cases e with
 | nul=>simp[RS.has,dO]
 | fal=>simp[RS.has,dO]
 | tru=>simp[RS.has,dO]
 | num u=>simp only[RS.has,h0];exact je u
 | str x=>simp only[RS.has,dO,gD eu,dC];simp
theorem zV:ScIs (fun _=>False) dO:=⟨xz,fun e=>⟨Ca e,False.elim⟩⟩
noncomputable def bU (s:RS):RS:=if tf s.gK=true then s else dO
theorem zK (s:RS):(bU s).gK:=by
 unfold bU
 split
 ·rename_i h;exact yw.1 h
 ·exact xz
theorem jJ {s:RS} (h:s.gK):bU s=s:=by simp[bU,aN h]
theorem zL {s:RS} (h:¬ s.gK):bU s=dO:=by simp[bU,aL h]
theorem ja {p:El→Prop} {n f t:Bool} {x:NS} {T:Table} (h1:n=true↔p .nul) (h2:f=true↔p .fal) (h3:t=true↔p .tru) (hx:NSok x) (h4:∀u,x.has u↔p (.num u))
 (hT:Canon T) (h5:∀w,Sem T w=true↔p (.str w)):ScIs p ⟨n,f,t,x.i,x.rf,T⟩:=by
 have e:(⟨n,f,t,x.i,x.rf,T⟩:RS).ns=x:=jv hx;refine ⟨⟨by rw[e],by rw[e],hT⟩,fun a=>?_⟩
 cases a with
 | nul=>exact h1
 | fal=>exact h2
 | tru=>exact h3
 | num u=>simp only[RS.has,e];exact h4 u
 | str w=>exact h5 w
theorem CG {a b:RS} (op:Prop→Prop→Prop) {n f t:Bool} {x:NS} {T:Table} (h1:n=true↔op (a.nul=true) (b.nul=true)) (h2:f=true↔op (a.fal=true) (b.fal=true)) (h3:t=true↔op (a.tru=true) (b.tru=true))
 (hx:NSok x) (h4:∀u,x.has u↔op (a.ns.has u) (b.ns.has u)) (hT:Canon T) (h5:∀w,Sem T w=true↔op (Sem a.t w=true) (Sem b.t w=true)) :
 ScIs (fun e=>op (a.has e) (b.has e)) ⟨n,f,t,x.i,x.rf,T⟩:=ja h1 h2 h3 hx h4 hT h5
theorem KR {s:RS} (h:s.nul=true):gP s.has (some .nul):=⟨h,fun e _=>by cases e <;> simp[El.lt,El.rk]⟩
theorem KS {s:RS} (h0:s.nul=false) (h:s.fal=true):gP s.has (some .fal):=⟨h,fun e he=>by
 cases e <;> simp[El.lt,El.rk]
 simp[RS.has,h0] at he⟩
theorem KO {s:RS} (h0:s.nul=false) (h1:s.fal=false) (h:s.tru=true):gP s.has (some .tru):=⟨h,fun e he=>by
 cases e <;> simp[El.lt,El.rk] <;> simp[RS.has,h0,h1] at he⟩
theorem KQ {s:RS} (h0:s.nul=false) (h1:s.fal=false) (h2:s.tru=false) {u:Int} (h:gz s.ns=some u):gP s.has (some (.num u)):=by
 obtain⟨h3,h4⟩:=(kC s.lJ).one u h;refine ⟨h3,fun e he=>?_⟩
 cases e with
 | nul=>simp[RS.has,h0] at he
 | fal=>simp[RS.has,h1] at he
 | tru=>simp[RS.has,h2] at he
 | num v=>
  rcases h4 v he with rfl | h5
  ·exact .inl rfl
  ·exact .inr h5
 | str w=>exact .inr (by simp[El.lt,El.rk])
theorem KP {s:RS} (h0:s.nul=false) (h1:s.fal=false) (h2:s.tru=false) (h3:gz s.ns=none) {r:Option (List UInt8)} (h:kI (Sem s.t) r):gP s.has (r.map .str):=by
 have hn:=(kC s.lJ).no h3;have key:∀e,s.has e→∃w,e=.str w∧Sem s.t w=true:=fun e he=>by
  cases e with
  | nul=>simp[RS.has,h0] at he
  | fal=>simp[RS.has,h1] at he
  | tru=>simp[RS.has,h2] at he
  | num v=>exact absurd he (hn v)
  | str w=>exact⟨w,rfl,he⟩
 cases r with
 | none=>
  intro e he;obtain⟨w,-,hw⟩:=key e he;have:=h w;rw[hw] at this
  cases this
 | some x=>
  refine ⟨h.1,fun e he=>?_⟩;obtain⟨w,rfl,hw⟩:=key e he;rcases h.2 w hw with rfl | h5
  ·exact .inl rfl
  ·exact .inr h5
end Cl
namespace Cl
def kK (s:List UInt8):Table:=((List.range s.length).map fun i=>(⟨false,[⟨(s.getD i 0).toNat,(s.getD i 0).toNat,((i+1:Nat):Int)⟩]⟩:Sn)) ++ [⟨true,[]⟩]
theorem iK (s:List UInt8):(kK s).length=s.length+1:=by simp[kK]
theorem tQ {s:List UInt8} {i:Nat} (h:i<s.length):(kK s)[i]?=some ⟨false,[⟨(s[i]).toNat,(s[i]).toNat,((i+1:Nat):Int)⟩]⟩:=by
 unfold kK;rw[List.getElem?_append_left (by simpa using h)];simp[h]
theorem tO (s:List UInt8):(kK s)[s.length]?=some ⟨true,[]⟩:=by
 unfold kK;rw[List.getElem?_append_right zS];simp
theorem tL (s:List UInt8):∀(v:List UInt8) (i:Nat),i≤s.length→(aJ (kK s) (i:Int) v=true↔v=s.drop i)
 | [],i,hi=>by
  simp only[aJ];by_cases h:i<s.length
  ·rw[vD (tQ h),List.drop_eq_getElem_cons h];exact⟨fun h=>(by cases h),fun h=>(by cases h)⟩
  ·obtain rfl:i=s.length:=zo;rw[vD (tO s),List.drop_eq_nil_of_le (Nat.le_refl _)]
   simp
 | c::v,i,hi=>by
  simp only[aJ];by_cases h:i<s.length
  ·rw[nH (tQ h),List.drop_eq_getElem_cons h];simp only[bu];by_cases e:c=s[i]
   ·rw[if_pos (by rw[e];exact⟨Nat.le_refl _,Nat.le_refl _⟩),tL s v (i+1) h,e];exact⟨fun h=>(by rw[h]),fun h=>(List.cons.inj h).2⟩
   ·have hne:c.toNat≠(s[i]).toNat:=fun h=>e (UInt8.toNat_inj.1 h);rw[if_neg zo,dD zo];exact⟨fun h=>(by cases h),fun h=>absurd (List.cons.inj h).1 e⟩
  ·obtain rfl:i=s.length:=zo;rw[nH (tO s),List.drop_eq_nil_of_le (Nat.le_refl _)];simp only[bu];rw[dD zo];simp
theorem L9 (s:List UInt8) (k b t:Nat) (h:bL (kK s) k b=t):k<s.length∧t=k+1:=by
 by_cases hk:k<s.length
 ·rw[nH (tQ hk)] at h;simp only[bu] at h
  split at h
  ·exact⟨hk,zo⟩
  ·omega
 ·by_cases hk2:k=s.length
  ·subst hk2;rw[nH (tO s)] at h;simp only[bu] at h;omega
  ·rw[fB _ _ _ (by rw[iK];omega)] at h;omega
theorem pV (s:List UInt8):dX (fun v=>decide (v=s)) (kK s):=by
 have hstep:∀k (h:k<s.length),bL (kK s) k (s[k]).toNat=((k+1:Nat):Int):=fun k h=>by
  rw[nH (tQ h)];simp only[bu];rw[if_pos ⟨Nat.le_refl _,Nat.le_refl _⟩]
 have hst:∀x∈kK s,x=⟨true,[]⟩∨∃i,∃h:i<s.length,x=⟨false,[⟨(s[i]).toNat,(s[i]).toNat,((i+1:Nat):Int)⟩]⟩:=by
  intro x hx;obtain⟨i,hi,rfl⟩:=List.mem_iff_getElem.1 hx;rw[iK] at hi;have hg:(kK s)[i]?=some ((kK s)[i]'(by rw[iK];exact hi)):=by rw[List.getElem?_eq_getElem]
  by_cases h:i<s.length
  ·rw[tQ h] at hg;exact .inr ⟨i,h,(Option.some.inj hg).symm⟩
  ·obtain rfl:i=s.length:=zo;rw[tO] at hg;exact .inl (Option.some.inj hg).symm
 refine ⟨⟨?_,?_,?_,?_,?_,?_,?_⟩,fun v=>?_⟩
 ·intro x hx;rw[iK];rcases hst x hx with rfl | ⟨i,h,rfl⟩
  ·trivial
  ·exact⟨Nat.le_refl _,by show (0:Int)≤((i+1:Nat):Int);omega,by show ((i+1:Nat):Int)<((s.length+1:Nat):Int);omega,by show (-1:Int)<((s[i]).toNat:Int);omega,trivial⟩
 ·intro x hx e he;rcases hst x hx with rfl | ⟨i,h,rfl⟩
  ·simp at he
  ·simp only[List.mem_singleton] at he;subst he;exact⟨(s[i]).toNat_lt,(s[i]).toNat_lt⟩
 ·intro x hx;rcases hst x hx with rfl | ⟨i,h,rfl⟩ <;> trivial
 ·intro k hk;rw[iK] at hk;exact⟨s.drop k,(tL s _ k zo).2 rfl⟩
 ·intro i j hi hj h;rw[iK] at hi hj;have h1:=(tL s (s.drop i) i zo).2 rfl;rw[h] at h1;have h2:=(tL s (s.drop i) j zo).1 h1;have:=congrArg List.length h2;simp at this;omega
 ·intro k b t hb h t' h1 h2;obtain⟨hk,rfl⟩:=L9 s k b t h;refine ⟨t' - 1,(s[t' - 1]'zo).toNat,(s[t' - 1]'zo).toNat_lt,.inl zo,?_⟩;have:=hstep (t' - 1) zo;rw[show t' - 1+1=t' by omega] at this;exact this
 ·intro t h1 h2;rw[iK] at h2;refine ⟨t - 1,(s[t - 1]'zo).toNat,zo,(s[t - 1]'zo).toNat_lt,?_⟩;have:=hstep (t - 1) zo;rw[show t - 1+1=t by omega] at this;exact this
 ·have:=tL s v 0 (Nat.zero_le _);rw[List.drop_zero] at this;rw[Bool.eq_iff_iff,decide_eq_true_iff];exact this
noncomputable def dx (op:List UInt8) (s:List UInt8):Option (List UInt8→Bool):=
 if op=[60] then some (jM false · s) else if op=[60,61] then some (jM true · s) else if op=[62] then some fun v => !jM true v s
 else if op=[62,61] then some fun v => !jM false v s else if op=[61,61] then some fun v=>decide (v=s) else if op=[33,61] then some fun v => !decide (v=s) else none
end Cl
namespace Cl
def dtEl (d:Dt):Option El:=
 if chkD d 1≠0 then none else if d.kind=1 then some .nul else if d.kind=2 then (if d.num=0 then some .fal else some .tru) else if d.kind=3 then some (.num d.num) else if d.kind=4 then some (.str d.str.data.toList) else none
def ofE (d:Dt):Int:=if chkD d 1≠0 then chkD d 1 else if d.kind=5∨d.kind=6 then 11 else 0
theorem qE {d:Dt} (h:chkD d 1=0):ownE d=0:=by
 rw[Af] at h;rw[if_neg zD] at h;by_cases e:ownE d=0
 ·exact e
 ·rw[if_pos e] at h;exact absurd h e
theorem lG {d:Dt} (h:ownE d=0):jV d.kind d.num d.str.size d.items.length d.bv.length=true∧¬ ((d.kind=2∧d.num≠0∧d.num≠1)∨(d.kind=3∧¬ (-1000000000000000≤d.num∧d.num≤1000000000000000)))∧twice d.labels=false:=by
 unfold ownE at h
 split at h
 ·exact absurd h zD
 ·rename_i h1
  split at h
  ·exact absurd h zD
  ·rename_i h2
   split at h
   ·exact absurd h zD
   ·rename_i h3;exact⟨by simpa using h1,h2,by simpa using h3⟩
theorem oP {k n:Int} {s i m:Nat} (h:jV k n s i m=true):(1≤k∧k≤6)∧(k=2∨k=3∨n=0)∧(k=4∨s=0)∧(k=5∨i=0)∧(k=6∨m=0):=by
 simp only[jV,Bool.and_eq_true,Bool.or_eq_true,decide_eq_true_eq] at h;obtain⟨⟨⟨⟨h1,h2⟩,h3⟩,h4⟩,h5⟩:=h;refine ⟨h1,?_,h3,h4,h5⟩;rcases h2 with (h2 | h2) | h2
 ·exact .inl h2
 ·exact .inr (.inl h2)
 ·exact .inr (.inr h2)
theorem iI {d:Dt}:ofE d=0↔∃e,dtEl d=some e:=by
 unfold ofE dtEl;by_cases h:chkD d 1=0
 ·obtain⟨h1,h2,h3⟩:=lG (qE h);obtain⟨hk,-⟩:=oP h1;simp only[h,ne_eq,not_true_eq_false,if_false];by_cases e1:d.kind=1
  ·simp[e1]
  ·by_cases e2:d.kind=2
   ·by_cases hn:d.num=0 <;> simp[e2,hn]
   ·by_cases e3:d.kind=3
    ·simp[e3]
    ·by_cases e4:d.kind=4
     ·simp[e4]
     ·have:d.kind=5∨d.kind=6:=zo;simp[e1,e2,e3,e4,this]
 ·simp[h]
theorem AZ {d:Dt} {u:Int} (h:dtEl d=some (.num u)):bP u:=by
 unfold dtEl at h;by_cases hc:chkD d 1=0
 ·obtain⟨-,h2,-⟩:=lG (qE hc);simp only[hc,ne_eq,not_true_eq_false,if_false] at h
  split at h
  ·cases h
  ·split at h
   ·split at h <;> cases h
   ·split at h
    ·rename_i e3;cases h;refine Classical.byContradiction fun hn=>h2 (.inr ⟨e3,?_⟩);simpa [bP,maxU] using hn
    ·split at h <;> cases h
 ·simp[hc] at h
def elDt:El→Dt
 | .nul=>.mk 1 0 ⟨#[]⟩ [] [] []
 | .fal=>.mk 2 0 ⟨#[]⟩ [] [] []
 | .tru=>.mk 2 1 ⟨#[]⟩ [] [] []
 | .num u=>.mk 3 u ⟨#[]⟩ [] [] []
 | .str x=>.mk 4 0 ⟨x.toArray⟩ [] [] []
def elOk:El→Prop
 | .num u=>bP u
 | _=>True
theorem qC:∀e:El,elOk e→dtEl (elDt e)=some e
 | .nul,_=>rfl
 | .fal,_=>rfl
 | .tru,_=>rfl
 | .num u,h=>by
  have h' : -1000000000000000≤u∧u≤1000000000000000:=h;have:chkD (elDt (.num u)) 1=0:=by
   simp[elDt,chkD,chkL,ownE,Dt.kind,Dt.num,Dt.str,Dt.items,Dt.bv,Dt.labels,jV,twice,ByteArray.size];omega
  unfold dtEl;rw[this]
  rfl
 | .str x,_=>by
  have:chkD (elDt (.str x)) 1=0:=by simp[elDt,chkD,chkL,ownE,Dt.kind,Dt.num,Dt.str,Dt.items,Dt.bv,Dt.labels,jV,twice]
  unfold dtEl;rw[this]
  rfl
theorem zH {s:RS} {e:El} (h:s.has e):elOk e:=by
 cases e with
 | num u=>exact s.lJ.kD h
 | _=>exact trivial
def opLt:List UInt8:=[60]
def opLe:List UInt8:=[60,61]
def opGt:List UInt8:=[62]
def opGe:List UInt8:=[62,61]
def opEq:List UInt8:=[61,61]
def opNe:List UInt8:=[33,61]
def relN (op:List UInt8) (x u:Int):Prop:=
 if op=opLt then x<u else if op=opLe then x≤u else if op=opGt then u<x else if op=opGe then u≤x else if op=opEq then x=u else if op=opNe then x≠u else False
def known (op:List UInt8):Bool:=decide (op=opLt) || decide (op=opLe) || decide (op=opGt) || decide (op=opGe) || decide (op=opEq) || decide (op=opNe)
def fo (op:List UInt8) (u:Int):NS:=
 if op=opLt then ltN u else if op=opLe then leN u else if op=opGt then notN (leN u) else if op=opGe then notN (ltN u) else if op=opEq then eqN u else notN (eqN u)
theorem OX (op:List UInt8) (u:Int):NSok (fo op u):=by
 unfold fo
 split
 ·exact uK u
 ·split
  ·exact zx u
  ·split
   ·exact jf (zx u)
   ·split
    ·exact jf (uK u)
    ·split
     ·exact rU u
     ·exact jf (rU u)
theorem LU {op:List UInt8} (h:known op=true) (u v:Int):(fo op u).has v↔bP v∧relN op v u:=by
 unfold fo relN;by_cases h1:op=opLt
 ·rw[if_pos h1,if_pos h1];exact C8 u v
 rw[if_neg h1,if_neg h1];by_cases h2:op=opLe
 ·rw[if_pos h2,if_pos h2];exact Da u v
 rw[if_neg h2,if_neg h2];by_cases h3:op=opGt
 ·rw[if_pos h3,if_pos h3,nL (zx u),Da];refine and_congr_right fun hv=>?_;simp only[hv,true_and];omega
 rw[if_neg h3,if_neg h3];by_cases h4:op=opGe
 ·rw[if_pos h4,if_pos h4,nL (uK u),C8];refine and_congr_right fun hv=>?_;simp only[hv,true_and];omega
 rw[if_neg h4,if_neg h4];by_cases h5:op=opEq
 ·rw[if_pos h5,if_pos h5];exact zQ u v
 rw[if_neg h5,if_neg h5];have h6:op=opNe:=by
  simp only[known,Bool.or_eq_true,decide_eq_true_eq] at h;simpa [h1,h2,h3,h4,h5] using h
 rw[if_pos h6,nL (rU u),zQ];refine and_congr_right fun hv=>?_;simp only[hv,true_and,ne_eq]
def jI (op:List UInt8):Bool:=decide (op=opLt) || decide (op=opLe) || decide (op=opGt) || decide (op=opGe)
def jL (op:List UInt8) (d:Dt):Int:=
 if ofE d≠0 then ofE d else if op=opNe then 0 else if jI op=true then (if d.kind=3∨d.kind=4 then 0 else 11) else 8
def gV (op:List UInt8) (d:Dt) (e:El):Prop:=match dtEl d with
 | none=>False
 | some a=>if op=opNe then e≠a∧elOk e else if jI op=true then (match a,e with
  | .num u,.num v=>bP v∧relN op v u
  | .str s,.str x=>∃f,dx op s=some f∧f x=true
  | _,_=>False) else False
end Cl
namespace Cl
theorem uN:∀(l:List Spn) (lo hi:Int),(kM l lo hi).length≤l.length+1
 | [],lo,hi=>by unfold kM;split <;> simp
 | s::r,lo,hi=>by
  have:=uN r (s.2+1) hi;unfold kM
  split <;> simp <;> omega
theorem pg:∀(r:List Spn) (s:Spn),(insS s true r).length≤r.length
 | [],s=>by simp[insS]
 | x::r,s=>by
  have h1:=pg r s;have h3:=pg r (min s.1 x.1,max s.2 x.2);rw[insS]
  split
  ·simp only[List.length_cons];omega
  ·split
   ·simp only[if_true,List.nil_append,List.length_cons];omega
   ·simp only[List.length_cons];omega
theorem xX:∀(r:List Spn) (s:Spn) (d:Bool),(insS s d r).length≤r.length+1
 | [],s,d=>by unfold insS;split <;> simp
 | x::r,s,d=>by
  have h1:=xX r s d;have h3:=xX r (min s.1 x.1,max s.2 x.2) d;have h2:=pg r s;rw[insS]
  split
  ·simp only[List.length_cons];omega
  ·split
   ·cases d <;> simp only[if_true,Bool.false_eq_true,if_false,List.cons_append,List.nil_append,List.length_cons] <;> omega
   ·simp only[List.length_cons];omega
theorem mW (l:List Spn):(ic l).length≤l.length:=by
 have:∀(l out:List Spn),(l.foldl (fun out s=>if s.2<s.1 then out else insS s false out) out).length≤out.length+l.length:=by
  intro l
  induction l with
  | nil=>intro out;simp
  | cons s l ih=>
   intro out;have:=ih (if s.2<s.1 then out else insS s false out);have h2:(if s.2<s.1 then out else insS s false out).length≤out.length+1:=by
    split
    ·omega
    ·exact xX out s false
   simp only[List.foldl_cons,List.length_cons];omega
 have:=this l [];rw[ic];simpa using this
theorem zB (l:List Spn):(oD l).length≤l.length:=by
 have:=List.length_filter_le (fun s=>decide (s.1≤s.2)) (l.map nW);simpa [oD] using this
theorem zC (l:List Spn):(kX l).length≤l.length:=by
 have:=List.length_filter_le (fun s=>decide (s.1≤s.2)) (l.map jD);simpa [kX] using this
theorem tC (a b:List Spn):(eZ a b).length≤a.length*b.length:=by
 induction a with
 | nil=>simp[eZ]
 | cons x a ih=>
  have h:=List.length_filter_le (fun z:Spn=>decide (z.1≤z.2)) (b.map (ma x));have e:eZ (x::a) b=((b.map (ma x)).filter fun z=>decide (z.1≤z.2)) ++ eZ a b:=by simp[eZ]
  rw[e,List.length_append,List.length_cons,Nat.succ_mul];rw[List.length_map] at h;omega
structure NS.Le (x:NS) (k:Nat):Prop where
 i:x.i.length≤k
 f:x.f.length≤k
theorem NS.ky (x:NS):x.rf.length=x.f.length:=by simp[NS.rf]
theorem NS.Le.mono {x:NS} {k n:Nat} (h:x.Le k) (hk:k≤n):x.Le n:=⟨Nat.le_trans h.i hk,Nat.le_trans h.f hk⟩
theorem fF {I F:List Spn} {k:Nat} (h1:I.length≤k) (h2:F.length≤k):(mkN I F).Le k:=by
 refine ⟨Nat.le_trans (mW _) (Nat.le_trans (zB I) h1),Nat.le_trans (mW _) ?_⟩;rw[List.length_map];exact Nat.le_trans (zC F) h2
theorem lS {x:NS} {k:Nat} (h:x.Le k):(notN x).Le (k+1):=
 ⟨Nat.le_trans (uN _ _ _) (Nat.succ_le_succ h.i),Nat.le_trans (uN _ _ _) (Nat.succ_le_succ h.f)⟩
theorem Ja {x y:NS} {k n:Nat} (h:x.Le k) (h':y.Le n):(orN x y).Le (k+n):=by
 have a:=h.i;have b:=h.f;have c:=h'.i;have d:=h'.f;refine ⟨Nat.le_trans (mW _) ?_,Nat.le_trans (mW _) ?_⟩ <;> rw[List.length_append] <;> omega
theorem IE {x y:NS} {k n:Nat} (h:x.Le k) (h':y.Le n):(andN x y).Le (k+n+3):=(lS (Ja (lS h) (lS h'))).mono zo
theorem uH {x y:NS} {k n:Nat} (h:x.Le k) (h':y.Le n):(eT x y).Le (k+n+4):=(IE h (lS h')).mono zo
theorem Sk (u:Int):u.tdiv 10000=if u % 10000=0∨0≤u then u / 10000 else u / 10000+1:=by
 rw[Int.tdiv_eq_ediv];have:((10000:Int) ∣ u)↔u % 10000=0:=Int.dvd_iff_emod_eq_zero;simp only[this,Int.sign]
 split <;> split <;> omega
theorem Q7 (u:Int):u.tmod 10000=if u % 10000=0∨0≤u then u % 10000 else u % 10000 - 10000:=by
 rw[Int.tmod_eq_emod];have:((10000:Int) ∣ u)↔u % 10000=0:=Int.dvd_iff_emod_eq_zero;simp only[this]
 split <;> split <;> omega
theorem nZ (u:Int):u.tmod 10000=0↔u % 10000=0:=by rw[Q7];split <;> omega
end Cl
namespace Cl
noncomputable def hasD (s:RS) (d:Dt):Bool:=tf (∃e,dtEl d=some e∧(bU s).has e)
noncomputable def nk (s:RS):Bool:=tf (∀e,¬ (bU s).has e)
noncomputable def subB (a b:RS):Bool:=tf (∀e,(bU a).has e→(bU b).has e)
theorem jA {s:RS} {d:Dt} (h:dtEl d=none):hasD s d=false:=aL (by rintro ⟨e,h1,-⟩;rw[h] at h1;cases h1)
theorem jy {s:RS} {d:Dt} {e:El} (h:dtEl d=some e):hasD s d=tf ((bU s).has e):=by
 refine fT ⟨?_,fun k=>⟨e,h,k⟩⟩;rintro ⟨e',h1,h2⟩;rw[h] at h1;cases h1;exact h2
theorem sS {p:El→Prop} {r:RS} (k:ScIs p r) {d:Dt} {e:El} (h:dtEl d=some e):hasD r d=tf (p e):=by
 rw[jy h,jJ k.valid];exact fT (k.mem e)
theorem zX {d:Dt} {e:El} (h:dtEl d=some e):elOk e:=by
 cases e with
 | num u=>exact AZ h
 | _=>trivial
theorem Jp {r:RS} (k:ScIs elOk r) (d:Dt):hasD r d=tf (ofE d=0):=by
 cases h:dtEl d with
 | none=>rw[jA h,aL];rw[iI,h];rintro ⟨e,h⟩;cases h
 | some e=>rw[sS k h,aN (zX h),aN (iI.2 ⟨e,h⟩)]
theorem zW {s:RS} (h:gP (bU s).has none):nk s=true:=aN h
theorem sZ {s:RS} {e:El} (h:gP (bU s).has (some e)):nk s=false:=aL fun k=>k e h.1
theorem yx {a b r:RS} (k:ScIs (fun e=>(bU a).has e∧¬ (bU b).has e) r):nk r=subB a b:=by
 refine fT ?_;rw[jJ k.valid];constructor
 ·intro h e ha
  cases hb:tf ((bU b).has e) with
  | true=>exact yw.1 hb
  | false=>exact absurd ((k.mem e).2 ⟨ha,fun hh=>by rw[aN hh] at hb;cases hb⟩) (h e)
 ·intro h e he;obtain⟨h1,h2⟩:=(k.mem e).1 he;exact h2 (h e h1)
end Cl
namespace Cl
mutual
def cnt:Dt→Nat
 | .mk _ _ _ i _ d=>1+cntL i+cntL d
def cntL:List Dt→Nat
 | []=>0
 | x::r=>cnt x+cntL r
end
theorem Iu:∀d:Dt,1≤cnt d
 | .mk _ _ _ i _ d=>by simp only[cnt];omega
theorem uW:∀l:List Dt,l.length≤cntL l
 | []=>Nat.le_refl _
 | x::r=>by
  have h1:=Iu x;have h2:=uW r;simp only[cntL,List.length_cons];omega
theorem mD:∀(l:List Dt) (i:Nat) (h:i<l.length),cnt l[i]≤cntL l
 | x::r,0,_=>by simp only[cntL,List.getElem_cons_zero];omega
 | x::r,i+1,h=>by
  have:=mD r i (by simpa using h);simp only[cntL,List.getElem_cons_succ];omega
theorem OG (d:Dt):cnt d=1+cntL d.items+cntL d.bv:=by
 obtain⟨k,n,s,i,l,e⟩:=d
 rfl
theorem Ae (l:List Dt) (v k:Nat) (h:k<l.length):chkL (l.drop k) v=if chkD l[k] v≠0 then chkD l[k] v else chkL (l.drop (k+1)) v:=by
 rw[List.drop_eq_getElem_cons h,chkL]
theorem Bl (l:List ByteArray) (k:Nat) (h:k+1<l.length):twice (l.drop k)=(!Go.Op.bytesLess l[k].data.toList l[k+1].data.toList || twice (l.drop (k+1))):=by
 rw[List.drop_eq_getElem_cons zo,List.drop_eq_getElem_cons h,twice]
theorem D6 (l:List ByteArray) (k:Nat) (h:l.length≤k+1):twice (l.drop k)=false:=by
 by_cases e:k<l.length
 ·rw[List.drop_eq_getElem_cons e,List.drop_eq_nil_of_le h];rfl
 ·rw[List.drop_eq_nil_of_le zo];rfl
theorem Ot {x d:Dt} {e:El} (hd:dtEl d=some e) (hx:chkD x 1=0):dtEl x=some e↔x.kind=d.kind∧x.num=d.num∧x.str=d.str:=by
 have hd0:chkD d 1=0:=by
  refine Classical.byContradiction fun h=>?_;unfold dtEl at hd;rw[if_pos h] at hd;cases hd
 obtain⟨p1,p2,-⟩:=lG (qE hd0);obtain⟨q1,q2,-⟩:=lG (qE hx);obtain⟨a1,a2,a3,-,-⟩:=oP p1;obtain⟨b1,b2,b3,-,-⟩:=oP q1;have hs:∀s:ByteArray,s.size=0→s=⟨#[]⟩:=fun s h=>by
  obtain⟨a⟩:=s;have:a=#[]:=Array.eq_empty_of_size_eq_zero h;rw[this]
 have hstr:∀s t:ByteArray,s.data.toList=t.data.toList→s=t:=fun s t h=>by
  obtain⟨⟨a⟩⟩:=s;obtain⟨⟨b⟩⟩:=t;simp at h;rw[h]
 constructor
 ·intro h;unfold dtEl at h hd;rw[if_neg (by simp[hx])] at h;rw[if_neg (by simp[hd0])] at hd;have key:x.kind=d.kind∧(x.kind=2∨x.kind=3→x.num=d.num)∧(x.kind=4→x.str=d.str):=by
   by_cases c1:x.kind=1
   ·rw[if_pos c1] at h;cases h;by_cases d1:d.kind=1
    ·exact⟨zo,zo,zo⟩
    ·exfalso;revert hd;rw[if_neg d1];repeat' split
     all_goals simp
   ·rw[if_neg c1] at h;by_cases c2:x.kind=2
    ·rw[if_pos c2] at h;by_cases d1:d.kind=1
     ·rw[if_pos d1] at hd;cases hd;exfalso;split at h <;> cases h
     ·rw[if_neg d1] at hd;by_cases d2:d.kind=2
      ·rw[if_pos d2] at hd;refine ⟨zo,fun _=>?_,zo⟩;by_cases n1:x.num=0 <;> by_cases n2:d.num=0
       ·omega
       ·rw[if_pos n1] at h;rw[if_neg n2,← h] at hd;cases hd
       ·rw[if_neg n1] at h;rw[if_pos n2,← h] at hd;cases hd
       ·have y1:x.num=1:=by
         refine Classical.byContradiction fun y=>q2 (.inl ⟨c2,n1,y⟩)
        have y2:d.num=1:=by
         refine Classical.byContradiction fun y=>p2 (.inl ⟨d2,n2,y⟩)
        omega
      ·exfalso;rw[if_neg d2] at hd;rw[← h] at hd
       revert hd
       repeat' split
       all_goals simp
    ·rw[if_neg c2] at h;by_cases c3:x.kind=3
     ·rw[if_pos c3] at h;cases h;by_cases d3:d.kind=3
      ·rw[if_neg zo,if_neg zo,if_pos d3] at hd;injection hd with hd;injection hd with hd;exact⟨zo,fun _=>hd.symm,zo⟩
      ·exfalso;revert hd;rw[if_neg d3]
       repeat' split
       all_goals simp
     ·rw[if_neg c3] at h;by_cases c4:x.kind=4
      ·rw[if_pos c4] at h;cases h;by_cases d4:d.kind=4
       ·rw[if_neg zo,if_neg zo,if_neg zo,if_pos d4] at hd;injection hd with hd;injection hd with hd;exact⟨zo,zo,fun _=>(hstr _ _ hd).symm⟩
       ·exfalso;revert hd;rw[if_neg d4]
        repeat' split
        all_goals simp
      ·rw[if_neg c4] at h;cases h
  obtain⟨k1,k2,k3⟩:=key;refine ⟨k1,?_,?_⟩
  ·by_cases c:x.kind=2∨x.kind=3
   ·exact k2 c
   ·have:x.num=0:=zo;have:d.num=0:=zo;omega
  ·by_cases c:x.kind=4
   ·exact k3 c
   ·rw[hs x.str (b3.resolve_left c),hs d.str (a3.resolve_left zo)]
 ·rintro ⟨h1,h2,h3⟩;rw[← hd];unfold dtEl;have e1:¬ chkD x 1≠0:=fun h=>h hx;have e2:¬ chkD d 1≠0:=fun h=>h hd0;rw[if_neg e1,if_neg e2,h1,h2,h3]
end Cl
namespace Cl
theorem II {p:El→Prop} (h:∀e,p e↔∃u,e=.num u∧bP u∧50000<u∧u % 10000=0):gP p (some (.num 60000)):=by
 refine ⟨(h _).2 ⟨60000,rfl,by simp[bP,maxU],zo,zo⟩,fun e he=>?_⟩;obtain⟨u,rfl,h1,h2,h3⟩:=(h e).1 he;by_cases e:u=60000
 ·exact .inl (by rw[e])
 ·right;show near 60000 u;unfold near;omega
theorem RN:¬ Canon [⟨false,[]⟩]:=fun h=>by
 have hl:∀x,aJ [⟨false,[]⟩] 0 x=aJ [] 0 x:=fun x=>by
  rw[dC];show aJ [⟨false,[]⟩] 0 x=false
  cases x with
  | nil=>rfl
  | cons a r=>exact dD (l:=[⟨false,[]⟩]) (s := -1) zD r
 have:=lQ h eu hl;cases this
end Cl
namespace Cl
theorem KV (l:List Spn) (k:Nat) (h:k<l.length):oD (l.take (k+1))=oD (l.take k) ++ if (nW l[k]).1≤(nW l[k]).2 then [nW l[k]] else []:=by
 rw[List.take_succ_eq_append_getElem h];unfold oD;rw[List.map_append,List.filter_append]
 congr 1
 by_cases hc:(nW l[k]).1≤(nW l[k]).2 <;> simp[hc]
theorem BS (l:List Spn) (k:Nat) (h:k<l.length):kX (l.take (k+1))=kX (l.take k) ++ if (jD l[k]).1≤(jD l[k]).2 then [jD l[k]] else []:=by
 rw[List.take_succ_eq_append_getElem h];unfold kX;rw[List.map_append,List.filter_append]
 congr 1
 by_cases hc:(jD l[k]).1≤(jD l[k]).2 <;> simp[hc]
theorem KZ (nx:Int→Int) (p:List Spn) (k:Nat) (h:k<p.length) (t:Spn) (r:List Spn) :
 kL nx (p.drop k) (t::r)=if p[k].1≤nx t.2 then kL nx (p.drop (k+1)) ((t.1,max t.2 p[k].2)::r) else kL nx (p.drop (k+1)) (p[k]::t::r):=by
 rw[List.drop_eq_getElem_cons h,kL]
theorem Ib (nx:Int→Int) (p:List Spn) (k:Nat) (h:k<p.length):kL nx (p.drop k) []=kL nx (p.drop (k+1)) [p[k]]:=by
 rw[List.drop_eq_getElem_cons h,kL]
theorem Nz (x:Spn) (b:List Spn) (k:Nat) (h:k<b.length) :
 ((b.take (k+1)).map (ma x)).filter (fun z=>decide (z.1≤z.2))=((b.take k).map (ma x)).filter (fun z=>decide (z.1≤z.2)) ++ if (ma x b[k]).1≤(ma x b[k]).2 then [ma x b[k]] else []:=by
 rw[List.take_succ_eq_append_getElem h,List.map_append,List.filter_append]
 congr 1
 by_cases hc:(ma x b[k]).1≤(ma x b[k]).2 <;> simp[hc]
theorem Ir (a b:List Spn) (k:Nat) (h:k<a.length):eZ (a.take (k+1)) b=eZ (a.take k) b ++ (b.map (ma a[k])).filter fun z=>decide (z.1≤z.2):=by
 rw[List.take_succ_eq_append_getElem h];unfold eZ;rw[List.flatMap_append];simp
theorem oJ:∀(l r:List Int) (b:Option Int),gL (l ++ r) b=gL r (gL l b)
 | [],r,b=>rfl
 | u::l,r,none=>by simp only[List.cons_append,gL];exact oJ l r _
 | u::l,r,some b=>by simp only[List.cons_append,gL];exact oJ l r _
theorem KW {l:List Spn}:∀s∈oD l,-ig≤s.1∧s.2≤ig∧s.1≤s.2:=fun s h=>by
 have h1:=Jk s h;obtain⟨t,-,rfl⟩:=List.mem_map.1 (List.mem_filter.1 h).1;unfold nW at *
 simp only[ig] at *
 omega
theorem BU {l:List Spn}:∀s∈kX l,-maxU - 1≤s.1∧s.2≤maxU+1∧s.1≤s.2:=fun s h=>by
 have h1:=Jm s h;obtain⟨t,-,e⟩:=List.mem_map.1 (List.mem_filter.1 h).1;have e1:s.1=if (max t.1 (-maxU)) % 10000=0 then max t.1 (-maxU)+1 else max t.1 (-maxU):=by rw[← e];rfl
 have e2:s.2=if (min t.2 maxU) % 10000=0 then min t.2 maxU - 1 else min t.2 maxU:=by rw[← e];rfl
 have b1:s.1=max t.1 (-maxU)+1∨s.1=max t.1 (-maxU):=by rw[e1];split <;> simp
 have b2:s.2=min t.2 maxU - 1∨s.2=min t.2 maxU:=by rw[e2];split <;> simp
 simp only[maxU] at *
 omega
end Cl
namespace Cl
theorem La (nx pv:Int→Int) (l:List Spn) (k:Nat) (h:k<l.length) (lo hi:Int):iE nx pv (l.drop k) lo hi=(if lo≤pv l[k].1 then [(lo,pv l[k].1)] else []) ++ iE nx pv (l.drop (k+1)) (nx l[k].2) hi:=by
 rw[List.drop_eq_getElem_cons h,iE]
end Cl
namespace Cl
def rH (s:Spn):Prop:=s.1≤s.2 → -1000000000000002≤s.1∧s.2≤1000000000000002
theorem rH.take {l:List Spn} (h:∀s∈l,rH s) (k:Nat):∀s∈l.take k,rH s:=fun s hs=>h s (List.mem_of_mem_take hs)
end Cl
namespace Cl
def aT (p:Nat→Bool):List Nat:=(List.range 256).filter p
def loOf (c:List Nat) (i:Nat):Nat:=c.getD i 0
def hiOf (c:List Nat) (i:Nat):Nat:=if i+1<c.length then c.getD (i+1) 0 - 1 else 255
theorem j4 {p:Nat→Bool} {i j:Nat} (hij:i<j) (hj:j<(aT p).length):(aT p).getD i 0<(aT p).getD j 0:=by
 have h:(aT p).Pairwise (·<·):=List.pairwise_lt_range.filter p;have:=List.pairwise_iff_getElem.1 h i j zo hj hij;simpa [hj,Nat.lt_trans hij hj] using this
theorem Aa {p:Nat→Bool} {i:Nat} (hi:i<(aT p).length):(aT p).getD i 0<256∧p ((aT p).getD i 0)=true:=by
 have:(aT p).getD i 0∈aT p:=by simp[hi]
 simpa [aT] using this
theorem z8 {p:Nat→Bool} {b:Nat} (hb:b<256) (hp:p b=true):∃j,j<(aT p).length∧(aT p).getD j 0=b:=by
 have:b∈aT p:=by simp[aT,hb,hp]
 obtain⟨j,hj,e⟩:=List.mem_iff_getElem.1 this;exact⟨j,hj,by simp[hj,e]⟩
theorem Fg {p:Nat→Bool} (h0:p 0=true):Ivs (loOf (aT p)) (hiOf (aT p)) (aT p).length ∧
 ∀i,i<(aT p).length→∀b,loOf (aT p) i<b→b≤hiOf (aT p) i→p b=false:=by
 have hle:∀i,i<(aT p).length→loOf (aT p) i≤hiOf (aT p) i∧hiOf (aT p) i<256:=by
  intro i hi;unfold loOf hiOf;have:=Aa hi
  split
  ·rename_i h;have:=j4 (show i<i+1 by omega) h;have:=(Aa h).1;omega
  ·omega
 refine ⟨⟨hle,?_,?_⟩,?_⟩
 ·intro i j hij hj;unfold loOf hiOf;rw[if_pos zo];have h1:=j4 (show i<i+1 by omega) (show i+1<(aT p).length by omega);by_cases c:i+1=j
  ·subst c;omega
  ·have h2:=j4 (p:=p) (show i+1<j by omega) hj;omega
 ·intro b
  induction b with
  | zero=>
   intro _;obtain⟨j,hj,e⟩:=z8 zo h0
   exact⟨j,hj,by unfold loOf;omega,zo⟩
  | succ b ih=>
   intro hb;obtain⟨i,hi,h1,h2⟩:=ih zo;by_cases c:b+1≤hiOf (aT p) i
   ·exact⟨i,hi,zo,c⟩
   ·have e:hiOf (aT p) i=b:=zo;unfold hiOf at e
    split at e
    ·rename_i h;have:=j4 (show i<i+1 by omega) h;have hh:=hle (i+1) h;have:loOf (aT p) (i+1)=b+1:=by unfold loOf;omega
     exact⟨i+1,h,zo,zo⟩
    ·omega
 ·intro i hi b h1 h2
  cases hp:p b with
  | false=>rfl
  | true=>
   have hb:b<256:=by have:=(hle i hi).2;omega
   obtain⟨j,hj,e⟩:=z8 hb hp;unfold loOf at h1;have hij:i<j:=by
    rcases Nat.lt_trichotomy i j with c | c | c
    ·exact c
    ·subst c;omega
    ·have:=j4 c hi;omega
   unfold hiOf at h2;rw[if_pos zo] at h2;have h3:=j4 (show i<i+1 by omega) (show i+1<(aT p).length by omega);by_cases c:i+1=j
   ·subst c;omega
   ·have:=j4 (p:=p) (show i+1<j by omega) hj;omega
theorem Ii {es:List Ed} {a b:Nat} (hab:a≤b) (h:∀c,a<c→c≤b→∀e∈es,e.lo≠c∧e.hi+1≠c):bu es b=bu es a:=by
 induction es with
 | nil=>rfl
 | cons e es ih=>
  have ih:=ih fun c h1 h2 x hx=>h c h1 h2 x (by simp[hx]);simp only[bu];by_cases c:e.lo≤a∧a≤e.hi
  ·rw[if_pos c,if_pos];refine ⟨zo,?_⟩;apply Nat.le_of_not_lt;intro d;exact (h (e.hi+1) zo zo e zS).2 rfl
  ·rw[if_neg c];by_cases d:e.lo≤b∧b≤e.hi
   ·exfalso;by_cases f:e.lo≤a
    ·omega
    ·exact (h e.lo zo zo e zS).1 rfl
   ·rw[if_neg d];exact ih
def Marks (l:Table) (p:Nat→Bool):Prop:=p 0=true∧∀s∈l,∀e∈s.edges,∀b,b<256→(e.lo=b∨e.hi+1=b)→p b=true
theorem kQ {l:Table} {p:Nat→Bool} (hp:Marks l p) {i b:Nat} (hi:i<(aT p).length) (h1:loOf (aT p) i≤b) (h2:b≤hiOf (aT p) i) (s:Int) :
 bL l s b=bL l s (loOf (aT p) i):=by
 obtain⟨hI,hg⟩:=Fg hp.1;by_cases c:s<0
 ·rw[kg c,kg c]
 ·by_cases d:s<l.length
  ·obtain⟨k,rfl⟩:=Int.eq_ofNat_of_zero_le (by omega:0≤s);rw[dY l k _ zo,dY l k _ zo];apply Ii h1;intro c hc1 hc2 e he;have hf:=hg i hi c hc1 zo;have hc256:c<256:=by have:=(hI.le i hi).2;omega
   refine ⟨fun e1=>?_,fun e1=>?_⟩
   ·rw[hp.2 _ (List.getElem_mem zo) e he c hc256 (.inl e1)] at hf;cases hf
   ·rw[hp.2 _ (List.getElem_mem zo) e he c hc256 (.inr e1)] at hf;cases hf
  ·rw[fB l s _ zo,fB l s _ zo]
def snk (n:Nat) (x:Int):Int:=if x<0 then n else x
theorem CB {l:Table} (_:WF l) (s:Int) (b:Nat) (w:List UInt8):aJ l (snk l.length (bL l s b)) w=aJ l (bL l s b) w:=by
 unfold snk
 split
 ·rename_i h;rw[iF l _ w (Int.le_refl _),dD h]
 ·rfl
theorem Gq {l:Table} (hw:WF l) (s:Int) (b:Nat):0≤snk l.length (bL l s b)∧snk l.length (bL l s b)≤l.length:=by
 unfold snk;rcases fQ hw s b with h | h
 ·rw[h];simp
 ·rw[if_neg zo];omega
theorem Gn {l:Table} (hw:WF l) {p:Nat→Bool} (hp:Marks l p) :
 Gb l (l.length+1) (loOf (aT p)) (hiOf (aT p)) (aT p).length (fun s i=>snk l.length (bL l s (loOf (aT p) i))):=by
 refine ⟨(Fg hp.1).1,fun s i hs hi=>?_,fun s i hs hi b h1 h2 w=>?_,fun s t i hs ht hi h=>?_⟩
 ·have:=Gq hw s (loOf (aT p) i);omega
 ·rw[kQ hp hi h1 h2,CB hw]
 ·have:=Gq hw s (loOf (aT p) i);omega
def Lv (l:Table) (s:Int):Prop:=∃w,aJ l s w=true
theorem F6 {l:Table} (hw:WF l) {p:Nat→Bool} (hp:Marks l p) {cls:List Int} (hc:wJ l (l.length+1) cls) {lives:Nat→Bool}
 (hl:∀s:Nat,s<l.length+1→(lives (cls.getD s 0).toNat=true↔Lv l s)) {ac:Nat→Bool} (ha:∀s:Nat,s<l.length+1→ac s=bG l s) (h0:Lv l 0) :
 rY l (l.length+1) (fun s=>cls.getD s 0)
  (fun s i=>if lives (cls.getD (snk l.length (bL l s (loOf (aT p) i))).toNat 0).toNat=true then some (snk l.length (bL l s (loOf (aT p) i))).toNat else none)
  (loOf (aT p)) (hiOf (aT p)) ac (aT p).length:=by
 have R:=fun (s i:Nat)=>Gq hw s (loOf (aT p) i);have E:=fun (s i:Nat)=>Int.toNat_of_nonneg (R s i).1;refine ⟨(Fg hp.1).1,zo,fun s i t hs hi h=>?_,fun s i hs hi h b h1 h2 w=>?_,fun s t hs ht=>hc.eq s t hs ht,fun s hs=>ha s hs,h0⟩
 ·simp only[Option.ite_none_right_eq_some,Option.some.injEq] at h;obtain⟨h1,h2⟩:=h;have r:=R s i;have e:=E s i;have ht:t<l.length+1:=zo;rw[h2] at h1 e;refine ⟨ht,(hl t ht).1 h1,fun b b1 b2 w=>?_⟩;rw[kQ hp hi b1 b2,← CB hw,← e]
 ·simp only[ite_eq_right_iff,reduceCtorEq,imp_false] at h;have r:=R s i;have e:=E s i;rw[kQ hp hi h1 h2,← CB hw,← e];rw[hl _ zo] at h
  cases hx:aJ l ((snk l.length (bL l s (loOf (aT p) i))).toNat:Int) w with
  | false=>rfl
  | true=>exact absurd ⟨w,hx⟩ h
end Cl
namespace Cl
theorem xx {cf:Nat→Int} {o:List Nat} (h:Dif cf o):o.Nodup:=List.Pairwise.imp (fun hab e=>hab (by rw[e])) h
theorem nV {cf:Nat→Int} {o:List Nat} {N:Nat} (h:Dif cf o) (hl:∀x∈o,x<N):o.length≤N:=by
 have:=lK o (List.range N) (xx h) (fun x hx=>List.mem_range.2 (hl x hx));simpa using this
def posC (cf:Nat→Int) (o:List Nat) (c:Int):Nat:=o.findIdx fun s=>cf s==c
theorem GN (cf:Nat→Int) (o:List Nat) (t:Nat):posC cf o (cf t)=eX cf o t:=rfl
theorem PG (cf:Nat→Int) (o:List Nat) (t:Nat) (c:Int):posC cf (o ++ [t]) c=if posC cf o c<o.length then posC cf o c else if cf t=c then o.length else o.length+1:=by
 unfold posC;rw[List.findIdx_append]
 split
 ·rfl
 ·by_cases h:cf t=c
  ·simp[h]
  ·simp[h];omega
theorem BB {fs:List Ed} {e:Ed} {lo hi to:Nat} (h:¬ (e.to=to∧e.hi+1=lo)):kN (fs ++ [e]) lo hi to=(fs ++ [e]) ++ [⟨lo,hi,to⟩]:=by
 unfold kN;simp[h]
theorem BA {fs:List Ed} {e:Ed} {lo hi to:Nat} (h:e.to=to∧e.hi+1=lo):kN (fs ++ [e]) lo hi to=fs ++ [⟨e.lo,hi,e.to⟩]:=by
 unfold kN;simp[h]
theorem Kv (es:List Ed) (lo hi to:Nat):(kN es lo hi to).length≤es.length+1:=by
 unfold kN
 split
 ·split <;> simp
 ·simp
theorem Er (cf:Nat→Int) (dl:Nat→Nat→Option Nat) (lo hi:Nat→Nat) (s:Nat) (o:List Nat):∀i,(dG cf dl lo hi s o i).2.length≤i:=by
 intro i
 induction i with
 | zero=>simp[dG]
 | succ i ih=>
  simp only[dG]
  split
  ·omega
  ·have:=Kv (dG cf dl lo hi s o i).2 (lo i) (hi i) (eX cf (dG cf dl lo hi s o i).1 (by assumption));simp only;omega
theorem Br {cf:Nat→Int} {dl:Nat→Nat→Option Nat} {lo hi:Nat→Nat} {s:Nat} {o:List Nat} {i:Nat} (h:dl s i=none):dG cf dl lo hi s o (i+1)=dG cf dl lo hi s o i:=by simp[dG,h]
theorem Bq {cf:Nat→Int} {dl:Nat→Nat→Option Nat} {lo hi:Nat→Nat} {s:Nat} {o:List Nat} {i t:Nat} (h:dl s i=some t) :
 dG cf dl lo hi s o (i+1)=(dQ cf (dG cf dl lo hi s o i).1 t,kN (dG cf dl lo hi s o i).2 (lo i) (hi i) (eX cf (dG cf dl lo hi s o i).1 t)):=by simp[dG,h]
theorem xS {cf:Nat→Int} {dl:Nat→Nat→Option Nat} {lo hi:Nat→Nat} {K N s:Nat} {o:List Nat} {i:Nat} {r:List Nat × List Ed} (h:JI cf dl lo hi K N s o i r) (hN:N≤2000000) :
 ∀e∈r.2,e.lo<256∧e.hi<256 ∧ -9223372036854775808≤e.to∧e.to≤9223372036854775807:=by
 intro e he;have h1:=h.bytes e he;have h2:=fO h.wf e he;have h3:=nV h.dif h.lt;exact⟨h1.1,h1.2,zo,zo⟩
end Cl
