/- Lemmas for the proofs of chapter 11. -/
import Derived.WalkKit
import Derived.Test.YtdgjplfcpcphoaaGreatDoorZz
import Derived.Test.YtdgjplfcpcphoaaGreatDoorPkV1
set_option maxRecDepth 100000
set_option maxHeartbeats 16000000
namespace Cl
theorem iq:Canon []:=
 ⟨fun s hs=>by simp at hs,fun s hs=>by simp at hs,fun s hs=>by simp at hs,fun k hk=>by simp at hk,fun i j hi=>by simp at hi,fun k b t hb ht=>by
  rw[df [] k b zS] at ht;omega,fun t h1 h2=>by simp at h2⟩
theorem gZ (x:List UInt8):aF [] 0 x=false:=d9 [] 0 x zS
def lex:List UInt8→List UInt8→Prop
 | [],[]=>False
 | [],_::_=>True
 | _::_,[]=>False
 | a::u,b::v=>a<b∨a=b∧lex u v
def slt (u v:List UInt8):Prop:=u.length<v.length∨u.length=v.length∧lex u v
theorem wh:∀u:List UInt8,¬ lex u u
 | [],h=>h
 | _::u,h=>h.elim (fun h=>by simp at h) (fun h=>wh u h.2)
theorem Kw {a b c:UInt8} (h:a<b) (k:b<c):a<c:=UInt8.lt_trans h k
theorem zV:∀{u v x:List UInt8},lex u v→lex v x→lex u x
 | [],[],_,h,_=>h.elim
 | [],_::_,[],_,k=>k.elim
 | [],_::_,_::_,_,_=>trivial
 | _::_,[],_,h,_=>h.elim
 | _::_,_::_,[],_,k=>k.elim
 | a::u,b::v,c::x,h,k=>by
  rcases h with h | ⟨rfl,h⟩
  ·rcases k with k | ⟨rfl,k⟩
   ·exact .inl (Kw h k)
   ·exact .inl h
  ·rcases k with k | ⟨rfl,k⟩
   ·exact .inl k
   ·exact .inr ⟨rfl,zV h k⟩
theorem zW:∀u v:List UInt8,lex u v∨u=v∨lex v u
 | [],[]=>.inr (.inl rfl)
 | [],_::_=>.inl trivial
 | _::_,[]=>.inr (.inr trivial)
 | a::u,b::v=>by
  rcases Nat.lt_trichotomy a.toNat b.toNat with h | h | h
  ·exact .inl (.inl (UInt8.lt_iff_toNat_lt.2 h))
  ·obtain rfl:a=b:=UInt8.toNat_inj.1 h;rcases zW u v with h | h | h
   ·exact .inl (.inr ⟨rfl,h⟩)
   ·exact .inr (.inl (by rw[h]))
   ·exact .inr (.inr (.inr ⟨rfl,h⟩))
  ·exact .inr (.inr (.inl (UInt8.lt_iff_toNat_lt.2 h)))
theorem jA (u:List UInt8):¬ slt u u:=fun h=>h.elim (fun h=>zo) (fun h=>wh u h.2)
theorem yX {u v x:List UInt8} (h:slt u v) (k:slt v x):slt u x:=by
 rcases h with h | ⟨h,h'⟩ <;> rcases k with k | ⟨k,k'⟩
 ·exact .inl zo
 ·exact .inl zo
 ·exact .inl zo
 ·exact .inr ⟨zo,zV h' k'⟩
theorem rY (u v:List UInt8):slt u v∨u=v∨slt v u:=by
 rcases Nat.lt_trichotomy u.length v.length with h | h | h
 ·exact .inl (.inl h)
 ·rcases zW u v with k | k | k
  ·exact .inl (.inr ⟨h,k⟩)
  ·exact .inr (.inl k)
  ·exact .inr (.inr (.inr ⟨h.symm,k⟩))
 ·exact .inr (.inr (.inl h))
theorem yY {u v:List UInt8} (h:slt u v) (k:slt v u):False:=jA u (yX h k)
structure fQ (f:List UInt8→Bool) (k:Nat) (r:List (List UInt8)):Prop where
 sorted:r.Pairwise slt
 mem:∀x∈r,f x=true
 le:r.length≤k
 rest:∀y,f y=true→y ∉ r→r.length=k∧∀x∈r,slt x y
theorem NN {a b:List UInt8} (h:slt a b):a≠b:=fun e=>jA a (by rw[← e] at h;exact h)
theorem qy {r:List (List UInt8)} (h:r.Pairwise slt):r.Nodup:=h.imp NN
theorem vE:∀{r t:List (List UInt8)},r.Pairwise slt→t.Pairwise slt→(∀x,x∈r↔x∈t)→r=t
 | [],[],_,_,_=>rfl
 | [],b::t,_,_,h=>absurd ((h b).2 zS) zS
 | a::r,[],_,_,h=>absurd ((h a).1 zS) zS
 | a::r,b::t,h1,h2,h=>by
  have k1:=List.pairwise_cons.1 h1;have k2:=List.pairwise_cons.1 h2;have e:a=b:=by
   rcases List.mem_cons.1 ((h a).1 zS) with h3 | h3
   ·exact h3
   ·rcases List.mem_cons.1 ((h b).2 zS) with h4 | h4
    ·exact h4.symm
    ·exact (yY (k2.1 a h3) (k1.1 b h4)).elim
  subst e;rw[vE k1.2 k2.2 fun x=>?_];constructor
  ·intro hx;rcases List.mem_cons.1 ((h x).1 (List.mem_cons_of_mem _ hx)) with h3 | h3
   ·subst h3;exact (jA _ (k1.1 _ hx)).elim
   ·exact h3
  ·intro hx;rcases List.mem_cons.1 ((h x).2 (List.mem_cons_of_mem _ hx)) with h3 | h3
   ·subst h3;exact (jA _ (k2.1 _ hx)).elim
   ·exact h3
theorem Ao {f:List UInt8→Bool} {k:Nat} {r t:List (List UInt8)} (h:fQ f k r) (h':fQ f k t):∀x∈r,x∈t:=by
 intro x hx;apply Classical.byContradiction;intro hn;obtain⟨h1,h2⟩:=h'.rest x (h.mem x hx) hn;have hsub:∀y∈t,y∈r:=by
  intro y hy;apply Classical.byContradiction;intro hm;obtain⟨-,h4⟩:=h.rest y (h'.mem y hy) hm;exact yY (h4 x hx) (h2 y hy)
 have hc:=gJ (x::t) r (List.nodup_cons.2 ⟨hn,qy h'.sorted⟩) (by
  intro y hy;rcases List.mem_cons.1 hy with rfl | hy
  ·exact hx
  ·exact hsub y hy)
 have:=h.le;simp only[List.length_cons] at hc;omega
theorem Am {f:List UInt8→Bool} {k:Nat} {r t:List (List UInt8)} (h:fQ f k r) (h':fQ f k t):r=t:=
 vE h.sorted h'.sorted fun x=>⟨Ao h h' x,Ao h' h x⟩
theorem fQ.congr {f g:List UInt8→Bool} {k:Nat} {r:List (List UInt8)} (h:fQ f k r) (e:∀w,f w=g w):fQ g k r:=by
 have:f=g:=funext e;rw[← this];exact h
def wex (l:Table):Nat→Int→List (List UInt8)
 | 0,s=>if dP l s then [[]] else []
 | n+1,s=>(List.range 256).flatMap fun b=>(wex l n (aV l s b)).map (UInt8.ofNat b::·)
theorem Ol (b:UInt8):UInt8.ofNat b.toNat=b:=by simp
theorem jv (l:Table):∀(n:Nat) (s:Int) (w:List UInt8),w∈wex l n s↔w.length=n∧aF l s w=true
 | 0,s,w=>by
  unfold wex
  cases w with
  | nil=>by_cases h:dP l s=true <;> simp[h,aF]
  | cons a w=>by_cases h:dP l s=true <;> simp[h]
 | n+1,s,w=>by
  unfold wex;simp only[List.mem_flatMap,List.mem_range,List.mem_map];constructor
  ·rintro ⟨b,hb,v,hv,rfl⟩;obtain⟨h1,h2⟩:=(jv l n _ v).1 hv;refine ⟨by simp[h1],?_⟩;simp only[aF];rw[show (UInt8.ofNat b).toNat=b by simp;omega];exact h2
  ·rintro ⟨h1,h2⟩
   cases w with
   | nil=>simp at h1
   | cons b v=>
    refine ⟨b.toNat,b.toNat_lt,v,(jv l n _ v).2 ⟨by simpa using h1,h2⟩,by rw[Ol]⟩
theorem nG {α:Type} {R:α→α→Prop} (f:Nat→List α):∀(l:List Nat),l.Pairwise (·<·)→(∀b∈l,(f b).Pairwise R)→(∀b∈l,∀c∈l,b<c→∀x∈f b,∀y∈f c,R x y)→(l.flatMap f).Pairwise R
 | [],_,_,_=>.nil
 | b::l,h,h1,h2=>by
  have k:=List.pairwise_cons.1 h;rw[List.flatMap_cons,List.pairwise_append];refine ⟨h1 b zS,nG f l k.2 (fun c hc=>h1 c (by simp[hc])) (fun c hc d hd=>h2 c (by simp[hc]) d (by simp[hd])),?_⟩;intro x hx y hy;obtain⟨c,hc,hy⟩:=List.mem_flatMap.1 hy;exact h2 b zS c (by simp[hc]) (k.1 c hc) x hx y hy
theorem vw (l:Table):∀(n:Nat) (s:Int),(wex l n s).Pairwise slt
 | 0,s=>by
  unfold wex
  split <;> simp
 | n+1,s=>by
  unfold wex;refine nG _ _ List.pairwise_lt_range ?_ ?_
  ·intro b _;rw[List.pairwise_map];refine (vw l n _).imp fun {u v} h=>?_;rcases h with h | ⟨h1,h2⟩
   ·exact .inl (by simp[h])
   ·exact .inr ⟨by simp[h1],.inr ⟨rfl,h2⟩⟩
  ·intro b hb c hc hbc x hx y hy;obtain⟨u,hu,rfl⟩:=List.mem_map.1 hx;obtain⟨v,hv,rfl⟩:=List.mem_map.1 hy;have h1:=((jv l n _ u).1 hu).1;have h2:=((jv l n _ v).1 hv).1;have hb:=List.mem_range.1 hb;have hc:=List.mem_range.1 hc;refine .inr ⟨by simp[h1,h2],.inl (UInt8.lt_iff_toNat_lt.2 ?_)⟩;simp only[UInt8.toNat_ofNat'];omega
def enum (l:Table) (s:Int) (L:Nat):List (List UInt8):=(List.range L).flatMap fun n=>wex l n s
theorem jg (l:Table) (s:Int) (L:Nat) (w:List UInt8):w∈enum l s L↔w.length<L∧aF l s w=true:=by
 unfold enum;simp only[List.mem_flatMap,List.mem_range,jv];exact⟨fun ⟨n,h1,h2,h3⟩=>⟨zo,h3⟩,fun ⟨h1,h2⟩=>⟨_,h1,rfl,h2⟩⟩
theorem tV (l:Table) (s:Int) (L:Nat):(enum l s L).Pairwise slt:=by
 refine nG _ _ List.pairwise_lt_range (fun b _=>vw l b s) ?_;intro b _ c _ hbc x hx y hy;have h1:=((jv l _ _ _).1 hx).1;have h2:=((jv l _ _ _).1 hy).1;exact .inl zo
theorem Au (l:Table) (s:Int) (L:Nat):enum l s (L+1)=enum l s L ++ wex l L s:=by
 unfold enum;rw[List.range_succ,List.flatMap_append];simp
theorem pU {l:Table} {s:Int} {L k:Nat} (h:k≤(enum l s L).length∨∀y,aF l s y=true→y.length<L):fQ (aF l s) k ((enum l s L).take k):=by
 have hs:=tV l s L;refine ⟨hs.sublist (List.take_sublist _ _),fun x hx=>((jg l s L x).1 (List.mem_of_mem_take hx)).2,List.length_take_le _ _,?_⟩;intro y hy hn;by_cases hm:y∈enum l s L
 ·have hd:y∈(enum l s L).drop k:=by
   rw[← List.take_append_drop k (enum l s L)] at hm;rcases List.mem_append.1 hm with h1 | h1
   ·exact absurd h1 hn
   ·exact h1
  refine ⟨?_,fun x hx=>?_⟩
  ·rw[List.length_take];have:k<(enum l s L).length:=by
    apply Classical.byContradiction;intro hk;rw[List.drop_eq_nil_of_le zo] at hd;simp at hd
   omega
  ·rw[← List.take_append_drop k (enum l s L),List.pairwise_append] at hs;exact hs.2.2 x hx y hd
 ·have hL:¬ y.length<L:=fun h1=>hm ((jg l s L y).2 ⟨h1,hy⟩);rcases h with h | h
  ·refine ⟨by rw[List.length_take];omega,fun x hx=>.inl ?_⟩;have:=((jg l s L x).1 (List.mem_of_mem_take hx)).1;omega
  ·exact absurd (h y hy) hL
def sw (l:Table):Int→List UInt8→Int
 | s,[]=>s
 | s,b::w=>sw l (aV l s b.toNat) w
theorem iY (l:Table):∀(u v:List UInt8) (s:Int),aF l s (u ++ v)=aF l (sw l s u) v
 | [],_,_=>rfl
 | _::u,v,_=>iY l u v _
theorem ku {l:Table} {s:Int} {w:List UInt8} (h:aF l s w=true):0≤s∧s<l.length:=by
 constructor
 ·apply Classical.byContradiction;intro hn;rw[bK zo] at h;cases h
 ·apply Classical.byContradiction;intro hn;rw[d9 l s w zo] at h;cases h
theorem wV {l:Table} {s:Int} {y:List UInt8} (h:aF l s y=true) (i:Nat):0≤sw l s (y.take i)∧sw l s (y.take i)<l.length:=by
 refine ku (w:=y.drop i) ?_;rw[← iY,List.take_append_drop];exact h
theorem pump {l:Table} {s:Int} {y:List UInt8} (h:aF l s y=true) (hn:l.length≤y.length):∃y',aF l s y'=true∧y'.length<y.length∧y.length≤y'.length+l.length:=by
 have hnd:¬ ((List.range (l.length+1)).map fun i=>(sw l s (y.take i)).toNat).Nodup:=by
  intro hnd;have:=gJ _ (List.range l.length) hnd (by
   intro x hx;obtain⟨i,-,rfl⟩:=List.mem_map.1 hx;have:=wV h i;rw[List.mem_range];omega)
  simp at this;omega
 have hex:∃i j,i<j∧j≤l.length∧sw l s (y.take i)=sw l s (y.take j):=by
  apply Classical.byContradiction;intro hno;apply hnd;rw[List.Nodup,List.pairwise_map];refine (List.pairwise_lt_range (n:=l.length+1)).imp_of_mem fun {i j} hi hj hij e=>hno ⟨i,j,hij,?_,?_⟩
  ·have:=List.mem_range.1 hj;omega
  ·have h1:=wV h i;have h2:=wV h j;omega
 obtain⟨i,j,hij,hj,e⟩:=hex;refine ⟨y.take i ++ y.drop j,?_,?_,?_⟩
 ·rw[iY,e,← iY,List.take_append_drop];exact h
 ·simp;omega
 ·simp;omega
theorem window {l:Table} {s:Int} (t:Nat):∀(N:Nat) (y:List UInt8),y.length≤N→aF l s y=true→t≤y.length→∃y',aF l s y'=true∧t≤y'.length∧y'.length<t+l.length
 | 0,y,hN,h,ht=>⟨y,h,ht,by have:=ku h;omega⟩
 | N+1,y,hN,h,ht=>by
  by_cases hy:y.length<t+l.length
  ·exact⟨y,h,ht,hy⟩
  ·obtain⟨y',h1,h2,h3⟩:=pump h zo;exact window t N y' zo h1 zo
theorem Av {l:Table} {s:Int} {L L':Nat} (h:L≤L'):(enum l s L).length≤(enum l s L').length:=by
 induction h with
 | refl=>exact Nat.le_refl _
 | step _ ih=>rw[Au,List.length_append];omega
theorem tX {l:Table} {s:Int} {y:List UInt8} (h:aF l s y=true):∀c,c*l.length≤y.length→c≤(enum l s (c*l.length)).length
 | 0,_=>Nat.zero_le _
 | c+1,hc=>by
  have e:(c+1)*l.length=c*l.length+l.length:=Nat.succ_mul _ _;have ih:=tX h c zo;obtain⟨y',h1,h2,h3⟩:=window (c*l.length) _ y (Nat.le_refl _) h zo;have h4:y'∈enum l s ((c+1)*l.length):=(jg _ _ _ _).2 ⟨zo,h1⟩;have h5:y' ∉ enum l s (c*l.length):=fun hm=>by have:=((jg _ _ _ _).1 hm).1;omega
  have:=gJ (y'::enum l s (c*l.length)) (enum l s ((c+1)*l.length)) (List.nodup_cons.2 ⟨h5,qy (tV _ _ _)⟩) (by
   intro x hx;rcases List.mem_cons.1 hx with rfl | hx
   ·exact h4
   ·obtain⟨g1,g2⟩:=(jg _ _ _ _).1 hx;exact (jg _ _ _ _).2 ⟨zo,g2⟩)
  simp only[List.length_cons] at this;omega
theorem Gr {l:Table} {s:Int} {k L:Nat} (hL:k*l.length≤L):fQ (aF l s) k ((enum l s L).take k):=by
 apply pU;by_cases h:∃y,aF l s y=true∧L≤y.length
 ·obtain⟨y,h1,h2⟩:=h;have h3:=tX h1 k zo;exact .inl (Nat.le_trans h3 (Av hL))
 ·exact .inr fun y hy=>by
   apply Classical.byContradiction;intro hn;exact h ⟨y,hy,zo⟩
end Cl
namespace Cl
def lH (f:List UInt8→Bool):Option (List UInt8)→Prop
 | none=>∀y,f y=false
 | some x=>f x=true∧∀y,f y=true→y=x∨slt x y
theorem Cu {f:List UInt8→Bool} {r:List (List UInt8)} (h:fQ f 1 r):lH f r.head?:=by
 cases r with
 | nil=>
  intro y
  cases hy:f y with
  | false=>rfl
  | true=>have:=(h.rest y hy zS).1;simp at this
 | cons x r=>
  refine ⟨h.mem x zS,fun y hy=>?_⟩;by_cases hm:y∈x::r
  ·have:=h.le;simp only[List.length_cons] at this;have hr:r=[]:=List.eq_nil_of_length_eq_zero zo;subst hr;exact .inl (by simpa using hm)
  ·exact .inr ((h.rest y hy hm).2 x zS)
theorem lH.congr {f g:List UInt8→Bool} {a:Option (List UInt8)} (h:lH f a) (e:∀w,f w=g w):lH g a:=by
 have:f=g:=funext e;rw[← this];exact h
inductive lJ (f g:List UInt8→Bool):Int→Prop where
 | same (h:∀w,f w=g w):lJ f g 0
 | lt (x:List UInt8) (h1:f x=true) (h2:g x=false) (h3:∀y,slt y x→f y=g y):lJ f g (-1)
 | gt (x:List UInt8) (h1:f x=false) (h2:g x=true) (h3:∀y,slt y x→f y=g y):lJ f g 1
theorem GD {f g:List UInt8→Bool} {c d:Int} (h:lJ f g c) (k:lJ f g d):c=d:=by
 cases h with
 | same h=>
  cases k with
  | same=>rfl
  | lt x a b _=>rw[h x,b] at a;cases a
  | gt x a b _=>rw[h x,b] at a;cases a
 | lt x a b e=>
  cases k with
  | same h=>rw[h x,b] at a;cases a
  | lt=>rfl
  | gt y a' b' e'=>
   rcases rY x y with q | q | q
   ·have:=e' x q;rw[a,b] at this;cases this
   ·subst q;rw[a] at a';cases a'
   ·have:=e y q;rw[a',b'] at this;cases this
 | gt x a b e=>
  cases k with
  | same h=>rw[h x,b] at a;cases a
  | gt=>rfl
  | lt y a' b' e'=>
   rcases rY x y with q | q | q
   ·have:=e' x q;rw[a,b] at this;cases this
   ·subst q;rw[a] at a';cases a'
   ·have:=e y q;rw[a',b'] at this;cases this
theorem lJ.swap {f g:List UInt8→Bool} {c:Int} (h:lJ f g c):lJ g f (-c):=by
 cases h with
 | same h=>exact .same fun w=>(h w).symm
 | lt x a b e=>exact .gt x b a fun y hy=>(e y hy).symm
 | gt x a b e=>exact .lt x b a fun y hy=>(e y hy).symm
theorem lJ.refl (f:List UInt8→Bool):lJ f f 0:=.same fun _=>rfl
theorem lJ.zero {f g:List UInt8→Bool} {c:Int} (h:lJ f g c):c=0↔∀w,f w=g w:=by
 constructor
 ·rintro rfl
  cases h with
  | same h=>exact h
 ·intro e;exact GD h (.same e)
theorem lJ.range {f g:List UInt8→Bool} {c:Int} (h:lJ f g c) : -1≤c∧c≤1:=by cases h <;> omega
theorem lJ.congr {f g f' g':List UInt8→Bool} {c:Int} (h:lJ f g c) (e:∀w,f w=f' w) (e':∀w,g w=g' w):lJ f' g' c:=by
 have h1:f=f':=funext e;have h2:g=g':=funext e';rw[← h1,← h2];exact h
noncomputable def Sem (l:Table) (w:List UInt8):Bool:=tf (Canon l)&&aF l 0 w
theorem kS {l:Table} (h:Canon l) (w:List UInt8):Sem l w=aF l 0 w:=by simp[Sem,aH h]
structure mP (f:List UInt8→Bool) (C:Table):Prop where
 canon:Canon C
 lang:∀w,aF C 0 w=f w
theorem mP.sem {f:List UInt8→Bool} {C:Table} (h:mP f C) (w:List UInt8):Sem C w=f w:=by rw[kS h.canon];exact h.lang w
theorem mP.congr {f g:List UInt8→Bool} {C:Table} (h:mP f C) (e:∀w,f w=g w):mP g C:=⟨h.canon,fun w=>(h.lang w).trans (e w)⟩
end Cl
namespace Cl
inductive El where
 | nul | fal | tru
 | num (u:Int)
 | str (x:List UInt8)
def El.rk:El→Nat | nul=>0 | fal=>1 | tru=>2 | num _=>3 | str _=>4
def El.lt:El→El→Prop
 | num u,num v=>near u v
 | str x,str y=>slt x y
 | a,b=>a.rk<b.rk
theorem El.lt_irrefl:∀a:El,¬ a.lt a
 | nul=>by simp[El.lt]
 | fal=>by simp[El.lt]
 | tru=>by simp[El.lt]
 | num u=>Co u
 | str x=>jA x
theorem El.KS {a b:El} (h:a.rk<b.rk):a.lt b:=by
 cases a <;> cases b <;> simp_all [El.lt,El.rk]
theorem El.NV {a b:El} (h:a.lt b):a.rk≤b.rk:=by
 cases a <;> cases b <;> simp_all [El.lt,El.rk]
theorem El.lt_trans {a b c:El} (h:a.lt b) (k:b.lt c):a.lt c:=by
 by_cases e:a.rk<b.rk
 ·exact El.KS (by have:=El.NV k;omega)
 ·by_cases e':b.rk<c.rk
  ·exact El.KS (by have:=El.NV h;omega)
  ·cases a <;> cases b <;> simp_all [El.lt,El.rk] <;> cases c <;> simp_all
   ·exact lT h k
   ·exact yX h k
theorem El.DY (a b:El):a.lt b∨a=b∨b.lt a:=by
 rcases Nat.lt_trichotomy a.rk b.rk with h | h | h
 ·exact .inl (El.KS h)
 ·cases a <;> cases b <;> simp_all [El.lt,El.rk]
  ·rename_i u v;by_cases e:u=v
   ·exact .inr (.inl e)
   ·rcases vX e with h | h
    ·exact .inl h
    ·exact .inr (.inr h)
  ·exact rY _ _
 ·exact .inr (.inr (El.KS h))
def jN (p:El→Prop):Option El→Prop
 | none=>∀e,¬ p e
 | some a=>p a∧∀e,p e→e=a∨a.lt e
theorem jN.congr {p q:El→Prop} {r:Option El} (h:jN p r) (e:∀a,p a↔q a):jN q r:=by
 have:p=q:=funext fun a=>propext (e a);rw[← this];exact h
inductive CmpE (p q:El→Prop):Int→Prop where
 | same (h:∀a,p a↔q a):CmpE p q 0
 | lt (x:El) (h1:p x) (h2:¬ q x) (h3:∀y,El.lt y x→(p y↔q y)):CmpE p q (-1)
 | gt (x:El) (h1:¬ p x) (h2:q x) (h3:∀y,El.lt y x→(p y↔q y)):CmpE p q 1
theorem Dc {p q:El→Prop} {c d:Int} (h:CmpE p q c) (k:CmpE p q d):c=d:=by
 cases h with
 | same h=>
  cases k with
  | same=>rfl
  | lt x a b _=>exact absurd ((h x).1 a) b
  | gt x a b _=>exact absurd ((h x).2 b) a
 | lt x a b e=>
  cases k with
  | same h=>exact absurd ((h x).1 a) b
  | lt=>rfl
  | gt y a' b' e'=>
   rcases El.DY x y with o | o | o
   ·exact absurd ((e' x o).1 a) b
   ·subst o;exact absurd a a'
   ·exact absurd ((e y o).2 b') a'
 | gt x a b e=>
  cases k with
  | same h=>exact absurd ((h x).2 b) a
  | gt=>rfl
  | lt y a' b' e'=>
   rcases El.DY x y with o | o | o
   ·exact absurd ((e' x o).2 b) a
   ·subst o;exact absurd a' a
   ·exact absurd ((e y o).1 a') b'
theorem CmpE.swap {p q:El→Prop} {c:Int} (h:CmpE p q c):CmpE q p (-c):=by
 cases h with
 | same h=>exact .same fun w=>(h w).symm
 | lt x a b e=>exact .gt x b a fun y hy=>(e y hy).symm
 | gt x a b e=>exact .lt x b a fun y hy=>(e y hy).symm
theorem CmpE.zero {p q:El→Prop} {c:Int} (h:CmpE p q c):c=0↔∀a,p a↔q a:=by
 constructor
 ·rintro rfl
  cases h with
  | same h=>exact h
 ·exact fun e=>Dc h (.same e)
theorem CmpE.range {p q:El→Prop} {c:Int} (h:CmpE p q c) : -1≤c∧c≤1:=by cases h <;> omega
theorem CmpE.congr {p q p' q':El→Prop} {c:Int} (h:CmpE p q c) (e:∀a,p a↔p' a) (e':∀a,q a↔q' a):CmpE p' q' c:=by
 have h1:p=p':=funext fun a=>propext (e a);have h2:q=q':=funext fun a=>propext (e' a);rw[← h1,← h2];exact h
structure RS where
 nul:Bool
 fal:Bool
 tru:Bool
 i:List Spn
 f:List Spn
 t:Table
def RS.ns (s:RS):NS:=mkN s.i s.f
structure RS.fK (s:RS):Prop where
 ei:s.i=s.ns.i
 ef:s.f=s.ns.rf
 ct:Canon s.t
def RS.has (s:RS):El→Prop
 | .nul=>s.nul=true
 | .fal=>s.fal=true
 | .tru=>s.tru=true
 | .num u=>s.ns.has u
 | .str x=>Sem s.t x=true
theorem RS.M0 (s:RS):NSok s.ns:=DW _ _
structure ScIs (p:El→Prop) (s:RS):Prop where
 valid:s.fK
 mem:∀e,s.has e↔p e
theorem ScIs.congr {p q:El→Prop} {r:RS} (h:ScIs p r) (e:∀a,p a↔q a):ScIs q r:=⟨h.valid,fun a=>(h.mem a).trans (e a)⟩
def dI:RS:=⟨false,false,false,[],[],[]⟩
theorem gz:dI.fK:=⟨rfl,rfl,iq⟩
theorem Gv (e:El):¬ dI.has e:=by
 have h0:dI.ns=lm:=M5
 cases e with
 | nul=>simp[RS.has,dI]
 | fal=>simp[RS.has,dI]
 | tru=>simp[RS.has,dI]
 | num u=>simp only[RS.has,h0];exact l6 u
 | str x=>simp only[RS.has,dI,kS iq,gZ];simp
theorem Ay:ScIs (fun _=>False) dI:=⟨gz,fun e=>⟨Gv e,False.elim⟩⟩
noncomputable def iE (s:RS):RS:=if tf s.fK=true then s else dI
theorem xJ {s:RS} (h:s.fK):iE s=s:=by simp[iE,aH h]
theorem tK {s:RS} (h:¬ s.fK):iE s=dI:=by simp[iE,az h]
theorem F9 {s:RS} (h:s.nul=true):jN s.has (some .nul):=⟨h,fun e _=>by cases e <;> simp[El.lt,El.rk]⟩
theorem Ga {s:RS} (h0:s.nul=false) (h:s.fal=true):jN s.has (some .fal):=⟨h,fun e he=>by
 cases e <;> simp[El.lt,El.rk]
 simp[RS.has,h0] at he⟩
theorem F6 {s:RS} (h0:s.nul=false) (h1:s.fal=false) (h:s.tru=true):jN s.has (some .tru):=⟨h,fun e he=>by
 cases e <;> simp[El.lt,El.rk] <;> simp[RS.has,h0,h1] at he⟩
theorem F8 {s:RS} (h0:s.nul=false) (h1:s.fal=false) (h2:s.tru=false) {u:Int} (h:kz s.ns=some u):jN s.has (some (.num u)):=by
 obtain⟨h3,h4⟩:=(zX s.M0).one u h;refine ⟨h3,fun e he=>?_⟩
 cases e with
 | nul=>simp[RS.has,h0] at he
 | fal=>simp[RS.has,h1] at he
 | tru=>simp[RS.has,h2] at he
 | num v=>
  rcases h4 v he with rfl | h5
  ·exact .inl rfl
  ·exact .inr h5
 | str w=>exact .inr (by simp[El.lt,El.rk])
theorem F7 {s:RS} (h0:s.nul=false) (h1:s.fal=false) (h2:s.tru=false) (h3:kz s.ns=none) {r:Option (List UInt8)} (h:lH (Sem s.t) r):jN s.has (r.map .str):=by
 have hn:=(zX s.M0).no h3;have key:∀e,s.has e→∃w,e=.str w∧Sem s.t w=true:=fun e he=>by
  cases e with
  | nul=>simp[RS.has,h0] at he
  | fal=>simp[RS.has,h1] at he
  | tru=>simp[RS.has,h2] at he
  | num v=>exact absurd he (hn v)
  | str w=>exact⟨w,rfl,he⟩
 cases r with
 | none=>
  intro e he;obtain⟨w,-,hw⟩:=key e he;have:=h w;rw[hw] at this
  cases this
 | some x=>
  refine ⟨h.1,fun e he=>?_⟩;obtain⟨w,rfl,hw⟩:=key e he;rcases h.2 w hw with rfl | h5
  ·exact .inl rfl
  ·exact .inr h5
end Cl
namespace Cl
def elDt:El→Dt
 | .nul=>.mk 1 0 ⟨#[]⟩ [] [] []
 | .fal=>.mk 2 0 ⟨#[]⟩ [] [] []
 | .tru=>.mk 2 1 ⟨#[]⟩ [] [] []
 | .num u=>.mk 3 u ⟨#[]⟩ [] [] []
 | .str x=>.mk 4 0 ⟨x.toArray⟩ [] [] []
end Cl
namespace Cl
theorem jU:∀(r:List Spn) (s:Spn),(insS s true r).length≤r.length
 | [],s=>by simp[insS]
 | x::r,s=>by
  have h1:=jU r s;have h3:=jU r (min s.1 x.1,max s.2 x.2);rw[insS]
  split
  ·simp only[List.length_cons];omega
  ·split
   ·simp only[if_true,List.nil_append,List.length_cons];omega
   ·simp only[List.length_cons];omega
theorem ru:∀(r:List Spn) (s:Spn) (d:Bool),(insS s d r).length≤r.length+1
 | [],s,d=>by unfold insS;split <;> simp
 | x::r,s,d=>by
  have h1:=ru r s d;have h3:=ru r (min s.1 x.1,max s.2 x.2) d;have h2:=jU r s;rw[insS]
  split
  ·simp only[List.length_cons];omega
  ·split
   ·cases d <;> simp only[if_true,Bool.false_eq_true,if_false,List.cons_append,List.nil_append,List.length_cons] <;> omega
   ·simp only[List.length_cons];omega
theorem nz (l:List Spn):(eB l).length≤l.length:=by
 have:∀(l out:List Spn),(l.foldl (fun out s=>if s.2<s.1 then out else insS s false out) out).length≤out.length+l.length:=by
  intro l
  induction l with
  | nil=>intro out;simp
  | cons s l ih=>
   intro out;have:=ih (if s.2<s.1 then out else insS s false out);have h2:(if s.2<s.1 then out else insS s false out).length≤out.length+1:=by
    split
    ·omega
    ·exact ru out s false
   simp only[List.foldl_cons,List.length_cons];omega
 have:=this l [];rw[eB];simpa using this
theorem tq (l:List Spn):(jG l).length≤l.length:=by
 have:=List.length_filter_le (fun s=>decide (s.1≤s.2)) (l.map jy);simpa [jG] using this
theorem tu (l:List Spn):(gY l).length≤l.length:=by
 have:=List.length_filter_le (fun s=>decide (s.1≤s.2)) (l.map fI);simpa [gY] using this
structure NS.Le (x:NS) (k:Nat):Prop where
 i:x.i.length≤k
 f:x.f.length≤k
theorem NS.Mg (x:NS):x.rf.length=x.f.length:=by simp[NS.rf]
theorem NS.Le.mono {x:NS} {k n:Nat} (h:x.Le k) (hk:k≤n):x.Le n:=⟨Nat.le_trans h.i hk,Nat.le_trans h.f hk⟩
theorem Mj {I F:List Spn} {k:Nat} (h1:I.length≤k) (h2:F.length≤k):(mkN I F).Le k:=by
 refine ⟨Nat.le_trans (nz _) (Nat.le_trans (tq I) h1),Nat.le_trans (nz _) ?_⟩;rw[List.length_map];exact Nat.le_trans (tu F) h2
theorem Ot (u:Int):u.tdiv 10000=if u % 10000=0∨0≤u then u / 10000 else u / 10000+1:=by
 rw[Int.tdiv_eq_ediv];have:((10000:Int) ∣ u)↔u % 10000=0:=Int.dvd_iff_emod_eq_zero;simp only[this,Int.sign]
 split <;> split <;> omega
theorem NH (u:Int):u.tmod 10000=if u % 10000=0∨0≤u then u % 10000 else u % 10000 - 10000:=by
 rw[Int.tmod_eq_emod];have:((10000:Int) ∣ u)↔u % 10000=0:=Int.dvd_iff_emod_eq_zero;simp only[this]
 split <;> split <;> omega
theorem lN (u:Int):u.tmod 10000=0↔u % 10000=0:=by rw[NH];split <;> omega
theorem Ou (k:Int):k.tdiv 9999=if k % 9999=0∨0≤k then k / 9999 else k / 9999+1:=by
 rw[Int.tdiv_eq_ediv];have:((9999:Int) ∣ k)↔k % 9999=0:=Int.dvd_iff_emod_eq_zero;simp only[this,Int.sign]
 split <;> split <;> omega
theorem Oq (k:Int):k.tmod 9999=if k % 9999=0∨0≤k then k % 9999 else k % 9999 - 9999:=by
 rw[Int.tmod_eq_emod];have:((9999:Int) ∣ k)↔k % 9999=0:=Int.dvd_iff_emod_eq_zero;simp only[this]
 split <;> split <;> omega
end Cl
namespace Cl
noncomputable def gB (s:RS):Bool:=tf (∀e,¬ (iE s).has e)
theorem CX {s:RS} (h:jN (iE s).has none):gB s=true:=aH h
theorem CW {s:RS} {e:El} (h:jN (iE s).has (some e)):gB s=false:=az fun k=>k e h.1
end Cl
namespace Cl
structure Cmp3 {α:Type} (p:α→Prop) (c:α→α→Int):Prop where
 rng:∀a b,p a→p b → -1≤c a b∧c a b≤1
 anti:∀a b,p a→p b→c b a = - c a b
 eq:∀a b,p a→p b→(c a b=0↔a=b)
 tr:∀a b d,p a→p b→p d→c a b≤0→c b d≤0→c a d≤0
def orI (a b:Int):Int:=if a=0 then b else a
namespace Cmp3
variable {α β:Type} {p:α→Prop} {q:β→Prop} {c:α→α→Int} {d:β→β→Int}
theorem self (h:Cmp3 p c) {a:α} (ha:p a):c a a=0:=(h.eq a a ha ha).2 rfl
theorem sub (h:Cmp3 p c) {p':α→Prop} (k:∀a,p' a→p a):Cmp3 p' c where
 rng a b ha hb:=h.rng a b (k a ha) (k b hb)
 anti a b ha hb:=h.anti a b (k a ha) (k b hb)
 eq a b ha hb:=h.eq a b (k a ha) (k b hb)
 tr a b d ha hb hd:=h.tr a b d (k a ha) (k b hb) (k d hd)
end Cmp3
def xL (a b:Bool):Int:=if a=b then 0 else if a then -1 else 1
end Cl
namespace Cl
inductive Vl where
 | mk (any:Bool) (s:RS) (lists:List (List (Vl × Vl) × List (Vl × Vl))) (structs:List (List ((ByteArray × Int) × (Vl × Vl)) × List (Table × (Vl × Vl))))
abbrev Vd:=Vl × Vl
abbrev Lc:=List Vd × List Vd
abbrev Fd:=(ByteArray × Int) × Vd
abbrev Kl:=Table × Vd
abbrev St:=List Fd × List Kl
def Vl.any:Vl→Bool | .mk a _ _ _=>a
def Vl.s:Vl→RS | .mk _ s _ _=>s
def Vl.lists:Vl→List Lc | .mk _ _ l _=>l
def Vl.structs:Vl→List St | .mk _ _ _ t=>t
def bR (c:Lc):List Vd:=c.1 ++ c.2
def dF (c:St):List Vd:=c.1.map (·.2) ++ c.2.map (·.2)
def Vl.kids (v:Vl):List Vd:=v.lists.flatMap bR ++ v.structs.flatMap dF
def botV:Vl:=.mk false dI [] []
def topV:Vl:=.mk true dI [] []
def Ht:Nat→Vl→Prop
 | 0,_=>False
 | n+1,v=>∀x∈v.kids,Ht n x.1∧Ht n x.2
theorem Ht.succ:∀{n:Nat} {v:Vl},Ht n v→Ht (n+1) v
 | 0,_,h=>h.elim
 | _+1,_,h=>fun x hx=>⟨(h x hx).1.succ,(h x hx).2.succ⟩
theorem Ht.mono {n m:Nat} {v:Vl} (h:Ht n v) (k:n≤m):Ht m v:=by
 induction k with
 | refl=>exact h
 | step _ ih=>exact ih.succ
def vcnt:Nat→Vl→Nat
 | 0,_=>0
 | n+1,v=>1+(v.kids.map fun x=>vcnt n x.1+vcnt n x.2).sum
theorem yR {α:Type} {f g:α→Nat}:∀{l:List α},(∀x∈l,f x=g x)→(l.map f).sum=(l.map g).sum
 | [],_=>rfl
 | x::l,h=>by
  simp only[List.map_cons,List.sum_cons];rw[h x zS,yR fun y hy=>h y (by simp[hy])]
theorem rG:∀{n:Nat} {v:Vl},Ht n v→vcnt (n+1) v=vcnt n v
 | 0,_,h=>h.elim
 | n+1,v,h=>by
  rw[vcnt,vcnt]
  congr 1
  exact yR fun x hx=>by rw[rG (h x hx).1,rG (h x hx).2]
theorem nS {n m:Nat} {v:Vl} (h:Ht n v) (k:n≤m):vcnt m v=vcnt n v:=by
 induction k with
 | refl=>rfl
 | step k ih=>rw[rG (h.mono k),ih]
theorem qY {n:Nat} {v:Vl} (h:Ht n v):1≤vcnt n v:=by
 cases n with
 | zero=>exact h.elim
 | succ n=>rw[vcnt];omega
structure Bi (k:Nat) (most r:Int):Prop where
 le:(k:Int)≤most→r=k
 gt:most<k→most<r
 pos:1≤r
 top:r≤if most<1 then 1 else 2*most+2
theorem Bi.small {k:Nat} {most r:Int} (h:Bi k most r):r≤most↔(k:Int)≤most:=by
 have h1:=h.le;have h2:=h.gt;omega
structure qV (p:Nat) (most n:Int):Prop where
 le:(p:Int)≤most→n=p
 gt:most<p→most<n
 pos:1≤n
 top:n≤if most<1 then 1 else 2*most+2
theorem qV.start (most:Int):qV 1 most 1:=⟨fun _=>rfl,fun h=>h,zo,by split <;> omega⟩
theorem qV.step {p a b:Nat} {most n x y:Int} (h:qV p most n) (hn:n≤most) (hx:Bi a (most - n) x) (hy:Bi b (most - (n+x)) y) (ha:1≤a) (hb:1≤b):qV (p+(a+b)) most (n+x+y):=by
 obtain⟨h1,h2,h3,h4⟩:=h;obtain⟨x1,x2,x3,x4⟩:=hx;obtain⟨y1,y2,y3,y4⟩:=hy;have e:n=p:=zo;rw[if_neg zo] at h4;refine ⟨fun k=>?_,fun k=>?_,zo,?_⟩
 ·have:=x1 zo;have:=y1 zo;omega
 ·by_cases k1:(a:Int)≤most - n
  ·have:=x1 k1;have:=y2 zo;omega
  ·have:=x2 zo;omega
 ·rw[if_neg zo]
  split at x4 <;> split at y4 <;> omega
def bLt (a b:ByteArray):Bool:=Go.Op.bytesLess a.data.toList b.data.toList
structure dz (l:List Fd):Prop where
 pres:∀f∈l,f.1.2=1∨f.1.2=2
 asc:∀i (h:i+1<l.length),bLt l[i].1.1 (l[i+1]).1.1=true
noncomputable def hitN (c:St) (w:List UInt8):Nat:=c.2.countP (fun k=>Sem k.1 w)+c.1.countP (fun f=>f.1.1.data.toList==w)
structure bX (c:St):Prop where
 sets:∀k∈c.2,Canon k.1∧k.1≠[]
 once:∀w,hitN c w=1
structure lI (v:Vl):Prop where
 any:v.any=true→v.s=dI∧v.lists=[]∧v.structs=[]
 rest:∀c∈v.lists,c.2.length≤1
 st:∀c∈v.structs,dz c.1∧bX c
 sc:v.s.fK
def Snd:Nat→Vl→Prop
 | 0,_=>False
 | n+1,v=>lI v∧∀x∈v.kids,Snd n x.1∧Snd n x.2
def SndV (v:Vl):Prop:=Snd 16 v
theorem Snd.ht:∀{n:Nat} {v:Vl},Snd n v→Ht n v
 | 0,_,h=>h.elim
 | _+1,_,h=>fun x hx=>⟨(h.2 x hx).1.ht,(h.2 x hx).2.ht⟩
def maxL:List Nat→Nat
 | []=>0
 | x::l=>max x (maxL l)
def dep:Nat→Vl→Nat
 | 0,_=>0
 | n+1,v=>maxL (v.kids.map fun x=>max (dep n x.1) (dep n x.2))+1
theorem Oc {a b:ByteArray} (h:a.data.toList=b.data.toList):a=b:=by
 obtain⟨⟨a⟩⟩:=a;obtain⟨⟨b⟩⟩:=b;simp only at h;rw[h]
theorem ND {a b:Vl} (h1:a.any=b.any) (h2:a.s=b.s) (h3:a.lists=b.lists) (h4:a.structs=b.structs):a=b:=by
 obtain⟨_,_,_,_⟩:=a;obtain⟨_,_,_,_⟩:=b;simp only[Vl.any,Vl.s,Vl.lists,Vl.structs] at *
 subst h1 h2 h3 h4;rfl
theorem Ac {v:Vl} {c:Lc} (hc:c∈v.lists) {x:Vd} (hx:x∈bR c):x∈v.kids:=List.mem_append.2 (.inl (List.mem_flatMap.2 ⟨c,hc,hx⟩))
theorem sZ {v:Vl} {c:St} (hc:c∈v.structs) {x:Vd} (hx:x∈dF c):x∈v.kids:=List.mem_append.2 (.inr (List.mem_flatMap.2 ⟨c,hc,hx⟩))
end Cl
namespace Cl
structure Comp where
 n:Nat
 step:Int→Nat→Int
 acc:Int→Bool
structure Comp.Ok (c:Comp):Prop where
 pos:1≤c.n
 step:∀i b,-1≤c.step i b∧c.step i b<c.n
def Comp.from (c:Comp):Int→List UInt8→Int
 | i,[]=>i
 | i,b::w=>c.from (c.step i b.toNat) w
def Comp.lang (c:Comp) (w:List UInt8):Bool:=c.acc (c.from 0 w)
def dD (cs:List Comp) (v:List Int) (b:Nat):List Int:=List.zipWith (fun c i=>c.step i b) cs v
def ek (cs:List Comp):List Int:=cs.map fun _=>0
def jb (cs:List Comp) (v:List Int):Nat:=(List.zipWith (fun c i=>c.acc i) cs v).countP id
def vrun (cs:List Comp):List Int→List UInt8→List Int
 | v,[]=>v
 | v,b::w=>vrun cs (dD cs v b.toNat) w
theorem mU {α β γ:Type} (f:α→β→γ) (g:α→β):∀l:List α,List.zipWith f l (l.map g)=l.map fun x=>f x (g x)
 | []=>rfl
 | x::l=>by simp only[List.map_cons,List.zipWith_cons_cons,mU f g l]
theorem qW (cs:List Comp):∀(w:List UInt8) (f:Comp→Int),vrun cs (cs.map f) w=cs.map fun c=>c.from (f c) w
 | [],f=>rfl
 | b::w,f=>by
  rw[vrun,dD,mU,qW cs w]
  rfl
theorem yF (cs:List Comp) (w:List UInt8):jb cs (vrun cs (ek cs) w)=cs.countP fun c=>c.lang w:=by
 rw[ek,qW,jb,mU,List.countP_map]
 rfl
theorem rF (cs:List Comp):∀(u w:List UInt8) (v:List Int),vrun cs v (u ++ w)=vrun cs (vrun cs v u) w
 | [],_,_=>rfl
 | b::u,w,v=>by simp only[List.cons_append,vrun,rF cs u w]
def gL (cs:List Comp) (v:List Int):Prop:=∃w,v=vrun cs (ek cs) w
theorem gL.start (cs:List Comp):gL cs (ek cs):=⟨[],rfl⟩
theorem gL.step {cs:List Comp} {v:List Int} (h:gL cs v) {b:Nat} (hb:b<256):gL cs (dD cs v b):=by
 obtain⟨w,rfl⟩:=h;refine ⟨w ++ [UInt8.ofNat b],?_⟩;rw[rF];simp only[vrun]
 congr 1
 simp[Nat.mod_eq_of_lt hb]
theorem qG {cs:List Comp} {S:List Int→Prop} (h0:S (ek cs)) (hs:∀v,S v→∀b<256,S (dD cs v b)) {v:List Int} (h:gL cs v):S v:=by
 obtain⟨w,rfl⟩:=h;generalize ek cs=u at h0
 induction w generalizing u with
 | nil=>exact h0
 | cons b w ih=>exact ih _ (hs u h0 b.toNat (UInt8.toNat_lt b))
def qc (cs:List Comp):Prop:=∀w,cs.countP (fun c=>c.lang w)=1
theorem mG {cs:List Comp} {S:List Int→Prop} (h0:S (ek cs)) (hs:∀v,S v→∀b<256,S (dD cs v b)) (h1:∀v,S v→jb cs v=1):qc cs:=fun w=>by
 rw[← yF];exact h1 _ (qG h0 hs ⟨w,rfl⟩)
theorem DR {cs:List Comp} {v:List Int} (h:gL cs v) (k:jb cs v≠1):¬ qc cs:=fun ho=>by
 obtain⟨w,rfl⟩:=h;rw[yF] at k;exact k (ho w)
def VIn:List Comp→List Int→Prop
 | [],[]=>True
 | [],_::_=>False
 | _::_,[]=>False
 | c::cs,i::v=>(-1≤i∧i<c.n)∧VIn cs v
theorem VIn.len:∀{cs:List Comp} {v:List Int},VIn cs v→v.length=cs.length
 | [],[],_=>rfl
 | [],_::_,h=>h.elim
 | _::_,[],h=>h.elim
 | c::cs,i::v,h=>by simp[VIn.len h.2]
theorem VIn.start:∀{cs:List Comp},(∀c∈cs,c.Ok)→VIn cs (ek cs)
 | [],_=>trivial
 | c::cs,h=>⟨⟨by show (-1:Int)≤0;omega,by have:=(h c zS).pos;show (0:Int)<c.n;omega⟩,VIn.start fun d hd=>h d (by simp[hd])⟩
theorem VIn.step:∀{cs:List Comp} {v:List Int} (_:∀c∈cs,c.Ok) (_:v.length=cs.length) (b:Nat),VIn cs (dD cs v b)
 | [],[],_,_,_=>trivial
 | [],_::_,_,h,_=>by simp at h
 | _::_,[],_,h,_=>by simp at h
 | c::cs,i::v,h,hl,b=>⟨(h c zS).step i b,VIn.step (fun d hd=>h d (by simp[hd])) (by simpa using hl) b⟩
theorem VIn.get:∀{cs:List Comp} {v:List Int} (_:VIn cs v) (i:Nat) (h1:i<cs.length) (h2:i<v.length),-1≤v[i]∧v[i]<cs[i].n
 | [],_,_,i,h1,_=>by simp at h1
 | _::_,[],h,_,_,_=>h.elim
 | c::cs,x::v,h,0,_,_=>h.1
 | c::cs,x::v,h,i+1,h1,h2=>VIn.get h.2 i (by simpa using h1) (by simpa using h2)
theorem VIn.reach {cs:List Comp} (h:∀c∈cs,c.Ok) {v:List Int} (k:gL cs v):VIn cs v:=
 qG (S:=VIn cs) (VIn.start h) (fun _ hv b _=>VIn.step h hv.len b) k
def univ:List Comp→List (List Int)
 | []=>[[]]
 | c::cs=>(List.range (c.n+1)).flatMap fun (i:Nat)=>(univ cs).map fun v=>((i:Int) - 1)::v
theorem xy:∀{cs:List Comp} {v:List Int},VIn cs v→v∈univ cs
 | [],[],_=>by simp[univ]
 | [],_::_,h=>h.elim
 | _::_,[],h=>h.elim
 | c::cs,i::v,h=>by
  refine List.mem_flatMap.2 ⟨(i+1).toNat,List.mem_range.2 (by have h1:=h.1.1;have h2:=h.1.2;omega),List.mem_map.2 ⟨v,xy h.2,?_⟩⟩
  congr 1
  have:=h.1;omega
def kP:List Comp→Nat
 | []=>1
 | c::cs=>(c.n+1)*kP cs
theorem ry {α β:Type} (f:α→List β) (k:Nat):∀(l:List α),(∀x∈l,(f x).length=k)→(l.flatMap f).length=l.length*k
 | [],_=>by simp
 | x::l,h=>by
  rw[List.flatMap_cons,List.length_append,h x zS,ry f k l fun y hy=>h y (by simp[hy]),List.length_cons,Nat.succ_mul,Nat.add_comm]
theorem wQ:∀cs:List Comp,(univ cs).length=kP cs
 | []=>rfl
 | c::cs=>by
  rw[univ,kP,ry _ (kP cs) _ (fun x _=>by rw[List.length_map,wQ cs]),List.length_range]
theorem wR {k:Nat}:∀{cs:List Comp},(∀c∈cs,c.n+1≤k)→kP cs≤k ^ cs.length
 | [],_=>by simp[kP]
 | c::cs,h=>by
  rw[kP,List.length_cons,Nat.pow_succ,Nat.mul_comm (k ^ cs.length)];exact Nat.mul_le_mul (h c zS) (wR fun d hd=>h d (by simp[hd]))
def tabC (l:Table):Comp:=⟨l.length,aV l,dP l⟩
theorem wX {l:Table} (h:Canon l) (hne:l≠[]):(tabC l).Ok where
 pos:=by have:=List.length_pos_iff.2 hne;exact this
 step i b:=by
  have:=dX h.wf i b;have h0:=List.length_pos_iff.2 hne;show -1≤aV l i b∧aV l i b<(l.length:Int);omega
theorem yP (l:Table):∀(w:List UInt8) (i:Int),dP l ((tabC l).from i w)=aF l i w
 | [],_=>rfl
 | _::w,_=>yP l w _
theorem rV {l:Table} (h:Canon l) (w:List UInt8):(tabC l).lang w=Sem l w:=by
 rw[kS h];exact yP l w 0
def jR (s:List UInt8) (i:Int) (b:Nat):Int:=if 0≤i∧(s[i.toNat]?).map (·.toNat)=some b then i+1 else -1
def labC (s:List UInt8):Comp:=⟨s.length+1,jR s,fun i=>i==(s.length:Int)⟩
theorem Nb (s:List UInt8):(labC s).Ok where
 pos:=by show 1≤s.length+1;omega
 step i b:=by
  show -1≤jR s i b∧jR s i b<((s.length+1:Nat):Int);unfold jR
  split
  ·rename_i h;obtain⟨h1,h2⟩:=h;obtain⟨x,h3,-⟩:=Option.map_eq_some_iff.1 h2;have:=(List.getElem?_eq_some_iff.1 h3).1;omega
  ·omega
theorem xE (s:List UInt8):∀w:List UInt8,(labC s).from (-1) w = -1
 | []=>rfl
 | b::w=>by
  rw[Comp.from,show (labC s).step (-1) b.toNat = -1 by simp[labC,jR]];exact xE s w
theorem Ab (s:List UInt8):∀(w:List UInt8) (i:Nat),i≤s.length→((labC s).from i w=(s.length:Int)↔w=s.drop i)
 | [],i,h=>by
  simp only[Comp.from];constructor
  ·intro e;rw[List.drop_eq_nil_iff.2 zo]
  ·intro e;have:=List.drop_eq_nil_iff.1 e.symm
   omega
 | b::w,i,h=>by
  rw[Comp.from];by_cases hi:i<s.length
  ·rw[List.drop_eq_getElem_cons hi];by_cases e:s[i].toNat=b.toNat
   ·have:(labC s).step i b.toNat=((i+1:Nat):Int):=by
     simp only[labC,jR];rw[if_pos ⟨zo,by simp[hi,e]⟩];simp
    rw[this,Ab s w (i+1) zo,UInt8.toNat_inj.1 e];simp
   ·have:(labC s).step i b.toNat = -1:=by
     simp only[labC,jR];rw[if_neg (by simp[hi,e])]
    rw[this,xE];constructor
    ·intro h;omega
    ·intro h;simp only[List.cons.injEq] at h;exact absurd (by rw[h.1]) e
  ·have:(labC s).step i b.toNat = -1:=by
    simp only[labC,jR];rw[if_neg (by simp[List.getElem?_eq_none (Nat.le_of_not_lt hi)])]
   rw[this,xE,List.drop_eq_nil_iff.2 zo];constructor
   ·intro h;omega
   ·intro h;cases h
theorem Ji (s w:List UInt8):(labC s).lang w=(s==w):=by
 have:=Ab s w 0 (Nat.zero_le _);rw[List.drop_zero] at this;show ((labC s).from 0 w==(s.length:Int))=(s==w);rw[Bool.eq_iff_iff,beq_iff_eq,beq_iff_eq];exact this.trans eq_comm
def stC1 (c:St):List Comp:=c.2.map (fun k=>tabC k.1) ++ c.1.map fun f=>labC f.1.1.data.toList
theorem MN {c:St} (h:∀k∈c.2,Canon k.1∧k.1≠[]):∀x∈stC1 c,x.Ok:=by
 intro x hx;rcases List.mem_append.1 hx with hx | hx
 ·obtain⟨k,hk,rfl⟩:=List.mem_map.1 hx;exact wX (h k hk).1 (h k hk).2
 ·obtain⟨f,hf,rfl⟩:=List.mem_map.1 hx;exact Nb _
theorem j4 {α:Type} {p q:α→Bool}:∀{l:List α},(∀x∈l,p x=q x)→l.countP p=l.countP q
 | [],_=>rfl
 | x::l,h=>by
  simp only[List.countP_cons,h x zS,j4 fun y hy=>h y (List.mem_cons_of_mem _ hy)]
theorem rW {c:St} (h:∀k∈c.2,Canon k.1∧k.1≠[]):qc (stC1 c)↔∀w,hitN c w=1:=by
 have:∀w,(stC1 c).countP (fun x=>x.lang w)=hitN c w:=fun w=>by
  rw[stC1,List.countP_append,List.countP_map,List.countP_map,hitN]
  congr 1
  ·exact j4 fun k hk=>rV (h k hk).1 w
  ·exact j4 fun f _=>Ji _ _
 simp only[qc,this]
theorem iG (c:St):bX c↔(∀k∈c.2,Canon k.1∧k.1≠[])∧qc (stC1 c):=
 ⟨fun h=>⟨h.sets,(rW h.sets).2 h.once⟩,fun h=>⟨h.1,(rW h.1).1 h.2⟩⟩
end Cl
namespace Cl
theorem tN {α:Type} {p:α→Bool} {l:List α} (h:∀i (hi:i<l.length),p l[i]=false):l.find? p=none:=by
 rw[List.find?_eq_none];intro x hx;obtain⟨i,hi,rfl⟩:=List.getElem_of_mem hx;simp[h i hi]
theorem CF {α:Type} {p:α→Bool}:∀{l:List α} (n:Nat) (hn:n<l.length),(∀i (hi:i<l.length),i<n→p l[i]=false)→p l[n]=true→l.find? p=some l[n]
 | [],n,hn,_,_=>by simp at hn
 | x::l,0,_,_,h=>by simp only[List.getElem_cons_zero] at h ⊢;rw[List.find?_cons,h]
 | x::l,n+1,hn,h0,h=>by
  have e0:=h0 0 zS zo;simp only[List.getElem_cons_zero] at e0;rw[List.find?_cons,e0];exact CF n (by simpa using hn) (fun i hi hlt=>h0 (i+1) (by simpa using hi) zo) (by simpa using h)
theorem Hf (a b:Vl):a=b↔a.any=b.any∧a.s=b.s∧a.lists=b.lists∧a.structs=b.structs:=
 ⟨fun h=>by rw[h];exact⟨rfl,rfl,rfl,rfl⟩,fun h=>ND h.1 h.2.1 h.2.2.1 h.2.2.2⟩
theorem Je (a b:Lc):a=b↔a.1.length=b.1.length∧bR a=bR b:=by
 constructor
 ·intro h;rw[h];exact⟨rfl,rfl⟩
 ·rintro ⟨h1,h2⟩;obtain⟨h3,h4⟩:=List.append_inj h2 h1;exact Prod.ext h3 h4
end Cl
namespace Cl
def KH (A B:Table) (p:Int × Int) (b:Nat):Int × Int:=(aV A p.1 b,aV B p.2 b)
structure qU (A B:Table) (p:Int × Int) (l:List (Int × Int)) (es:List Ed) (c:Nat):Prop where
 wf:aU l.length (-1) es
 hi:∀e∈es,e.hi<c
 le:c≤256
 step:∀b,b<c→∃t:Nat,aS es b=t∧l[t]?=some (KH A B p b)
 last:c=0∧es=[]∨∃fs e,es=fs ++ [e]∧e.hi+1=c
theorem qU.start (A B:Table) (p:Int × Int) (l:List (Int × Int)):qU A B p l [] 0:=
 ⟨trivial,fun e he=>by simp at he,zo,fun b hb=>zo,.inl ⟨rfl,rfl⟩⟩
theorem qU.mono {A B:Table} {p:Int × Int} {l l':List (Int × Int)} {es:List Ed} {c:Nat} (h:qU A B p l es c) (hp:l <+: l'):qU A B p l' es c:=by
 refine ⟨kI hp.length_le h.wf,h.hi,h.le,fun b hb=>?_,h.last⟩;obtain⟨t,h1,h2⟩:=h.step b hb;obtain⟨x,rfl⟩:=hp;exact⟨t,h1,by rw[List.getElem?_append_left (List.getElem?_eq_some_iff.1 h2).1];exact h2⟩
theorem qU.seg {A B:Table} {p:Int × Int} {l:List (Int × Int)} {es:List Ed} {c h t:Nat} (H:qU A B p l es c) (hch:c≤h) (h256:h<256) (ht:l[t]?=some (KH A B p c))
 (hs:∀b,c≤b→b≤h→KH A B p b=KH A B p c):qU A B p l (es ++ [⟨c,h,t⟩]) (h+1):=by
 have htl:=(List.getElem?_eq_some_iff.1 ht).1;refine ⟨mZ (q:=(c:Int) - 1) H.wf (fun e he=>by have:=H.hi e he;omega) zo ⟨hch,zS,by simpa using htl,by show (c:Int) - 1<(c:Int);omega,trivial⟩,?_,zo,fun b hb=>?_,.inr ⟨es,_,rfl,rfl⟩⟩
 ·intro e he;rcases List.mem_append.1 he with h1 | h1
  ·have:=H.hi e h1;omega
  ·simp only[List.mem_singleton] at h1;subst h1;exact Nat.lt_succ_self _
 ·by_cases hbc:b<c
  ·obtain⟨s,h1,h2⟩:=H.step b hbc;refine ⟨s,?_,h2⟩;rw[← h1];by_cases d:∃e∈es,e.lo≤b∧b≤e.hi
   ·exact ig _ _ _ d
   ·have d':∀e∈es,¬ (e.lo≤b∧b≤e.hi):=fun e he hh=>d ⟨e,he,hh⟩;rw[lZ _ _ d'] at h1;omega
  ·refine ⟨t,?_,by rw[hs b zo zo];exact ht⟩;rw[jI _ _ _ (fun e he=>by have:=H.hi e he;omega)];simp only[aS];rw[if_pos ⟨zo,zo⟩]
structure iZ (A B:Table) (op:Bool→Bool→Bool) (st:Int × Int) (l:List (Int × Int)) (out:Table):Prop where
 first:l[0]?=some st
 nodup:l.Nodup
 rng:∀q∈l,(-1≤q.1∧q.1≤A.length)∧(-1≤q.2∧q.2≤B.length)
 le:out.length≤l.length
 state:∀j,(h:j<out.length)→∀p,l[j]?=some p→(out[j]).accept=op (dP A p.1) (dP B p.2)∧qU A B p l (out[j]).edges 256
theorem FI {a b:Nat} {l:List (Int × Int)} (hn:l.Nodup) (hr:∀q∈l,(-1≤q.1∧q.1≤a)∧(-1≤q.2∧q.2≤b)):l.length≤(a+2)*(b+2):=by
 have:=gJ l ((List.range (a+2)).flatMap fun (i:Nat)=>(List.range (b+2)).map fun (j:Nat)=>((i:Int) - 1,(j:Int) - 1)) hn (fun q hq=>by
  have:=hr q hq;obtain⟨q1,q2⟩:=q;simp only at this;rw[List.mem_flatMap];refine ⟨(q1+1).toNat,List.mem_range.2 zo,List.mem_map.2 ⟨(q2+1).toNat,List.mem_range.2 zo,?_⟩⟩;simp only[Prod.mk.injEq];omega)
 refine Nat.le_trans this ?_;generalize a+2=x;generalize b+2=y;clear this hr
 induction x with
 | zero=>simp
 | succ x ih=>rw[List.range_succ,List.flatMap_append,List.length_append,Nat.succ_mul];simp at ih ⊢;exact ih
theorem iZ.grow {A B:Table} {op:Bool→Bool→Bool} {st:Int × Int} {l:List (Int × Int)} {out:Table} (h:iZ A B op st l out) {q:Int × Int} (hq:q ∉ l)
 (hr:(-1≤q.1∧q.1≤A.length)∧(-1≤q.2∧q.2≤B.length)):iZ A B op st (l ++ [q]) out:=by
 have h0:0<l.length:=by
  have:=h.first
  cases l with
  | nil=>simp at this
  | cons _ _=>simp
 refine ⟨by rw[List.getElem?_append_left h0];exact h.first,?_,?_,by have:=h.le;simp;omega,fun j hj p hp=>?_⟩
 ·exact List.nodup_append.2 ⟨h.nodup,zS,fun a ha b hb e=>by simp only[List.mem_singleton] at hb;subst hb;exact hq (e ▸ ha)⟩
 ·intro x hx;rcases List.mem_append.1 hx with h1 | h1
  ·exact h.rng x h1
  ·simp only[List.mem_singleton] at h1;subst h1;exact hr
 ·have hj':j<l.length:=by have:=h.le;omega
  rw[List.getElem?_append_left hj'] at hp;obtain⟨h1,h2⟩:=h.state j hj p hp;exact⟨h1,h2.mono (List.prefix_append _ _)⟩
theorem iZ.push {A B:Table} {op:Bool→Bool→Bool} {st:Int × Int} {l:List (Int × Int)} {out:Table} (h:iZ A B op st l out) {p:Int × Int} (hp:l[out.length]?=some p) {es:List Ed}
 (hc:qU A B p l es 256):iZ A B op st l (out ++ [⟨op (dP A p.1) (dP B p.2),es⟩]):=by
 refine ⟨h.first,h.nodup,h.rng,by have:=(List.getElem?_eq_some_iff.1 hp).1;simp;omega,fun j hj q hq=>?_⟩;by_cases c:j<out.length
 ·rw[List.getElem_append_left c];exact h.state j c q hq
 ·have:j=out.length:=by simp at hj;omega
  subst this;rw[hp] at hq;cases hq;have eg:(out ++ [⟨op (dP A p.1) (dP B p.2),es⟩])[out.length]'hj=⟨op (dP A p.1) (dP B p.2),es⟩:=by simp
  rw[eg];exact⟨rfl,hc⟩
theorem iZ.done {A B:Table} {op:Bool→Bool→Bool} {st:Int × Int} {l:List (Int × Int)} {out:Table} (h:iZ A B op st l out) (_:op false false=false) (he:out.length=l.length) :
 WF out∧Bytes out∧out.length≤(A.length+2)*(B.length+2)∧0<out.length∧∀w,aF out 0 w=op (aF A st.1 w) (aF B st.2 w):=by
 have h0:0<l.length:=by
  have:=h.first
  cases l with
  | nil=>simp at this
  | cons _ _=>simp
 have hlang:∀(w:List UInt8),∀(j:Nat) (p:Int × Int),l[j]?=some p→aF out j w=op (aF A p.1 w) (aF B p.2 w):=by
  intro w
  induction w with
  | nil=>
   intro j p hp;have hj:=(List.getElem?_eq_some_iff.1 hp).1;simp only[aF];rw[dG out j zo]
   exact (h.state j zo p hp).1
  | cons b w ih=>
   intro j p hp;have hj:=(List.getElem?_eq_some_iff.1 hp).1;simp only[aF];rw[bP out j _ zo];obtain⟨t,h1,h2⟩:=(h.state j zo p hp).2.step b.toNat b.toNat_lt;rw[h1];exact ih t _ h2
 refine ⟨?_,?_,by rw[he];exact FI h.nodup h.rng,zo,fun w=>hlang w 0 st h.first⟩
 ·intro s hs;obtain⟨j,hj,rfl⟩:=List.mem_iff_getElem.1 hs;rw[he];exact (h.state j hj _ (List.getElem?_eq_getElem zo)).2.wf
 ·intro s hs;obtain⟨j,hj,rfl⟩:=List.mem_iff_getElem.1 hs;have:=(h.state j hj _ (List.getElem?_eq_getElem zo)).2;intro e he';have h1:=this.hi e he';have h2:=(eO this.wf e he').2.1;omega
end Cl
namespace Cl
def lq (l:Table) (s:Int):List Ed:=if s<0 then [] else match l[s.toNat]? with
 | some st=>st.edges
 | none=>[]
theorem iO (l:Table) (s:Int) (b:Nat):aV l s b=aS (lq l s) b:=by
 unfold aV lq
 split
 ·rfl
 ·cases l[s.toNat]? <;> rfl
end Cl
namespace Cl
structure Lane (k:Nat) (c:Comp):Prop where
 neg:∀b,c.step (-1) b = -1
 step:∀(i b:Nat),i≤k→c.step (i:Int) b = -1∨(c.step (i:Int) b=((i+1:Nat):Int)∧i+1≤k)
theorem Lane.Ej {k:Nat} {c:Comp} (h:Lane k c):∀w,c.from (-1) w = -1
 | []=>rfl
 | b::w=>by rw[Comp.from,h.neg,h.Ej w]
theorem Lane.JF {k:Nat} {c:Comp} (h:Lane k c):∀(w:List UInt8) (i:Nat),i≤k→c.from (i:Int) w = -1∨(c.from (i:Int) w=((i+w.length:Nat):Int)∧i+w.length≤k)
 | [],i,hi=>.inr ⟨rfl,hi⟩
 | b::w,i,hi=>by
  rw[Comp.from];rcases h.step i b.toNat hi with e | ⟨e,h1⟩
  ·rw[e,h.Ej];exact .inl rfl
  ·rw[e];rcases h.JF w (i+1) h1 with e2 | ⟨e2,h2⟩
   ·exact .inl e2
   ·refine .inr ⟨?_,?_⟩
    ·rw[e2,List.length_cons];congr 1;omega
    ·rw[List.length_cons];omega
def oneC:Comp:=⟨1,fun _ _=>0,fun _=>true⟩
def lanes (P:List Comp) (k n:Nat):List (List Int):=(univ P).flatMap fun u=>(List.range (k+1)).flatMap fun j=>(univ (List.replicate n oneC)).map fun f=>u ++ f.map fun e=>if e=0 then ((j:Nat):Int) else -1
theorem Jh (P:List Comp) (k n:Nat):(lanes P k n).length=kP P*((k+1)*kP (List.replicate n oneC)):=by
 rw[lanes,ry _ ((k+1)*kP (List.replicate n oneC)) _ (fun u _=>by
  rw[ry _ (kP (List.replicate n oneC)) _ (fun j _=>by rw[List.length_map,wQ]),List.length_range]),wQ]
theorem Hl (L:List Comp) (w:List UInt8):VIn (List.replicate L.length oneC) (L.map fun c=>if c.from 0 w = -1 then (-1:Int) else 0):=by
 induction L with
 | nil=>exact trivial
 | cons c L ih=>
  refine ⟨?_,ih⟩;show -1≤(if c.from 0 w = -1 then (-1:Int) else 0)∧(if c.from 0 w = -1 then (-1:Int) else 0)<((1:Nat):Int)
  split <;> omega
theorem I7 {P Q:List Comp} {k:Nat} (hP:∀c∈P,c.Ok) (hQ:∀c∈Q,Lane k c) {v:List Int} (h:gL (P ++ Q) v):v∈lanes P k Q.length:=by
 obtain⟨w,rfl⟩:=h;rw[ek,qW,List.map_append];refine List.mem_flatMap.2 ⟨P.map fun c=>c.from 0 w,xy (VIn.reach hP ⟨w,by rw[ek,qW]⟩),List.mem_flatMap.2 ⟨if w.length≤k then w.length else 0,List.mem_range.2 (by split <;> omega),List.mem_map.2 ⟨_,xy (Hl Q w),?_⟩⟩⟩
 congr 1
 rw[List.map_map];refine List.map_congr_left fun c hc=>?_;simp only[Function.comp];rcases (hQ c hc).JF w 0 (Nat.zero_le _) with e | ⟨e,h1⟩
 ·have e:c.from 0 w = -1:=e
  simp[e]
 ·have e:c.from 0 w=((0+w.length:Nat):Int):=e
  have h2:w.length≤k:=zo;have h3:¬ (c.from 0 w = -1):=zo;simp only[h3,h2,if_false,if_true];omega
theorem vG {P Q:List Comp} {k:Nat} (hP:∀c∈P,c.Ok) (hQ:∀c∈Q,Lane k c) {l:List (List Int)} (hn:l.Nodup) (hl:∀v∈l,gL (P ++ Q) v):l.length≤kP P*((k+1)*kP (List.replicate Q.length oneC)):=by
 rw[← Jh];exact gJ l (lanes P k Q.length) hn fun v hv=>I7 hP hQ (hl v hv)
theorem Jj {s:List UInt8} {k:Nat} (h:s.length≤k):Lane k (labC s) where
 neg b:=by simp[labC,jR]
 step i b _:=by
  show jR s i b = -1∨(jR s i b=_∧_);unfold jR
  split
  ·rename_i h1;obtain⟨x,h3,-⟩:=Option.map_eq_some_iff.1 h1.2;have:=(List.getElem?_eq_some_iff.1 h3).1;exact .inr ⟨zo,zo⟩
  ·exact .inl rfl
theorem sW {P:List Comp} (h1:P.length≤6) (h2:∀c∈P,c.n≤8) {n:Nat} (hn:n≤6):kP P*((40+1)*kP (List.replicate n oneC))≤1400000000:=by
 have a1:kP P≤9 ^ 6:=Nat.le_trans (wR (k:=9) fun x hx=>by have:=h2 x hx;omega) (Nat.pow_le_pow_right zo h1);have a2:kP (List.replicate n oneC)≤2 ^ 6:=Nat.le_trans (wR (k:=2) fun x hx=>by rw[List.eq_of_mem_replicate hx];exact Nat.le_refl _) (Nat.pow_le_pow_right zo (by simpa using hn));exact Nat.le_trans (Nat.mul_le_mul a1 (Nat.mul_le_mul_left _ a2)) zD
theorem o7 {cs:List Comp} {v:List Int} {k:Nat} (h1:k<cs.length) (h2:k<v.length):jb (cs.take (k+1)) (v.take (k+1))=jb (cs.take k) (v.take k)+if cs[k].acc v[k] then 1 else 0:=by
 unfold jb;rw[List.take_succ_eq_append_getElem h1,List.take_succ_eq_append_getElem h2,List.zipWith_append (by simp;omega),List.countP_append]
 congr 1
 simp only[List.zipWith_cons_cons,List.zipWith_nil_left,List.countP_cons,List.countP_nil,id];simp
def mh (b:Nat) (es:List Ed) (o:Int):Int:=es.foldl (fun o e=>if e.lo≤b∧b≤e.hi then e.to else o) o
theorem Gb (b:Nat) (o:Int) {es:List Ed} {j:Nat} (h:j<es.length):mh b (es.take (j+1)) o=if (es[j]).lo≤b∧b≤(es[j]).hi then (es[j]).to else mh b (es.take j) o:=by
 unfold mh;rw[List.take_succ_eq_append_getElem h,List.foldl_append]
 rfl
theorem sV {n:Nat} {b:Nat}:∀{es:List Ed} {p:Int} (o:Int),aU n p es→(b:Int)≤p→mh b es o=o
 | [],_,_,_,_=>rfl
 | e::es,p,o,h,hb=>by
  obtain⟨h1,h2,h3,h4,h5⟩:=h;show mh b es (if e.lo≤b∧b≤e.hi then e.to else o)=o;rw[if_neg zo];exact sV o h5 zo
theorem D8 {n:Nat} {b:Nat}:∀{es:List Ed} {p:Int},aU n p es→mh b es (-1)=aS es b
 | [],_,_=>rfl
 | e::es,p,h=>by
  obtain⟨h1,h2,h3,h4,h5⟩:=h;show mh b es (if e.lo≤b∧b≤e.hi then e.to else -1)=aS (e::es) b;rw[aS]
  split
  ·exact sV _ h5 zo
  ·exact D8 h5
theorem NC {l:Table} (h:WF l) (x:Int):∃p,aU l.length p (lq l x):=by
 unfold lq
 split
 ·exact⟨0,trivial⟩
 ·cases e:l[x.toNat]? with
  | none=>exact⟨0,trivial⟩
  | some s=>exact⟨-1,h s (List.mem_of_getElem? e)⟩
theorem Jg {l:Table} (h:WF l) (x:Int) (b:Nat):mh b (lq l x) (-1)=aV l x b:=by
 obtain⟨p,hp⟩:=NC h x;rw[iO,D8 hp]
def aftK (cs:List Comp) (v:List Int) (b k:Nat):List Int:=dD (cs.take k) (v.take k) b ++ List.replicate (v.length - k) (-1)
theorem LW {cs:List Comp} {v:List Int} (h:cs.length=v.length) (b:Nat) {k:Nat} (hk:k≤v.length):(aftK cs v b k).length=v.length:=by
 simp[aftK,dD];omega
theorem J7 (cs:List Comp) (v:List Int) (b:Nat):aftK cs v b 0=List.replicate v.length (-1):=by simp[aftK,dD]
theorem LX {cs:List Comp} {v:List Int} (h:cs.length=v.length) (b:Nat):aftK cs v b v.length=dD cs v b:=by
 simp only[aftK,Nat.sub_self,List.replicate_zero,List.append_nil,List.take_length];rw[← h,List.take_length]
theorem Ey {cs:List Comp} {v:List Int} (h:cs.length=v.length) (b:Nat) {k:Nat} (hk:k<v.length) (x:Int) :
 (aftK cs v b k).set k x=dD (cs.take k) (v.take k) b ++ x::List.replicate (v.length - (k+1)) (-1):=by
 have hl:(dD (cs.take k) (v.take k) b).length=k:=by simp[dD];omega
 unfold aftK;rw[List.set_append_right _ _ zo,hl,Nat.sub_self,show v.length - k=(v.length - (k+1))+1 by omega,List.replicate_succ,List.set_cons_zero]
theorem Be {cs:List Comp} {v:List Int} (h:cs.length=v.length) (b:Nat) {k:Nat} (hk:k<v.length):(aftK cs v b k).set k ((cs[k]'zo).step v[k] b)=aftK cs v b (k+1):=by
 rw[Ey h b hk];unfold aftK dD;rw[List.take_succ_eq_append_getElem (show k<cs.length by omega),List.take_succ_eq_append_getElem hk,List.zipWith_append (by simp;omega)];simp
def edMk (es:List Ed) (b:Nat):Prop:=∃e∈es,e.lo=b∨e.hi+1=b
def lbMk (s:List UInt8) (x:Int) (b:Nat):Prop:=0≤x∧∃u,s[x.toNat]?=some u∧(u.toNat=b∨u.toNat+1=b)
def stMk (c:St) (v:List Int) (b:Nat):Prop:=
 b=0∨(∃i,∃h:i<c.2.length,edMk (lq (c.2[i]).1 (v.getD i (-1))) b)∨∃i,∃h:i<c.1.length,lbMk (c.1[i]).1.1.data.toList (v.getD (c.2.length+i) (-1)) b
theorem wz {b a:Nat} (hab:a≤b):∀{es:List Ed},(∀j,a<j→j≤b→¬ edMk es j)→aS es b=aS es a
 | [],_=>rfl
 | e::es,h=>by
  have ih:=wz hab (es:=es) fun j h1 h2 ⟨x,hx,hm⟩=>h j h1 h2 ⟨x,List.mem_cons_of_mem _ hx,hm⟩;have h1:∀j,a<j→j≤b→e.lo≠j∧e.hi+1≠j:=fun j k1 k2=>⟨fun k=>h j k1 k2 ⟨e,zS,.inl k⟩,fun k=>h j k1 k2 ⟨e,zS,.inr k⟩⟩;have g1:e.lo≤b↔e.lo≤a:=⟨fun k=>by
   by_cases c:e.lo≤a
   ·exact c
   ·exact absurd rfl (h1 e.lo zo k).1,fun k=>zo⟩
  have g2:b≤e.hi↔a≤e.hi:=⟨fun k=>zo,fun k=>by
   by_cases c:b≤e.hi
   ·exact c
   ·exact absurd rfl (h1 (e.hi+1) zo zo).2⟩
  simp only[aS,ih,g1,g2]
theorem F4 {s:List UInt8} {x:Int} {b a:Nat} (hab:a≤b) (h:∀j,a<j→j≤b→¬ lbMk s x j):jR s x b=jR s x a:=by
 unfold jR;by_cases h0:0≤x
 ·cases e:s[x.toNat]? with
  | none=>simp
  | some u=>
   have h1:∀j,a<j→j≤b→u.toNat≠j∧u.toNat+1≠j:=fun j k1 k2=>⟨fun k=>h j k1 k2 ⟨h0,u,e,.inl k⟩,fun k=>h j k1 k2 ⟨h0,u,e,.inr k⟩⟩;have:u.toNat=b↔u.toNat=a:=by
    by_cases hb:a=b
    ·subst hb;exact Iff.rfl
    ·have g1:=h1 b zo (Nat.le_refl _);constructor
     ·intro k;exact absurd k g1.1
     ·intro k;have:=h1 (a+1) zo zo;omega
   simp only[Option.map_some,Option.some.injEq,this]
 ·simp[h0]
theorem EL {c:St} {v:List Int} {a b:Nat} (hv:v.length=(stC1 c).length) (hab:a≤b) (h:∀j,a<j→j≤b→¬ stMk c v j):dD (stC1 c) v b=dD (stC1 c) v a:=by
 unfold dD;apply List.ext_getElem zS;intro i h1 h2;have hi:i<v.length:=by simp at h1;omega
 have hi2:i<(stC1 c).length:=zo;simp only[List.getElem_zipWith];unfold stC1 at hi2 ⊢;by_cases hk:i<c.2.length
 ·rw[List.getElem_append_left (by simpa using hk)];simp only[List.getElem_map];show aV _ _ b=aV _ _ a;rw[iO,iO];refine wz hab fun j k1 k2 hm=>h j k1 k2 (.inr (.inl ⟨i,hk,?_⟩));simpa [List.getD_eq_getElem?_getD,hi] using hm
 ·rw[List.getElem_append_right (by simp;omega)];simp only[List.getElem_map,List.length_map];refine F4 hab fun j k1 k2 hm=>h j k1 k2 (.inr (.inr ⟨i - c.2.length,by simp at hi2;omega,?_⟩));have e:c.2.length+(i - c.2.length)=i:=zo;rw[e];simpa [List.getD_eq_getElem?_getD,hi] using hm
theorem vZ {P:Nat→Prop} (h0:P 0):∀b,∃a,a≤b∧P a∧∀j,a<j→j≤b→¬ P j
 | 0=>⟨0,Nat.le_refl _,h0,fun j h1 h2=>zo⟩
 | b+1=>by
  by_cases h:P (b+1)
  ·exact⟨b+1,Nat.le_refl _,h,fun j h1 h2=>zo⟩
  ·obtain⟨a,h1,h2,h3⟩:=vZ h0 b;exact⟨a,zo,h2,fun j k1 k2=>by
    by_cases e:j=b+1
    ·subst e;exact h
    ·exact h3 j k1 zo⟩
theorem Ii {c:St} {v:List Int} (hv:v.length=(stC1 c).length) {b:Nat} (hb:b<256):∃a,a<256∧stMk c v a∧dD (stC1 c) v b=dD (stC1 c) v a:=by
 obtain⟨a,h1,h2,h3⟩:=vZ (P:=stMk c v) (.inl rfl) b;exact⟨a,zo,h2,EL hv h1 h3⟩
end Cl
namespace Cl
theorem Gc (l:List Spn) (k:Nat) (h:k<l.length):jG (l.take (k+1))=jG (l.take k) ++ if (jy l[k]).1≤(jy l[k]).2 then [jy l[k]] else []:=by
 rw[List.take_succ_eq_append_getElem h];unfold jG;rw[List.map_append,List.filter_append]
 congr 1
 by_cases hc:(jy l[k]).1≤(jy l[k]).2 <;> simp[hc]
theorem wm (l:List Spn) (k:Nat) (h:k<l.length):gY (l.take (k+1))=gY (l.take k) ++ if (fI l[k]).1≤(fI l[k]).2 then [fI l[k]] else []:=by
 rw[List.take_succ_eq_append_getElem h];unfold gY;rw[List.map_append,List.filter_append]
 congr 1
 by_cases hc:(fI l[k]).1≤(fI l[k]).2 <;> simp[hc]
theorem Gh (nx:Int→Int) (p:List Spn) (k:Nat) (h:k<p.length) (t:Spn) (r:List Spn) :
 gP nx (p.drop k) (t::r)=if p[k].1≤nx t.2 then gP nx (p.drop (k+1)) ((t.1,max t.2 p[k].2)::r) else gP nx (p.drop (k+1)) (p[k]::t::r):=by
 rw[List.drop_eq_getElem_cons h,gP]
theorem Cw (nx:Int→Int) (p:List Spn) (k:Nat) (h:k<p.length):gP nx (p.drop k) []=gP nx (p.drop (k+1)) [p[k]]:=by
 rw[List.drop_eq_getElem_cons h,gP]
theorem jL:∀(l r:List Int) (b:Option Int),dN (l ++ r) b=dN r (dN l b)
 | [],r,b=>rfl
 | u::l,r,none=>by simp only[List.cons_append,dN];exact jL l r _
 | u::l,r,some b=>by simp only[List.cons_append,dN];exact jL l r _
theorem Gd {l:List Spn}:∀s∈jG l,-iw≤s.1∧s.2≤iw∧s.1≤s.2:=fun s h=>by
 have h1:=D9 s h;obtain⟨t,-,rfl⟩:=List.mem_map.1 (List.mem_filter.1 h).1;unfold jy at *
 simp only[iw] at *
 omega
theorem wo {l:List Spn}:∀s∈gY l,-maxU - 1≤s.1∧s.2≤maxU+1∧s.1≤s.2:=fun s h=>by
 have h1:=Eb s h;obtain⟨t,-,e⟩:=List.mem_map.1 (List.mem_filter.1 h).1;have e1:s.1=if (max t.1 (-maxU)) % 10000=0 then max t.1 (-maxU)+1 else max t.1 (-maxU):=by rw[← e];rfl
 have e2:s.2=if (min t.2 maxU) % 10000=0 then min t.2 maxU - 1 else min t.2 maxU:=by rw[← e];rfl
 have b1:s.1=max t.1 (-maxU)+1∨s.1=max t.1 (-maxU):=by rw[e1];split <;> simp
 have b2:s.2=min t.2 maxU - 1∨s.2=min t.2 maxU:=by rw[e2];split <;> simp
 simp only[maxU] at *
 omega
end Cl
namespace Cl
theorem Jp (out:List Spn) (j:Nat) (h:j<out.length) (s:Spn) (d:Bool) :
 insS s d (out.drop j)=if out[j].2+1<s.1 then out[j]::insS s d (out.drop (j+1)) else if s.2+1<out[j].1 then (if d then [] else [s]) ++ out[j]::insS s true (out.drop (j+1)) else insS (min s.1 out[j].1,max s.2 out[j].2) d (out.drop (j+1)):=by
 rw[List.drop_eq_getElem_cons h,insS]
theorem zJ (l:List Spn) (k:Nat) (h:k<l.length):eB (l.take (k+1))=if l[k].2<l[k].1 then eB (l.take k) else insS l[k] false (eB (l.take k)):=by
 rw[List.take_succ_eq_append_getElem h];unfold eB;rw[List.foldl_append]
 rfl
theorem Cr (l:List Spn) (x:Int):mems (l.filter fun s=>decide (s.1≤s.2)) x↔mems l x:=by
 constructor
 ·rintro ⟨s,hs,h1,h2⟩;exact⟨s,(List.mem_filter.1 hs).1,h1,h2⟩
 ·rintro ⟨s,hs,h1,h2⟩;exact⟨s,List.mem_filter.2 ⟨hs,by simp;omega⟩,h1,h2⟩
theorem zK (l:List Spn):eB (l.map jy)=oG l:=
 iT (cB _).1 (cB _).1 fun x=>by
  rw[(cB _).2];unfold oG;rw[(cB _).2];exact (Cr _ x).symm
theorem Gf {t:Spn} (h:min t.2 maxU<max t.1 (-maxU)):¬ (fI t).1≤(fI t).2:=by
 have e1:(fI t).1=if (max t.1 (-maxU)) % 10000=0 then max t.1 (-maxU)+1 else max t.1 (-maxU):=rfl;have e2:(fI t).2=if (min t.2 maxU) % 10000=0 then min t.2 maxU - 1 else min t.2 maxU:=rfl;have b1:(fI t).1=max t.1 (-maxU)+1∨(fI t).1=max t.1 (-maxU):=by rw[e1];split <;> simp
 have b2:(fI t).2=min t.2 maxU - 1∨(fI t).2=min t.2 maxU:=by rw[e2];split <;> simp
 omega
theorem sF {l:List Spn}:∀s∈(gY l).map jq,qE - 1≤s.1∧s.2≤Aa+1:=fun s hs=>by
 obtain⟨t,ht,rfl⟩:=List.mem_map.1 hs;have h1:=wo t ht;have e1:(jq t).1=dY t.1:=rfl;have e2:(jq t).2=dY t.2:=rfl;have f:=lV t ht;rw[e1,e2];unfold dY;simp only[maxU,qE,Aa] at *
 omega
end Cl
namespace Cl
theorem mI {l:List Spn} {lo hi:Int} (h:∀s∈l,s.1≤s.2→lo≤s.1∧s.2≤hi):∀s∈eB l,lo≤s.1∧s.2≤hi:=
 pK (cB l).1 fun x hx=>by
  obtain⟨t,ht,h1,h2⟩:=((cB l).2 x).1 hx;have:=h t ht zo;omega
theorem zL {l:List Spn} {lo hi:Int} (h:∀s∈l,s.1≤s.2→lo≤s.1∧s.2≤hi):∀s∈eB l,lo≤s.1∧s.2≤hi∧s.1≤s.2:=
 fun s hs=>⟨(mI h s hs).1,(mI h s hs).2,(cB l).1.ok s hs⟩
def mE (s:Spn):Prop:=s.1≤s.2 → -1000000000000002≤s.1∧s.2≤1000000000000002
theorem mE.take {l:List Spn} (h:∀s∈l,mE s) (k:Nat):∀s∈l.take k,mE s:=fun s hs=>h s (List.mem_of_mem_take hs)
theorem K5 (s:Spn) (d:Bool) (out:List Spn):insS s d (out.drop out.length)=if d then [] else [s]:=by
 rw[List.drop_length];rfl
end Cl
namespace Cl
def aK (p:Nat→Bool):List Nat:=(List.range 256).filter p
def loOf (c:List Nat) (i:Nat):Nat:=c.getD i 0
def hiOf (c:List Nat) (i:Nat):Nat:=if i+1<c.length then c.getD (i+1) 0 - 1 else 255
theorem gD {p:Nat→Bool} {i j:Nat} (hij:i<j) (hj:j<(aK p).length):(aK p).getD i 0<(aK p).getD j 0:=by
 have h:(aK p).Pairwise (·<·):=List.pairwise_lt_range.filter p;have:=List.pairwise_iff_getElem.1 h i j zo hj hij;simpa [hj,Nat.lt_trans hij hj] using this
theorem um {p:Nat→Bool} {i:Nat} (hi:i<(aK p).length):(aK p).getD i 0<256∧p ((aK p).getD i 0)=true:=by
 have:(aK p).getD i 0∈aK p:=by simp[hi]
 simpa [aK] using this
theorem uk {p:Nat→Bool} {b:Nat} (hb:b<256) (hp:p b=true):∃j,j<(aK p).length∧(aK p).getD j 0=b:=by
 have:b∈aK p:=by simp[aK,hb,hp]
 obtain⟨j,hj,e⟩:=List.mem_iff_getElem.1 this;exact⟨j,hj,by simp[hj,e]⟩
theorem Ae {p:Nat→Bool} (h0:p 0=true):Ivs (loOf (aK p)) (hiOf (aK p)) (aK p).length ∧
 ∀i,i<(aK p).length→∀b,loOf (aK p) i<b→b≤hiOf (aK p) i→p b=false:=by
 have hle:∀i,i<(aK p).length→loOf (aK p) i≤hiOf (aK p) i∧hiOf (aK p) i<256:=by
  intro i hi;unfold loOf hiOf;have:=um hi
  split
  ·rename_i h;have:=gD (show i<i+1 by omega) h;have:=(um h).1;omega
  ·omega
 refine ⟨⟨hle,?_,?_⟩,?_⟩
 ·intro i j hij hj;unfold loOf hiOf;rw[if_pos zo];have h1:=gD (show i<i+1 by omega) (show i+1<(aK p).length by omega);by_cases c:i+1=j
  ·subst c;omega
  ·have h2:=gD (p:=p) (show i+1<j by omega) hj;omega
 ·intro b
  induction b with
  | zero=>
   intro _;obtain⟨j,hj,e⟩:=uk zo h0
   exact⟨j,hj,by unfold loOf;omega,zo⟩
  | succ b ih=>
   intro hb;obtain⟨i,hi,h1,h2⟩:=ih zo;by_cases c:b+1≤hiOf (aK p) i
   ·exact⟨i,hi,zo,c⟩
   ·have e:hiOf (aK p) i=b:=zo;unfold hiOf at e
    split at e
    ·rename_i h;have:=gD (show i<i+1 by omega) h;have hh:=hle (i+1) h;have:loOf (aK p) (i+1)=b+1:=by unfold loOf;omega
     exact⟨i+1,h,zo,zo⟩
    ·omega
 ·intro i hi b h1 h2
  cases hp:p b with
  | false=>rfl
  | true=>
   have hb:b<256:=by have:=(hle i hi).2;omega
   obtain⟨j,hj,e⟩:=uk hb hp;unfold loOf at h1;have hij:i<j:=by
    rcases Nat.lt_trichotomy i j with c | c | c
    ·exact c
    ·subst c;omega
    ·have:=gD c hi;omega
   unfold hiOf at h2;rw[if_pos zo] at h2;have h3:=gD (show i<i+1 by omega) (show i+1<(aK p).length by omega);by_cases c:i+1=j
   ·subst c;omega
   ·have:=gD (p:=p) (show i+1<j by omega) hj;omega
theorem CP {es:List Ed} {a b:Nat} (hab:a≤b) (h:∀c,a<c→c≤b→∀e∈es,e.lo≠c∧e.hi+1≠c):aS es b=aS es a:=by
 induction es with
 | nil=>rfl
 | cons e es ih=>
  have ih:=ih fun c h1 h2 x hx=>h c h1 h2 x (by simp[hx]);simp only[aS];by_cases c:e.lo≤a∧a≤e.hi
  ·rw[if_pos c,if_pos];refine ⟨zo,?_⟩;apply Nat.le_of_not_lt;intro d;exact (h (e.hi+1) zo zo e zS).2 rfl
  ·rw[if_neg c];by_cases d:e.lo≤b∧b≤e.hi
   ·exfalso;by_cases f:e.lo≤a
    ·omega
    ·exact (h e.lo zo zo e zS).1 rfl
   ·rw[if_neg d];exact ih
theorem Ap {es:List Ed} {b:Nat} (h:0≤aS es b):∃e∈es,e.to=aS es b:=by
 induction es with
 | nil=>simp[aS] at h
 | cons x es ih=>
  simp only[aS] at h ⊢
  split at h
  ·rename_i hc;exact⟨x,zS,by rw[if_pos hc]⟩
  ·rename_i hc;obtain⟨e,he,e2⟩:=ih h;exact⟨e,by simp[he],by rw[if_neg hc];exact e2⟩
def Marks (l:Table) (p:Nat→Bool):Prop:=p 0=true∧∀s∈l,∀e∈s.edges,∀b,b<256→(e.lo=b∨e.hi+1=b)→p b=true
theorem gV {l:Table} {p:Nat→Bool} (hp:Marks l p) {i b:Nat} (hi:i<(aK p).length) (h1:loOf (aK p) i≤b) (h2:b≤hiOf (aK p) i) (s:Int) :
 aV l s b=aV l s (loOf (aK p) i):=by
 obtain⟨hI,hg⟩:=Ae hp.1;by_cases c:s<0
 ·rw[gG c,gG c]
 ·by_cases d:s<l.length
  ·obtain⟨k,rfl⟩:=Int.eq_ofNat_of_zero_le (by omega:0≤s);rw[bP l k _ zo,bP l k _ zo];apply CP h1;intro c hc1 hc2 e he;have hf:=hg i hi c hc1 zo;have hc256:c<256:=by have:=(hI.le i hi).2;omega
   refine ⟨fun e1=>?_,fun e1=>?_⟩
   ·rw[hp.2 _ (List.getElem_mem zo) e he c hc256 (.inl e1)] at hf;cases hf
   ·rw[hp.2 _ (List.getElem_mem zo) e he c hc256 (.inr e1)] at hf;cases hf
  ·rw[df l s _ zo,df l s _ zo]
def snk (n:Nat) (x:Int):Int:=if x<0 then n else x
theorem xe {l:Table} (_:WF l) (s:Int) (b:Nat) (w:List UInt8):aF l (snk l.length (aV l s b)) w=aF l (aV l s b) w:=by
 unfold snk
 split
 ·rename_i h;rw[d9 l _ w (Int.le_refl _),bK h]
 ·rfl
theorem BG {l:Table} (hw:WF l) (s:Int) (b:Nat):0≤snk l.length (aV l s b)∧snk l.length (aV l s b)≤l.length:=by
 unfold snk;rcases dX hw s b with h | h
 ·rw[h];simp
 ·rw[if_neg zo];omega
theorem BB {l:Table} (hw:WF l) {p:Nat→Bool} (hp:Marks l p) :
 Bg l (l.length+1) (loOf (aK p)) (hiOf (aK p)) (aK p).length (fun s i=>snk l.length (aV l s (loOf (aK p) i))):=by
 refine ⟨(Ae hp.1).1,fun s i hs hi=>?_,fun s i hs hi b h1 h2 w=>?_,fun s t i hs ht hi h=>?_⟩
 ·have:=BG hw s (loOf (aK p) i);omega
 ·rw[gV hp hi h1 h2,xe hw]
 ·have:=BG hw s (loOf (aK p) i);omega
def Lv (l:Table) (s:Int):Prop:=∃w,aF l s w=true
theorem A9 {l:Table} (hw:WF l) {p:Nat→Bool} (hp:Marks l p) {cls:List Int} (hc:qh l (l.length+1) cls) {lives:Nat→Bool}
 (hl:∀s:Nat,s<l.length+1→(lives (cls.getD s 0).toNat=true↔Lv l s)) {ac:Nat→Bool} (ha:∀s:Nat,s<l.length+1→ac s=dP l s) (h0:Lv l 0) :
 mR l (l.length+1) (fun s=>cls.getD s 0)
  (fun s i=>if lives (cls.getD (snk l.length (aV l s (loOf (aK p) i))).toNat 0).toNat=true then some (snk l.length (aV l s (loOf (aK p) i))).toNat else none)
  (loOf (aK p)) (hiOf (aK p)) ac (aK p).length:=by
 have R:=fun (s i:Nat)=>BG hw s (loOf (aK p) i);have E:=fun (s i:Nat)=>Int.toNat_of_nonneg (R s i).1;refine ⟨(Ae hp.1).1,zo,fun s i t hs hi h=>?_,fun s i hs hi h b h1 h2 w=>?_,fun s t hs ht=>hc.eq s t hs ht,fun s hs=>ha s hs,h0⟩
 ·simp only[Option.ite_none_right_eq_some,Option.some.injEq] at h;obtain⟨h1,h2⟩:=h;have r:=R s i;have e:=E s i;have ht:t<l.length+1:=zo;rw[h2] at h1 e;refine ⟨ht,(hl t ht).1 h1,fun b b1 b2 w=>?_⟩;rw[gV hp hi b1 b2,← xe hw,← e]
 ·simp only[ite_eq_right_iff,reduceCtorEq,imp_false] at h;have r:=R s i;have e:=E s i;rw[gV hp hi h1 h2,← xe hw,← e];rw[hl _ zo] at h
  cases hx:aF l ((snk l.length (aV l s (loOf (aK p) i))).toNat:Int) w with
  | false=>rfl
  | true=>exact absurd ⟨w,hx⟩ h
def dE (l:Table) (lives:Nat→Bool):Table:=l.map fun s=>⟨s.accept,s.edges.filter fun e=>lives e.to.toNat⟩
theorem Aq {n:Nat} {es:List Ed} {lives:Nat→Bool}:∀{p:Int},aU n p es→∀b,
 aS (es.filter fun e=>lives e.to.toNat) b=if 0≤aS es b∧lives (aS es b).toNat=true then aS es b else -1:=by
 induction es with
 | nil=>intro p _ b;simp[aS]
 | cons e es ih=>
  intro p ⟨h1,h2,h3,h4,h5⟩ b;have ih:=ih h5 b;rw[List.filter_cons];by_cases c:e.lo≤b∧b≤e.hi
  ·have hb:aS es b = -1:=jZ h5 zo;simp only[aS,if_pos c]
   split
   ·rename_i hl;rw[if_pos ⟨h2,hl⟩];simp[aS,c]
   ·rename_i hl;rw[if_neg (fun h=>hl h.2),ih,hb];simp
  ·simp only[aS,if_neg c]
   split
   ·simp only[aS,if_neg c];exact ih
   ·exact ih
theorem uG {n:Nat} {es:List Ed} {q:Ed→Bool}:∀{p:Int},aU n p es→aU n p (es.filter q):=by
 induction es with
 | nil=>intro p _;trivial
 | cons e es ih=>
  intro p ⟨h1,h2,h3,h4,h5⟩;rw[List.filter_cons]
  split
  ·exact⟨h1,h2,h3,h4,ih h5⟩
  ·exact rE (ih h5) zo
theorem BA {l:Table} (hw:WF l) (lives:Nat→Bool):WF (dE l lives):=by
 intro s hs;obtain⟨x,hx,rfl⟩:=List.mem_map.1 hs;have:=uG (q:=fun e=>lives e.to.toNat) (hw x hx);simpa [dE] using this
theorem EU {l:Table} (hw:Bytes l) (lives:Nat→Bool):Bytes (dE l lives):=by
 intro s hs;obtain⟨x,hx,rfl⟩:=List.mem_map.1 hs;intro e he;exact hw x hx e (List.mem_filter.1 he).1
theorem Hr {l:Table} (hw:WF l) (lives:Nat→Bool) (s:Nat) (hs:s<l.length) (b:Nat) :
 aV (dE l lives) s b=if 0≤aV l s b∧lives (aV l s b).toNat=true then aV l s b else -1:=by
 rw[bP _ s b (by simpa [dE] using hs),bP l s b hs];simp only[dE,List.getElem_map];exact Aq (hw _ (List.getElem_mem hs)) b
theorem rT {l:Table} (hw:WF l) {lives:Nat→Bool} (hl:∀s:Nat,s<l.length→(lives s=true↔Lv l s)):∀(w:List UInt8) (s:Int),aF (dE l lives) s w=aF l s w:=by
 have hlen:(dE l lives).length=l.length:=by simp[dE]
 intro w
 induction w with
 | nil=>
  intro s;simp only[aF];by_cases c:s<0
  ·simp[dP,c]
  ·by_cases d:s<l.length
   ·obtain⟨k,rfl⟩:=Int.eq_ofNat_of_zero_le (by omega:0≤s);rw[dG _ k zo,dG _ k zo];simp[dE]
   ·have h1:=d9 (dE l lives) s [] zo;have h2:=d9 l s [] zo;simp only[aF] at h1 h2
    rw[h1,h2]
 | cons b w ih=>
  intro s;simp only[aF];rw[ih];by_cases c:s<0
  ·rw[gG c,gG c]
  ·by_cases d:s<l.length
   ·obtain⟨k,rfl⟩:=Int.eq_ofNat_of_zero_le (by omega:0≤s);rw[Hr hw lives k zo]
    split
    ·rfl
    ·rename_i hn;rw[bK zo];rcases dX hw k b.toNat with h | ⟨h1,h2⟩
     ·rw[h,bK zo]
     ·cases hx:aF l (aV l k b.toNat) w with
      | false=>rfl
      | true=>
       exfalso;apply hn;refine ⟨h1,(hl _ zo).2 ⟨w,?_⟩⟩;rw[Int.toNat_of_nonneg h1];exact hx
   ·rw[df _ _ _ zo,df _ _ _ zo]
theorem pg {l:Table} (hw:WF l) {p:Nat→Bool} (hp:Marks l p) (ht:∀s∈l,∀e∈s.edges,Lv l e.to) :
 Bg l l.length (loOf (aK p)) (hiOf (aK p)) (aK p).length (fun s i=>aV l s (loOf (aK p) i)):=by
 have hlive:∀(s:Nat) (b:Nat),0≤aV l s b→Lv l (aV l s b):=by
  intro s b h;by_cases c:s<l.length
  ·rw[bP l s b c] at h ⊢;obtain⟨e,he,e2⟩:∃e∈(l[s]).edges,e.to=aS (l[s]).edges b:=by
    generalize (l[s]).edges=es at h
    induction es with
    | nil=>simp[aS] at h
    | cons x es ih=>
     simp only[aS] at h ⊢
     split at h
     ·rename_i hc;exact⟨x,zS,by rw[if_pos hc]⟩
     ·rename_i hc;obtain⟨e,he,e2⟩:=ih h;exact⟨e,by simp[he],by rw[if_neg hc];exact e2⟩
   rw[← e2];exact ht _ (List.getElem_mem c) e he
  ·rw[df l s b zo] at h;omega
 refine ⟨(Ae hp.1).1,fun s i hs hi=>?_,fun s i hs hi b h1 h2 w=>?_,fun s t i hs ht' hi h hf=>?_⟩
 ·rcases dX hw s (loOf (aK p) i) with h | h <;> omega
 ·rw[gV hp hi h1 h2]
 ·rcases dX hw t (loOf (aK p) i) with h | ⟨h1,h2⟩
  ·exact h
  ·obtain⟨w,hw'⟩:=hlive t _ h1;rw[hf w] at hw';cases hw'
theorem Dg {l:Table} (hw:WF l) {p:Nat→Bool} (hp:Marks l p) (ht:∀s∈l,∀e∈s.edges,Lv l e.to) {cls:List Int} (hc:qh l l.length cls)
 {ac:Nat→Bool} (ha:∀s:Nat,s<l.length→ac s=dP l s) (h0:Lv l 0) (hpos:0<l.length) :
 mR l l.length (fun s=>cls.getD s 0)
  (fun s i=>if aV l s (loOf (aK p) i)<0 then none else some (aV l s (loOf (aK p) i)).toNat)
  (loOf (aK p)) (hiOf (aK p)) ac (aK p).length:=by
 have H:=pg hw hp ht;have hlive:∀(s:Nat) (i:Nat),s<l.length→i<(aK p).length→0≤aV l s (loOf (aK p) i)→Lv l (aV l s (loOf (aK p) i)):=by
  intro s i hs hi h;apply Classical.byContradiction;intro hn;have hf:∀w,aF l (aV l s (loOf (aK p) i)) w=false:=fun w=>by
   cases hx:aF l (aV l s (loOf (aK p) i)) w with
   | false=>rfl
   | true=>exact absurd ⟨w,hx⟩ hn
  rw[bP l s _ hs] at h hn;obtain⟨e,he,e2⟩:∃e∈(l[s]).edges,e.to=aS (l[s]).edges (loOf (aK p) i):=by
   generalize (l[s]).edges=es at h
   induction es with
   | nil=>simp[aS] at h
   | cons x es ih=>
    simp only[aS] at h ⊢
    split at h
    ·rename_i hc;exact⟨x,zS,by rw[if_pos hc]⟩
    ·rename_i hc;obtain⟨e,he,e2⟩:=ih h;exact⟨e,by simp[he],by rw[if_neg hc];exact e2⟩
  rw[← e2] at hn;exact hn (ht _ (List.getElem_mem hs) e he)
 refine ⟨(Ae hp.1).1,hpos,fun s i t hs hi h=>?_,fun s i hs hi h b h1 h2 w=>?_,fun s t hs ht=>hc.eq s t hs ht,fun s hs=>ha s hs,h0⟩
 ·split at h
  ·cases h
  ·rename_i hn;simp only[Option.some.injEq] at h;have r:=dX hw s (loOf (aK p) i);have e:((t:Nat):Int)=aV l s (loOf (aK p) i):=zo;refine ⟨zo,?_,fun b b1 b2 w=>?_⟩
   ·rw[e];exact hlive s i hs hi zo
   ·rw[gV hp hi b1 b2,← e]
 ·split at h
  ·rename_i hn;rw[gV hp hi h1 h2];exact bK hn w
  ·cases h
def eD (o:List Nat) (t:Nat):Nat:=bZ (fun s=>(s:Int)) o t
def MU (o:List Nat) (s:Sn):Sn:=⟨s.accept,s.edges.map fun e=>⟨e.lo,e.hi,(eD o e.to.toNat:Int)⟩⟩
structure ky (l:Table) (o:List Nat) (k:Nat):Prop where
 first:o[0]?=some 0
 nodup:o.Nodup
 lt:∀x∈o,x<l.length
 le:k≤o.length
 there:∀j,(h:j<k)→(h':j<o.length)→∀s,l[o[j]]?=some s→∀e∈s.edges,e.to.toNat∈o
def fE (l:Table) (o:List Nat) (k:Nat):Table:=(o.take k).map fun x=>MU o (l.getD x ⟨false,[]⟩)
theorem N8 {o:List Nat} (h:o.Nodup):Dif (fun s=>(s:Int)) o:=by
 refine List.Pairwise.imp ?_ h;intro a b hab h';exact hab (by have h':(a:Int)=b:=h';omega)
theorem lg {o:List Nat} {t:Nat} (h:t∈o):∃hp:eD o t<o.length,o[eD o t]=t:=by
 have hp:eD o t<o.length:=List.findIdx_lt_length.2 ⟨t,h,zS⟩;refine ⟨hp,?_⟩;have:=kX (cf:=fun s=>(s:Int)) (o:=o) (t:=t) hp;have:((o[eD o t]:Nat):Int)=(t:Int):=this;omega
theorem CK {n:Nat} {o:List Nat} {es:List Ed}:∀{p:Int},aU n p es→∀b,
 aS (es.map fun e=>(⟨e.lo,e.hi,(eD o e.to.toNat:Int)⟩:Ed)) b=if aS es b<0 then -1 else (eD o (aS es b).toNat:Int):=by
 induction es with
 | nil=>intro p _ b;simp[aS]
 | cons e es ih=>
  intro p ⟨h1,h2,h3,h4,h5⟩ b;have ih:=ih h5 b;simp only[List.map_cons];by_cases c:e.lo≤b∧b≤e.hi
  ·have e1:aS (e::es) b=e.to:=by simp[aS,c]
   have e2:∀fs,aS (⟨e.lo,e.hi,(eD o e.to.toNat:Int)⟩::fs) b=(eD o e.to.toNat:Int):=fun fs=>by simp[aS,c]
   rw[e2];simp only[e1];rw[if_neg zo]
  ·have e1:aS (e::es) b=aS es b:=by simp only[aS];rw[if_neg c]
   have e2:∀fs,aS (⟨e.lo,e.hi,(eD o e.to.toNat:Int)⟩::fs) b=aS fs b:=fun fs=>by simp only[aS];rw[if_neg c]
   rw[e2];simp only[e1];exact ih
theorem wL {n m:Nat} {o:List Nat} {es:List Ed}:∀{p:Int},aU n p es→(∀e∈es,eD o e.to.toNat<m)→aU m p (es.map fun e=>(⟨e.lo,e.hi,(eD o e.to.toNat:Int)⟩:Ed)):=by
 induction es with
 | nil=>intro p _ _;trivial
 | cons e es ih=>
  intro p ⟨h1,h2,h3,h4,h5⟩ hm;exact⟨h1,zS,by have:=hm e zS;simp;omega,h4,ih h5 fun x hx=>hm x (by simp[hx])⟩
theorem II {l:Table} (hw:WF l) (hb:Bytes l) {o:List Nat} (h:ky l o o.length) :
 WF (fE l o o.length)∧Bytes (fE l o o.length)∧(fE l o o.length).length=o.length∧∀w,aF (fE l o o.length) 0 w=aF l 0 w:=by
 have hlen:(fE l o o.length).length=o.length:=by simp[fE]
 have hst:∀j,(hj:j<o.length)→(fE l o o.length)[j]'zo=MU o (l[o[j]]'(h.lt _ (List.getElem_mem hj))):=by
  intro j hj;have hx:=h.lt _ (List.getElem_mem hj);simp[fE,hx]
 have hed:∀j,(hj:j<o.length)→∀e∈(l[o[j]]'(h.lt _ (List.getElem_mem hj))).edges,e.to.toNat∈o:=by
  intro j hj e he;have hx:=h.lt _ (List.getElem_mem hj);exact h.there j hj hj _ (List.getElem?_eq_getElem hx) e he
 have hlang:∀w,∀j,(hj:j<o.length)→aF (fE l o o.length) j w=aF l o[j] w:=by
  intro w
  induction w with
  | nil=>
   intro j hj;have hx:=h.lt _ (List.getElem_mem hj);simp only[aF];rw[dG _ j zo,dG _ _ hx,hst j hj]
   rfl
  | cons b w ih=>
   intro j hj;have hx:=h.lt _ (List.getElem_mem hj);simp only[aF];rw[bP _ j _ zo,bP _ _ _ hx,hst j hj];have hwj:=hw _ (List.getElem_mem hx);have:=CK (o:=o) hwj b.toNat;show aF _ (aS ((l[o[j]]).edges.map _) b.toNat) w=_;rw[this];rcases nI hwj b.toNat with e | ⟨e1,e2⟩
   ·rw[e];simp only[show (-1:Int)<0 by omega,if_true];rw[bK zo,bK zo]
   ·rw[if_neg zo];obtain⟨e,he,e3⟩:=Ap e1;have hm:=hed j hj e he;rw[e3] at hm;obtain⟨hp,hg⟩:=lg hm;rw[ih _ hp,hg,Int.toNat_of_nonneg e1]
 have h0:0<o.length:=by
  have:=h.first
  cases o with
  | nil=>simp at this
  | cons _ _=>simp
 have ho0:o[0]=0:=by
  obtain⟨h1,e⟩:=List.getElem?_eq_some_iff.1 h.first;exact e
 refine ⟨?_,?_,hlen,fun w=>?_⟩
 ·intro s hs;obtain⟨j,hj,rfl⟩:=List.mem_iff_getElem.1 hs;rw[hlen] at hj;rw[hst j hj];refine wL (hw _ (List.getElem_mem _)) fun e he=>?_;rw[hlen];exact (lg (hed j hj e he)).1
 ·intro s hs;obtain⟨j,hj,rfl⟩:=List.mem_iff_getElem.1 hs;rw[hlen] at hj;rw[hst j hj];intro e he;obtain⟨x,hx,rfl⟩:=List.mem_map.1 he;exact hb _ (List.getElem_mem _) x hx
 ·have:=hlang w 0 h0;rw[ho0] at this;exact this
end Cl
namespace Cl
theorem qC {cf:Nat→Int} {o:List Nat} (h:Dif cf o):o.Nodup:=List.Pairwise.imp (fun hab e=>hab (by rw[e])) h
theorem jw {cf:Nat→Int} {o:List Nat} {N:Nat} (h:Dif cf o) (hl:∀x∈o,x<N):o.length≤N:=by
 have:=gJ o (List.range N) (qC h) (fun x hx=>List.mem_range.2 (hl x hx));simpa using this
def posC (cf:Nat→Int) (o:List Nat) (c:Int):Nat:=o.findIdx fun s=>cf s==c
theorem Cc (cf:Nat→Int) (o:List Nat) (t:Nat):posC cf o (cf t)=bZ cf o t:=rfl
theorem KI (cf:Nat→Int) (o:List Nat) (t:Nat) (c:Int):posC cf (o ++ [t]) c=if posC cf o c<o.length then posC cf o c else if cf t=c then o.length else o.length+1:=by
 unfold posC;rw[List.findIdx_append]
 split
 ·rfl
 ·by_cases h:cf t=c
  ·simp[h]
  ·simp[h];omega
theorem vL {fs:List Ed} {e:Ed} {lo hi to:Nat} (h:¬ (e.to=to∧e.hi+1=lo)):gQ (fs ++ [e]) lo hi to=(fs ++ [e]) ++ [⟨lo,hi,to⟩]:=by
 unfold gQ;simp[h]
theorem vK {fs:List Ed} {e:Ed} {lo hi to:Nat} (h:e.to=to∧e.hi+1=lo):gQ (fs ++ [e]) lo hi to=fs ++ [⟨e.lo,hi,e.to⟩]:=by
 unfold gQ;simp[h]
theorem FC (es:List Ed) (lo hi to:Nat):(gQ es lo hi to).length≤es.length+1:=by
 unfold gQ
 split
 ·split <;> simp
 ·simp
theorem zf (cf:Nat→Int) (dl:Nat→Nat→Option Nat) (lo hi:Nat→Nat) (s:Nat) (o:List Nat):∀i,(bD cf dl lo hi s o i).2.length≤i:=by
 intro i
 induction i with
 | zero=>simp[bD]
 | succ i ih=>
  simp only[bD]
  split
  ·omega
  ·have:=FC (bD cf dl lo hi s o i).2 (lo i) (hi i) (bZ cf (bD cf dl lo hi s o i).1 (by assumption));simp only;omega
theorem vI {cf:Nat→Int} {dl:Nat→Nat→Option Nat} {lo hi:Nat→Nat} {s:Nat} {o:List Nat} {i:Nat} (h:dl s i=none):bD cf dl lo hi s o (i+1)=bD cf dl lo hi s o i:=by simp[bD,h]
theorem vH {cf:Nat→Int} {dl:Nat→Nat→Option Nat} {lo hi:Nat→Nat} {s:Nat} {o:List Nat} {i t:Nat} (h:dl s i=some t) :
 bD cf dl lo hi s o (i+1)=(bN cf (bD cf dl lo hi s o i).1 t,gQ (bD cf dl lo hi s o i).2 (lo i) (hi i) (bZ cf (bD cf dl lo hi s o i).1 t)):=by simp[bD,h]
theorem q9 {cf:Nat→Int} {dl:Nat→Nat→Option Nat} {lo hi:Nat→Nat} {K N s:Nat} {o:List Nat} {i:Nat} {r:List Nat × List Ed} (h:EC cf dl lo hi K N s o i r) (hN:N≤2000000) :
 ∀e∈r.2,e.lo<256∧e.hi<256 ∧ -9223372036854775808≤e.to∧e.to≤9223372036854775807:=by
 intro e he;have h1:=h.bytes e he;have h2:=eO h.wf e he;have h3:=jw h.dif h.lt;exact⟨h1.1,h1.2,zo,zo⟩
end Cl
