/- Lemmas for the proofs of chapter 11. -/
import Derived.WalkKit
import Derived.Deep.QuietTactic
import Derived.Test.YtdgjplfcpcphoaaGreatDoorProg
import Derived.Deep.Slices
import Derived.Lib.SmallJoins
import Derived.ChangeMaps5
import Derived.Carry
import Derived.KernelRfl
import Derived.ChangeArms
import Derived.OrdersHeld
import Derived.Deep.RegionHeld
import Derived.Shelf.SlSortCmp.WholeK
import Derived.Test.YtdgjplfcpcphoaaGreatDoorZz
import Derived.Test.YtdgjplfcpcphoaaGreatDoorPkX3
import Derived.Test.YtdgjplfcpcphoaaGreatDoorPkX1
import Derived.Test.YtdgjplfcpcphoaaGreatDoorPkX2
set_option maxRecDepth 100000
set_option maxHeartbeats 16000000
namespace Cl
open Go Go.RowKit
structure Sl where
 i:Value
 f:Value
 t:Value
 l:Value
 s:Value
structure kN (m:Mem) (b o:Nat) (x:Sl) (v:Vl):Prop where
 a:m.cell b o=some (.bool v.any)
 n:m.cell b (o+1)=some (.bool v.s.nul)
 f:m.cell b (o+2)=some (.bool v.s.fal)
 t:m.cell b (o+3)=some (.bool v.s.tru)
 si:m.cell b (o+4)=some x.i
 sf:m.cell b (o+5)=some x.f
 st:m.cell b (o+6)=some x.t
 l:m.cell b (o+7)=some x.l
 s:m.cell b (o+8)=some x.s
theorem kN.le {m m':Mem} (h:m.le m') {b o:Nat} {x:Sl} {v:Vl} (k:kN m b o x v):kN m' b o x v:=
 ⟨Mem.aA h k.a,Mem.aA h k.n,Mem.aA h k.f,Mem.aA h k.t,Mem.aA h k.si,Mem.aA h k.sf,Mem.aA h k.st,Mem.aA h k.l,Mem.aA h k.s⟩
def VdAt (R:Sl→Vl→Prop) (m:Mem) (b o:Nat) (d:Vd):Prop:=∃x y,kN m b o x d.1∧R x d.1∧kN m b (o+9) y d.2∧R y d.2
def bP (R:Sl→Vl→Prop) (m:Mem) (v:Value) (l:List Vd):Prop:=Mem.slice (VdAt R m) 18 v l
def LcAt (R:Sl→Vl→Prop) (m:Mem) (b o:Nat) (c:Lc):Prop:=∃u u',m.cell b o=some u∧m.cell b (o+1)=some u'∧bP R m u c.1∧bP R m u' c.2
structure FdAt (R:Sl→Vl→Prop) (m:Mem) (b o:Nat) (f:Fd):Prop where
 s:m.cell b o=some (.string f.1.1)
 sz:f.1.1.size≤maxLen
 p:m.cell b (o+1)=some (.int .i64 f.1.2)
 pr : -9223372036854775808≤f.1.2∧f.1.2≤9223372036854775807
 v:VdAt R m b (o+2) f.2
structure KlAt (R:Sl→Vl→Prop) (m:Mem) (b o:Nat) (k:Kl):Prop where
 s:∃u,m.cell b o=some u∧aR m u k.1
 v:VdAt R m b (o+1) k.2
def gI (R:Sl→Vl→Prop) (m:Mem) (v:Value) (l:List Fd):Prop:=Mem.slice (FdAt R m) 20 v l
def fV (R:Sl→Vl→Prop) (m:Mem) (v:Value) (l:List Kl):Prop:=Mem.slice (KlAt R m) 19 v l
def StAt (R:Sl→Vl→Prop) (m:Mem) (b o:Nat) (c:St):Prop:=∃u u',m.cell b o=some u∧m.cell b (o+1)=some u'∧gI R m u c.1∧fV R m u' c.2
def MI (R:Sl→Vl→Prop) (m:Mem) (v:Value) (l:List Lc):Prop:=Mem.slice (LcAt R m) 2 v l
def MG (R:Sl→Vl→Prop) (m:Mem) (v:Value) (l:List St):Prop:=Mem.slice (StAt R m) 2 v l
def VAt (m:Mem):Nat→Sl→Vl→Prop
 | 0,_,_=>False
 | n+1,x,v=>ScAt m x.i x.f x.t v.s∧MI (VAt m n) m x.l v.lists∧MG (VAt m n) m x.s v.structs
section
variable {R R':Sl→Vl→Prop} {m m':Mem}
theorem VdAt.le (h:m.le m') (hr:∀x v,R x v→R' x v) {b o:Nat} {d:Vd} (k:VdAt R m b o d):VdAt R' m' b o d:=by
 obtain⟨x,y,h1,h2,h3,h4⟩:=k;exact⟨x,y,h1.le h,hr _ _ h2,h3.le h,hr _ _ h4⟩
theorem bP.le (h:m.le m') (hr:∀x v,R x v→R' x v) {v:Value} {l:List Vd} (k:bP R m v l):bP R' m' v l:=Mem.fU k fun _ _ _=>VdAt.le h hr
theorem LcAt.le (h:m.le m') (hr:∀x v,R x v→R' x v) {b o:Nat} {c:Lc} (k:LcAt R m b o c):LcAt R' m' b o c:=by
 obtain⟨x,y,h1,h2,h3,h4⟩:=k;exact⟨x,y,Mem.aA h h1,Mem.aA h h2,h3.le h hr,h4.le h hr⟩
theorem FdAt.le (h:m.le m') (hr:∀x v,R x v→R' x v) {b o:Nat} {c:Fd} (k:FdAt R m b o c):FdAt R' m' b o c:=⟨Mem.aA h k.s,k.sz,Mem.aA h k.p,k.pr,k.v.le h hr⟩
theorem KlAt.le (h:m.le m') (hr:∀x v,R x v→R' x v) {b o:Nat} {c:Kl} (k:KlAt R m b o c):KlAt R' m' b o c:=by
 obtain⟨u,h1,h2⟩:=k.s;exact⟨⟨u,Mem.aA h h1,bu h h2⟩,k.v.le h hr⟩
theorem gI.le (h:m.le m') (hr:∀x v,R x v→R' x v) {v:Value} {l:List Fd} (k:gI R m v l):gI R' m' v l:=Mem.fU k fun _ _ _=>FdAt.le h hr
theorem fV.le (h:m.le m') (hr:∀x v,R x v→R' x v) {v:Value} {l:List Kl} (k:fV R m v l):fV R' m' v l:=Mem.fU k fun _ _ _=>KlAt.le h hr
theorem StAt.le (h:m.le m') (hr:∀x v,R x v→R' x v) {b o:Nat} {c:St} (k:StAt R m b o c):StAt R' m' b o c:=by
 obtain⟨x,y,h1,h2,h3,h4⟩:=k;exact⟨x,y,Mem.aA h h1,Mem.aA h h2,h3.le h hr,h4.le h hr⟩
theorem MI.le (h:m.le m') (hr:∀x v,R x v→R' x v) {v:Value} {l:List Lc} (k:MI R m v l):MI R' m' v l:=Mem.fU k fun _ _ _=>LcAt.le h hr
theorem MG.le (h:m.le m') (hr:∀x v,R x v→R' x v) {v:Value} {l:List St} (k:MG R m v l):MG R' m' v l:=Mem.fU k fun _ _ _=>StAt.le h hr
end
theorem VAt.le {m m':Mem} (h:m.le m'):∀{n:Nat} {x:Sl} {v:Vl},VAt m n x v→VAt m' n x v
 | 0,_,_,k=>k.elim
 | _+1,_,_,k=>⟨k.1.le h,k.2.1.le h fun _ _=>VAt.le h,k.2.2.le h fun _ _=>VAt.le h⟩
theorem VAt.succ {m:Mem}:∀{n:Nat} {x:Sl} {v:Vl},VAt m n x v→VAt m (n+1) x v
 | 0,_,_,k=>k.elim
 | _+1,_,_,k=>⟨k.1,k.2.1.le (Mem.le_refl m) fun _ _=>VAt.succ,k.2.2.le (Mem.le_refl m) fun _ _=>VAt.succ⟩
theorem VAt.mono {m:Mem} {n n':Nat} {x:Sl} {v:Vl} (k:VAt m n x v) (h:n≤n'):VAt m n' x v:=by
 induction h with
 | refl=>exact k
 | step _ ih=>exact ih.succ
theorem lg {α:Type} {R:Nat→Nat→α→Prop} {size:Nat} {v:Value} {l:List α} (h:Mem.slice R size v l) {x:α} (hx:x∈l):∃b o,R b o x:=by
 obtain⟨a,c,-,-,-,h4⟩:=h;obtain⟨i,hi,rfl⟩:=List.getElem_of_mem hx;obtain⟨b,off,-,h5⟩:=h4 (fun e=>by rw[e] at hi;simp at hi);exact⟨b,_,h5 i hi⟩
theorem cu {α:Type} (R:Nat→Nat→α→Prop) (size:Nat):Mem.slice R size (.slice none 0 0) []:=⟨none,0,rfl,Nat.le_refl _,by simp[maxLen],fun h=>absurd rfl h⟩
theorem bP.all {R:Sl→Vl→Prop} {m:Mem} {v:Value} {l:List Vd} (h:bP R m v l) {d:Vd} (hd:d∈l):(∃x,R x d.1)∧∃x,R x d.2:=by
 obtain⟨b,o,x,y,-,h1,-,h2⟩:=lg h hd;exact⟨⟨x,h1⟩,y,h2⟩
theorem VAt.kids {m:Mem} {n:Nat} {x:Sl} {v:Vl} (h:VAt m (n+1) x v) {d:Vd} (hd:d∈v.kids):(∃x,VAt m n x d.1)∧∃x,VAt m n x d.2:=by
 rcases List.mem_append.1 hd with hd | hd
 ·obtain⟨c,hc,hd⟩:=List.mem_flatMap.1 hd;obtain⟨b,o,u,u',-,-,h1,h2⟩:=lg h.2.1 hc;rcases List.mem_append.1 hd with hd | hd
  ·exact h1.all hd
  ·exact h2.all hd
 ·obtain⟨c,hc,hd⟩:=List.mem_flatMap.1 hd;obtain⟨b,o,u,u',-,-,h1,h2⟩:=lg h.2.2 hc;rcases List.mem_append.1 hd with hd | hd
  ·obtain⟨f,hf,rfl⟩:=List.mem_map.1 hd;obtain⟨b,o,h3⟩:=lg h1 hf;obtain⟨x,y,-,h4,-,h5⟩:=h3.v;exact⟨⟨x,h4⟩,y,h5⟩
  ·obtain⟨f,hf,rfl⟩:=List.mem_map.1 hd;obtain⟨b,o,h3⟩:=lg h2 hf;obtain⟨x,y,-,h4,-,h5⟩:=h3.v;exact⟨⟨x,h4⟩,y,h5⟩
theorem VAt.ht {m:Mem}:∀{n:Nat} {x:Sl} {v:Vl},VAt m n x v→Ht n v
 | 0,_,_,k=>k.elim
 | n+1,_,_,k=>fun d hd=>by
  obtain⟨⟨x,h1⟩,y,h2⟩:=k.kids hd;exact⟨h1.ht,h2.ht⟩
def nine (v:Vl) (s:Sl):List Value:=[.bool v.any,.bool v.s.nul,.bool v.s.fal,.bool v.s.tru,s.i,s.f,s.t,s.l,s.s]
def dcs (d:Vd) (x y:Sl):List Value:=nine d.1 x ++ nine d.2 y
theorem uM (d:Vd) (x y:Sl):(dcs d x y).length=18:=rfl
theorem kN.get {m:Mem} {b o:Nat} {x:Sl} {v:Vl} (h:kN m b o x v) {j:Nat} {u:Value} (hj:(nine v x)[j]?=some u):m.cell b (o+j)=some u:=by
 match j,hj with
 | 0,hj=>cases hj;exact h.a
 | 1,hj=>cases hj;exact h.n
 | 2,hj=>cases hj;exact h.f
 | 3,hj=>cases hj;exact h.t
 | 4,hj=>cases hj;exact h.si
 | 5,hj=>cases hj;exact h.sf
 | 6,hj=>cases hj;exact h.st
 | 7,hj=>cases hj;exact h.l
 | 8,hj=>cases hj;exact h.s
 | j+9,hj=>simp[nine] at hj
theorem kN.of {m:Mem} {b o:Nat} {x:Sl} {v:Vl} (h:∀j u,(nine v x)[j]?=some u→m.cell b (o+j)=some u):kN m b o x v:=
 ⟨h 0 _ rfl,h 1 _ rfl,h 2 _ rfl,h 3 _ rfl,h 4 _ rfl,h 5 _ rfl,h 6 _ rfl,h 7 _ rfl,h 8 _ rfl⟩
theorem kN.w {m:Mem} {b o:Nat} {x:Sl} {v:Vl} {w:World} (h:kN m b o x v) (k:m.inn w) :
 w.cell? ⟨b,o,none⟩=some (.bool v.any)∧w.cell? ⟨b,o+1,none⟩=some (.bool v.s.nul)∧w.cell? ⟨b,o+2,none⟩=some (.bool v.s.fal)∧w.cell? ⟨b,o+3,none⟩=some (.bool v.s.tru)∧w.cell? ⟨b,o+4,none⟩=some x.i∧w.cell? ⟨b,o+5,none⟩=some x.f∧w.cell? ⟨b,o+6,none⟩=some x.t∧w.cell? ⟨b,o+7,none⟩=some x.l∧w.cell? ⟨b,o+8,none⟩=some x.s:=
 ⟨Mem.aj k h.a,Mem.aj k h.n,Mem.aj k h.f,Mem.aj k h.t,Mem.aj k h.si,Mem.aj k h.sf,Mem.aj k h.st,Mem.aj k h.l,Mem.aj k h.s⟩
structure VRow (R:Sl→Vl→Prop) (xs:List Value) (l:List Vd):Prop where
 len:xs.length=l.length*18
 at':∀i (h:i<l.length),∃x y,(∀j u,(dcs l[i] x y)[j]?=some u→xs[i*18+j]?=some u)∧R x l[i].1∧R y l[i].2
theorem VRow.nil (R:Sl→Vl→Prop):VRow R [] []:=⟨rfl,fun i h=>by simp at h⟩
theorem VRow.mono {R R':Sl→Vl→Prop} {xs:List Value} {l:List Vd} (h:VRow R xs l) (hr:∀x v,R x v→R' x v):VRow R' xs l:=
 ⟨h.len,fun i hi=>let ⟨x,y,h1,h2,h3⟩:=h.at' i hi;⟨x,y,h1,hr _ _ h2,hr _ _ h3⟩⟩
theorem VRow.append {R:Sl→Vl→Prop} {xs ys:List Value} {l k:List Vd} (h:VRow R xs l) (g:VRow R ys k):VRow R (xs ++ ys) (l ++ k):=by
 refine ⟨by simp[h.len,g.len];omega,fun i hi=>?_⟩;by_cases c:i<l.length
 ·obtain⟨x,y,h1,h2⟩:=h.at' i c;rw[List.getElem_append_left c];exact⟨x,y,fun j u hj=>by
   have hx:=h1 j u hj;rw[List.getElem?_append_left (List.getElem?_eq_some_iff.1 hx).1];exact hx,h2⟩
 ·obtain⟨x,y,h1,h2⟩:=g.at' (i - l.length) (by simp at hi;omega);rw[List.getElem_append_right zo];exact⟨x,y,fun j u hj=>by
   have hx:=h1 j u hj;rw[List.getElem?_append_right (by rw[h.len];omega),h.len];rw[show i*18+j - l.length*18=(i - l.length)*18+j by omega];exact hx,h2⟩
theorem VRow.one {R:Sl→Vl→Prop} {d:Vd} {x y:Sl} (hx:R x d.1) (hy:R y d.2):VRow R (dcs d x y) [d]:=
 ⟨by simp[uM],fun i hi=>by
  obtain rfl:i=0:=by simpa using hi
  exact⟨x,y,fun j u hj=>by simpa using hj,hx,hy⟩⟩
theorem VRow.push {R:Sl→Vl→Prop} {xs:List Value} {l:List Vd} (h:VRow R xs l) {d:Vd} {x y:Sl} (hx:R x d.1) (hy:R y d.2):VRow R (xs ++ dcs d x y) (l ++ [d]):=h.append (.one hx hy)
theorem VdAt.cells {R:Sl→Vl→Prop} {m:Mem} {b o:Nat} {d:Vd} (h:VdAt R m b o d):∃x y,(∀j u,(dcs d x y)[j]?=some u→m.cell b (o+j)=some u)∧R x d.1∧R y d.2:=by
 obtain⟨x,y,h1,h2,h3,h4⟩:=h;refine ⟨x,y,fun j u hj=>?_,h2,h4⟩;by_cases c:j<9
 ·rw[dcs,List.getElem?_append_left (by simpa [nine] using c)] at hj;exact h1.get hj
 ·rw[dcs,List.getElem?_append_right (by simp[nine];omega),show (nine d.1 x).length=9 from rfl] at hj;have:=h3.get hj
  rwa [show o+9+(j - 9)=o+j by omega] at this
theorem VdAt.w {R:Sl→Vl→Prop} {m:Mem} {b o:Nat} {d:Vd} {w:World} (h:VdAt R m b o d) (k:m.inn w) :
 ∃x y,R x d.1∧R y d.2∧b<w.heap.size∧w.cell? ⟨b,o,none⟩=some (.bool d.1.any)∧w.cell? ⟨b,o+1,none⟩=some (.bool d.1.s.nul)∧w.cell? ⟨b,o+2,none⟩=some (.bool d.1.s.fal)∧w.cell? ⟨b,o+3,none⟩=some (.bool d.1.s.tru)∧w.cell? ⟨b,o+4,none⟩=some x.i∧w.cell? ⟨b,o+5,none⟩=some x.f∧w.cell? ⟨b,o+6,none⟩=some x.t∧w.cell? ⟨b,o+7,none⟩=some x.l∧w.cell? ⟨b,o+8,none⟩=some x.s∧w.cell? ⟨b,o+9,none⟩=some (.bool d.2.any)∧w.cell? ⟨b,o+10,none⟩=some (.bool d.2.s.nul)∧w.cell? ⟨b,o+11,none⟩=some (.bool d.2.s.fal)∧w.cell? ⟨b,o+12,none⟩=some (.bool d.2.s.tru)∧w.cell? ⟨b,o+13,none⟩=some y.i∧w.cell? ⟨b,o+14,none⟩=some y.f∧w.cell? ⟨b,o+15,none⟩=some y.t∧w.cell? ⟨b,o+16,none⟩=some y.l∧w.cell? ⟨b,o+17,none⟩=some y.s:=by
 obtain⟨x,y,h1,h2,h3⟩:=h.cells;exact⟨x,y,h2,h3,Mem.av k (h1 0 _ rfl),Mem.aj k (h1 0 _ rfl),Mem.aj k (h1 1 _ rfl),Mem.aj k (h1 2 _ rfl),Mem.aj k (h1 3 _ rfl),Mem.aj k (h1 4 _ rfl),Mem.aj k (h1 5 _ rfl),Mem.aj k (h1 6 _ rfl),Mem.aj k (h1 7 _ rfl),Mem.aj k (h1 8 _ rfl),Mem.aj k (h1 9 _ rfl),Mem.aj k (h1 10 _ rfl),Mem.aj k (h1 11 _ rfl),Mem.aj k (h1 12 _ rfl),Mem.aj k (h1 13 _ rfl),Mem.aj k (h1 14 _ rfl),Mem.aj k (h1 15 _ rfl),Mem.aj k (h1 16 _ rfl),Mem.aj k (h1 17 _ rfl)⟩
theorem VdAt.of {R:Sl→Vl→Prop} {m:Mem} {b o:Nat} {d:Vd} {x y:Sl} (h:∀j u,(dcs d x y)[j]?=some u→m.cell b (o+j)=some u) (hx:R x d.1) (hy:R y d.2):VdAt R m b o d:=by
 refine ⟨x,y,.of fun j u hj=>h j u ?_,hx,.of fun j u hj=>?_,hy⟩
 ·rw[dcs,List.getElem?_append_left (List.getElem?_eq_some_iff.1 hj).1];exact hj
 ·have:=h (9+j) u (by rw[dcs,List.getElem?_append_right (by simp[nine]),show (nine d.1 x).length=9 from rfl,show 9+j - 9=j by omega];exact hj)
  rwa [← Nat.add_assoc] at this
theorem Iy {R:Sl→Vl→Prop} {m:Mem} {b:Nat}:∀(l:List Vd) (off:Nat),(∀i (h:i<l.length),VdAt R m b (off+i*18) l[i])→∃xs,VRow R xs l∧∀j u,xs[j]?=some u→m.cell b (off+j)=some u
 | [],off,_=>⟨[],VRow.nil R,fun j u hj=>by simp at hj⟩
 | d::l,off,h=>by
  obtain⟨xs,h1,h2⟩:=Iy l (off+18) fun i hi=>by
   have:=h (i+1) (by simpa using hi);rw[show off+(i+1)*18=off+18+i*18 by omega] at this;simpa using this
  have h0:=h 0 zS;simp only[Nat.zero_mul,Nat.add_zero,List.getElem_cons_zero] at h0;obtain⟨x,y,h3,h4,h5⟩:=h0.cells;refine ⟨dcs d x y ++ xs,(VRow.one h4 h5).append h1,fun j u hj=>?_⟩;by_cases c:j<18
  ·rw[List.getElem?_append_left (by rw[uM];exact c)] at hj;exact h3 j u hj
  ·rw[List.getElem?_append_right (by rw[uM];omega),uM] at hj;have:=h2 (j - 18) u hj
   rwa [show off+18+(j - 18)=off+j by omega] at this
theorem bP.row {R:Sl→Vl→Prop} {m:Mem} {ad:Option Addr} {c:Nat} {l:List Vd} (h:bP R m (.slice ad l.length c) l) (hne:l≠[]) :
 ∃b off xs,ad=some ⟨b,off,none⟩∧VRow R xs l∧∀j u,xs[j]?=some u→m.cell b (off+j)=some u:=by
 obtain⟨a,c',e,h1,h2,h3⟩:=h;injection e with e1 e2 e3;subst e1;obtain⟨b,off,rfl,h4⟩:=h3 hne;obtain⟨xs,h5,h6⟩:=Iy l off h4;exact⟨b,off,xs,rfl,h5,h6⟩
theorem xB {R:Sl→Vl→Prop} {w:World} {t:TypeId} {v:Value} {l:List Vd} {xs:List Value} {m:Mem} (hown:w.ownsRow 0 t 18 v l.length xs) (hr:VRow R xs l):bP R (m.addv w v) v l:=
 gK hown fun g hg i h=>by
  obtain⟨x,y,h1,h2,h3⟩:=hr.at' i h;exact .of (fun j u hj=>eQ hown hg m (h1 j u hj)) h2 h3
def Vl.val (v:Vl) (x:Sl):Value:=.agg (nine v x).toArray
def bz (d:Vd) (x y:Sl):Value:=.agg (dcs d x y).toArray
def fcs (f:Fd) (x y:Sl):List Value:=.string f.1.1::.int .i64 f.1.2::dcs f.2 x y
def kcs (k:Kl) (u:Value) (x y:Sl):List Value:=u::dcs k.2 x y
theorem FdAt.cells {R:Sl→Vl→Prop} {m:Mem} {b o:Nat} {f:Fd} (h:FdAt R m b o f):∃x y,(∀j u,(fcs f x y)[j]?=some u→m.cell b (o+j)=some u)∧R x f.2.1∧R y f.2.2:=by
 obtain⟨x,y,h1,h2⟩:=h.v.cells;refine ⟨x,y,fun j u hj=>?_,h2⟩
 match j,hj with
 | 0,hj=>cases hj;exact h.s
 | 1,hj=>cases hj;exact h.p
 | j+2,hj=>
  have:=h1 j u hj
  rwa [show o+2+j=o+(j+2) by omega] at this
theorem KlAt.cells {R:Sl→Vl→Prop} {m:Mem} {b o:Nat} {k:Kl} (h:KlAt R m b o k):∃c x y,aR m c k.1∧(∀j u,(kcs k c x y)[j]?=some u→m.cell b (o+j)=some u)∧R x k.2.1∧R y k.2.2:=by
 obtain⟨c,hc,hs⟩:=h.s;obtain⟨x,y,h1,h2⟩:=h.v.cells;refine ⟨c,x,y,hs,fun j u hj=>?_,h2⟩
 match j,hj with
 | 0,hj=>cases hj;exact hc
 | j+1,hj=>
  have:=h1 j u hj
  rwa [show o+1+j=o+(j+1) by omega] at this
theorem yw {f:Fd} {x y:Sl} {j:Nat} {u:Value} (h:(dcs f.2 x y)[j]?=some u):(fcs f x y)[2+j]?=some u:=by rw[Nat.add_comm];exact h
theorem yj {k:Kl} {c:Value} {x y:Sl} {j:Nat} {u:Value} (h:(dcs k.2 x y)[j]?=some u):(kcs k c x y)[1+j]?=some u:=by rw[Nat.add_comm];exact h
theorem lK {d:Vd} {x y:Sl} {j:Nat} {u:Value} (h:(nine d.1 x)[j]?=some u):(dcs d x y)[0+j]?=some u:=by
 rw[Nat.zero_add,dcs,List.getElem?_append_left (List.getElem?_eq_some_iff.1 h).1];exact h
theorem lJ {d:Vd} {x y:Sl} {j:Nat} {u:Value} (h:(nine d.2 y)[j]?=some u):(dcs d x y)[9+j]?=some u:=by
 rw[dcs,List.getElem?_append_right (by simp[nine]),show (nine d.1 x).length=9 from rfl,show 9+j - 9=j by omega];exact h
def bq:Sl:=⟨.slice none 0 0,.slice none 0 0,.slice none 0 0,.slice none 0 0,.slice none 0 0⟩
theorem VAt.leaf (m:Mem) (a:Bool):VAt m 1 bq (.mk a dJ [] []):=⟨⟨cu _ _,cu _ _,cu _ _⟩,cu _ _,cu _ _⟩
end Cl
namespace Cl
open Go Go.RowKit Go.Proofs Go.WideShapes Go.ChangeShapes Go.Deep Go.Joins
structure mM {H:Type} (B:DataW H→Nat):Prop where
 sl:∀es sp,(es.map B).sum+1≤B (.slice es sp)
 nil:1≤B .nil
 ag:∀ps,(ps.map B).sum≤B (.agg ps)
theorem zH (f:Nat→Nat) (g:Nat→Nat):∀n,(∀i,i<n→f i≤g i)→((List.range n).map f).sum≤((List.range n).map g).sum
 | 0,_=>Nat.le_refl _
 | n+1,h=>by
  have:=zH f g n fun i hi=>h i zo;have h2:=h n zo;simp only[List.range_succ,List.map_append,List.sum_append,List.map_cons,List.map_nil,List.sum_cons,List.sum_nil];omega
theorem IP {α:Type} (B:α→Nat) (d:α):∀(l:List α),(l.map B).sum=((List.range l.length).map fun i=>B (l.getD i d)).sum
 | []=>rfl
 | x::l=>by
  rw[List.length_cons,List.range_succ_eq_map,List.map_cons,List.sum_cons,List.map_cons,List.sum_cons,IP B d l,List.map_map];simp only[List.getD_cons_zero]
  congr 2
section
variable {H:Type} {enc:TypeId × Value→H} {P:Program} {w:World} {spare:Nat→Bool} {held:Bool}
theorem gF {α:Type} [Inhabited α] {B:DataW H→Nat} (hB:mM B) (f:α→Nat) {t e:TypeId} {size:Nat} (ht:P.underlying t=some (.slice e)) (hc:P.cellsOf e=size) (hpos:0<size) (R:Nat→Nat→α→Prop) {fuel:Nat}
 (hR:∀(n b o:Nat) (cs:List Value) (x:DataW H × List MemPlace),n<fuel→w.cells? 0 ⟨b,o,none⟩ size=some cs→DataW.trod enc P w 0 spare held n e cs=some x→∃y:α,R b o y∧f y≤B x.1)
 {cs:List Value} {x:DataW H × List MemPlace} (h:DataW.trod enc P w 0 spare held fuel t cs=some x):∃v l,cs=[v]∧Mem.slice R size v l∧(l.map f).sum+1≤B x.1:=by
 rcases DataW.trod_slice ht h with ⟨rfl,rfl⟩ | ⟨a,len,cap,elems,rest,n,rfl,rfl,rfl,hb,hl,hm,hlen,hel,-,-⟩
 ·exact⟨_,[],rfl,⟨none,0,rfl,Nat.le_refl _,Nat.zero_le _,fun h=>absurd rfl h⟩,hB.nil⟩
 ·have hx:∀i (hi:i<len),∃cs',w.cells? 0 (a.add (i*P.cellsOf e)) (P.cellsOf e)=some cs'∧DataW.trod enc P w 0 spare held n e cs'=some (elems[i]'zo):=fun i hi=>by
   have h1:=hel i hi;rw[List.getElem?_eq_getElem zo] at h1;obtain⟨cs',h2,h3⟩:=Option.bind_eq_some_iff.1 h1;exact⟨cs',h2,h3⟩
  have hs:=hB.sl (elems.map (·.1)) (rest.map (·.1));by_cases h0:len=0
  ·subst h0;exact⟨_,[],rfl,⟨some a,cap,rfl,Nat.zero_le _,hm,fun h=>absurd rfl h⟩,by simp only[List.map_nil,List.sum_nil];omega⟩
  ·have hsp:a.spot=none:=by
    obtain⟨cs',h1,-⟩:=hx 0 zo;obtain⟨-,h2,h3⟩:=World.cells?_some h1;rw[hc] at h2 h3;have:=h3 0 hpos;rw[Nat.zero_mul] at this;have e:(a.add 0).add 0=a:=by simp[Addr.add]
    rw[e,List.getElem?_eq_getElem zo] at this;exact I5 this
   obtain⟨b,o,sp⟩:=a;simp only at hsp;subst hsp;obtain⟨g,hf⟩:=choose_lt (α:=α) (n:=len) (p:=fun i y=>R b (o+i*size) y∧∀hi:i<elems.length,f y≤B (elems[i]).1) (fun i hi=>by
    obtain⟨cs',h1,h2⟩:=hx i zo;rw[hc,Addr.add_lit] at h1;obtain⟨y,k1,k2⟩:=hR n _ _ _ _ zo h1 h2;exact⟨y,k1,fun _=>k2⟩)
   refine ⟨_,(List.range len).map g,rfl,⟨some ⟨b,o,none⟩,cap,zS,by simpa using hl,hm,fun _=>⟨b,o,rfl,fun i hi=>?_⟩⟩,?_⟩
   ·have hi':i<len:=by simpa using hi
    simpa using (hf i hi').1
   ·refine Nat.le_trans (Nat.succ_le_succ ?_) hs;rw[List.map_map,List.map_map,IP (B ∘ fun x:DataW H × List MemPlace=>x.1) (.nil,[]),hlen];refine zH _ _ _ fun i hi=>?_;have:=(hf i hi).2 zo;simpa [List.getD_eq_getElem?_getD,show i<elems.length by omega] using this
theorem fT {B:DataW H→Nat} (hB:mM B) {fuel:Nat} {t:TypeId} {f0 f1:Field} {cs:List Value} {x:DataW H × List MemPlace} (ht:P.underlying t=some (.struct #[f0,f1])) (h:DataW.trod enc P w 0 spare held fuel t cs=some x) :
 ∃y0 y1 n,fuel=n+1∧cs.length=P.cellsOf t∧DataW.trod enc P w 0 spare held n f0.type ((cs.drop f0.offset).take (P.cellsOf f0.type))=some y0∧DataW.trod enc P w 0 spare held n f1.type ((cs.drop f1.offset).take (P.cellsOf f1.type))=some y1∧B y0.1+B y1.1≤B x.1:=by
 obtain⟨xs,n,rfl,rfl,hl,hlen,hf⟩:=DataW.trod_struct ht h;obtain⟨y0,y1,rfl⟩:=CZ hlen;have:=hB.ag [y0.1,y1.1];exact⟨y0,y1,n,rfl,hl,hf 0 _ rfl,hf 1 _ rfl,by simpa using this⟩
end
theorem O4 {α:Type} {l:List α} (h:l.length=4):∃a0 a1 a2 a3,l=[a0,a1,a2,a3]:=by
 match l,h with
 | [a0,a1,a2,a3],_=>exact⟨a0,a1,a2,a3,rfl⟩
theorem O0 {α:Type} {l:List α} (h:l.length=9):∃a0 a1 a2 a3 a4 a5 a6 a7 a8,l=[a0,a1,a2,a3,a4,a5,a6,a7,a8]:=by
 match l,h with
 | [a0,a1,a2,a3,a4,a5,a6,a7,a8],_=>exact⟨a0,a1,a2,a3,a4,a5,a6,a7,a8,rfl⟩
theorem OB {α:Type} {l:List α} (h:l.length=18):∃a0 a1 a2 a3 a4 a5 a6 a7 a8 a9 a10 a11 a12 a13 a14 a15 a16 a17,l=[a0,a1,a2,a3,a4,a5,a6,a7,a8,a9,a10,a11,a12,a13,a14,a15,a16,a17]:=by
 match l,h with
 | [a0,a1,a2,a3,a4,a5,a6,a7,a8,a9,a10,a11,a12,a13,a14,a15,a16,a17],_=>exact⟨a0,a1,a2,a3,a4,a5,a6,a7,a8,a9,a10,a11,a12,a13,a14,a15,a16,a17,rfl⟩
section
variable {H:Type} {enc:TypeId × Value→H} {w:World} {spare:Nat→Bool} {held:Bool} {B:DataW H→Nat}
abbrev yM (enc:TypeId × Value→H) (w:World) (spare:Nat→Bool) (held:Bool) (fuel:Nat) (t:TypeId) (cs:List Value) (x:DataW H × List MemPlace):Prop:=DataW.trod enc Tryz.prog w 0 spare held fuel t cs=some x
instance:Inhabited Vl:=⟨botV⟩
def yN (B:DataW H→Nat) (enc:TypeId × Value→H) (w:World) (spare:Nat→Bool) (held:Bool) (K:Nat):Prop:=∀k cs x,k<K→yM enc w spare held k 33 cs x→∃v s,cs=nine v s∧VAt (Mem.of w) K s v∧vcnt K v≤B x.1
def cntD (K:Nat) (d:Vd):Nat:=vcnt K d.1+vcnt K d.2
def NR (K:Nat) (l:List Vd):Nat:=(l.map (cntD K)).sum
theorem wO {b o n:Nat} {cs:List Value} (hc:w.cells? 0 ⟨b,o,none⟩ n=some cs) {j:Nat} {v:Vl} {s:Sl} (h:∀i x,(nine v s)[i]?=some x→cs[j+i]?=some x):kN (Mem.of w) b (o+j) s v:=by
 have g:∀i x,(nine v s)[i]?=some x→(Mem.of w).cell b (o+j+i)=some x:=fun i x hi=>by
  have:=dW hc (h i x hi)
  rwa [← Nat.add_assoc] at this
 exact⟨g 0 _ rfl,g 1 _ rfl,g 2 _ rfl,g 3 _ rfl,g 4 _ rfl,g 5 _ rfl,g 6 _ rfl,g 7 _ rfl,g 8 _ rfl⟩
theorem DZ (hB:mM B) {K:Nat} (hK:yN B enc w spare held K) {k:Nat} (hk:k≤K) {cs:List Value} {x:DataW H × List MemPlace} (h:yM enc w spare held k 35 cs x) :
 ∃(d:Vd) (s1 s2:Sl),cs=nine d.1 s1 ++ nine d.2 s2∧VAt (Mem.of w) K s1 d.1∧VAt (Mem.of w) K s2 d.2∧cntD K d≤B x.1:=by
 obtain⟨y0,y1,n,rfl,hl,h0,h1,hb⟩:=fT hB Tryz.underlying35 h;have e18:Tryz.prog.cellsOf 35=18:=by kernel_rfl
 have e9:Tryz.prog.cellsOf 33=9:=by kernel_rfl
 rw[e18] at hl;obtain⟨c0,c1,c2,c3,c4,c5,c6,c7,c8,c9,c10,c11,c12,c13,c14,c15,c16,c17,rfl⟩:=OB hl;simp[e9] at h0 h1;obtain⟨v1,s1,g1,k1,b1⟩:=hK _ _ _ zo h0;obtain⟨v2,s2,g2,k2,b2⟩:=hK _ _ _ zo h1;exact⟨(v1,v2),s1,s2,by rw[← g1,← g2];rfl,k1,k2,by unfold cntD;simp only;omega⟩
theorem sK (hB:mM B) {K:Nat} (hK:yN B enc w spare held K) {k:Nat} (hk:k≤K) {b o n j:Nat} {cs:List Value} {x:DataW H × List MemPlace} (hc:w.cells? 0 ⟨b,o,none⟩ n=some cs) (_:n=j+18)
 (h:yM enc w spare held k 35 (cs.drop j) x):∃d:Vd,VdAt (VAt (Mem.of w) K) (Mem.of w) b (o+j) d∧cntD K d≤B x.1:=by
 obtain⟨d,s1,s2,e,k1,k2,hb⟩:=DZ hB hK hk h;have hlen:=(World.cells?_some hc).2.1;refine ⟨d,⟨s1,s2,wO hc (j:=j) fun i x hi=>?_,k1,?_,k2⟩,hb⟩
 ·have:(cs.drop j)[i]?=some x:=by
   rw[e,List.getElem?_append_left (List.getElem?_eq_some_iff.1 hi).1];exact hi
  rwa [List.getElem?_drop] at this
 ·rw[Nat.add_assoc];refine wO hc (j:=j+9) fun i x hi=>?_;have:(cs.drop j)[9+i]?=some x:=by
   rw[e,List.getElem?_append_right (by simp[nine])];rw[show 9+i - (nine d.1 s1).length=i by simp[nine]];exact hi
  rw[List.getElem?_drop,← Nat.add_assoc] at this;exact this
theorem oI (hB:mM B) {K:Nat} (hK:yN B enc w spare held K) {k:Nat} (hk:k≤K) {cs:List Value} {x:DataW H × List MemPlace} (h:yM enc w spare held k 49 cs x) :
 ∃v l,cs=[v]∧bP (VAt (Mem.of w) K) (Mem.of w) v l∧NR K l+1≤B x.1:=
 gF (α:=Vd) hB (cntD K) Tryz.underlying49 zk zo (VdAt (VAt (Mem.of w) K) (Mem.of w)) (fun n' b o cs x hn hc hx=>sK hB hK zo (j:=0) hc rfl hx) h
def yD (K:Nat) (c:Lc):Nat:=NR K c.1+NR K c.2
def MV (K:Nat) (l:List Fd):Nat:=(l.map fun f=>cntD K f.2).sum
def MU (K:Nat) (l:List Kl):Nat:=(l.map fun f=>cntD K f.2).sum
def vJ (K:Nat) (c:St):Nat:=MV K c.1+MU K c.2
theorem NA (hB:mM B) {K:Nat} (hK:yN B enc w spare held K) {k:Nat} (hk:k≤K) {cs:List Value} {x:DataW H × List MemPlace} (h:yM enc w spare held k 51 cs x) :
 ∃(u u':Value) (c:Lc),cs=[u,u']∧bP (VAt (Mem.of w) K) (Mem.of w) u c.1∧bP (VAt (Mem.of w) K) (Mem.of w) u' c.2∧yD K c≤B x.1:=by
 obtain⟨y0,y1,n,rfl,hl,h0,h1,hb⟩:=fT hB Tryz.underlying51 h;have e2:Tryz.prog.cellsOf 51=2:=by kernel_rfl
 have e1:Tryz.prog.cellsOf 49=1:=by kernel_rfl
 rw[e2] at hl;obtain⟨c0,c1,rfl⟩:=CZ hl;simp[e1] at h0 h1;obtain⟨u,l,g1,k1,b1⟩:=oI hB hK zo h0;obtain⟨u',l',g2,k2,b2⟩:=oI hB hK zo h1;cases g1;cases g2;exact⟨_,_,(l,l'),rfl,k1,k2,by unfold yD;simp only;omega⟩
theorem EP (hB:mM B) {K:Nat} (hK:yN B enc w spare held K) {k:Nat} (hk:k≤K) {cs:List Value} {x:DataW H × List MemPlace} (h:yM enc w spare held k 42 cs x) :
 ∃v l,cs=[v]∧gI (VAt (Mem.of w) K) (Mem.of w) v l∧MV K l+1≤B x.1:=
 gF (α:=Fd) hB (fun f:Fd=>cntD K f.2) Tryz.underlying42 zk zo (FdAt (VAt (Mem.of w) K) (Mem.of w)) (fun n' b o cs x hn hc hx=>by
  obtain⟨xs,n2,rfl,rfl,-,hlen2,hf⟩:=DataW.trod_struct Tryz.underlying58 hx;obtain⟨y0,y1,y2,rfl⟩:=OA hlen2;have hl:=(World.cells?_some hc).2.1;have f0:=hf 0 _ rfl;have f1:=hf 1 _ rfl;have f2:=hf 2 _ rfl;have e1:Tryz.prog.cellsOf 3=1:=by kernel_rfl
  have e2:Tryz.prog.cellsOf 9=1:=by kernel_rfl
  have e3:Tryz.prog.cellsOf 35=18:=by kernel_rfl
  simp[e1,e2,e3] at f0 f1 f2;obtain⟨s,g0,-,w0⟩:=DataW.trod_string Tryz.underlying9 f0;obtain⟨p,g1,-,w1⟩:=DataW.trod_int Tryz.underlying3 f1;have h18:(cs.drop 2).take 18=cs.drop 2:=List.take_of_length_le (by simp[hl]);rw[h18] at f2;obtain⟨d,hd,hb⟩:=sK hB hK zo (j:=2) hc rfl f2;have w1:=EK w1;have t0:cs[0]?=some (.string s):=by have:=congrArg (fun l=>l[0]?) g0;simpa using this
  have t1:cs[1]?=some (.int .i64 p):=by have:=congrArg (fun l=>l[0]?) g1;simpa using this
  have h3:=hB.ag [y0.1,y1.1,y2.1];simp only[List.map_cons,List.map_nil,List.sum_cons,List.sum_nil] at h3 ⊢;exact⟨((s,p),d),⟨dW (i:=0) hc t0,w0,dW (i:=1) hc t1,w1,hd⟩,by simp only;omega⟩) h
theorem ED (hB:mM B) {K:Nat} (hK:yN B enc w spare held K) {k:Nat} (hk:k≤K) {cs:List Value} {x:DataW H × List MemPlace} (h:yM enc w spare held k 43 cs x) :
 ∃v l,cs=[v]∧fV (VAt (Mem.of w) K) (Mem.of w) v l∧MU K l+1≤B x.1:=
 gF (α:=Kl) hB (fun f:Kl=>cntD K f.2) Tryz.underlying43 zk zo (KlAt (VAt (Mem.of w) K) (Mem.of w)) (fun n' b o cs x hn hc hx=>by
  obtain⟨y0,y1,n2,rfl,-,f0,f1,hb1⟩:=fT hB Tryz.underlying61 hx;have hl:=(World.cells?_some hc).2.1;have e1:Tryz.prog.cellsOf 27=1:=by kernel_rfl
  have e3:Tryz.prog.cellsOf 35=18:=by kernel_rfl
  have et:Tryz.prog.cellsOf 25=1:=by kernel_rfl
  simp[e1,e3] at f0 f1;obtain⟨z2,n4,-,-,g2⟩:=trod_struct1 Tryz.underlying27 f0;simp[et] at g2;obtain⟨vt,t,e5,h5⟩:=gQ Tryz.underlying25 zk zo (qy (Mem.of w)) vZ g2;have h18:cs.tail.take 18=cs.drop 1:=by rw[List.drop_one];exact List.take_of_length_le (by simp[hl])
  rw[h18] at f1;obtain⟨d,hd,hb⟩:=sK hB hK zo (j:=1) hc rfl f1;have t0:cs[0]?=some vt:=by have:=congrArg (fun l=>l[0]?) e5;simpa using this
  exact⟨(t,d),⟨⟨vt,dW (i:=0) hc t0,h5⟩,hd⟩,by simp only;omega⟩) h
theorem Ni (hB:mM B) {K:Nat} (hK:yN B enc w spare held K) {k:Nat} (hk:k≤K) {cs:List Value} {x:DataW H × List MemPlace} (h:yM enc w spare held k 45 cs x) :
 ∃(u u':Value) (c:St),cs=[u,u']∧gI (VAt (Mem.of w) K) (Mem.of w) u c.1∧fV (VAt (Mem.of w) K) (Mem.of w) u' c.2∧vJ K c≤B x.1:=by
 obtain⟨y0,y1,n,rfl,hl,h0,h1,hb⟩:=fT hB Tryz.underlying45 h;have e2:Tryz.prog.cellsOf 45=2:=by kernel_rfl
 have e1:Tryz.prog.cellsOf 42=1:=by kernel_rfl
 have e3:Tryz.prog.cellsOf 43=1:=by kernel_rfl
 rw[e2] at hl;obtain⟨c0,c1,rfl⟩:=CZ hl;simp[e1,e3] at h0 h1;obtain⟨u,l,g1,k1,b1⟩:=EP hB hK zo h0;obtain⟨u',l',g2,k2,b2⟩:=ED hB hK zo h1;cases g1;cases g2;exact⟨_,_,(l,l'),rfl,k1,k2,by unfold vJ;simp only;omega⟩
theorem xO {α:Type} (f:Vd→Nat) (g:α→List Vd) (h:α→Nat) (hg:∀a,((g a).map f).sum=h a):∀l:List α,((l.flatMap g).map f).sum=(l.map h).sum
 | []=>rfl
 | a::l=>by rw[List.flatMap_cons,List.map_append,List.sum_append,List.map_cons,List.sum_cons,hg,xO f g h hg l]
theorem qm (K:Nat) (v:Vl):vcnt (K+1) v=1+((v.lists.map (yD K)).sum+(v.structs.map (vJ K)).sum):=by
 rw[vcnt];show 1+(v.kids.map (cntD K)).sum=_;rw[Vl.kids,List.map_append,List.sum_append,xO (cntD K) bT (yD K) (fun c=>by rw[bT,List.map_append,List.sum_append];rfl),xO (cntD K) bH (vJ K) (fun c=>by rw[bH,List.map_append,List.sum_append,List.map_map,List.map_map];rfl)]
theorem vX (hB:mM B):∀(fuel:Nat) (cs:List Value) (x:DataW H × List MemPlace),yM enc w spare held fuel 33 cs x→∃v s,cs=nine v s∧VAt (Mem.of w) (fuel+1) s v∧vcnt (fuel+1) v≤B x.1:=by
 intro fuel
 induction fuel using Nat.strongRecOn with
 | ind fuel ih=>
 intro cs x h;obtain⟨xs,n,rfl,rfl,hl,hlen,hf⟩:=DataW.trod_struct Tryz.underlying33 h;have hK:yN B enc w spare held (n+1):=fun k cs x hk hx=>by
  obtain⟨v,s,e,hv,hb⟩:=ih k hk cs x hx;exact⟨v,s,e,hv.mono zo,by rw[jC hv.ht zo];exact hb⟩
 have e9:Tryz.prog.cellsOf 33=9:=by kernel_rfl
 rw[e9] at hl;obtain⟨c0,c1,c2,c3,c4,c5,c6,c7,c8,rfl⟩:=O0 hl;have e0:Tryz.prog.cellsOf 4=1:=by kernel_rfl
 have e1:Tryz.prog.cellsOf 29=6:=by kernel_rfl
 have e2:Tryz.prog.cellsOf 30=1:=by kernel_rfl
 have e3:Tryz.prog.cellsOf 31=1:=by kernel_rfl
 obtain⟨y0,y1,y2,y3,rfl⟩:=O4 hlen;have hag:=hB.ag [y0.1,y1.1,y2.1,y3.1];simp only[List.map_cons,List.map_nil,List.sum_cons,List.sum_nil] at hag ⊢;have f0:=hf 0 _ rfl;have f1:=hf 1 _ rfl;have f2:=hf 2 _ rfl;have f3:=hf 3 _ rfl;simp[e0,e1,e2,e3] at f0 f1 f2 f3;obtain⟨a,g0,-⟩:=DataW.trod_bool Tryz.underlying4 f0;obtain⟨b0,b1,b2,vi,vf,vt,l,f,t,g1,hs⟩:=zP f1;obtain⟨vl,L,g2,h2,k2⟩:=gF (α:=Lc) (fuel:=n) (size:=2) hB (yD (n+1)) Tryz.underlying30 zk zo (LcAt (VAt (Mem.of w) (n+1)) (Mem.of w)) (fun n' b o cs x hn hc hx=>by
  obtain⟨u,u',c,rfl,h1,h2,h3⟩:=NA hB hK zo hx;exact⟨c,⟨u,u',dW (i:=0) hc rfl,dW (i:=1) hc rfl,h1,h2⟩,h3⟩) f2
 obtain⟨vs,S,g3,h3,k3⟩:=gF (α:=St) (fuel:=n) (size:=2) hB (vJ (n+1)) Tryz.underlying31 zk zo (StAt (VAt (Mem.of w) (n+1)) (Mem.of w)) (fun n' b o cs x hn hc hx=>by
  obtain⟨u,u',c,rfl,h1,h2,h3⟩:=Ni hB hK zo hx;exact⟨c,⟨u,u',dW (i:=0) hc rfl,dW (i:=1) hc rfl,h1,h2⟩,h3⟩) f3
 cases g0;cases g1;cases g2;cases g3;refine ⟨.mk a ⟨b0,b1,b2,l,f,t⟩ L S,⟨_,_,_,_,_⟩,rfl,⟨hs,h2,h3⟩,?_⟩;rw[qm];simp only[Vl.lists,Vl.structs];omega
end
end Cl
namespace Cl
open Go
section
variable {P:Program} {ops:Array Oper} {Q:Exit→Act→World→Prop} {S:World→Prop} {last:Nat}
def mO (P:Program) (ops:Array Oper) (Q:Exit→Act→World→Prop) (S:World→Prop) (last:Nat):Nat→Array Bool→Act→World→Prop
 | 0,listed,a,w=>Region.ready .any ops listed=[]∧Q .normal a w
 | fuel+1,listed,a,w=>
  (Region.ready .any ops listed=[]→Q .normal a w) ∧
  ∀i∈Region.ready .any ops listed,wpOp P ops Q i (fun a' w'=>(i≠last→S w')∧mO P ops Q S last fuel (listed.setIfInBounds i true) a' w') a w
theorem vR:∀(fuel:Nat) (listed:Array Bool) (a:Act) (w:World),mO P ops Q S last fuel listed a w→wpAny P .any ops Q fuel listed a w
 | 0,_,_,_,h=>h
 | fuel+1,_,_,_,h=>⟨h.1,fun i hi=>wpOp_mono (fun a' w' h'=>vR fuel _ a' w' h'.2) (h.2 i hi)⟩
def waits (ops:Array Oper) (last i:Nat):Bool:=((ops[last]?).map fun o=>o.after.any fun e=>Region.binds .any e&&e.on==i).getD false
theorem mX {listed:Array Bool} {i:Nat} (hw:waits ops last i=true) (hr:i∈Region.ready .any ops listed):last ∉ Region.ready .any ops listed:=by
 intro hl;obtain⟨-,ol,hol,hall⟩:=mem_ready.1 hl;simp only[waits,hol,Option.map_some,Option.getD_some,Array.any_eq_true',Bool.and_eq_true,beq_iff_eq] at hw;obtain⟨e,he,hb,hon⟩:=hw;have h1:=hall e he hb;have h0:=(mem_ready.1 hr).1;rw[hon] at h1;rcases Nat.lt_or_ge i listed.size with h' | h'
 ·simp[h'] at h0 h1;rw[h0] at h1;cases h1
 ·simp[Array.getElem?_eq_none h'] at h1
theorem yT {i:Nat} {oi:Oper} {v:Value} (hi:ops[i]?=some oi) (hsel:∀(j:Nat) (o:Oper) cs b,ops[j]?=some o→o.op≠.select cs b)
 (hQ:∀c a w,Q (.panic c) (a.put oi.dst v) w→Q (.panic c) a w) (hlast:waits ops last i=true) :
 ∀(fuel:Nat) (listed:Array Bool) (a:Act) (w:World),
  (∀j oj,ops[j]?=some oj→j≠i→listed.getD j true=false→(∀e∈oj.after,Region.binds .any e=true→e.on≠i)→oi.apart ops oj=true) →
  i∈Region.ready .any ops listed→YieldsIf P ops S oi v a→S w →
  mO P ops Q S last fuel (listed.setIfInBounds i true) (a.put oi.dst v) w→mO P ops Q S last (fuel+1) listed a w:=by
 intro fuel
 induction fuel with
 | zero=>
  intro listed a w _ hr hy hS H;refine ⟨fun h=>(by rw[h] at hr;cases hr),fun j hj=>?_⟩;by_cases hji:j=i
  ·subst hji;exact hy.wpOp hi hS ⟨fun _=>hS,H⟩
  ·have:=ready_mono hj hji;rw[H.1] at this
   cases this
 | succ fuel ih=>
  intro listed a w hfree hr hy hS H;refine ⟨fun h=>(by rw[h] at hr;cases hr),fun j hj=>?_⟩;by_cases hji:j=i
  ·subst hji;exact hy.wpOp hi hS ⟨fun _=>hS,H⟩
  ·have h1:=H.2 j (ready_mono hj hji);have hjl:j≠last:=fun e=>mX hlast hr (e ▸ hj);obtain⟨hjun,oj,hoj,hall⟩:=mem_ready.1 hj;have hnot:∀e∈oj.after,Region.binds .any e=true→e.on≠i:=fun e he hb heq=>by
    have h1:=hall e he hb;have h0:=(mem_ready.1 hr).1;rw[heq] at h1;rcases Nat.lt_or_ge i listed.size with h' | h'
    ·simp[h'] at h0 h1;rw[h0] at h1;cases h1
    ·simp[Array.getElem?_eq_none h'] at h1
   have h2:=wpOp_putIf hoj (hfree j oj hoj hji hjun hnot) (fun cs b=>hsel i oi cs b hi) (fun cs b=>hsel j oj cs b hoj) hQ hy h1;have hfree':∀k ok,ops[k]?=some ok→k≠i→(listed.setIfInBounds j true).getD k true=false →
    (∀e∈ok.after,Region.binds .any e=true→e.on≠i)→oi.apart ops ok=true:=fun k ok hk hki hun hno=>by
    refine hfree k ok hk hki ?_ hno;by_cases hjk:j=k
    ·subst hjk;exact hjun
    ·rw[getD_set_ne true hjk] at hun;exact hun
   refine wpOp_mono (fun a' w' h3=>⟨fun _=>h3.2.1 hjl,ih (listed.setIfInBounds j true) a' w' hfree' (ready_mono hr (Ne.symm hji)) h3.1 (h3.2.1 hjl) ?_⟩) h2;rw[Array.setIfInBounds_comm _ _ hji];exact h3.2.2
theorem aD (i:Nat) {oi:Oper} {v:Value} {fuel:Nat} {listed:Array Bool} {a:Act} {w:World} (hi:ops[i]?=some oi)
 (hs:(Region.noSelect ops&&Region.free .any ops listed i&&(Region.ready .any ops listed).contains i&&waits ops last i)=true)
 (hQ:∀c a w,Q (.panic c) (a.put oi.dst v) w→Q (.panic c) a w) (hS:S w) (hy:YieldsIf P ops S oi v a)
 (h:mO P ops Q S last fuel (listed.setIfInBounds i true) (a.put oi.dst v) w):mO P ops Q S last (fuel+1) listed a w:=by
 simp only[Bool.and_eq_true] at hs;obtain⟨⟨⟨h1,h2⟩,h3⟩,h4⟩:=hs;exact yT hi (Region.noSelect_spec h1) hQ h4 fuel listed a w (Region.free_spec hi h2) (by simpa using h3) hy hS h
theorem aT (i:Nat) {fuel:Nat} {listed:Array Bool} {a:Act} {w:World} (hr:(Region.ready .any ops listed==[i])=true)
 (h:wpOp P ops Q i (fun a' w'=>(i≠last→S w')∧mO P ops Q S last fuel (listed.setIfInBounds i true) a' w') a w):mO P ops Q S last (fuel+1) listed a w:=by
 have hr':Region.ready .any ops listed=[i]:=by simpa using hr
 exact⟨fun h0=>(by rw[hr'] at h0;cases h0),fun j hj=>(by rw[hr'] at hj;obtain rfl:=List.mem_singleton.1 hj;exact h)⟩
theorem fw {listed:Array Bool} {a:Act} {w:World} (hr:(Region.ready .any ops listed==[])=true) (h:Q .normal a w):∀fuel,mO P ops Q S last fuel listed a w:=by
 have hr':Region.ready .any ops listed=[]:=by simpa using hr
 intro fuel
 cases fuel with
 | zero=>exact⟨hr',h⟩
 | succ n=>exact⟨fun _=>h,by rw[hr'];simp⟩
theorem fq {id:Nat} {a:Act} {w:World} (S:World→Prop) (last:Nat) (hm:P.follows .mixedOrders=true)
 (h:mO P ops Q S last ops.size (Array.replicate ops.size false) a w.drew):(Code.region id ops true).wp P Q a w:=
 wp_region_any hm (vR _ _ _ _ h)
theorem andS {i last:Nat} {A B:Prop} (h:A) (k:A→B):(i≠last→A)∧B:=⟨fun _=>h,k h⟩
theorem lN {i last:Nat} {A B:Prop} (e:i=last) (k:B):(i≠last→A)∧B:=⟨fun h=>absurd e h,k⟩
theorem aO {i:Nat} {o:Oper} {K:Act→World→Prop} {a:Act} {w:World} (hi:ops[i]?=some o) (hg:o.guard=none) (h:o.wp P a w K Q):wpOp P ops Q i K a w:=by
 unfold wpOp;rw[hi];simp only[Region.wanted,hg,if_true];exact .inl h
theorem aB {o:Oper} {v:Value} {a:Act} (hg:Region.wanted o (yielded ops a.tmps)=true) (h:∀w,S w→(execOp a.eval o).run P w=.ok (.value v) w):YieldsIf P ops S o v a:=.inl ⟨hg,h⟩
theorem aK {o:Oper} {K:Act→World→Prop} {a:Act} {w w':World} {v:Value} (hr:(execOp a.eval o).run P w=.ok (.value v) w') (h:K (a.put o.dst v) w'):o.wp P a w K Q:=by
 unfold Oper.wp;rw[hr];exact h
theorem fQ {o:Oper} {K:Act→World→Prop} {a:Act} {w w':World} {f:FuncId} {args:Array Value} (hr:(execOp a.eval o).run P w=.ok (.enter f args) w') {X:Ending→World→Prop}
 (hc:Calls P f args w' X) (h:∀e w'',X e w''→∃v,e=.returned v∧K (a.put o.dst v) w''):o.wp P a w K Q:=by
 unfold Oper.wp;rw[hr];refine hc.mono fun e w'' hx=>?_;obtain⟨v,rfl,hk⟩:=h e w'' hx;exact hk
theorem iM {o:Oper} {K:Act→World→Prop} {a:Act} {w w':World} (hr:(execOp a.eval o).run P w=.ok .skip w') (h:K (a.put o.dst undef) w'):o.wp P a w K Q:=by
 unfold Oper.wp;rw[hr];exact h
end
section
variable {P:Program} {ops:Array Oper} {Q:Exit→Act→World→Prop} {D:Nat→World→Prop}
def iH (P:Program) (ops:Array Oper) (Q:Exit→Act→World→Prop) (D:Nat→World→Prop):Nat→Array Bool→Act→World→Prop
 | 0,listed,a,w=>Region.ready .any ops listed=[]∧Q .normal a w
 | fuel+1,listed,a,w=>
  (Region.ready .any ops listed=[]→Q .normal a w) ∧
  ∀i∈Region.ready .any ops listed,wpOp P ops Q i (fun a' w'=>(w'=w∨D i w')∧iH P ops Q D fuel (listed.setIfInBounds i true) a' w') a w
theorem vS:∀(fuel:Nat) (listed:Array Bool) (a:Act) (w:World),iH P ops Q D fuel listed a w→wpAny P .any ops Q fuel listed a w
 | 0,_,_,_,h=>h
 | fuel+1,_,_,_,h=>⟨h.1,fun i hi=>wpOp_mono (fun a' w' h'=>vS fuel _ a' w' h'.2) (h.2 i hi)⟩
theorem CS {listed:Array Bool} {i j:Nat} (hr:i∈Region.ready .any ops listed) (hj:j∈Region.ready .any ops listed):waits ops j i=false:=by
 cases h:waits ops j i with
 | false=>rfl
 | true=>exact absurd hj (mX h hr)
theorem yU {i:Nat} {oi:Oper} {v:Value} (hi:ops[i]?=some oi) (hsel:∀(j:Nat) (o:Oper) cs b,ops[j]?=some o→o.op≠.select cs b)
 (hQ:∀c a w,Q (.panic c) (a.put oi.dst v) w→Q (.panic c) a w) {S:World→Prop} (hlast:∀j w',waits ops j i=false→D j w'→S w') :
 ∀(fuel:Nat) (listed:Array Bool) (a:Act) (w:World),
  (∀j oj,ops[j]?=some oj→j≠i→listed.getD j true=false→(∀e∈oj.after,Region.binds .any e=true→e.on≠i)→oi.apart ops oj=true) →
  i∈Region.ready .any ops listed→YieldsIf P ops S oi v a→S w →
  iH P ops Q D fuel (listed.setIfInBounds i true) (a.put oi.dst v) w→iH P ops Q D (fuel+1) listed a w:=by
 intro fuel
 induction fuel with
 | zero=>
  intro listed a w _ hr hy hS H;refine ⟨fun h=>(by rw[h] at hr;cases hr),fun j hj=>?_⟩;by_cases hji:j=i
  ·subst hji;exact hy.wpOp hi hS ⟨.inl rfl,H⟩
  ·have:=ready_mono hj hji;rw[H.1] at this
   cases this
 | succ fuel ih=>
  intro listed a w hfree hr hy hS H;refine ⟨fun h=>(by rw[h] at hr;cases hr),fun j hj=>?_⟩;by_cases hji:j=i
  ·subst hji;exact hy.wpOp hi hS ⟨.inl rfl,H⟩
  ·have h1:=H.2 j (ready_mono hj hji);have hjl:=fun w'=>hlast j w' (CS hr hj);obtain⟨hjun,oj,hoj,hall⟩:=mem_ready.1 hj;have hnot:∀e∈oj.after,Region.binds .any e=true→e.on≠i:=fun e he hb heq=>by
    have h1:=hall e he hb;have h0:=(mem_ready.1 hr).1;rw[heq] at h1;rcases Nat.lt_or_ge i listed.size with h' | h'
    ·simp[h'] at h0 h1;rw[h0] at h1;cases h1
    ·simp[Array.getElem?_eq_none h'] at h1
   have h2:=wpOp_putIf hoj (hfree j oj hoj hji hjun hnot) (fun cs b=>hsel i oi cs b hi) (fun cs b=>hsel j oj cs b hoj) hQ hy h1;have hfree':∀k ok,ops[k]?=some ok→k≠i→(listed.setIfInBounds j true).getD k true=false →
    (∀e∈ok.after,Region.binds .any e=true→e.on≠i)→oi.apart ops ok=true:=fun k ok hk hki hun hno=>by
    refine hfree k ok hk hki ?_ hno;by_cases hjk:j=k
    ·subst hjk;exact hjun
    ·rw[getD_set_ne true hjk] at hun;exact hun
   refine wpOp_mono (fun a' w' h3=>⟨h3.2.1,ih (listed.setIfInBounds j true) a' w' hfree' (ready_mono hr (Ne.symm hji)) h3.1 (h3.2.1.elim (fun e=>by rw[e];exact hS) (hjl w')) ?_⟩) h2;rw[Array.setIfInBounds_comm _ _ hji];exact h3.2.2
theorem BK (i:Nat) (S:World→Prop) {oi:Oper} {v:Value} {fuel:Nat} {listed:Array Bool} {a:Act} {w:World} (hi:ops[i]?=some oi)
 (hs:(Region.noSelect ops&&Region.free .any ops listed i&&(Region.ready .any ops listed).contains i)=true)
 (hQ:∀c a w,Q (.panic c) (a.put oi.dst v) w→Q (.panic c) a w) (hlast:∀j w',waits ops j i=false→D j w'→S w') (hS:S w) (hy:YieldsIf P ops S oi v a)
 (h:iH P ops Q D fuel (listed.setIfInBounds i true) (a.put oi.dst v) w):iH P ops Q D (fuel+1) listed a w:=by
 simp only[Bool.and_eq_true] at hs;obtain⟨⟨h1,h2⟩,h3⟩:=hs;exact yU hi (Region.noSelect_spec h1) hQ hlast fuel listed a w (Region.free_spec hi h2) (by simpa using h3) hy hS h
theorem bA (i:Nat) {fuel:Nat} {listed:Array Bool} {a:Act} {w:World} (hr:(Region.ready .any ops listed==[i])=true)
 (h:wpOp P ops Q i (fun a' w'=>(w'=w∨D i w')∧iH P ops Q D fuel (listed.setIfInBounds i true) a' w') a w):iH P ops Q D (fuel+1) listed a w:=by
 have hr':Region.ready .any ops listed=[i]:=by simpa using hr
 exact⟨fun h0=>(by rw[hr'] at h0;cases h0),fun j hj=>(by rw[hr'] at hj;obtain rfl:=List.mem_singleton.1 hj;exact h)⟩
theorem fA {listed:Array Bool} {a:Act} {w:World} (hr:(Region.ready .any ops listed==[])=true) (h:Q .normal a w):∀fuel,iH P ops Q D fuel listed a w:=by
 have hr':Region.ready .any ops listed=[]:=by simpa using hr
 intro fuel
 cases fuel with
 | zero=>exact⟨hr',h⟩
 | succ n=>exact⟨fun _=>h,by rw[hr'];simp⟩
theorem nH {id:Nat} {a:Act} {w:World} (D:Nat→World→Prop) (hm:P.follows .mixedOrders=true)
 (h:iH P ops Q D ops.size (Array.replicate ops.size false) a w.drew):(Code.region id ops true).wp P Q a w:=
 wp_region_any hm (vS _ _ _ _ h)
theorem aY (i:Nat) {S:World→Prop} {oi:Oper} {v:Value} {fuel:Nat} {listed:Array Bool} {a:Act} {w:World} (hi:ops[i]?=some oi)
 (hs:(Region.noSelect ops&&Region.free .any ops listed i&&(Region.ready .any ops listed).contains i)=true)
 (hQ:∀c a w,Q (.panic c) (a.put oi.dst v) w→Q (.panic c) a w) (hS:S w) (hy:YieldsIf P ops S oi v a)
 (h:iH P ops Q (fun _ w=>S w) fuel (listed.setIfInBounds i true) (a.put oi.dst v) w):iH P ops Q (fun _ w=>S w) (fuel+1) listed a w:=
 BK i S hi hs hQ (fun _ _ _ h=>h) hS hy h
end
section
variable {P:Program} {ops:Array Oper} {Q:Exit→Act→World→Prop} {D:Nat→World→Prop}
def gB (ops:Array Oper):Nat→Nat→Nat→Bool
 | 0,_,_=>false
 | n+1,j,i=>((ops[j]?).map fun o=>o.after.any fun e=>Region.binds .any e&&(e.on==i || gB ops n e.on i)).getD false
def Ky (ops:Array Oper) (listed:Array Bool):Bool:=
 (List.range ops.size).all fun k => !(listed.getD k true) || ((ops[k]?).map fun o=>o.after.all fun e => !(Region.binds .any e) || listed.getD e.on true).getD true
theorem Bo {listed:Array Bool} (h:Ky ops listed=true) {k:Nat} {ok:Oper} (hk:ops[k]?=some ok) (hl:listed.getD k true=true):∀e∈ok.after,Region.binds .any e=true→listed.getD e.on true=true:=by
 intro e he hb;have hks:=(Array.getElem?_eq_some_iff.1 hk).1;have h1:=List.all_eq_true.1 h k (List.mem_range.2 hks);rw[hl,hk] at h1;simp only[Bool.not_true,Bool.false_or,Option.map_some,Option.getD_some] at h1;have h2:=(Array.all_eq_true_iff_forall_mem.1 h1) e he;rw[hb] at h2;simpa using h2
theorem zf {listed:Array Bool} (hc:∀k ok,ops[k]?=some ok→listed.getD k true=true→∀e∈ok.after,Region.binds .any e=true→listed.getD e.on true=true) {i:Nat} :
 ∀(n j:Nat),listed.getD j true=true→gB ops n j i=true→listed.getD i true=true:=by
 intro n
 induction n with
 | zero=>intro j _ h;cases h
 | succ n ih=>
  intro j hj h;unfold gB at h
  cases ho:ops[j]? with
  | none=>rw[ho] at h;cases h
  | some o=>
   rw[ho] at h;simp only[Option.map_some,Option.getD_some,Array.any_eq_true',Bool.and_eq_true,Bool.or_eq_true,beq_iff_eq] at h;obtain⟨e,he,hb,h1⟩:=h;have h2:=hc j o ho hj e he hb;rcases h1 with h1 | h1
   ·rw[← h1];exact h2
   ·exact ih e.on h2 h1
theorem CR {listed:Array Bool} (hc:∀k ok,ops[k]?=some ok→listed.getD k true=true→∀e∈ok.after,Region.binds .any e=true→listed.getD e.on true=true) {i j n:Nat} (hr:i∈Region.ready .any ops listed) (hj:j∈Region.ready .any ops listed):gB ops n j i=false:=by
 cases h:gB ops n j i with
 | false=>rfl
 | true=>
  obtain⟨hiu,-⟩:=mem_ready.1 hr;obtain⟨-,oj,hoj,hall⟩:=mem_ready.1 hj;have hui:¬ listed.getD i true=true:=by
   rcases Nat.lt_or_ge i listed.size with h' | h'
   ·simp[h'] at hiu ⊢;exact hiu
   ·simp[Array.getElem?_eq_none h'] at hiu
  cases n with
  | zero=>cases h
  | succ n=>
   unfold gB at h;rw[hoj] at h;simp only[Option.map_some,Option.getD_some,Array.any_eq_true',Bool.and_eq_true,Bool.or_eq_true,beq_iff_eq] at h;obtain⟨e,he,hb,h1⟩:=h;have h2:=hall e he hb;have h3:listed.getD e.on true=true:=by
    rcases Nat.lt_or_ge e.on listed.size with h' | h'
    ·simp[h'] at h2 ⊢;exact h2
    ·simp[Array.getElem?_eq_none h']
   rcases h1 with h1 | h1
   ·rw[h1] at h3;exact absurd h3 hui
   ·exact absurd (zf hc n e.on h3 h1) hui
theorem xy {n i:Nat} {oi:Oper} {v:Value} (hi:ops[i]?=some oi) (hsel:∀(j:Nat) (o:Oper) cs b,ops[j]?=some o→o.op≠.select cs b)
 (hQ:∀c a w,Q (.panic c) (a.put oi.dst v) w→Q (.panic c) a w) {S:World→Prop} (hlast:∀j w',gB ops n j i=false→D j w'→S w') :
 ∀(fuel:Nat) (listed:Array Bool) (a:Act) (w:World),
  (∀k ok,ops[k]?=some ok→listed.getD k true=true→∀e∈ok.after,Region.binds .any e=true→listed.getD e.on true=true) →
  (∀j oj,ops[j]?=some oj→j≠i→listed.getD j true=false→(∀e∈oj.after,Region.binds .any e=true→e.on≠i)→oi.apart ops oj=true) →
  i∈Region.ready .any ops listed→YieldsIf P ops S oi v a→S w →
  iH P ops Q D fuel (listed.setIfInBounds i true) (a.put oi.dst v) w→iH P ops Q D (fuel+1) listed a w:=by
 intro fuel
 induction fuel with
 | zero=>
  intro listed a w _ _ hr hy hS H;refine ⟨fun h=>(by rw[h] at hr;cases hr),fun j hj=>?_⟩;by_cases hji:j=i
  ·subst hji;exact hy.wpOp hi hS ⟨.inl rfl,H⟩
  ·have:=ready_mono hj hji;rw[H.1] at this
   cases this
 | succ fuel ih=>
  intro listed a w hcl hfree hr hy hS H;refine ⟨fun h=>(by rw[h] at hr;cases hr),fun j hj=>?_⟩;by_cases hji:j=i
  ·subst hji;exact hy.wpOp hi hS ⟨.inl rfl,H⟩
  ·have h1:=H.2 j (ready_mono hj hji);have hjl:=fun w'=>hlast j w' (CR hcl hr hj);obtain⟨hjun,oj,hoj,hall⟩:=mem_ready.1 hj;have hcl':∀k ok,ops[k]?=some ok→(listed.setIfInBounds j true).getD k true=true→∀e∈ok.after,Region.binds .any e=true→(listed.setIfInBounds j true).getD e.on true=true:=by
    have up:∀x,listed.getD x true=true→(listed.setIfInBounds j true).getD x true=true:=fun x hx=>by
     by_cases e:j=x
     ·subst e;by_cases hs:j<listed.size
      ·simp[hs]
      ·simp
     ·rw[getD_set_ne true e];exact hx
    intro k ok hk hl e he hb;by_cases hkj:j=k
    ·subst hkj;rw[hoj] at hk;cases hk;refine up _ ?_;have h2:=hall e he hb;rcases Nat.lt_or_ge e.on listed.size with h' | h'
     ·simp[h'] at h2 ⊢;exact h2
     ·simp[Array.getElem?_eq_none h']
    ·rw[getD_set_ne true hkj] at hl;exact up _ (hcl k ok hk hl e he hb)
   have hnot:∀e∈oj.after,Region.binds .any e=true→e.on≠i:=fun e he hb heq=>by
    have h1:=hall e he hb;have h0:=(mem_ready.1 hr).1;rw[heq] at h1;rcases Nat.lt_or_ge i listed.size with h' | h'
    ·simp[h'] at h0 h1;rw[h0] at h1;cases h1
    ·simp[Array.getElem?_eq_none h'] at h1
   have h2:=wpOp_putIf hoj (hfree j oj hoj hji hjun hnot) (fun cs b=>hsel i oi cs b hi) (fun cs b=>hsel j oj cs b hoj) hQ hy h1;have hfree':∀k ok,ops[k]?=some ok→k≠i→(listed.setIfInBounds j true).getD k true=false →
    (∀e∈ok.after,Region.binds .any e=true→e.on≠i)→oi.apart ops ok=true:=fun k ok hk hki hun hno=>by
    refine hfree k ok hk hki ?_ hno;by_cases hjk:j=k
    ·subst hjk;exact hjun
    ·rw[getD_set_ne true hjk] at hun;exact hun
   refine wpOp_mono (fun a' w' h3=>⟨h3.2.1,ih (listed.setIfInBounds j true) a' w' hcl' hfree' (ready_mono hr (Ne.symm hji)) h3.1 (h3.2.1.elim (fun e=>by rw[e];exact hS) (hjl w')) ?_⟩) h2;rw[Array.setIfInBounds_comm _ _ hji];exact h3.2.2
theorem aM (i n:Nat) (S:World→Prop) {oi:Oper} {v:Value} {fuel:Nat} {listed:Array Bool} {a:Act} {w:World} (hi:ops[i]?=some oi)
 (hs:(Region.noSelect ops&&Region.free .any ops listed i&&(Region.ready .any ops listed).contains i&&Ky ops listed)=true)
 (hQ:∀c a w,Q (.panic c) (a.put oi.dst v) w→Q (.panic c) a w) (hlast:∀j w',gB ops n j i=false→D j w'→S w') (hS:S w) (hy:YieldsIf P ops S oi v a)
 (h:iH P ops Q D fuel (listed.setIfInBounds i true) (a.put oi.dst v) w):iH P ops Q D (fuel+1) listed a w:=by
 simp only[Bool.and_eq_true] at hs;obtain⟨⟨⟨h1,h2⟩,h3⟩,h4⟩:=hs;exact xy hi (Region.noSelect_spec h1) hQ hlast fuel listed a w (fun k ok hk hl=>Bo h4 hk hl) (Region.free_spec hi h2) (by simpa using h3) hy hS h
theorem aG {n j i:Nat} (h:gB ops n j i=true) (k:gB ops n j i=false):False:=by rw[h] at k;cases k
theorem dn {i:Nat} {o:Oper} {K:Act→World→Prop} {a:Act} {w:World} (hi:ops[i]?=some o) (hw:Region.wanted o (yielded ops a.tmps)=true) (h:o.wp P a w K Q):wpOp P ops Q i K a w:=by
 unfold wpOp;rw[hi];simp only[hw,if_true];exact .inl h
theorem BJ {i:Nat} {o:Oper} {K:Act→World→Prop} {a:Act} {w:World} (hi:ops[i]?=some o) (hw:Region.wanted o (yielded ops a.tmps)=false) (h:K (a.put o.dst undef) w):wpOp P ops Q i K a w:=by
 unfold wpOp;rw[hi];simp only[hw];simpa using h
end
end Cl
namespace Cl
open Go Go.RowKit
abbrev Win:=Nat→Nat × Nat
def Win.put (win:Win) (i:Nat) (x:Nat × Nat):Win:=fun j=>if j=i then x else win j
theorem Win.r9 (win:Win) (i:Nat) (x:Nat × Nat):win.put i x i=x:=by simp[Win.put]
theorem Win.tX (win:Win) {i j:Nat} (x:Nat × Nat) (h:j≠i):win.put i x j=win j:=by simp[Win.put,h]
structure Fact where
 deps:List Nat
 holds:Value→Win→World→Prop
 mono:∀(v:Value) (win win':Win) (w w':World),(∀d∈deps,win d=win' d∧(win d).2≤w.heap.size)→Below w.heap.size w w'→holds v win w→holds v win' w'
def Fact.any:Fact:=⟨[],fun _ _ _=>True,fun _ _ _ _ _ _ _ _=>trivial⟩
def Fact.is (p:Value→Prop):Fact:=⟨[],fun v _ _=>p v,fun _ _ _ _ _ _ _ h=>h⟩
def Fact.obj (j:Nat) (t:TypeId) (arr:Array Value):Fact:=⟨[j],fun v win w=>v=.pointer (some ⟨(win j).1,0,none⟩)∧(win j).2=(win j).1+1∧bD w (win j).1 t arr,fun v win win' w w' hd hb ⟨h1,h2,h3⟩=>by
 obtain⟨e,hl⟩:=hd j (List.mem_singleton.2 rfl);rw[← e];exact⟨h1,h2,bD.below h3 hb h3.lt⟩⟩
def Fact.sl (j:Nat) (t:TypeId) (arr:Array Value) (n:Nat):Fact:=⟨[j],fun v win w=>v=.slice (some ⟨(win j).1,0,none⟩) n n∧(win j).2=(win j).1+1∧bD w (win j).1 t arr,fun v win win' w w' hd hb ⟨h1,h2,h3⟩=>by
 obtain⟨e,hl⟩:=hd j (List.mem_singleton.2 rfl);rw[← e];exact⟨h1,h2,bD.below h3 hb h3.lt⟩⟩
def Mem.wins (m:Mem) (w:World) (win:Win) (ds:List Nat):Mem:=fun k=>if ds.any (fun d=>decide ((win d).1≤k∧k<(win d).2))=true then w.heap[k]? else m k
theorem Mem.Io {m:Mem} {w w':World} {win win':Win} {ds:List Nat} (hd:∀d∈ds,win d=win' d∧(win d).2≤w.heap.size) (hb:Below w.heap.size w w'):m.wins w win ds=m.wins w' win' ds:=by
 funext k;unfold Mem.wins;have e:(ds.any fun d=>decide ((win d).1≤k∧k<(win d).2))=ds.any fun d=>decide ((win' d).1≤k∧k<(win' d).2):=by
  rw[Bool.eq_iff_iff,List.any_eq_true,List.any_eq_true];constructor
  ·rintro ⟨d,h1,h2⟩;exact⟨d,h1,by rw[← (hd d h1).1];exact h2⟩
  ·rintro ⟨d,h1,h2⟩;exact⟨d,h1,by rw[(hd d h1).1];exact h2⟩
 rw[← e]
 split
 ·rename_i h;obtain⟨d,h1,h2⟩:=List.any_eq_true.1 h;have:=(hd d h1).2;simp only[decide_eq_true_eq] at h2;exact (hb.block k zo).symm
 ·rfl
theorem Mem.jV {m:Mem} {w:World} (h:m.inn w) (win:Win) (ds:List Nat):(m.wins w win ds).inn w:=⟨fun k o hk=>by
 unfold Mem.wins at hk
 split at hk
 ·exact hk
 ·exact h.get k o hk⟩
theorem Mem.x8 {m:Mem} {w:World} (h:m.inn w) (win:Win) (ds:List Nat):m.le (m.wins w win ds):=⟨fun k o hk=>by
 unfold Mem.wins
 split
 ·exact h.get k o hk
 ·exact hk⟩
theorem Mem.nK {m:Mem} {w:World} (h:m.inn w) (win:Win) {ds es:List Nat} (hs:∀d∈ds,d∈es):(m.wins w win ds).le (m.wins w win es):=⟨fun k o hk=>by
 have hi:=(Mem.jV h win ds).get k o hk;unfold Mem.wins at hk ⊢
 split
 ·exact hi
 ·rename_i hne
  split at hk
  ·rename_i hx;obtain⟨d,h1,h2⟩:=List.any_eq_true.1 hx;exact absurd (List.any_eq_true.2 ⟨d,hs d h1,h2⟩) hne
  ·exact hk⟩
theorem Mem.Im {m:Mem} {w:World} {win:Win} {ds:List Nat} {k:Nat} (h:m k=none) (hd:∀d∈ds,¬ ((win d).1≤k∧k<(win d).2)):m.wins w win ds k=none:=by
 unfold Mem.wins;rw[if_neg]
 ·exact h
 ·intro hx;obtain⟨d,h1,h2⟩:=List.any_eq_true.1 hx;exact hd d h1 (by simpa using h2)
theorem Mem.AV {m:Mem} {w w':World} (h:m.inn w) (win:Win) {ds:List Nat} {i:Nat} (hd:∀d∈ds,d≠i) (hs:∀d∈ds,(win d).2≤w.heap.size) (hb:Below w.heap.size w w') :
 ((m.wins w win ds).grow w w').le (m.wins w' (win.put i (w.heap.size,w'.heap.size)) (i::ds)):=⟨fun k o hk=>by
 have e:m.wins w win ds=m.wins w' (win.put i (w.heap.size,w'.heap.size)) ds:=Mem.Io (fun d hd'=>⟨(Win.tX win _ (hd d hd')).symm,hs d hd'⟩) hb;unfold Mem.grow at hk
 split at hk
 ·rw[e] at hk;exact (Mem.nK (Mem.bE h hb) _ (fun d h=>List.mem_cons_of_mem _ h)).get k o hk
 ·have hlt:=(Array.getElem?_eq_some_iff.1 hk).1;unfold Mem.wins;rw[if_pos]
  ·exact hk
  ·refine List.any_eq_true.2 ⟨i,List.mem_cons_self ..,?_⟩;rw[Win.r9];simp only[decide_eq_true_eq];omega⟩
theorem Mem.GX {m:Mem} {w w':World} (h:m.inn w) (win:Win) (i:Nat) (hb:Below w.heap.size w w'):(m.grow w w').le (m.wins w' (win.put i (w.heap.size,w'.heap.size)) [i]):=by
 have:=Mem.AV (ds:=[]) h win (i:=i) zS zS hb;have e:m.wins w win []=m:=by funext k;simp[Mem.wins]
 rwa [e] at this
def Fact.mem (m:Mem) (ds:List Nat) (R:Mem→Value→Prop):Fact:=⟨ds,fun v win w=>R (m.wins w win ds) v,fun v win win' w w' hd hb h=>by
 rw[← Mem.Io hd hb];exact h⟩
def dstV (a:Act) (o:Oper):Value:=match o.dst with
 | some s=>a.tmps.getD s undef
 | none=>undef
section
variable {P:Program} {ops:Array Oper} {Q:Exit→Act→World→Prop}
structure Reg (ops:Array Oper) (t0:Array Value) (w1:World) (F:Nat→Fact) (don:Nat→Bool) (win:Win) (a:Act) (w:World):Prop where
 size:a.tmps.size=t0.size
 defers:a.defers=[]
 below:Below w1.heap.size w1 w
 keep:∀s,(∀j o,ops[j]?=some o→don j=true→o.dst≠some s)→a.tmps.getD s undef=t0.getD s undef
 fact:∀j o,ops[j]?=some o→don j=true→(F j).holds (dstV a o) win w
 rng:∀j,don j=true→w1.heap.size≤(win j).1∧(win j).1≤(win j).2∧(win j).2≤w.heap.size
 apart:∀j k,don j=true→don k=true→j≠k→(win j).2≤(win k).1∨(win k).2≤(win j).1
def Er (ops:Array Oper) (n0 s:Nat):Bool:=(List.range n0).all fun i=>((ops[i]?).map fun o => !(o.dst==some s)).getD true
theorem nT {n0 s:Nat} (h:Er ops n0 s=true) {j:Nat} {o:Oper} (ho:ops[j]?=some o) (hj:j<n0):o.dst≠some s:=by
 have:=List.all_eq_true.1 h j (List.mem_range.2 hj);rw[ho] at this;simpa using this
structure DK (ops:Array Oper) (n0 fu:Nat) (t0:Array Value) (w1:World) (F:Nat→Fact) (i:Nat) (win:Win) (a:Act) (w:World):Prop where
 size:a.tmps.size=t0.size
 defers:a.defers=[]
 below:Below w1.heap.size w1 w
 keep:∀s,Er ops n0 s=true→a.tmps.getD s undef=t0.getD s undef
 dep:∀j o,gB ops fu i j=true→ops[j]?=some o→(F j).holds (dstV a o) win w
 rng:∀j,gB ops fu i j=true→w1.heap.size≤(win j).1∧(win j).1≤(win j).2∧(win j).2≤w.heap.size
def RegK (F:Nat→Fact) (i:Nat) (o:Oper) (win:Win) (a:Act) (w:World) (a':Act) (w':World):Prop:=
 ∃v,a'=a.put o.dst v∧Below w.heap.size w w'∧(F i).holds v (win.put i (w.heap.size,w'.heap.size)) w'
structure M4 (ops:Array Oper) (n0:Nat) (t0:Array Value) (w1:World) (F:Nat→Fact) (win:Win) (a:Act) (w:World):Prop where
 size:a.tmps.size=t0.size
 defers:a.defers=[]
 below:Below w1.heap.size w1 w
 keep:∀s,Er ops n0 s=true→a.tmps.getD s undef=t0.getD s undef
 fact:∀j o,j<n0→ops[j]?=some o→(F j).holds (dstV a o) win w
 rng:∀j,j<n0→w1.heap.size≤(win j).1∧(win j).1≤(win j).2∧(win j).2≤w.heap.size
 apart:∀j k,j<n0→k<n0→j≠k→(win j).2≤(win k).1∨(win k).2≤(win j).1
def Nr (ops:Array Oper) (n0 fu nt:Nat) (deps:Nat→List Nat):Bool:=
 decide (n0≤ops.size) &&
 (List.range n0).all (fun i=>((ops[i]?).map fun o=>o.after.all fun e => !Region.binds .any e || decide (e.on<i)).getD false) &&
 (List.range ops.size).all (fun i=>decide (i<n0) || (List.range n0).all fun j=>gB ops fu i j) &&
 (List.range n0).all (fun i=>((ops[i]?).map fun o=>match o.dst with
  | some s=>decide (s<nt)&&(List.range i).all fun j=>((ops[j]?).map fun o' => !(o'.dst==some s)).getD true
  | none=>false).getD false) &&
 (List.range n0).all (fun j=>(deps j).all fun d=>d==j || gB ops fu j d)
structure OL (ops:Array Oper) (n0 fu nt:Nat) (deps:Nat→List Nat):Prop where
 le:n0≤ops.size
 back:∀i o,i<n0→ops[i]?=some o→∀e∈o.after,Region.binds .any e=true→e.on<i
 late:∀i,i<ops.size→n0≤i→∀j,j<n0→gB ops fu i j=true
 dst:∀i o,i<n0→ops[i]?=some o→∃s,o.dst=some s∧s<nt∧∀j o',j<n0→ops[j]?=some o'→j≠i→o'.dst≠some s
 dep:∀j,j<n0→∀d∈deps j,d=j∨gB ops fu j d=true
theorem FW {n0 fu nt:Nat} {deps:Nat→List Nat} (h:Nr ops n0 fu nt deps=true):OL ops n0 fu nt deps:=by
 simp only[Nr,Bool.and_eq_true,decide_eq_true_eq] at h;obtain⟨⟨⟨⟨h1,h2⟩,h3⟩,h4⟩,h5⟩:=h;have d1:∀i o,i<n0→ops[i]?=some o→∃s,o.dst=some s∧s<nt∧∀j o',j<i→ops[j]?=some o'→o'.dst≠some s:=by
  intro i o hi ho;have:=List.all_eq_true.1 h4 i (List.mem_range.2 hi);rw[ho] at this;simp only[Option.map_some,Option.getD_some] at this
  split at this
  ·rename_i s hs;rw[Bool.and_eq_true,decide_eq_true_eq] at this;refine ⟨s,hs,this.1,fun j o' hj ho'=>?_⟩;have:=List.all_eq_true.1 this.2 j (List.mem_range.2 hj);rw[ho'] at this;simpa using this
  ·cases this
 refine ⟨h1,?_,?_,?_,?_⟩
 ·intro i o hi ho e he hb;have:=List.all_eq_true.1 h2 i (List.mem_range.2 hi);rw[ho] at this;simp only[Option.map_some,Option.getD_some] at this;have:=Array.all_eq_true_iff_forall_mem.1 this e he;simpa [hb] using this
 ·intro i hi hn j hj;have:=List.all_eq_true.1 h3 i (List.mem_range.2 hi);simp only[Bool.or_eq_true,decide_eq_true_eq] at this;exact List.all_eq_true.1 (this.resolve_left zo) j (List.mem_range.2 hj)
 ·intro i o hi ho;obtain⟨s,hs,hlt,hall⟩:=d1 i o hi ho;refine ⟨s,hs,hlt,fun j o' hj ho' hne e=>?_⟩;rcases Nat.lt_or_ge j i with hlt' | hge
  ·exact hall j o' hlt' ho' e
  ·obtain⟨s',hs',-,hall'⟩:=d1 j o' hj ho';have:s'=s:=Option.some.inj (hs'.symm.trans e);subst this;exact hall' i o zo ho hs
 ·intro j hj d hd;have:=List.all_eq_true.1 (List.all_eq_true.1 h5 j (List.mem_range.2 hj)) d hd;simpa using this
theorem uG {p q:Nat→Bool} (h:∀x,q x=true→p x=true) {i:Nat} (hp:p i=true) (hq:q i=false):∀l:List Nat,i∈l→(l.filter q).length<(l.filter p).length
 | [],hi=>by cases hi
 | x::l,hi=>by
  have hle:(l.filter q).length≤(l.filter p).length:=by
   clear hi
   induction l with
   | nil=>simp
   | cons y l ih=>
    simp only[List.filter_cons]
    cases hy:q y with
    | true=>simp[h y hy,ih]
    | false=>
     cases p y with
     | true=>simp;omega
     | false=>simpa using ih
  rcases List.mem_cons.1 hi with e | hm
  ·subst e;simp only[List.filter_cons,hp,hq,if_true];simp;omega
  ·have ih:=uG h hp hq l hm;simp only[List.filter_cons]
   cases hy:q x with
   | true=>simp[h x hy,ih]
   | false=>
    cases p x with
    | true=>simp;omega
    | false=>simpa using ih
theorem EA {p:Nat→Bool}:∀n,(∃j,j<n∧p j=true)→∃j,j<n∧p j=true∧∀k,k<j→p k=false
 | 0,⟨_,h,_⟩=>zo
 | n+1,⟨j,h,hp⟩=>by
  by_cases hx:∃j,j<n∧p j=true
  ·obtain⟨j,h1,h2,h3⟩:=EA n hx;exact⟨j,zo,h2,h3⟩
  ·refine ⟨j,h,hp,fun k hk=>?_⟩
   cases hpk:p k with
   | false=>rfl
   | true=>exact absurd ⟨k,zo,hpk⟩ hx
theorem qi:∀(fuel more:Nat) (listed:Array Bool) (a:Act) (w:World),fuel≤more→wpAny P .any ops Q fuel listed a w→wpAny P .any ops Q more listed a w
 | 0,more,listed,a,w,_,h=>by
  cases more with
  | zero=>exact h
  | succ m=>exact⟨fun _=>h.2,fun i hi=>by rw[h.1] at hi;cases hi⟩
 | fuel+1,more,listed,a,w,hl,h=>by
  cases more with
  | zero=>omega
  | succ m=>exact⟨h.1,fun i hi=>wpOp_mono (fun a' w' h'=>qi fuel m _ a' w' zo h') (h.2 i hi)⟩
def JC (n n0:Nat):Array Bool:=((List.range n).map fun i=>decide (i<n0)).toArray
theorem J9 {l:Array Bool} {i:Nat} (h:i<l.size):l.getD i true=l.getD i false:=by simp[h]
theorem Ev {n n0:Nat} {listed:Array Bool} (hsz:listed.size=n) (hearly:∀j,listed.getD j false=true→j<n0) (hall:∀j,j<n0→listed.getD j false=true):listed=JC n n0:=by
 apply Array.ext
 ·simp[JC,hsz]
 ·intro i h1 h2;simp only[JC,List.getElem_toArray,List.getElem_map,List.getElem_range];have h3:listed.getD i false=listed[i]:=by simp[h1]
  rw[← h3];by_cases hi:i<n0
  ·rw[hall i hi];simp[hi]
  ·cases hx:listed.getD i false with
   | true=>exact absurd (hearly i hx) hi
   | false=>simp[hi]
def DR (ops:Array Oper) (listed:Array Bool):Prop:=
 ∀k ok,ops[k]?=some ok→listed.getD k false=true→∀e∈ok.after,Region.binds .any e=true→listed.getD e.on false=true
theorem qW {listed:Array Bool} (hc:DR ops listed) {i:Nat}:∀(n j:Nat),listed.getD j false=true→gB ops n j i=true→listed.getD i false=true:=by
 intro n
 induction n with
 | zero=>intro j _ h;cases h
 | succ n ih=>
  intro j hj h;unfold gB at h
  cases ho:ops[j]? with
  | none=>rw[ho] at h;cases h
  | some o=>
   rw[ho] at h;simp only[Option.map_some,Option.getD_some,Array.any_eq_true',Bool.and_eq_true,Bool.or_eq_true,beq_iff_eq] at h;obtain⟨e,he,hb,h1⟩:=h;have h2:=hc j o ho hj e he hb;rcases h1 with h1 | h1
   ·rw[← h1];exact h2
   ·exact ih e.on h2 h1
theorem nQ {listed:Array Bool} (hc:DR ops listed) {i j n:Nat} (hr:i∈Region.ready .any ops listed) (hw:gB ops n i j=true):listed.getD j false=true:=by
 obtain⟨hun,o,ho,hdeps⟩:=mem_ready.1 hr
 cases n with
 | zero=>cases hw
 | succ n=>
  unfold gB at hw;rw[ho] at hw;simp only[Option.map_some,Option.getD_some,Array.any_eq_true',Bool.and_eq_true,Bool.or_eq_true,beq_iff_eq] at hw;obtain⟨e,he,hb,h1⟩:=hw;have h2:=hdeps e he hb;rcases h1 with h1 | h1
  ·rw[← h1];exact h2
  ·exact qW hc n e.on h2 h1
theorem eX {l:Array Bool} {i j:Nat}:(l.setIfInBounds i true).getD j false=true↔l.getD j false=true∨(j=i∧i<l.size):=by
 simp only[Array.getD_eq_getD_getElem?,Array.getElem?_setIfInBounds];by_cases e:i=j
 ·subst e;by_cases h:i<l.size
  ·simp[h]
  ·simp[h]
 ·rw[if_neg e];constructor
  ·exact .inl
  ·rintro (h | ⟨h,-⟩)
   ·exact h
   ·exact absurd h.symm e
theorem putD {a:Act} {s:Nat} {v:Value} {t:Nat}:(a.put (some s) v).tmps.getD t undef=if t=s∧s<a.tmps.size then v else a.tmps.getD t undef:=by
 simp only[Act.put,Array.getD_eq_getD_getElem?,Array.getElem?_setIfInBounds];by_cases e:s=t
 ·subst e;by_cases h:s<a.tmps.size
  ·simp[h]
  ·simp[h]
 ·rw[if_neg e,if_neg (fun h=>e h.1.symm)]
theorem Jh {n0 fu:Nat} {t0:Array Value} {w1:World} {F:Nat→Fact} (H:OL ops n0 fu t0.size (fun j=>(F j).deps))
 (hstep:∀i,i<n0→∀o win a w,ops[i]?=some o→DK ops n0 fu t0 w1 F i win a w→wpOp P ops Q i (RegK F i o win a w) a w)
 (hend:∀win a w,M4 ops n0 t0 w1 F win a w→wpAny P .any ops Q (ops.size - n0) (JC ops.size n0) a w) :
 ∀(fuel:Nat) (listed:Array Bool) (win:Win) (a:Act) (w:World),listed.size=ops.size→(∀j,listed.getD j false=true→j<n0)→DR ops listed →
  ((List.range n0).filter fun j => !listed.getD j false).length+(ops.size - n0)≤fuel→Reg ops t0 w1 F (fun j=>listed.getD j false) win a w→wpAny P .any ops Q fuel listed a w:=by
 intro fuel
 induction fuel with
 | zero=>
  intro listed win a w hsz hearly hcl hfu hR;have hall:∀j,j<n0→listed.getD j false=true:=fun j hj=>by
   cases hx:listed.getD j false with
   | true=>rfl
   | false=>
    have:j∈(List.range n0).filter fun j => !listed.getD j false:=List.mem_filter.2 ⟨List.mem_range.2 hj,by rw[hx];rfl⟩;have:=List.length_pos_of_mem this;omega
  have:=hend win a w ⟨hR.size,hR.defers,hR.below,fun s hs=>hR.keep s fun j o ho hd=>nT hs ho (hearly j hd),fun j o hj ho=>hR.fact j o ho (hall j hj),fun j hj=>hR.rng j (hall j hj),fun j k hj hk hne=>hR.apart j k (hall j hj) (hall k hk) hne⟩;rw[Ev hsz hearly hall]
  exact qi _ _ _ _ _ zo this
 | succ fuel ih=>
  intro listed win a w hsz hearly hcl hfu hR;by_cases hall:∀j,j<n0→listed.getD j false=true
  ·have:=hend win a w ⟨hR.size,hR.defers,hR.below,fun s hs=>hR.keep s fun j o ho hd=>nT hs ho (hearly j hd),fun j o hj ho=>hR.fact j o ho (hall j hj),fun j hj=>hR.rng j (hall j hj),fun j k hj hk hne=>hR.apart j k (hall j hj) (hall k hk) hne⟩;rw[Ev hsz hearly hall];exact qi _ _ _ _ _ zo this
  ·have hex:∃j,j<n0∧(!listed.getD j false)=true:=by
    apply Classical.byContradiction;intro hno;exact hall fun j hj=>by
     cases hx:listed.getD j false with
     | true=>rfl
     | false=>exact absurd ⟨j,hj,by rw[hx];rfl⟩ hno
   refine ⟨fun hnil=>?_,fun i hi=>?_⟩
   ·obtain⟨j,h1,h2,h3⟩:=EA n0 hex;have hjs:j<ops.size:=by have:=H.le;omega
    have:j∈Region.ready .any ops listed:=mem_ready.2 ⟨by rw[J9 zo];simpa using h2,ops[j],by simp[hjs],fun e he hb=>by
     have:=h3 e.on (H.back j _ h1 (by simp[hjs]) e he hb);simpa using this⟩
    rw[hnil] at this;cases this
   ·obtain⟨hun,o,ho,hdeps⟩:=mem_ready.1 hi;have his:i<ops.size:=(Array.getElem?_eq_some_iff.1 ho).1;have hin:i<n0:=by
     rcases Nat.lt_or_ge i n0 with h | h
     ·exact h
     ·exact absurd (fun j hj=>nQ hcl hi (H.late i his h j hj)) hall
    rw[J9 zo] at hun;obtain⟨s,hs,hst,hsn⟩:=H.dst i o hin ho;have hsa:s<a.tmps.size:=by rw[hR.size];exact hst
    have hA:DK ops n0 fu t0 w1 F i win a w:=⟨hR.size,hR.defers,hR.below,fun s hs=>hR.keep s fun j o ho hd=>nT hs ho (hearly j hd),
     fun j o hw ho=>hR.fact j o ho (nQ hcl hi hw),fun j hw=>hR.rng j (nQ hcl hi hw)⟩
    refine wpOp_mono ?_ (hstep i hin o win a w ho hA);rintro a' w' ⟨v,rfl,hb,hv⟩;rw[hs];have hother:∀j,listed.getD j false=true→j≠i:=fun j hj e=>by rw[e,hun] at hj;cases hj
    refine ih (listed.setIfInBounds i true) (win.put i (w.heap.size,w'.heap.size)) _ _ (by simpa using hsz) ?_ ?_ ?_ ?_
    ·intro j hj;rcases eX.1 hj with h | h
     ·exact hearly j h
     ·rw[h.1];exact hin
    ·intro k ok hk hl e he hbd;refine eX.2 (.inl ?_);rcases eX.1 hl with h | h
     ·exact hcl k ok hk h e he hbd
     ·have hki:=h.1;subst hki;have:ok=o:=Option.some.inj (hk.symm.trans ho);subst this;exact hdeps e he hbd
    ·have:((List.range n0).filter fun j => !(listed.setIfInBounds i true).getD j false).length<((List.range n0).filter fun j => !listed.getD j false).length:=by
      refine uG (i:=i) (fun x hx=>?_) (by rw[hun];rfl) ?_ _ (List.mem_range.2 hin)
      ·cases hl:listed.getD x false with
       | false=>rfl
       | true=>
        have:=eX (l:=listed) (i:=i) (j:=x) |>.2 (.inl hl);rw[this] at hx;cases hx
      ·have:=eX (l:=listed) (i:=i) (j:=i) |>.2 (.inr ⟨rfl,zo⟩);rw[this];rfl
     omega
    ·refine ⟨?_,hR.defers,bZ hR.below hb,?_,?_,?_,?_⟩
     ·simp[Act.put,hR.size]
     ·intro t ht;rw[putD,if_neg]
      ·exact hR.keep t fun j o' ho' hd=>ht j o' ho' (eX.2 (.inl hd))
      ·rintro ⟨e,-⟩;exact ht i o ho (eX.2 (.inr ⟨rfl,zo⟩)) (by rw[hs,e])
     ·intro j o' ho' hd;rcases eX.1 hd with h | h
      ·have hji:=hother j h;have e:dstV (a.put (some s) v) o'=dstV a o':=by
        unfold dstV
        cases hd':o'.dst with
        | none=>rfl
        | some t=>
         simp only;rw[putD,if_neg];rintro ⟨e,-⟩;exact hsn j o' (hearly j h) ho' hji (by rw[hd',e])
       rw[e];refine (F j).mono _ win _ w w' (fun d hd=>?_) hb (hR.fact j o' ho' h);have hdl:listed.getD d false=true:=by
        rcases H.dep j (hearly j h) d hd with e | hw
        ·rw[e];exact h
        ·exact qW hcl fu j h hw
       exact⟨(Win.tX win _ (hother d hdl)).symm,(hR.rng d hdl).2.2⟩
      ·have hji:=h.1;subst hji;have:o'=o:=Option.some.inj (ho'.symm.trans ho);subst this;have e:dstV (a.put (some s) v) o'=v:=by
        unfold dstV;rw[hs];simp only;rw[putD,if_pos ⟨rfl,hsa⟩]
       rw[e];exact hv
     ·intro j hd;rcases eX.1 hd with h | h
      ·rw[Win.tX win _ (hother j h)];have:=hR.rng j h;have:=hb.size;omega
      ·rw[h.1,Win.r9];exact⟨hR.below.size,hb.size,Nat.le_refl _⟩
     ·intro j k hj hk hne;rcases eX.1 hj with h | h
      ·rcases eX.1 hk with h' | h'
       ·rw[Win.tX win _ (hother j h),Win.tX win _ (hother k h')];exact hR.apart j k h h' hne
       ·rw[Win.tX win _ (hother j h),h'.1,Win.r9];exact .inl (hR.rng j h).2.2
      ·rcases eX.1 hk with h' | h'
       ·rw[Win.tX win _ (hother k h'),h.1,Win.r9];exact .inr (hR.rng k h').2.2
       ·exact absurd (h.1.trans h'.1.symm) hne
theorem aX {id:Nat} {t0:Array Value} {w:World} (n0 fu:Nat) (F:Nat→Fact) (hm:P.follows .mixedOrders=true) (hok:Nr ops n0 fu t0.size (fun j=>(F j).deps)=true)
 (hstep:∀i,i<n0→∀o win a w',ops[i]?=some o→DK ops n0 fu t0 w.drew F i win a w'→wpOp P ops Q i (RegK F i o win a w') a w')
 (hend:∀win a w',M4 ops n0 t0 w.drew F win a w'→wpAny P .any ops Q (ops.size - n0) (JC ops.size n0) a w'):(Code.region id ops true).wp P Q ⟨t0,[]⟩ w:=by
 have H:=FW hok;refine wp_region_any hm (Jh H hstep hend ops.size (Array.replicate ops.size false) (fun _=>(0,0)) ⟨t0,[]⟩ w.drew zS ?_ ?_ ?_ ?_)
 ·intro j hj;exfalso;by_cases h:j<ops.size <;> simp[h] at hj
 ·intro k ok _ hl;exfalso;by_cases h:k<ops.size <;> simp[h] at hl
 ·have:((List.range n0).filter fun j => !(Array.replicate ops.size false).getD j false).length≤n0:=by
   have:=List.length_filter_le (fun j => !(Array.replicate ops.size false).getD j false) (List.range n0);simpa using this
  have:=H.le;omega
 ·have hno:∀j,(Array.replicate ops.size false).getD j false=true→False:=fun j hj=>by
   by_cases h:j<ops.size <;> simp[h] at hj
  exact⟨rfl,rfl,Below.refl _ _,fun _ _=>rfl,fun j _ _ hj=>(hno j hj).elim,fun j hj=>(hno j hj).elim,fun j _ hj=>(hno j hj).elim⟩
theorem di {listed:Array Bool} {a:Act} {w:World} (hr:(Region.ready .any ops listed==[])=true) (h:Q .normal a w):∀fuel,wpAny P .any ops Q fuel listed a w:=by
 have hr':Region.ready .any ops listed=[]:=by simpa using hr
 intro fuel
 cases fuel with
 | zero=>exact⟨hr',h⟩
 | succ n=>exact⟨fun _=>h,by rw[hr'];simp⟩
theorem jB (i:Nat) {fuel:Nat} {listed:Array Bool} {a:Act} {w:World} (hr:(Region.ready .any ops listed==[i])=true)
 (h:wpOp P ops Q i (fun a' w'=>wpAny P .any ops Q fuel (listed.setIfInBounds i true) a' w') a w):wpAny P .any ops Q (fuel+1) listed a w:=by
 have hr':Region.ready .any ops listed=[i]:=by simpa using hr
 exact⟨fun h0=>(by rw[hr'] at h0;cases h0),fun j hj=>(by rw[hr'] at hj;obtain rfl:=List.mem_singleton.1 hj;exact h)⟩
theorem Ka {t:Array Value} {s:Nat} {b:Bool} (h:t.getD s undef=.bool b):t[s]?=some (.bool b):=by
 cases hx:t[s]? with
 | none=>simp[hx,undef] at h
 | some v=>simpa [hx] using h
theorem yZ {o:Oper} {a:Act} {g s:Nat} {b c:Bool} (hg:o.guard=some (g,b)) (hs:(ops[g]?).bind (·.dst)=some s) (e:a.tmps.getD s undef=.bool c):Region.wanted o (yielded ops a.tmps)=(c==b):=by
 have h:=Ka e;simp[Region.wanted,hg,yielded,hs,h]
theorem bQ {o:Oper} {a:Act} {g s:Nat} {b:Bool} (hg:o.guard=some (g,b)) (hs:(ops[g]?).bind (·.dst)=some s) (e:a.tmps.getD s undef=.bool b):Region.wanted o (yielded ops a.tmps)=true:=by
 rw[yZ hg hs e];simp
theorem Iu {o:Oper} {a:Act} {g s:Nat} {b c:Bool} (hg:o.guard=some (g,b)) (hs:(ops[g]?).bind (·.dst)=some s) (e:a.tmps.getD s undef=.bool c) (hn:(c==b)=false):Region.wanted o (yielded ops a.tmps)=false:=by
 rw[yZ hg hs e,hn]
end
theorem Own.region {w0 w1 w:World} {m mk:Mem} {L:List Item} (h:Own w0 m w1 mk L) (hb:Below w1.heap.size w1 w) (win:Win) (ds:List Nat) (hd:∀d∈ds,w1.heap.size≤(win d).1):Own w0 m w (mk.wins w win ds) L:=by
 have hm:=h.move hb;have no:∀k,k<w1.heap.size→mk k=none→mk.wins w win ds k=none:=fun k hk hn=>Mem.Im hn fun d h1 h2=>by have:=hd d h1;omega
 refine ⟨h.m0,hm.below,⟨Mem.le_trans h.ext.le (Mem.x8 hm.inn win ds),fun k o hk=>?_⟩,Mem.jV hm.inn win ds,hm.ok,fun it hi k hk=>⟨(h.fresh it hi k hk).1,no k (Item.lt (h.ok it hi) hk) (h.fresh it hi k hk).2⟩,h.apart⟩;rcases Nat.lt_or_ge k w1.heap.size with hlt | hge
 ·cases hx:mk k with
  | none=>rw[no k hlt hx] at hk;cases hk
  | some o'=>exact h.ext.dom k o' hx |>.imp (fun e=>by
   have h1:=(Mem.x8 hm.inn win ds).get k o' hx;rw[hk] at h1;rw[e,h1]) id
 ·exact .inr (Nat.le_trans h.below.size hge)
section
variable {P:Program} {ops:Array Oper} {Q:Exit→Act→World→Prop} {F:Nat→Fact}
theorem DK.d {n0 fu:Nat} {t0:Array Value} {w1:World} {i:Nat} {win:Win} {a:Act} {w:World} (h:DK ops n0 fu t0 w1 F i win a w) (j:Nat) {o:Oper} (h2:ops[j]?=some o) (h1:gB ops fu i j=true:=by kernel_rfl):(F j).holds (dstV a o) win w:=h.dep j o h1 h2
theorem DK.k {n0 fu:Nat} {t0:Array Value} {w1:World} {i:Nat} {win:Win} {a:Act} {w:World} (h:DK ops n0 fu t0 w1 F i win a w) (s:Nat) (h1:Er ops n0 s=true:=by kernel_rfl):a.tmps.getD s undef=t0.getD s undef:=h.keep s h1
theorem wv {i:Nat} {o:Oper} {win:Win} {a:Act} {w:World} {v:Value} (hi:ops[i]?=some o) (hg:o.guard=none) (hf:(F i).holds v (win.put i (w.heap.size,w.heap.size)) w) (hr:(execOp a.eval o).run P w=.ok (.value v) w:=by go_simp;first | done | rfl):wpOp P ops Q i (RegK F i o win a w) a w:=aO hi hg (aK hr ⟨v,rfl,Below.refl _ _,hf⟩)
theorem wy {i:Nat} {o:Oper} {win:Win} {a:Act} {w:World} {v:Value} {g s:Nat} {b:Bool} (hi:ops[i]?=some o) (hg:o.guard=some (g,b)) (hs:(ops[g]?).bind (·.dst)=some s) (e:a.tmps.getD s undef=.bool b) (hf:(F i).holds v (win.put i (w.heap.size,w.heap.size)) w) (hr:(execOp a.eval o).run P w=.ok (.value v) w:=by go_simp;first | done | rfl):wpOp P ops Q i (RegK F i o win a w) a w:=dn hi (bQ hg hs e) (aK hr ⟨v,rfl,Below.refl _ _,hf⟩)
theorem wn {i:Nat} {o:Oper} {win:Win} {a:Act} {w:World} {g s:Nat} {b c:Bool} (hi:ops[i]?=some o) (hg:o.guard=some (g,b)) (hs:(ops[g]?).bind (·.dst)=some s) (e:a.tmps.getD s undef=.bool c) (hn:(c==b)=false) (hf:(F i).holds undef (win.put i (w.heap.size,w.heap.size)) w):wpOp P ops Q i (RegK F i o win a w) a w:=BJ hi (Iu hg hs e hn) ⟨undef,rfl,Below.refl _ _,hf⟩
theorem we {i:Nat} {o:Oper} {K:Act→World→Prop} {a:Act} {w w':World} {f:FuncId} {args:Array Value} {X:Ending→World→Prop} (hi:ops[i]?=some o) (hg:o.guard=none) (hc:Calls P f args w' X) (h:∀e w'',X e w''→∃v,e=.returned v∧K (a.put o.dst v) w'') (hr:(execOp a.eval o).run P w=.ok (.enter f args) w':=by go_simp;first | done | rfl | exact⟨rfl,rfl⟩):wpOp P ops Q i K a w:=aO hi hg (fQ hr hc h)
theorem we2 {i:Nat} {o:Oper} {K:Act→World→Prop} {a:Act} {w w':World} {f:FuncId} {args:Array Value} {X:Ending→World→Prop} {g s:Nat} {b:Bool} (hi:ops[i]?=some o) (hg:o.guard=some (g,b)) (hs:(ops[g]?).bind (·.dst)=some s) (e:a.tmps.getD s undef=.bool b) (hc:Calls P f args w' X) (h:∀e w'',X e w''→∃v,e=.returned v∧K (a.put o.dst v) w'') (hr:(execOp a.eval o).run P w=.ok (.enter f args) w':=by go_simp;first | done | rfl | exact⟨rfl,rfl⟩):wpOp P ops Q i K a w:=dn hi (bQ hg hs e) (fQ hr hc h)
end
end Cl
namespace Go.Proofs
open Go.Shelf
def Tryz.FK:Go.Shelf.Ren:=⟨fun | 6=>213 | 15=>249 | 14=>248 | 28=>269 | 29=>270 | 20=>261 | 21=>262 | 22=>263 | 23=>264 | 24=>265 | 25=>266 | 26=>267 | 27=>268 | 46=>275 | 47=>276 | 48=>277 | 49=>278 | 50=>279 | 57=>286 | n=>n,fun | 22=>22 | 24=>139 | 25=>198 | 3=>3 | 39=>234 | 0=>0 | 53=>256 | 55=>258 | 4=>4 | 46=>250 | 45=>249 | 50=>241 | 5=>5 | 9=>9 | 66=>267 | 70=>271 | 76=>278 | 77=>279 | n=>n,fun | n=>n⟩
theorem Tryz.Oj:Go.Proofs.SlLaysF0.n6 Tryz.prog Tryz.FK:={
 mixed:=by kernel_rfl
 f6:=⟨Tryz.f213.name,by decide,Tryz.func213.trans (congrArg some zk)⟩
 f14:=⟨Tryz.f248.name,by decide,Tryz.func248.trans (congrArg some zk)⟩
 f15:=Tryz.func249.trans (congrArg some zk)
 f20:=⟨Tryz.f261.name,by decide,Tryz.func261.trans (congrArg some zk)⟩
 f21:=⟨Tryz.f262.name,by decide,Tryz.func262.trans (congrArg some zk)⟩
 f22:=⟨Tryz.f263.name,by decide,Tryz.func263.trans (congrArg some zk)⟩
 f23:=⟨Tryz.f264.name,by decide,Tryz.func264.trans (congrArg some zk)⟩
 f24:=⟨Tryz.f265.name,by decide,Tryz.func265.trans (congrArg some zk)⟩
 f25:=⟨Tryz.f266.name,by decide,Tryz.func266.trans (congrArg some zk)⟩
 f26:=⟨Tryz.f267.name,by decide,Tryz.func267.trans (congrArg some zk)⟩
 f27:=⟨Tryz.f268.name,by decide,Tryz.func268.trans (congrArg some zk)⟩
 f28:=Tryz.func269.trans (congrArg some zk)
 f29:=Tryz.func270.trans (congrArg some zk)
 f46:=⟨Tryz.f275.name,by decide,Tryz.func275.trans (congrArg some zk)⟩
 f47:=Tryz.func276.trans (congrArg some zk)
 f48:=Tryz.func277.trans (congrArg some zk)
 f49:=⟨Tryz.f278.name,by decide,Tryz.func278.trans (congrArg some zk)⟩
 f50:=⟨Tryz.f279.name,by decide,Tryz.func279.trans (congrArg some zk)⟩
 f57:=⟨Tryz.f286.name,by decide,Tryz.func286.trans (congrArg some zk)⟩
 t0:=Tryz.underlying0
 a0:=Tryz.isAgg0
 z0:=Tryz.sizeOf0
 v0:=Tryz.zeroValue0
 t3:=Tryz.underlying3
 a3:=Tryz.isAgg3
 z3:=Tryz.sizeOf3
 v3:=Tryz.zeroValue3
 t4:=Tryz.underlying4
 a4:=Tryz.isAgg4
 z4:=Tryz.sizeOf4
 v4:=Tryz.zeroValue4
 t5:=Tryz.underlying5
 a5:=Tryz.isAgg5
 z5:=Tryz.sizeOf5
 v5:=Tryz.zeroValue5
 t9:=Tryz.underlying9
 a9:=Tryz.isAgg9
 z9:=Tryz.sizeOf9
 v9:=Tryz.zeroValue9
 t22:=Tryz.underlying22
 a22:=Tryz.isAgg22
 z22:=Tryz.sizeOf22
 v22:=Tryz.zeroValue22
 t25:=Tryz.underlying198
 a25:=Tryz.isAgg198
 z25:=Tryz.sizeOf198
 v25:=Tryz.zeroValue198
 t39:=Tryz.underlying234
 a39:=Tryz.isAgg234
 z39:=Tryz.sizeOf234
 v39:=Tryz.zeroValue234
 t45:=Tryz.underlying249
 a45:=Tryz.isAgg249
 z45:=Tryz.sizeOf249
 v45:=Tryz.zeroValue249
 t46:=Tryz.underlying250
 a46:=Tryz.isAgg250
 z46:=Tryz.sizeOf250
 v46:=Tryz.zeroValue250
 t50:=Tryz.underlying241
 a50:=Tryz.isAgg241
 z50:=Tryz.sizeOf241
 v50:=Tryz.zeroValue241
 t53:=Tryz.underlying256
 a53:=Tryz.isAgg256
 z53:=Tryz.sizeOf256
 v53:=Tryz.zeroValue256
 t55:=Tryz.underlying258
 a55:=Tryz.isAgg258
 z55:=Tryz.sizeOf258
 v55:=Tryz.zeroValue258
 t66:=Tryz.underlying267
 a66:=Tryz.isAgg267
 z66:=Tryz.sizeOf267
 v66:=Tryz.zeroValue267
 t70:=Tryz.underlying271
 a70:=Tryz.isAgg271
 z70:=Tryz.sizeOf271
 v70:=Tryz.zeroValue271
 t76:=Tryz.underlying278
 a76:=Tryz.isAgg278
 z76:=Tryz.sizeOf278
 v76:=Tryz.zeroValue278
 t77:=Tryz.underlying279
 a77:=Tryz.isAgg279
 z77:=Tryz.sizeOf279
 v77:=Tryz.zeroValue279 }
end Go.Proofs
