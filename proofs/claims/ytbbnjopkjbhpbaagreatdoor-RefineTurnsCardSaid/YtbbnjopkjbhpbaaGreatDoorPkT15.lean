/- Lemmas. -/
import Derived.Test.YtbbnjopkjbhpbaaGreatDoorPkT11
set_option maxRecDepth 99999
set_option maxHeartbeats 9999999
namespace Cl
open Go Go.RowKit Go.Proofs Go.Sort
structure jd (k:Nat) {α:Type} (Rp:List Value→α→Prop) (xs:List Value) (l:List α):Prop where
 ex:∃css:List (List Value),xs=css.flatten∧css.length=l.length∧∀i (h1:i<css.length) (h2:i<l.length),css[i].length=k∧(∀u∈css[i],u.oneCell'=true)∧Rp css[i] l[i]
section
variable {k:Nat} {α:Type} {Rp:List Value→α→Prop}
theorem jd.nil:jd k Rp [] []:=⟨[],rfl,rfl,fun i h=>by simp at h⟩
theorem jd.push {xs:List Value} {l:List α} (h:jd k Rp xs l) {cs:List Value} {x:α} (h1:cs.length=k) (h2:∀u∈cs,u.oneCell'=true) (h3:Rp cs x):jd k Rp (xs ++ cs) (l ++ [x]):=by
 obtain⟨css,e1,e2,e3⟩:=h.ex;refine ⟨css ++ [cs],by rw[e1];simp,by simp[e2],fun i a b=>?_⟩;by_cases c:i<css.length
 ·have:=e3 i c zo;rw[xM c,xM zo];exact this
 ·have e:i=css.length:=by simp at a;omega
  subst e;rw[List.getElem_append_right zo,List.getElem_append_right zo];simpa [e2] using ⟨h1,h2,h3⟩
theorem jd.mono {Rq:List Value→α→Prop} {xs:List Value} {l:List α} (h:jd k Rp xs l) (hr:∀cs x,Rp cs x→Rq cs x):jd k Rq xs l:=by
 obtain⟨css,e1,e2,e3⟩:=h.ex;exact⟨css,e1,e2,fun i a b=>⟨(e3 i a b).1,(e3 i a b).2.1,hr _ _ (e3 i a b).2.2⟩⟩
theorem um:∀{css:List (List Value)},(∀c∈css,c.length=k)→css.flatten.length=css.length*k
 | [],_=>by simp
 | c::css,h=>by
  rw[List.flatten_cons,zL,um fun x hx=>h x (by simp[hx]),h c zS,yO,Nat.add_mul];omega
theorem IY:∀{css:List (List Value)},(∀c∈css,c.length=k)→∀(i:Nat) (h:i<css.length) (j:Nat),j<k→css.flatten[i*k+j]?=css[i][j]?
 | [],_,i,h,_,_=>by simp at h
 | c::css,hk,0,h,j,hj=>by
  rw[List.flatten_cons,yK (by rw[hk c zS];omega)];simp
 | c::css,hk,i+1,h,j,hj=>by
  have hc:=hk c zS;rw[List.flatten_cons,yN (by rw[hc,Nat.add_mul];omega),hc,show (i+1)*k+j - k=i*k+j by rw[Nat.add_mul];omega];rw[IY (fun x hx=>hk x (by simp[hx])) i (by simpa using h) j hj];simp
theorem jd.len {xs:List Value} {l:List α} (h:jd k Rp xs l):xs.length=l.length*k:=by
 obtain⟨css,e1,e2,e3⟩:=h.ex;rw[e1,um fun c hc=>by obtain⟨i,hi,rfl⟩:=yX hc;exact (e3 i hi zo).1,e2]
theorem jd.at' {xs:List Value} {l:List α} (h:jd k Rp xs l) {i:Nat} (hi:i<l.length):∃cs,cs.length=k∧(∀u∈cs,u.oneCell'=true)∧Rp cs l[i]∧∀j u,cs[j]?=some u→xs[i*k+j]?=some u:=by
 obtain⟨css,e1,e2,e3⟩:=h.ex;have:=e3 i zo hi;refine ⟨css[i],this.1,this.2.1,this.2.2,fun j u hj=>?_⟩;have hlt:=(yB.1 hj).1;rw[e1,IY (fun c hc=>by obtain⟨i,hi,rfl⟩:=yX hc;exact (e3 i hi zo).1) i zo j zo];exact hj
end
section
variable {n k:Nat} (css:Fin n→List Value) (hk:∀i,(css i).length=k)
include hk
theorem flat_get' [Inhabited (Fin n)] (hpos:0<k) (d:Array (Fin n)) (j:Nat) (h:j<d.size*k):(flatK css k d)[j]! = ((d.toList.map css).flatten)[j]'(by rw[um (k:=k) (fun c hc=>by obtain⟨i,-,rfl⟩:=yD.1 hc;exact hk i)];simpa using h):=by
 rw[get_flatK _ _ _ _ h];have hi:j / k<d.size:=Nat.div_lt_of_lt_mul (by rw[Nat.mul_comm];exact h);have e:=IY (k:=k) (css:=d.toList.map css) (fun c hc=>by obtain⟨i,-,rfl⟩:=yD.1 hc;exact hk i) (j / k) (by simpa using hi) (j % k) (Nat.mod_lt _ hpos);rw[show j / k*k+j % k=j by rw[Nat.mul_comm];exact Nat.div_add_mod j k] at e;have h2:j % k<(css d[j / k]!).length:=by rw[hk];exact Nat.mod_lt _ hpos
 have e2:(d.toList.map css)[j / k]'(by simpa using hi)=css d[j / k]! := by
  rw[getElem!_pos d (j / k) hi];simp
 rw[yH (by rw[um (k:=k) (fun c hc=>by obtain⟨i,-,rfl⟩:=yD.1 hc;exact hk i)];simpa using h),e2,yH h2] at e;rw[getElem!_pos (css d[j / k]!) _ h2];exact (Option.some.inj e).symm
theorem row_holds' [Inhabited (Fin n)] (hpos:0<k) {w:World} {t:TypeId} {g c m:Nat} {d:Array (Fin n)} (h:w.ownsRow 0 t k (.slice (some ⟨g,0,none⟩) m c) m (d.toList.map css).flatten):HoldsK css k w g 0 d:=by
 intro j hj;have hj2:j<d.size*k:=by simpa [size_flatK] using hj
 refine ⟨?_,fD h _⟩;rw[yZ];refine bO h ?_;rw[flat_get' css hk hpos _ _ hj2];simp
theorem sort_own' [Inhabited (Fin n)] (hpos:0<k) {w0 w:World} {m mk:Mem} {L:List bA} {t:TypeId} {g c:Nat} {d:Array (Fin n)} (h:Own w0 m w mk (.row (.slice (some ⟨g,0,none⟩) d.size c) t k d.size (d.toList.map css).flatten::L))
 (d':Array (Fin n)) (hs:d'.size=d.size) (q:Nat) (os:Array Obj):Own w0 m (sortWorldK css k w g 0 q d' os) mk (.row (.slice (some ⟨g,0,none⟩) d.size c) t k d.size (d'.toList.map css).flatten::L):=by
 have hlen:((d'.toList.map css).flatten).length=d'.size*k:=by rw[um (k:=k) (fun c hc=>by obtain⟨i,-,rfl⟩:=yD.1 hc;exact hk i)];simp
 obtain⟨h1,h2⟩:=h.row;rcases h2 with ⟨h2,-⟩ | ⟨g',cap,cur,hv,hg,hb,hnc,hcm,hcs,htake⟩
 ·cases h2
 ·cases hv;have hlt:g<w.heap.size:=(yC.1 hb).1;have hheap:∀i,i<w.heap.size→(sortWorldK css k w g 0 q d' os).heap[i]?=(w.heap.modify g (onCells (putCells id 0 (flatK css k d'))))[i]?:=fun i hi=>by
   show ((w.heap.modify g (onCells (putCells id 0 (flatK css k d')))) ++ os)[i]?=_;rw[Array.getElem?_append_left (by simpa using hi)]
  refine h.app (v':=.slice (some ⟨g,0,none⟩) d.size c) (N:=w.heap.size) ⟨by rw[hlen,hs],.inr ⟨g,c,putCells id 0 (flatK css k d') cur,rfl,hg,?_,hnc,hcm,?_,?_⟩⟩ ⟨rfl,rfl,rfl,?_,?_⟩ (fun k hk=>.inl hk) (zI _)
  ·rw[hheap g hlt,Array.getElem?_modify,zK rfl,hb]
   rfl
  ·simp[putCells,hcs]
  ·apply List.ext_getElem?;intro j;by_cases hj:j<d.size*k
   ·have hj3:j<cur.size:=by rw[hcs];have:=Nat.mul_le_mul_right k hnc;omega
    rw[List.getElem?_take,zK hj];have hj4:j<((d'.toList.map css).flatten).length:=by rw[hlen,hs];exact hj
    rw[yH hj4,← flat_get' css hk hpos d' j (by rw[hs];exact hj)];simp[putCells,hj3,size_flatK,hs,hj]
   ·rw[vC (by simp;omega),vC (by rw[hlen,hs];omega)]
  ·show w.heap.size≤((w.heap.modify g (onCells (putCells id 0 (flatK css k d')))) ++ os).size;simp
  ·intro i hi hne;rw[hheap i hi,Array.getElem?_modify,zJ (fun e=>hne (by rw[e];rfl))]
end
theorem wH {α:Type} {p:α→Prop} {C:α→α→Int} (hC:jV p C) {l:List α} (hp:∀x∈l,p x) (hn:l.Nodup) [Inhabited (Fin l.length)] {d':Array (Fin l.length)} (h1:PermIn 0 l.length (Array.ofFn id) d') (h2:SortedIn (ltOf fun i j:Fin l.length=>C l[i] l[j]) 0 l.length d') :
 d'.size=l.length∧d'.toList.map (fun i=>l[i])=eU C l:=by
 obtain⟨e1,-,e3⟩:=h1;have e1:d'.size=l.length:=by simpa using e1
 refine ⟨e1,Po hC hp hn ?_ ?_⟩
 ·have a1:∀(N:Nat) (D:Array (Fin l.length)),D.size=N→D.extract 0 N=D:=fun N D h=>by subst h;simp
  rw[a1 _ _ e1,a1 _ _ zS] at e3;have:=e3.map fun i:Fin l.length=>l[i];refine this.trans (List.Perm.of_eq ?_);apply vF zS;intro i a b;simp
 ·rw[List.pairwise_map,List.pairwise_iff_getElem];intro i j hi hj hij;have hi':i<d'.size:=by simpa using hi
  have hj':j<d'.size:=by simpa using hj
  have:=h2 i j (zG _) hij (by rw[← e1];exact hj');rw[getElem!_pos d' i hi',getElem!_pos d' j hj'] at this;unfold ltOf at this;have h3:¬ C l[(d'[j]).val] l[(d'[i]).val]<0:=of_decide_eq_false this;have h4:=hC.nW _ _ (hp _ (zF d'[i].isLt)) (hp _ (zF d'[j].isLt));show C l[(d'[i]).val] l[(d'[j]).val]≤0;omega
theorem Bt {α:Type} {p:α→Prop} {C:α→α→Int} (hC:jV p C) {l:List α} (hp:∀x∈l,p x):SWO (ltOf fun i j:Fin l.length=>C l[i] l[j]) where
 irrefl i:=by
  unfold ltOf;exact zM (Rc hC (hp _ (zF i.isLt)))
 trans i j k h1 h2:=by
  unfold ltOf at *
  exact zN (VX hC (hp _ (zF i.isLt)) (hp _ (zF j.isLt)) (hp _ (zF k.isLt)) (of_decide_eq_true h1) (of_decide_eq_true h2))
 ntrans i j k h1 h2:=by
  unfold ltOf at *
  have h1:¬ C l[i.val] l[j.val]<0:=of_decide_eq_false h1;have h2:¬ C l[j.val] l[k.val]<0:=of_decide_eq_false h2;have pi:=hp _ (zF i.isLt);have pj:=hp _ (zF j.isLt);have pk:=hp _ (zF k.isLt);have a1:=hC.nW _ _ pi pj;have a2:=hC.nW _ _ pj pk;have a3:=hC.nW _ _ pi pk;refine zM fun (h:C l[i.val] l[k.val]<0)=>?_;have:=hC.tr _ _ _ pk pj pi zo zo;omega
end Cl
