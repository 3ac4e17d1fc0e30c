/- Lemmas for the proofs of chapter 11. -/
import Derived.WalkKit
import Derived.Deep.QuietTactic
import Derived.Shelf.SlSortCmp.WholeK
import Derived.RangeFuncNested
import Derived.RangeFuncBound
import Derived.RangeFuncCalls
import Derived.RangeFuncLeaves
import Derived.OwnWalkIn
import Derived.TacticsInMore
import Derived.LoopNIn
import Derived.LoopIn
import Derived.Maps.OwnOps
import Derived.Maps.OwnSet
import Derived.Test.YtdgjplfcpcphoaaGreatDoorZz
import Derived.Test.YtdgjplfcpcphoaaGreatDoorPkX3
import Derived.Test.YtdgjplfcpcphoaaGreatDoorPkX1
import Derived.Test.YtdgjplfcpcphoaaGreatDoorPkX2
set_option maxRecDepth 100000
set_option maxHeartbeats 16000000
namespace Cl
open Go Go.RowKit Go.Proofs Go.Sort
def rO (x:Spn):List Value:=[.int .i64 x.1,.int .i64 x.2]
def Dx (x y:Spn):Int:=Lib.compareInt x.1 y.1
theorem ltLo (x y:Spn):ltOf Dx x y=decide (x.1<y.1):=by
 unfold ltOf Dx Lib.compareInt;by_cases h1:x.1<y.1
 ·simp[h1]
 ·by_cases h2:y.1<x.1 <;> simp[h1,h2]
theorem OY:SWO (ltOf Dx) where
 irrefl x:=by rw[ltLo];simp
 trans x y z h1 h2:=by rw[ltLo] at *;simp at *;omega
 ntrans x y z h1 h2:=by rw[ltLo] at *;simp at *;omega
theorem flat_get (d:Array Spn) (j:Nat) (h:j<d.size*2):(flatK rO 2 d)[j]! = (bC d.toList)[j]'(by rw[bR];simpa using h):=by
 rw[get_flatK _ _ _ _ h];have hi:j / 2<d.toList.length:=by simp;omega
 obtain⟨k1,k2⟩:=ic d.toList (j / 2) hi;have e:d[j / 2]! = d.toList[j / 2]:=by
  rw[getElem!_pos d (j / 2) (by simpa using hi)];simp
 rcases (show j=j / 2*2∧j % 2=0∨j=j / 2*2+1∧j % 2=1 by omega) with ⟨e1,e2⟩ | ⟨e1,e2⟩
 ·rw[e2,e];have:=(List.getElem?_eq_some_iff.1 k1).2;simp only[rO];rw[← e1] at k1;exact (List.getElem?_eq_some_iff.1 k1).2.symm
 ·rw[e2,e];simp only[rO];rw[← e1] at k2;exact (List.getElem?_eq_some_iff.1 k2).2.symm
theorem Jf {w:World} {t:TypeId} {g c:Nat} {l:List Spn} (h:w.ownsRow 0 t 2 (.slice (some ⟨g,0,none⟩) l.length c) l.length (bC l)):HoldsK rO 2 w g 0 l.toArray:=by
 intro j hj;have hj2:j<l.toArray.size*2:=by simpa [size_flatK] using hj
 refine ⟨?_,bU h _⟩;rw[Nat.zero_add];refine aP h ?_;rw[flat_get _ _ hj2];simp
theorem La {w0 w:World} {m mk:Mem} {L:List Item} {t:TypeId} {g c:Nat} {l:List Spn} (h:Own w0 m w mk (.row (.slice (some ⟨g,0,none⟩) l.length c) t 2 l.length (bC l)::L))
 (d':Array Spn) (hs:d'.size=l.length) (n:Nat) (os:Array Obj):Own w0 m (sortWorldK rO 2 w g 0 n d' os) mk (.row (.slice (some ⟨g,0,none⟩) l.length c) t 2 l.length (bC d'.toList)::L):=by
 have hr:=h.row;obtain⟨h1,h2⟩:=hr;rcases h2 with ⟨h2,-⟩ | ⟨g',cap,cur,hv,hg,hb,hnc,hcm,hcs,htake⟩
 ·cases h2
 ·cases hv;have hlt:g<w.heap.size:=(Array.getElem?_eq_some_iff.1 hb).1;have hheap:∀k,k<w.heap.size→(sortWorldK rO 2 w g 0 n d' os).heap[k]?=(w.heap.modify g (onCells (putCells id 0 (flatK rO 2 d'))))[k]?:=fun k hk=>by
   show ((w.heap.modify g (onCells (putCells id 0 (flatK rO 2 d')))) ++ os)[k]?=_;rw[Array.getElem?_append_left (by simpa using hk)]
  refine h.app (v':=.slice (some ⟨g,0,none⟩) l.length c) (N:=w.heap.size) ⟨by rw[bR];simp[hs],.inr ⟨g,c,putCells id 0 (flatK rO 2 d') cur,rfl,hg,?_,hnc,hcm,?_,?_⟩⟩ ⟨rfl,rfl,rfl,?_,?_⟩ (fun k hk=>.inl hk) (Nat.le_refl _)
  ·rw[hheap g hlt,Array.getElem?_modify,if_pos rfl,hb]
   rfl
  ·simp[putCells,hcs]
  ·apply List.ext_getElem?;intro j;by_cases hj:j<l.length*2
   ·have hj3:j<cur.size:=by rw[hcs];have:=Nat.mul_le_mul_right 2 hnc;omega
    rw[List.getElem?_take,if_pos hj];have hj4:j<(bC d'.toList).length:=by rw[bR];simp[hs,hj]
    rw[List.getElem?_eq_getElem hj4,← flat_get d' j (by rw[hs];exact hj)];simp[putCells,hj3,size_flatK,hs,hj]
   ·rw[List.getElem?_eq_none (by simp;omega),List.getElem?_eq_none (by rw[bR];simp[hs];omega)]
  ·show w.heap.size≤((w.heap.modify g (onCells (putCells id 0 (flatK rO 2 d')))) ++ os).size;simp
  ·intro k hk hne;rw[hheap k hk,Array.getElem?_modify,if_neg (fun e=>hne (by rw[e];rfl))]
theorem I7 {l:List Spn} {d':Array Spn} (hp:PermIn 0 l.toArray.size l.toArray d') (hs:SortedIn (ltOf Dx) 0 l.toArray.size d'):d'.size=l.length∧d'.toList.Perm l∧d'.toList.Pairwise fun s t=>s.1≤t.1:=by
 obtain⟨h1,-,h3⟩:=hp;have e1:d'.size=l.length:=by simpa using h1
 refine ⟨e1,?_,?_⟩
 ·have e2:d'.extract 0 l.toArray.size=d':=by rw[← h1];simp
  have e3:l.toArray.extract 0 l.toArray.size=l.toArray:=by simp
  rw[e2,e3] at h3;simpa using h3
 ·rw[List.pairwise_iff_getElem];intro i j hi hj hij;have hi':i<d'.size:=by simpa using hi
  have hj':j<d'.size:=by simpa using hj
  have:=hs i j (Nat.zero_le _) hij (by simpa [e1] using hj);rw[ltLo] at this;simp only[decide_eq_false_iff_not,Int.not_lt] at this;rw[getElem!_pos d' i hi',getElem!_pos d' j hj'] at this;simpa using this
end Cl
namespace Cl
open Go Go.RowKit
def uV {α:Type} (P:Program) (l:Nat) (encs:α→Array Value) (w0:World) (m mk1:Mem) (B Bx:List α→List Item→Prop):Prop:=
 ∀(pre:List α) (x:α) (W:World) (mk:Mem) (Lt Lr:List Item),B pre Lt→Own w0 m W mk (Lt ++ Lr)→mk1.le mk→YieldAt Fence.wide 0 P l (encs x) W fun e W'=>
  (e=.returned (.bool true)∧∃mk' Lt',B (pre ++ [x]) Lt'∧Own w0 m W' mk' (Lt' ++ Lr)∧mk.le mk') ∨
  (e=.returned (.bool false)∧∃mk' Lt',Bx (pre ++ [x]) Lt'∧Own w0 m W' mk' (Lt' ++ Lr)∧mk.le mk')
def M0 {α:Type} (w0:World) (m mk1:Mem) (B Bx:List α→List Item→Prop) (S Sp:List α→Prop) (e:Ending) (W':World):Prop:=
 (∃v,e=.returned v)∧((∃xs mk' Lt,S xs∧B xs Lt∧Own w0 m W' mk' Lt∧mk1.le mk')∨(∃xs mk' Lt,Sp xs∧Bx xs Lt∧Own w0 m W' mk' Lt∧mk1.le mk'))
def Fb {α:Type} (w0:World) (m mk:Mem) (Lr:List Item) (I:List α→List Item→Prop) (Ix:Code→List α→List Item→Prop) (xs:List α):Exit→Act→World→Prop
 | .normal,_,W'=>∃mk' Lt,I xs Lt∧Own w0 m W' mk' (Lt ++ Lr)∧mk.le mk'
 | .ret,_,W'=>∃mk' Lt,Ix .ret xs Lt∧Own w0 m W' mk' (Lt ++ Lr)∧mk.le mk'
 | .exit id,_,W'=>∃mk' Lt,Ix (.exit id) xs Lt∧Own w0 m W' mk' (Lt ++ Lr)∧mk.le mk'
 | .goto t,_,W'=>∃mk' Lt,Ix (.goto t) xs Lt∧Own w0 m W' mk' (Lt ++ Lr)∧mk.le mk'
 | .panic _,_,_=>False
 | .outgrown,_,_=>False
theorem Eh {α:Type} (a b:α) (L R:List α):(L ++ (a::b::R)).Perm (a::b::(L ++ R)):=List.perm_middle.trans (List.Perm.cons _ List.perm_middle)
structure IMap (P:Program) (k e:TypeId) (o:Obj) (n sz:Nat) (f:Lit→Option Int):Prop where
 ex:∃D:DataW Unit,(∀(w:World) b,w.heap[b]?=some o→w.ownsMap P k (plainElem P e) b n D)∧Maps.size D=sz∧Maps.Tidy D∧(∀kl,Maps.has D kl=(f kl).isSome) ∧
  ∀kl,D.atKey kl (.lit (.int .i64 0))=.lit (.int .i64 ((f kl).getD 0))
open Classical in
noncomputable def fput (f:Lit→Option Int) (kl:Lit) (x:Int):Lit→Option Int:=fun k=>if k=kl then some x else f k
theorem pJ (f:Lit→Option Int) (kl:Lit) (x:Int):fput f kl x kl=some x:=by simp[fput]
theorem mD (f:Lit→Option Int) {kl k:Lit} (x:Int) (h:k≠kl):fput f kl x k=f k:=by simp[fput,h]
section
variable {P:Program} {k e:TypeId} {o:Obj} {n sz:Nat} {f:Lit→Option Int}
theorem AR {w:World} {b:Nat} {D:DataW Unit} {R:Value→Option (DataW Unit × List MemPlace)} (h:w.ownsMap P k R b n D):∃o,w.heap[b]?=some o∧∀(w:World) b,w.heap[b]?=some o→w.ownsMap P k R b n D:=by
 obtain⟨es,clock,hb,F,hs,hD⟩:=h;exact⟨_,hb,fun w' b' h'=>⟨es,clock,h',F,hs,hD⟩⟩
theorem IMap.made (P:Program) (k e:TypeId):IMap P k e (.map #[] 0) 0 0 (fun _=>none):=by
 refine ⟨.map [],fun w b h=>?_,rfl,Maps.tidy_empty,fun kl=>rfl,fun kl=>?_⟩
 ·obtain⟨es,clock,hb,F,hs,hD⟩:=World.ownsMap_made (H:=Unit) w P k (plainElem P e);have:(w.alloc (.map #[] 0)).heap[w.heap.size]?=some (.map #[] 0):=show (w.heap.push _)[w.heap.size]?=_ by simp
  rw[this] at hb;cases hb;exact⟨_,_,h,F,hs,hD⟩
 ·exact Maps.atKey_of_not_has rfl _
variable {w:World} {t:TypeId} {ops:Array Oper} {rest:List Oper} {op:Oper} {a:Act} {Q:Exit→Act→World→Prop} {b:Nat}
theorem IMap.run_get (h:IMap P k e o n sz f) (K:Maps.Keyed P k) (ht:P.underlying t=some (.map k e)) (he:P.underlying e=some (.int .i64)) (hz:∀w,(zeroValue e).run P w=.ok (.int .i64 0) w) (hb:w.heap[b]?=some o)
 {key:Value} {kl:Lit} (hkey:keyOf P k key=some kl):(Instr.lookup t (.map (some b)) key false).run P w=.ok (.int .i64 ((f kl).getD 0)) w:=by
 obtain⟨D,hD,-,-,-,hat⟩:=h.ex;obtain⟨c,hr,hc,-⟩:=(hD w b hb).lookup_int K ht he (hz w) hkey;rw[hat kl] at hc;simp only[DataW.lit.injEq,Lit.int.injEq,true_and] at hc;rw[hr,hc]
theorem IMap.mono (h:IMap P k e o n sz f) {n':Nat} (hn:n≤n'):IMap P k e o n' sz f:=by
 obtain⟨D,hD,h1⟩:=h.ex;exact⟨D,fun w b hb=>(hD w b hb).mono hn,h1⟩
theorem IMap.Jd (h:IMap P k e o n sz f) (K:Maps.Keyed P k) (ht:P.underlying t=some (.map k e)) (he:P.underlying e=some (.int .i64)) (hz:∀w,(zeroValue e).run P w=.ok (.int .i64 0) w) (hb:w.heap[b]?=some o)
 {key:Value} {kl:Lit} (hkey:keyOf P k key=some kl):(Instr.lookup t (.map (some b)) key true).run P w=.ok (.tuple #[.int .i64 ((f kl).getD 0),.bool (f kl).isSome]) w:=by
 obtain⟨D,hD,-,-,hh,hat⟩:=h.ex;obtain⟨v,ps,hr,hv⟩:=(hD w b hb).look_ok K ht (hz w) (zd:=.lit (.int .i64 0)) (zp:=[]) (plainElem_int he zD) hkey;obtain⟨c,rfl,hc,-⟩:=plainElem_int_inv he hv;have hc:=congrArg Prod.fst hc;simp only at hc;rw[hat kl] at hc;simp only[DataW.lit.injEq,Lit.int.injEq,true_and] at hc;rw[hr,hh kl,hc]
theorem IMap.Je (h:IMap P k e o n sz f) (ht:P.underlying t=some (.map k e)) (hb:w.heap[b]?=some o) (ty:TypeId):(Builtin.len_ #[t] ty #[.map (some b)]).run P w=.ok (.int .i64 sz) w:=by
 obtain⟨D,hD,hs,-⟩:=h.ex;rw[(hD w b hb).len ht ty,hs]
theorem IMap.run_put (h:IMap P k e o n sz f) (K:Maps.Keyed P k) (ht:P.underlying t=some (.map k e)) (he:P.underlying e=some (.int .i64)) (hb:w.heap[b]?=some o) (hn:n<maxLen)
 {key:Value} {kl:Lit} (hkey:keyOf P k key=some kl) {x:Int} (hx:(Lit.int .i64 x).wf=true) :
 ∃w' o',(Instr.mapUpdate t (.map (some b)) key (.int .i64 x)).run P w=.ok () w'∧w'.heap[b]?=some o'∧IMap P k e o' (n+1) (if (f kl).isSome then sz else sz+1) (fput f kl x)∧w.grownBy w' (some b):=by
 obtain⟨D,hD,hs,htd,hh,hat⟩:=h.ex;have hkl:WideAt.IsKeyLit kl:=K.key hkey;obtain⟨w',hr,ho,hgr⟩:=(hD w b hb).update K ht hn hkey (plainElem_int he hx);obtain⟨o',ho',hD'⟩:=AR ho;refine ⟨w',o',hr,ho',⟨_,hD',?_,htd.put hkl _,fun k'=>?_,fun k'=>?_⟩,hgr⟩
 ·rw[Maps.size_put htd,hh kl,hs]
 ·by_cases c:k'=kl
  ·subst c;rw[Maps.has_put_same htd.isMap hkl,pJ];rfl
  ·rw[Maps.has_put_other c,mD f x c,hh]
 ·by_cases c:k'=kl
  ·subst c;rw[Maps.atKey_put_same htd.isMap hkl,pJ];rfl
  ·rw[Maps.atKey_put_other c,mD f x c,hat]
end
end Cl
