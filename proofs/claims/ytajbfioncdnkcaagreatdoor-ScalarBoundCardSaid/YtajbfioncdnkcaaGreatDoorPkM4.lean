/- Lemmas for the proofs of chapter 11. -/
import Derived.WalkKit
import Derived.OrdersHeld
import Derived.Deep.RegionHeld
import Derived.Deep.QuietTactic
import Derived.Shelf.SlSortCmp.WholeK
import Derived.Test.YtajbfioncdnkcaaGreatDoorProg
import Derived.RangeFuncNested
import Derived.RangeFuncBound
import Derived.RangeFuncCalls
import Derived.RangeFuncLeaves
import Derived.OwnWalkIn
import Derived.TacticsInMore
import Derived.LoopNIn
import Derived.LoopIn
import Derived.Maps.OwnOps
import Derived.Maps.OwnSet
import Derived.Shelf.Spec.SlicesGrow
import Derived.Test.YtajbfioncdnkcaaGreatDoorZz
import Derived.Test.YtajbfioncdnkcaaGreatDoorPkM3
import Derived.Test.YtajbfioncdnkcaaGreatDoorPkM1
import Derived.Test.YtajbfioncdnkcaaGreatDoorPkM2
set_option maxRecDepth 100000
set_option maxHeartbeats 16000000
namespace Cl
open Go
section
variable {P:Program} {ops:Array Oper} {Q:Exit→Act→World→Prop} {D:Nat→World→Prop}
def lT (P:Program) (ops:Array Oper) (Q:Exit→Act→World→Prop) (D:Nat→World→Prop):Nat→Array Bool→Act→World→Prop
 | 0,listed,a,w=>Region.ready .any ops listed=[]∧Q .normal a w
 | fuel+1,listed,a,w=>
  (Region.ready .any ops listed=[]→Q .normal a w) ∧
  ∀i∈Region.ready .any ops listed,wpOp P ops Q i (fun a' w'=>(w'=w∨D i w')∧lT P ops Q D fuel (listed.setIfInBounds i true) a' w') a w
theorem Bi:∀(fuel:Nat) (listed:Array Bool) (a:Act) (w:World),lT P ops Q D fuel listed a w→wpAny P .any ops Q fuel listed a w
 | 0,_,_,_,h=>h
 | fuel+1,_,_,_,h=>⟨h.1,fun i hi=>wpOp_mono (fun a' w' h'=>Bi fuel _ a' w' h'.2) (h.2 i hi)⟩
theorem G5 {listed:Array Bool} {i j:Nat} (hr:i∈Region.ready .any ops listed) (hj:j∈Region.ready .any ops listed):waits ops j i=false:=by
 cases h:waits ops j i with
 | false=>rfl
 | true=>exact absurd hj (rP h hr)
theorem DT {i:Nat} {oi:Oper} {v:Value} (hi:ops[i]?=some oi) (hsel:∀(j:Nat) (o:Oper) cs b,ops[j]?=some o→o.op≠.select cs b)
 (hQ:∀c a w,Q (.panic c) (a.put oi.dst v) w→Q (.panic c) a w) {S:World→Prop} (hlast:∀j w',waits ops j i=false→D j w'→S w') :
 ∀(fuel:Nat) (listed:Array Bool) (a:Act) (w:World),
  (∀j oj,ops[j]?=some oj→j≠i→listed.getD j true=false→(∀e∈oj.after,Region.binds .any e=true→e.on≠i)→oi.apart ops oj=true) →
  i∈Region.ready .any ops listed→YieldsIf P ops S oi v a→S w →
  lT P ops Q D fuel (listed.setIfInBounds i true) (a.put oi.dst v) w→lT P ops Q D (fuel+1) listed a w:=by
 intro fuel
 induction fuel with
 | zero=>
  intro listed a w _ hr hy hS H;refine ⟨fun h=>(by rw[h] at hr;cases hr),fun j hj=>?_⟩;by_cases hji:j=i
  ·subst hji;exact hy.wpOp hi hS ⟨.inl rfl,H⟩
  ·have:=ready_mono hj hji;rw[H.1] at this
   cases this
 | succ fuel ih=>
  intro listed a w hfree hr hy hS H;refine ⟨fun h=>(by rw[h] at hr;cases hr),fun j hj=>?_⟩;by_cases hji:j=i
  ·subst hji;exact hy.wpOp hi hS ⟨.inl rfl,H⟩
  ·have h1:=H.2 j (ready_mono hj hji);have hjl:=fun w'=>hlast j w' (G5 hr hj);obtain⟨hjun,oj,hoj,hall⟩:=mem_ready.1 hj;have hnot:∀e∈oj.after,Region.binds .any e=true→e.on≠i:=fun e he hb heq=>by
    have h1:=hall e he hb;have h0:=(mem_ready.1 hr).1;rw[heq] at h1;rcases Nat.lt_or_ge i listed.size with h' | h'
    ·simp[h'] at h0 h1;rw[h0] at h1;cases h1
    ·simp[Array.getElem?_eq_none h'] at h1
   have h2:=wpOp_putIf hoj (hfree j oj hoj hji hjun hnot) (fun cs b=>hsel i oi cs b hi) (fun cs b=>hsel j oj cs b hoj) hQ hy h1;have hfree':∀k ok,ops[k]?=some ok→k≠i→(listed.setIfInBounds j true).getD k true=false →
    (∀e∈ok.after,Region.binds .any e=true→e.on≠i)→oi.apart ops ok=true:=fun k ok hk hki hun hno=>by
    refine hfree k ok hk hki ?_ hno;by_cases hjk:j=k
    ·subst hjk;exact hjun
    ·rw[getD_set_ne true hjk] at hun;exact hun
   refine wpOp_mono (fun a' w' h3=>⟨h3.2.1,ih (listed.setIfInBounds j true) a' w' hfree' (ready_mono hr (Ne.symm hji)) h3.1 (h3.2.1.elim (fun e=>by rw[e];exact hS) (hjl w')) ?_⟩) h2;rw[Array.setIfInBounds_comm _ _ hji];exact h3.2.2
theorem qK {j i:Nat} (h:waits ops j i=true) (k:waits ops j i=false):False:=by rw[h] at k;cases k
theorem mK (i:Nat) (S:World→Prop) {oi:Oper} {v:Value} {fuel:Nat} {listed:Array Bool} {a:Act} {w:World} (hi:ops[i]?=some oi)
 (hs:(Region.noSelect ops&&Region.free .any ops listed i&&(Region.ready .any ops listed).contains i)=true)
 (hQ:∀c a w,Q (.panic c) (a.put oi.dst v) w→Q (.panic c) a w) (hlast:∀j w',waits ops j i=false→D j w'→S w') (hS:S w) (hy:YieldsIf P ops S oi v a)
 (h:lT P ops Q D fuel (listed.setIfInBounds i true) (a.put oi.dst v) w):lT P ops Q D (fuel+1) listed a w:=by
 simp only[Bool.and_eq_true] at hs;obtain⟨⟨h1,h2⟩,h3⟩:=hs;exact DT hi (Region.noSelect_spec h1) hQ hlast fuel listed a w (Region.free_spec hi h2) (by simpa using h3) hy hS h
theorem bz (i:Nat) {fuel:Nat} {listed:Array Bool} {a:Act} {w:World} (hr:(Region.ready .any ops listed==[i])=true)
 (h:wpOp P ops Q i (fun a' w'=>(w'=w∨D i w')∧lT P ops Q D fuel (listed.setIfInBounds i true) a' w') a w):lT P ops Q D (fuel+1) listed a w:=by
 have hr':Region.ready .any ops listed=[i]:=by simpa using hr
 exact⟨fun h0=>(by rw[hr'] at h0;cases h0),fun j hj=>(by rw[hr'] at hj;obtain rfl:=List.mem_singleton.1 hj;exact h)⟩
theorem iA {listed:Array Bool} {a:Act} {w:World} (hr:(Region.ready .any ops listed==[])=true) (h:Q .normal a w):∀fuel,lT P ops Q D fuel listed a w:=by
 have hr':Region.ready .any ops listed=[]:=by simpa using hr
 intro fuel
 cases fuel with
 | zero=>exact⟨hr',h⟩
 | succ n=>exact⟨fun _=>h,by rw[hr'];simp⟩
theorem mJ {id:Nat} {a:Act} {w:World} (D:Nat→World→Prop) (hm:P.follows .mixedOrders=true)
 (h:lT P ops Q D ops.size (Array.replicate ops.size false) a w.drew):(Code.region id ops true).wp P Q a w:=
 wp_region_any hm (Bi _ _ _ _ h)
theorem bV (i:Nat) {S:World→Prop} {oi:Oper} {v:Value} {fuel:Nat} {listed:Array Bool} {a:Act} {w:World} (hi:ops[i]?=some oi)
 (hs:(Region.noSelect ops&&Region.free .any ops listed i&&(Region.ready .any ops listed).contains i)=true)
 (hQ:∀c a w,Q (.panic c) (a.put oi.dst v) w→Q (.panic c) a w) (hS:S w) (hy:YieldsIf P ops S oi v a)
 (h:lT P ops Q (fun _ w=>S w) fuel (listed.setIfInBounds i true) (a.put oi.dst v) w):lT P ops Q (fun _ w=>S w) (fuel+1) listed a w:=
 mK i S hi hs hQ (fun _ _ _ h=>h) hS hy h
end
section
variable {P:Program} {ops:Array Oper} {Q:Exit→Act→World→Prop} {D:Nat→World→Prop}
def jO (ops:Array Oper):Nat→Nat→Nat→Bool
 | 0,_,_=>false
 | n+1,j,i=>((ops[j]?).map fun o=>o.after.any fun e=>Region.binds .any e&&(e.on==i || jO ops n e.on i)).getD false
def OM (ops:Array Oper) (listed:Array Bool):Bool:=
 (List.range ops.size).all fun k => !(listed.getD k true) || ((ops[k]?).map fun o=>o.after.all fun e => !(Region.binds .any e) || listed.getD e.on true).getD true
theorem FW {listed:Array Bool} (h:OM ops listed=true) {k:Nat} {ok:Oper} (hk:ops[k]?=some ok) (hl:listed.getD k true=true):∀e∈ok.after,Region.binds .any e=true→listed.getD e.on true=true:=by
 intro e he hb;have hks:=(Array.getElem?_eq_some_iff.1 hk).1;have h1:=List.all_eq_true.1 h k (List.mem_range.2 hks);rw[hl,hk] at h1;simp only[Bool.not_true,Bool.false_or,Option.map_some,Option.getD_some] at h1;have h2:=(Array.all_eq_true_iff_forall_mem.1 h1) e he;rw[hb] at h2;simpa using h2
theorem DX {listed:Array Bool} (hc:∀k ok,ops[k]?=some ok→listed.getD k true=true→∀e∈ok.after,Region.binds .any e=true→listed.getD e.on true=true) {i:Nat} :
 ∀(n j:Nat),listed.getD j true=true→jO ops n j i=true→listed.getD i true=true:=by
 intro n
 induction n with
 | zero=>intro j _ h;cases h
 | succ n ih=>
  intro j hj h;unfold jO at h
  cases ho:ops[j]? with
  | none=>rw[ho] at h;cases h
  | some o=>
   rw[ho] at h;simp only[Option.map_some,Option.getD_some,Array.any_eq_true',Bool.and_eq_true,Bool.or_eq_true,beq_iff_eq] at h;obtain⟨e,he,hb,h1⟩:=h;have h2:=hc j o ho hj e he hb;rcases h1 with h1 | h1
   ·rw[← h1];exact h2
   ·exact ih e.on h2 h1
theorem GZ {listed:Array Bool} (hc:∀k ok,ops[k]?=some ok→listed.getD k true=true→∀e∈ok.after,Region.binds .any e=true→listed.getD e.on true=true) {i j n:Nat} (hr:i∈Region.ready .any ops listed) (hj:j∈Region.ready .any ops listed):jO ops n j i=false:=by
 cases h:jO ops n j i with
 | false=>rfl
 | true=>
  obtain⟨hiu,-⟩:=mem_ready.1 hr;obtain⟨-,oj,hoj,hall⟩:=mem_ready.1 hj;have hui:¬ listed.getD i true=true:=by
   rcases Nat.lt_or_ge i listed.size with h' | h'
   ·simp[h'] at hiu ⊢;exact hiu
   ·simp[Array.getElem?_eq_none h'] at hiu
  cases n with
  | zero=>cases h
  | succ n=>
   unfold jO at h;rw[hoj] at h;simp only[Option.map_some,Option.getD_some,Array.any_eq_true',Bool.and_eq_true,Bool.or_eq_true,beq_iff_eq] at h;obtain⟨e,he,hb,h1⟩:=h;have h2:=hall e he hb;have h3:listed.getD e.on true=true:=by
    rcases Nat.lt_or_ge e.on listed.size with h' | h'
    ·simp[h'] at h2 ⊢;exact h2
    ·simp[Array.getElem?_eq_none h']
   rcases h1 with h1 | h1
   ·rw[h1] at h3;exact absurd h3 hui
   ·exact absurd (DX hc n e.on h3 h1) hui
theorem Cu {n i:Nat} {oi:Oper} {v:Value} (hi:ops[i]?=some oi) (hsel:∀(j:Nat) (o:Oper) cs b,ops[j]?=some o→o.op≠.select cs b)
 (hQ:∀c a w,Q (.panic c) (a.put oi.dst v) w→Q (.panic c) a w) {S:World→Prop} (hlast:∀j w',jO ops n j i=false→D j w'→S w') :
 ∀(fuel:Nat) (listed:Array Bool) (a:Act) (w:World),
  (∀k ok,ops[k]?=some ok→listed.getD k true=true→∀e∈ok.after,Region.binds .any e=true→listed.getD e.on true=true) →
  (∀j oj,ops[j]?=some oj→j≠i→listed.getD j true=false→(∀e∈oj.after,Region.binds .any e=true→e.on≠i)→oi.apart ops oj=true) →
  i∈Region.ready .any ops listed→YieldsIf P ops S oi v a→S w →
  lT P ops Q D fuel (listed.setIfInBounds i true) (a.put oi.dst v) w→lT P ops Q D (fuel+1) listed a w:=by
 intro fuel
 induction fuel with
 | zero=>
  intro listed a w _ _ hr hy hS H;refine ⟨fun h=>(by rw[h] at hr;cases hr),fun j hj=>?_⟩;by_cases hji:j=i
  ·subst hji;exact hy.wpOp hi hS ⟨.inl rfl,H⟩
  ·have:=ready_mono hj hji;rw[H.1] at this
   cases this
 | succ fuel ih=>
  intro listed a w hcl hfree hr hy hS H;refine ⟨fun h=>(by rw[h] at hr;cases hr),fun j hj=>?_⟩;by_cases hji:j=i
  ·subst hji;exact hy.wpOp hi hS ⟨.inl rfl,H⟩
  ·have h1:=H.2 j (ready_mono hj hji);have hjl:=fun w'=>hlast j w' (GZ hcl hr hj);obtain⟨hjun,oj,hoj,hall⟩:=mem_ready.1 hj;have hcl':∀k ok,ops[k]?=some ok→(listed.setIfInBounds j true).getD k true=true→∀e∈ok.after,Region.binds .any e=true→(listed.setIfInBounds j true).getD e.on true=true:=by
    have up:∀x,listed.getD x true=true→(listed.setIfInBounds j true).getD x true=true:=fun x hx=>by
     by_cases e:j=x
     ·subst e;by_cases hs:j<listed.size
      ·simp[hs]
      ·simp
     ·rw[getD_set_ne true e];exact hx
    intro k ok hk hl e he hb;by_cases hkj:j=k
    ·subst hkj;rw[hoj] at hk;cases hk;refine up _ ?_;have h2:=hall e he hb;rcases Nat.lt_or_ge e.on listed.size with h' | h'
     ·simp[h'] at h2 ⊢;exact h2
     ·simp[Array.getElem?_eq_none h']
    ·rw[getD_set_ne true hkj] at hl;exact up _ (hcl k ok hk hl e he hb)
   have hnot:∀e∈oj.after,Region.binds .any e=true→e.on≠i:=fun e he hb heq=>by
    have h1:=hall e he hb;have h0:=(mem_ready.1 hr).1;rw[heq] at h1;rcases Nat.lt_or_ge i listed.size with h' | h'
    ·simp[h'] at h0 h1;rw[h0] at h1;cases h1
    ·simp[Array.getElem?_eq_none h'] at h1
   have h2:=wpOp_putIf hoj (hfree j oj hoj hji hjun hnot) (fun cs b=>hsel i oi cs b hi) (fun cs b=>hsel j oj cs b hoj) hQ hy h1;have hfree':∀k ok,ops[k]?=some ok→k≠i→(listed.setIfInBounds j true).getD k true=false →
    (∀e∈ok.after,Region.binds .any e=true→e.on≠i)→oi.apart ops ok=true:=fun k ok hk hki hun hno=>by
    refine hfree k ok hk hki ?_ hno;by_cases hjk:j=k
    ·subst hjk;exact hjun
    ·rw[getD_set_ne true hjk] at hun;exact hun
   refine wpOp_mono (fun a' w' h3=>⟨h3.2.1,ih (listed.setIfInBounds j true) a' w' hcl' hfree' (ready_mono hr (Ne.symm hji)) h3.1 (h3.2.1.elim (fun e=>by rw[e];exact hS) (hjl w')) ?_⟩) h2;rw[Array.setIfInBounds_comm _ _ hji];exact h3.2.2
theorem aU (i n:Nat) (S:World→Prop) {oi:Oper} {v:Value} {fuel:Nat} {listed:Array Bool} {a:Act} {w:World} (hi:ops[i]?=some oi)
 (hs:(Region.noSelect ops&&Region.free .any ops listed i&&(Region.ready .any ops listed).contains i&&OM ops listed)=true)
 (hQ:∀c a w,Q (.panic c) (a.put oi.dst v) w→Q (.panic c) a w) (hlast:∀j w',jO ops n j i=false→D j w'→S w') (hS:S w) (hy:YieldsIf P ops S oi v a)
 (h:lT P ops Q D fuel (listed.setIfInBounds i true) (a.put oi.dst v) w):lT P ops Q D (fuel+1) listed a w:=by
 simp only[Bool.and_eq_true] at hs;obtain⟨⟨⟨h1,h2⟩,h3⟩,h4⟩:=hs;exact Cu hi (Region.noSelect_spec h1) hQ hlast fuel listed a w (fun k ok hk hl=>FW h4 hk hl) (Region.free_spec hi h2) (by simpa using h3) hy hS h
theorem aH {n j i:Nat} (h:jO ops n j i=true) (k:jO ops n j i=false):False:=by rw[h] at k;cases k
theorem dU {i:Nat} {o:Oper} {K:Act→World→Prop} {a:Act} {w:World} (hi:ops[i]?=some o) (hw:Region.wanted o (yielded ops a.tmps)=true) (h:o.wp P a w K Q):wpOp P ops Q i K a w:=by
 unfold wpOp;rw[hi];simp only[hw,if_true];exact .inl h
theorem gH {i:Nat} {o:Oper} {K:Act→World→Prop} {a:Act} {w:World} (hi:ops[i]?=some o) (hw:Region.wanted o (yielded ops a.tmps)=false) (h:K (a.put o.dst undef) w):wpOp P ops Q i K a w:=by
 unfold wpOp;rw[hi];simp only[hw];simpa using h
end
end Cl
namespace Cl
open Go Go.RowKit
abbrev Win:=Nat→Nat × Nat
def Win.put (win:Win) (i:Nat) (x:Nat × Nat):Win:=fun j=>if j=i then x else win j
theorem Win.qR (win:Win) (i:Nat) (x:Nat × Nat):win.put i x i=x:=by simp[Win.put]
theorem Win.uA (win:Win) {i j:Nat} (x:Nat × Nat) (h:j≠i):win.put i x j=win j:=by simp[Win.put,h]
structure Fact where
 deps:List Nat
 holds:Value→Win→World→Prop
 mono:∀(v:Value) (win win':Win) (w w':World),(∀d∈deps,win d=win' d∧(win d).2≤w.heap.size)→Below w.heap.size w w'→holds v win w→holds v win' w'
def Fact.any:Fact:=⟨[],fun _ _ _=>True,fun _ _ _ _ _ _ _ _=>trivial⟩
def Fact.is (p:Value→Prop):Fact:=⟨[],fun v _ _=>p v,fun _ _ _ _ _ _ _ h=>h⟩
def Fact.obj (j:Nat) (t:TypeId) (arr:Array Value):Fact:=⟨[j],fun v win w=>v=.pointer (some ⟨(win j).1,0,none⟩)∧(win j).2=(win j).1+1∧bI w (win j).1 t arr,fun v win win' w w' hd hb ⟨h1,h2,h3⟩=>by
 obtain⟨e,hl⟩:=hd j (List.mem_singleton.2 rfl);rw[← e];exact⟨h1,h2,bI.below h3 hb h3.lt⟩⟩
def Fact.sl (j:Nat) (t:TypeId) (arr:Array Value) (n:Nat):Fact:=⟨[j],fun v win w=>v=.slice (some ⟨(win j).1,0,none⟩) n n∧(win j).2=(win j).1+1∧bI w (win j).1 t arr,fun v win win' w w' hd hb ⟨h1,h2,h3⟩=>by
 obtain⟨e,hl⟩:=hd j (List.mem_singleton.2 rfl);rw[← e];exact⟨h1,h2,bI.below h3 hb h3.lt⟩⟩
def Mem.wins (m:Mem) (w:World) (win:Win) (ds:List Nat):Mem:=fun k=>if ds.any (fun d=>decide ((win d).1≤k∧k<(win d).2))=true then w.heap[k]? else m k
theorem Mem.Mc {m:Mem} {w w':World} {win win':Win} {ds:List Nat} (hd:∀d∈ds,win d=win' d∧(win d).2≤w.heap.size) (hb:Below w.heap.size w w'):m.wins w win ds=m.wins w' win' ds:=by
 funext k;unfold Mem.wins;have e:(ds.any fun d=>decide ((win d).1≤k∧k<(win d).2))=ds.any fun d=>decide ((win' d).1≤k∧k<(win' d).2):=by
  rw[Bool.eq_iff_iff,List.any_eq_true,List.any_eq_true];constructor
  ·rintro ⟨d,h1,h2⟩;exact⟨d,h1,by rw[← (hd d h1).1];exact h2⟩
  ·rintro ⟨d,h1,h2⟩;exact⟨d,h1,by rw[(hd d h1).1];exact h2⟩
 rw[← e]
 split
 ·rename_i h;obtain⟨d,h1,h2⟩:=List.any_eq_true.1 h;have:=(hd d h1).2;simp only[decide_eq_true_eq] at h2;exact (hb.block k zo).symm
 ·rfl
theorem Mem.bK {m:Mem} {w:World} (h:m.inn w) (win:Win) (ds:List Nat):(m.wins w win ds).inn w:=⟨fun k o hk=>by
 unfold Mem.wins at hk
 split at hk
 ·exact hk
 ·exact h.get k o hk⟩
theorem Mem.dw {m:Mem} {w:World} (h:m.inn w) (win:Win) (ds:List Nat):m.le (m.wins w win ds):=⟨fun k o hk=>by
 unfold Mem.wins
 split
 ·exact h.get k o hk
 ·exact hk⟩
theorem Mem.cO {m:Mem} {w:World} (h:m.inn w) (win:Win) {ds es:List Nat} (hs:∀d∈ds,d∈es):(m.wins w win ds).le (m.wins w win es):=⟨fun k o hk=>by
 have hi:=(Mem.bK h win ds).get k o hk;unfold Mem.wins at hk ⊢
 split
 ·exact hi
 ·rename_i hne
  split at hk
  ·rename_i hx;obtain⟨d,h1,h2⟩:=List.any_eq_true.1 hx;exact absurd (List.any_eq_true.2 ⟨d,hs d h1,h2⟩) hne
  ·exact hk⟩
theorem Mem.lD {m:Mem} {w:World} {win:Win} {ds:List Nat} {k:Nat} (h:m k=none) (hd:∀d∈ds,¬ ((win d).1≤k∧k<(win d).2)):m.wins w win ds k=none:=by
 unfold Mem.wins;rw[if_neg]
 ·exact h
 ·intro hx;obtain⟨d,h1,h2⟩:=List.any_eq_true.1 hx;exact hd d h1 (by simpa using h2)
theorem Mem.Fv {m:Mem} {w w':World} (h:m.inn w) (win:Win) {ds:List Nat} {i:Nat} (hd:∀d∈ds,d≠i) (hs:∀d∈ds,(win d).2≤w.heap.size) (hb:Below w.heap.size w w') :
 ((m.wins w win ds).grow w w').le (m.wins w' (win.put i (w.heap.size,w'.heap.size)) (i::ds)):=⟨fun k o hk=>by
 have e:m.wins w win ds=m.wins w' (win.put i (w.heap.size,w'.heap.size)) ds:=Mem.Mc (fun d hd'=>⟨(Win.uA win _ (hd d hd')).symm,hs d hd'⟩) hb;unfold Mem.grow at hk
 split at hk
 ·rw[e] at hk;exact (Mem.cO (Mem.bX h hb) _ (fun d h=>List.mem_cons_of_mem _ h)).get k o hk
 ·have hlt:=(Array.getElem?_eq_some_iff.1 hk).1;unfold Mem.wins;rw[if_pos]
  ·exact hk
  ·refine List.any_eq_true.2 ⟨i,List.mem_cons_self ..,?_⟩;rw[Win.qR];simp only[decide_eq_true_eq];omega⟩
theorem Mem.wh {m:Mem} {w w':World} (h:m.inn w) (win:Win) (i:Nat) (hb:Below w.heap.size w w'):(m.grow w w').le (m.wins w' (win.put i (w.heap.size,w'.heap.size)) [i]):=by
 have:=Mem.Fv (ds:=[]) h win (i:=i) zS zS hb;have e:m.wins w win []=m:=by funext k;simp[Mem.wins]
 rwa [e] at this
def Fact.mem (m:Mem) (ds:List Nat) (R:Mem→Value→Prop):Fact:=⟨ds,fun v win w=>R (m.wins w win ds) v,fun v win win' w w' hd hb h=>by
 rw[← Mem.Mc hd hb];exact h⟩
def dstV (a:Act) (o:Oper):Value:=match o.dst with
 | some s=>a.tmps.getD s undef
 | none=>undef
section
variable {P:Program} {ops:Array Oper} {Q:Exit→Act→World→Prop}
structure Reg (ops:Array Oper) (t0:Array Value) (w1:World) (F:Nat→Fact) (don:Nat→Bool) (win:Win) (a:Act) (w:World):Prop where
 size:a.tmps.size=t0.size
 defers:a.defers=[]
 below:Below w1.heap.size w1 w
 keep:∀s,(∀j o,ops[j]?=some o→don j=true→o.dst≠some s)→a.tmps.getD s undef=t0.getD s undef
 fact:∀j o,ops[j]?=some o→don j=true→(F j).holds (dstV a o) win w
 rng:∀j,don j=true→w1.heap.size≤(win j).1∧(win j).1≤(win j).2∧(win j).2≤w.heap.size
 apart:∀j k,don j=true→don k=true→j≠k→(win j).2≤(win k).1∨(win k).2≤(win j).1
def Jb (ops:Array Oper) (n0 s:Nat):Bool:=(List.range n0).all fun i=>((ops[i]?).map fun o => !(o.dst==some s)).getD true
theorem sK {n0 s:Nat} (h:Jb ops n0 s=true) {j:Nat} {o:Oper} (ho:ops[j]?=some o) (hj:j<n0):o.dst≠some s:=by
 have:=List.all_eq_true.1 h j (List.mem_range.2 hj);rw[ho] at this;simpa using this
structure IJ (ops:Array Oper) (n0 fu:Nat) (t0:Array Value) (w1:World) (F:Nat→Fact) (i:Nat) (win:Win) (a:Act) (w:World):Prop where
 size:a.tmps.size=t0.size
 defers:a.defers=[]
 below:Below w1.heap.size w1 w
 keep:∀s,Jb ops n0 s=true→a.tmps.getD s undef=t0.getD s undef
 dep:∀j o,jO ops fu i j=true→ops[j]?=some o→(F j).holds (dstV a o) win w
 rng:∀j,jO ops fu i j=true→w1.heap.size≤(win j).1∧(win j).1≤(win j).2∧(win j).2≤w.heap.size
def RegK (F:Nat→Fact) (i:Nat) (o:Oper) (win:Win) (a:Act) (w:World) (a':Act) (w':World):Prop:=
 ∃v,a'=a.put o.dst v∧Below w.heap.size w w'∧(F i).holds v (win.put i (w.heap.size,w'.heap.size)) w'
structure QR (ops:Array Oper) (n0:Nat) (t0:Array Value) (w1:World) (F:Nat→Fact) (win:Win) (a:Act) (w:World):Prop where
 size:a.tmps.size=t0.size
 defers:a.defers=[]
 below:Below w1.heap.size w1 w
 keep:∀s,Jb ops n0 s=true→a.tmps.getD s undef=t0.getD s undef
 fact:∀j o,j<n0→ops[j]?=some o→(F j).holds (dstV a o) win w
 rng:∀j,j<n0→w1.heap.size≤(win j).1∧(win j).1≤(win j).2∧(win j).2≤w.heap.size
 apart:∀j k,j<n0→k<n0→j≠k→(win j).2≤(win k).1∨(win k).2≤(win j).1
def Rf (ops:Array Oper) (n0 fu nt:Nat) (deps:Nat→List Nat):Bool:=
 decide (n0≤ops.size) &&
 (List.range n0).all (fun i=>((ops[i]?).map fun o=>o.after.all fun e => !Region.binds .any e || decide (e.on<i)).getD false) &&
 (List.range ops.size).all (fun i=>decide (i<n0) || (List.range n0).all fun j=>jO ops fu i j) &&
 (List.range n0).all (fun i=>((ops[i]?).map fun o=>match o.dst with
  | some s=>decide (s<nt)&&(List.range i).all fun j=>((ops[j]?).map fun o' => !(o'.dst==some s)).getD true
  | none=>false).getD false) &&
 (List.range n0).all (fun j=>(deps j).all fun d=>d==j || jO ops fu j d)
structure Tf (ops:Array Oper) (n0 fu nt:Nat) (deps:Nat→List Nat):Prop where
 le:n0≤ops.size
 back:∀i o,i<n0→ops[i]?=some o→∀e∈o.after,Region.binds .any e=true→e.on<i
 late:∀i,i<ops.size→n0≤i→∀j,j<n0→jO ops fu i j=true
 dst:∀i o,i<n0→ops[i]?=some o→∃s,o.dst=some s∧s<nt∧∀j o',j<n0→ops[j]?=some o'→j≠i→o'.dst≠some s
 dep:∀j,j<n0→∀d∈deps j,d=j∨jO ops fu j d=true
theorem Kh {n0 fu nt:Nat} {deps:Nat→List Nat} (h:Rf ops n0 fu nt deps=true):Tf ops n0 fu nt deps:=by
 simp only[Rf,Bool.and_eq_true,decide_eq_true_eq] at h;obtain⟨⟨⟨⟨h1,h2⟩,h3⟩,h4⟩,h5⟩:=h;have d1:∀i o,i<n0→ops[i]?=some o→∃s,o.dst=some s∧s<nt∧∀j o',j<i→ops[j]?=some o'→o'.dst≠some s:=by
  intro i o hi ho;have:=List.all_eq_true.1 h4 i (List.mem_range.2 hi);rw[ho] at this;simp only[Option.map_some,Option.getD_some] at this
  split at this
  ·rename_i s hs;rw[Bool.and_eq_true,decide_eq_true_eq] at this;refine ⟨s,hs,this.1,fun j o' hj ho'=>?_⟩;have:=List.all_eq_true.1 this.2 j (List.mem_range.2 hj);rw[ho'] at this;simpa using this
  ·cases this
 refine ⟨h1,?_,?_,?_,?_⟩
 ·intro i o hi ho e he hb;have:=List.all_eq_true.1 h2 i (List.mem_range.2 hi);rw[ho] at this;simp only[Option.map_some,Option.getD_some] at this;have:=Array.all_eq_true_iff_forall_mem.1 this e he;simpa [hb] using this
 ·intro i hi hn j hj;have:=List.all_eq_true.1 h3 i (List.mem_range.2 hi);simp only[Bool.or_eq_true,decide_eq_true_eq] at this;exact List.all_eq_true.1 (this.resolve_left zo) j (List.mem_range.2 hj)
 ·intro i o hi ho;obtain⟨s,hs,hlt,hall⟩:=d1 i o hi ho;refine ⟨s,hs,hlt,fun j o' hj ho' hne e=>?_⟩;rcases Nat.lt_or_ge j i with hlt' | hge
  ·exact hall j o' hlt' ho' e
  ·obtain⟨s',hs',-,hall'⟩:=d1 j o' hj ho';have:s'=s:=Option.some.inj (hs'.symm.trans e);subst this;exact hall' i o zo ho hs
 ·intro j hj d hd;have:=List.all_eq_true.1 (List.all_eq_true.1 h5 j (List.mem_range.2 hj)) d hd;simpa using this
theorem zN {p q:Nat→Bool} (h:∀x,q x=true→p x=true) {i:Nat} (hp:p i=true) (hq:q i=false):∀l:List Nat,i∈l→(l.filter q).length<(l.filter p).length
 | [],hi=>by cases hi
 | x::l,hi=>by
  have hle:(l.filter q).length≤(l.filter p).length:=by
   clear hi
   induction l with
   | nil=>simp
   | cons y l ih=>
    simp only[List.filter_cons]
    cases hy:q y with
    | true=>simp[h y hy,ih]
    | false=>
     cases p y with
     | true=>simp;omega
     | false=>simpa using ih
  rcases List.mem_cons.1 hi with e | hm
  ·subst e;simp only[List.filter_cons,hp,hq,if_true];simp;omega
  ·have ih:=zN h hp hq l hm;simp only[List.filter_cons]
   cases hy:q x with
   | true=>simp[h x hy,ih]
   | false=>
    cases p x with
    | true=>simp;omega
    | false=>simpa using ih
theorem Jg {p:Nat→Bool}:∀n,(∃j,j<n∧p j=true)→∃j,j<n∧p j=true∧∀k,k<j→p k=false
 | 0,⟨_,h,_⟩=>zo
 | n+1,⟨j,h,hp⟩=>by
  by_cases hx:∃j,j<n∧p j=true
  ·obtain⟨j,h1,h2,h3⟩:=Jg n hx;exact⟨j,zo,h2,h3⟩
  ·refine ⟨j,h,hp,fun k hk=>?_⟩
   cases hpk:p k with
   | false=>rfl
   | true=>exact absurd ⟨k,zo,hpk⟩ hx
theorem vI:∀(fuel more:Nat) (listed:Array Bool) (a:Act) (w:World),fuel≤more→wpAny P .any ops Q fuel listed a w→wpAny P .any ops Q more listed a w
 | 0,more,listed,a,w,_,h=>by
  cases more with
  | zero=>exact h
  | succ m=>exact⟨fun _=>h.2,fun i hi=>by rw[h.1] at hi;cases hi⟩
 | fuel+1,more,listed,a,w,hl,h=>by
  cases more with
  | zero=>omega
  | succ m=>exact⟨h.1,fun i hi=>wpOp_mono (fun a' w' h'=>vI fuel m _ a' w' zo h') (h.2 i hi)⟩
def NC (n n0:Nat):Array Bool:=((List.range n).map fun i=>decide (i<n0)).toArray
theorem N9 {l:Array Bool} {i:Nat} (h:i<l.size):l.getD i true=l.getD i false:=by simp[h]
theorem Jd {n n0:Nat} {listed:Array Bool} (hsz:listed.size=n) (hearly:∀j,listed.getD j false=true→j<n0) (hall:∀j,j<n0→listed.getD j false=true):listed=NC n n0:=by
 apply Array.ext
 ·simp[NC,hsz]
 ·intro i h1 h2;simp only[NC,List.getElem_toArray,List.getElem_map,List.getElem_range];have h3:listed.getD i false=listed[i]:=by simp[h1]
  rw[← h3];by_cases hi:i<n0
  ·rw[hall i hi];simp[hi]
  ·cases hx:listed.getD i false with
   | true=>exact absurd (hearly i hx) hi
   | false=>simp[hi]
def IL (ops:Array Oper) (listed:Array Bool):Prop:=
 ∀k ok,ops[k]?=some ok→listed.getD k false=true→∀e∈ok.after,Region.binds .any e=true→listed.getD e.on false=true
theorem wO {listed:Array Bool} (hc:IL ops listed) {i:Nat}:∀(n j:Nat),listed.getD j false=true→jO ops n j i=true→listed.getD i false=true:=by
 intro n
 induction n with
 | zero=>intro j _ h;cases h
 | succ n ih=>
  intro j hj h;unfold jO at h
  cases ho:ops[j]? with
  | none=>rw[ho] at h;cases h
  | some o=>
   rw[ho] at h;simp only[Option.map_some,Option.getD_some,Array.any_eq_true',Bool.and_eq_true,Bool.or_eq_true,beq_iff_eq] at h;obtain⟨e,he,hb,h1⟩:=h;have h2:=hc j o ho hj e he hb;rcases h1 with h1 | h1
   ·rw[← h1];exact h2
   ·exact ih e.on h2 h1
theorem sw {listed:Array Bool} (hc:IL ops listed) {i j n:Nat} (hr:i∈Region.ready .any ops listed) (hw:jO ops n i j=true):listed.getD j false=true:=by
 obtain⟨hun,o,ho,hdeps⟩:=mem_ready.1 hr
 cases n with
 | zero=>cases hw
 | succ n=>
  unfold jO at hw;rw[ho] at hw;simp only[Option.map_some,Option.getD_some,Array.any_eq_true',Bool.and_eq_true,Bool.or_eq_true,beq_iff_eq] at hw;obtain⟨e,he,hb,h1⟩:=hw;have h2:=hdeps e he hb;rcases h1 with h1 | h1
  ·rw[← h1];exact h2
  ·exact wO hc n e.on h2 h1
theorem iZ {l:Array Bool} {i j:Nat}:(l.setIfInBounds i true).getD j false=true↔l.getD j false=true∨(j=i∧i<l.size):=by
 simp only[Array.getD_eq_getD_getElem?,Array.getElem?_setIfInBounds];by_cases e:i=j
 ·subst e;by_cases h:i<l.size
  ·simp[h]
  ·simp[h]
 ·rw[if_neg e];constructor
  ·exact .inl
  ·rintro (h | ⟨h,-⟩)
   ·exact h
   ·exact absurd h.symm e
theorem putD {a:Act} {s:Nat} {v:Value} {t:Nat}:(a.put (some s) v).tmps.getD t undef=if t=s∧s<a.tmps.size then v else a.tmps.getD t undef:=by
 simp only[Act.put,Array.getD_eq_getD_getElem?,Array.getElem?_setIfInBounds];by_cases e:s=t
 ·subst e;by_cases h:s<a.tmps.size
  ·simp[h]
  ·simp[h]
 ·rw[if_neg e,if_neg (fun h=>e h.1.symm)]
theorem MW {n0 fu:Nat} {t0:Array Value} {w1:World} {F:Nat→Fact} (H:Tf ops n0 fu t0.size (fun j=>(F j).deps))
 (hstep:∀i,i<n0→∀o win a w,ops[i]?=some o→IJ ops n0 fu t0 w1 F i win a w→wpOp P ops Q i (RegK F i o win a w) a w)
 (hend:∀win a w,QR ops n0 t0 w1 F win a w→wpAny P .any ops Q (ops.size - n0) (NC ops.size n0) a w) :
 ∀(fuel:Nat) (listed:Array Bool) (win:Win) (a:Act) (w:World),listed.size=ops.size→(∀j,listed.getD j false=true→j<n0)→IL ops listed →
  ((List.range n0).filter fun j => !listed.getD j false).length+(ops.size - n0)≤fuel→Reg ops t0 w1 F (fun j=>listed.getD j false) win a w→wpAny P .any ops Q fuel listed a w:=by
 intro fuel
 induction fuel with
 | zero=>
  intro listed win a w hsz hearly hcl hfu hR;have hall:∀j,j<n0→listed.getD j false=true:=fun j hj=>by
   cases hx:listed.getD j false with
   | true=>rfl
   | false=>
    have:j∈(List.range n0).filter fun j => !listed.getD j false:=List.mem_filter.2 ⟨List.mem_range.2 hj,by rw[hx];rfl⟩;have:=List.length_pos_of_mem this;omega
  have:=hend win a w ⟨hR.size,hR.defers,hR.below,fun s hs=>hR.keep s fun j o ho hd=>sK hs ho (hearly j hd),fun j o hj ho=>hR.fact j o ho (hall j hj),fun j hj=>hR.rng j (hall j hj),fun j k hj hk hne=>hR.apart j k (hall j hj) (hall k hk) hne⟩;rw[Jd hsz hearly hall]
  exact vI _ _ _ _ _ zo this
 | succ fuel ih=>
  intro listed win a w hsz hearly hcl hfu hR;by_cases hall:∀j,j<n0→listed.getD j false=true
  ·have:=hend win a w ⟨hR.size,hR.defers,hR.below,fun s hs=>hR.keep s fun j o ho hd=>sK hs ho (hearly j hd),fun j o hj ho=>hR.fact j o ho (hall j hj),fun j hj=>hR.rng j (hall j hj),fun j k hj hk hne=>hR.apart j k (hall j hj) (hall k hk) hne⟩;rw[Jd hsz hearly hall];exact vI _ _ _ _ _ zo this
  ·have hex:∃j,j<n0∧(!listed.getD j false)=true:=by
    apply Classical.byContradiction;intro hno;exact hall fun j hj=>by
     cases hx:listed.getD j false with
     | true=>rfl
     | false=>exact absurd ⟨j,hj,by rw[hx];rfl⟩ hno
   refine ⟨fun hnil=>?_,fun i hi=>?_⟩
   ·obtain⟨j,h1,h2,h3⟩:=Jg n0 hex;have hjs:j<ops.size:=by have:=H.le;omega
    have:j∈Region.ready .any ops listed:=mem_ready.2 ⟨by rw[N9 zo];simpa using h2,ops[j],by simp[hjs],fun e he hb=>by
     have:=h3 e.on (H.back j _ h1 (by simp[hjs]) e he hb);simpa using this⟩
    rw[hnil] at this;cases this
   ·obtain⟨hun,o,ho,hdeps⟩:=mem_ready.1 hi;have his:i<ops.size:=(Array.getElem?_eq_some_iff.1 ho).1;have hin:i<n0:=by
     rcases Nat.lt_or_ge i n0 with h | h
     ·exact h
     ·exact absurd (fun j hj=>sw hcl hi (H.late i his h j hj)) hall
    rw[N9 zo] at hun;obtain⟨s,hs,hst,hsn⟩:=H.dst i o hin ho;have hsa:s<a.tmps.size:=by rw[hR.size];exact hst
    have hA:IJ ops n0 fu t0 w1 F i win a w:=⟨hR.size,hR.defers,hR.below,fun s hs=>hR.keep s fun j o ho hd=>sK hs ho (hearly j hd),
     fun j o hw ho=>hR.fact j o ho (sw hcl hi hw),fun j hw=>hR.rng j (sw hcl hi hw)⟩
    refine wpOp_mono ?_ (hstep i hin o win a w ho hA);rintro a' w' ⟨v,rfl,hb,hv⟩;rw[hs];have hother:∀j,listed.getD j false=true→j≠i:=fun j hj e=>by rw[e,hun] at hj;cases hj
    refine ih (listed.setIfInBounds i true) (win.put i (w.heap.size,w'.heap.size)) _ _ (by simpa using hsz) ?_ ?_ ?_ ?_
    ·intro j hj;rcases iZ.1 hj with h | h
     ·exact hearly j h
     ·rw[h.1];exact hin
    ·intro k ok hk hl e he hbd;refine iZ.2 (.inl ?_);rcases iZ.1 hl with h | h
     ·exact hcl k ok hk h e he hbd
     ·have hki:=h.1;subst hki;have:ok=o:=Option.some.inj (hk.symm.trans ho);subst this;exact hdeps e he hbd
    ·have:((List.range n0).filter fun j => !(listed.setIfInBounds i true).getD j false).length<((List.range n0).filter fun j => !listed.getD j false).length:=by
      refine zN (i:=i) (fun x hx=>?_) (by rw[hun];rfl) ?_ _ (List.mem_range.2 hin)
      ·cases hl:listed.getD x false with
       | false=>rfl
       | true=>
        have:=iZ (l:=listed) (i:=i) (j:=x) |>.2 (.inl hl);rw[this] at hx;cases hx
      ·have:=iZ (l:=listed) (i:=i) (j:=i) |>.2 (.inr ⟨rfl,zo⟩);rw[this];rfl
     omega
    ·refine ⟨?_,hR.defers,dE hR.below hb,?_,?_,?_,?_⟩
     ·simp[Act.put,hR.size]
     ·intro t ht;rw[putD,if_neg]
      ·exact hR.keep t fun j o' ho' hd=>ht j o' ho' (iZ.2 (.inl hd))
      ·rintro ⟨e,-⟩;exact ht i o ho (iZ.2 (.inr ⟨rfl,zo⟩)) (by rw[hs,e])
     ·intro j o' ho' hd;rcases iZ.1 hd with h | h
      ·have hji:=hother j h;have e:dstV (a.put (some s) v) o'=dstV a o':=by
        unfold dstV
        cases hd':o'.dst with
        | none=>rfl
        | some t=>
         simp only;rw[putD,if_neg];rintro ⟨e,-⟩;exact hsn j o' (hearly j h) ho' hji (by rw[hd',e])
       rw[e];refine (F j).mono _ win _ w w' (fun d hd=>?_) hb (hR.fact j o' ho' h);have hdl:listed.getD d false=true:=by
        rcases H.dep j (hearly j h) d hd with e | hw
        ·rw[e];exact h
        ·exact wO hcl fu j h hw
       exact⟨(Win.uA win _ (hother d hdl)).symm,(hR.rng d hdl).2.2⟩
      ·have hji:=h.1;subst hji;have:o'=o:=Option.some.inj (ho'.symm.trans ho);subst this;have e:dstV (a.put (some s) v) o'=v:=by
        unfold dstV;rw[hs];simp only;rw[putD,if_pos ⟨rfl,hsa⟩]
       rw[e];exact hv
     ·intro j hd;rcases iZ.1 hd with h | h
      ·rw[Win.uA win _ (hother j h)];have:=hR.rng j h;have:=hb.size;omega
      ·rw[h.1,Win.qR];exact⟨hR.below.size,hb.size,Nat.le_refl _⟩
     ·intro j k hj hk hne;rcases iZ.1 hj with h | h
      ·rcases iZ.1 hk with h' | h'
       ·rw[Win.uA win _ (hother j h),Win.uA win _ (hother k h')];exact hR.apart j k h h' hne
       ·rw[Win.uA win _ (hother j h),h'.1,Win.qR];exact .inl (hR.rng j h).2.2
      ·rcases iZ.1 hk with h' | h'
       ·rw[Win.uA win _ (hother k h'),h.1,Win.qR];exact .inr (hR.rng k h').2.2
       ·exact absurd (h.1.trans h'.1.symm) hne
theorem aM {id:Nat} {t0:Array Value} {w:World} (n0 fu:Nat) (F:Nat→Fact) (hm:P.follows .mixedOrders=true) (hok:Rf ops n0 fu t0.size (fun j=>(F j).deps)=true)
 (hstep:∀i,i<n0→∀o win a w',ops[i]?=some o→IJ ops n0 fu t0 w.drew F i win a w'→wpOp P ops Q i (RegK F i o win a w') a w')
 (hend:∀win a w',QR ops n0 t0 w.drew F win a w'→wpAny P .any ops Q (ops.size - n0) (NC ops.size n0) a w'):(Code.region id ops true).wp P Q ⟨t0,[]⟩ w:=by
 have H:=Kh hok;refine wp_region_any hm (MW H hstep hend ops.size (Array.replicate ops.size false) (fun _=>(0,0)) ⟨t0,[]⟩ w.drew zS ?_ ?_ ?_ ?_)
 ·intro j hj;exfalso;by_cases h:j<ops.size <;> simp[h] at hj
 ·intro k ok _ hl;exfalso;by_cases h:k<ops.size <;> simp[h] at hl
 ·have:((List.range n0).filter fun j => !(Array.replicate ops.size false).getD j false).length≤n0:=by
   have:=List.length_filter_le (fun j => !(Array.replicate ops.size false).getD j false) (List.range n0);simpa using this
  have:=H.le;omega
 ·have hno:∀j,(Array.replicate ops.size false).getD j false=true→False:=fun j hj=>by
   by_cases h:j<ops.size <;> simp[h] at hj
  exact⟨rfl,rfl,Below.refl _ _,fun _ _=>rfl,fun j _ _ hj=>(hno j hj).elim,fun j hj=>(hno j hj).elim,fun j _ hj=>(hno j hj).elim⟩
theorem aV {listed:Array Bool} {a:Act} {w:World} (hr:(Region.ready .any ops listed==[])=true) (h:Q .normal a w):∀fuel,wpAny P .any ops Q fuel listed a w:=by
 have hr':Region.ready .any ops listed=[]:=by simpa using hr
 intro fuel
 cases fuel with
 | zero=>exact⟨hr',h⟩
 | succ n=>exact⟨fun _=>h,by rw[hr'];simp⟩
theorem bR (i:Nat) {fuel:Nat} {listed:Array Bool} {a:Act} {w:World} (hr:(Region.ready .any ops listed==[i])=true)
 (h:wpOp P ops Q i (fun a' w'=>wpAny P .any ops Q fuel (listed.setIfInBounds i true) a' w') a w):wpAny P .any ops Q (fuel+1) listed a w:=by
 have hr':Region.ready .any ops listed=[i]:=by simpa using hr
 exact⟨fun h0=>(by rw[hr'] at h0;cases h0),fun j hj=>(by rw[hr'] at hj;obtain rfl:=List.mem_singleton.1 hj;exact h)⟩
theorem Oa {t:Array Value} {s:Nat} {b:Bool} (h:t.getD s undef=.bool b):t[s]?=some (.bool b):=by
 cases hx:t[s]? with
 | none=>simp[hx,undef] at h
 | some v=>simpa [hx] using h
theorem DW {o:Oper} {a:Act} {g s:Nat} {b c:Bool} (hg:o.guard=some (g,b)) (hs:(ops[g]?).bind (·.dst)=some s) (e:a.tmps.getD s undef=.bool c):Region.wanted o (yielded ops a.tmps)=(c==b):=by
 have h:=Oa e;simp[Region.wanted,hg,yielded,hs,h]
theorem dA {o:Oper} {a:Act} {g s:Nat} {b:Bool} (hg:o.guard=some (g,b)) (hs:(ops[g]?).bind (·.dst)=some s) (e:a.tmps.getD s undef=.bool b):Region.wanted o (yielded ops a.tmps)=true:=by
 rw[DW hg hs e];simp
theorem eF {o:Oper} {a:Act} {g s:Nat} {b c:Bool} (hg:o.guard=some (g,b)) (hs:(ops[g]?).bind (·.dst)=some s) (e:a.tmps.getD s undef=.bool c) (hn:(c==b)=false):Region.wanted o (yielded ops a.tmps)=false:=by
 rw[DW hg hs e,hn]
end
theorem Own.region {w0 w1 w:World} {m mk:Mem} {L:List Item} (h:Own w0 m w1 mk L) (hb:Below w1.heap.size w1 w) (win:Win) (ds:List Nat) (hd:∀d∈ds,w1.heap.size≤(win d).1):Own w0 m w (mk.wins w win ds) L:=by
 have hm:=h.move hb;have no:∀k,k<w1.heap.size→mk k=none→mk.wins w win ds k=none:=fun k hk hn=>Mem.lD hn fun d h1 h2=>by have:=hd d h1;omega
 refine ⟨h.m0,hm.below,⟨Mem.le_trans h.ext.le (Mem.dw hm.inn win ds),fun k o hk=>?_⟩,Mem.bK hm.inn win ds,hm.ok,fun it hi k hk=>⟨(h.fresh it hi k hk).1,no k (Item.lt (h.ok it hi) hk) (h.fresh it hi k hk).2⟩,h.apart⟩;rcases Nat.lt_or_ge k w1.heap.size with hlt | hge
 ·cases hx:mk k with
  | none=>rw[no k hlt hx] at hk;cases hk
  | some o'=>exact h.ext.dom k o' hx |>.imp (fun e=>by
   have h1:=(Mem.dw hm.inn win ds).get k o' hx;rw[hk] at h1;rw[e,h1]) id
 ·exact .inr (Nat.le_trans h.below.size hge)
theorem Own.inn0 {w0 w:World} {m mk:Mem} {L:List Item} (h:Own w0 m w mk L):m.inn w:=Mem.dK h.ext.le h.inn
theorem Own.newObj {w0 w:World} {m mk:Mem} {L:List Item} {g:Nat} {t:TypeId} {arr:Array Value} (h:Own w0 m w mk L) (ho:bI w g t arr) (hge:w0.heap.size≤g) (hf:mk g=none) (hd:∀it∈L,it.blk≠some g):Own w0 m w mk (.obj g t arr::L):=
 h.cons ho (fun k hk=>by simp only[Item.blk,Option.some.injEq] at hk;subst hk;exact⟨hge,hf⟩) (fun b hb k h1 h2=>by simp only[Item.blk,Option.some.injEq] at h1;subst h1;exact hd b hb h2)
theorem Own.kP {w0 w:World} {m mk:Mem} {L:List Item} (h:Own w0 m w mk L) {n:Nat} (hn:w.heap.size≤n):∀it∈L,it.blk≠some n:=fun it hi e=>by have:=Item.lt (h.ok it hi) e;omega
theorem mE {g n:Nat} {t:TypeId} {arr:Array Value} {L:List Item} (hne:g≠n) (h:∀it∈L,it.blk≠some n):∀it∈Item.obj g t arr::L,it.blk≠some n:=by
 intro it hi;rcases List.mem_cons.1 hi with rfl | hi
 ·simpa [Item.blk] using hne
 ·exact h it hi
theorem lI {w:World} {i:Nat} {t:TypeId} {arr:Array Value} (win:Win) :
 (Fact.obj i t arr).holds (.pointer (some ⟨w.heap.size,0,none⟩)) (win.put i (w.heap.size,(w.alloc (.cells arr t)).heap.size)) (w.alloc (.cells arr t)):=by
 show _=Value.pointer (some ⟨((win.put i (w.heap.size,(w.alloc (.cells arr t)).heap.size)) i).1,0,none⟩)∧_∧_;rw[Win.qR];exact⟨rfl,zS,bI.new _ _ _⟩
theorem MG {w:World} {i n:Nat} {t:TypeId} {arr:Array Value} (win:Win) :
 (Fact.sl i t arr n).holds (.slice (some ⟨w.heap.size,0,none⟩) n n) (win.put i (w.heap.size,(w.alloc (.cells arr t)).heap.size)) (w.alloc (.cells arr t)):=by
 show _=Value.slice (some ⟨((win.put i (w.heap.size,(w.alloc (.cells arr t)).heap.size)) i).1,0,none⟩) n n∧_∧_;rw[Win.qR];exact⟨rfl,zS,bI.new _ _ _⟩
def vF (f:List UInt8→Bool) (n:Nat) (M:Mem) (v:Value):Prop:=∃xa xc C,v=.agg #[.slice xa (List.length C) xc]∧aI M (.slice xa (List.length C) xc) C∧dX f C∧C.length≤n
theorem PU {f:List UInt8→Bool} {n:Nat} {M:Mem} {r:Value} {C:Table} (hst:aI M r C) (hl:dX f C) (hn:C.length≤n):vF f n M (.agg #[r]):=by
 obtain⟨xa,xc,rfl,h⟩:=hst;exact⟨xa,xc,C,rfl,⟨xa,xc,rfl,h⟩,hl,hn⟩
theorem xW {m:Mem} {w w':World} {win:Win} {i:Nat} {f:List UInt8→Bool} {n:Nat} {r:Value} {C:Table} (hm:m.inn w) (hb:Below w.heap.size w w') (hst:aI (m.grow w w') r C) (hl:dX f C) (hn:C.length≤n) :
 vF f n (m.wins w' (win.put i (w.heap.size,w'.heap.size)) [i]) (.agg #[r]):=PU (aK (Mem.wh hm win i hb) hst) hl hn
section
variable {P:Program} {ops:Array Oper} {Q:Exit→Act→World→Prop} {F:Nat→Fact}
theorem IJ.d {n0 fu:Nat} {t0:Array Value} {w1:World} {i:Nat} {win:Win} {a:Act} {w:World} (h:IJ ops n0 fu t0 w1 F i win a w) (j:Nat) {o:Oper} (h2:ops[j]?=some o) (h1:jO ops fu i j=true:=by kernel_rfl):(F j).holds (dstV a o) win w:=h.dep j o h1 h2
theorem IJ.k {n0 fu:Nat} {t0:Array Value} {w1:World} {i:Nat} {win:Win} {a:Act} {w:World} (h:IJ ops n0 fu t0 w1 F i win a w) (s:Nat) (h1:Jb ops n0 s=true:=by kernel_rfl):a.tmps.getD s undef=t0.getD s undef:=h.keep s h1
theorem wv {i:Nat} {o:Oper} {win:Win} {a:Act} {w:World} {v:Value} (hi:ops[i]?=some o) (hg:o.guard=none) (hf:(F i).holds v (win.put i (w.heap.size,w.heap.size)) w) (hr:(execOp a.eval o).run P w=.ok (.value v) w:=by go_simp;first | done | rfl):wpOp P ops Q i (RegK F i o win a w) a w:=aB hi hg (aD hr ⟨v,rfl,Below.refl _ _,hf⟩)
theorem wy {i:Nat} {o:Oper} {win:Win} {a:Act} {w:World} {v:Value} {g s:Nat} {b:Bool} (hi:ops[i]?=some o) (hg:o.guard=some (g,b)) (hs:(ops[g]?).bind (·.dst)=some s) (e:a.tmps.getD s undef=.bool b) (hf:(F i).holds v (win.put i (w.heap.size,w.heap.size)) w) (hr:(execOp a.eval o).run P w=.ok (.value v) w:=by go_simp;first | done | rfl):wpOp P ops Q i (RegK F i o win a w) a w:=dU hi (dA hg hs e) (aD hr ⟨v,rfl,Below.refl _ _,hf⟩)
theorem wn {i:Nat} {o:Oper} {win:Win} {a:Act} {w:World} {g s:Nat} {b c:Bool} (hi:ops[i]?=some o) (hg:o.guard=some (g,b)) (hs:(ops[g]?).bind (·.dst)=some s) (e:a.tmps.getD s undef=.bool c) (hn:(c==b)=false) (hf:(F i).holds undef (win.put i (w.heap.size,w.heap.size)) w):wpOp P ops Q i (RegK F i o win a w) a w:=gH hi (eF hg hs e hn) ⟨undef,rfl,Below.refl _ _,hf⟩
theorem we {i:Nat} {o:Oper} {K:Act→World→Prop} {a:Act} {w w':World} {f:FuncId} {args:Array Value} {X:Ending→World→Prop} (hi:ops[i]?=some o) (hg:o.guard=none) (hc:Calls P f args w' X) (h:∀e w'',X e w''→∃v,e=.returned v∧K (a.put o.dst v) w'') (hr:(execOp a.eval o).run P w=.ok (.enter f args) w':=by go_simp;first | done | rfl | exact⟨rfl,rfl⟩):wpOp P ops Q i K a w:=aB hi hg (dI hr hc h)
theorem we2 {i:Nat} {o:Oper} {K:Act→World→Prop} {a:Act} {w w':World} {f:FuncId} {args:Array Value} {X:Ending→World→Prop} {g s:Nat} {b:Bool} (hi:ops[i]?=some o) (hg:o.guard=some (g,b)) (hs:(ops[g]?).bind (·.dst)=some s) (e:a.tmps.getD s undef=.bool b) (hc:Calls P f args w' X) (h:∀e w'',X e w''→∃v,e=.returned v∧K (a.put o.dst v) w'') (hr:(execOp a.eval o).run P w=.ok (.enter f args) w':=by go_simp;first | done | rfl | exact⟨rfl,rfl⟩):wpOp P ops Q i K a w:=dU hi (dA hg hs e) (dI hr hc h)
end
end Cl
namespace Go.Proofs
open Go.Shelf
def Tryz.J2:Go.Shelf.Ren:=⟨fun | 6=>212 | 15=>226 | 14=>225 | 28=>241 | 29=>242 | 20=>233 | 21=>234 | 22=>235 | 23=>236 | 24=>237 | 25=>238 | 26=>239 | 27=>240 | 46=>245 | 47=>246 | 48=>247 | 49=>248 | 50=>249 | 57=>252 | n=>n,fun | 22=>22 | 24=>104 | 25=>182 | 3=>3 | 39=>202 | 0=>0 | 53=>222 | 55=>224 | 4=>4 | 46=>216 | 45=>215 | 50=>188 | 5=>5 | 9=>9 | 66=>226 | 70=>230 | 76=>235 | 77=>236 | n=>n,fun | n=>n⟩
theorem Tryz.Sq:Go.Proofs.SlLaysF0.n6 Tryz.prog Tryz.J2:={
 mixed:=by kernel_rfl
 f6:=⟨Tryz.f212.name,by decide,Tryz.func212.trans (congrArg some zk)⟩
 f14:=⟨Tryz.f225.name,by decide,Tryz.func225.trans (congrArg some zk)⟩
 f15:=Tryz.func226.trans (congrArg some zk)
 f20:=⟨Tryz.f233.name,by decide,Tryz.func233.trans (congrArg some zk)⟩
 f21:=⟨Tryz.f234.name,by decide,Tryz.func234.trans (congrArg some zk)⟩
 f22:=⟨Tryz.f235.name,by decide,Tryz.func235.trans (congrArg some zk)⟩
 f23:=⟨Tryz.f236.name,by decide,Tryz.func236.trans (congrArg some zk)⟩
 f24:=⟨Tryz.f237.name,by decide,Tryz.func237.trans (congrArg some zk)⟩
 f25:=⟨Tryz.f238.name,by decide,Tryz.func238.trans (congrArg some zk)⟩
 f26:=⟨Tryz.f239.name,by decide,Tryz.func239.trans (congrArg some zk)⟩
 f27:=⟨Tryz.f240.name,by decide,Tryz.func240.trans (congrArg some zk)⟩
 f28:=Tryz.func241.trans (congrArg some zk)
 f29:=Tryz.func242.trans (congrArg some zk)
 f46:=⟨Tryz.f245.name,by decide,Tryz.func245.trans (congrArg some zk)⟩
 f47:=Tryz.func246.trans (congrArg some zk)
 f48:=Tryz.func247.trans (congrArg some zk)
 f49:=⟨Tryz.f248.name,by decide,Tryz.func248.trans (congrArg some zk)⟩
 f50:=⟨Tryz.f249.name,by decide,Tryz.func249.trans (congrArg some zk)⟩
 f57:=⟨Tryz.f252.name,by decide,Tryz.func252.trans (congrArg some zk)⟩
 t0:=Tryz.underlying0
 a0:=Tryz.isAgg0
 z0:=Tryz.sizeOf0
 v0:=Tryz.zeroValue0
 t3:=Tryz.underlying3
 a3:=Tryz.isAgg3
 z3:=Tryz.sizeOf3
 v3:=Tryz.zeroValue3
 t4:=Tryz.underlying4
 a4:=Tryz.isAgg4
 z4:=Tryz.sizeOf4
 v4:=Tryz.zeroValue4
 t5:=Tryz.underlying5
 a5:=Tryz.isAgg5
 z5:=Tryz.sizeOf5
 v5:=Tryz.zeroValue5
 t9:=Tryz.underlying9
 a9:=Tryz.isAgg9
 z9:=Tryz.sizeOf9
 v9:=Tryz.zeroValue9
 t22:=Tryz.underlying22
 a22:=Tryz.isAgg22
 z22:=Tryz.sizeOf22
 v22:=Tryz.zeroValue22
 t25:=Tryz.underlying182
 a25:=Tryz.isAgg182
 z25:=Tryz.sizeOf182
 v25:=Tryz.zeroValue182
 t39:=Tryz.underlying202
 a39:=Tryz.isAgg202
 z39:=Tryz.sizeOf202
 v39:=Tryz.zeroValue202
 t45:=Tryz.underlying215
 a45:=Tryz.isAgg215
 z45:=Tryz.sizeOf215
 v45:=Tryz.zeroValue215
 t46:=Tryz.underlying216
 a46:=Tryz.isAgg216
 z46:=Tryz.sizeOf216
 v46:=Tryz.zeroValue216
 t50:=Tryz.underlying188
 a50:=Tryz.isAgg188
 z50:=Tryz.sizeOf188
 v50:=Tryz.zeroValue188
 t53:=Tryz.underlying222
 a53:=Tryz.isAgg222
 z53:=Tryz.sizeOf222
 v53:=Tryz.zeroValue222
 t55:=Tryz.underlying224
 a55:=Tryz.isAgg224
 z55:=Tryz.sizeOf224
 v55:=Tryz.zeroValue224
 t66:=Tryz.underlying226
 a66:=Tryz.isAgg226
 z66:=Tryz.sizeOf226
 v66:=Tryz.zeroValue226
 t70:=Tryz.underlying230
 a70:=Tryz.isAgg230
 z70:=Tryz.sizeOf230
 v70:=Tryz.zeroValue230
 t76:=Tryz.underlying235
 a76:=Tryz.isAgg235
 z76:=Tryz.sizeOf235
 v76:=Tryz.zeroValue235
 t77:=Tryz.underlying236
 a77:=Tryz.isAgg236
 z77:=Tryz.sizeOf236
 v77:=Tryz.zeroValue236 }
end Go.Proofs
namespace Cl
open Go Go.RowKit Go.Proofs Go.Sort
def xI (x:Spn):List Value:=[.int .i64 x.1,.int .i64 x.2]
def Iw (x y:Spn):Int:=Lib.compareInt x.1 y.1
theorem ltLo (x y:Spn):ltOf Iw x y=decide (x.1<y.1):=by
 unfold ltOf Iw Lib.compareInt;by_cases h1:x.1<y.1
 ·simp[h1]
 ·by_cases h2:y.1<x.1 <;> simp[h1,h2]
theorem Tn:SWO (ltOf Iw) where
 irrefl x:=by rw[ltLo];simp
 trans x y z h1 h2:=by rw[ltLo] at *;simp at *;omega
 ntrans x y z h1 h2:=by rw[ltLo] at *;simp at *;omega
theorem flat_get (d:Array Spn) (j:Nat) (h:j<d.size*2):(flatK xI 2 d)[j]! = (aW d.toList)[j]'(by rw[cK];simpa using h):=by
 rw[get_flatK _ _ _ _ h];have hi:j / 2<d.toList.length:=by simp;omega
 obtain⟨k1,k2⟩:=kR d.toList (j / 2) hi;have e:d[j / 2]! = d.toList[j / 2]:=by
  rw[getElem!_pos d (j / 2) (by simpa using hi)];simp
 rcases (show j=j / 2*2∧j % 2=0∨j=j / 2*2+1∧j % 2=1 by omega) with ⟨e1,e2⟩ | ⟨e1,e2⟩
 ·rw[e2,e];have:=(List.getElem?_eq_some_iff.1 k1).2;simp only[xI];rw[← e1] at k1;exact (List.getElem?_eq_some_iff.1 k1).2.symm
 ·rw[e2,e];simp only[xI];rw[← e1] at k2;exact (List.getElem?_eq_some_iff.1 k2).2.symm
theorem MU {w:World} {t:TypeId} {g c:Nat} {l:List Spn} (h:w.ownsRow 0 t 2 (.slice (some ⟨g,0,none⟩) l.length c) l.length (aW l)):HoldsK xI 2 w g 0 l.toArray:=by
 intro j hj;have hj2:j<l.toArray.size*2:=by simpa [size_flatK] using hj
 refine ⟨?_,dP h _⟩;rw[Nat.zero_add];refine aX h ?_;rw[flat_get _ _ hj2];simp
theorem Pv {w0 w:World} {m mk:Mem} {L:List Item} {t:TypeId} {g c:Nat} {l:List Spn} (h:Own w0 m w mk (.row (.slice (some ⟨g,0,none⟩) l.length c) t 2 l.length (aW l)::L))
 (d':Array Spn) (hs:d'.size=l.length) (n:Nat) (os:Array Obj):Own w0 m (sortWorldK xI 2 w g 0 n d' os) mk (.row (.slice (some ⟨g,0,none⟩) l.length c) t 2 l.length (aW d'.toList)::L):=by
 have hr:=h.row;obtain⟨h1,h2⟩:=hr;rcases h2 with ⟨h2,-⟩ | ⟨g',cap,cur,hv,hg,hb,hnc,hcm,hcs,htake⟩
 ·cases h2
 ·cases hv;have hlt:g<w.heap.size:=(Array.getElem?_eq_some_iff.1 hb).1;have hheap:∀k,k<w.heap.size→(sortWorldK xI 2 w g 0 n d' os).heap[k]?=(w.heap.modify g (onCells (putCells id 0 (flatK xI 2 d'))))[k]?:=fun k hk=>by
   show ((w.heap.modify g (onCells (putCells id 0 (flatK xI 2 d')))) ++ os)[k]?=_;rw[Array.getElem?_append_left (by simpa using hk)]
  refine h.app (v':=.slice (some ⟨g,0,none⟩) l.length c) (N:=w.heap.size) ⟨by rw[cK];simp[hs],.inr ⟨g,c,putCells id 0 (flatK xI 2 d') cur,rfl,hg,?_,hnc,hcm,?_,?_⟩⟩ ⟨rfl,rfl,rfl,?_,?_⟩ (fun k hk=>.inl hk) (Nat.le_refl _)
  ·rw[hheap g hlt,Array.getElem?_modify,if_pos rfl,hb]
   rfl
  ·simp[putCells,hcs]
  ·apply List.ext_getElem?;intro j;by_cases hj:j<l.length*2
   ·have hj3:j<cur.size:=by rw[hcs];have:=Nat.mul_le_mul_right 2 hnc;omega
    rw[List.getElem?_take,if_pos hj];have hj4:j<(aW d'.toList).length:=by rw[cK];simp[hs,hj]
    rw[List.getElem?_eq_getElem hj4,← flat_get d' j (by rw[hs];exact hj)];simp[putCells,hj3,size_flatK,hs,hj]
   ·rw[List.getElem?_eq_none (by simp;omega),List.getElem?_eq_none (by rw[cK];simp[hs];omega)]
  ·show w.heap.size≤((w.heap.modify g (onCells (putCells id 0 (flatK xI 2 d')))) ++ os).size;simp
  ·intro k hk hne;rw[hheap k hk,Array.getElem?_modify,if_neg (fun e=>hne (by rw[e];rfl))]
theorem MF {l:List Spn} {d':Array Spn} (hp:PermIn 0 l.toArray.size l.toArray d') (hs:SortedIn (ltOf Iw) 0 l.toArray.size d'):d'.size=l.length∧d'.toList.Perm l∧d'.toList.Pairwise fun s t=>s.1≤t.1:=by
 obtain⟨h1,-,h3⟩:=hp;have e1:d'.size=l.length:=by simpa using h1
 refine ⟨e1,?_,?_⟩
 ·have e2:d'.extract 0 l.toArray.size=d':=by rw[← h1];simp
  have e3:l.toArray.extract 0 l.toArray.size=l.toArray:=by simp
  rw[e2,e3] at h3;simpa using h3
 ·rw[List.pairwise_iff_getElem];intro i j hi hj hij;have hi':i<d'.size:=by simpa using hi
  have hj':j<d'.size:=by simpa using hj
  have:=hs i j (Nat.zero_le _) hij (by simpa [e1] using hj);rw[ltLo] at this;simp only[decide_eq_false_iff_not,Int.not_lt] at this;rw[getElem!_pos d' i hi',getElem!_pos d' j hj'] at this;simpa using this
end Cl
namespace Cl
open Go Go.RowKit
def Au {α:Type} (P:Program) (l:Nat) (encs:α→Array Value) (w0:World) (m mk1:Mem) (B Bx:List α→List Item→Prop):Prop:=
 ∀(pre:List α) (x:α) (W:World) (mk:Mem) (Lt Lr:List Item),B pre Lt→Own w0 m W mk (Lt ++ Lr)→mk1.le mk→YieldAt Fence.wide 0 P l (encs x) W fun e W'=>
  (e=.returned (.bool true)∧∃mk' Lt',B (pre ++ [x]) Lt'∧Own w0 m W' mk' (Lt' ++ Lr)∧mk.le mk') ∨
  (e=.returned (.bool false)∧∃mk' Lt',Bx (pre ++ [x]) Lt'∧Own w0 m W' mk' (Lt' ++ Lr)∧mk.le mk')
def JH {α:Type} (w0:World) (m mk1:Mem) (B Bx:List α→List Item→Prop) (S Sp:List α→Prop) (e:Ending) (W':World):Prop:=
 (∃v,e=.returned v)∧((∃xs mk' Lt,S xs∧B xs Lt∧Own w0 m W' mk' Lt∧mk1.le mk')∨(∃xs mk' Lt,Sp xs∧Bx xs Lt∧Own w0 m W' mk' Lt∧mk1.le mk'))
def yg {α:Type} (w0:World) (m mk:Mem) (Lr:List Item) (I:List α→List Item→Prop) (Ix:Code→List α→List Item→Prop) (xs:List α):Exit→Act→World→Prop
 | .normal,_,W'=>∃mk' Lt,I xs Lt∧Own w0 m W' mk' (Lt ++ Lr)∧mk.le mk'
 | .ret,_,W'=>∃mk' Lt,Ix .ret xs Lt∧Own w0 m W' mk' (Lt ++ Lr)∧mk.le mk'
 | .exit id,_,W'=>∃mk' Lt,Ix (.exit id) xs Lt∧Own w0 m W' mk' (Lt ++ Lr)∧mk.le mk'
 | .goto t,_,W'=>∃mk' Lt,Ix (.goto t) xs Lt∧Own w0 m W' mk' (Lt ++ Lr)∧mk.le mk'
 | .panic _,_,_=>False
 | .outgrown,_,_=>False
theorem qW {α:Type} (a b:α) (L R:List α):(L ++ (a::b::R)).Perm (a::b::(L ++ R)):=List.perm_middle.trans (List.Perm.cons _ List.perm_middle)
def DC {α:Type} (P:Program) (l:Nat) (encs:α→Array Value) (w0:World) (m mk1:Mem) (C:List α→α→Prop) (B Bx:List α→List Item→Prop):Prop:=
 ∀(pre:List α) (x:α) (W:World) (mk:Mem) (Lt Lr:List Item),C pre x→B pre Lt→Own w0 m W mk (Lt ++ Lr)→mk1.le mk→YieldAt Fence.wide 0 P l (encs x) W fun e W'=>
  (e=.returned (.bool true)∧∃mk' Lt',B (pre ++ [x]) Lt'∧Own w0 m W' mk' (Lt' ++ Lr)∧mk.le mk') ∨
  (e=.returned (.bool false)∧∃mk' Lt',Bx (pre ++ [x]) Lt'∧Own w0 m W' mk' (Lt' ++ Lr)∧mk.le mk')
theorem DL {α:Type} {P:Program} {g:Operand} {ps:Array Tmp} {assign body:Code} {Q:Exit→Act→World→Prop} {a:Act} {w:World} {gf:Nat} {lb:Array Value}
 (hg:a.eval g=.func (.func gf) #[] lb) (eg:∀args w,(callFunc gf args).run P w=.ok (.enter gf args) w) {encs:α→Array Value} (hps:∀x,(encs x).size=ps.size)
 {w0:World} {m mk:Mem} {L0:List Item} (hO:Own w0 m w mk L0) (I:List α→List Item→Prop) (Ix:Code→List α→List Item→Prop) (S Sp:List α→Prop) (C:List α→α→Prop) (h0:I [] L0)
 (hseq:∀(l:Nat) (W1:World) (L1:List Item) (B Bx:List α→List Item→Prop),B [] L1→(∀pre Lt,B pre Lt→∃L,I pre L)→(∀pre Lt,Bx pre Lt→∃c L,Ix c pre L)→Own w0 m W1 mk L1→DC P l encs w0 m mk C B Bx →
  Calls P gf (#[.func (.yield l) #[] #[]] ++ lb) W1 (JH w0 m mk B Bx S Sp))
 (J:List α→α→Act→List Item→Prop)
 (hassign:∀(l:Nat) (pre:List α) (x:α) (W:World) (mk1:Mem) (Lt Lr:List Item) (K:Act→World→Prop),C pre x→I pre Lt→Own w0 m W mk1 (Lt ++ Lr)→mk.le mk1 →
  (∀a1 W1 Lt1,J pre x a1 Lt1→Own w0 m W1 mk1 (Lt1 ++ Lr)→K a1 W1) →
  assign.wpIn (Fence.wide.inRound l) 0 P (Exit.then K (fun _ _ _=>False)) { tmps:=(ps.zip (encs x)).foldl (fun t (p,v)=>t.setIfInBounds p v) a.tmps,defers:=[] } W)
 (hbody:∀(l:Nat) (pre:List α) (x:α) (a1:Act) (W:World) (mk1:Mem) (Lt Lr:List Item),C pre x→J pre x a1 Lt→Own w0 m W mk1 (Lt ++ Lr)→mk.le mk1 →
  body.wpIn (Fence.wide.inRound l) 0 P (yg w0 m mk1 Lr I Ix (pre ++ [x])) a1 W)
 (hdone:∀(D:Nat) (xs:List α) (W:World) (mk1:Mem) (L:List Item),S xs→I xs L→Own w0 m W mk1 (.blob D (.deferred (some []))::L)→mk.le mk1→Q .normal { a with defers:={ target:=.collected D,args:=#[] }::a.defers } W)
 (hstop:∀(D:Nat) (c:Code) (xs:List α) (W:World) (mk1:Mem) (L:List Item),Sp xs→Ix c xs L→Own w0 m W mk1 (.blob D (.deferred (some []))::L)→mk.le mk1 →
  c.wpIn Fence.wide 0 P Q { a with defers:={ target:=.collected D,args:=#[] }::a.defers } W) :
 (Code.rangeFunc g ps assign body).wpIn Fence.wide 0 P Q a w:=by
 refine wpIn_rangeFunc ?_;intro fn _;obtain⟨rec,hrec⟩:∃rec:LoopState→Option Code→Loop,rec=fun st pe=>{ state:=st,pending:=pe,fn,tmps:=a.tmps,params:=ps,assign,body,defers:=w.heap.size }:=⟨_,rfl⟩;have hO1:=(hO.Cr (.deferred (some []))).Cr (.loop (rec .ready none));have hsz:(w.alloc (.deferred (some []))).heap.size=w.heap.size+1:=by simp
 rw[hsz] at hO1;have hent:=run_enterLoop_outer (P:=P) (w:=w) fn a.tmps ps assign body;have hre:(Obj.loop { state:=.ready,pending:=none,fn,tmps:=a.tmps,params:=ps,assign,body,defers:=w.heap.size })=.loop (rec .ready none):=by rw[hrec]
 rw[hre] at hent;generalize (w.alloc (.deferred (some []))).alloc (.loop (rec .ready none))=W1 at *
 generalize w.heap.size=D at *
 have hround:DC P (D+1) encs w0 m mk C (fun pre Lt=>∃L,I pre L∧Lt=.blob (D+1) (.loop (rec .ready none))::.blob D (.deferred (some []))::L)
  (fun pre Lt=>∃c L,Ix c pre L∧Lt=.blob (D+1) (.loop (rec .done (some c)))::.blob D (.deferred (some []))::L):=by
  rintro pre x W mk1 Lt Lr hC ⟨L,hI,rfl⟩ hOw hle;have hl:=hOw.blob;have hy:=run_yield (P:=P) (args:=encs x) hl (by rw[hrec];exact hps x);rw[hrec] at hy;refine ⟨fn,_,assign,body,hy,roundIn_of_wpIn trivial (hassign _ pre x W mk1 L _ _ hC hI (hOw.perm (qW _ _ L Lr)) hle ?_)⟩;intro a1 W1' Lt1 hJ hOa;have hOw:=hOa.perm (qW _ _ Lt1 Lr).symm;have hl:=hOw.blob;refine ⟨_,run_beginRound hl (by rw[hrec]),?_⟩;have hO2:=hOw.ku (o':=.loop { rec .ready none with state:=.busy }) (World.putObj_heap_same (Array.getElem?_eq_some_iff.1 hl).1) (grownBy_putObj' _ _ _);have hO3:=hO2.perm (qW _ _ Lt1 Lr);refine wpIn_mono (hbody _ pre x a1 _ mk1 Lt1 _ hC hJ hO3 hle) ?_;have fin:∀(jump:Option Code) (W3:World) (mk2:Mem) (L2:List Item),Own w0 m W3 mk2 (L2 ++ (.blob (D+1) (.loop { rec .ready none with state:=.busy })::.blob D (.deferred (some []))::Lr)) →
   ∃W4,(Instr.endRound (D+1) jump).run P W3=.ok (.bool jump.isNone) W4∧Own w0 m W4 mk2 (.blob (D+1) (.loop (rec (if jump.isNone then .ready else .done) jump))::.blob D (.deferred (some []))::(L2 ++ Lr)):=by
   intro jump W3 mk2 L2 h3;have h4:=h3.perm (qW _ _ L2 Lr).symm;have hl3:=h4.blob;have hr:=run_endRound (P:=P) jump hl3;refine ⟨_,hr,?_⟩;have:=h4.ku (o':=.loop { rec .ready none with state:=if jump.isNone then .ready else .done,pending:=jump }) (World.putObj_heap_same (Array.getElem?_eq_some_iff.1 hl3).1) (grownBy_putObj' _ _ _);rw[hrec] at this ⊢;exact this
  rintro e a3 W3 hp
  cases e with
  | normal=>
   obtain⟨mk2,L2,hi,ho,hm⟩:=hp;obtain⟨W4,hr,ho4⟩:=fin none W3 mk2 L2 ho
   exact⟨_,_,hr,.inl ⟨rfl,mk2,_,⟨L2,hi,rfl⟩,ho4,hm⟩⟩
  | ret=>
   obtain⟨mk2,L2,hi,ho,hm⟩:=hp;obtain⟨W4,hr,ho4⟩:=fin (some .ret) W3 mk2 L2 ho
   exact⟨_,_,hr,.inr ⟨rfl,mk2,_,⟨.ret,L2,hi,rfl⟩,ho4,hm⟩⟩
  | exit id=>
   obtain⟨mk2,L2,hi,ho,hm⟩:=hp;obtain⟨W4,hr,ho4⟩:=fin (some (.exit id)) W3 mk2 L2 ho
   exact⟨_,_,hr,.inr ⟨rfl,mk2,_,⟨.exit id,L2,hi,rfl⟩,ho4,hm⟩⟩
  | goto t=>
   obtain⟨mk2,L2,hi,ho,hm⟩:=hp;obtain⟨W4,hr,ho4⟩:=fin (some (.goto t)) W3 mk2 L2 ho
   exact⟨_,_,hr,.inr ⟨rfl,mk2,_,⟨.goto t,L2,hi,rfl⟩,ho4,hm⟩⟩
  | panic ch=>exact hp.elim
  | outgrown=>exact hp.elim
 refine ⟨D+1,[{ target:=.collected D,args:=#[] }],W1,{ target:=.fn (.func gf) lb,args:=#[.func (.yield (D+1)) #[] #[]] },W1,gf,
  #[.func (.yield (D+1)) #[] #[]] ++ lb,W1,hent,?_,fun _ _=>trivial,?_,fun h=>absurd h (by simp[Fence.wide]),?_⟩
 ·simp only[resolve,hg];simp[go_sem]
 ·simp[invoke,go_sem,eg]
 ·refine callsIn_wide.2 ((hseq (D+1) W1 _ _ _ ⟨L0,h0,rfl⟩ (fun _ _ h=>h.elim fun L hL=>⟨L,hL.1⟩) (fun _ _ h=>h.elim fun c h=>h.elim fun L hL=>⟨c,L,hL.1⟩) hO1 hround).mono ?_);rintro e W3 ⟨⟨v,rfl⟩,hend⟩;rcases hend with ⟨xs,mk2,Lt,hS,⟨L,hI,rfl⟩,ho,hm⟩ | ⟨xs,mk2,Lt,hS,⟨c,L,hI,rfl⟩,ho,hm⟩
  ·have hl3:=ho.blob;have hO4:=ho.ku (o':=.loop { rec .ready none with state:=.exhausted }) (World.putObj_heap_same (Array.getElem?_eq_some_iff.1 hl3).1) (grownBy_putObj' _ _ _);refine ⟨none,_,?_,hdone D xs _ mk2 L hS hI hO4.tail hm⟩;have:=run_endLoop (P:=P) hl3 (by rw[hrec];simp);rw[this,hrec]
  ·have hl3:=ho.blob;have hO4:=ho.ku (o':=.loop { rec .done (some c) with state:=.exhausted }) (World.putObj_heap_same (Array.getElem?_eq_some_iff.1 hl3).1) (grownBy_putObj' _ _ _);refine ⟨some c,_,?_,hstop D c xs _ mk2 L hS hI hO4.tail hm⟩;have:=run_endLoop (P:=P) hl3 (by rw[hrec];simp);rw[this,hrec]
structure IMap (P:Program) (k e:TypeId) (o:Obj) (n sz:Nat) (f:Lit→Option Int):Prop where
 ex:∃D:DataW Unit,(∀(w:World) b,w.heap[b]?=some o→w.ownsMap P k (plainElem P e) b n D)∧Maps.size D=sz∧Maps.Tidy D∧(∀kl,Maps.has D kl=(f kl).isSome) ∧
  ∀kl,D.atKey kl (.lit (.int .i64 0))=.lit (.int .i64 ((f kl).getD 0))
open Classical in
noncomputable def fput (f:Lit→Option Int) (kl:Lit) (x:Int):Lit→Option Int:=fun k=>if k=kl then some x else f k
theorem uP (f:Lit→Option Int) (kl:Lit) (x:Int):fput f kl x kl=some x:=by simp[fput]
theorem ry (f:Lit→Option Int) {kl k:Lit} (x:Int) (h:k≠kl):fput f kl x k=f k:=by simp[fput,h]
section
variable {P:Program} {k e:TypeId} {o:Obj} {n sz:Nat} {f:Lit→Option Int}
theorem Fp {w:World} {b:Nat} {D:DataW Unit} {R:Value→Option (DataW Unit × List MemPlace)} (h:w.ownsMap P k R b n D):∃o,w.heap[b]?=some o∧∀(w:World) b,w.heap[b]?=some o→w.ownsMap P k R b n D:=by
 obtain⟨es,clock,hb,F,hs,hD⟩:=h;exact⟨_,hb,fun w' b' h'=>⟨es,clock,h',F,hs,hD⟩⟩
theorem IMap.made (P:Program) (k e:TypeId):IMap P k e (.map #[] 0) 0 0 (fun _=>none):=by
 refine ⟨.map [],fun w b h=>?_,rfl,Maps.tidy_empty,fun kl=>rfl,fun kl=>?_⟩
 ·obtain⟨es,clock,hb,F,hs,hD⟩:=World.ownsMap_made (H:=Unit) w P k (plainElem P e);have:(w.alloc (.map #[] 0)).heap[w.heap.size]?=some (.map #[] 0):=show (w.heap.push _)[w.heap.size]?=_ by simp
  rw[this] at hb;cases hb;exact⟨_,_,h,F,hs,hD⟩
 ·exact Maps.atKey_of_not_has rfl _
variable {w:World} {t:TypeId} {ops:Array Oper} {rest:List Oper} {op:Oper} {a:Act} {Q:Exit→Act→World→Prop} {b:Nat}
theorem IMap.Gy (h:IMap P k e o n sz f) (K:Maps.Keyed P k) (ht:P.underlying t=some (.map k e)) (he:P.underlying e=some (.int .i64)) (hz:∀w,(zeroValue e).run P w=.ok (.int .i64 0) w) (hb:w.heap[b]?=some o)
 {key:Value} {kl:Lit} (hkey:keyOf P k key=some kl):(Instr.lookup t (.map (some b)) key false).run P w=.ok (.int .i64 ((f kl).getD 0)) w:=by
 obtain⟨D,hD,-,-,-,hat⟩:=h.ex;obtain⟨c,hr,hc,-⟩:=(hD w b hb).lookup_int K ht he (hz w) hkey;rw[hat kl] at hc;simp only[DataW.lit.injEq,Lit.int.injEq,true_and] at hc;rw[hr,hc]
theorem IMap.mono (h:IMap P k e o n sz f) {n':Nat} (hn:n≤n'):IMap P k e o n' sz f:=by
 obtain⟨D,hD,h1⟩:=h.ex;exact⟨D,fun w b hb=>(hD w b hb).mono hn,h1⟩
theorem IMap.MR (h:IMap P k e o n sz f) (K:Maps.Keyed P k) (ht:P.underlying t=some (.map k e)) (he:P.underlying e=some (.int .i64)) (hz:∀w,(zeroValue e).run P w=.ok (.int .i64 0) w) (hb:w.heap[b]?=some o)
 {key:Value} {kl:Lit} (hkey:keyOf P k key=some kl):(Instr.lookup t (.map (some b)) key true).run P w=.ok (.tuple #[.int .i64 ((f kl).getD 0),.bool (f kl).isSome]) w:=by
 obtain⟨D,hD,-,-,hh,hat⟩:=h.ex;obtain⟨v,ps,hr,hv⟩:=(hD w b hb).look_ok K ht (hz w) (zd:=.lit (.int .i64 0)) (zp:=[]) (plainElem_int he zD) hkey;obtain⟨c,rfl,hc,-⟩:=plainElem_int_inv he hv;have hc:=congrArg Prod.fst hc;simp only at hc;rw[hat kl] at hc;simp only[DataW.lit.injEq,Lit.int.injEq,true_and] at hc;rw[hr,hh kl,hc]
theorem IMap.MS (h:IMap P k e o n sz f) (ht:P.underlying t=some (.map k e)) (hb:w.heap[b]?=some o) (ty:TypeId):(Builtin.len_ #[t] ty #[.map (some b)]).run P w=.ok (.int .i64 sz) w:=by
 obtain⟨D,hD,hs,-⟩:=h.ex;rw[(hD w b hb).len ht ty,hs]
theorem IMap.Gx (h:IMap P k e o n sz f) (K:Maps.Keyed P k) (ht:P.underlying t=some (.map k e)) (he:P.underlying e=some (.int .i64)) (hb:w.heap[b]?=some o) (hn:n<maxLen)
 {key:Value} {kl:Lit} (hkey:keyOf P k key=some kl) {x:Int} (hx:(Lit.int .i64 x).wf=true) :
 ∃w' o',(Instr.mapUpdate t (.map (some b)) key (.int .i64 x)).run P w=.ok () w'∧w'.heap[b]?=some o'∧IMap P k e o' (n+1) (if (f kl).isSome then sz else sz+1) (fput f kl x)∧w.grownBy w' (some b):=by
 obtain⟨D,hD,hs,htd,hh,hat⟩:=h.ex;have hkl:WideAt.IsKeyLit kl:=K.key hkey;obtain⟨w',hr,ho,hgr⟩:=(hD w b hb).update K ht hn hkey (plainElem_int he hx);obtain⟨o',ho',hD'⟩:=Fp ho;refine ⟨w',o',hr,ho',⟨_,hD',?_,htd.put hkl _,fun k'=>?_,fun k'=>?_⟩,hgr⟩
 ·rw[Maps.size_put htd,hh kl,hs]
 ·by_cases c:k'=kl
  ·subst c;rw[Maps.has_put_same htd.isMap hkl,uP];rfl
  ·rw[Maps.has_put_other c,ry f x c,hh]
 ·by_cases c:k'=kl
  ·subst c;rw[Maps.atKey_put_same htd.isMap hkl,uP];rfl
  ·rw[Maps.atKey_put_other c,ry f x c,hat]
end
end Cl
namespace Go.Proofs
open Go.Shelf
def Tryz.K7:Go.Shelf.Ren:=⟨fun | 4=>203 | n=>n,fun | 22=>22 | 25=>104 | 3=>3 | 4=>4 | 9=>9 | 20=>20 | 0=>0 | 2=>2 | n=>n,fun | n=>n⟩
theorem Tryz.QK:Go.Proofs.Lays8.n4 Tryz.prog Tryz.K7:={
 mixed:=by kernel_rfl
 f4:=⟨Tryz.f203.name,by decide,Tryz.func203.trans (congrArg some zk)⟩
 t0:=Tryz.underlying0
 a0:=Tryz.isAgg0
 z0:=Tryz.sizeOf0
 v0:=Tryz.zeroValue0
 t3:=Tryz.underlying3
 a3:=Tryz.isAgg3
 z3:=Tryz.sizeOf3
 v3:=Tryz.zeroValue3
 t4:=Tryz.underlying4
 a4:=Tryz.isAgg4
 z4:=Tryz.sizeOf4
 v4:=Tryz.zeroValue4
 t9:=Tryz.underlying9
 a9:=Tryz.isAgg9
 z9:=Tryz.sizeOf9
 v9:=Tryz.zeroValue9
 t20:=Tryz.underlying20
 a20:=Tryz.isAgg20
 z20:=Tryz.sizeOf20
 v20:=Tryz.zeroValue20
 t22:=Tryz.underlying22
 a22:=Tryz.isAgg22
 z22:=Tryz.sizeOf22
 v22:=Tryz.zeroValue22 }
end Go.Proofs
namespace Cl
open Go Go.RowKit
theorem yF {P:Program} {t e:TypeId} {size bytes:Nat} (S:iX P t e size bytes) (w:World) (ty:TypeId) (v:Value) (n:Nat) (xs:List Value) (hown:w.ownsRow 0 e size v n xs)
 (ad:Option Addr) (m c:Nat) (news:List Value) (hl:news.length=m*size) (hnews:0<m→∃a,ad=some a∧∀j u,news[j]?=some u→w.cell? (a.add j)=some u) (h1:∀u∈news,u.oneCell'=true)
 (h63:n+m≤maxLen) (hbytes:(n+m)*bytes≤140737488355328) :
 ∃v' w',(Builtin.append_ #[t,t] ty #[v,.slice ad m c]).run P w=.ok v' w'∧w'.ownsRow 0 e size v' (n+m) (xs ++ news)∧w.grownBy w' v.ownBlock ∧
  (∀k,v'.ownBlock=some k→v.ownBlock=some k∨w.heap.size≤k):=by
 cases ad with
 | some a=>
  refine jP S w ty v n xs hown a m c news hl ?_ h1 h63 hbytes;rcases Nat.eq_zero_or_pos m with h | h
  ·subst h;have:news=[]:=List.eq_nil_of_length_eq_zero (by rw[hl,Nat.zero_mul]);subst this;intro j u hj;simp at hj
  ·obtain⟨a',e,h2⟩:=hnews h;cases e
   exact h2
 | none=>
  have hm:m=0:=by
   rcases Nat.eq_zero_or_pos m with h | h
   ·exact h
   ·obtain⟨a',e,-⟩:=hnews h;cases e
  subst hm;have:news=[]:=List.eq_nil_of_length_eq_zero (by rw[hl,Nat.zero_mul]);subst this;obtain⟨i,z,hi,hz,hsize,hby,hzs⟩:=S.info;refine ⟨v,w,?_,by simpa using hown,World.grownBy.refl w _,fun k hk=>.inl hk⟩;rcases hown.2 with ⟨rfl,rfl⟩ | ⟨g,cap,cur,rfl,-,-,hnc,-⟩
  ·simp[Builtin.append_,run_underlying S.ht,Go.sizeOf,Go.typeInfo,hi,Builtin.lenOf,Builtin.firstCells]
  ·simp[Builtin.append_,run_underlying S.ht,Go.sizeOf,Go.typeInfo,hi,Builtin.lenOf,Builtin.firstCells,hnc,storeCells]
theorem fA {P:Program} {t e:TypeId} {size bytes:Nat} (S:iX P t e size bytes) {w:World} {ops:Array Oper} {rest:List Oper} {o:Oper} {a:Act} {Q:Exit→Act→World→Prop} (hgd:o.guard=none) (s x:Operand)
 (ho:o.op=.call { callee:=.builtin .append,args:=#[s,x],argTypes:=#[t,t] })
 (v:Value) (n:Nat) (xs:List Value) (hs:a.eval s=v) (hown:w.ownsRow 0 e size v n xs)
 (ad:Option Addr) (m c:Nat) (news:List Value) (hx:a.eval x=.slice ad m c) (hl:news.length=m*size) (hnews:0<m→∃a,ad=some a∧∀j u,news[j]?=some u→w.cell? (a.add j)=some u) (h1:∀u∈news,u.oneCell'=true)
 (h63:n+m≤maxLen) (hbytes:(n+m)*bytes≤140737488355328)
 (h:∀va vc w',w'.ownsRow 0 e size (.slice va (n+m) vc) (n+m) (xs ++ news)→w.grownBy w' v.ownBlock→(∀k,(Value.slice va (n+m) vc).ownBlock=some k→v.ownBlock=some k∨w.heap.size≤k)→wpList P ops Q rest (a.put o.dst (.slice va (n+m) vc)) w'):wpList P ops Q (o::rest) a w:=by
 refine wpList_plain hgd fun _ hK=>?_;obtain⟨v',w',hr,h2,h3,h4⟩:=yF S w o.type v n xs hown ad m c news hl hnews h1 h63 hbytes;obtain⟨va,vc,rfl⟩:=aO h2;unfold Oper.wp execOp;simp only[ho,resolve,invoke,builtin,Sem.run_bind,Sem.run_pure,Result.andThen_ok,List.map_toArray,List.map_cons,List.map_nil,hs,hx,hr];exact hK _ _ (h va vc w' h2 h3 h4)
theorem DN {α:Type} {P:Program} {g:Operand} {ps:Array Tmp} {assign body:Code} {Q:Exit→Act→World→Prop} {a:Act} {w:World} {gf:Nat} {lb:Array Value}
 (hg:a.eval g=.func (.func gf) #[] lb) (eg:∀args w,(callFunc gf args).run P w=.ok (.enter gf args) w) {encs:α→Array Value} (hps:∀x,(encs x).size=ps.size)
 {w0:World} {m mk:Mem} {L0:List Item} (hO:Own w0 m w mk L0) (I:List α→List Item→Prop) (Ix:Code→List α→List Item→Prop) (S Sp:List α→Prop) (h0:I [] L0)
 (hseq:∀(l:Nat) (W1:World) (L1:List Item) (B Bx:List α→List Item→Prop),B [] L1→(∀pre Lt,B pre Lt→∃L,I pre L)→Own w0 m W1 mk L1→Au P l encs w0 m mk B Bx →
  Calls P gf (#[.func (.yield l) #[] #[]] ++ lb) W1 (JH w0 m mk B Bx S Sp))
 (a₁:α→Act)
 (hassign:∀(l:Nat) (x:α) (W:World) (K:Act→World→Prop),K (a₁ x) W →
  assign.wpIn (Fence.wide.inRound l) 0 P (Exit.then K (fun _ _ _=>False)) { tmps:=(ps.zip (encs x)).foldl (fun t (p,v)=>t.setIfInBounds p v) a.tmps,defers:=[] } W)
 (hbody:∀(l:Nat) (pre:List α) (x:α) (W:World) (mk1:Mem) (Lt Lr:List Item),I pre Lt→Own w0 m W mk1 (Lt ++ Lr)→mk.le mk1 →
  body.wpIn (Fence.wide.inRound l) 0 P (yg w0 m mk1 Lr I Ix (pre ++ [x])) (a₁ x) W)
 (hdone:∀(D:Nat) (xs:List α) (W:World) (mk1:Mem) (L:List Item),S xs→I xs L→Own w0 m W mk1 (.blob D (.deferred (some []))::L)→mk.le mk1→Q .normal { a with defers:={ target:=.collected D,args:=#[] }::a.defers } W)
 (hstop:∀(D:Nat) (c:Code) (xs:List α) (W:World) (mk1:Mem) (L:List Item),Sp xs→Ix c xs L→Own w0 m W mk1 (.blob D (.deferred (some []))::L)→mk.le mk1 →
  c.wpIn Fence.wide 0 P Q { a with defers:={ target:=.collected D,args:=#[] }::a.defers } W) :
 (Code.rangeFunc g ps assign body).wpIn Fence.wide 0 P Q a w:=by
 refine wpIn_rangeFunc ?_;intro fn _;obtain⟨rec,hrec⟩:∃rec:LoopState→Option Code→Loop,rec=fun st pe=>{ state:=st,pending:=pe,fn,tmps:=a.tmps,params:=ps,assign,body,defers:=w.heap.size }:=⟨_,rfl⟩;have hO1:=(hO.Cr (.deferred (some []))).Cr (.loop (rec .ready none));have hsz:(w.alloc (.deferred (some []))).heap.size=w.heap.size+1:=by simp
 rw[hsz] at hO1;have hent:=run_enterLoop_outer (P:=P) (w:=w) fn a.tmps ps assign body;have hre:(Obj.loop { state:=.ready,pending:=none,fn,tmps:=a.tmps,params:=ps,assign,body,defers:=w.heap.size })=.loop (rec .ready none):=by rw[hrec]
 rw[hre] at hent;generalize (w.alloc (.deferred (some []))).alloc (.loop (rec .ready none))=W1 at *
 generalize w.heap.size=D at *
 have hround:Au P (D+1) encs w0 m mk (fun pre Lt=>∃L,I pre L∧Lt=.blob (D+1) (.loop (rec .ready none))::.blob D (.deferred (some []))::L)
  (fun pre Lt=>∃c L,Ix c pre L∧Lt=.blob (D+1) (.loop (rec .done (some c)))::.blob D (.deferred (some []))::L):=by
  rintro pre x W mk1 Lt Lr ⟨L,hI,rfl⟩ hOw hle;have hl:=hOw.blob;have hy:=run_yield (P:=P) (args:=encs x) hl (by rw[hrec];exact hps x);rw[hrec] at hy;refine ⟨fn,_,assign,body,hy,roundIn_of_wpIn trivial (hassign _ x W _ ⟨_,run_beginRound hl (by rw[hrec]),?_⟩)⟩;have hO2:=hOw.ku (o':=.loop { rec .ready none with state:=.busy }) (World.putObj_heap_same (Array.getElem?_eq_some_iff.1 hl).1) (grownBy_putObj' _ _ _);have hO3:=hO2.perm (qW _ _ L Lr);refine wpIn_mono (hbody _ pre x _ mk1 L _ hI hO3 hle) ?_;have fin:∀(jump:Option Code) (W3:World) (mk2:Mem) (L2:List Item),Own w0 m W3 mk2 (L2 ++ (.blob (D+1) (.loop { rec .ready none with state:=.busy })::.blob D (.deferred (some []))::Lr)) →
   ∃W4,(Instr.endRound (D+1) jump).run P W3=.ok (.bool jump.isNone) W4∧Own w0 m W4 mk2 (.blob (D+1) (.loop (rec (if jump.isNone then .ready else .done) jump))::.blob D (.deferred (some []))::(L2 ++ Lr)):=by
   intro jump W3 mk2 L2 h3;have h4:=h3.perm (qW _ _ L2 Lr).symm;have hl3:=h4.blob;have hr:=run_endRound (P:=P) jump hl3;refine ⟨_,hr,?_⟩;have:=h4.ku (o':=.loop { rec .ready none with state:=if jump.isNone then .ready else .done,pending:=jump }) (World.putObj_heap_same (Array.getElem?_eq_some_iff.1 hl3).1) (grownBy_putObj' _ _ _);rw[hrec] at this ⊢;exact this
  rintro e a3 W3 hp
  cases e with
  | normal=>
   obtain⟨mk2,L2,hi,ho,hm⟩:=hp;obtain⟨W4,hr,ho4⟩:=fin none W3 mk2 L2 ho
   exact⟨_,_,hr,.inl ⟨rfl,mk2,_,⟨L2,hi,rfl⟩,ho4,hm⟩⟩
  | ret=>
   obtain⟨mk2,L2,hi,ho,hm⟩:=hp;obtain⟨W4,hr,ho4⟩:=fin (some .ret) W3 mk2 L2 ho
   exact⟨_,_,hr,.inr ⟨rfl,mk2,_,⟨.ret,L2,hi,rfl⟩,ho4,hm⟩⟩
  | exit id=>
   obtain⟨mk2,L2,hi,ho,hm⟩:=hp;obtain⟨W4,hr,ho4⟩:=fin (some (.exit id)) W3 mk2 L2 ho
   exact⟨_,_,hr,.inr ⟨rfl,mk2,_,⟨.exit id,L2,hi,rfl⟩,ho4,hm⟩⟩
  | goto t=>
   obtain⟨mk2,L2,hi,ho,hm⟩:=hp;obtain⟨W4,hr,ho4⟩:=fin (some (.goto t)) W3 mk2 L2 ho
   exact⟨_,_,hr,.inr ⟨rfl,mk2,_,⟨.goto t,L2,hi,rfl⟩,ho4,hm⟩⟩
  | panic ch=>exact hp.elim
  | outgrown=>exact hp.elim
 refine ⟨D+1,[{ target:=.collected D,args:=#[] }],W1,{ target:=.fn (.func gf) lb,args:=#[.func (.yield (D+1)) #[] #[]] },W1,gf,
  #[.func (.yield (D+1)) #[] #[]] ++ lb,W1,hent,?_,fun _ _=>trivial,?_,fun h=>absurd h (by simp[Fence.wide]),?_⟩
 ·simp only[resolve,hg];simp[go_sem]
 ·simp[invoke,go_sem,eg]
 ·refine callsIn_wide.2 ((hseq (D+1) W1 _ _ _ ⟨L0,h0,rfl⟩ (fun _ _ h=>h.elim fun L hL=>⟨L,hL.1⟩) hO1 hround).mono ?_);rintro e W3 ⟨⟨v,rfl⟩,hend⟩;rcases hend with ⟨xs,mk2,Lt,hS,⟨L,hI,rfl⟩,ho,hm⟩ | ⟨xs,mk2,Lt,hS,⟨c,L,hI,rfl⟩,ho,hm⟩
  ·have hl3:=ho.blob;have hO4:=ho.ku (o':=.loop { rec .ready none with state:=.exhausted }) (World.putObj_heap_same (Array.getElem?_eq_some_iff.1 hl3).1) (grownBy_putObj' _ _ _);refine ⟨none,_,?_,hdone D xs _ mk2 L hS hI hO4.tail hm⟩;have:=run_endLoop (P:=P) hl3 (by rw[hrec];simp);rw[this,hrec]
  ·have hl3:=ho.blob;have hO4:=ho.ku (o':=.loop { rec .done (some c) with state:=.exhausted }) (World.putObj_heap_same (Array.getElem?_eq_some_iff.1 hl3).1) (grownBy_putObj' _ _ _);refine ⟨some c,_,?_,hstop D c xs _ mk2 L hS hI hO4.tail hm⟩;have:=run_endLoop (P:=P) hl3 (by rw[hrec];simp);rw[this,hrec]
end Cl
