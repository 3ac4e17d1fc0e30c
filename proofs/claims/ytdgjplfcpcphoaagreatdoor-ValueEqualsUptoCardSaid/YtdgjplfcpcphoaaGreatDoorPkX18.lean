/- Lemmas for the proofs of chapter 11. -/
import Derived.Test.YtdgjplfcpcphoaaGreatDoorProg
import Derived.BigQuiet
import Derived.Deep.Cut
import Derived.Deep.QuietTactic
import Derived.Laws.StructEq
import Derived.Lib.AppendStr
import Derived.Lib.Builder
import Derived.Lib.Hide
import Derived.Lib.ItoaLen
import Derived.Maps.OwnOps
import Derived.Maps.OwnSet
import Derived.OrdersHeld
import Derived.Outline
import Derived.StillTailTactics
import Derived.StringKeys
import Derived.WalkKit
import Derived.WalkLawsBesides
import Derived.WalkSpells
import Derived.Deep.RegionHeld
import Derived.RangeFuncNested
import Derived.RangeFuncBound
import Derived.RangeFuncCalls
import Derived.RangeFuncLeaves
import Derived.OwnWalkIn
import Derived.TacticsInMore
import Derived.LoopNIn
import Derived.LoopIn
import Derived.Shelf.Strings.Builder1
import Derived.Shelf.Small.Wraps
import Derived.Shelf.LaysM
import Derived.Shelf.Strconv.Itoa3
import Derived.Shelf.SlSortCmp.WholeK
import Derived.Laws.EntriesVeiled
import Derived.Laws.CopyOwn
import Derived.RegionTactic
import Derived.Test.YtdgjplfcpcphoaaGreatDoorZz
import Derived.Test.YtdgjplfcpcphoaaGreatDoorPkX3
import Derived.Test.YtdgjplfcpcphoaaGreatDoorPkX4
import Derived.Test.YtdgjplfcpcphoaaGreatDoorPkX14
import Derived.Test.YtdgjplfcpcphoaaGreatDoorPkX5
import Derived.Test.YtdgjplfcpcphoaaGreatDoorPkX1
import Derived.Test.YtdgjplfcpcphoaaGreatDoorPkX2
import Derived.Test.YtdgjplfcpcphoaaGreatDoorPkX10
import Derived.Test.YtdgjplfcpcphoaaGreatDoorPkX13
import Derived.Test.YtdgjplfcpcphoaaGreatDoorPkX9
import Derived.Test.YtdgjplfcpcphoaaGreatDoorPkX6
import Derived.Test.YtdgjplfcpcphoaaGreatDoorPkX7
import Derived.Test.YtdgjplfcpcphoaaGreatDoorPkX11
import Derived.Test.YtdgjplfcpcphoaaGreatDoorPkX8
import Derived.Test.YtdgjplfcpcphoaaGreatDoorPkX12
set_option maxRecDepth 100000
set_option maxHeartbeats 16000000
namespace Cl
open Go Go.RowKit Go.Proofs
theorem VIn.rng {cs:List Comp} (hc:∀c∈cs,c.n≤1000):∀{v:List Int},VIn cs v→∀x∈v,-1≤x∧x<1000:=by
 intro v h x hx;obtain⟨i,hi,rfl⟩:=List.getElem_of_mem hx;have hl:=h.len;have:=h.get i zo hi;have h2:=hc cs[i] (List.getElem_mem zo);omega
theorem Ke {c:St} (h3:∀f∈c.1,f.1.1.size≤40) (h4:∀k∈c.2,gH k.1):∀x∈stC1 c,x.n≤1000:=by
 intro x hx;rcases List.mem_append.1 hx with hx | hx
 ·obtain⟨k,hk,rfl⟩:=List.mem_map.1 hx;have:=(h4 k hk).2;show k.1.length≤1000;omega
 ·obtain⟨f,hf,rfl⟩:=List.mem_map.1 hx;have:=h3 f hf;show f.1.1.data.toList.length+1≤1000;rw[Array.length_toList];show f.1.1.size+1≤1000;omega
def oD (f:Lit→Bool) (seen:List (List Int)):Prop:=∀l:List Int,f (.string (txt l))=true↔l∈seen
theorem oD.put {f:Lit→Bool} {seen:List (List Int)} (h:oD f seen) (x:List Int):oD (bput f (.string (txt x)) true) (seen ++ [x]):=fun l=>by
 by_cases e:l=x
 ·subst e;rw[Bu];simp
 ·rw[xk f true (fun h=>e (txt_inj' l x (by injection h)))];rw[h l];simp[e]
theorem oD.none:oD (fun _=>false) []:=fun l=>by simp
theorem Lm {α:Type} {l:List α} {v x:α}:x∈l ++ [v]↔x∈l∨x=v:=by simp
end Cl
namespace Cl
def hitT (Ls:List Table) (v:List Int) (k:Nat):Nat:=je ((Ls.map tabC).take k) (v.take k)
structure qN (cs:List Comp) (seen:List (List Int)) (k:Nat):Prop where
 nodup:seen.Nodup
 reach:∀v∈seen,gV cs v
 start:eu cs∈seen
 done:∀i (h:i<seen.length),i<k→vQ cs seen seen[i]
theorem qN.first (cs:List Comp):qN cs [eu cs] 0 where
 nodup:=by simp
 reach v hv:=by rw[List.mem_singleton.1 hv];exact .start cs
 start:=by simp
 done i _ h:=absurd h (Nat.not_lt_zero i)
theorem qN.push {cs:List Comp} {seen:List (List Int)} {k:Nat} (h:qN cs seen k) (hk:k≤seen.length) {x:List Int} (hr:gV cs x) (hx:x ∉ seen):qN cs (seen ++ [x]) k where
 nodup:=by
  rw[List.nodup_append];exact⟨h.nodup,zS,fun a ha b hb e=>hx (by rw[List.mem_singleton.1 hb] at e;rw[← e];exact ha)⟩
 reach v hv:=(List.mem_append.1 hv).elim (h.reach v) fun k=>by rw[List.mem_singleton.1 k];exact hr
 start:=List.mem_append_left _ h.start
 done i hi hik:=by
  rw[List.getElem_append_left (show i<seen.length by omega)];exact (h.done i zo hik).mono fun y hy=>List.mem_append_left _ hy
theorem qN.close {cs:List Comp} {seen:List (List Int)} {k:Nat} (h:qN cs seen k) (hk:k<seen.length) (d:vQ cs seen seen[k]):qN cs seen (k+1):=
 ⟨h.nodup,h.reach,h.start,fun i hi hik=>by
  by_cases e:i=k
  ·subst e;exact d
  ·exact h.done i hi zo⟩
theorem qN.once {cs:List Comp} {seen:List (List Int)} (h:qN cs seen seen.length):qO cs:=by
 have hd:∀v∈seen,vQ cs seen v:=fun v hv=>by
  obtain⟨i,hi,rfl⟩:=List.getElem_of_mem hv;exact h.done i hi hi
 exact mW (S:=fun v=>v∈seen) h.start (fun v hv b hb=>(hd v hv).2 b hb) (fun v hv=>(hd v hv).1)
end Cl
namespace Cl
structure Vs where
 n:Int
 d:Int
 b:Bool
noncomputable def visV:Nat→Nat→Vl→Vs→Vs
 | 0,lv,_,a=>⟨a.n+1,max a.d lv,true⟩
 | f+1,lv,v,a=>if tf (lU v) then v.kids.foldl (fun a x=>visV f (lv+1) x.2 (visV f (lv+1) x.1 a)) ⟨a.n+1,max a.d lv,a.b⟩ else ⟨a.n+1,max a.d lv,true⟩
noncomputable def visL (f lv:Nat) (l:List Vd) (a:Vs):Vs:=l.foldl (fun a x=>visV f (lv+1) x.2 (visV f (lv+1) x.1 a)) a
theorem kT {f lv:Nat} {v:Vl} {a:Vs} (h:lU v):visV (f+1) lv v a=visL f lv v.kids ⟨a.n+1,max a.d lv,a.b⟩:=by rw[visV,aI h];rfl
theorem rV {f lv:Nat} {v:Vl} {a:Vs} (h:¬ lU v):visV (f+1) lv v a=⟨a.n+1,max a.d lv,true⟩:=by rw[visV,az h];rfl
theorem Iz (f lv:Nat) (l:List Vd) (i:Nat) (h:i<l.length) (a:Vs):visL f lv (l.take (i+1)) a=visV f (lv+1) l[i].2 (visV f (lv+1) l[i].1 (visL f lv (l.take i) a)):=by
 rw[visL,List.take_succ_eq_append_getElem h,List.foldl_append];rfl
theorem Na:∀(f lv:Nat) (v:Vl) (a:Vs),(visV f lv v a).b=(a.b || !tf (Snd f v))
 | 0,lv,v,a=>by rw[az (p:=Snd 0 v) id];simp[visV]
 | f+1,lv,v,a=>by
  have hl:∀(l:List Vd) (a:Vs),(visL f lv l a).b=(a.b || !tf (∀x∈l,Snd f x.1∧Snd f x.2)):=by
   intro l
   induction l with
   | nil=>intro a;rw[aI zS];simp[visL]
   | cons x l ih=>
    intro a;rw[show visL f lv (x::l) a=visL f lv l (visV f (lv+1) x.2 (visV f (lv+1) x.1 a)) from rfl,ih,Na f,Na f];by_cases h1:Snd f x.1
    ·by_cases h2:Snd f x.2
     ·rw[aI h1,aI h2,aZ (show (∀y∈x::l,Snd f y.1∧Snd f y.2)↔∀y∈l,Snd f y.1∧Snd f y.2 by simp[h1,h2])];simp
     ·rw[az h2,az (p:=∀y∈x::l,Snd f y.1∧Snd f y.2) fun h=>h2 (h x zS).2];simp
    ·rw[az h1,az (p:=∀y∈x::l,Snd f y.1∧Snd f y.2) fun h=>h1 (h x zS).1];simp
  by_cases hg:lU v
  ·rw[kT hg,hl,aZ (show Snd (f+1) v↔∀x∈v.kids,Snd f x.1∧Snd f x.2 from ⟨fun h=>h.2,fun h=>⟨hg,h⟩⟩)]
  ·rw[rV hg,az (p:=Snd (f+1) v) fun h=>hg h.1];simp
theorem M8:∀(f lv N:Nat) (v:Vl) (a:Vs),Ht N v→a.n≤(visV f lv v a).n∧(visV f lv v a).n≤a.n+vcnt N v
 | 0,lv,N,v,a,h=>by
  have:=rW h
  simp only[visV];omega
 | f+1,lv,0,v,a,h=>h.elim
 | f+1,lv,N+1,v,a,h=>by
  have hl:∀(l:List Vd) (a:Vs),(∀x∈l,Ht N x.1∧Ht N x.2)→a.n≤(visL f lv l a).n∧(visL f lv l a).n≤a.n+((l.map fun x=>vcnt N x.1+vcnt N x.2).sum:Nat):=by
   intro l
   induction l with
   | nil=>intro a _;simp[visL]
   | cons x l ih=>
    intro a hx;rw[show visL f lv (x::l) a=visL f lv l (visV f (lv+1) x.2 (visV f (lv+1) x.1 a)) from rfl];have h1:=M8 f (lv+1) N x.1 a (hx x zS).1;have h2:=M8 f (lv+1) N x.2 (visV f (lv+1) x.1 a) (hx x zS).2;have h3:=ih (visV f (lv+1) x.2 (visV f (lv+1) x.1 a)) fun y hy=>hx y (by simp[hy]);simp only[List.map_cons,List.sum_cons];omega
  have e:vcnt (N+1) v=1+(v.kids.map fun x=>vcnt N x.1+vcnt N x.2).sum:=by rw[vcnt]
  by_cases hg:lU v
  ·rw[kT hg];have:=hl v.kids ⟨a.n+1,max a.d lv,a.b⟩ h;simp only at this;omega
  ·rw[rV hg];simp only;omega
theorem DU:∀(f lv:Nat) (v:Vl) (a:Vs),1≤lv→Snd f v→(visV f lv v a).n=a.n+vcnt f v∧(visV f lv v a).d=max a.d ((lv:Int) - 1+dep f v)
 | 0,_,_,_,_,h=>h.elim
 | f+1,lv,v,a,h1,h=>by
  have hl:∀(l:List Vd) (a:Vs),(lv:Int)≤a.d→(∀x∈l,Snd f x.1∧Snd f x.2)→(visL f lv l a).n=a.n+((l.map fun x=>vcnt f x.1+vcnt f x.2).sum:Nat)∧(visL f lv l a).d=max a.d ((lv:Int)+maxL (l.map fun x=>max (dep f x.1) (dep f x.2))):=by
   intro l
   induction l with
   | nil=>intro a ha _;simp[visL,maxL];omega
   | cons x l ih=>
    intro a ha hx;rw[show visL f lv (x::l) a=visL f lv l (visV f (lv+1) x.2 (visV f (lv+1) x.1 a)) from rfl];have h1:=DU f (lv+1) x.1 a zo (hx x zS).1;have h2:=DU f (lv+1) x.2 (visV f (lv+1) x.1 a) zo (hx x zS).2;have h3:=ih (visV f (lv+1) x.2 (visV f (lv+1) x.1 a)) zo fun y hy=>hx y (by simp[hy]);simp only[List.map_cons,List.sum_cons,maxL];constructor
    ·rw[h3.1,h2.1,h1.1];omega
    ·rw[h3.2,h2.2,h1.2];omega
  have e:vcnt (f+1) v=1+(v.kids.map fun x=>vcnt f x.1+vcnt f x.2).sum:=by rw[vcnt]
  have e2:dep (f+1) v=maxL (v.kids.map fun x=>max (dep f x.1) (dep f x.2))+1:=by rw[dep]
  rw[kT h.1];have:=hl v.kids ⟨a.n+1,max a.d lv,a.b⟩ (by show (lv:Int)≤max a.d lv;omega) h.2;refine ⟨by rw[this.1,e];show a.n+1+_=_;omega,by rw[this.2,e2];show max (max a.d (lv:Int)) _=_;omega⟩
def lH (l:List Int):Int:=l.foldr orI 0
theorem Df (l:List Int) {i:Nat} (h:i<l.length):lH (l.drop i)=orI l[i] (lH (l.drop (i+1))):=by
 rw[List.drop_eq_getElem_cons h];rfl
end Cl
namespace Cl
def eU (acc:Table→Bool) (c:St) (s:ByteArray):Vd × Int:=
 match c.1.find? (fun f=>f.1.1=s) with
 | some f=>(f.2,f.1.2)
 | none=>match c.2.find? (fun k=>acc k.1) with
  | some k=>(k.2,3)
  | none=>((botV,botV),3)
def gN (c:Lc) (i:Int):Vd × Bool:=
 if h:0≤i∧i.toNat<c.1.length then (c.1[i.toNat]'h.2,true)
 else if h:0≤i∧0<c.2.length then (c.2[0]'h.2,true) else ((botV,botV),false)
end Cl
