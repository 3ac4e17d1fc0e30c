/- Lemmas for the proofs of chapter 11. -/
import Derived.Test.YtdgjplfcpcphoaaGreatDoorProg
import Derived.BigQuiet
import Derived.Deep.Cut
import Derived.Deep.QuietTactic
import Derived.Laws.StructEq
import Derived.Lib.AppendStr
import Derived.Lib.Builder
import Derived.Lib.Hide
import Derived.Lib.ItoaLen
import Derived.Maps.OwnOps
import Derived.Maps.OwnSet
import Derived.OrdersHeld
import Derived.Outline
import Derived.StillTailTactics
import Derived.StringKeys
import Derived.WalkKit
import Derived.WalkLawsBesides
import Derived.WalkSpells
import Derived.Deep.RegionHeld
import Derived.RangeFuncNested
import Derived.RangeFuncBound
import Derived.RangeFuncCalls
import Derived.RangeFuncLeaves
import Derived.OwnWalkIn
import Derived.TacticsInMore
import Derived.LoopNIn
import Derived.LoopIn
import Derived.Shelf.Strings.Builder1
import Derived.Shelf.Small.Wraps
import Derived.Shelf.LaysM
import Derived.Shelf.Strconv.Itoa3
import Derived.Shelf.SlSortCmp.WholeK
import Derived.Laws.EntriesVeiled
import Derived.Laws.CopyOwn
import Derived.RegionTactic
import Derived.Test.YtdgjplfcpcphoaaGreatDoorZz
import Derived.Test.YtdgjplfcpcphoaaGreatDoorPkX3
import Derived.Test.YtdgjplfcpcphoaaGreatDoorPkX4
import Derived.Test.YtdgjplfcpcphoaaGreatDoorPkX5
import Derived.Test.YtdgjplfcpcphoaaGreatDoorPkX1
import Derived.Test.YtdgjplfcpcphoaaGreatDoorPkX2
import Derived.Test.YtdgjplfcpcphoaaGreatDoorPkX10
import Derived.Test.YtdgjplfcpcphoaaGreatDoorPkX9
import Derived.Test.YtdgjplfcpcphoaaGreatDoorPkX6
import Derived.Test.YtdgjplfcpcphoaaGreatDoorPkX7
import Derived.Test.YtdgjplfcpcphoaaGreatDoorPkX11
import Derived.Test.YtdgjplfcpcphoaaGreatDoorPkX8
import Derived.Test.YtdgjplfcpcphoaaGreatDoorPkX12
set_option maxRecDepth 100000
set_option maxHeartbeats 16000000
namespace Cl
structure FewP (v:Vl):Prop where
 sc:MZ v.s
 l:v.lists.length≤4
 s:v.structs.length≤4
 f:∀c∈v.structs,c.1.length≤6
 k:∀c∈v.structs,c.2.length≤6
 lab:∀c∈v.structs,∀f∈c.1,f.1.1.size≤40
 set:∀c∈v.structs,∀k∈c.2,gH k.1
def FewV:Nat→Vl→Prop
 | 0,_=>False
 | n+1,v=>FewP v∧∀x∈v.kids,FewV n x.1∧FewV n x.2
theorem FewV.ht:∀{n:Nat} {v:Vl},FewV n v→Ht n v
 | 0,_,h=>h.elim
 | _+1,_,h=>fun x hx=>⟨(h.2 x hx).1.ht,(h.2 x hx).2.ht⟩
theorem FewV.succ:∀{n:Nat} {v:Vl},FewV n v→FewV (n+1) v
 | 0,_,h=>h.elim
 | _+1,_,h=>⟨h.1,fun x hx=>⟨(h.2 x hx).1.succ,(h.2 x hx).2.succ⟩⟩
theorem FewV.mono {n m:Nat} {v:Vl} (h:FewV n v) (k:n≤m):FewV m v:=by
 induction k with
 | refl=>exact h
 | step _ ih=>exact ih.succ
structure KQ (n:Nat) (v:Vl):Prop where
 vcnt:vcnt n v≤80
 few:FewV n v
theorem Ea {α:Type} {f:α→Nat} {l:List α} {x:α} (h:x∈l):f x≤(l.map f).sum:=by
 induction l with
 | nil=>simp at h
 | cons y l ih=>
  rcases List.mem_cons.1 h with rfl | h
  ·simp
  ·have:=ih h;simp only[List.map_cons,List.sum_cons];omega
theorem jW {n:Nat} {v:Vl} {x:Vd} (hx:x∈v.kids):vcnt n x.1+vcnt n x.2+1≤vcnt (n+1) v:=by
 have:=Ea (f:=fun x:Vd=>vcnt n x.1+vcnt n x.2) hx;rw[vcnt];omega
theorem qK (n:Nat) (a:Bool):FewV (n+1) (.mk a dJ [] []):=
 ⟨⟨⟨by simp[Vl.s,dJ],by simp[Vl.s,dJ],by intro s hs;simp[Vl.s,dJ] at hs,by simp[Vl.s,dJ]⟩,by simp[Vl.lists],by simp[Vl.structs],by simp[Vl.structs],by simp[Vl.structs],by simp[Vl.structs],by simp[Vl.structs]⟩,
  fun x hx=>by simp[Vl.kids,Vl.lists,Vl.structs] at hx⟩
theorem KQ.sc {n:Nat} {v:Vl} (h:KQ (n+1) v):MZ v.s:=h.few.1.sc
theorem I8 {c:St} (h2:c.2.length≤6) (h4:∀k∈c.2,gH k.1):(c.2.map fun k=>tabC k.1).length≤6∧∀x∈c.2.map (fun k=>tabC k.1),x.n≤8:=
 ⟨by rw[List.length_map];exact h2,fun x hx=>by obtain⟨k,hk,rfl⟩:=List.mem_map.1 hx;exact (h4 k hk).2⟩
theorem Ma {c:St} (hs:∀k∈c.2,Canon k.1∧k.1≠[]) (h1:c.1.length≤6) (h2:c.2.length≤6) (h3:∀f∈c.1,f.1.1.size≤40) (h4:∀k∈c.2,gH k.1) {l:List (List Int)} (hn:l.Nodup) (hl:∀v∈l,gV (stC1 c) v):l.length≤1400000000:=by
 obtain⟨p1,p2⟩:=I8 h2 h4;have h:=wo (P:=c.2.map fun k:Kl=>tabC k.1) (Q:=c.1.map fun f:Fd=>labC f.1.1.data.toList) (k:=40) (fun x hx=>by
  obtain⟨k,hk,rfl⟩:=List.mem_map.1 hx;exact xN (hs k hk).1 (hs k hk).2) (fun x hx=>by
  obtain⟨f,hf,rfl⟩:=List.mem_map.1 hx;exact JL (by rw[Array.length_toList];exact h3 f hf)) hn (fun v hv=>hl v hv)
 exact Nat.le_trans h (uw p1 p2 (by rw[List.length_map];exact h1))
end Cl
namespace Cl
theorem Iq (l:Table) (n:Nat) {s:Int} (h:s<0):wex l n s=[]:=by
 cases hx:wex l n s with
 | nil=>rfl
 | cons a r=>
  have:=((jw l n s a).1 (by rw[hx];simp)).2;rw[bJ h] at this;cases this
def yG (l:Table) (n:Nat) (t:Int) (b:Nat):List (List UInt8):=(wex l n t).map (UInt8.ofNat b::·)
def edW (l:Table) (n:Nat) (t:Int) (lo cnt:Nat):List (List UInt8):=(List.range' lo cnt).flatMap (yG l n t)
theorem Mj (l:Table) (n:Nat) (t:Int) (lo:Nat):edW l n t lo 0=[]:=rfl
theorem Mk (l:Table) (n:Nat) (t:Int) (lo cnt:Nat):edW l n t lo (cnt+1)=edW l n t lo cnt ++ yG l n t (lo+cnt):=by
 unfold edW;rw[List.range'_concat,List.flatMap_append];simp
theorem Du {l:Table} {n:Nat} {t:Int} (h:wex l n t=[]) (lo cnt:Nat):edW l n t lo cnt=[]:=by
 unfold edW yG;rw[h];simp
def esW (l:Table) (n:Nat) (es:List Ed):List (List UInt8):=es.flatMap fun e=>edW l n e.to e.lo (e.hi+1 - e.lo)
theorem EQ (l:Table) (n:Nat) (es:List Ed) {i:Nat} (h:i<es.length):esW l n (es.take (i+1))=esW l n (es.take i) ++ edW l n (es[i]).to (es[i]).lo ((es[i]).hi+1 - (es[i]).lo):=by
 unfold esW;rw[List.take_succ_eq_append_getElem h,List.flatMap_append];simp
theorem flatMap_nil {α β:Type} {f:α→List β}:∀{l:List α},(∀x∈l,f x=[])→l.flatMap f=[]
 | [],_=>rfl
 | a::l,h=>by rw[List.flatMap_cons,h a zS,flatMap_nil fun x hx=>h x (by simp[hx])];rfl
theorem iK {α β:Type} {f g:α→List β}:∀{l:List α},(∀x∈l,f x=g x)→l.flatMap f=l.flatMap g
 | [],_=>rfl
 | a::l,h=>by rw[List.flatMap_cons,List.flatMap_cons,h a zS,iK fun x hx=>h x (by simp[hx])]
theorem Kh {l:Table} {n N:Nat}:∀(es:List Ed) (q:Nat),aV N ((q:Int) - 1) es→dZ es→q≤256 →
 (List.range' q (256 - q)).flatMap (fun b=>yG l n (aS es b) b)=esW l n es
 | [],q,_,_,_=>flatMap_nil fun b _=>by
  show (wex l n (-1)).map _=[]
  rw[Iq l n zo];rfl
 | e::es,q,⟨h1,h2,h3,h4,h5⟩,hb,hq=>by
  have hbe:=hb e zS;have e1:List.range' q (256 - q)=List.range' q (e.lo - q) ++ (List.range' e.lo (e.hi+1 - e.lo) ++ List.range' (e.hi+1) (256 - (e.hi+1))):=by
   have a1:List.range' e.lo (256 - e.lo)=List.range' e.lo (e.hi+1 - e.lo) ++ List.range' (e.hi+1) (256 - (e.hi+1)):=by
    have:=List.range'_append_1 (s:=e.lo) (m:=e.hi+1 - e.lo) (n:=256 - (e.hi+1));rw[show e.lo+(e.hi+1 - e.lo)=e.hi+1 by omega] at this;rw[this];congr 1;omega
   have a2:=List.range'_append_1 (s:=q) (m:=e.lo - q) (n:=256 - e.lo);rw[show q+(e.lo - q)=e.lo by omega] at a2;rw[← a1,a2];congr 1;omega
  rw[e1,List.flatMap_append,List.flatMap_append];rw[flatMap_nil (l:=List.range' q (e.lo - q)) fun b hb'=>by
   have hr:=List.mem_range'_1.1 hb';have:aS (e::es) b = -1:=mE _ _ fun x hx hh=>by
    rcases List.mem_cons.1 hx with rfl | hx
    ·omega
    ·have:=(eO h5 x hx).1;omega
   show (wex l n _).map _=[];rw[this,Iq l n zo];rfl]
  rw[iK (l:=List.range' e.lo (e.hi+1 - e.lo)) (g:=yG l n e.to) fun b hb'=>by
   have hr:=List.mem_range'_1.1 hb';show yG l n (aS (e::es) b) b=_;simp only[aS];rw[if_pos ⟨zo,zo⟩]]
  rw[iK (l:=List.range' (e.hi+1) (256 - (e.hi+1))) (g:=fun b=>yG l n (aS es b) b) fun b hb'=>by
   have hr:=List.mem_range'_1.1 hb';show yG l n (aS (e::es) b) b=_;simp only[aS];rw[if_neg zo]]
  rw[Kh es (e.hi+1) (by rw[show (((e.hi+1:Nat):Int) - 1)=(e.hi:Int) by omega];exact h5) (fun x hx=>hb x (by simp[hx])) zo]
  rfl
theorem Ir {l:Table} (hw:WF l) (hb:Bytes l) {s:Nat} (hs:s<l.length) (n:Nat):wex l (n+1) (s:Int)=esW l n (l[s]).edges:=by
 have h:=Kh (l:=l) (n:=n) (l[s]).edges 0 (by have:=hw l[s] (List.getElem_mem hs);simpa using this) (hb l[s] (List.getElem_mem hs)) zo;rw[← h];unfold wex;rw[List.range_eq_range'];exact iK fun b _=>by rw[bV l s b hs];rfl
def canN (l:Table) (n:Nat):List Bool:=(List.range l.length).map fun (s:Nat) => !(wex l n (s:Int)).isEmpty
theorem pV (l:Table) (n:Nat):(canN l n).length=l.length:=by simp[canN]
theorem sD (l:Table) (n:Nat) {s:Nat} (h:s<l.length):(canN l n)[s]?=some (!(wex l n (s:Int)).isEmpty):=by simp[canN,h]
theorem KC (l:Table):canN l 0=l.map (·.accept):=by
 apply List.ext_getElem
 ·simp[canN]
 ·intro i h1 h2;have hi:i<l.length:=by simpa using h2
  simp only[canN,List.getElem_map,List.getElem_range];unfold wex;rw[dF l i hi];cases (l[i]).accept <;> rfl
theorem A8 {l:Table} {n:Nat} {es:List Ed} {N:Nat} {p:Int} (hw:aV N p es):(esW l n es=[])↔∀e∈es,wex l n e.to=[]:=by
 constructor
 ·intro h e he;have h1:=eO hw e he;unfold esW at h;have h2:=List.flatMap_eq_nil_iff.1 h e he;unfold edW at h2;have h3:=List.flatMap_eq_nil_iff.1 h2 e.lo (List.mem_range'_1.2 ⟨Nat.le_refl _,zo⟩);exact List.map_eq_nil_iff.1 h3
 ·intro h;exact flatMap_nil fun e he=>Du (h e he) _ _
theorem Bt {l:Table} (hw:WF l) (hb:Bytes l) (n:Nat):canN l (n+1)=l.map fun s=>s.edges.any fun e=>(canN l n).getD e.to.toNat false:=by
 apply List.ext_getElem
 ·simp[canN]
 ·intro i h1 h2;have hi:i<l.length:=by simpa using h2
  have e1:(canN l (n+1))[i] = !(wex l (n+1) (i:Int)).isEmpty:=by simp[canN]
  rw[e1,List.getElem_map,Ir hw hb hi,Bool.eq_iff_iff];have hwi:=hw l[i] (List.getElem_mem hi);have key:∀e∈(l[i]).edges,(canN l n).getD e.to.toNat false=true↔wex l n e.to≠[]:=by
   intro e he;have:=eO hwi e he;rw[List.getD_eq_getElem?_getD,sD l n zo,Option.getD_some,Int.toNat_of_nonneg this.2.2.1];simp
  rw[List.any_eq_true];constructor
  ·intro h;have hne:¬ (esW l n (l[i]).edges=[]):=by simpa using h
   rw[A8 hwi] at hne;apply Classical.byContradiction;intro hc;exact hne fun e he=>Classical.byContradiction fun hx=>hc ⟨e,he,(key e he).2 hx⟩
  ·rintro ⟨e,he,hx⟩;have:=(key e he).1 hx;have hne:¬ (esW l n (l[i]).edges=[]):=fun h=>this ((A8 hwi).1 h e he);simpa using hne
theorem Ib {l:Table} (h:Canon l):∀t,t<l.length→∃u,jf l 0 u=t:=by
 intro t
 induction t using Nat.strongRecOn with
 | _ t ih=>
  intro ht;by_cases h0:t=0
  ·exact⟨[],by rw[h0];rfl⟩
  ·obtain⟨k,b,hk,hb,hs⟩:=h.reach t zo ht;obtain⟨u,hu⟩:=ih k hk zo;obtain⟨c,hc⟩:=byteOf b hb;refine ⟨u ++ [c],?_⟩;have:∀(u v:List UInt8) (s:Int),jf l s (u ++ v)=jf l (jf l s u) v:=by
    intro u v
    induction u with
    | nil=>intro s;rfl
    | cons a u ih=>intro s;exact ih _
   rw[this,hu];show aW l k c.toNat=t;rw[hc];exact hs
theorem Ic {l:Table} (h:Canon l) {K n:Nat} (hK:(enum l 0 n).length<K) (hn:K*l.length<n):canN l (n - 1)=List.replicate l.length false:=by
 apply List.ext_getElem
 ·simp[canN]
 ·intro i h1 h2;have hi:i<l.length:=by simpa using h2
  simp only[canN,List.getElem_map,List.getElem_range,List.getElem_replicate];rw[Bool.not_eq_false',List.isEmpty_iff];apply Classical.byContradiction;intro hne;obtain⟨y,hy⟩:=List.exists_mem_of_ne_nil _ hne;obtain⟨g1,g2⟩:=(jw _ _ _ _).1 hy;obtain⟨u,hu⟩:=Ib h i hi;have hacc:aF l 0 (u ++ y)=true:=by rw[iw,hu];exact g2
  have:=uJ hacc K (by simp;omega);have:=Ba (l:=l) (s:=0) (show K*l.length≤n by omega);omega
theorem KE {l:Table} (hw:WF l) (hb:Bytes l) {n:Nat} (h:∀b∈canN l n,b=false):∀m,n≤m→∀b∈canN l m,b=false:=by
 intro m hm
 induction hm with
 | refl=>exact h
 | step _ ih=>
  rw[Bt hw hb];intro b hbm;obtain⟨s,hs,rfl⟩:=List.mem_map.1 hbm;rw[Bool.eq_false_iff];intro hx;obtain⟨e,he,hx⟩:=List.any_eq_true.1 hx;rw[List.getD_eq_getElem?_getD] at hx
  cases hg:(canN l _)[e.to.toNat]? with
  | none=>rw[hg] at hx;simp at hx
  | some b=>
   rw[hg] at hx;have:=ih b (List.mem_of_getElem? hg);rw[this] at hx;simp at hx
theorem Kj {l:Table} (hw:WF l) (hb:Bytes l) {n:Nat} (h:∀b∈canN l n,b=false):∀y,aF l 0 y=true→y.length<n:=by
 intro y hy;apply Classical.byContradiction;intro hn;have h1:=KE hw hb h y.length zo;have hr:=kG hy;have h0:0<l.length:=zo;have h2:=h1 _ (List.mem_of_getElem? (sD l y.length h0));have h3:y∈wex l y.length ((0:Nat):Int):=(jw _ _ _ _).2 ⟨rfl,hy⟩;rw[Bool.not_eq_false',List.isEmpty_iff] at h2;rw[h2] at h3;simp at h3
end Cl
namespace Cl
def cb (A:Table) (s n:Nat):Bool := !(wex A n (s:Int)).isEmpty
def f1 (A:Table) (s n:Nat):Bool:=decide (n=0)&&cb A s 0
def f2 (A:Table) (k s n:Nat):Bool:=decide (n<k)&&cb A s n
def f3 (A:Table) (k t s n:Nat):Bool:=decide (n<k∨n=k∧s<t)&&cb A s n
def f4 (A:Table) (k t:Nat) (es:List Ed) (s n:Nat):Bool:=f3 A k t s n || (decide (n=k∧s=t)&&es.any fun e=>cb A e.to.toNat (k - 1))
end Cl
namespace Cl
mutual
def cnt:Dt→Nat
 | .mk _ _ _ i _ d=>1+cntL i+cntL d
def cntL:List Dt→Nat
 | []=>0
 | x::r=>cnt x+cntL r
end
end Cl
namespace Cl
open Go Go.RowKit Go.Proofs
theorem ET (u:Nat):∀c∈Lib.decDigits u,c≠45:=by
 induction u using Nat.strongRecOn with
 | _ u ih=>
  have key:∀k,k<10→UInt8.ofNat (48+k)≠45:=fun k hk e=>by
   have:(UInt8.ofNat (48+k)).toNat=48+k:=by simp;omega
   rw[e] at this;have h45:(45:UInt8).toNat=45:=rfl;omega
  intro c hc;by_cases h:u<10
  ·rw[Lib.decDigits,dif_pos h] at hc;simp only[List.mem_singleton] at hc;subst hc;exact key u h
  ·rw[Lib.decDigits,dif_neg h] at hc;rcases List.mem_append.1 hc with h1 | h1
   ·exact ih (u / 10) zo c h1
   ·simp only[List.mem_singleton] at h1;subst h1;exact key _ zo
theorem itoa_inj' {x y:Int} (h:Lib.itoa x=Lib.itoa y):x=y:=by
 unfold Lib.itoa at h
 split at h <;> split at h
 ·simp only[List.cons.injEq,true_and] at h;have:=congrArg uL h;rw[(kz _).1,(kz _).1] at this;omega
 ·exact absurd rfl (ET y.toNat 45 (by rw[← h];simp))
 ·exact absurd rfl (ET x.toNat 45 (by rw[h];simp))
 ·have:=congrArg uL h;rw[(kz _).1,(kz _).1] at this;omega
theorem AP (x:Int):∀c∈Lib.itoa x,c≠44:=by
 unfold Lib.itoa
 split
 ·intro c hc;rcases List.mem_cons.1 hc with rfl | hc
  ·decide
  ·exact (kz _).2 c hc
 ·exact (kz _).2
theorem txt_inj':∀(l l':List Int),txt l=txt l'→l=l'
 | [],[],_=>rfl
 | [],x::l',h=>by simp[txt] at h
 | x::l,[],h=>by simp[txt] at h
 | x::l,y::l',h=>by
  have h:Lib.itoa x ++ txt l=Lib.itoa y ++ txt l':=by simpa [txt] using h
  obtain⟨h1,h2⟩:=I6 _ _ _ _ (AP x) (AP y) (rX l) (rX l') h;rw[itoa_inj' h1,txt_inj' l l' h2]
def vQ (cs:List Comp) (seen:List (List Int)) (v:List Int):Prop:=je cs v=1∧∀b<256,dK cs v b∈seen
structure Srch (cs:List Comp) (seen todo:List (List Int)) (P:List Int→Prop):Prop where
 nodup:seen.Nodup
 reach:∀v∈seen,gV cs v
 start:eu cs∈seen
 sub:∀v∈todo,v∈seen
 done:∀v∈seen,v∈todo∨P v∨vQ cs seen v
theorem vQ.mono {cs:List Comp} {seen seen':List (List Int)} {v:List Int} (h:vQ cs seen v) (k:∀x∈seen,x∈seen'):vQ cs seen' v:=⟨h.1,fun b hb=>k _ (h.2 b hb)⟩
theorem Srch.first (cs:List Comp):Srch cs [eu cs] [eu cs] (fun _=>False) where
 nodup:=by simp
 reach v hv:=by rw[List.mem_singleton.1 hv];exact .start cs
 start:=by simp
 sub v hv:=hv
 done v hv:=.inl hv
theorem Srch.take {cs:List Comp} {seen todo todo':List (List Int)} {v:List Int} (h:Srch cs seen todo (fun _=>False)) (ht:∀x,x∈todo↔x∈todo'∨x=v):Srch cs seen todo' (fun x=>x=v)∧v∈seen:=
 ⟨⟨h.nodup,h.reach,h.start,fun x hx=>h.sub x ((ht x).2 (.inl hx)),fun x hx=>by
  rcases h.done x hx with k | k | k
  ·exact ((ht x).1 k).elim .inl fun e=>.inr (.inl e)
  ·exact k.elim
  ·exact .inr (.inr k)⟩,h.sub v ((ht v).2 (.inr rfl))⟩
theorem Srch.push {cs:List Comp} {seen todo:List (List Int)} {P:List Int→Prop} (h:Srch cs seen todo P) {x:List Int} (hr:gV cs x) (hx:x ∉ seen):Srch cs (seen ++ [x]) (todo ++ [x]) P where
 nodup:=by
  rw[List.nodup_append];exact⟨h.nodup,zS,fun a ha b hb e=>hx (by rw[List.mem_singleton.1 hb] at e;rw[← e];exact ha)⟩
 reach v hv:=(List.mem_append.1 hv).elim (h.reach v) fun k=>by rw[List.mem_singleton.1 k];exact hr
 start:=List.mem_append_left _ h.start
 sub v hv:=(List.mem_append.1 hv).elim (fun k=>List.mem_append_left _ (h.sub v k)) fun k=>List.mem_append_right _ k
 done v hv:=(List.mem_append.1 hv).elim (fun k=>(h.done v k).elim (fun j=>.inl (List.mem_append_left _ j)) fun j=>.inr (j.imp id fun d=>d.mono fun y hy=>List.mem_append_left _ hy)) fun k=>.inl (List.mem_append_right _ k)
theorem Srch.close {cs:List Comp} {seen todo:List (List Int)} {v:List Int} (h:Srch cs seen todo (fun x=>x=v)) (d:vQ cs seen v):Srch cs seen todo (fun _=>False):=
 ⟨h.nodup,h.reach,h.start,h.sub,fun x hx=>(h.done x hx).imp id fun k=>.inr (k.elim (fun e=>by rw[e];exact d) id)⟩
theorem Srch.once {cs:List Comp} {seen:List (List Int)} (h:Srch cs seen [] (fun _=>False)):qO cs:=by
 have hd:∀v∈seen,vQ cs seen v:=fun v hv=>by
  rcases h.done v hv with k | k | k
  ·simp at k
  ·exact k.elim
  ·exact k
 exact mW (S:=fun v=>v∈seen) h.start (fun v hv b hb=>(hd v hv).2 b hb) (fun v hv=>(hd v hv).1)
end Cl
