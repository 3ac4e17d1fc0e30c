/- The law's walk. -/
import Derived.WalkKit
import Derived.Deep.QuietTactic
import Derived.Test.YtdgjplfcpcphoaaGreatDoorProg
import Derived.Deep.Slices
import Derived.Lib.SmallJoins
import Derived.ChangeMaps5
import Derived.Carry
import Derived.KernelRfl
import Derived.ChangeArms
import Derived.BigQuiet
import Derived.Deep.Cut
import Derived.Laws.StructEq
import Derived.Lib.AppendStr
import Derived.Lib.Builder
import Derived.Lib.Hide
import Derived.Lib.ItoaLen
import Derived.Maps.OwnOps
import Derived.Maps.OwnSet
import Derived.OrdersHeld
import Derived.Outline
import Derived.StillTailTactics
import Derived.StringKeys
import Derived.WalkLawsBesides
import Derived.WalkSpells
import Derived.Deep.RegionHeld
import Derived.Shelf.SlSortCmp.WholeK
import Derived.Laws.EntriesVeiled
import Derived.Laws.CopyOwn
import Derived.RegionTactic
import Derived.RangeFuncNested
import Derived.RangeFuncBound
import Derived.RangeFuncCalls
import Derived.RangeFuncLeaves
import Derived.OwnWalkIn
import Derived.TacticsInMore
import Derived.LoopNIn
import Derived.LoopIn
import Derived.Shelf.Strings.Builder1
import Derived.Shelf.Small.Wraps
import Derived.Shelf.LaysM
import Derived.Shelf.Strconv.Itoa3
import Derived.Test.YtdgjplfcpcphoaaGreatDoorRows
import Derived.Laws.CopyRow
import Derived.Laws.Tables
import Derived.BigFrame
import Derived.ChangeAlike
import Derived.Shelf.Spec.SlicesGrow
import Derived.Laws.BytesArg
import Derived.Shelf.Strconv.AppendIntPublic10
import Derived.WalkMore
import Derived.Test.YtdgjplfcpcphoaaGreatDoorCards
import Derived.Test.YtdgjplfcpcphoaaGreatDoorTie
import Derived.ProofKit
import Derived.OpenShut
import Derived.Deep.DeepHandedRow
import Derived.Lib.LaidTab
import Derived.Stop.LaidErr
import Derived.Test.YtdgjplfcpcphoaaGreatDoorZz
import Derived.Test.YtdgjplfcpcphoaaGreatDoorPkX3
import Derived.Test.YtdgjplfcpcphoaaGreatDoorPkX1
import Derived.Test.YtdgjplfcpcphoaaGreatDoorPkX2
import Derived.Test.YtdgjplfcpcphoaaGreatDoorPkX4
import Derived.Test.YtdgjplfcpcphoaaGreatDoorPkX23
import Derived.Test.YtdgjplfcpcphoaaGreatDoorPkX7
import Derived.Test.YtdgjplfcpcphoaaGreatDoorPkX5
import Derived.Test.YtdgjplfcpcphoaaGreatDoorPkX8
import Derived.Test.YtdgjplfcpcphoaaGreatDoorPkX6
import Derived.Test.YtdgjplfcpcphoaaGreatDoorPkX10
import Derived.Test.YtdgjplfcpcphoaaGreatDoorPkX9
import Derived.Test.YtdgjplfcpcphoaaGreatDoorPkX11
import Derived.Test.YtdgjplfcpcphoaaGreatDoorPkX25
import Derived.Test.YtdgjplfcpcphoaaGreatDoorPkX12
import Derived.Test.YtdgjplfcpcphoaaGreatDoorPkX14
import Derived.Test.YtdgjplfcpcphoaaGreatDoorPkX13
import Derived.Test.YtdgjplfcpcphoaaGreatDoorPkX15
import Derived.Test.YtdgjplfcpcphoaaGreatDoorPkX24
import Derived.Test.YtdgjplfcpcphoaaGreatDoorPkX16
import Derived.Test.YtdgjplfcpcphoaaGreatDoorPkX17
import Derived.Test.YtdgjplfcpcphoaaGreatDoorPkX19
import Derived.Test.YtdgjplfcpcphoaaGreatDoorPkX18
import Derived.Test.YtdgjplfcpcphoaaGreatDoorPkX21
import Derived.Test.YtdgjplfcpcphoaaGreatDoorPkX20
import Derived.Test.YtdgjplfcpcphoaaGreatDoorPkX22
set_option maxRecDepth 100000
set_option maxHeartbeats 16000000
namespace Cl
open Go Go.RowKit
section
variable {w0 w w':World} {m mk:Mem} {L:List Item}
theorem Own.fifth {a b c d e:Item} (h:Own w0 m w mk (a::b::c::d::e::L)):Own w0 m w mk (e::a::b::c::d::L):=
 h.perm (((List.perm_append_comm (l₁:=[e]) (l₂:=[a,b,c,d])).append_right L))
end
end Cl
namespace Cl
theorem Lf {T:Table} {N:Nat} {cls:List Int} {many:Nat} (hr:rF T N cls many) (hm:N≤many) (hN:1≤N):qR T N cls:=by
 rcases hr.cnt with h0 | ⟨h1,h2⟩
 ·omega
 ·have hle:many≤N:=IM (fun s=>(cls.getD s 0).toNat) fun v hv=>by
   obtain⟨s,hs,e⟩:=h2 v hv;exact⟨s,hs,by rw[e];simp⟩
  have hmN:many=N:=zo;rw[hmN] at h1 h2;refine ⟨hr.len,fun x hx=>?_,fun s t hs ht=>⟨fun he=>?_,hr.coarse s t hs ht⟩⟩
  ·obtain⟨s,hs,rfl⟩:=List.mem_iff_getElem.1 hx;have hs':s<N:=by rw[← hr.len];exact hs
   have a:=hr.rng s hs';have b:=h1 s hs';simp only[List.getD_eq_getElem?_getD,hs,List.getElem?_eq_getElem,Option.getD_some] at *
   exact⟨a.1,b⟩
  ·have:=D8 (fun s=>(cls.getD s 0).toNat) (fun v hv=>by
    obtain⟨s,hs,e⟩:=h2 v hv;exact⟨s,hs,by show (cls.getD s 0).toNat=v;rw[e];simp⟩) hs ht (by rw[he])
   subst this;intro w;rfl
end Cl
namespace Cl
open Classical in
theorem oK {l:Table} {i:Nat} {st:Sn} (h:l[i]?=some st) (b:Nat):aW l (i:Int) b=aS st.edges b:=by
 obtain⟨h1,h2⟩:=List.getElem?_eq_some_iff.1 h;rw[bV l i b h1,h2]
theorem E9 {l:Table} {i:Nat} {st:Sn} (h:l[i]?=some st):dS l (i:Int)=st.accept:=by
 obtain⟨h1,h2⟩:=List.getElem?_eq_some_iff.1 h;rw[dF l i h1,h2]
end Cl
namespace Cl
def nJ (s:List UInt8):Table:=((List.range s.length).map fun i=>(⟨false,[⟨(s.getD i 0).toNat,(s.getD i 0).toNat,((i+1:Nat):Int)⟩]⟩:Sn)) ++ [⟨true,[]⟩]
theorem iO (s:List UInt8):(nJ s).length=s.length+1:=by simp[nJ]
theorem oH {s:List UInt8} {i:Nat} (h:i<s.length):(nJ s)[i]?=some ⟨false,[⟨(s[i]).toNat,(s[i]).toNat,((i+1:Nat):Int)⟩]⟩:=by
 unfold nJ;rw[List.getElem?_append_left (by simpa using h)];simp[h]
theorem oG (s:List UInt8):(nJ s)[s.length]?=some ⟨true,[]⟩:=by
 unfold nJ;rw[List.getElem?_append_right zS];simp
theorem oF (s:List UInt8):∀(v:List UInt8) (i:Nat),i≤s.length→(aF (nJ s) (i:Int) v=true↔v=s.drop i)
 | [],i,hi=>by
  simp only[aF];by_cases h:i<s.length
  ·rw[E9 (oH h),List.drop_eq_getElem_cons h];exact⟨fun h=>(by cases h),fun h=>(by cases h)⟩
  ·obtain rfl:i=s.length:=zo;rw[E9 (oG s),List.drop_eq_nil_of_le (Nat.le_refl _)]
   simp
 | c::v,i,hi=>by
  simp only[aF];by_cases h:i<s.length
  ·rw[oK (oH h),List.drop_eq_getElem_cons h];simp only[aS];by_cases e:c=s[i]
   ·rw[if_pos (by rw[e];exact⟨Nat.le_refl _,Nat.le_refl _⟩),oF s v (i+1) h,e];exact⟨fun h=>(by rw[h]),fun h=>(List.cons.inj h).2⟩
   ·have hne:c.toNat≠(s[i]).toNat:=fun h=>e (UInt8.toNat_inj.1 h);rw[if_neg zo,bJ zo];exact⟨fun h=>(by cases h),fun h=>absurd (List.cons.inj h).1 e⟩
  ·obtain rfl:i=s.length:=zo;rw[oK (oG s),List.drop_eq_nil_of_le (Nat.le_refl _)];simp only[aS];rw[bJ zo];simp
theorem Il (s:List UInt8) (k b t:Nat) (h:aW (nJ s) k b=t):k<s.length∧t=k+1:=by
 by_cases hk:k<s.length
 ·rw[oK (oH hk)] at h;simp only[aS] at h
  split at h
  ·exact⟨hk,zo⟩
  ·omega
 ·by_cases hk2:k=s.length
  ·subst hk2;rw[oK (oG s)] at h;simp only[aS] at h;omega
  ·rw[dB _ _ _ (by rw[iO];omega)] at h;omega
theorem M6 (s:List UInt8):nA (fun v=>decide (v=s)) (nJ s):=by
 have hstep:∀k (h:k<s.length),aW (nJ s) k (s[k]).toNat=((k+1:Nat):Int):=fun k h=>by
  rw[oK (oH h)];simp only[aS];rw[if_pos ⟨Nat.le_refl _,Nat.le_refl _⟩]
 have hst:∀x∈nJ s,x=⟨true,[]⟩∨∃i,∃h:i<s.length,x=⟨false,[⟨(s[i]).toNat,(s[i]).toNat,((i+1:Nat):Int)⟩]⟩:=by
  intro x hx;obtain⟨i,hi,rfl⟩:=List.mem_iff_getElem.1 hx;rw[iO] at hi;have hg:(nJ s)[i]?=some ((nJ s)[i]'(by rw[iO];exact hi)):=by rw[List.getElem?_eq_getElem]
  by_cases h:i<s.length
  ·rw[oH h] at hg;exact .inr ⟨i,h,(Option.some.inj hg).symm⟩
  ·obtain rfl:i=s.length:=zo;rw[oG] at hg;exact .inl (Option.some.inj hg).symm
 refine ⟨⟨?_,?_,?_,?_,?_,?_,?_⟩,fun v=>?_⟩
 ·intro x hx;rw[iO];rcases hst x hx with rfl | ⟨i,h,rfl⟩
  ·trivial
  ·exact⟨Nat.le_refl _,by show (0:Int)≤((i+1:Nat):Int);omega,by show ((i+1:Nat):Int)<((s.length+1:Nat):Int);omega,by show (-1:Int)<((s[i]).toNat:Int);omega,trivial⟩
 ·intro x hx e he;rcases hst x hx with rfl | ⟨i,h,rfl⟩
  ·simp at he
  ·simp only[List.mem_singleton] at he;subst he;exact⟨(s[i]).toNat_lt,(s[i]).toNat_lt⟩
 ·intro x hx;rcases hst x hx with rfl | ⟨i,h,rfl⟩ <;> trivial
 ·intro k hk;rw[iO] at hk;exact⟨s.drop k,(oF s _ k zo).2 rfl⟩
 ·intro i j hi hj h;rw[iO] at hi hj;have h1:=(oF s (s.drop i) i zo).2 rfl;rw[h] at h1;have h2:=(oF s (s.drop i) j zo).1 h1;have:=congrArg List.length h2;simp at this;omega
 ·intro k b t hb h t' h1 h2;obtain⟨hk,rfl⟩:=Il s k b t h;refine ⟨t' - 1,(s[t' - 1]'zo).toNat,(s[t' - 1]'zo).toNat_lt,.inl zo,?_⟩;have:=hstep (t' - 1) zo;rw[show t' - 1+1=t' by omega] at this;exact this
 ·intro t h1 h2;rw[iO] at h2;refine ⟨t - 1,(s[t - 1]'zo).toNat,zo,(s[t - 1]'zo).toNat_lt,?_⟩;have:=hstep (t - 1) zo;rw[show t - 1+1=t by omega] at this;exact this
 ·have:=oF s v 0 (Nat.zero_le _);rw[List.drop_zero] at this;rw[Bool.eq_iff_iff,decide_eq_true_iff];exact this
end Cl
namespace Cl
theorem OW (u:Int):u.tdiv 10000=if u % 10000=0∨0≤u then u / 10000 else u / 10000+1:=by
 rw[Int.tdiv_eq_ediv];have:((10000:Int) ∣ u)↔u % 10000=0:=Int.dvd_iff_emod_eq_zero;simp only[this,Int.sign]
 split <;> split <;> omega
theorem OX (k:Int):k.tdiv 9999=if k % 9999=0∨0≤k then k / 9999 else k / 9999+1:=by
 rw[Int.tdiv_eq_ediv];have:((9999:Int) ∣ k)↔k % 9999=0:=Int.dvd_iff_emod_eq_zero;simp only[this,Int.sign]
 split <;> split <;> omega
theorem OV (k:Int):k.tmod 9999=if k % 9999=0∨0≤k then k % 9999 else k % 9999 - 9999:=by
 rw[Int.tmod_eq_emod];have:((9999:Int) ∣ k)↔k % 9999=0:=Int.dvd_iff_emod_eq_zero;simp only[this]
 split <;> split <;> omega
end Cl
namespace Cl
open Go Go.RowKit
theorem Gb {m:Mem} {v:Value} {l:List Spn} (h:dx m v l):∀p∈l,spOk p:=by
 obtain⟨a,c,rfl,h1,h2,h3⟩:=h;intro p hp;obtain⟨i,hi,rfl⟩:=List.getElem_of_mem hp;obtain⟨b,off,-,h4⟩:=h3 (fun e=>by rw[e] at hi;simp at hi);exact (h4 i hi).2.2
end Cl
namespace Cl
open Go Go.RowKit Go.Proofs Go.WideShapes Go.ChangeShapes Go.Deep Go.Joins
section
variable {H:Type} {enc:TypeId × Value→H} {w:World} {spare:Nat→Bool} {held:Bool} {B:DataW H→Nat}
theorem D5 (hB:mM B) {r:Reach} {b0:Nat} {v:Value} {d:DataW H} {p:List MemPlace} (hv:Value.okWide Tryz.prog w r b0 35 v) (h:DataW.Trod enc Tryz.prog w 0 spare held 35 v d p) :
 ∃n s1 s2 x,v=bz x s1 s2∧VAt (Mem.of w) n s1 x.1∧VAt (Mem.of w) n s2 x.2∧cntD n x≤B d:=by
 obtain⟨cs,rfl,hsz⟩:=okWide_struct Tryz.underlying35 hv;obtain⟨fuel,hf⟩:=h;obtain⟨x,s1,s2,e,h1,h2,hb⟩:=DZ hB (pu hB fuel) (Nat.le_succ fuel) hf;refine ⟨_,s1,s2,x,?_,h1,h2,hb⟩;have:cs=(nine x.1 s1 ++ nine x.2 s2).toArray:=by
  have e':cs.toList=nine x.1 s1 ++ nine x.2 s2:=e;obtain⟨l⟩:=cs;exact congrArg Array.mk e'
 rw[this];rfl
end
end Cl
namespace Cl
def Ik (c:St) (W:List Table):Prop:=W.length=c.1.length∧∀i (h1:i<W.length) (h2:i<c.1.length),nA (fun w=>(c.1[i]).1.1.data.toList==w) W[i]∧W[i]≠[]
theorem xh {α β:Type} {p:α→Bool} {q:β→Bool}:∀{l:List α} {m:List β},l.length=m.length→(∀i (h1:i<l.length) (h2:i<m.length),p l[i]=q m[i])→l.countP p=m.countP q
 | [],[],_,_=>rfl
 | [],_::_,h,_=>by simp at h
 | _::_,[],h,_=>by simp at h
 | x::l,y::m,h,k=>by
  have h0:=k 0 zS zS;simp only[List.getElem_cons_zero] at h0;simp only[List.countP_cons,h0,xh (l:=l) (m:=m) (by simpa using h) fun i h1 h2=>k (i+1) (by simpa using h1) (by simpa using h2)]
theorem IL {c:St} {W:List Table} (h:∀k∈c.2,Canon k.1∧k.1≠[]) (hW:Ik c W):qO ((c.2.map (·.1) ++ W).map tabC)↔qO (stC1 c):=by
 rw[sZ h];have:∀w,((c.2.map (·.1) ++ W).map tabC).countP (fun x=>x.lang w)=hitN c w:=fun w=>by
  rw[List.map_append,List.countP_append,List.countP_map,List.countP_map,List.countP_map,hitN]
  congr 1
  ·exact kC fun k hk=>sV (h k hk).1 w
  ·refine xh hW.1 fun i h1 h2=>?_;have hl:=(hW.2 i h1 h2).1;show (tabC W[i]).lang w=_;rw[sV hl.canon,hl.sem]
 simp only[qO,this]
end Cl
namespace Cl
def cutS (b:Nat) (o:Nat) (e:Ed):Nat:=
 let o1:=if b<e.lo then min o e.lo else o
 if b≤e.hi then min o1 (e.hi+1) else o1
def cutE (b:Nat) (es:List Ed) (o:Nat):Nat:=es.foldl (cutS b) o
theorem Ml (b o:Nat):cutE b [] o=o:=rfl
theorem Kv (b o:Nat) {es:List Ed} {j:Nat} (h:j<es.length):cutE b (es.take (j+1)) o=cutS b (cutE b (es.take j) o) es[j]:=by
 unfold cutE;rw[List.take_succ_eq_append_getElem h,List.foldl_append]
 rfl
theorem NM (b o:Nat) (e:Ed):cutS b o e≤o:=by
 unfold cutS;simp only
 split <;> split <;> omega
theorem NN {b o:Nat} (e:Ed) (h:b<o):b<cutS b o e:=by
 unfold cutS;simp only
 split <;> split <;> omega
theorem uR (b:Nat):∀(es:List Ed) (o:Nat),cutE b es o≤o
 | [],_=>Nat.le_refl _
 | e::es,o=>Nat.le_trans (uR b es (cutS b o e)) (NM b o e)
theorem Dv {b:Nat}:∀(es:List Ed) (o:Nat),b<o→b<cutE b es o
 | [],_,h=>h
 | e::es,o,h=>Dv es (cutS b o e) (NN e h)
theorem xg {b:Nat}:∀(es:List Ed) (o c:Nat),b≤c→c<cutE b es o→aS es c=aS es b
 | [],_,_,_,_=>rfl
 | e::es,o,c,h1,h2=>by
  have ih:=xg es (cutS b o e) c h1 h2;have hlt:c<cutS b o e:=Nat.lt_of_lt_of_le h2 (uR b es _);simp only[aS];rw[ih];unfold cutS at hlt;simp only at hlt;by_cases h3:b<e.lo
  ·rw[if_pos h3] at hlt;have h4:¬ (e.lo≤b∧b≤e.hi):=zo;have h5:¬ (e.lo≤c∧c≤e.hi):=by split at hlt <;> omega
   rw[if_neg h4,if_neg h5]
  ·rw[if_neg h3] at hlt;by_cases h4:b≤e.hi
   ·rw[if_pos h4] at hlt;rw[if_pos ⟨zo,zo⟩,if_pos ⟨zo,h4⟩]
   ·rw[if_neg zo,if_neg zo]
def oo (Ls:List Table) (ps:List Int) (b:Nat):Nat→Nat
 | 0=>256
 | k+1=>cutE b (lI (Ls.getD k []) (ps.getD k (-1))) (oo Ls ps b k)
theorem yA {Ls:List Table} {ps:List Int} {b:Nat} (h:b<256):∀k,b<oo Ls ps b k
 | 0=>h
 | k+1=>Dv _ _ (yA h k)
theorem yz (Ls:List Table) (ps:List Int) (b:Nat):∀k,oo Ls ps b k≤256
 | 0=>Nat.le_refl _
 | k+1=>Nat.le_trans (uR _ _ _) (yz Ls ps b k)
end Cl
namespace Cl
theorem K8 {t:Table} {k:Nat} (hk:t.length≤k+1) (h:∀i (hi:i<t.length),(t[i]).edges=[]∨∃e,(t[i]).edges=[e]∧e.to=((i+1:Nat):Int)∧i+1<t.length):Lane k (tabC t) where
 neg b:=show aW t (-1) b = -1 from gP zo b
 step i b _:=by
  show aW t i b = -1∨(aW t i b=_∧_);by_cases hi:i<t.length
  ·rw[bV t i b hi];rcases h i hi with e | ⟨e,h1,h2,h3⟩
   ·rw[e];exact .inl rfl
   ·rw[h1,aS]
    split
    ·exact .inr ⟨h2,zo⟩
    ·exact .inl rfl
  ·exact .inl (dB t i b zo)
end Cl
namespace Cl
open Go Go.RowKit Go.Proofs
theorem z8 (u:Int) (w:World) (h1 : -1000000000000002≤u) (h2:u≤1000000000000002) :
 Calls Tryz.prog 220 #[.int .i64 u] w fun e w'=>e=.returned (.int .i64 (u / 10000))∧Below w.heap.size w w':=by
 refine ay fun R hR=>?_;have e1:=zh (OW u);have e2:=zh (Od u)
 go_enter Tryz.func220,Tryz.ntmps220
 go_wp2
 all_goals refine hR.out _ _ ⟨fF ?_,Below.refl _ _⟩
 all_goals simp only[e1.out,e2.out] at *
 all_goals (repeat' split) <;> first | omega | (unfold wrap64;omega)
theorem q9 (u:Int) (w:World) :
 Calls Tryz.prog 187 #[.int .i64 u] w fun e w'=>e=.returned (.bool (decide (u % 10000=0)))∧Below w.heap.size w w':=by
 have H:=zh (lZ u);refine ay fun R hR=>?_
 go_enter Tryz.func187,Tryz.ntmps187
 go_wp2
 all_goals refine hR.out _ _ ⟨aJ ?_,Below.refl _ _⟩
 all_goals first
  | (rw[Bool.eq_iff_iff,beq_iff_eq,decide_eq_true_iff];exact H.out)
  | (trace_state;done )
theorem MM {m:Mem} {v:Value} {l:List Spn} (h:dx m v l):SpV l m v:=by
 obtain⟨a,c,rfl⟩:=bW h;exact⟨a,c,rfl,h⟩
theorem Lu {R:Mem→Value→Prop} (hle:∀{m m':Mem},m.le m'→∀{v:Value},R m v→R m' v) {m:Mem} {w w':World} {win:Win} {i:Nat} {ds:List Nat} (hm:m.inn w) (hd:∀d∈ds,d≠i) (hs:∀d∈ds,(win d).2≤w.heap.size)
 (hb:Below w.heap.size w w') {r:Value} (h:R ((m.wins w win ds).grow w w') r):R (m.wins w' (win.put i (w.heap.size,w'.heap.size)) (i::ds)) r:=hle (Mem.AV hm win hd hs hb) h
end Cl
namespace Cl
theorem JS (out:List Spn) (j:Nat) (h:j<out.length) (s:Spn) (d:Bool) :
 insS s d (out.drop j)=if out[j].2+1<s.1 then out[j]::insS s d (out.drop (j+1)) else if s.2+1<out[j].1 then (if d then [] else [s]) ++ out[j]::insS s true (out.drop (j+1)) else insS (min s.1 out[j].1,max s.2 out[j].2) d (out.drop (j+1)):=by
 rw[List.drop_eq_getElem_cons h,insS]
theorem Ag (l:List Spn) (k:Nat) (h:k<l.length):eB (l.take (k+1))=if l[k].2<l[k].1 then eB (l.take k) else insS l[k] false (eB (l.take k)):=by
 rw[List.take_succ_eq_append_getElem h];unfold eB;rw[List.foldl_append]
 rfl
theorem CW (l:List Spn) (x:Int):mems (l.filter fun s=>decide (s.1≤s.2)) x↔mems l x:=by
 constructor
 ·rintro ⟨s,hs,h1,h2⟩;exact⟨s,(List.mem_filter.1 hs).1,h1,h2⟩
 ·rintro ⟨s,hs,h1,h2⟩;exact⟨s,List.mem_filter.2 ⟨hs,by simp;omega⟩,h1,h2⟩
theorem Ah (l:List Spn):eB (l.map jA)=pG l:=
 iY (dm _).1 (dm _).1 fun x=>by
  rw[(dm _).2];unfold pG;rw[(dm _).2];exact (CW _ x).symm
theorem GN {t:Spn} (h:min t.2 maxU<max t.1 (-maxU)):¬ (fO t).1≤(fO t).2:=by
 have e1:(fO t).1=if (max t.1 (-maxU)) % 10000=0 then max t.1 (-maxU)+1 else max t.1 (-maxU):=rfl;have e2:(fO t).2=if (min t.2 maxU) % 10000=0 then min t.2 maxU - 1 else min t.2 maxU:=rfl;have b1:(fO t).1=max t.1 (-maxU)+1∨(fO t).1=max t.1 (-maxU):=by rw[e1];split <;> simp
 have b2:(fO t).2=min t.2 maxU - 1∨(fO t).2=min t.2 maxU:=by rw[e2];split <;> simp
 omega
theorem tQ {l:List Spn}:∀s∈(iq l).map jr,rA - 1≤s.1∧s.2≤AB+1:=fun s hs=>by
 obtain⟨t,ht,rfl⟩:=List.mem_map.1 hs;have h1:=wU t ht;have e1:(jr t).1=ek t.1:=rfl;have e2:(jr t).2=ek t.2:=rfl;have f:=mh t ht;rw[e1,e2];unfold ek;simp only[maxU,rA,AB] at *
 omega
end Cl
namespace Cl
theorem mY {l:List Spn} {lo hi:Int} (h:∀s∈l,s.1≤s.2→lo≤s.1∧s.2≤hi):∀s∈eB l,lo≤s.1∧s.2≤hi:=
 qE (dm l).1 fun x hx=>by
  obtain⟨t,ht,h1,h2⟩:=((dm l).2 x).1 hx;have:=h t ht zo;omega
theorem Ai {l:List Spn} {lo hi:Int} (h:∀s∈l,s.1≤s.2→lo≤s.1∧s.2≤hi):∀s∈eB l,lo≤s.1∧s.2≤hi∧s.1≤s.2:=
 fun s hs=>⟨(mY h s hs).1,(mY h s hs).2,(dm l).1.ok s hs⟩
theorem LK (s:Spn) (d:Bool) (out:List Spn):insS s d (out.drop out.length)=if d then [] else [s]:=by
 rw[List.drop_length];rfl
end Cl
namespace Cl
open Go Go.RowKit Go.Proofs
theorem fJ (u:Int) (w:World) (h1 : -1000000000000002≤u) (h2:u≤1000000000000002) :
 Calls Tryz.prog 188 #[.int .i64 u] w fun e w'=>e=.returned (.int .i64 (ek u))∧Below w.heap.size w w':=by
 have HF:=zh (fun w'=>z8 u w' h1 h2);refine ay fun R hR=>?_
 go_enter Tryz.func188,Tryz.ntmps188
 go_wp2_with fail
 refine (HF.out _).mono ?_;rintro e w1 ⟨rfl,hb⟩;go_wp2;refine hR.out _ _ ⟨fF ?_,hb⟩;unfold ek;omega
theorem oW (k:Int) (w:World) (h1 : -1000000000000002≤k) (h2:k≤1000000000000002) :
 Calls Tryz.prog 185 #[.int .i64 k] w fun e w'=>e=.returned (.int .i64 (bK k))∧Below w.heap.size w w':=by
 refine ay fun R hR=>?_;have e1:=zh (OX k);have e2:=zh (OV k)
 go_enter Tryz.func185,Tryz.ntmps185
 go_wp2
 all_goals refine hR.out _ _ ⟨fF ?_,Below.refl _ _⟩
 all_goals simp only[e1.out,e2.out] at *
 all_goals unfold bK
 all_goals (repeat' split) <;> first | omega | (unfold wrap64;omega)
theorem oZ (va:Value) (l:List Spn) (m:Mem) (w:World) (hm:m.inn w) (hl:dx m va l) (hin:∀s∈l,mR s) (hlen:l.length≤1000000) :
 Calls Tryz.prog 186 #[va] w fun e w'=>∃r,e=.returned r∧Below w.heap.size w w'∧dx (m.grow w w') r (eB l):=by
 have HOK:=zh (fun k=>Ai (mR.take hin k));have HLN:=zh (fun k=>nU (l.take k));have HIN:=zh hin;clear hin;obtain⟨aa,ac,rfl,a1,a2,a3⟩:=hl;unfold maxLen at a2;have HO:=zh (Own.start hm);refine ay fun R hR=>?_
 go_enter Tryz.func186,Tryz.ntmps186
 go_wp2;refine au [3,10,11,12] (fun n vs wr=>∃(k:Nat) (vo:Value) (mk1:Mem),k≤l.length∧n=l.length - k∧vs=[vo,.slice aa l.length ac,.int .i64 l.length,.int .i64 k] ∧
  dx mk1 vo (eB (l.take k))∧m.le mk1∧Own w m wr mk1 []) ?_ ?_
 ·exact⟨_,0,.slice none 0 0,m,Nat.zero_le _,rfl,rfl,iX m,Mem.le_refl m,HO.out⟩
 clear HO hm;rintro X z n vs wr hX - ⟨k,vo,mk1,hk,rfl,rfl,hvo,hle,hO⟩;simp[litL,lk];by_cases hlt:k<l.length
 ·obtain⟨b,off,rfl,h4⟩:=a3 (by intro h;simp[h] at hlt);have hgk:=h4 k hlt;have r1:=Mem.aj hO.inn (Mem.aA hle hgk.1);have r2:=Mem.aj hO.inn (Mem.aA hle hgk.2.1);have rl:=Mem.av hO.inn (Mem.aA hle hgk.1);have hsp:=HIN.out l[k] (List.getElem_mem hlt);have hst:=Ag l k hlt;have hol:=HLN.out k;rw[List.length_take] at hol;have hoe:=HOK.out k;have hoe2:=HOK.out (k+1);generalize hE:eB (l.take (k+1))=OUT2 at *
  generalize eB (l.take k)=OUT at *
  clear h4 hgk;generalize l[k]=q at *
  obtain⟨qa,qb⟩:=q;unfold mR at hsp;simp only at r1 r2 hsp hst;obtain⟨oa,oc,rfl,o1,o2,o3⟩:=hvo;unfold maxLen at o2;have hO1:=hO.al #[.int .i64 qa,.int .i64 qb] 139;by_cases hxy:qb<qa
  ·have hdec:decide (qb<qa)=true:=decide_eq_true hxy;rw[if_pos hxy] at hst;have HV:=zh (zi (show dx mk1 (.slice oa OUT.length oc) OUT2 from by rw[hst];exact⟨oa,oc,rfl,o1,by unfold maxLen;omega,o3⟩) hO1.tail);clear hxy hO hO1 o3;go_wp2;exact hX.out _ _ _ zo rfl ⟨k+1,_,mk1,zo,rfl,rfl,by rw[hE];exact HV.out.1,hle,HV.out.2⟩
  ·have hdec:decide (qb<qa)=false:=decide_eq_false hxy;rw[if_neg hxy] at hst;have hb:=hsp zo;have hil:=su OUT (qa,qb) false;rw[← hst] at hil;have HO1:=zh ((hO1.dI 139 2).swap);have HST:=zh hst;clear hO hO1 hst;go_wp2;generalize hS:wr.heap.size=S at *
   refine au [5,6,7,10,11,12,21,22,23] (fun n vs wr=>∃(j:Nat) (sa sb:Int) (d:Bool) (nx:List Spn) (vn:Value),j≤OUT.length∧n=OUT.length - j∧vs=[.pointer (some ⟨S,0,none⟩),vn,.bool d,.slice (some ⟨b,off,none⟩) l.length ac,.int .i64 l.length,.int .i64 k,.slice oa OUT.length oc,.int .i64 OUT.length,.int .i64 j] ∧
    nx ++ insS (sa,sb) d (OUT.drop j)=OUT2 ∧ -1000000000000002≤sa∧sa≤sb∧sb≤1000000000000002∧Own w m wr mk1 [.obj S 139 #[.int .i64 sa,.int .i64 sb],.row vn 139 2 nx.length (bC nx)]) ?_ ?_
   ·exact⟨_,0,qa,qb,false,[],.slice none 0 0,Nat.zero_le _,rfl,rfl,HST.out.symm,hb.1,zo,hb.2,HO1.out⟩
   clear HO1 HST hS hsp hb r1 r2 rl hdec hxy;rintro Y z2 n vs w6 hY - ⟨j,sa,sb,d,nx,vn,hj,rfl,rfl,hg,b1,b2,b3,hO⟩;simp[litL,lk];have hnl:nx.length≤OUT2.length:=by rw[← hg,List.length_append];omega
   obtain⟨voa,voc,rfl⟩:=aQ hO.swap.row;by_cases hlj:j<OUT.length
   ·obtain⟨b',off',rfl,h4⟩:=o3 (by intro h;simp[h] at hlj);have hgj:=h4 j hlj;have r1:=Mem.aj hO.inn hgj.1;have r2:=Mem.aj hO.inn hgj.2.1;have rl:=Mem.av hO.inn hgj.1;have hx:=hoe OUT[j] (List.getElem_mem hlj);rw[JS OUT j hlj] at hg;have HG:=zh hg;clear h4 hgj hg;generalize OUT[j]=x at *
    obtain⟨xa,xb⟩:=x;simp only at r1 r2 hx;have hO1:=hO.al #[.int .i64 xa,.int .i64 xb] 139;by_cases hA:xb+1<sa
    ·have hdA:decide (xb+1<sa)=true:=decide_eq_true hA;have hO2:=(hO1.al #[.int .i64 xa,.int .i64 xb] 139).fourth
     try simp only[bB] at hO2
     have hnews:=hO2.swap.obj.news rfl;have q1:=hO1.swap.obj.cell (i:=0) rfl;have q3:=hO1.swap.obj.lt;have Hxy:=zh hA;clear hA hO hO1
     go_wp2_with (at_builtin;refine aC fC rfl (.tmp 33) (.tmp 35) rfl (.slice voa nx.length voc) nx.length _ rfl hO2.row ⟨_,0,none⟩ 1 1 [.int .i64 xa,.int .i64 xb] rfl rfl hnews (by simp[Value.oneCell']) (by unfold maxLen;omega) zo ?_)
     intro va vc w7 hown7 hgrow7 hrow7;have HO3:=zh (hO2.app hown7 hgrow7 hrow7 zS).fourth.jO.jO;clear hO2 hown7 hgrow7 hrow7 hnews q1 q3;go_wp2;refine hY.out _ _ _ zo rfl ⟨j+1,sa,sb,d,nx ++ [(xa,xb)],_,zo,rfl,rfl,?_,b1,b2,b3,?_⟩
     ·rw[← HG.out,if_pos (show xb+1<sa from Hxy.out),List.append_assoc];rfl
     ·rw[aU,List.length_append];exact HO3.out
    ·have hdA:decide (xb+1<sa)=false:=decide_eq_false hA;by_cases hB:sb+1<xa
     ·have hdB:decide (sb+1<xa)=true:=decide_eq_true hB;have Hxy:=zh (zi hA hB);clear hA hB
      cases d with
      | true=>
       have hO2:=(hO1.al #[.int .i64 xa,.int .i64 xb] 139).fourth
       try simp only[bB] at hO2
       have hnews:=hO2.swap.obj.news rfl;have q1:=hO1.swap.obj.cell (i:=0) rfl;have q2:=hO1.swap.obj.cell (i:=1) rfl;have q3:=hO1.swap.obj.lt;clear hO hO1
       go_wp2_with (at_builtin;refine aC fC rfl (.tmp 49) (.tmp 51) rfl (.slice voa nx.length voc) nx.length _ rfl hO2.row ⟨_,0,none⟩ 1 1 [.int .i64 xa,.int .i64 xb] rfl rfl hnews (by simp[Value.oneCell']) (by unfold maxLen;omega) zo ?_)
       intro va vc w7 hown7 hgrow7 hrow7;have HO3:=zh (hO2.app hown7 hgrow7 hrow7 zS).fourth.jO.jO;clear hO2 hown7 hgrow7 hrow7 hnews q1 q2 q3;go_wp2;refine hY.out _ _ _ zo rfl ⟨j+1,sa,sb,true,nx ++ [(xa,xb)],_,zo,rfl,rfl,?_,b1,b2,b3,?_⟩
       ·rw[← HG.out,if_neg (show ¬ xb+1<sa by have:=Hxy.out.1;omega),if_pos (show sb+1<xa from Hxy.out.2),List.append_assoc];rfl
       ·rw[aU,List.length_append]
        exact HO3.out
      | false=>
       have hO2:=(hO1.al #[.int .i64 sa,.int .i64 sb] 139).fourth
       try simp only[bB] at hO2
       have hnews:=hO2.swap.obj.news rfl;have q1:=hO1.swap.obj.cell (i:=0) rfl;have q2:=hO1.swap.obj.cell (i:=1) rfl;have q3:=hO1.swap.obj.lt;clear hO hO1
       go_wp2_with (at_builtin;refine aC fC rfl (.tmp 45) (.tmp 47) rfl (.slice voa nx.length voc) nx.length _ rfl hO2.row ⟨_,0,none⟩ 1 1 [.int .i64 sa,.int .i64 sb] rfl rfl hnews (by simp[Value.oneCell']) (by unfold maxLen;omega) zo ?_)
       intro va vc w7 hown7 hgrow7 hrow7;have hO3:=(hO2.app hown7 hgrow7 hrow7 zS).drop2;clear hO2 hown7 hgrow7 hrow7 hnews q1 q2 q3;have q4:=hO3.swap.obj.cell (i:=0) rfl;have q5:=hO3.swap.obj.cell (i:=1) rfl;have q6:=hO3.swap.obj.lt;have hO4:=(hO3.al #[.int .i64 xa,.int .i64 xb] 139).swap
       try simp only[bB] at hO4
       have hnews:=hO4.swap.obj.news rfl;clear hO3
       go_wp2_with (at_builtin;refine aC fC rfl (.tmp 49) (.tmp 51) rfl (.slice va (nx.length+1) vc) (nx.length+1) _ rfl hO4.row ⟨_,0,none⟩ 1 1 [.int .i64 xa,.int .i64 xb] rfl rfl hnews (by simp[Value.oneCell']) (by unfold maxLen;omega) zo ?_)
       intro va2 vc2 w8 hown8 hgrow8 hrow8;have HO3:=zh (hO4.app hown8 hgrow8 hrow8 zS).fourth.jO.jO;clear hO4 hown8 hgrow8 hrow8 hnews q4 q5 q6;go_wp2;refine hY.out _ _ _ zo rfl ⟨j+1,sa,sb,true,nx ++ [(sa,sb)] ++ [(xa,xb)],_,zo,rfl,rfl,?_,b1,b2,b3,?_⟩
       ·rw[← HG.out,if_neg (show ¬ xb+1<sa by have:=Hxy.out.1;omega),if_pos (show sb+1<xa from Hxy.out.2)];simp
       ·rw[aU,aU,List.length_append,List.length_append,List.append_assoc];exact HO3.out
     ·have hdB:decide (sb+1<xa)=false:=decide_eq_false hB;have q1:=hO1.swap.obj.cell (i:=0) rfl;have q2:=hO1.swap.obj.cell (i:=1) rfl;have q3:=hO1.swap.obj.lt;have q4:=hO1.swap.obj.frozen 0;have q5:=hO1.swap.obj.frozen 1;have hne:S≠w6.heap.size:=by have:=hO.obj.lt;omega
      have hne2:w6.heap.size≠S:=fun e=>hne e.symm;have HO1:=zh hO1.tail;have HN:=zh (zi hA hB);clear hO hO1;go_wp2
      all_goals refine hY.out _ _ _ zo rfl ⟨j+1,_,_,d,nx,_,zo,rfl,rfl,?_,?_,?_,?_,(HO1.out.set 0 (.int .i64 _)).set 1 (.int .i64 _)⟩
      all_goals try omega
      all_goals refine Eq.trans (congrArg (fun p=>nx ++ insS p d (OUT.drop (j+1))) (Prod.ext ?_ ?_)) ((congrArg (fun p=>nx ++ p) ((if_neg (show ¬ xb+1<sa by have:=HN.out.1;omega)).trans (if_neg (show ¬ sb+1<xa by have:=HN.out.2;omega)))).symm.trans HG.out)
      all_goals (simp only <;> omega)
   ·obtain rfl:j=OUT.length:=zo;rw[LK] at hg
    cases d with
    | true=>
     simp only[if_true,List.append_nil] at hg;subst hg;have hst:=dQ (m:=mk1) (l:=nx) hO.swap.row (fun s hs=>by have:=hoe2 s hs;unfold spOk;omega);have hle0:=Mem.dh (w:=w6) hO.swap.free;have HV:=zh (zi hst (zi (Mem.le_trans hle hle0) hO.swap.bg.tail));clear hO hst hle0;go_wp2
     exact hX.out _ _ _ zo rfl ⟨k+1,_,_,zo,rfl,rfl,by rw[hE];exact HV.out.1,HV.out.2.1,HV.out.2.2⟩
    | false=>
     simp only[Bool.false_eq_true,if_false] at hg;have hO2:=(hO.al #[.int .i64 sa,.int .i64 sb] 139).third
     try simp only[bB] at hO2
     have hnews:=hO2.swap.obj.news rfl;have q1:=hO.obj.cell (i:=0) rfl;have q2:=hO.obj.cell (i:=1) rfl;have q3:=hO.obj.lt;clear hO
     go_wp2_with (at_builtin;refine aC fC rfl (.tmp 68) (.tmp 70) rfl (.slice voa nx.length voc) nx.length _ rfl hO2.row ⟨_,0,none⟩ 1 1 [.int .i64 sa,.int .i64 sb] rfl rfl hnews (by simp[Value.oneCell']) (by unfold maxLen;omega) zo ?_)
     intro va vc w7 hown7 hgrow7 hrow7;have hO3:=(hO2.app hown7 hgrow7 hrow7 zS).drop2.drop2;have e:nx.length+1=OUT2.length:=by rw[← hg,List.length_append];rfl
     have hO4:Own w m w7 mk1 [.row (.slice va (nx.length+1) vc) 139 2 OUT2.length (bC OUT2)]:=by
      rw[← hg,aU,List.length_append];exact hO3
     rw[e] at hO4 ⊢;have hst:=dQ (m:=mk1) (l:=OUT2) hO4.row (fun s hs=>by have:=hoe2 s hs;unfold spOk;omega);have hle0:=Mem.dh (w:=w7) hO4.free;have HV:=zh (zi hst (zi (Mem.le_trans hle hle0) hO4.bg));clear hO3 hO2 hown7 hgrow7 hrow7 hnews hO4 hst hle0 q1 q2 q3;go_wp2;exact hX.out _ _ _ zo rfl ⟨k+1,_,_,zo,rfl,rfl,by rw[hE];exact HV.out.1,HV.out.2.1,HV.out.2.2⟩
 ·obtain rfl:k=l.length:=zo;rw[List.take_length] at hvo;have Hfin:=zh (zi hO.below (bX hO.done hvo));clear hO hvo;go_wp2;exact hR.out _ _ ⟨_,rfl,Hfin.out.1,Hfin.out.2⟩
def uT (l:List Spn) (k:Nat):List Spn:=(l.take k).map jA
theorem Kz (l:List Spn) (k:Nat) (h:k≤l.length):(uT l k).length=k:=by simp[uT];omega
theorem H9 (l:List Spn) (k:Nat) (h:k<l.length):uT l (k+1)=uT l k ++ [jA l[k]]:=by
 unfold uT;rw[List.take_succ_eq_append_getElem h,List.map_append];rfl
theorem KA (l:List Spn):uT l l.length=l.map jA:=by unfold uT;rw[List.take_length]
theorem Ia (l:List Spn):∀s∈l.map jA,mR s:=fun s hs=>by
 obtain⟨t,-,rfl⟩:=List.mem_map.1 hs;unfold mR jA iF;dsimp only;omega
theorem Mm {l:List Spn} (h:∀s∈l,spOk s):∀s∈l.map jA,spOk s:=fun s hs=>by
 obtain⟨t,ht,rfl⟩:=List.mem_map.1 hs;have:=h t ht;unfold spOk jA iF at *;dsimp only;omega
theorem Cw (vi vf:Value) (I F:List Spn) (m:Mem) (w:World) (hm:m.inn w) (hN:eF m vi vf I F) (hI:I.length≤100000) :
 Calls Tryz.prog 143 #[.agg #[vi,vf]] w fun e w'=>∃r,e=.returned r∧Below w.heap.size w w'∧dx (m.grow w w') r (pG I):=by
 have hO:=((Own.start hm).al #[vi,vf] 24).dI 139 2;obtain⟨hi,hf⟩:=hN;obtain⟨af,cf,rfl⟩:=bW hf;have HOK:=zh (Mm (Gb hi));obtain⟨ai,ci,rfl,i1,i2,i3⟩:=hi;unfold maxLen at i2;have HO:=zh hO;clear hO hf;refine ay fun R hR=>?_
 go_enter Tryz.func143,Tryz.ntmps143
 go_wp2;refine au [3,7,8,9] (fun n vs wr=>∃(k:Nat) (vo:Value),k≤I.length∧n=I.length - k∧vs=[vo,.slice ai I.length ci,.int .i64 I.length,.int .i64 k] ∧
  Own w m wr m [.row vo 139 2 (uT I k).length (bC (uT I k))]) ?_ ?_
 ·exact⟨_,0,.slice none 0 0,Nat.zero_le _,rfl,rfl,HO.out.drop2⟩
 clear HO;rintro X z n vs wr hX - ⟨k,vo,hk,rfl,rfl,hO⟩;simp[litL,lk];obtain⟨voa,voc,rfl⟩:=aQ hO.row;have hkl:(uT I k).length≤100000:=by rw[Kz I k hk];omega
 by_cases hlt:k<I.length
 ·obtain⟨b,off,rfl,h4⟩:=i3 (by intro h;simp[h] at hlt);have hg:=h4 k hlt;have r1:=Mem.aj hO.inn hg.1;have r2:=Mem.aj hO.inn hg.2.1;have rl:=Mem.av hO.inn hg.1;have hso:spOk I[k]:=hg.2.2;have Hstep:=zh (H9 I k hlt);generalize uT I k=S0 at *
  clear h4 hg;generalize I[k]=q at *
  obtain⟨qa,qb⟩:=q;unfold spOk at hso;simp only at r1 r2 hso;have hO1:=hO.al #[.int .i64 qa,.int .i64 qb] 139;have q1:=hO1.obj.cell (i:=0) rfl;have q2:=hO1.obj.cell (i:=1) rfl;have q3:=hO1.obj.lt;have HO1:=zh hO1;clear hO hO1;have hO2:=(HO1.out.al #[.int .i64 (max qa (-100000000000)),.int .i64 (min qb 100000000000)] 139).third;simp only[bB] at hO2;have hnews:=hO2.swap.obj.news rfl
  go_wp2_with (at_builtin;refine aC fC rfl (.tmp 13) (.tmp 21) rfl (.slice voa S0.length voc) S0.length _ rfl hO2.row ⟨_,0,none⟩ 1 1 [.int .i64 (max qa (-100000000000)),.int .i64 (min qb 100000000000)] rfl rfl hnews (by simp[Value.oneCell']) (by unfold maxLen;omega) zo ?_)
  intro va vc w7 hown7 hgrow7 hrow7;have HO3:=zh (hO2.app hown7 hgrow7 hrow7 zS).drop2.drop2;clear hown7 hgrow7 hrow7 HO1 q1 q2 q3 hO2 hnews;go_wp2;refine hX.out _ _ _ zo rfl ⟨k+1,_,zo,rfl,rfl,?_⟩;rw[Hstep.out,aU,List.length_append];exact HO3.out
 ·obtain rfl:k=I.length:=zo;have HE:=zh (zi (Ia I) (Ah I));rw[KA] at hO hkl ⊢;generalize I.map jA=L at *
  have hst:=dQ (m:=m) hO.row HOK.out;have hO1:=hO.bg;have HN:=zh (oZ _ L _ wr hO1.inn hst HE.out.1 zo);have HO1:=zh hO1;clear hst hO1 hO HOK
  go_wp2_with fail
  refine HN.out.mono ?_;rintro e w2 ⟨r,rfl,hb,hr⟩;rw[HE.out.2] at hr;have hO2:=HO1.out.call hb;have Hfin:=zh (zi hO2.below (bX hO2.done hr));obtain⟨ra,rc,rfl⟩:=bW hr;clear HN HO1 HE hb hr hO2;go_wp2;exact hR.out _ _ ⟨_,rfl,Hfin.out.1,Hfin.out.2⟩
def tO (l:List Spn) (k:Nat):List Spn:=(iq (l.take k)).map jr
theorem Jk (l:List Spn) (k:Nat) (h:k≤l.length):(tO l k).length≤k:=by unfold tO;rw[List.length_map];exact zC h
theorem FZ (l:List Spn) (k:Nat) (h:k<l.length):tO l (k+1)=tO l k ++ if (fO l[k]).1≤(fO l[k]).2 then [jr (fO l[k])] else []:=by
 unfold tO;rw[wT l k h,List.map_append]
 split <;> rfl
theorem Jl (l:List Spn):tO l l.length=(iq l).map jr:=by unfold tO;rw[List.take_length]
theorem F3 (l:List Spn):∀s∈(iq l).map jr,mR s:=fun s hs=>by
 have:=tQ s hs;simp only[rA,AB] at this;unfold mR;omega
theorem Lg (l:List Spn):∀s∈(iq l).map jr,spOk s:=fun s hs=>by
 have h1:=tQ s hs;have h2:=Jj s hs;simp only[rA,AB] at h1;unfold spOk;omega
theorem zZ (vi vf:Value) (I F:List Spn) (m:Mem) (w:World) (hm:m.inn w) (hN:eF m vi vf I F) (hF:F.length≤100000) :
 Calls Tryz.prog 144 #[.agg #[vi,vf]] w fun e w'=>∃r,e=.returned r∧Below w.heap.size w w'∧dx (m.grow w w') r (lG F):=by
 have hO:=((Own.start hm).al #[vi,vf] 24).dI 139 2;obtain⟨hi,hf⟩:=hN;obtain⟨ai,ci,rfl⟩:=bW hi;obtain⟨af,cf,rfl,i1,i2,i3⟩:=hf;unfold maxLen at i2;have HO:=zh hO;clear hO hi;refine ay fun R hR=>?_
 go_enter Tryz.func144,Tryz.ntmps144
 go_wp2;refine au [3,9,10,11] (fun n vs wr=>∃(k:Nat) (vo:Value),k≤F.length∧n=F.length - k∧vs=[vo,.slice af F.length cf,.int .i64 F.length,.int .i64 k] ∧
  Own w m wr m [.row vo 139 2 (tO F k).length (bC (tO F k))]) ?_ ?_
 ·exact⟨_,0,.slice none 0 0,Nat.zero_le _,rfl,rfl,HO.out.drop2⟩
 clear HO;rintro X z n vs wr hX - ⟨k,vo,hk,rfl,rfl,hO⟩;simp[litL,lk];obtain⟨voa,voc,rfl⟩:=aQ hO.row;have hkl:=Jk F k hk;by_cases hlt:k<F.length
 ·obtain⟨b,off,rfl,h4⟩:=i3 (by intro h;simp[h] at hlt);have hg:=h4 k hlt;have r1:=Mem.aj hO.inn hg.1;have r2:=Mem.aj hO.inn hg.2.1;have rl:=Mem.av hO.inn hg.1;have hso:spOk F[k]:=hg.2.2;have hstep:=FZ F k hlt;generalize hR1:tO F (k+1)=S1 at *
  generalize tO F k=S0 at *
  clear h4 hg;generalize F[k]=q at *
  obtain⟨qa,qb⟩:=q;unfold spOk at hso;simp only at r1 r2 hso;have HO2:=zh (hO.al #[.int .i64 qa,.int .i64 qb] 139);have HR1:=zh (zi hR1 hstep);clear hO hR1 hstep
  go_upto_region 5 with (fail)
  generalize hW2:wr.alloc (.cells #[.int .i64 qa,.int .i64 qb] 139)=w5 at *
  generalize wr.heap.size=S at *
  refine aN [3,6,7,9,10,11] (fun vs w'=>vs=[.slice voa S0.length voc,.int .i64 (max qa (-1000000000000000)),.int .i64 (min qb 1000000000000000),.slice (some ⟨b,off,none⟩) F.length cf,.int .i64 F.length,.int .i64 k] ∧
   Own w m w' m [.row (.slice voa S0.length voc) 139 2 S0.length (bC S0)]) ?_ ?_
  ·intro Y hY;have q1:=HO2.out.obj.cell (i:=0) rfl;have q2:=HO2.out.obj.cell (i:=1) rfl;have q5:=HO2.out.obj.lt
   go_quiet (fail)
   go_wp2;exact hY.out _ _ rfl ⟨rfl,HO2.out.tail.drN _⟩
  rintro z4 vs w6 - ⟨rfl,hO⟩;simp[litL,lk];have hcl:fO (qa,qb)=trimF (max qa (-1000000000000000),min qb 1000000000000000):=rfl;have hsk:=fun h=>GN (t:=(qa,qb)) h;have hx0:max qa (-1000000000000000)≤9223372036854775807 ∧ -1000000000000000≤max qa (-1000000000000000):=zo;have hy0:min qb 1000000000000000≤1000000000000000 ∧ -9223372036854775808≤min qb 1000000000000000:=zo;unfold maxU at hsk;simp only at hsk;generalize max qa (-1000000000000000)=x at *
  generalize min qb 1000000000000000=y at *
  clear HO2 hW2 r1 r2 hso;by_cases hxy:x≤y
  ·have hdec:decide (y<x)=false:=decide_eq_false zo;have HW1:=zh (fun w'=>q9 x w');have HW2:=zh (fun w'=>q9 y w');have HO:=zh hO;have HC:=zh hcl;clear hcl hsk hO
   go_wp2_with fail
   refine (HW1.out _).mono ?_;rintro e w7 ⟨rfl,hb7⟩;have HO7:=zh (HO.out.move hb7);clear HW1 HO hb7;by_cases ex:x % 10000=0 <;> by_cases ey:y % 10000=0
   ·have hc2:fO (qa,qb)=((x+1),(y - 1)):=by rw[HC.out];simp[trimF,ex,ey]
    have HC2:=zh hc2;have HE:=zh (zi ex ey);have hf1:((x+1):Int) % 10000≠0:=zo;have hf2:((y - 1):Int) % 10000≠0:=zo;have HFR:=zh (zi hf1 hf2);clear hc2 HC hf1 hf2;rw[decide_eq_true ex]
    go_wp2_with fail
    refine (HW2.out _).mono ?_;rintro e w8 ⟨rfl,hb8⟩;rw[decide_eq_true ey];have hO8:=HO7.out.move hb8;have HO8:=zh hO8;clear HW2 HO7 hb8 ex ey;by_cases hle:(x+1)≤(y - 1)
    ·have hdle:decide ((x+1)≤(y - 1))=true:=decide_eq_true hle;have HK1:=zh (fun w'=>fJ ((x+1)) w' zo zo);have HK2:=zh (fun w'=>fJ ((y - 1)) w' zo zo);have Hle:=zh hle;clear hle hO8
     go_wp2_with fail
     refine (HK1.out _).mono ?_;rintro e w9 ⟨rfl,hb9⟩;have HO9:=zh (HO8.out.move hb9);clear HK1 HO8 hb9
     go_wp2_with fail
     refine (HK2.out _).mono ?_;rintro e w10 ⟨rfl,hb10⟩;have hO2:=((HO9.out.move hb10).al #[.int .i64 (ek ((x+1))),.int .i64 (ek ((y - 1)))] 139).swap;have hnews:=hO2.swap.obj.news rfl;clear HK2 HO9 hb10
     go_wp2_with (at_builtin;refine aC fC rfl (.tmp 35) (.tmp 41) rfl (.slice voa S0.length voc) S0.length _ rfl hO2.row ⟨_,0,none⟩ 1 1 [.int .i64 (ek ((x+1))),.int .i64 (ek ((y - 1)))] rfl rfl hnews (by simp[Value.oneCell']) (by unfold maxLen;omega) zo ?_)
     intro va vc w11 hown7 hgrow7 hrow7;have HO3:=zh (hO2.app hown7 hgrow7 hrow7 zS).drop2;clear hown7 hgrow7 hrow7 hO2 hnews;go_wp2;refine hX.out _ _ _ zo rfl ⟨k+1,_,zo,rfl,rfl,?_⟩;rw[HR1.out.1,HR1.out.2,HC2.out,if_pos (show (x+1)≤(y - 1) from Hle.out)];have e:S0 ++ [jr ((x+1),(y - 1))]=S0 ++ [(ek ((x+1)),ek ((y - 1)))]:=rfl;rw[e,aU,List.length_append];exact HO3.out
    ·first
      | (exfalso;omega)
      | (have hdle:decide ((x+1)≤(y - 1))=false:=decide_eq_false hle
         have Hle:=zh hle;clear hle hO8;go_wp2;refine hX.out _ _ _ zo rfl ⟨k+1,_,zo,rfl,rfl,?_⟩;rw[HR1.out.1,HR1.out.2,HC2.out,if_neg (show ¬ (x+1)≤(y - 1) by have:=Hle.out;omega),List.append_nil];exact HO8.out)
   ·have hc2:fO (qa,qb)=((x+1),(y)):=by rw[HC.out];simp[trimF,ex,ey]
    have HC2:=zh hc2;have HE:=zh (zi ex ey);have hf1:((x+1):Int) % 10000≠0:=zo;have hf2:((y):Int) % 10000≠0:=zo;have HFR:=zh (zi hf1 hf2);clear hc2 HC hf1 hf2;rw[decide_eq_true ex]
    go_wp2_with fail
    refine (HW2.out _).mono ?_;rintro e w8 ⟨rfl,hb8⟩;rw[decide_eq_false ey];have hO8:=HO7.out.move hb8;have HO8:=zh hO8;clear HW2 HO7 hb8 ex ey;by_cases hle:(x+1)≤(y)
    ·have hdle:decide ((x+1)≤(y))=true:=decide_eq_true hle;have HK1:=zh (fun w'=>fJ ((x+1)) w' zo zo);have HK2:=zh (fun w'=>fJ ((y)) w' zo zo);have Hle:=zh hle;clear hle hO8
     go_wp2_with fail
     refine (HK1.out _).mono ?_;rintro e w9 ⟨rfl,hb9⟩;have HO9:=zh (HO8.out.move hb9);clear HK1 HO8 hb9
     go_wp2_with fail
     refine (HK2.out _).mono ?_;rintro e w10 ⟨rfl,hb10⟩;have hO2:=((HO9.out.move hb10).al #[.int .i64 (ek ((x+1))),.int .i64 (ek ((y)))] 139).swap;have hnews:=hO2.swap.obj.news rfl;clear HK2 HO9 hb10
     go_wp2_with (at_builtin;refine aC fC rfl (.tmp 35) (.tmp 41) rfl (.slice voa S0.length voc) S0.length _ rfl hO2.row ⟨_,0,none⟩ 1 1 [.int .i64 (ek ((x+1))),.int .i64 (ek ((y)))] rfl rfl hnews (by simp[Value.oneCell']) (by unfold maxLen;omega) zo ?_)
     intro va vc w11 hown7 hgrow7 hrow7;have HO3:=zh (hO2.app hown7 hgrow7 hrow7 zS).drop2;clear hown7 hgrow7 hrow7 hO2 hnews;go_wp2;refine hX.out _ _ _ zo rfl ⟨k+1,_,zo,rfl,rfl,?_⟩;rw[HR1.out.1,HR1.out.2,HC2.out,if_pos (show (x+1)≤(y) from Hle.out)];have e:S0 ++ [jr ((x+1),(y))]=S0 ++ [(ek ((x+1)),ek ((y)))]:=rfl;rw[e,aU,List.length_append];exact HO3.out
    ·first
      | (exfalso;omega)
      | (have hdle:decide ((x+1)≤(y))=false:=decide_eq_false hle
         have Hle:=zh hle;clear hle hO8;go_wp2;refine hX.out _ _ _ zo rfl ⟨k+1,_,zo,rfl,rfl,?_⟩;rw[HR1.out.1,HR1.out.2,HC2.out,if_neg (show ¬ (x+1)≤(y) by have:=Hle.out;omega),List.append_nil];exact HO8.out)
   ·have hc2:fO (qa,qb)=((x),(y - 1)):=by rw[HC.out];simp[trimF,ex,ey]
    have HC2:=zh hc2;have HE:=zh (zi ex ey);have hf1:((x):Int) % 10000≠0:=zo;have hf2:((y - 1):Int) % 10000≠0:=zo;have HFR:=zh (zi hf1 hf2);clear hc2 HC hf1 hf2;rw[decide_eq_false ex]
    go_wp2_with fail
    refine (HW2.out _).mono ?_;rintro e w8 ⟨rfl,hb8⟩;rw[decide_eq_true ey];have hO8:=HO7.out.move hb8;have HO8:=zh hO8;clear HW2 HO7 hb8 ex ey;by_cases hle:(x)≤(y - 1)
    ·have hdle:decide ((x)≤(y - 1))=true:=decide_eq_true hle;have HK1:=zh (fun w'=>fJ ((x)) w' zo zo);have HK2:=zh (fun w'=>fJ ((y - 1)) w' zo zo);have Hle:=zh hle;clear hle hO8
     go_wp2_with fail
     refine (HK1.out _).mono ?_;rintro e w9 ⟨rfl,hb9⟩;have HO9:=zh (HO8.out.move hb9);clear HK1 HO8 hb9
     go_wp2_with fail
     refine (HK2.out _).mono ?_;rintro e w10 ⟨rfl,hb10⟩;have hO2:=((HO9.out.move hb10).al #[.int .i64 (ek ((x))),.int .i64 (ek ((y - 1)))] 139).swap;have hnews:=hO2.swap.obj.news rfl;clear HK2 HO9 hb10
     go_wp2_with (at_builtin;refine aC fC rfl (.tmp 35) (.tmp 41) rfl (.slice voa S0.length voc) S0.length _ rfl hO2.row ⟨_,0,none⟩ 1 1 [.int .i64 (ek ((x))),.int .i64 (ek ((y - 1)))] rfl rfl hnews (by simp[Value.oneCell']) (by unfold maxLen;omega) zo ?_)
     intro va vc w11 hown7 hgrow7 hrow7;have HO3:=zh (hO2.app hown7 hgrow7 hrow7 zS).drop2;clear hown7 hgrow7 hrow7 hO2 hnews;go_wp2;refine hX.out _ _ _ zo rfl ⟨k+1,_,zo,rfl,rfl,?_⟩;rw[HR1.out.1,HR1.out.2,HC2.out,if_pos (show (x)≤(y - 1) from Hle.out)];have e:S0 ++ [jr ((x),(y - 1))]=S0 ++ [(ek ((x)),ek ((y - 1)))]:=rfl;rw[e,aU,List.length_append];exact HO3.out
    ·first
      | (exfalso;omega)
      | (have hdle:decide ((x)≤(y - 1))=false:=decide_eq_false hle
         have Hle:=zh hle;clear hle hO8;go_wp2;refine hX.out _ _ _ zo rfl ⟨k+1,_,zo,rfl,rfl,?_⟩;rw[HR1.out.1,HR1.out.2,HC2.out,if_neg (show ¬ (x)≤(y - 1) by have:=Hle.out;omega),List.append_nil];exact HO8.out)
   ·have hc2:fO (qa,qb)=((x),(y)):=by rw[HC.out];simp[trimF,ex,ey]
    have HC2:=zh hc2;have HE:=zh (zi ex ey);have hf1:((x):Int) % 10000≠0:=zo;have hf2:((y):Int) % 10000≠0:=zo;have HFR:=zh (zi hf1 hf2);clear hc2 HC hf1 hf2;rw[decide_eq_false ex]
    go_wp2_with fail
    refine (HW2.out _).mono ?_;rintro e w8 ⟨rfl,hb8⟩;rw[decide_eq_false ey];have hO8:=HO7.out.move hb8;have HO8:=zh hO8;clear HW2 HO7 hb8 ex ey;by_cases hle:(x)≤(y)
    ·have hdle:decide ((x)≤(y))=true:=decide_eq_true hle;have HK1:=zh (fun w'=>fJ ((x)) w' zo zo);have HK2:=zh (fun w'=>fJ ((y)) w' zo zo);have Hle:=zh hle;clear hle hO8
     go_wp2_with fail
     refine (HK1.out _).mono ?_;rintro e w9 ⟨rfl,hb9⟩;have HO9:=zh (HO8.out.move hb9);clear HK1 HO8 hb9
     go_wp2_with fail
     refine (HK2.out _).mono ?_;rintro e w10 ⟨rfl,hb10⟩;have hO2:=((HO9.out.move hb10).al #[.int .i64 (ek ((x))),.int .i64 (ek ((y)))] 139).swap;have hnews:=hO2.swap.obj.news rfl;clear HK2 HO9 hb10
     go_wp2_with (at_builtin;refine aC fC rfl (.tmp 35) (.tmp 41) rfl (.slice voa S0.length voc) S0.length _ rfl hO2.row ⟨_,0,none⟩ 1 1 [.int .i64 (ek ((x))),.int .i64 (ek ((y)))] rfl rfl hnews (by simp[Value.oneCell']) (by unfold maxLen;omega) zo ?_)
     intro va vc w11 hown7 hgrow7 hrow7;have HO3:=zh (hO2.app hown7 hgrow7 hrow7 zS).drop2;clear hown7 hgrow7 hrow7 hO2 hnews;go_wp2;refine hX.out _ _ _ zo rfl ⟨k+1,_,zo,rfl,rfl,?_⟩;rw[HR1.out.1,HR1.out.2,HC2.out,if_pos (show (x)≤(y) from Hle.out)];have e:S0 ++ [jr ((x),(y))]=S0 ++ [(ek ((x)),ek ((y)))]:=rfl;rw[e,aU,List.length_append];exact HO3.out
    ·first
      | (exfalso;omega)
      | (have hdle:decide ((x)≤(y))=false:=decide_eq_false hle
         have Hle:=zh hle;clear hle hO8;go_wp2;refine hX.out _ _ _ zo rfl ⟨k+1,_,zo,rfl,rfl,?_⟩;rw[HR1.out.1,HR1.out.2,HC2.out,if_neg (show ¬ (x)≤(y) by have:=Hle.out;omega),List.append_nil];exact HO8.out)
  ·have hdec:decide (y<x)=true:=decide_eq_true zo;have HS:=zh (hsk zo);have HO:=zh hO;clear hcl hsk hO;go_wp2;refine hX.out _ _ _ zo rfl ⟨k+1,_,zo,rfl,rfl,?_⟩;rw[HR1.out.1,HR1.out.2,if_neg (show ¬ (fO (qa,qb)).1≤(fO (qa,qb)).2 by have:=HS.out;omega),List.append_nil];exact HO.out
 ·obtain rfl:k=F.length:=zo;rw[Jl] at hO hkl ⊢;have HE:=zh (zi (F3 F) (show eB ((iq F).map jr)=lG F from rfl));have HOK:=zh (Lg F);generalize (iq F).map jr=L at *
  have hst:=dQ (m:=m) hO.row HOK.out;have hO1:=hO.bg;have HN:=zh (oZ _ L _ wr hO1.inn hst HE.out.1 zo);have HO1:=zh hO1;clear hst hO1 hO HOK
  go_wp2_with fail
  refine HN.out.mono ?_;rintro e w2 ⟨r,rfl,hb,hr⟩;rw[HE.out.2] at hr;have hO2:=HO1.out.call hb;have Hfin:=zh (zi hO2.below (bX hO2.done hr));obtain⟨ra,rc,rfl⟩:=bW hr;clear HN HO1 HE hb hr hO2;go_wp2;exact hR.out _ _ ⟨_,rfl,Hfin.out.1,Hfin.out.2⟩
def namK (l:List Spn) (k:Nat):List Spn:=(l.take k).map dP
theorem Jw (l:List Spn) (k:Nat) (h:k<l.length):namK l (k+1)=namK l k ++ [dP l[k]]:=by
 unfold namK;rw[List.take_succ_eq_append_getElem h,List.map_append];rfl
theorem Ll (l:List Spn):namK l l.length=l.map dP:=by unfold namK;rw[List.take_length]
theorem FB {l:List Spn} (h:∀s∈l,rkIn s):∀s∈l.map dP,spOk s:=fun s hs=>by
 obtain⟨t,ht,rfl⟩:=List.mem_map.1 hs;have:=h t ht;unfold rkIn at this;unfold spOk dP bK;dsimp only;omega
theorem Jm (vi vf:Value) (I L:List Spn) (m:Mem) (w:World) (hm:m.inn w) (hi:dx m vi I) (hf:dx m vf L) (hin:∀s∈L,rkIn s) (hlen:L.length≤1000000) :
 Calls Tryz.prog 142 #[vi,vf] w fun e w'=>∃rf,e=.returned (.agg #[vi,rf])∧Below w.heap.size w w'∧eF (m.grow w w') vi rf I (L.map dP):=by
 have HOK:=zh (zi (FB hin) hi);obtain⟨ai,ci,rfl⟩:=bW hi;obtain⟨af,cf,rfl,i1,i2,i3⟩:=hf;unfold maxLen at i2;have HO:=zh ((((Own.start hm).al #[.slice none 0 0,.slice none 0 0] 24).al #[.slice ai I.length ci,.slice none 0 0] 24).dI 139 2);clear hi;refine ay fun R hR=>?_
 go_enter Tryz.func142,Tryz.ntmps142
 go_wp2;refine au [4,5,10,11,12] (fun n vs wr=>∃(k:Nat) (vo:Value),k≤L.length∧n=L.length - k∧vs=[.pointer (some ⟨w.heap.size,0,none⟩),.pointer (some ⟨w.heap.size+1,0,none⟩),.slice af L.length cf,.int .i64 L.length,.int .i64 k] ∧
  Own w m wr m [.obj (w.heap.size+1) 24 #[.slice ai I.length ci,vo],.row vo 139 2 k (bC (namK L k)),.obj w.heap.size 24 #[.slice none 0 0,.slice none 0 0]]) ?_ ?_
 ·refine ⟨_,0,.slice none 0 0,Nat.zero_le _,rfl,rfl,?_⟩;have:=HO.out.swap;simp only[bB] at this;exact this
 clear HO;rintro X z n vs wr hX - ⟨k,vo,hk,rfl,rfl,hO⟩;simp[litL,lk];obtain⟨voa,voc,rfl⟩:=aQ hO.swap.row;by_cases hlt:k<L.length
 ·obtain⟨b,off,rfl,h4⟩:=i3 (by intro h;simp[h] at hlt);have hg:=h4 k hlt;have r1:=Mem.aj hO.inn hg.1;have r2:=Mem.aj hO.inn hg.2.1;have rl:=Mem.av hO.inn hg.1;have hso:=hin L[k] (List.getElem_mem hlt);have HS:=zh (Jw L k hlt);generalize namK L k=S0 at *
  clear h4 hg;generalize L[k]=q at *
  obtain⟨qa,qb⟩:=q;unfold rkIn at hso;simp only at r1 r2 hso;have ho2:=hO.obj;have l1:=ho2.lt;have HU1:=zh (fun w'=>oW qa w' hso.1 hso.2.1);have HU2:=zh (fun w'=>oW qb w' hso.2.2.1 hso.2.2.2);go_wp2;have hO1:=(hO.al #[.int .i64 qa,.int .i64 qb] 139).dr;refine fq (fun w'=>bD w' (w.heap.size+1) 24 #[.slice ai I.length ci,.slice voa k voc]∧bD w' wr.heap.size 139 #[.int .i64 qa,.int .i64 qb]) 12 zk ?_;have hS:=zi hO1.swap.obj hO1.obj;refine aD 0 rfl zk (fun _ _ _ h=>h) hS (aB rfl fun w' hS'=>by have q:=hS'.1.cell (i:=1) rfl;have q1:=hS'.2.cell (i:=0) rfl;have q2:=hS'.2.cell (i:=1) rfl;go_simp;rfl) ?_;refine aD 1 rfl zk (fun _ _ _ h=>h) hS (aB rfl fun w' hS'=>by have q:=hS'.1.cell (i:=1) rfl;have q1:=hS'.2.cell (i:=0) rfl;have q2:=hS'.2.cell (i:=1) rfl;go_simp;rfl) ?_;refine aD 2 rfl zk (fun _ _ _ h=>h) hS (aB rfl fun w' hS'=>by have q:=hS'.1.cell (i:=1) rfl;have q1:=hS'.2.cell (i:=0) rfl;have q2:=hS'.2.cell (i:=1) rfl;go_simp;rfl) ?_;refine aD 3 rfl zk (fun _ _ _ h=>h) hS (aB rfl fun w' hS'=>by have q:=hS'.1.cell (i:=1) rfl;have q1:=hS'.2.cell (i:=0) rfl;have q2:=hS'.2.cell (i:=1) rfl;go_simp;rfl) ?_;refine aD 5 rfl zk (fun _ _ _ h=>h) hS (aB rfl fun w' hS'=>by have q:=hS'.1.cell (i:=1) rfl;have q1:=hS'.2.cell (i:=0) rfl;have q2:=hS'.2.cell (i:=1) rfl;go_simp;rfl) ?_;refine aD 6 rfl zk (fun _ _ _ h=>h) hS (aB rfl fun w' hS'=>by have q:=hS'.1.cell (i:=1) rfl;have q1:=hS'.2.cell (i:=0) rfl;have q2:=hS'.2.cell (i:=1) rfl;go_simp;rfl) ?_;refine aT 4 zk (aO rfl rfl (fQ zg (HU1.out _) ?_));rintro e w1 ⟨rfl,hb1⟩;have hO2:=hO1.move hb1;refine ⟨_,rfl,andS (zi hO2.swap.obj hO2.obj) fun hS1=>?_⟩;refine aT 7 zk (aO rfl rfl (fQ zg (HU2.out _) ?_));rintro e w2 ⟨rfl,hb2⟩;have hO3:=hO2.move hb2;refine ⟨_,rfl,andS (zi hO3.swap.obj hO3.obj) fun hS2=>?_⟩;refine aD 8 rfl zk (fun _ _ _ h=>h) hS2 (aB rfl fun w' hS'=>by go_simp;rfl) ?_;refine aT 9 zk (aO rfl rfl (aK (by go_simp;exact⟨rfl,rfl⟩) (andS (zi (hO3.swap.obj.al _) (hO3.obj.al _)) fun hS3=>?_)));go_simp;have hO4:=hO3.al #[.int .i64 (bK qa),.int .i64 (bK qb)] 139;refine aT 10 zk (aO rfl rfl (eH fC (.tmp 17) (.tmp 25) rfl (.slice voa k voc) k (bC S0) rfl hO4.fourth.row ⟨w2.heap.size,0,none⟩ 1 1 [.int .i64 (bK qa),.int .i64 (bK qb)] rfl rfl (hO4.obj.news rfl) (by simp[Value.oneCell']) (by unfold maxLen;omega) zo (fun va vc w3 hown3 hgrow hrow3=>?_)));have hO5:=hO4.fourth.app hown3 hgrow hrow3 (Nat.le_refl _);refine andS (zi hO5.fourth.obj hO5.third.obj) fun hS4=>?_;refine aD 11 rfl zk (fun _ _ _ h=>h) hS4 (aB rfl fun w' hS'=>by go_simp;rfl) ?_;have f3:=hS4.1.frozen 1;have c3:=hS4.1.cell (i:=1) rfl;refine aT 12 zk (aO rfl rfl (iM (by go_simp;rfl) (lN rfl ?_)));refine fw zk ?_ _;have hO6:=hO5.fourth.set 1 (.slice va (k+1) vc);have Hfin:=zh hO6.jO.jO;clear hO6 hO5 hO4 hO3 hO2 hO1 hO hown3 hgrow hrow3 hS hS1 hS2 hS3 hS4 f3 c3 ho2 hb1 hb2;go_wp2;refine hX.out _ _ _ zo rfl ⟨k+1,.slice va (k+1) vc,zo,rfl,rfl,?_⟩;rw[HS.out];have e:S0 ++ [dP (qa,qb)]=S0 ++ [(bK qa,bK qb)]:=rfl;rw[e,aU];exact Hfin.out
 ·obtain rfl:k=L.length:=zo;rw[Ll] at hO;have c1:=hO.obj.cell (i:=0) rfl;have c2:=hO.obj.cell (i:=1) rfl;have g3:=hO.third.obj.cell (i:=0) rfl;have g4:=hO.third.obj.cell (i:=1) rfl;have g5:=hO.third.obj.frozen 0;have g6:=hO.third.obj.frozen 1;have g7:=hO.third.obj.lt;have hml:(L.map dP).length=L.length:=List.length_map ..;have hO4:=(hO.third.set 0 (.slice ai I.length ci)).set 1 (.slice voa L.length voc);have hst:=dQ (m:=m) (l:=L.map dP) (by rw[hml];exact hO4.third.row) HOK.out.1;have hfin:eF (m.grow w _) _ _ I (L.map dP):=⟨bX hO4.done HOK.out.2,bX hO4.third.bg.done hst⟩;have g8:=hO4.obj.cell (i:=0) rfl;have g9:=hO4.obj.cell (i:=1) rfl;have Hfin:=zh (zi hO4.below hfin);clear hst hfin hO4 hO hml;go_wp2;refine bodyPost_ret (v:=.agg #[.slice ai I.length ci,.slice voa L.length voc]) (by simp[results,Tryz.results142,go_sem,g8,g9]) rfl ?_;exact hR.out _ _ ⟨_,rfl,Hfin.out.1,Hfin.out.2⟩
theorem Cv (vi vf:Value) (I F:List Spn) (m:Mem) (w:World) (hm:m.inn w) (h1:eF m vi vf I F) (hI:I.length≤100000) (hF:F.length≤100000) :
 Calls Tryz.prog 96 #[.agg #[vi,vf]] w fun e w'=>∃ri rf,e=.returned (.agg #[ri,rf])∧Below w.heap.size w w'∧eF (m.grow w w') ri rf (mkN I F).i (mkN I F).rf:=by
 have hO:=((Own.start hm).al #[vi,vf] 24).al #[.slice none 0 0,.slice none 0 0] 24;have hsz1:(w.alloc (.cells #[vi,vf] 24)).heap.size=w.heap.size+1:=by simp
 rw[hsz1] at hO;obtain⟨a1,c1,b1,d1,rfl,rfl⟩:=h1.spell;have hrk:=(Eu I F).rk;have hl:=(MP hI hF).f;have hraw:(mkN I F).i=pG I∧(mkN I F).f=lG F:=⟨rfl,rfl⟩;have HRK:=zh (zi hrk hl);clear hrk hl;have HO:=zh hO;have H1:=zh (zi hraw h1);clear hO h1 hsz1 hraw;refine ay fun R hR=>?_;generalize mkN I F=x at *
 go_enter Tryz.func96,Tryz.ntmps96
 go_upto_region 1 with (fail)
 refine aN [2] (fun vs w'=>∃(mk':Mem) (ra rb:Option Addr) (rc rd:Nat),vs=[.pointer (some ⟨w.heap.size+1,0,none⟩)] ∧
  Own w m w' mk' [.obj (w.heap.size+1) 24 #[.slice ra x.i.length rc,.slice rb x.rf.length rd]] ∧
  eF mk' (.slice ra x.i.length rc) (.slice rb x.rf.length rd) x.i x.rf) ?_ ?_
 ·intro X hX;refine aX 5 5 (fun j=>[Fact.is (·=.agg #[.slice a1 I.length c1,.slice b1 F.length d1]),Fact.mem m [1] (SpV x.i),Fact.is (·=.agg #[.slice a1 I.length c1,.slice b1 F.length d1]),Fact.mem m [3] (SpV x.f),Fact.mem m [4,1,3] (NumV x.i x.rf)].getD j Fact.any) zk zk ?_ ?_
  ·intro i hi o win a wr ho RA;have HO2:=HO.out.dr.move RA.below;have p1:=HO2.swap.obj.cell (i:=0) rfl;have p2:=HO2.swap.obj.cell (i:=1) rfl;rcases (show i=0∨i=1∨i=2∨i=3∨i=4 by omega) with rfl | rfl | rfl | rfl | rfl
   ·have e1:=RA.k 1;cases ho;exact wv rfl rfl rfl
   ·have e3:a.tmps.getD 3 undef=_:=RA.d 0 rfl;cases ho;refine we rfl rfl (Cw _ _ I F m wr HO2.inn H1.out.2 hI) ?_;rintro e w' ⟨r,rfl,hb,hn⟩;rw[← H1.out.1.1] at hn;exact⟨_,rfl,_,rfl,hb,lC SpV.le HO2.inn hb (MM hn)⟩
   ·have e1:=RA.k 1;cases ho;exact wv rfl rfl rfl
   ·have e5:a.tmps.getD 5 undef=_:=RA.d 2 rfl;cases ho;refine we rfl rfl (zZ _ _ I F m wr HO2.inn H1.out.2 hF) ?_;rintro e w' ⟨r,rfl,hb,hn⟩;rw[← H1.out.1.2] at hn;exact⟨_,rfl,_,rfl,hb,lC SpV.le HO2.inn hb (MM hn)⟩
   ·have e4:(Fact.mem m [1] (SpV x.i)).holds (a.tmps.getD 4 undef) win wr:=RA.d 1 rfl;have e6:(Fact.mem m [3] (SpV x.f)).holds (a.tmps.getD 6 undef) win wr:=RA.d 3 rfl;cases ho;obtain⟨r1,s1,k1,t1⟩:SpV _ _ _:=e4;obtain⟨r2,s2,k2,t2⟩:SpV _ _ _:=e6;refine we rfl rfl (Jm _ _ x.i x.f (m.wins wr win [1,3]) wr (Mem.jV HO2.inn win [1,3]) (bX (Mem.nK (es:=[1,3]) HO2.inn win zS) t1) (bX (Mem.nK (es:=[1,3]) HO2.inn win zS) t2) HRK.out.1 (by have:=HRK.out.2;omega)) ?_;rintro e w' ⟨rf,rfl,hb,hn⟩;exact⟨_,rfl,_,rfl,hb,Lu (ds:=[1,3]) NumV.le HO2.inn zS (fun d hd=>(RA.rng d (by simp at hd;rcases hd with rfl | rfl <;> kernel_rfl)).2.2) hb (CF hn)⟩
  ·intro win a wr E;have e2:=E.keep 2 zk;have e7:(Fact.mem m [4,1,3] (NumV x.i x.rf)).holds (a.tmps.getD 7 undef) win wr:=E.fact 4 _ zo rfl;obtain⟨ra,rc,rb,rd,f1,st1⟩:NumV _ _ _ _:=e7;have hO1:=HO.out.drop2.dr.region E.below win [4,1,3] (fun d hd=>(E.rng d (by simp at hd;omega)).1);have HE:=zh E;generalize m.wins wr win [4,1,3]=mk2 at *
   have HK:=zh st1;clear E st1;have b1:=hO1.obj.frozen 0;have b1':=hO1.obj.frozen 1;have b2:=hO1.obj.cell (i:=0) rfl;have b2':=hO1.obj.cell (i:=1) rfl;have b3:=hO1.obj.lt;have hO3:=(hO1.set 0 (.slice ra x.i.length rc)).set 1 (.slice rb x.rf.length rd);refine jB 5 zk (aO rfl rfl (iM zg ?_));obtain⟨t,d⟩:=a;obtain rfl:d=[]:=HE.out.defers;refine di zk (hX.out _ _ HE.out.size ⟨mk2,ra,rb,rc,rd,?_,hO3,HK.out⟩) _;simp only[List.map_cons,List.map_nil,e2]
   rfl
 rintro z2 vs w2 - ⟨mk',ra,rb,rc,rd,rfl,hO,hr⟩;simp[litL,lk];have g5:=hO.obj.cell (i:=0) rfl;have g6:=hO.obj.cell (i:=1) rfl;have Hk:=zh (zi hO.below (hr.le hO.done));clear hO hr HO;go_wp2;refine bodyPost_ret (v:=.agg #[.slice ra x.i.length rc,.slice rb x.rf.length rd]) (by simp[results,Tryz.results96,go_sem,g5,g6]) rfl ?_;exact hR.out _ _ ⟨_,_,rfl,Hk.out.1,Hk.out.2⟩
theorem oU (v v':Value) (l l':List Spn) (m:Mem) (w:World) (hm:m.inn w) (hl:dx m v l) (hl':dx m v' l') :
 Calls Tryz.prog 141 #[v,v'] w fun e w'=>e=.returned (.bool (tf (l=l')))∧Below w.heap.size w w':=by
 obtain⟨a,c,rfl,h1,h2,h3⟩:=hl;obtain⟨a',c',rfl,h1',h2',h3'⟩:=hl';unfold maxLen at h2 h2';refine ay fun R hR=>?_;by_cases hlen:l.length=l'.length
 ·have hne:((l.length:Int) != (l'.length:Int))=false:=by simp[hlen]
  have Hlen:=zh hlen;clear hlen
  go_enter Tryz.func141,Tryz.ntmps141
  go_wp2;refine au [0,1,12,13] (fun n vs wr=>∃k:Nat,k≤l.length∧n=l.length - k∧vs=[.slice a l.length c,.slice a' l'.length c',.int .i64 l.length,.int .i64 k]∧(l=l'↔l.drop k=l'.drop k)∧Below w.heap.size w wr) ?_ ?_
  ·exact⟨_,0,Nat.zero_le _,rfl,rfl,Iff.rfl,Below.refl _ _⟩
  rintro X z n vs wr hX - ⟨k,hk,rfl,rfl,hrel,hbel⟩;have Hrel:=zh hrel;clear hrel;simp[litL,lk];have hmr:=Mem.bE hm hbel;by_cases hlt:k<l.length
  ·have hlt':k<l'.length:=by rw[← Hlen.out];exact hlt
   obtain⟨b,off,rfl,h4⟩:=h3 (by intro h;simp[h] at hlt);obtain⟨b',off',rfl,h4'⟩:=h3' (by intro h;simp[h] at hlt');obtain⟨g1,g2,-⟩:=h4 k hlt;obtain⟨g1',g2',-⟩:=h4' k hlt';have c1:=Mem.aj hmr g1;have c2:=Mem.aj hmr g2;have c1':=Mem.aj hmr g1';have c2':=Mem.aj hmr g2';have HD:=zh (dM l l' k hlt hlt');have hq:=fun w=>tq (l[k].1) (l[k].2) (l'[k].1) (l'[k].2) w;have hgd:=uD;have He:=zh (KO l[k] l'[k]);go_wp2
   go_quiet (fail)
   go_wp2
   ·refine hR.out _ _ ⟨aJ ?_,below_drewN hbel _⟩;rw[az];intro h;have h5:=He.out.1 (HD.out.1 (Hrel.out.1 h)).1;have h6:=‹(!l[k].1==l'[k].1)=true∨_›;simp[h5] at h6
   ·refine hX.out _ _ _ zo rfl ⟨k+1,zo,rfl,rfl,?_,below_drewN hbel _⟩;have h6:=‹(!l[k].1==l'[k].1)=false∧_›;simp at h6;exact Hrel.out.trans (HD.out.trans ⟨fun h=>h.2,fun h=>⟨He.out.2 zo,h⟩⟩)
  ·go_wp2;refine hR.out _ _ ⟨aJ ?_,hbel⟩;rw[aI (Hrel.out.2 ?_)];rw[List.drop_eq_nil_of_le zo,List.drop_eq_nil_of_le (by rw[← Hlen.out];omega)]
 ·have hne:((l.length:Int) != (l'.length:Int))=true:=by simp;omega
  go_enter Tryz.func141,Tryz.ntmps141
  go_wp2;exact hR.out _ _ ⟨aJ (by rw[az (fun h=>hlen (by rw[h]))]),Below.refl _ _⟩
theorem Cu (vi vf ui uf:Value) (I F J G:List Spn) (m:Mem) (w:World) (hm:m.inn w) (h1:eF m vi vf I F) (h2:eF m ui uf J G) :
 Calls Tryz.prog 95 #[.agg #[vi,vf],.agg #[ui,uf]] w fun e w'=>e=.returned (.bool (tf (I=J∧F=G)))∧Below w.heap.size w w':=by
 have hO:=((Own.start hm).al #[vi,vf] 24).al #[ui,uf] 24;have hsz1:(w.alloc (.cells #[vi,vf] 24)).heap.size=w.heap.size+1:=by simp
 rw[hsz1] at hO;have HA:=zh (oU _ _ I J m _ hO.inn h1.i h2.i);have HB:=zh (fun w' (h:m.inn w')=>oU _ _ F G m w' h h1.f h2.f);obtain⟨a1,c1,b1,d1,rfl,rfl⟩:=h1.spell;obtain⟨a2,c2,b2,d2,rfl,rfl⟩:=h2.spell;have HO:=zh hO;clear hO hsz1 h1 h2;refine ay fun R hR=>?_
 go_enter Tryz.func95,Tryz.ntmps95
 go_wp2_with fail
 refine HA.out.mono ?_;rintro e w1 ⟨rfl,hb1⟩;have hO1:=HO.out.move hb1;by_cases e1:I=J
 ·rw[aI e1];have HB1:=zh (HB.out w1 hO1.inn);have q0:=hO1.obj.cell (i:=1) rfl;have q1:=hO1.swap.obj.cell (i:=1) rfl;have HO1:=zh hO1;have E1:=zh e1;clear HO hO1 hb1 HA HB e1
  go_wp2_with fail
  refine HB1.out.mono ?_;rintro e w2 ⟨rfl,hb2⟩;have Hb:=zh (HO1.out.move hb2).below;clear HO1 hb2 HB1 q0 q1;go_wp2;exact hR.out _ _ ⟨aJ (aZ ⟨fun h=>⟨E1.out,h⟩,fun h=>h.2⟩),Hb.out⟩
 ·rw[az e1];have Hb:=zh hO1.below;have E1:=zh e1;clear HO hO1 hb1 HA HB e1;go_wp2;exact hR.out _ _ ⟨aJ (by rw[az (fun h=>E1.out h.1)]),Hb.out⟩
theorem zY (vi vf:Value) (I F:List Spn) (m:Mem) (w:World) (hm:m.inn w) (h1:eF m vi vf I F) (hI:I.length≤100000) (hF:F.length≤100000) :
 Calls Tryz.prog 63 #[.agg #[vi,vf]] w fun e w'=>e=.returned (.bool (tf (I=(mkN I F).i∧F=(mkN I F).rf)))∧Below w.heap.size w w':=by
 have hO:=(Own.start hm).al #[vi,vf] 24;obtain⟨a1,c1,b1,d1,rfl,rfl⟩:=h1.spell;have HO:=zh hO;have H1:=zh h1;clear hO h1;refine ay fun R hR=>?_
 go_enter Tryz.func63,Tryz.ntmps63
 go_upto_region 1 with (fail)
 refine aN [2] (fun vs w'=>vs=[.bool (tf (I=(mkN I F).i∧F=(mkN I F).rf))]∧Below w.heap.size w w') ?_ ?_
 ·intro Y hY;refine aX 5 5 (fun j=>[Fact.is (·=.agg #[.slice a1 I.length c1,.slice b1 F.length d1]),Fact.is (·=.agg #[.slice a1 I.length c1,.slice b1 F.length d1]),Fact.mem m [2] (NumV (mkN I F).i (mkN I F).rf),Fact.is (·=.bool (tf (I=(mkN I F).i∧F=(mkN I F).rf))),Fact.is (·=.bool (tf (I=(mkN I F).i∧F=(mkN I F).rf)))].getD j Fact.any) zk zk ?_ ?_
  ·intro i hi o win a wr ho RA;have HO3:=HO.out.dr.move RA.below;have q1:=HO3.obj.cell (i:=0) rfl;have q2:=HO3.obj.cell (i:=1) rfl;rcases (show i=0∨i=1∨i=2∨i=3∨i=4 by omega) with rfl | rfl | rfl | rfl | rfl
   ·have e1:=RA.k 1;cases ho;exact wv rfl rfl rfl
   ·have e1:=RA.k 1;cases ho;exact wv rfl rfl rfl
   ·have e4:a.tmps.getD 4 undef=_:=RA.d 1 rfl;cases ho;refine we rfl rfl (Cv _ _ I F m wr HO3.inn H1.out hI hF) ?_;rintro e w' ⟨ri,rf,rfl,hb,hn⟩;exact⟨_,rfl,_,rfl,hb,lC NumV.le HO3.inn hb (CF hn)⟩
   ·have e3:a.tmps.getD 3 undef=_:=RA.d 0 rfl;have e5:(Fact.mem m [2] (NumV (mkN I F).i (mkN I F).rf)).holds (a.tmps.getD 5 undef) win wr:=RA.d 2 rfl;cases ho;obtain⟨x1,y1,x2,y2,f1,s1⟩:NumV _ _ _ _:=e5;have s0:=H1.out.le (Mem.x8 HO3.inn win [2]);refine we rfl rfl (Cu _ _ _ _ I F (mkN I F).i (mkN I F).rf _ wr (Mem.jV HO3.inn win [2]) s0 s1) ?_;rintro e w' ⟨rfl,hb⟩;exact⟨_,rfl,_,rfl,hb,rfl⟩
   ·have e6:a.tmps.getD 6 undef=_:=RA.d 3 rfl;cases ho;exact wv rfl rfl rfl
  ·intro win a wr E;have e2:a.tmps.getD 2 undef=.bool (tf (I=(mkN I F).i∧F=(mkN I F).rf)):=E.fact 4 _ zo rfl;obtain⟨t1,d⟩:=a;obtain rfl:d=[]:=E.defers;refine di zk (hY.out _ _ E.size ⟨?_,(HO.out.dr.move E.below).below⟩) _;simp only[List.map_cons,List.map_nil,e2]
 rintro z vs w1 - ⟨rfl,hb⟩;simp[litL,lk];have Hb:=zh hb;clear hb HO;go_wp2;exact hR.out _ _ ⟨rfl,Hb.out⟩
end Cl
namespace Cl
theorem AZ {es:List Ed} {b:Nat} (h:0≤aS es b):∃e∈es,e.to=aS es b:=by
 induction es with
 | nil=>simp[aS] at h
 | cons x es ih=>
  simp only[aS] at h ⊢
  split at h
  ·rename_i hc;exact⟨x,zS,by rw[if_pos hc]⟩
  ·rename_i hc;obtain⟨e,he,e2⟩:=ih h;exact⟨e,by simp[he],by rw[if_neg hc];exact e2⟩
def dL (l:Table) (lives:Nat→Bool):Table:=l.map fun s=>⟨s.accept,s.edges.filter fun e=>lives e.to.toNat⟩
theorem A7 {n:Nat} {es:List Ed} {lives:Nat→Bool}:∀{p:Int},aV n p es→∀b,
 aS (es.filter fun e=>lives e.to.toNat) b=if 0≤aS es b∧lives (aS es b).toNat=true then aS es b else -1:=by
 induction es with
 | nil=>intro p _ b;simp[aS]
 | cons e es ih=>
  intro p ⟨h1,h2,h3,h4,h5⟩ b;have ih:=ih h5 b;rw[List.filter_cons];by_cases c:e.lo≤b∧b≤e.hi
  ·have hb:aS es b = -1:=ky h5 zo;simp only[aS,if_pos c]
   split
   ·rename_i hl;rw[if_pos ⟨h2,hl⟩];simp[aS,c]
   ·rename_i hl;rw[if_neg (fun h=>hl h.2),ih,hb];simp
  ·simp only[aS,if_neg c]
   split
   ·simp only[aS,if_neg c];exact ih
   ·exact ih
theorem u6 {n:Nat} {es:List Ed} {q:Ed→Bool}:∀{p:Int},aV n p es→aV n p (es.filter q):=by
 induction es with
 | nil=>intro p _;trivial
 | cons e es ih=>
  intro p ⟨h1,h2,h3,h4,h5⟩;rw[List.filter_cons]
  split
  ·exact⟨h1,h2,h3,h4,ih h5⟩
  ·exact sI (ih h5) zo
theorem BX {l:Table} (hw:WF l) (lives:Nat→Bool):WF (dL l lives):=by
 intro s hs;obtain⟨x,hx,rfl⟩:=List.mem_map.1 hs;have:=u6 (q:=fun e=>lives e.to.toNat) (hw x hx);simpa [dL] using this
theorem FC {l:Table} (hw:Bytes l) (lives:Nat→Bool):Bytes (dL l lives):=by
 intro s hs;obtain⟨x,hx,rfl⟩:=List.mem_map.1 hs;intro e he;exact hw x hx e (List.mem_filter.1 he).1
theorem IG {l:Table} (hw:WF l) (lives:Nat→Bool) (s:Nat) (hs:s<l.length) (b:Nat) :
 aW (dL l lives) s b=if 0≤aW l s b∧lives (aW l s b).toNat=true then aW l s b else -1:=by
 rw[bV _ s b (by simpa [dL] using hs),bV l s b hs];simp only[dL,List.getElem_map];exact A7 (hw _ (List.getElem_mem hs)) b
theorem sS {l:Table} (hw:WF l) {lives:Nat→Bool} (hl:∀s:Nat,s<l.length→(lives s=true↔Lv l s)):∀(w:List UInt8) (s:Int),aF (dL l lives) s w=aF l s w:=by
 have hlen:(dL l lives).length=l.length:=by simp[dL]
 intro w
 induction w with
 | nil=>
  intro s;simp only[aF];by_cases c:s<0
  ·simp[dS,c]
  ·by_cases d:s<l.length
   ·obtain⟨k,rfl⟩:=Int.eq_ofNat_of_zero_le (by omega:0≤s);rw[dF _ k zo,dF _ k zo];simp[dL]
   ·have h1:=dX (dL l lives) s [] zo;have h2:=dX l s [] zo;simp only[aF] at h1 h2
    rw[h1,h2]
 | cons b w ih=>
  intro s;simp only[aF];rw[ih];by_cases c:s<0
  ·rw[gP c,gP c]
  ·by_cases d:s<l.length
   ·obtain⟨k,rfl⟩:=Int.eq_ofNat_of_zero_le (by omega:0≤s);rw[IG hw lives k zo]
    split
    ·rfl
    ·rename_i hn;rw[bJ zo];rcases dU hw k b.toNat with h | ⟨h1,h2⟩
     ·rw[h,bJ zo]
     ·cases hx:aF l (aW l k b.toNat) w with
      | false=>rfl
      | true=>
       exfalso;apply hn;refine ⟨h1,(hl _ zo).2 ⟨w,?_⟩⟩;rw[Int.toNat_of_nonneg h1];exact hx
   ·rw[dB _ _ _ zo,dB _ _ _ zo]
theorem qw {l:Table} (hw:WF l) {p:Nat→Bool} (hp:Marks l p) (ht:∀s∈l,∀e∈s.edges,Lv l e.to) :
 BH l l.length (loOf (aL p)) (hiOf (aL p)) (aL p).length (fun s i=>aW l s (loOf (aL p) i)):=by
 have hlive:∀(s:Nat) (b:Nat),0≤aW l s b→Lv l (aW l s b):=by
  intro s b h;by_cases c:s<l.length
  ·rw[bV l s b c] at h ⊢;obtain⟨e,he,e2⟩:∃e∈(l[s]).edges,e.to=aS (l[s]).edges b:=by
    generalize (l[s]).edges=es at h
    induction es with
    | nil=>simp[aS] at h
    | cons x es ih=>
     simp only[aS] at h ⊢
     split at h
     ·rename_i hc;exact⟨x,zS,by rw[if_pos hc]⟩
     ·rename_i hc;obtain⟨e,he,e2⟩:=ih h;exact⟨e,by simp[he],by rw[if_neg hc];exact e2⟩
   rw[← e2];exact ht _ (List.getElem_mem c) e he
  ·rw[dB l s b zo] at h;omega
 refine ⟨(AL hp.1).1,fun s i hs hi=>?_,fun s i hs hi b h1 h2 w=>?_,fun s t i hs ht' hi h hf=>?_⟩
 ·rcases dU hw s (loOf (aL p) i) with h | h <;> omega
 ·rw[ib hp hi h1 h2]
 ·rcases dU hw t (loOf (aL p) i) with h | ⟨h1,h2⟩
  ·exact h
  ·obtain⟨w,hw'⟩:=hlive t _ h1;rw[hf w] at hw';cases hw'
theorem DF {l:Table} (hw:WF l) {p:Nat→Bool} (hp:Marks l p) (ht:∀s∈l,∀e∈s.edges,Lv l e.to) {cls:List Int} (hc:qR l l.length cls)
 {ac:Nat→Bool} (ha:∀s:Nat,s<l.length→ac s=dS l s) (h0:Lv l 0) (hpos:0<l.length) :
 nD l l.length (fun s=>cls.getD s 0)
  (fun s i=>if aW l s (loOf (aL p) i)<0 then none else some (aW l s (loOf (aL p) i)).toNat)
  (loOf (aL p)) (hiOf (aL p)) ac (aL p).length:=by
 have H:=qw hw hp ht;have hlive:∀(s:Nat) (i:Nat),s<l.length→i<(aL p).length→0≤aW l s (loOf (aL p) i)→Lv l (aW l s (loOf (aL p) i)):=by
  intro s i hs hi h;apply Classical.byContradiction;intro hn;have hf:∀w,aF l (aW l s (loOf (aL p) i)) w=false:=fun w=>by
   cases hx:aF l (aW l s (loOf (aL p) i)) w with
   | false=>rfl
   | true=>exact absurd ⟨w,hx⟩ hn
  rw[bV l s _ hs] at h hn;obtain⟨e,he,e2⟩:∃e∈(l[s]).edges,e.to=aS (l[s]).edges (loOf (aL p) i):=by
   generalize (l[s]).edges=es at h
   induction es with
   | nil=>simp[aS] at h
   | cons x es ih=>
    simp only[aS] at h ⊢
    split at h
    ·rename_i hc;exact⟨x,zS,by rw[if_pos hc]⟩
    ·rename_i hc;obtain⟨e,he,e2⟩:=ih h;exact⟨e,by simp[he],by rw[if_neg hc];exact e2⟩
  rw[← e2] at hn;exact hn (ht _ (List.getElem_mem hs) e he)
 refine ⟨(AL hp.1).1,hpos,fun s i t hs hi h=>?_,fun s i hs hi h b h1 h2 w=>?_,fun s t hs ht=>hc.eq s t hs ht,fun s hs=>ha s hs,h0⟩
 ·split at h
  ·cases h
  ·rename_i hn;simp only[Option.some.injEq] at h;have r:=dU hw s (loOf (aL p) i);have e:((t:Nat):Int)=aW l s (loOf (aL p) i):=zo;refine ⟨zo,?_,fun b b1 b2 w=>?_⟩
   ·rw[e];exact hlive s i hs hi zo
   ·rw[ib hp hi b1 b2,← e]
 ·split at h
  ·rename_i hn;rw[ib hp hi h1 h2];exact bJ hn w
  ·cases h
def eD (o:List Nat) (t:Nat):Nat:=df (fun s=>(s:Int)) o t
def Nq (o:List Nat) (s:Sn):Sn:=⟨s.accept,s.edges.map fun e=>⟨e.lo,e.hi,(eD o e.to.toNat:Int)⟩⟩
structure kJ (l:Table) (o:List Nat) (k:Nat):Prop where
 first:o[0]?=some 0
 nodup:o.Nodup
 lt:∀x∈o,x<l.length
 le:k≤o.length
 there:∀j,(h:j<k)→(h':j<o.length)→∀s,l[o[j]]?=some s→∀e∈s.edges,e.to.toNat∈o
def fG (l:Table) (o:List Nat) (k:Nat):Table:=(o.take k).map fun x=>Nq o (l.getD x ⟨false,[]⟩)
theorem OG {o:List Nat} (h:o.Nodup):Dif (fun s=>(s:Int)) o:=by
 refine List.Pairwise.imp ?_ h;intro a b hab h';exact hab (by have h':(a:Int)=b:=h';omega)
theorem lD {o:List Nat} {t:Nat} (h:t∈o):∃hp:eD o t<o.length,o[eD o t]=t:=by
 have hp:eD o t<o.length:=List.findIdx_lt_length.2 ⟨t,h,zS⟩;refine ⟨hp,?_⟩;have:=lu (cf:=fun s=>(s:Int)) (o:=o) (t:=t) hp;have:((o[eD o t]:Nat):Int)=(t:Int):=this;omega
theorem Dj {n:Nat} {o:List Nat} {es:List Ed}:∀{p:Int},aV n p es→∀b,
 aS (es.map fun e=>(⟨e.lo,e.hi,(eD o e.to.toNat:Int)⟩:Ed)) b=if aS es b<0 then -1 else (eD o (aS es b).toNat:Int):=by
 induction es with
 | nil=>intro p _ b;simp[aS]
 | cons e es ih=>
  intro p ⟨h1,h2,h3,h4,h5⟩ b;have ih:=ih h5 b;simp only[List.map_cons];by_cases c:e.lo≤b∧b≤e.hi
  ·have e1:aS (e::es) b=e.to:=by simp[aS,c]
   have e2:∀fs,aS (⟨e.lo,e.hi,(eD o e.to.toNat:Int)⟩::fs) b=(eD o e.to.toNat:Int):=fun fs=>by simp[aS,c]
   rw[e2];simp only[e1];rw[if_neg zo]
  ·have e1:aS (e::es) b=aS es b:=by simp only[aS];rw[if_neg c]
   have e2:∀fs,aS (⟨e.lo,e.hi,(eD o e.to.toNat:Int)⟩::fs) b=aS fs b:=fun fs=>by simp only[aS];rw[if_neg c]
   rw[e2];simp only[e1];exact ih
theorem xz {n m:Nat} {o:List Nat} {es:List Ed}:∀{p:Int},aV n p es→(∀e∈es,eD o e.to.toNat<m)→aV m p (es.map fun e=>(⟨e.lo,e.hi,(eD o e.to.toNat:Int)⟩:Ed)):=by
 induction es with
 | nil=>intro p _ _;trivial
 | cons e es ih=>
  intro p ⟨h1,h2,h3,h4,h5⟩ hm;exact⟨h1,zS,by have:=hm e zS;simp;omega,h4,ih h5 fun x hx=>hm x (by simp[hx])⟩
theorem Ji {l:Table} (hw:WF l) (hb:Bytes l) {o:List Nat} (h:kJ l o o.length) :
 WF (fG l o o.length)∧Bytes (fG l o o.length)∧(fG l o o.length).length=o.length∧∀w,aF (fG l o o.length) 0 w=aF l 0 w:=by
 have hlen:(fG l o o.length).length=o.length:=by simp[fG]
 have hst:∀j,(hj:j<o.length)→(fG l o o.length)[j]'zo=Nq o (l[o[j]]'(h.lt _ (List.getElem_mem hj))):=by
  intro j hj;have hx:=h.lt _ (List.getElem_mem hj);simp[fG,hx]
 have hed:∀j,(hj:j<o.length)→∀e∈(l[o[j]]'(h.lt _ (List.getElem_mem hj))).edges,e.to.toNat∈o:=by
  intro j hj e he;have hx:=h.lt _ (List.getElem_mem hj);exact h.there j hj hj _ (List.getElem?_eq_getElem hx) e he
 have hlang:∀w,∀j,(hj:j<o.length)→aF (fG l o o.length) j w=aF l o[j] w:=by
  intro w
  induction w with
  | nil=>
   intro j hj;have hx:=h.lt _ (List.getElem_mem hj);simp only[aF];rw[dF _ j zo,dF _ _ hx,hst j hj]
   rfl
  | cons b w ih=>
   intro j hj;have hx:=h.lt _ (List.getElem_mem hj);simp only[aF];rw[bV _ j _ zo,bV _ _ _ hx,hst j hj];have hwj:=hw _ (List.getElem_mem hx);have:=Dj (o:=o) hwj b.toNat;show aF _ (aS ((l[o[j]]).edges.map _) b.toNat) w=_;rw[this];rcases og hwj b.toNat with e | ⟨e1,e2⟩
   ·rw[e];simp only[show (-1:Int)<0 by omega,if_true];rw[bJ zo,bJ zo]
   ·rw[if_neg zo];obtain⟨e,he,e3⟩:=AZ e1;have hm:=hed j hj e he;rw[e3] at hm;obtain⟨hp,hg⟩:=lD hm;rw[ih _ hp,hg,Int.toNat_of_nonneg e1]
 have h0:0<o.length:=by
  have:=h.first
  cases o with
  | nil=>simp at this
  | cons _ _=>simp
 have ho0:o[0]=0:=by
  obtain⟨h1,e⟩:=List.getElem?_eq_some_iff.1 h.first;exact e
 refine ⟨?_,?_,hlen,fun w=>?_⟩
 ·intro s hs;obtain⟨j,hj,rfl⟩:=List.mem_iff_getElem.1 hs;rw[hlen] at hj;rw[hst j hj];refine xz (hw _ (List.getElem_mem _)) fun e he=>?_;rw[hlen];exact (lD (hed j hj e he)).1
 ·intro s hs;obtain⟨j,hj,rfl⟩:=List.mem_iff_getElem.1 hs;rw[hlen] at hj;rw[hst j hj];intro e he;obtain⟨x,hx,rfl⟩:=List.mem_map.1 he;exact hb _ (List.getElem_mem _) x hx
 ·have:=hlang w 0 h0;rw[ho0] at this;exact this
end Cl
namespace Cl
open Go Go.RowKit Go.Proofs
theorem Ii (v0:Value) (l:Table) (m:Mem) (w:World) (hm:m.inn w) (hl:aR m v0 l) (hwf:WF l) :
 Calls Tryz.prog 148 #[v0] w fun e w'=>∃r,e=.returned r∧Below w.heap.size w w'∧dA (m.grow w w') r (bG l 256):=by
 obtain⟨a,c,rfl,h1,h2,h3⟩:=hl;unfold maxLen at h2;refine ay fun R hR=>?_
 go_enter Tryz.func148,Tryz.ntmps148
 go_wp2;refine au [3,11,12,13] (fun n vs wr=>∃(k:Nat),k≤l.length∧n=l.length - k∧vs=[.pointer (some ⟨w.heap.size,0,none⟩),.slice a l.length c,.int .i64 l.length,.int .i64 k] ∧
  Own w m wr m [.obj w.heap.size 175 (marr (cutP (l.take k)) 257)]) ?_ ?_
 ·refine ⟨_,0,Nat.zero_le _,rfl,rfl,?_⟩;have:=(Own.start hm).al (Tryz.zeroCells175.setIfInBounds 0 (.bool true)) 175;rw[nG,iN,fe,bY (P':=cutP (l.take 0)) (by intro b _;simp[cutP])] at this;rw[nG,iN,fe,bY (P':=cutP (l.take 0)) (by intro b _;simp[cutP])];exact this
 rintro X z n vs wr hX - ⟨k,hk,rfl,rfl,hO⟩;simp[litL,lk];by_cases hlt:k<l.length
 ·obtain⟨b,off,rfl,h4⟩:=h3 (by intro h;simp[h] at hlt);have hmr:=hO.inn;obtain⟨g1,ve,g2,ea,ec,rfl,g4,g5,g6⟩:=h4 k hlt;have hc1:=Mem.aj hmr g1;have hc2:=Mem.aj hmr g2;have hb:=Mem.av hmr g1;have hlo:=dD (hwf l[k] (List.getElem_mem hlt));have Hcut:=zh (fun b=>Bh hlt b);generalize l[k]=s at *
  unfold maxLen at g5;have hg0:=hO.obj.lt;have hO':=hO.al' (.cells #[.bool s.accept,.slice ea s.edges.length ec] 80);go_wp2;refine au [3,11,12,13,18,19,20] (fun n vs w2=>∃(j:Nat),j≤s.edges.length∧n=s.edges.length - j∧vs=[.pointer (some ⟨w.heap.size,0,none⟩),.slice (some ⟨b,off,none⟩) l.length c,.int .i64 l.length,.int .i64 k,.slice ea s.edges.length ec,.int .i64 s.edges.length,.int .i64 j] ∧
   Own w m w2 m [.obj w.heap.size 175 (marr (fun b=>cutP (l.take k) b∨∃e∈s.edges.take j,ja e b) 257)]) ?_ ?_
  ·refine ⟨_,0,Nat.zero_le _,rfl,rfl,?_⟩;rw[bY (P':=cutP (l.take k)) (by intro b _;simp)];exact hO'
  rintro Y z2 n vs w2 hY - ⟨j,hj,rfl,rfl,hO2⟩;simp[litL,lk];by_cases hlt2:j<s.edges.length
  ·obtain⟨b',off',rfl,h10⟩:=g6 (by intro h;simp[h] at hlt2);obtain⟨e1,e2,e3,e4,e5,-⟩:=h10 j hlt2;have hle:=(hlo s.edges[j] (List.getElem_mem hlt2)).1;have d1:=Mem.aj hO2.inn e1;have d2:=Mem.aj hO2.inn e2;have d3:=Mem.aj hO2.inn e3;have hb1:=Mem.av hO2.inn e1;have hg1:=hO2.obj.lt;have k1:=hO2.obj.cell (fo (i:=s.edges[j].lo) zo);have k2:=hO2.obj.cell (fo (i:=s.edges[j].hi+1) zo);have k3:=hO2.obj.frozen s.edges[j].lo;have k4:=hO2.obj.frozen (s.edges[j].hi+1);have hne:s.edges[j].lo≠s.edges[j].hi+1:=zo;have hne':s.edges[j].hi+1≠s.edges[j].lo:=zo;have hO3:=(((hO2.set s.edges[j].lo (.bool true)).set (s.edges[j].hi+1) (.bool true))).al' (.cells #[.int .u8 s.edges[j].lo,.int .u8 s.edges[j].hi,.int .i64 s.edges[j].to] 104);rw[fe,fe,bY (P':=fun b=>cutP (l.take k) b∨∃e∈s.edges.take (j+1),ja e b) (by
    intro b _;rw[oh hlt2];unfold ja;constructor
    ·rintro ((h | h) | h)
     ·exact h.elim .inl (fun h=>.inr (.inl h))
     ·exact .inr (.inr (.inl h.symm))
     ·exact .inr (.inr (.inr h.symm))
    ·rintro (h | h | h | h)
     ·exact .inl (.inl (.inl h))
     ·exact .inl (.inl (.inr h))
     ·exact .inl (.inr h.symm)
     ·exact .inr h.symm)] at hO3
   have HO3:=zh hO3;clear hO3;go_wp2;exact hY.out _ _ _ zo rfl ⟨j+1,zo,rfl,rfl,HO3.out⟩
  ·go_wp2;refine hX.out _ _ _ zo rfl ⟨k+1,zo,rfl,rfl,?_⟩;rw[bY (P':=fun b=>cutP (l.take k) b∨∃e∈s.edges.take j,ja e b) (by
    intro b _;rw[Hcut.out,List.take_of_length_le (l:=s.edges) (i:=j) zo])]
   exact hO2
 ·rw[List.take_of_length_le zo] at hO;go_wp2;refine au [3,8,9] (fun n vs w2=>∃(q:Nat) (v:Value),q≤256∧n=256 - q∧vs=[.pointer (some ⟨w.heap.size,0,none⟩),v,.int .i64 q] ∧
   Own w m w2 m [.row v 3 1 (bG l q).length ((bG l q).map (Value.int .i64)),.obj w.heap.size 175 (marr (cutP l) 257)]) ?_ ?_
  ·exact⟨_,0,.slice none 0 0,zo,rfl,rfl,hO.dI _ _⟩
  rintro Y z2 n vs w2 hY - ⟨q,v,hq,rfl,rfl,hO2⟩;simp[litL,lk];by_cases hlt2:q<256
  ·have k1:=hO2.swap.obj.cell (fo (i:=q) zo);have hg:=hO2.swap.obj.lt;have hcl:=jP l q;have hsu:=uN l q;by_cases hc:cutP l q
   ·have ht:=aI hc;rw[ht] at k1;rw[ht,if_pos rfl] at hsu;have Hsu:=zh hsu;clear hsu ht;have hO3:=hO2.al #[.int .i64 q] 3
    go_wp2_with (at_builtin;refine aC oJ rfl (.tmp 42) (.tmp 44) rfl v (bG l q).length ((bG l q).map (Value.int .i64)) rfl hO3.swap.row ⟨w2.heap.size,0,none⟩ 1 1 [.int .i64 q] rfl rfl (hO3.obj.news rfl) (by simp[Value.oneCell']) (by unfold maxLen;omega) zo ?_)
    intro va vc w3 hown3 hgrow hrow3;have hO4:=(hO3.swap.app hown3 hgrow hrow3 zS).drop2;have Hfin:=zh hO4;clear hO4 hown3 hgrow hrow3 hO3;go_wp2;refine hY.out _ _ _ zo rfl ⟨q+1,_,zo,rfl,rfl,?_⟩;rw[Hsu.out];simpa using Hfin.out
   ·have ht:=az hc;rw[ht] at k1;rw[ht,if_neg zS,List.append_nil] at hsu;have Hsu:=zh hsu;clear hsu ht;go_wp2;refine hY.out _ _ _ zo rfl ⟨q+1,v,zo,rfl,rfl,?_⟩;rw[Hsu.out];exact hO2
  ·obtain rfl:q=256:=zo;have hres:=dC hO2.bg.done (bN (m:=m) hO2.row (fun x hx=>by have:=lM l 256 x hx;omega));have Hfin:=zh (zi hO2.below hres);clear hres hO2;go_wp2;exact hR.out _ _ ⟨_,rfl,Hfin.out.1,Hfin.out.2⟩
end Cl
namespace Cl
theorem EJ (o:List Nat) (t:Nat):eD o t≤o.length:=l6 _ _ _
theorem GU {o:List Nat} {t q:Nat} (h:q≤eD o t) (hq:q<o.length):if o[q]=t then q=eD o t else q+1≤eD o t:=by
 split
 ·rename_i e;apply Classical.byContradiction;intro hne;have:=List.not_of_lt_findIdx (p:=fun (s:Nat)=>((s:Int)==(t:Int))) (xs:=o) (i:=q) (by
   have:q<eD o t:=zo;exact this)
  simp[e] at this
 ·rename_i e;apply Classical.byContradiction;intro hne;have h2:q=eD o t:=zo;have hp:eD o t<o.length:=zo;have:=lu (cf:=fun s=>(s:Int)) (o:=o) (t:=t) hp;have h3:((o[eD o t]:Nat):Int)=(t:Int):=this;apply e;subst h2;omega
def kP (o:List Nat) (t:Nat):List Nat:=if eD o t<o.length then o else o ++ [t]
theorem JW (o:List Nat) (t:Nat):o <+: kP o t:=wG _ o t
theorem JY (o:List Nat) (t:Nat):t∈kP o t:=by
 unfold kP
 split
 ·rename_i h;have h2:((o[eD o t]:Nat):Int)=(t:Int):=lu (cf:=fun s=>(s:Int)) h;have:o[eD o t]=t:=zo;rw[← this];exact List.getElem_mem h
 ·simp
theorem Dc {o:List Nat} {t:Nat} (h:o.Nodup):(kP o t).Nodup:=ry (Ku (cf:=fun s=>(s:Int)) t (OG h))
theorem LP {o:List Nat} {t n:Nat} (h:∀x∈o,x<n) (ht:t<n):∀x∈kP o t,x<n:=by
 intro x hx;rcases wH (cf:=fun s=>(s:Int)) x hx with h1 | h1
 ·exact h x h1
 ·subst h1;exact ht
theorem JX (o:List Nat) (t:Nat):eD (kP o t) t=eD o t:=(l7 (fun s=>(s:Int)) o t).1
theorem uC {o:List Nat} {t:Nat} (h:t∈o):eD o t<o.length:=(lD h).1
theorem JV {o o':List Nat} (h:o <+: o') {t:Nat} (ht:t∈o):eD o' t=eD o t:=Cz h (uC ht)
theorem uj {o:List Nat} {n:Nat} (h:o.Nodup) (hl:∀x∈o,x<n):o.length≤n:=by
 have:=gU o (List.range n) h (fun x hx=>List.mem_range.2 (hl x hx));simpa using this
def renE (o:List Nat) (es:List Ed):List Ed:=es.map fun e=>⟨e.lo,e.hi,(eD o e.to.toNat:Int)⟩
theorem Eg {o o':List Nat} (h:o <+: o') {es:List Ed} (hm:∀e∈es,e.to.toNat∈o):renE o' es=renE o es:=by
 apply List.map_congr_left;intro e he;rw[JV h (hm e he)]
structure InR (l:Table) (o:List Nat) (es:List Ed) (j:Nat) (o':List Nat):Prop where
 pre:o <+: o'
 nodup:o'.Nodup
 lt:∀x∈o',x<l.length
 mem:∀e∈es.take j,e.to.toNat∈o'
theorem JU {l:Table} {o:List Nat} {k:Nat} (h:kJ l o k) (es:List Ed):InR l o es 0 o:=⟨List.prefix_rfl,h.nodup,h.lt,fun e he=>by simp at he⟩
theorem LM {l:Table} {o o':List Nat} {es:List Ed} {j:Nat} (h:InR l o es j o') (hj:j<es.length) (ht:(es[j]).to.toNat<l.length) :
 InR l o es (j+1) (kP o' (es[j]).to.toNat)∧renE (kP o' (es[j]).to.toNat) (es.take (j+1))=renE o' (es.take j) ++ [⟨(es[j]).lo,(es[j]).hi,(eD o' (es[j]).to.toNat:Int)⟩]:=by
 have hp:=JW o' (es[j]).to.toNat;refine ⟨⟨h.pre.trans hp,Dc h.nodup,LP h.lt ht,fun e he=>?_⟩,?_⟩
 ·rw[List.take_succ_eq_append_getElem hj] at he;rcases List.mem_append.1 he with h1 | h1
  ·exact hp.subset (h.mem e h1)
  ·simp only[List.mem_singleton] at h1;subst h1;exact JY _ _
 ·rw[List.take_succ_eq_append_getElem hj];unfold renE;rw[List.map_append];have:=Eg hp (es:=es.take j) h.mem;unfold renE at this;rw[this];simp[JX]
theorem Cn {l:Table} (h:0<l.length):kJ l [0] 0:=⟨rfl,zS,fun x hx=>by simp at hx;omega,zS,fun j hj=>zo⟩
theorem FY {l:Table} {o o':List Nat} {k:Nat} (h:kJ l o k) (hk:k<o.length) {s:Sn} (hs:l[o[k]]?=some s) (H:InR l o s.edges s.edges.length o') :
 kJ l o' (k+1)∧fG l o' (k+1)=fG l o k ++ [⟨s.accept,renE o' s.edges⟩]:=by
 have hlen:=H.pre.length_le;have hmem:∀e∈s.edges,e.to.toNat∈o':=by have:=H.mem;rwa [List.take_length] at this
 refine ⟨⟨?_,H.nodup,H.lt,zo,fun j hj hj' t ht e he=>?_⟩,?_⟩
 ·obtain⟨x,hx⟩:=H.pre;rw[← hx,List.getElem?_append_left zo];exact h.first
 ·have hjo:j<o.length:=zo;have e1:=tZ H.pre hjo;rw[e1] at ht;by_cases c:j<k
  ·exact H.pre.subset (h.there j c hjo t ht e he)
  ·have:j=k:=zo;subst this;rw[hs] at ht;cases ht;exact hmem e he
 ·have e1:=tZ H.pre hk;have ht:o'.take (k+1)=o.take k ++ [o[k]]:=by
   obtain⟨x,hx⟩:=H.pre;rw[← hx,List.take_append_of_le_length zo,List.take_succ_eq_append_getElem hk]
  unfold fG;rw[ht,List.map_append]
  congr 1
  ·apply List.map_congr_left;intro y hy;obtain⟨j,hj,rfl⟩:=List.mem_iff_getElem.1 hy;have hjk:j<k:=by simp at hj;omega
   simp only[List.getElem_take];have hyl:=h.lt _ (List.getElem_mem (show j<o.length by omega));have e2:l.getD o[j] ⟨false,[]⟩=l[o[j]]:=by simp[hyl]
   rw[e2];unfold Nq
   congr 1
   exact Eg H.pre (es:=(l[o[j]]).edges) (fun e he=>h.there j hjk zo _ (by simp[hyl]) e he)
  ·have e2:l.getD o[k] ⟨false,[]⟩=s:=by rw[List.getD_eq_getElem?_getD,hs];rfl
   simp only[List.map_cons,List.map_nil,e2]
   rfl
end Cl
namespace Cl
open Go Go.RowKit Go.Proofs
theorem yX {l:Table} (hw:WF l) (hb:Bytes l):∀s∈l,s.edges.length≤256:=fun s hs=>by
 have:=MK (hw s hs) (hb s hs) zo zo;omega
theorem Ad {o:List Nat} {cls:List Int} {t:Nat} (ht:t<cls.length) :
 (let r:=firstIdx (fun y=>cls.getD y.toNat 0=cls[t]) (o.map Int.ofNat) 0;if r<0 then ((o.map Int.ofNat).length:Int) else r)=(df (fun s=>cls.getD s 0) o t:Nat):=by
 have hct:cls.getD t 0=cls[t]:=by simp[ht]
 rcases kr (fun y=>cls.getD y.toNat 0=cls[t]) (o.map Int.ofNat) 0 with ⟨h1,h2⟩ | ⟨i,h1,h2,h3,h4⟩
 ·simp only[h1];rw[if_pos zo];have hn:¬ df (fun s=>cls.getD s 0) o t<o.length:=fun h=>by
   have:=lu (cf:=fun s=>cls.getD s 0) h;exact h2 (Int.ofNat o[df (fun s=>cls.getD s 0) o t]) (List.mem_map.2 ⟨_,List.getElem_mem h,rfl⟩) (by rw[← hct];exact this)
  have:=l6 (fun s=>cls.getD s 0) o t;rw[List.length_map];omega
 ·simp only[h2];rw[if_neg zo];have hio:i<o.length:=by simpa using h1
  have:df (fun s=>cls.getD s 0) o t=i:=by
   unfold df;rw[List.findIdx_eq hio];refine ⟨?_,fun j hj=>?_⟩
   ·have:=h3;simp only[List.getElem_map] at this;exact beq_iff_eq.2 (by show cls.getD o[i] 0=cls.getD t 0;rw[hct];exact this)
   ·have:=h4 j (by simp;omega) hj;simp only[List.getElem_map] at this;exact beq_eq_false_iff_ne.2 (by show cls.getD o[j] 0≠cls.getD t 0;rw[hct];exact this)
  rw[this];simp
theorem zA {R:Table} (hw:WF R) {lv:Nat→Bool} (hlv:∀s:Nat,s<R.length→(lv s=true↔Lv R s)):∀s∈dL R lv,∀e∈s.edges,Lv (dL R lv) e.to:=by
 intro s hs e he;obtain⟨x,hx,rfl⟩:=List.mem_map.1 hs;obtain⟨h1,h2⟩:=List.mem_filter.1 he;have h3:=dD (hw x hx) e h1;obtain⟨w,hw'⟩:=(hlv e.to.toNat zo).1 h2;refine ⟨w,?_⟩;rw[sS hw hlv]
 rwa [Int.toNat_of_nonneg h3.2.1] at hw'
def dlT (T:Table) (lo:Nat→Nat) (s i:Nat):Option Nat:=if aW T s (lo i)<0 then none else some (aW T s (lo i)).toNat
theorem xX (o:List Nat):bL o=(o.map Int.ofNat).map (Value.int .i64):=by
 unfold bL;rw[List.map_map]
 rfl
end Cl
namespace Cl
theorem BM {n:Nat} {es:List Ed}:∀{p:Int},aV n p es→∀e∈es,aS es e.lo=e.to:=by
 induction es with
 | nil=>intro p _ e he;simp at he
 | cons x es ih=>
  intro p ⟨h1,h2,h3,h4,h5⟩ e he;simp only[aS];rcases List.mem_cons.1 he with rfl | he
  ·rw[if_pos ⟨Nat.le_refl _,h1⟩]
  ·have:=(eO h5 e he).1;rw[if_neg zo];exact ih h5 e he
def MX (l:Table) (out:List Bool) (s:Nat):Prop:=(dS l s=true∨∃st,l[s]?=some st∧∃e∈st.edges,bt out e.to.toNat=true)→bt out s=true
def DT (l:Table) (out:List Bool):Prop:=∀s,s<l.length→MX l out s
def KX (l:Table) (out:List Bool):Prop:=∀s,bt out s=true→Lv l s
theorem uU {l:Table} (_:WF l) {out:List Bool} (h:DT l out):∀(w:List UInt8) (s:Nat),aF l s w=true→bt out s=true:=by
 intro w
 induction w with
 | nil=>
  intro s hs;simp only[aF] at hs;by_cases c:s<l.length
  ·exact h s c (.inl hs)
  ·have:=dX l (s:Int) [] zo;simp only[aF] at this
   rw[hs] at this;cases this
 | cons b w ih=>
  intro s hs;simp only[aF] at hs;by_cases c:s<l.length
  ·rw[bV l s _ c] at hs;have h0:0≤aS (l[s]).edges b.toNat:=by
    apply Classical.byContradiction;intro hn;rw[bJ zo] at hs;cases hs
   obtain⟨e,he,e2⟩:=AZ h0;refine h s c (.inr ⟨l[s],by simp[c],e,he,?_⟩);apply ih;rw[e2,Int.toNat_of_nonneg h0];exact hs
  ·rw[dB l _ _ zo,bJ zo] at hs;cases hs
theorem Nz {l:Table} (hw:WF l) (hb:Bytes l) {s:Nat} {st:Sn} (hs:l[s]?=some st) {e:Ed} (he:e∈st.edges) (h:Lv l e.to):Lv l s:=by
 obtain⟨h1,h2⟩:=List.getElem?_eq_some_iff.1 hs;subst h2;obtain⟨w,hw'⟩:=h;obtain⟨u,hu⟩:=byteOf e.lo (hb _ (List.getElem_mem h1) e he).1;refine ⟨u::w,?_⟩;simp only[aF];rw[hu,bV l s _ h1,BM (hw _ (List.getElem_mem h1)) e he];exact hw'
structure rG (l:Table) (out0 out:List Bool) (i:Nat) (C:List Bool→Prop):Prop where
 len:out.length=l.length
 sound:KX l out
 keep:out=out0∨out0.count true<out.count true
 stay:DT l out0→out=out0
 part:out=out0→(∀s,s<i→MX l out s)∧(C out→bt out i=true)
theorem KG {l:Table} {out0:List Bool} (h1:out0.length=l.length) (h2:KX l out0):rG l out0 out0 0 (fun _=>False):=
 ⟨h1,h2,.inl rfl,fun _=>rfl,fun _=>⟨fun s hs=>zo,fun h=>h.elim⟩⟩
theorem vH {out:List Bool}:∀{c:Nat},c<out.length→bt out c=false→(out.set c true).count true=out.count true+1:=by
 induction out with
 | nil=>intro c h;simp at h
 | cons b out ih=>
  intro c h hb
  cases c with
  | zero=>
   simp[bt] at hb;subst hb
   simp
  | succ c=>
   have:=@ih c (by simpa using h) (by simpa [bt] using hb);simp only[List.set_cons_succ,List.count_cons];omega
theorem Cg {out:List Bool} {i:Nat} (h:i<out.length):out.set i (bt out i)=out:=by
 rw[kM h];exact List.set_getElem_self _
theorem EZ {l:Table} {out0 out:List Bool} {i:Nat} {C C':List Bool→Prop} (H:rG l out0 out i C) (hi:i<l.length) (b:Bool)
 (hj:b=true→dS l i=true∨∃st,l[i]?=some st∧∃e∈st.edges,bt out e.to.toNat=true) (hl:b=true→Lv l i) (hC:C' out→C out∨b=true) :
 rG l out0 (out.set i (bt out i || b)) i C':=by
 have hil:i<out.length:=by rw[H.len];exact hi
 by_cases hc:bt out i=false∧b=true
 ·obtain⟨h1,h2⟩:=hc;have hcount:=vH hil h1;rw[h1,h2,Bool.false_or];have hle:out0.count true≤out.count true:=by
   rcases H.keep with h | h
   ·rw[h];exact Nat.le_refl _
   ·omega
  refine ⟨by simp[H.len],fun s hs=>?_,.inr zo,fun hcl=>?_,fun e=>?_⟩
  ·by_cases c:s=i
   ·subst c;exact hl h2
   ·refine H.sound s ?_;simpa [bt,List.getElem?_set,show ¬ i=s from fun e=>c e.symm] using hs
  ·have e0:=H.stay hcl;have:=hcl i hi (by rw[← e0];exact hj h2);rw[← e0,h1] at this;cases this
  ·rw[← e] at hle;omega
 ·have e:(bt out i || b)=bt out i:=by
   cases h1:bt out i <;> cases h2:b <;> simp_all
  rw[e,Cg hil];refine ⟨H.len,H.sound,H.keep,H.stay,fun e0=>⟨(H.part e0).1,fun hc'=>?_⟩⟩;rcases hC hc' with h | h
  ·exact (H.part e0).2 h
  ·rw[← e,h];simp
theorem Mt {l:Table} {out0 out:List Bool} {i:Nat} {C:List Bool→Prop} (H:rG l out0 out i C) (hi:i<l.length)
 (hC:(dS l i=true∨∃st,l[i]?=some st∧∃e∈st.edges,bt out e.to.toNat=true)→C out):rG l out0 out (i+1) (fun _=>False):=
 ⟨H.len,H.sound,H.keep,H.stay,fun e0=>⟨fun s hs=>by
  by_cases c:s=i
  ·subst c;exact fun h=>(H.part e0).2 (hC h)
  ·exact (H.part e0).1 s zo,fun h=>h.elim⟩⟩
structure qg (l:Table) (out:List Bool) (r:Nat):Prop where
 len:out.length=l.length
 sound:KX l out
 prog:DT l out∨r≤out.count true
theorem KH {l:Table} {out0 out:List Bool} {r:Nat} (H0:qg l out0 r) (H:rG l out0 out l.length (fun _=>False)):qg l out (r+1):=by
 refine ⟨H.len,H.sound,?_⟩;rcases H.keep with h | h
 ·exact .inl fun s hs=>(H.part h).1 s hs
 ·rcases H0.prog with h2 | h2
  ·have:=H.stay h2;rw[this] at h;omega
  ·exact .inr zo
theorem NU {l:Table} (hw:WF l) {out:List Bool} (H:qg l out l.length):∀s:Nat,s<l.length→(bt out s=true↔Lv l s):=by
 intro s hs;refine ⟨H.sound s,fun h=>?_⟩;obtain⟨w,hx⟩:=h;rcases H.prog with h2 | h2
 ·exact uU hw h2 w s hx
 ·have hc:out.count true=out.length:=Nat.le_antisymm List.count_le_length (by rw[H.len];exact h2);have hall:=List.count_eq_length.1 hc;have hs':s<out.length:=by rw[H.len];exact hs
  rw[kM hs'];exact (hall _ (List.getElem_mem hs')).symm
theorem Ms (l:Table):qg l (List.replicate l.length false) 0:=by
 refine ⟨zS,fun s hs=>?_,.inr (Nat.zero_le _)⟩;simp[bt,List.getElem?_replicate] at hs
 split at hs <;> simp at hs
end Cl
namespace Cl
open Go Go.RowKit Go.Proofs
theorem sF {m:Mem} {v:Value} {l:Table} (h:aR m v l):Bytes l:=by
 obtain⟨a,c,-,-,-,h4⟩:=h;intro s hs;obtain⟨b,off,-,h5⟩:=h4 (List.ne_nil_of_mem hs);obtain⟨i,hi,rfl⟩:=List.mem_iff_getElem.1 hs;obtain⟨-,ve,-,h6⟩:=h5 i hi;obtain⟨a',c',-,-,-,h7⟩:=h6;intro e he;obtain⟨b',off',-,h8⟩:=h7 (List.ne_nil_of_mem he);obtain⟨j,hj,rfl⟩:=List.mem_iff_getElem.1 he;exact⟨(h8 j hj).2.2.2.1,(h8 j hj).2.2.2.2.1⟩
theorem BA (v0:Value) (l:Table) (m:Mem) (w:World) (hm:m.inn w) (hl:aR m v0 l) (hwf:WF l) (hlen:l.length≤1000000) :
 Calls Tryz.prog 145 #[v0] w fun e w'=>∃r out,e=.returned r∧Below w.heap.size w w'∧fP (m.grow w w') r out∧out.length=l.length∧∀s:Nat,s<l.length→(bt out s=true↔Lv l s):=by
 have hby:=sF hl;obtain⟨a,c,rfl,h1,h2,h3⟩:=hl;unfold maxLen at h2;refine ay fun R hR=>?_
 go_enter Tryz.func145,Tryz.ntmps145
 go_wp2_with (refine wpList_make_row CV rfl (.tmp 9) (.tmp 9) rfl l.length rfl rfl zo (by unfold maxLen;omega) ?_)
 intro w5 hown hgrow;have hO:=(Own.start hm).make hown hgrow;clear hown hgrow;have hrep:List.replicate l.length (Value.bool false)=(List.replicate l.length false).map Value.bool:=by simp
 rw[hrep] at hO;clear hrep;have hR0:=Ms l;generalize hB:w.heap.size=B at *
 generalize List.replicate l.length false=out0 at *
 go_wp2;refine au [0,3,12,13] (fun n vs wr=>∃(r:Nat) (out:List Bool),r≤l.length∧n=l.length - r∧vs=[.slice a l.length c,.slice (some ⟨B,0,none⟩) l.length l.length,.int .i64 l.length,.int .i64 r] ∧
  Own w m wr m [.row (.slice (some ⟨B,0,none⟩) l.length l.length) 4 1 l.length (out.map Value.bool)]∧qg l out r) ?_ ?_
 ·exact⟨_,0,out0,Nat.zero_le _,rfl,rfl,hO,hR0⟩
 clear hO hR0;rintro X z n vs wr hX - ⟨r,out,hr,rfl,rfl,hO,hAR⟩;simp[litL,lk];by_cases hlt:r<l.length
 ·have hst:=KG hAR.len hAR.sound;have HAR:=zh hAR;clear hAR;go_wp2;refine au [0,3,12,13,15,16,17] (fun n vs wr=>∃(i:Nat) (o:List Bool),i≤l.length∧n=l.length - i∧vs=[.slice a l.length c,.slice (some ⟨B,0,none⟩) l.length l.length,.int .i64 l.length,.int .i64 r,.slice a l.length c,.int .i64 l.length,.int .i64 i] ∧
   Own w m wr m [.row (.slice (some ⟨B,0,none⟩) l.length l.length) 4 1 l.length (o.map Value.bool)]∧rG l out o i (fun _=>False)) ?_ ?_
  ·exact⟨_,0,out,Nat.zero_le _,rfl,rfl,hO,hst⟩
  clear hO hst;rintro Y z2 n vs wr2 hY - ⟨i,o,hi,rfl,rfl,hO,hI⟩;simp[litL,lk];by_cases hlt2:i<l.length
  ·obtain⟨b,off,rfl,h4⟩:=h3 (by intro h;simp[h] at hlt2);obtain⟨g1,ve,g2,ea,ec,rfl,g4,g5,g6⟩:=h4 i hlt2;have hgl:=Mem.av hO.inn g1;have g1w:=Mem.aj hO.inn g1;have g2w:=Mem.aj hO.inn g2;have hol:=hI.len;have hil:i<o.length:=zo;have d3:=aP (j:=i) (u:=.bool o[i]) hO.row (by simp[hil]);rw[← kM hil] at d3;have d4:=bU hO.row i;have hrl:=(World.ownsRow.lt hO.row _ rfl).2;have hwfl:=hwf l[i] (List.getElem_mem hlt2);have hbyl:=hby l[i] (List.getElem_mem hlt2);have hgl2:l[i]?=some l[i]:=by simp[hlt2]
   have hacc:=dF l i hlt2;generalize l[i]=st at *
   have hs1:=EZ (C':=fun o'=>dS l i=true∨∃e∈st.edges.take 0,bt o' e.to.toNat=true) hI hlt2 st.accept (fun h=>.inl (hacc.trans h)) (fun h=>⟨[],by simp only[aF];exact hacc.trans h⟩) (fun h=>by
    rcases h with h | ⟨e,he,-⟩
    ·exact .inr (hacc.symm.trans h)
    ·simp at he)
   have hO1:=(hO.setRow i (.bool (bt o i || st.accept))).al #[.bool st.accept,.slice ea st.edges.length ec] 80;have hset:(o.map Value.bool).set i (.bool (bt o i || st.accept))=(o.set i (bt o i || st.accept)).map Value.bool:=by rw[List.map_set]
   rw[hset,World.size_setCell] at hO1;have Hk:=zh (zi hs1 (zi hO1 (zi hwfl (zi hbyl (zi hgl2 hacc)))));clear hs1 hO1 hset hwfl hbyl hgl2 hacc hI hO;generalize hbo:bt o i=bo at *
   unfold maxLen at g5;have Hbo:=zh hbo;clear hbo;generalize hS:wr2.heap.size=S at *
   cases bo
   all_goals
    go_wp2;refine au [0,3,4,5,12,13,15,16,17,34,35,36] (fun n vs wr=>∃(j:Nat) (o':List Bool),j≤st.edges.length∧n=st.edges.length - j ∧
     vs=[.slice (some ⟨b,off,none⟩) l.length c,.slice (some ⟨B,0,none⟩) l.length l.length,.int .i64 i,.pointer (some ⟨S,0,none⟩),.int .i64 l.length,.int .i64 r,.slice (some ⟨b,off,none⟩) l.length c,.int .i64 l.length,.int .i64 i,.slice ea st.edges.length ec,.int .i64 st.edges.length,.int .i64 j] ∧
     Own w m wr m [.row (.slice (some ⟨B,0,none⟩) l.length l.length) 4 1 l.length (o'.map Value.bool)]∧rG l out o' i (fun o''=>dS l i=true∨∃e∈st.edges.take j,bt o'' e.to.toNat=true)) ?_ ?_
    ·exact⟨_,0,_,Nat.zero_le _,rfl,rfl,Hk.out.2.1.tail,Hk.out.1⟩
    clear g1w g2w hgl d3 d4 hrl;rintro Z z3 n vs wr3 hZ - ⟨j,o',hj,rfl,rfl,hO,hI⟩;simp[litL,lk];by_cases hlt3:j<st.edges.length
    ·obtain⟨b',off',rfl,h10⟩:=g6 (by intro h;simp[h] at hlt3);obtain⟨e1,e2,e3,e4,e5,-⟩:=h10 j hlt3;have e1w:=Mem.aj hO.inn e1;have e2w:=Mem.aj hO.inn e2;have e3w:=Mem.aj hO.inn e3;have ebl:=Mem.av hO.inn e1;have hte:=dD Hk.out.2.2.1 st.edges[j] (List.getElem_mem hlt3);obtain⟨en,hen⟩:=Int.eq_ofNat_of_zero_le hte.2.1;have hol2:=hI.len;have hst2:=EZ (C':=fun o''=>dS l i=true∨∃e∈st.edges.take (j+1),bt o'' e.to.toNat=true) hI hlt2 (bt o' en) (fun h=>.inr ⟨st,Hk.out.2.2.2.2.1,st.edges[j],List.getElem_mem hlt3,by rw[hen];exact h⟩)
      (fun h=>Nz hwf hby Hk.out.2.2.2.2.1 (List.getElem_mem hlt3) (by rw[hen];exact hI.sound en h)) (fun h=>by
       rcases h with h | ⟨e,he,h⟩
       ·exact .inl (.inl h)
       ·rw[List.take_succ_eq_append_getElem hlt3] at he;rcases List.mem_append.1 he with h1 | h1
        ·exact .inl (.inr ⟨e,h1,h⟩)
        ·simp only[List.mem_singleton] at h1;subst h1;rw[hen] at h;exact .inr h)
     have hil2:i<o'.length:=zo;have hte2:=hte.2.2;rw[hen] at e3w hte2;have henl:en<o'.length:=zo;have d5:=aP (j:=i) (u:=.bool o'[i]) hO.row (by simp[hil2]);have d6:=aP (j:=en) (u:=.bool o'[en]) hO.row (by simp[henl]);rw[← kM hil2] at d5;rw[← kM henl] at d6;have d7:=bU hO.row i;have drl:=(World.ownsRow.lt hO.row _ rfl).2;have hO1:=(hO.setRow i (.bool (bt o' i || bt o' en)));have hset:(o'.map Value.bool).set i (.bool (bt o' i || bt o' en))=(o'.set i (bt o' i || bt o' en)).map Value.bool:=by rw[List.map_set]
     rw[hset] at hO1;have Hk2:=zh (zi hst2 hO1);clear hst2 hO1 hset hI hO hen;generalize bt o' en=be at *
     generalize hbo2:bt o' i=bo2 at *
     have Hbo2:=zh hbo2;clear hbo2;cases bo2
     all_goals
      go_wp2;exact hZ.out _ _ _ zo rfl ⟨j+1,_,zo,rfl,rfl,Hk2.out.2.al' _,Hk2.out.1⟩
    ·obtain rfl:j=st.edges.length:=zo;have hnx:=Mt hI hlt2 (fun h=>by
      rw[List.take_length];rcases h with h | ⟨st',h1,h2⟩
      ·exact .inl h
      ·rw[Hk.out.2.2.2.2.1] at h1;cases h1;exact .inr h2)
     have Hk2:=zh hnx;clear hnx hI;go_wp2;exact hY.out _ _ _ zo rfl ⟨i+1,o',zo,rfl,rfl,hO,Hk2.out⟩
  ·obtain rfl:i=l.length:=zo;have h1:=zh (KH HAR.out hI);go_wp2;exact hX.out _ _ _ zo rfl ⟨r+1,o,zo,rfl,rfl,hO,h1.out⟩
 ·obtain rfl:r=l.length:=zo;have h1:=NU hwf hAR;have hb:=gG (l:=out) (m:=m) (w:=wr) (v:=.slice (some ⟨B,0,none⟩) l.length l.length) (by rw[hAR.len];exact hO.row);have Hk:=zh (zi h1 (zi (gM hO.bg.done hb) (zi hO.below hAR.len)));clear h1 hb hO hAR;go_wp2;exact hR.out _ _ ⟨_,out,rfl,hB ▸ Hk.out.2.2.1,Hk.out.2.1,Hk.out.2.2.2,Hk.out.1⟩
theorem Dh {es:List Ed} {lv:Nat→Bool} {j:Nat} (h:j<es.length):(es.take (j+1)).filter (fun e=>lv e.to.toNat)=(es.take j).filter (fun e=>lv e.to.toNat) ++ if lv (es[j]).to.toNat=true then [es[j]] else []:=by
 rw[List.take_succ_eq_append_getElem h,List.filter_append];simp[List.filter_cons]
theorem BV (v0:Value) (l:Table) (m:Mem) (w:World) (hm:m.inn w) (hl:aR m v0 l) (hwf:WF l) (hlen:l.length≤1000000) (hel:∀s∈l,s.edges.length≤1000000) :
 Calls Tryz.prog 146 #[v0] w fun e w'=>∃r lv,e=.returned r∧Below w.heap.size w w'∧aR (m.grow w w') r (dL l lv)∧∀s:Nat,s<l.length→(lv s=true↔Lv l s):=by
 have hA:=BA v0 l m w hm hl hwf hlen;have hby:=sF hl;have hl0:=hl;obtain⟨a,c,rfl,h1,h2,h3⟩:=hl;unfold maxLen at h2;have HA:=zh hA;clear hA;refine ay fun R hR=>?_
 go_enter Tryz.func146,Tryz.ntmps146
 go_wp2_with fail
 refine HA.out.mono ?_;rintro e w1 ⟨r,out,rfl,hb1,hr1,hol,hiff⟩;have hO1:=((Own.start hm).call hb1).dI 80 2;obtain⟨la,lc,rfl,l1,l2,l3⟩:=hr1;have HF:=zh hiff;have hol1:l.length≤out.length:=zo;clear hol;have HO1:=zh hO1;clear hiff hO1 HA hb1;go_wp2;refine au [0,3,4,12,13,14] (fun n vs wr=>∃(k:Nat) (vst:Value) (xs:List Value) (mk:Mem),k≤l.length∧n=l.length - k∧vs=[.slice a l.length c,.slice la out.length lc,vst,.slice a l.length c,.int .i64 l.length,.int .i64 k] ∧
  Own w m wr mk [.row vst 80 2 k xs]∧kI mk xs (dL (l.take k) (bt out))∧(m.grow w w1).le mk) ?_ ?_
 ·exact⟨_,0,.slice none 0 0,[],_,Nat.zero_le _,rfl,rfl,HO1.out,kI.nil _,Mem.le_refl _⟩
 clear HO1;rintro X z n vs wr hX - ⟨k,vst,xs,mk,hk,rfl,rfl,hO,hrow,hmk⟩;simp[litL,lk];obtain⟨vsta,vstc,rfl⟩:=aQ hO.row;by_cases hlt:k<l.length
 ·obtain⟨b,off,rfl,h4⟩:=h3 (by intro h;simp[h] at hlt);obtain⟨g1,ve,g2,ea,ec,rfl,g4,g5,g6⟩:=h4 k hlt;obtain⟨lb,lo',rfl,l4⟩:=l3 (by intro h;simp[h] at hol1;simp[hol1] at hlt);have hmr:=Mem.cz hO.ext.le hO.inn;have g1w:=Mem.aj hmr g1;have g2w:=Mem.aj hmr g2;have hgl:=Mem.av hmr g1;have hwfl:=hwf l[k] (List.getElem_mem hlt);have hell:=hel l[k] (List.getElem_mem hlt);have hbyl:=hby l[k] (List.getElem_mem hlt);have htk:dL (l.take (k+1)) (bt out)=dL (l.take k) (bt out) ++ [⟨(l[k]).accept,(l[k]).edges.filter fun e=>bt out e.to.toNat⟩]:=by
   unfold dL;rw[List.take_succ_eq_append_getElem hlt,List.map_append];rfl
  generalize l[k]=st at *
  unfold maxLen at g5;have hO2:=((hO.al #[.bool st.accept,.slice ea st.edges.length ec] 80).tail.al #[.bool st.accept,.slice none 0 0] 80).dI 104 3;have hsz:(wr.alloc (.cells #[.bool st.accept,.slice ea st.edges.length ec] 80)).heap.size=wr.heap.size+1:=by simp
  rw[hsz] at hO2;have Hk:=zh (zi hO2 (zi htk (zi hwfl hbyl)));clear hO2 htk hwfl hbyl hsz hO;generalize hS:wr.heap.size=S at *
  go_wp2;refine au [0,3,4,7,12,13,14,22,23,24] (fun n vs w2=>∃(j:Nat) (vx:Value),j≤st.edges.length∧n=st.edges.length - j ∧
   vs=[.slice (some ⟨b,off,none⟩) l.length c,.slice (some ⟨lb,lo',none⟩) out.length lc,.slice vsta k vstc,.pointer (some ⟨S+1,0,none⟩),.slice (some ⟨b,off,none⟩) l.length c,.int .i64 l.length,.int .i64 k,.slice ea st.edges.length ec,.int .i64 st.edges.length,.int .i64 j] ∧
   Own w m w2 mk [.row vx 104 3 ((st.edges.take j).filter fun e=>bt out e.to.toNat).length (dz ((st.edges.take j).filter fun e=>bt out e.to.toNat)),.obj (S+1) 80 #[.bool st.accept,vx],.row (.slice vsta k vstc) 80 2 k xs]) ?_ ?_
  ·exact⟨_,0,.slice none 0 0,Nat.zero_le _,rfl,rfl,Hk.out.1⟩
  clear g1w g2w hgl hmr;rintro Y z2 n vs w2 hY - ⟨j,vx,hj,rfl,rfl,hO⟩;simp[litL,lk];obtain⟨vxa,vxc,rfl⟩:=aQ hO.row;by_cases hlt2:j<st.edges.length
  ·obtain⟨b',off',rfl,h10⟩:=g6 (by intro h;simp[h] at hlt2);obtain⟨e1,e2,e3,e4,e5,e6⟩:=h10 j hlt2;have hmr:=Mem.cz hO.ext.le hO.inn;have e1w:=Mem.aj hmr e1;have e2w:=Mem.aj hmr e2;have e3w:=Mem.aj hmr e3;have ebl:=Mem.av hmr e1;have hte:=dD Hk.out.2.2.1 st.edges[j] (List.getElem_mem hlt2);have hft:=Dh (lv:=bt out) hlt2;obtain⟨en,hen⟩:=Int.eq_ofNat_of_zero_le hte.2.1;have hte2:=hte.2.2;rw[hen] at e3w hte2 hft;have henl:en<out.length:=zo;have x1:=Mem.aj hO.inn (Mem.aA hmk (l4 en henl));have xl:=Mem.av hO.inn (Mem.aA hmk (l4 en henl));rw[← kM henl] at x1;have hec:dz [st.edges[j]]=[.int .u8 (st.edges[j]).lo,.int .u8 (st.edges[j]).hi,.int .i64 en]:=by simp[dz,hen]
   have hfl:=List.length_filter_le (fun e=>bt out e.to.toNat) (st.edges.take j);have htl:(st.edges.take j).length≤j:=List.length_take_le _ _;generalize st.edges[j]=e at *
   generalize (st.edges.take j).filter (fun e=>bt out e.to.toNat)=es1 at *
   have s1:=hO.swap.obj.cell (i:=1) rfl;have s2:=hO.swap.obj.lt;have Hft:=zh (zi hft hec);clear hft hec hte hen
   cases hbf:bt out en with
   | false=>
    rw[hbf] at x1;have Hbf:=zh hbf;clear hbf;go_wp2;refine hY.out _ _ _ zo rfl ⟨j+1,.slice vxa es1.length vxc,zo,rfl,rfl,?_⟩;have e1:=Hft.out.1;simp only[Int.toNat_natCast,Hbf.out,Bool.false_eq_true,if_false,List.append_nil] at e1;rw[e1]
    exact hO.al' _
   | true=>
    rw[hbf] at x1;have Hbf:=zh hbf;clear hbf;have hO2:=(hO.al #[.int .u8 e.lo,.int .u8 e.hi,.int .i64 en] 104).tail;have hO3:=hO2.al #[.int .u8 e.lo,.int .u8 e.hi,.int .i64 en] 104;have hsz:(w2.alloc (.cells #[.int .u8 e.lo,.int .u8 e.hi,.int .i64 en] 104)).heap.size=w2.heap.size+1:=by simp
    rw[hsz] at hO3;have hnews:=hO3.obj.news rfl;clear hO2 hO
    go_wp2_with (at_builtin;refine aC xJ rfl (.tmp 34) (.tmp 36) rfl (.slice vxa es1.length vxc) es1.length (dz es1) rfl hO3.swap.row ⟨w2.heap.size+1,0,none⟩ 1 1 [.int .u8 e.lo,.int .u8 e.hi,.int .i64 en] rfl rfl hnews (by simp[Value.oneCell']) (by unfold maxLen;omega) zo ?_)
    intro va vc w7 hown7 hgrow7 hrow7;have hO4:=(hO3.swap.app hown7 hgrow7 hrow7 zS).third;clear hown7 hgrow7 hrow7 hO3 hnews;have u2:=hO4.obj.cell (i:=1) rfl;have u3:=hO4.obj.frozen 1;have u4:=hO4.obj.lt;have hO5:=((hO4.set 1 (.slice va (es1.length+1) vc)).swap).jO;have HO5:=zh hO5;clear hO5 hO4;go_wp2;refine hY.out _ _ _ zo rfl ⟨j+1,.slice va (es1.length+1) vc,zo,rfl,rfl,?_⟩;have e1:=Hft.out.1;simp only[Int.toNat_natCast,Hbf.out,if_true] at e1;rw[e1,eY];have e2:=Hft.out.2;simp only[dz,List.flatMap_cons,List.flatMap_nil,List.append_nil] at e2;rw[e2];have:=HO5.out;simpa using this
  ·obtain rfl:j=st.edges.length:=zo;rw[List.take_length] at hO;have hfl:=List.length_filter_le (fun e=>bt out e.to.toNat) st.edges;have hok:∀e∈st.edges.filter (fun e=>bt out e.to.toNat),edOk e:=fun e he=>by
    have he':=(List.mem_filter.1 he).1;have q1:=Hk.out.2.2.2 e he';have q2:=dD Hk.out.2.2.1 e he';exact⟨q1.1,q1.2,zo,zo⟩
   have hes:=iD (m:=mk) hO.row hok;have hmk2:=Mem.dh (w:=w2) hO.free;have hrow2:=(hrow.mono hmk2).push (s:=⟨st.accept,st.edges.filter fun e=>bt out e.to.toNat⟩) hes;rw[← Hk.out.2.1] at hrow2;have hO2:=hO.bg;have x0:=hO2.obj.cell (i:=0) rfl;have x1:=hO2.obj.cell (i:=1) rfl;have xl:=hO2.obj.lt;have hO3:=hO2.al #[.bool st.accept,.slice vxa (st.edges.filter fun e=>bt out e.to.toNat).length vxc] 80;have Hk2:=zh (zi hrow2 (Mem.le_trans hmk hmk2));clear hrow2 hes hmk2 hok;generalize mk.addv w2 (.slice vxa (st.edges.filter fun e=>bt out e.to.toNat).length vxc)=mk2 at *
   generalize st.edges.filter (fun e=>bt out e.to.toNat)=es1 at *
   have hnews:=hO3.obj.news rfl;clear hO hO2
   go_wp2_with (at_builtin;refine aC lY rfl (.tmp 40) (.tmp 42) rfl (.slice vsta k vstc) k xs rfl hO3.third.row ⟨w2.heap.size,0,none⟩ 1 1 [.bool st.accept,.slice vxa es1.length vxc] rfl rfl hnews (by simp[Value.oneCell']) (by unfold maxLen;omega) zo ?_)
   intro va vc w7 hown7 hgrow7 hrow7;have hO4:=((hO3.third.app hown7 hgrow7 hrow7 zS)).drop2.drop2;clear hown7 hgrow7 hrow7 hO3 hnews;go_wp2;exact hX.out _ _ _ zo rfl ⟨k+1,.slice va (k+1) vc,_,mk2,zo,rfl,rfl,hO4,Hk2.out.1,Hk2.out.2⟩
 ·obtain rfl:k=l.length:=zo;rw[List.take_length] at hrow;have htl:(dL l (bt out)).length=l.length:=by simp[dL]
  have hst:=fD (l:=dL l (bt out)) (m:=mk) (by rw[htl];exact hO.row) hrow hO.free;have hst2:=bu hO.bg.done hst;have Hk:=zh (zi hst2 (zi hO.below HF.out));clear hst hst2 hO hrow htl;go_wp2;exact hR.out _ _ ⟨_,bt out,rfl,Hk.out.2.1,Hk.out.1,Hk.out.2.2⟩
theorem lw {o:List Nat} {k:Nat} (h:k<o.length):(bL o)[k]?=some (.int .i64 (o[k]:Nat)):=by simp[bL,h]
theorem rP (o:List Nat) (es:List Ed) (e:Ed) (q:Nat):dz (renE o es ++ [⟨e.lo,e.hi,(q:Int)⟩])=dz (renE o es) ++ [.int .u8 e.lo,.int .u8 e.hi,.int .i64 q]:=by rw[eY]
theorem Cm (v0:Value) (l:Table) (m:Mem) (w:World) (hm:m.inn w) (hl:aR m v0 l) (hwf:WF l) (hlen:l.length≤1000000) (hpos:0<l.length) (hel:∀s∈l,s.edges.length≤1000000) :
 Calls Tryz.prog 147 #[v0] w fun e w'=>∃r o,e=.returned r∧Below w.heap.size w w'∧aR (m.grow w w') r (fG l o o.length)∧kJ l o o.length:=by
 have hby:=sF hl;obtain⟨a,c,rfl,h1,h2,h3⟩:=hl;unfold maxLen at h2;obtain⟨b,off,rfl,h4⟩:=h3 (by intro h;simp[h] at hpos);clear h3;refine ay fun R hR=>?_;have hO:=(((Own.start hm).al #[.int .i64 0] 3).Mr).dI 80 2;have HO:=zh (zi hO (Cn hpos));clear hO
 go_enter Tryz.func147,Tryz.ntmps147
 go_wp2;refine au [0,3,4,5] (fun n vs wr=>∃(k:Nat) (o:List Nat) (vo vst:Value) (xs:List Value) (mk:Mem),n=l.length - k∧vs=[.slice (some ⟨b,off,none⟩) l.length c,vo,vst,.int .i64 k] ∧
  Own w m wr mk [.row vst 80 2 k xs,.row vo 3 1 o.length (bL o)]∧kI mk xs (fG l o k)∧kJ l o k) ?_ ?_
 ·exact⟨_,0,[0],.slice (some ⟨w.heap.size,0,none⟩) 1 1,.slice none 0 0,[],_,rfl,rfl,HO.out.1,kI.nil _,HO.out.2⟩
 clear HO;rintro X z n vs wr hX - ⟨k,o,vo,vst,xs,mk,rfl,rfl,hO,hrow,hRI⟩;simp[litL,lk];obtain⟨vsta,vstc,rfl⟩:=aQ hO.row;obtain⟨voa,voc,rfl⟩:=aQ hO.swap.row;have hoN:=uj hRI.nodup hRI.lt;have hkle:=hRI.le;by_cases hlt:k<o.length
 ·obtain⟨vob,rfl⟩:=iJ hO.swap.row zo;have hsN:=hRI.lt _ (List.getElem_mem hlt);have r1:=aP hO.swap.row (lw hlt);obtain⟨g1,ve,g2,ea,ec,rfl,g4,g5,g6⟩:=h4 o[k] hsN;have hmr:=Mem.cz hO.ext.le hO.inn;have g1w:=Mem.aj hmr g1;have g2w:=Mem.aj hmr g2;have hgl:=Mem.av hmr g1;have rl:=(World.ownsRow.lt hO.swap.row _ rfl).2;have hwfl:=hwf l[o[k]] (List.getElem_mem hsN);have hell:=hel l[o[k]] (List.getElem_mem hsN);have hbyl:=hby l[o[k]] (List.getElem_mem hsN);have hgs:l[o[k]]?=some l[o[k]]:=by simp[hsN]
  have hst0:=JU hRI (l[o[k]]).edges;have hnext:=fun o'=>FY hRI hlt hgs (o':=o');have HX:=zh (zi hnext (zi hst0 (zi hwfl hbyl)));clear hnext hst0 hgs hwfl hbyl;generalize l[o[k]]=st at *
  generalize o[k]=s at *
  unfold maxLen at g5;have hO2:=(hO.al #[.bool st.accept,.slice none 0 0] 80).dI 104 3;have HO2:=zh hO2;clear hO2 hO;generalize hS:wr.heap.size=S at *
  go_wp2;refine au [0,4,5,6,3,33,34,35] (fun n vs w2=>∃(j:Nat) (o':List Nat) (vo' vx:Value),j≤st.edges.length∧n=st.edges.length - j ∧
   vs=[.slice (some ⟨b,off,none⟩) l.length c,.slice vsta k vstc,.int .i64 k,.pointer (some ⟨S,0,none⟩),vo',.slice ea st.edges.length ec,.int .i64 st.edges.length,.int .i64 j] ∧
   Own w m w2 mk [.row vx 104 3 j (dz (renE o' (st.edges.take j))),.obj S 80 #[.bool st.accept,vx],.row (.slice vsta k vstc) 80 2 k xs,.row vo' 3 1 o'.length (bL o')] ∧
   InR l o st.edges j o') ?_ ?_
  ·exact⟨_,0,o,.slice (some ⟨vob,0,none⟩) o.length voc,.slice none 0 0,Nat.zero_le _,rfl,rfl,HO2.out,HX.out.2.1⟩
  clear HO2 g1w g2w hgl hmr r1 rl;rintro Y z2 n vs w2 hY - ⟨j,o',vo',vx,hj,rfl,rfl,hO,hI⟩;simp[litL,lk];obtain⟨vxa,vxc,rfl⟩:=aQ hO.row;obtain⟨voa',voc',rfl⟩:=aQ hO.fourth.row;have hoN':=uj hI.nodup hI.lt;have hol':=hI.pre.length_le;by_cases hlt2:j<st.edges.length
  ·obtain⟨b',off',rfl,h10⟩:=g6 (by intro h;simp[h] at hlt2);obtain⟨e1,e2,e3,e4,e5,e6⟩:=h10 j hlt2;have hmr:=Mem.cz hO.ext.le hO.inn;have e1w:=Mem.aj hmr e1;have e2w:=Mem.aj hmr e2;have e3w:=Mem.aj hmr e3;have ebl:=Mem.av hmr e1;have hte:=dD HX.out.2.2.1 st.edges[j] (List.getElem_mem hlt2);have hstep:=LM hI hlt2 zo;obtain⟨en,hen⟩:=Int.eq_ofNat_of_zero_le hte.2.1;have hte2:=hte.2.2;rw[hen] at e3w hte2 hstep;rw[Int.toNat_natCast] at hstep;obtain⟨vob',rfl⟩:=iJ hO.fourth.row zo;have HST:=zh hstep;clear hstep hte hen;generalize st.edges[j]=e at *
   have hO2:=hO.al #[.int .u8 e.lo,.int .u8 e.hi,.int .i64 en] 104;have HO2:=zh hO2;have hne:S<w2.heap.size:=hO.swap.obj.lt;clear hO2 hO;generalize hE:w2.heap.size=E at *
   go_wp2;refine au [0,4,5,6,3,33,34,35,8,9] (fun n vs w3=>∃(q:Nat),q≤eD o' en∧n=o'.length - q ∧
    vs=[.slice (some ⟨b,off,none⟩) l.length c,.slice vsta k vstc,.int .i64 k,.pointer (some ⟨S,0,none⟩),.slice (some ⟨vob',0,none⟩) o'.length voc',.slice (some ⟨b',off',none⟩) st.edges.length ec,.int .i64 st.edges.length,.int .i64 j,.pointer (some ⟨E,0,none⟩),.int .i64 q] ∧
    Own w m w3 mk [.obj E 104 #[.int .u8 e.lo,.int .u8 e.hi,.int .i64 en],.row (.slice vxa j vxc) 104 3 j (dz (renE o' (st.edges.take j))),.obj S 80 #[.bool st.accept,.slice vxa j vxc],.row (.slice vsta k vstc) 80 2 k xs,.row (.slice (some ⟨vob',0,none⟩) o'.length voc') 3 1 o'.length (bL o')]) ?_ ?_
   ·exact⟨_,0,Nat.zero_le _,rfl,rfl,HO2.out⟩
   clear HO2 e1w e2w e3w ebl hmr;rintro Z z3 n vs w3 hZ - ⟨q,hq,rfl,rfl,hO⟩;simp[litL,lk];have hip:=EJ o' en;have f2:=hO.obj.cell (i:=2) rfl;have fl:=hO.obj.lt;go_wp2;refine aN [0,4,5,6,3,33,34,35,8,9,51] (fun vs w'=>∃(bb:Bool) (nq:Nat),vs=[.slice (some ⟨b,off,none⟩) l.length c,.slice vsta k vstc,.int .i64 k,.pointer (some ⟨S,0,none⟩),.slice (some ⟨vob',0,none⟩) o'.length voc',.slice (some ⟨b',off',none⟩) st.edges.length ec,.int .i64 st.edges.length,.int .i64 j,.pointer (some ⟨E,0,none⟩),.int .i64 q,.bool bb] ∧
    w'=w3.drewN nq∧(bb=true→q<o'.length∧q+1≤eD o' en)∧(bb=false→q=eD o' en)) ?_ ?_
   ·intro V hV;by_cases hq2:q<o'.length
    ·have hnx:=GU hq hq2;have r2:=aP hO.fifth.row (lw hq2);have HN:=zh hnx;clear hnx;generalize o'[q]=y at *
     by_cases hy:y=en
     ·have hne2:((y:Int) != (en:Int))=false:=by simp[hy]
      have HY:=zh hy;clear hy;refine wp_region_quiet_lit zk zk ?_
      repeat (any_goals (first | go_big_quiet_step (fail) | quiet_step (fail) | (refine wpQuiet_step (fun K hK=>?_);go_simp;split <;> (refine hK _ ?_;clear hK K))))
      all_goals (refine wpQuiet_nil ?_;intro _ hw';obtain⟨nq,hw''⟩:=hw';subst hw'')
      all_goals go_wp2
      all_goals refine hV.out _ _ rfl ⟨false,nq,rfl,rfl,(fun h=>by cases h),fun _=>?_⟩
      all_goals
       have:=HN.out;rw[if_pos HY.out] at this;exact this
     ·have hne2:((y:Int) != (en:Int))=true:=by simp;omega
      have HY:=zh hy;clear hy;refine wp_region_quiet_lit zk zk ?_
      repeat (any_goals (first | go_big_quiet_step (fail) | quiet_step (fail) | (refine wpQuiet_step (fun K hK=>?_);go_simp;split <;> (refine hK _ ?_;clear hK K))))
      all_goals (refine wpQuiet_nil ?_;intro _ hw';obtain⟨nq,hw''⟩:=hw';subst hw'')
      all_goals go_wp2
      all_goals refine hV.out _ _ rfl ⟨true,nq,rfl,rfl,(fun _=>⟨hq2,?_⟩),(fun h=>by cases h)⟩
      all_goals
       have:=HN.out;rw[if_neg HY.out] at this;exact this
    ·refine wp_region_quiet_lit zk zk ?_
     repeat (any_goals (first | go_big_quiet_step (fail) | quiet_step (fail) | (refine wpQuiet_step (fun K hK=>?_);go_simp;split <;> (refine hK _ ?_;clear hK K))))
     all_goals (refine wpQuiet_nil ?_;intro _ hw';obtain⟨nq,hw''⟩:=hw';subst hw'')
     all_goals go_wp2
     all_goals exact hV.out _ _ rfl ⟨false,nq,rfl,rfl,(fun h=>by cases h),fun _=>zo⟩
   rintro z4 vs w4 - ⟨bb,nq,rfl,rfl,hb1,hb2⟩;simp[litL,lk];have hO2:=hO.drN nq;clear hO f2 fl
   cases bb with
   | true=>
    obtain⟨hq3,hq4⟩:=hb1 rfl;clear hb1 hb2;go_wp2
    exact hZ.out _ _ _ zo rfl ⟨q+1,hq4,rfl,rfl,hO2⟩
   | false=>
    obtain rfl:=hb2 rfl;clear hb1 hb2;have f2:=hO2.obj.cell (i:=2) rfl;have fl:=hO2.obj.lt
    go_upto_if 57 with (fail)
    refine aN [0,4,5,6,3,33,34,35,8,9] (fun vs w5=>∃vo2:Value,vs=[.slice (some ⟨b,off,none⟩) l.length c,.slice vsta k vstc,.int .i64 k,.pointer (some ⟨S,0,none⟩),vo2,.slice (some ⟨b',off',none⟩) st.edges.length ec,.int .i64 st.edges.length,.int .i64 j,.pointer (some ⟨E,0,none⟩),.int .i64 (eD o' en)] ∧
     Own w m w5 mk [.obj E 104 #[.int .u8 e.lo,.int .u8 e.hi,.int .i64 en],.row (.slice vxa j vxc) 104 3 j (dz (renE o' (st.edges.take j))),.obj S 80 #[.bool st.accept,.slice vxa j vxc],.row (.slice vsta k vstc) 80 2 k xs,.row vo2 3 1 (kP o' en).length (bL (kP o' en))]) ?_ ?_
    ·intro V hV;by_cases hfull:eD o' en<o'.length
     ·have hdec:(((eD o' en:Nat):Int)==(o'.length:Int))=false:=beq_eq_false_iff_ne.2 zo;have hia:kP o' en=o':=by unfold kP;rw[if_pos hfull]
      have Hia:=zh hia;clear hia;go_wp2;refine hV.out _ _ rfl ⟨.slice (some ⟨vob',0,none⟩) o'.length voc',rfl,?_⟩;rw[Hia.out];exact hO2
     ·have hdec:(((eD o' en:Nat):Int)==(o'.length:Int))=true:=beq_iff_eq.2 zo;have hia:kP o' en=o' ++ [en]:=by unfold kP;rw[if_neg hfull]
      have Hia:=zh hia;have hO3:=hO2.al #[.int .i64 en] 3;clear hia;have hwsz:(w3.drewN nq).heap.size=w3.heap.size:=rfl;rw[hwsz] at hO3;have hnews:=hO3.obj.news rfl
      go_wp2_with (at_builtin;refine aC oJ rfl (.tmp 58) (.tmp 61) rfl (.slice (some ⟨vob',0,none⟩) o'.length voc') o'.length (bL o') rfl (hO3.jT zS) ⟨w3.heap.size,0,none⟩ 1 1 [.int .i64 en] rfl rfl hnews (by simp[Value.oneCell']) (by unfold maxLen;omega) zo ?_)
      intro va vc w7 hown7 hgrow7 hrow7;have hO4:=(hO3.pull (l₁:=[_,_,_,_,_])).app hown7 hgrow7 hrow7 zS;have hO5:=(hO4.D6 (l₁:=[_,_,_,_,_])).tail;have HO5:=zh hO5;clear hO5 hO4 hO3 hown7 hgrow7 hrow7 hnews;go_wp2;refine hV.out _ _ rfl ⟨.slice va (o'.length+1) vc,rfl,?_⟩;rw[Hia.out];have:=HO5.out;simpa [bL] using this
    rintro z5 vs w5 - ⟨vo2,rfl,hO3⟩;simp[litL,lk];have f0:=hO3.obj.cell (i:=0) rfl;have f1:=hO3.obj.cell (i:=1) rfl;have fl:=hO3.obj.lt;have x1:=hO3.third.obj.cell (i:=1) rfl;have xl:=hO3.third.obj.lt;obtain⟨vo2a,vo2c,rfl⟩:=aQ (hO3.jT (v:=vo2) (t:=3) (size:=1) (n:=(kP o' en).length) (xs:=bL (kP o' en)) zS);have hO4:=hO3.tail.al #[.int .u8 e.lo,.int .u8 e.hi,.int .i64 (eD o' en)] 104;have hnews:=hO4.obj.news rfl;clear hO3 hO2
    go_wp2_with (at_builtin;refine aC xJ rfl (.tmp 64) (.tmp 71) rfl (.slice vxa j vxc) j (dz (renE o' (st.edges.take j))) rfl hO4.swap.row ⟨w5.heap.size,0,none⟩ 1 1 [.int .u8 e.lo,.int .u8 e.hi,.int .i64 (eD o' en)] rfl rfl hnews (by simp[Value.oneCell']) (by unfold maxLen;omega) zo ?_)
    intro va vc w7 hown7 hgrow7 hrow7;have hO5:=(hO4.swap.app hown7 hgrow7 hrow7 zS).third;clear hown7 hgrow7 hrow7 hO4 hnews;have u2:=hO5.obj.cell (i:=1) rfl;have u3:=hO5.obj.frozen 1;have u4:=hO5.obj.lt;have hO6:=((hO5.set 1 (.slice va (j+1) vc)).swap).jO;have HO6:=zh hO6;clear hO6 hO5;go_wp2;refine hY.out _ _ _ zo rfl ⟨j+1,kP o' en,.slice vo2a (kP o' en).length vo2c,.slice va (j+1) vc,zo,rfl,rfl,?_,HST.out.1⟩;rw[HST.out.2,rP];exact HO6.out
  ·obtain rfl:j=st.edges.length:=zo;rw[List.take_length] at hO;have hn:=HX.out.1 o' hI;have hok:∀e∈renE o' st.edges,edOk e:=fun e he=>by
    obtain⟨e0,he0,rfl⟩:=List.mem_map.1 he;have q1:=HX.out.2.2.2 e0 he0;have q2:=EJ o' e0.to.toNat;exact⟨q1.1,q1.2,by show _≤((eD o' e0.to.toNat:Nat):Int);omega,by show ((eD o' e0.to.toNat:Nat):Int)≤_;omega⟩
   have hrl:(renE o' st.edges).length=st.edges.length:=by simp[renE]
   have hes:=iD (m:=mk) (l:=renE o' st.edges) (by rw[hrl];exact hO.row) hok;have hmk2:=Mem.dh (w:=w2) hO.free;have hrow2:=(hrow.mono hmk2).push (s:=⟨st.accept,renE o' st.edges⟩) hes;have hO2:=hO.bg;have x0:=hO2.obj.cell (i:=0) rfl;have x1:=hO2.obj.cell (i:=1) rfl;have xl:=hO2.obj.lt;have hO3:=hO2.al #[.bool st.accept,.slice vxa st.edges.length vxc] 80;have Hk2:=zh (zi hrow2 hn);clear hrow2 hes hmk2 hok hrl hn hI;generalize mk.addv w2 (.slice vxa st.edges.length vxc)=mk2 at *
   have hnews:=hO3.obj.news rfl;clear hO hO2
   go_wp2_with (at_builtin;refine aC lY rfl (.tmp 75) (.tmp 77) rfl (.slice vsta k vstc) k xs rfl hO3.third.row ⟨w2.heap.size,0,none⟩ 1 1 [.bool st.accept,.slice vxa st.edges.length vxc] rfl rfl hnews (by simp[Value.oneCell']) (by unfold maxLen;omega) zo ?_)
   intro va vc w7 hown7 hgrow7 hrow7;have hO4:=((hO3.third.app hown7 hgrow7 hrow7 zS)).drop2.drop2;clear hown7 hgrow7 hrow7 hO3 hnews;go_wp2;refine hX.out _ _ _ zo rfl ⟨k+1,o',.slice voa' o'.length voc',.slice va (k+1) vc,_,mk2,rfl,rfl,hO4,?_,Hk2.out.2.1⟩;rw[Hk2.out.2.2];exact Hk2.out.1
 ·obtain rfl:k=o.length:=zo;have htl:(fG l o o.length).length=o.length:=by simp[fG]
  have hst:=fD (l:=fG l o o.length) (m:=mk) (by rw[htl];exact hO.row) hrow hO.free;have hst2:=bu hO.bg.done hst;have Hk:=zh (zi hst2 (zi hO.below hRI));clear hst hst2 hO hrow htl hRI;go_wp2;exact hR.out _ _ ⟨_,o,rfl,Hk.out.2.1,Hk.out.1,Hk.out.2.2⟩
theorem zQ (v v':Value) (l l':List Int) (m:Mem) (w:World) (hm:m.inn w) (hl:dA m v l) (hl':dA m v' l') :
 Calls Tryz.prog 221 #[v,v'] w fun e w'=>e=.returned (.bool (tf (l=l')))∧Below w.heap.size w w':=by
 obtain⟨a,c,rfl,h1,h2,h3⟩:=hl;obtain⟨a',c',rfl,h1',h2',h3'⟩:=hl';unfold maxLen at h2 h2';refine ay fun R hR=>?_;by_cases hlen:l.length=l'.length
 ·have hne:((l.length:Int) != (l'.length:Int))=false:=by simp[hlen]
  have Hlen:=zh hlen;clear hlen
  go_enter Tryz.func221,Tryz.ntmps221
  go_wp2;refine au [0,1,12,13] (fun n vs wr=>∃k:Nat,k≤l.length∧n=l.length - k∧vs=[.slice a l.length c,.slice a' l'.length c',.int .i64 l.length,.int .i64 k]∧(l=l'↔l.drop k=l'.drop k)∧Below w.heap.size w wr) ?_ ?_
  ·exact⟨_,0,Nat.zero_le _,rfl,rfl,Iff.rfl,Below.refl _ _⟩
  rintro X z n vs wr hX - ⟨k,hk,rfl,rfl,hrel,hbel⟩;have Hrel:=zh hrel;clear hrel;simp[litL,lk];have hmr:=Mem.bE hm hbel;by_cases hlt:k<l.length
  ·have hlt':k<l'.length:=by rw[← Hlen.out];exact hlt
   obtain⟨b,off,rfl,h4⟩:=h3 (by intro h;simp[h] at hlt);obtain⟨b',off',rfl,h4'⟩:=h3' (by intro h;simp[h] at hlt');have c1:=Mem.aj hmr (h4 k hlt).1;have c1':=Mem.aj hmr (h4' k hlt').1;have HD:=zh (dM l l' k hlt hlt');by_cases heq:l[k]=l'[k]
   ·have hb1:(l[k] != l'[k])=false:=by simp[heq]
    have Heq:=zh heq;clear heq;go_wp2
    go_quiet (fail)
    go_wp2;exact hX.out _ _ _ zo rfl ⟨k+1,zo,rfl,rfl,Hrel.out.trans (HD.out.trans ⟨fun h=>h.2,fun h=>⟨Heq.out,h⟩⟩),below_drewN hbel _⟩
   ·have hb1:(l[k] != l'[k])=true:=by simp[heq]
    have Heq:=zh heq;clear heq;go_wp2
    go_quiet (fail)
    go_wp2;exact hR.out _ _ ⟨aJ (by rw[az];intro h;exact Heq.out (HD.out.1 (Hrel.out.1 h)).1),below_drewN hbel _⟩
  ·go_wp2;refine hR.out _ _ ⟨aJ ?_,hbel⟩;rw[aI (Hrel.out.2 ?_)];rw[List.drop_eq_nil_of_le zo,List.drop_eq_nil_of_le (by rw[← Hlen.out];omega)]
 ·have hne:((l.length:Int) != (l'.length:Int))=true:=by simp;omega
  go_enter Tryz.func221,Tryz.ntmps221
  go_wp2;exact hR.out _ _ ⟨aJ (by rw[az (fun h=>hlen (by rw[h]))]),Below.refl _ _⟩
theorem L6 (v v':Value) (l:List (List Int)) (x:List Int) (m:Mem) (w:World) (hm:m.inn w) (hl:j5 m v l) (hx:dA m v' x) :
 Calls Tryz.prog 189 #[v,v'] w fun e w'=>e=.returned (.int .i64 (firstIdx (fun y=>y=x) l 0))∧Below w.heap.size w w':=by
 have hcall:=fun u y hu w1 hm1=>zQ u v' y x m w1 hm1 hu hx;have Hc:=zh hcall;clear hcall;obtain⟨a,c,rfl,h1,h2,h3⟩:=hl;obtain⟨ax,cx,rfl,-⟩:=hx;unfold maxLen at h2;refine ay fun R hR=>?_
 go_enter Tryz.func189,Tryz.ntmps189
 go_wp2;refine au [0,1,7,8] (fun n vs wr=>∃k:Nat,k≤l.length∧n=l.length - k∧vs=[.slice a l.length c,.slice ax x.length cx,.int .i64 l.length,.int .i64 k]∧firstIdx (fun y=>y=x) l 0=firstIdx (fun y=>y=x) (l.drop k) k∧Below w.heap.size w wr) ?_ ?_
 ·exact⟨_,0,Nat.zero_le _,rfl,rfl,rfl,Below.refl _ _⟩
 rintro X z n vs wr hX - ⟨k,hk,rfl,rfl,hrel,hbel⟩;have Hrel:=zh hrel;clear hrel;simp[litL,lk];have hmr:=Mem.bE hm hbel;by_cases hlt:k<l.length
 ·obtain⟨b,off,rfl,h4⟩:=h3 (by intro h;simp[h] at hlt);obtain⟨u,hu1,hu2⟩:=h4 k hlt;have hc:=Hc.out u l[k] hu2 _ hmr;obtain⟨ua,uc,rfl,-⟩:=hu2;have c1:=Mem.aj hmr hu1;have HD:=zh (ku (fun y=>y=x) l k hlt);have Hcc:=zh hc;clear hc
  go_wp2_with fail
  refine Hcc.out.mono ?_;rintro e w' ⟨rfl,hbel2⟩;by_cases hx:l[k]=x
  ·rw[aI hx];have Hx:=zh hx;clear hx;go_wp2;exact hR.out _ _ ⟨fF (by rw[Hrel.out,HD.out,if_pos (aI Hx.out)]),bZ hbel hbel2⟩
  ·rw[az hx];go_wp2;exact hX.out _ _ _ zo rfl ⟨k+1,zo,rfl,rfl,by rw[Hrel.out,HD.out,if_neg (by rw[az hx];simp)],bZ hbel hbel2⟩
 ·go_wp2;exact hR.out _ _ ⟨fF (by rw[Hrel.out,List.drop_eq_nil_of_le zo];rfl),hbel⟩
theorem Ae (v v':Value) (l cl:List Int) (x:Nat) (m:Mem) (w:World) (hm:m.inn w) (hl:dA m v l) (hc:dA m v' cl) (hx:x<cl.length) (hlc:∀y∈l,0≤y∧y<cl.length) :
 Calls Tryz.prog 150 #[v,v',.int .i64 x] w fun e w'=>e=.returned (.int .i64 (let r:=firstIdx (fun y=>cl.getD y.toNat 0=cl[x]) l 0;if r<0 then l.length else r))∧Below w.heap.size w w':=by
 obtain⟨a,c,rfl,h1,h2,h3⟩:=hl;obtain⟨a',c',rfl,h1',h2',h3'⟩:=hc;obtain⟨b',off',rfl,h4'⟩:=h3' (by intro h;simp[h] at hx);unfold maxLen at h2 h2';refine ay fun R hR=>?_
 go_enter Tryz.func150,Tryz.ntmps150
 go_wp2;refine au [0,1,2,9,10,11] (fun n vs wr=>∃k:Nat,k≤l.length∧n=l.length - k∧vs=[.slice a l.length c,.slice (some ⟨b',off',none⟩) cl.length c',.int .i64 x,.slice a l.length c,.int .i64 l.length,.int .i64 k]∧firstIdx (fun y=>cl.getD y.toNat 0=cl[x]) l 0=firstIdx (fun y=>cl.getD y.toNat 0=cl[x]) (l.drop k) k∧Below w.heap.size w wr) ?_ ?_
 ·exact⟨_,0,Nat.zero_le _,rfl,rfl,rfl,Below.refl _ _⟩
 rintro X z n vs wr hX - ⟨k,hk,rfl,rfl,hrel,hbel⟩;have Hrel:=zh hrel;clear hrel;simp[litL,lk];have hmr:=Mem.bE hm hbel;by_cases hlt:k<l.length
 ·obtain⟨b,off,rfl,h4⟩:=h3 (by intro h;simp[h] at hlt);have c1:=Mem.aj hmr (h4 k hlt).1;obtain⟨y,hy⟩:=Int.eq_ofNat_of_zero_le (hlc l[k] (List.getElem_mem hlt)).1;have hy2:y<cl.length:=by have:=(hlc l[k] (List.getElem_mem hlt)).2;omega
  have hgd:cl.getD (l[k]).toNat 0=cl[y]:=by rw[hy];simp[hy2]
  rw[hy] at c1;have Hgd:=zh hgd;clear hgd hy;have c2:=Mem.aj hmr (h4' y hy2).1;have c3:=Mem.aj hmr (h4' x hx).1;have HD:=zh (ku (fun y=>cl.getD y.toNat 0=cl[x]) l k hlt);by_cases heq:cl[y]=cl[x]
  ·have hb1:(cl[y]==cl[x])=true:=by simp[heq]
   have Heq:=zh heq;clear heq;go_wp2
   go_quiet (fail)
   go_wp2;refine hR.out _ _ ⟨fF ?_,below_drewN hbel _⟩;rw[Hrel.out,HD.out,if_pos (aI (by rw[Hgd.out];exact Heq.out))];rw[if_neg zo]
  ·have hb1:(cl[y]==cl[x])=false:=by simp[heq]
   have Heq:=zh heq;clear heq;go_wp2
   go_quiet (fail)
   go_wp2;exact hX.out _ _ _ zo rfl ⟨k+1,zo,rfl,rfl,by rw[Hrel.out,HD.out,if_neg (by rw[az (by rw[Hgd.out];exact Heq.out)];simp)],below_drewN hbel _⟩
 ·go_wp2;exact hR.out _ _ ⟨fF (by rw[Hrel.out,List.drop_eq_nil_of_le zo];rfl),hbel⟩
def sigP (cls:List Int) (ta:Nat→Nat→Int) (s i:Nat):List Int:=cls.getD s 0::(List.range i).map fun i=>pR cls (ta s i)
theorem I9 (cls:List Int) (ta:Nat→Nat→Int) (s i:Nat):sigP cls ta s (i+1)=sigP cls ta s i ++ [pR cls (ta s i)]:=by
 unfold sigP;rw[List.range_succ,List.map_append];rfl
theorem yu (l:List (List Int)) (x:List Int):firstIdx (fun y=>y=x) l 0=if l.findIdx (·==x)<l.length then ((l.findIdx (·==x):Nat):Int) else -1:=by
 rcases kr (fun y=>y=x) l 0 with ⟨h1,h2⟩ | ⟨i,h1,h2,h3,h4⟩
 ·rw[h1,if_neg];intro h;obtain⟨y,hy,hp⟩:=List.findIdx_lt_length.1 h;exact h2 y hy (by simpa using hp)
 ·have:l.findIdx (·==x)=i:=by
   rw[List.findIdx_eq h1];exact⟨by simpa using h3,fun j hj=>by simpa using h4 j zo hj⟩
  rw[h2,this,if_pos h1];simp
theorem Dz {cls:List Int} {n:Nat} (_:cls.length=n) (hr:∀s,s<n→0≤cls.getD s 0∧cls.getD s 0≤n) {x:Int} (hx : -1≤x∧x<n) : -1≤pR cls x∧pR cls x≤n:=by
 unfold pR
 split
 ·omega
 ·have:=hr x.toNat zo;omega
theorem DC (v0 v1:Value) (l:Table) (cuts:List Int) (lo hi:Nat→Nat) (m:Mem) (w:World) (hm:m.inn w) (hl:aR m v0 l) (hc:dA m v1 cuts) (hwf:WF l) (hlen:l.length≤1000000) (hpos:1≤l.length)
 (H:BH l l.length lo hi cuts.length (fun s i=>aW l s (lo i))) (hlo:∀i,(h:i<cuts.length)→cuts[i]=lo i) (hclen:cuts.length≤256) :
 Calls Tryz.prog 149 #[v0,v1] w fun e w'=>∃r cls,e=.returned r∧Below w.heap.size w w'∧dA (m.grow w w') r cls∧qR l l.length cls:=by
 have hl0:=hl;obtain⟨a,c,rfl,h1,h2,h3⟩:=hl;obtain⟨ca,cc,rfl,c1,c2,c3⟩:=hc;unfold maxLen at h2 c2;obtain⟨b,off,rfl,h4⟩:=h3 (by intro h;simp[h] at hpos);clear h3;refine ay fun R hR=>?_
 go_enter Tryz.func149,Tryz.ntmps149
 go_wp2_with (refine wpList_make_row wQ rfl (.tmp 18) (.tmp 18) rfl l.length rfl rfl zo (by unfold maxLen;omega) ?_)
 intro w1 hown1 hgrow1;have hO:=((Own.start hm).make hown1 hgrow1);rw[jk] at hO;clear hown1 hgrow1;generalize w.heap.size=B at hO ⊢;go_wp2;refine au [0,1,5,20,21,22] (fun n vs wr=>∃k:Nat,k≤l.length∧n=l.length - k∧vs=[.slice (some ⟨b,off,none⟩) l.length c,.slice ca cuts.length cc,.slice (some ⟨B,0,none⟩) l.length l.length,.slice (some ⟨b,off,none⟩) l.length c,.int .i64 l.length,.int .i64 k] ∧
  Own w m wr m [.row (.slice (some ⟨B,0,none⟩) l.length l.length) 3 1 l.length (fM (((l.take k).map (·.accept)).map b2i) (l.length - k))]) ?_ ?_
 ·exact⟨_,0,Nat.zero_le _,rfl,rfl,by simpa using hO⟩
 clear hO;rintro X z n vs wr hX - ⟨k,hk,rfl,rfl,hO⟩;simp[litL,lk];by_cases hlt:k<l.length
 ·obtain⟨g1,ve,g2,ea,ec,rfl,g4,g5,g6⟩:=h4 k hlt;have g1w:=Mem.aj hO.inn g1;have g2w:=Mem.aj hO.inn g2;have hgl:=Mem.av hO.inn g1;have hst:=uH (acc:=l.map (·.accept)) (k:=k) (N:=l.length) (by simpa using hlt) zS;rw[← List.map_take,← List.map_take,List.getElem_map] at hst;have r1:=aP (j:=k) (u:=.int .i64 0) hO.row (fK (by simp;omega) zo);have r2:=bU hO.row k;have r3:=(World.ownsRow.lt hO.row _ rfl).2;have hO2:=hO.setRow k (.int .i64 1);have HS:=zh (zi hst (zi hO hO2));clear hst hO hO2
  cases hb:(l[k]).accept with
  | true=>
   rw[hb] at g1w HS;go_wp2;refine hX.out _ _ _ zo rfl ⟨k+1,zo,rfl,rfl,?_⟩;rw[HS.out.1]
   exact HS.out.2.2.al' _
  | false=>
   rw[hb] at g1w HS;go_wp2;refine hX.out _ _ _ zo rfl ⟨k+1,zo,rfl,rfl,?_⟩;rw[HS.out.1,show Value.int .i64 (b2i false)=.int .i64 0 from rfl];have:∀{xs:List Value},xs[k]?=some (.int .i64 0)→xs.set k (.int .i64 0)=xs:=fun {xs} h=>by
    obtain⟨h1,h2⟩:=List.getElem?_eq_some_iff.1 h;rw[← h2,List.set_getElem_self]
   rw[this (fK (by simp;omega) zo)];exact HS.out.2.1.al' _
 ·obtain rfl:k=l.length:=zo;rw[List.take_length,Nat.sub_self,kw] at hO;have hstart:rF l l.length ((l.map (·.accept)).map b2i) 0:=zU hpos zS fun s hs=>by
   rw[dF l s hs];simp[hs,b2i]
  have hin:=bN (l:=(l.map (·.accept)).map b2i) (m:=m) (by simpa using hO.row) (fun x hx=>by
   obtain⟨b,-,rfl⟩:=List.mem_map.1 hx;unfold b2i;split <;> omega)
  have hO4:=hO.bg;have hle:=Mem.dh (w:=wr) hO.free;generalize m.addv wr (.slice (some ⟨B,0,none⟩) l.length l.length)=mk1 at *
  generalize Value.slice (some ⟨B,0,none⟩) l.length l.length=vk at *
  generalize (l.map (·.accept)).map b2i=cls0 at *
  have Hk:=zh (zi hstart (zi hin (zi hO4 hle)));clear hstart hin hO4 hle hO;go_wp2;refine au [0,1,5,8,34,35] (fun n vs wr=>∃(r many:Nat) (cls:List Int) (vk:Value) (mk':Mem),n=l.length - r∧r≤l.length∧r≤many∧many≤l.length ∧
   vs=[.slice (some ⟨b,off,none⟩) l.length c,.slice ca cuts.length cc,vk,.int .i64 many,.int .i64 l.length,.int .i64 r] ∧
   rF l l.length cls many∧dA mk' vk cls∧Own w m wr mk' []∧m.le mk') ?_ ?_
  ·exact⟨_,0,0,cls0,vk,mk1,rfl,Nat.zero_le _,Nat.zero_le _,Nat.zero_le _,rfl,Hk.out.1,Hk.out.2.1,Hk.out.2.2.1,Hk.out.2.2.2⟩
  clear Hk;rintro Y z n vs wr2 hY - ⟨r,many,cls,vk,mk1,rfl,hr,hrm,hmany,rfl,hri,hin,hO,hle⟩;simp[litL,lk];have hclen2:=hri.len;have hrng:=hri.rng;have hin0:=hin;obtain⟨ka,kc,rfl,k1,k2,k3⟩:=hin;have hkpos:0<cls.length:=zo;obtain⟨kb,ko,rfl,k4⟩:=k3 (by intro h;simp[h] at hkpos);unfold maxLen at k2;have HRI:=zh (zi hri (zi hclen2 hrng));have hcl1:l.length≤cls.length:=zo;have hcl2:cls.length≤l.length:=zo;clear hri hclen2 hrng;by_cases hlt2:r<l.length
  ·go_wp2_with (refine wpList_make_row wQ rfl (.tmp 38) (.tmp 38) rfl l.length rfl rfl zo (by unfold maxLen;omega) ?_)
   intro w3 hown3 hgrow3;have hO2:=(hO.make hown3 hgrow3).dI 135 1;rw[jk] at hO2;have HO2:=zh hO2;clear hO2 hO hown3 hgrow3;generalize wr2.heap.size=M at *
   go_wp2;refine au [0,1,5,8,34,35,9,10,41,42] (fun n vs w4=>∃(s:Nat) (vs':Value) (xs:List Value) (mk:Mem),s≤l.length∧n=l.length - s ∧
    vs=[.slice (some ⟨b,off,none⟩) l.length c,.slice ca cuts.length cc,.slice (some ⟨kb,ko,none⟩) cls.length kc,.int .i64 many,.int .i64 l.length,.int .i64 r,vs',.slice (some ⟨M,0,none⟩) l.length l.length,.int .i64 l.length,.int .i64 s] ∧
    Own w m w4 mk [.row vs' 135 1 (dO (sig cls (fun s i=>aW l s (lo i)) cuts.length) s).1.length xs,.row (.slice (some ⟨M,0,none⟩) l.length l.length) 3 1 l.length (fM (dO (sig cls (fun s i=>aW l s (lo i)) cuts.length) s).2 (l.length - s))] ∧
    jo mk xs (dO (sig cls (fun s i=>aW l s (lo i)) cuts.length) s).1∧mk1.le mk) ?_ ?_
   ·exact⟨_,0,.slice none 0 0,[],_,Nat.zero_le _,rfl,rfl,HO2.out,jo.nil _,Mem.le_refl _⟩
   clear HO2;rintro Z z3 n vs w4 hZ - ⟨s,vs',xs,mk,hs,rfl,rfl,hO,hrow,hmk⟩;simp[litL,lk];have hnum:=CE (sig cls (fun s i=>aW l s (lo i)) cuts.length) s;have hsn:=wL (sig cls (fun s i=>aW l s (lo i)) cuts.length) s;obtain⟨vsa,vsc,rfl⟩:=aQ hO.row;by_cases hlt3:s<l.length
   ·have hO':=hO;have d1:=k4 s zo;have hcs:cls.getD s 0=cls[s]'zo:=by simp[show s<cls.length by omega]
    have d1w:=Mem.aj hO.inn (Mem.aA hmk d1.1);have d1l:=Mem.av hO.inn (Mem.aA hmk d1.1);have hcsr:=(HRI.out.2.2 s hlt3);rw[← hcs] at d1w;have hO2:=(hO.al #[.int .i64 (cls.getD s 0)] 3).Mr;have HO2:=zh hO2;clear hO2 hO hO' hcs;generalize hN:w4.heap.size=N at *
    go_wp2;refine au [0,1,5,8,34,35,9,10,41,42,11,12,50,51,52] (fun n vs w5=>∃(i:Nat) (vr:Value),i≤cuts.length∧n=cuts.length - i ∧
     vs=[.slice (some ⟨b,off,none⟩) l.length c,.slice ca cuts.length cc,.slice (some ⟨kb,ko,none⟩) cls.length kc,.int .i64 many,.int .i64 l.length,.int .i64 r,.slice vsa (dO (sig cls (fun s i=>aW l s (lo i)) cuts.length) s).1.length vsc,.slice (some ⟨M,0,none⟩) l.length l.length,.int .i64 l.length,.int .i64 s,.int .i64 s,vr,.slice ca cuts.length cc,.int .i64 cuts.length,.int .i64 i] ∧
     Own w m w5 mk [.row vr 3 1 (i+1) ((sigP cls (fun s i=>aW l s (lo i)) s i).map (Value.int .i64)),.row (.slice vsa (dO (sig cls (fun s i=>aW l s (lo i)) cuts.length) s).1.length vsc) 135 1 (dO (sig cls (fun s i=>aW l s (lo i)) cuts.length) s).1.length xs,.row (.slice (some ⟨M,0,none⟩) l.length l.length) 3 1 l.length (fM (dO (sig cls (fun s i=>aW l s (lo i)) cuts.length) s).2 (l.length - s))]) ?_ ?_
    ·exact⟨_,0,.slice (some ⟨N,0,none⟩) 1 1,Nat.zero_le _,rfl,rfl,HO2.out⟩
    clear HO2 d1w;rintro V z4 n vs w5 hV - ⟨i,vr,hi1,rfl,rfl,hO⟩;simp[litL,lk];obtain⟨vra,vrc,rfl⟩:=aQ hO.row;by_cases hlt4:i<cuts.length
    ·obtain⟨cb,co,rfl,c4⟩:=c3 (by intro h;simp[h] at hlt4);have q1:=c4 i hlt4;rw[hlo i hlt4] at q1;have hmr:=Mem.cz hO.ext.le hO.inn;have q1w:=Mem.aj hmr q1.1;have hle5:=H.iv.le i hlt4;have hcall:=sH (.slice (some ⟨b,off,none⟩) l.length c) l s (lo i) m _ hmr hl0 zo zo;have hsg:=I9 cls (fun s i=>aW l s (lo i)) s i;have hwu:IntKind.u8.wrap (lo i:Int)=(lo i:Int):=IntWalk.u8_in _ zo;rcases dU hwf s (lo i) with ht | ⟨ht1,ht2⟩
     ·have hcl3:pR cls (aW l s (lo i)) = -1:=by rw[ht];rfl
      rw[ht] at hcall;rw[hcl3] at hsg;have HS:=zh (zi hcall hsg);clear hcall hsg ht hcl3
      go_wp2_with fail
      refine HS.out.1.mono ?_;rintro e w6 ⟨rfl,hb6⟩;have hO3:=(hO.move hb6).al #[.int .i64 (-1)] 3;have hnews:=hO3.obj.news rfl;have hb6s:=hb6.size;clear hO hb6
      go_wp2_with (at_builtin;refine aC oJ rfl (.tmp 67) (.tmp 69) rfl (.slice vra (i+1) vrc) (i+1) _ rfl hO3.swap.row ⟨w6.heap.size,0,none⟩ 1 1 [.int .i64 (-1)] rfl rfl hnews (by simp[Value.oneCell']) (by unfold maxLen;omega) zo ?_)
      intro va vc w7 hown7 hgrow7 hrow7;have hO4:=(hO3.swap.app hown7 hgrow7 hrow7 zS).drop2;have HO4:=zh hO4;clear hown7 hgrow7 hrow7 hO3 hnews hO4;go_wp2;refine hV.out _ _ _ zo rfl ⟨i+1,.slice va (i+1+1) vc,zo,rfl,rfl,?_⟩;rw[HS.out.2,List.map_append];exact HO4.out
     ·obtain⟨tn,htn⟩:=Int.eq_ofNat_of_zero_le ht1;rw[htn] at hcall ht2;have htl:tn<cls.length:=zo;have hcl3:pR cls (aW l s (lo i))=cls[tn]:=by
       rw[htn];unfold pR;rw[if_neg zo];simp[htl]
      rw[hcl3] at hsg;have k5:=k4 tn htl;generalize cls[tn]=y at *
      have HS:=zh (zi hcall hsg);clear hcall hsg ht1 hcl3 htn
      go_wp2_with fail
      refine HS.out.1.mono ?_;rintro e w6 ⟨rfl,hb6⟩;have hOm:=hO.move hb6;have k5w:=Mem.aj hOm.inn (Mem.aA hmk k5.1);have k5l:=Mem.av hOm.inn (Mem.aA hmk k5.1);have hO3:=hOm.al #[.int .i64 y] 3;have hnews:=hO3.obj.news rfl;have hb6s:=hb6.size;clear hO hb6 hOm
      go_wp2_with (at_builtin;refine aC oJ rfl (.tmp 67) (.tmp 69) rfl (.slice vra (i+1) vrc) (i+1) _ rfl hO3.swap.row ⟨w6.heap.size,0,none⟩ 1 1 [.int .i64 y] rfl rfl hnews (by simp[Value.oneCell']) (by unfold maxLen;omega) zo ?_)
      intro va vc w7 hown7 hgrow7 hrow7;have hO4:=(hO3.swap.app hown7 hgrow7 hrow7 zS).drop2;have HO4:=zh hO4;clear hown7 hgrow7 hrow7 hO3 hnews hO4;go_wp2;refine hV.out _ _ _ zo rfl ⟨i+1,.slice va (i+1+1) vc,zo,rfl,rfl,?_⟩;rw[HS.out.2,List.map_append];exact HO4.out
    ·obtain rfl:i=cuts.length:=zo;have esg:sigP cls (fun s i=>aW l s (lo i)) s cuts.length=sig cls (fun s i=>aW l s (lo i)) cuts.length s:=rfl;rw[esg] at hO;have hsl:(sig cls (fun s i=>aW l s (lo i)) cuts.length s).length=cuts.length+1:=by simp[sig]
     have hsr:∀x∈sig cls (fun s i=>aW l s (lo i)) cuts.length s,-9223372036854775808≤x∧x≤9223372036854775807:=by
      intro x hx;unfold sig at hx;rcases List.mem_cons.1 hx with rfl | hx
      ·omega
      ·obtain⟨j,hj,rfl⟩:=List.mem_map.1 hx;have:=Dz HRI.out.2.1 HRI.out.2.2 (H.rng s j hlt3 (List.mem_range.1 hj));simp only at this ⊢;omega
     have hs1:=hO.swap.bg;have hiss:=mZ hO.swap.row hrow hO.swap.free;have hs2:=hs1.bg;have hint:=bN (m:=mk.addv w5 (.slice vsa (dO (sig cls (fun s i=>aW l s (lo i)) cuts.length) s).1.length vsc)) (l:=sig cls (fun s i=>aW l s (lo i)) cuts.length s) (by rw[hsl];exact hO.row) hsr;have hfind:=L6 _ _ _ _ _ w5 hs2.inn (mr (Mem.dh hs1.free) hiss) hint;rw[yu] at hfind;have hint2:=bN (m:=mk) (l:=sig cls (fun s i=>aW l s (lo i)) cuts.length s) (by rw[hsl];exact hO.row) hsr;have hle6:=hnum.le;have hl6:=hnum.len;have hfl:(dO (sig cls (fun s i=>aW l s (lo i)) cuts.length) s).1.findIdx (·==sig cls (fun s i=>aW l s (lo i)) cuts.length s)≤(dO (sig cls (fun s i=>aW l s (lo i)) cuts.length) s).1.length:=List.findIdx_le_length;clear hs1 hiss hs2 hint esg hnum;generalize sig cls (fun s i=>aW l s (lo i)) cuts.length s=x at *
     generalize dO (sig cls (fun s i=>aW l s (lo i)) cuts.length) s=rr at *
     obtain⟨sn,nxl⟩:=rr;simp only at *
     by_cases hf:sn.findIdx (·==x)<sn.length
     ·rw[if_pos hf] at hfind;rw[if_pos hf] at hsn;generalize sn.findIdx (·==x)=idx at *
      have HF:=zh (zi hfind (zi hsn hl6));clear hfind hsn hl6 hsl
      go_wp2_with fail
      refine HF.out.1.mono ?_;rintro e w6 ⟨rfl,hb6⟩;have hO4:=(hO.move hb6).tail.swap;have r1:=aP (j:=s) (u:=.int .i64 0) hO4.row (fK HF.out.2.2 zo);have r2:=bU hO4.row s;have r3:=(World.ownsRow.lt hO4.row _ rfl).2;have hO5:=hO4.setRow s (.int .i64 idx);rw[iZ HF.out.2.2 zo] at hO5;have HO5:=zh hO5.swap;clear hO5 hO4 hO hb6;go_wp2;refine hZ.out _ _ _ zo rfl ⟨s+1,.slice vsa sn.length vsc,xs,mk,zo,rfl,?_,?_,?_,hmk⟩
      ·rw[List.map];rfl
      ·rw[HF.out.2.1];exact HO5.out
      ·rw[HF.out.2.1];exact hrow
     ·rw[if_neg hf] at hfind;rw[if_neg hf] at hsn;have hidx:sn.findIdx (·==x)=sn.length:=zo;rw[hidx] at hsn;have hmk2:=Mem.dh (w:=w5) hO.free;have hrow2:=(hrow.mono hmk2).push hint2;have hOs:=hO.bg;have HF:=zh (zi hfind (zi hsn (zi hl6 (zi hrow2 (Mem.le_trans hmk hmk2)))));clear hfind hsn hl6 hsl hidx hf hfl hrow2 hmk2 hint2 hO;generalize mk.addv w5 (.slice vra (cuts.length+1) vrc)=mk2 at *
      go_wp2_with fail
      refine HF.out.1.mono ?_;rintro e w6 ⟨rfl,hb6⟩;have hO4:=(hOs.move hb6).al #[.slice vra (cuts.length+1) vrc] 135;have hnews:=hO4.obj.news rfl;clear hOs hb6
      go_wp2_with (at_builtin;refine aC xI rfl (.tmp 79) (.tmp 81) rfl (.slice vsa sn.length vsc) sn.length xs rfl hO4.swap.row ⟨w6.heap.size,0,none⟩ 1 1 [.slice vra (cuts.length+1) vrc] rfl rfl hnews (by simp[Value.oneCell']) (by unfold maxLen;omega) zo ?_)
      intro va vc w7 hown7 hgrow7 hrow7;have hO5:=(hO4.swap.app hown7 hgrow7 hrow7 zS).drop2.swap;clear hown7 hgrow7 hrow7 hO4 hnews;have r1:=aP (j:=s) (u:=.int .i64 0) hO5.row (fK HF.out.2.2.1 zo);have r2:=bU hO5.row s;have r3:=(World.ownsRow.lt hO5.row _ rfl).2;have hO6:=hO5.setRow s (.int .i64 sn.length);rw[iZ HF.out.2.2.1 zo] at hO6;have HO6:=zh hO6.swap;clear hO6 hO5;go_wp2;refine hZ.out _ _ _ zo rfl ⟨s+1,.slice va (sn.length+1) vc,xs ++ [.slice vra (cuts.length+1) vrc],mk2,zo,rfl,?_,?_,?_,HF.out.2.2.2.2⟩
      ·rfl
      ·rw[HF.out.2.1];show Own w m _ mk2 [.row _ _ _ (sn ++ [x]).length _,.row _ _ _ _ _];rw[show (sn ++ [x]).length=sn.length+1 by simp];exact HO6.out
      ·rw[HF.out.2.1];exact HF.out.2.2.2.1
   ·obtain rfl:s=l.length:=zo;rw[Nat.sub_self,kw] at hO;have hrd:=zV H hpos HRI.out.1;generalize dO (sig cls (fun s i=>aW l s (lo i)) cuts.length) l.length=rr at *
    obtain⟨sn,nxl⟩:=rr;simp only at hO hrd hnum hrow;have hin2:=bN (l:=nxl) (m:=mk) (by rw[hnum.len];exact hO.swap.row) (fun y hy=>by
     obtain⟨i,hi,rfl⟩:=List.mem_iff_getElem.1 hy;have:=hnum.rng (s:=i) (by rw[← hnum.len];exact hi);simp only[List.getD_eq_getElem?_getD,hi,List.getElem?_eq_getElem,Option.getD_some] at this;have:=hnum.le;simp only at this;omega)
    have hle2:=Mem.dh (w:=w4) hO.swap.free;have hO5:=hO.swap.bg.tail;have hnl:=hnum.len;generalize mk.addv w4 (.slice (some ⟨M,0,none⟩) l.length l.length)=mk2 at *
    have Hk:=zh (zi hin2 (zi (Mem.le_trans (Mem.le_trans hle hmk) hle2) (zi hO5 (zi hrd hnl))));have hs1:=hrd.2.1;have hs2:=hrd.2.2.1;clear hin2 hle2 hO5 hO hrd hnum hsn hnl;by_cases hstop:sn.length=many
    ·have hdec:((sn.length:Int)==(many:Int))=true:=by simp[hstop]
     have HT:=zh hstop;clear hstop;go_wp2;refine hR.out _ _ ⟨_,nxl,rfl,Hk.out.2.2.1.below,?_,Hk.out.2.2.2.1.2.2.2.2 HT.out⟩;have:=dC Hk.out.2.2.1.done Hk.out.1;exact this
    ·have hdec:((sn.length:Int)==(many:Int))=false:=by simp;omega
     go_wp2;exact hY.out _ _ _ zo rfl ⟨r+1,sn.length,nxl,.slice (some ⟨M,0,none⟩) l.length l.length,mk2,rfl,zo,zo,hs2,rfl,Hk.out.2.2.2.1.1,Hk.out.1,Hk.out.2.2.1,Hk.out.2.1⟩
  ·obtain rfl:r=l.length:=zo;have hfull:=Lf HRI.out.1 hrm hpos;have Hk:=zh (zi hfull (zi hO.below (dC hO.done hin0)));clear hfull hin0 hO;go_wp2;exact hR.out _ _ ⟨_,cls,rfl,Hk.out.2.1,Hk.out.2.2,Hk.out.1⟩
theorem CG (T:Table):∀i,(h:i<(bG T 256).length)→(bG T 256)[i]=(loOf (aL (pOf T)) i:Nat):=(pM T).lo
structure OM (T:Table) (cuts:List Int) (cls:List Int) (lo hi:Nat→Nat):Prop where
 wf:WF T
 by_:Bytes T
 ta:BH T T.length lo hi cuts.length (fun s i=>aW T s (lo i))
 bfs:nD T T.length (fun s=>cls.getD s 0) (dlT T lo) lo hi (fun s=>dS T s) cuts.length
 cut:KW cuts lo hi
 cls:qR T T.length cls
 len:T.length≤1000000
 pos:1≤T.length
 clen:cuts.length≤256
theorem Ju {R:Table} (hw:WF R) (hb:Bytes R) {lv:Nat→Bool} (hlv:∀s:Nat,s<R.length→(lv s=true↔Lv R s)) (hlen:R.length≤1000000) (hpos:1≤R.length) (h0:Lv R 0) {cls:List Int}
 (hc:qR (dL R lv) (dL R lv).length cls):OM (dL R lv) (bG (dL R lv) 256) cls (loOf (aL (pOf (dL R lv)))) (hiOf (aL (pOf (dL R lv)))):=by
 have hl:(dL R lv).length=R.length:=by simp[dL]
 have hwT:=BX hw lv;have ht:=zA hw hlv;have h0T:Lv (dL R lv) 0:=by obtain⟨w,hx⟩:=h0;exact⟨w,by rw[sS hw hlv];exact hx⟩
 refine ⟨hwT,FC hb lv,?_,?_,pM _,hc,zo,zo,jP _ 256⟩
 ·rw[mF];exact qw hwT (pq _) ht
 ·rw[mF];exact DF hwT (pq _) ht hc (ac:=fun s=>dS (dL R lv) s) (fun s _=>rfl) h0T zo
theorem Jt {R:Table} (hw:WF R) {lv:Nat→Bool} (hlv:∀s:Nat,s<R.length→(lv s=true↔Lv R s)) :
 BH (dL R lv) (dL R lv).length (loOf (aL (pOf (dL R lv)))) (hiOf (aL (pOf (dL R lv)))) (bG (dL R lv) 256).length (fun s i=>aW (dL R lv) s (loOf (aL (pOf (dL R lv))) i)):=by
 rw[mF];exact qw (BX hw lv) (pq _) (zA hw hlv)
theorem vC (v0:Value) (l:Table) (m:Mem) (w:World) (hm:m.inn w) (hl:aR m v0 l) (hlen:l.length≤1000000) :
 Calls Tryz.prog 97 #[v0] w fun e w'=>∃r C,e=.returned (.tuple #[.agg #[r],.int .i64 (if tf (WF l)=true then 0 else 11)])∧Below w.heap.size w w'∧aR (m.grow w w') r C∧C.length≤l.length+1 ∧
  (WF l→NV l C)∧(¬ WF l→C=[]):=by
 have hl0:=hl;have hby:=sF hl;obtain⟨a,c,rfl,h1,h2,h3⟩:=hl;unfold maxLen at h2;have HW:=zh (fun w (hw:m.inn w)=>ny (.slice a l.length c) l m w hw hl0);refine ay fun R hR=>?_;have hO:=(Own.start hm).al #[.slice none 0 0] 27;have HO:=zh hO;clear hO
 go_enter Tryz.func97,Tryz.ntmps97
 go_wp2_with fail
 refine (HW.out _ (Mem.cz HO.out.ext.le HO.out.inn)).mono ?_;rintro e w1 ⟨rfl,hb1⟩;have hO1:=HO.out.move hb1;have g1:=hO1.obj.cell (i:=0) rfl;have g2:=hO1.obj.frozen 0;have g3:=hO1.obj.lt;clear HO hb1;by_cases hwf:WF l
 ·rw[aI hwf];by_cases h0:l.length=0
  ·have hln:l=[]:=List.eq_nil_of_length_eq_zero h0;have hO2:=hO1.set 0 (.slice none 0 0);have g4:=hO2.obj.cell (i:=0) rfl;have Hk:=zh (zi hO2 hln);have hdec:((l.length:Int)==0)=true:=by simp[h0]
   clear hO1 hO2 hln h0;go_wp2;refine bodyPost_ret (v:=.tuple #[.agg #[.slice none 0 0],.int .i64 0]) (by simp[results,Tryz.results97,go_sem,g1]) rfl ?_;refine hR.out _ _ ⟨_,[],by rw[aI hwf];rfl,Hk.out.1.below,fE _,zS,fun _=>⟨jQ,fun x=>?_⟩,fun _=>rfl⟩;rw[Hk.out.2]
  ·have hdec:((l.length:Int)==0)=false:=beq_eq_false_iff_ne.2 zo;have HA:=zh (BA (.slice a l.length c) l m w1 (Mem.cz hO1.ext.le hO1.inn) hl0 hwf hlen);have HO1:=zh hO1;clear hO1
   go_wp2_with fail
   refine HA.out.mono ?_;rintro e w2 ⟨rv,lv0,rfl,hb2,hr2,hlv0,hiff0⟩;have hO2:=HO1.out.call hb2;have hle2:=Mem.dN (w:=w2) (Mem.cz HO1.out.ext.le HO1.out.inn);obtain⟨la,lc,rfl,l1,l2,l3⟩:=hr2;have hlv1:l.length≤lv0.length:=zo;clear hlv0;obtain⟨lb,lo',rfl,l4⟩:=l3 (by intro h;simp[h] at hlv1;simp[hlv1] at h0);have z0:=l4 0 zo;rw[Nat.add_zero] at z0;have z1:w2.cell? ⟨lb,lo',none⟩=some (.bool lv0[0]):=Mem.aj (Mem.EL (Mem.cz HO1.out.ext.le HO1.out.inn) hb2) z0;have hb0:bt lv0 0=lv0[0]:=kM zo;have HF:=zh (zi (hiff0 0 zo) hb0);have g1:=hO2.obj.cell (i:=0) rfl;have g2:=hO2.obj.frozen 0;have g3:=hO2.obj.lt;clear hb0 hiff0 HA HO1;have hlvp:0<lv0.length:=zo;generalize lv0[0]=b0 at *
   cases b0 with
   | false=>
    have hO3:=hO2.set 0 (.slice none 0 0);have g4:=hO3.obj.cell (i:=0) rfl;have Hk:=zh hO3;clear hO2 hO3;go_wp2;refine bodyPost_ret (v:=.tuple #[.agg #[.slice none 0 0],.int .i64 0]) (by simp[results,Tryz.results97,go_sem,g1]) rfl ?_;refine hR.out _ _ ⟨_,[],by rw[aI hwf];rfl,Hk.out.below,fE _,zS,fun _=>⟨jQ,fun x=>?_⟩,fun h=>absurd hwf h⟩;rw[kH]
    cases hx:aF l 0 x with
    | false=>rfl
    | true=>
     have:=HF.out.1.2 ⟨x,hx⟩
     rw[HF.out.2] at this;cases this
   | true=>
    have hm2:=hO2.inn;have HRe:=zh (Cm (.slice a l.length c) l _ w2 hm2 (bu hO2.ext.le hl0) hwf hlen zo (fun s hs=>by have:=yX hwf hby s hs;omega));have HO2:=zh hO2;clear hO2 hm2
    go_wp2_with fail
    refine HRe.out.mono ?_;rintro e w3 ⟨r3,o,rfl,hb3,hst3,hri⟩;have hO3:=HO2.out.call hb3;obtain⟨q1,q2,q3,q4⟩:=Ji hwf hby hri;have hoN:=uj hri.nodup hri.lt;have hRp:1≤(fG l o o.length).length:=by
     have hf:=hri.first;rw[q3]
     cases o with
     | nil=>simp at hf
     | cons _ _=>simp
    have hlvR:Lv (fG l o o.length) 0:=by
     obtain⟨x,hx⟩:=HF.out.1.1 HF.out.2;exact⟨x,by rw[q4];exact hx⟩
    have HTr:=zh (BV r3 (fG l o o.length) _ w3 hO3.inn hst3 q1 zo (fun s hs=>by have:=yX q1 q2 s hs;omega));have HO3:=zh hO3;have HR0:=zh (zi q4 hlvR);have hRl:(fG l o o.length).length≤l.length:=zo;obtain⟨r3a,r3c,rfl⟩:∃ra rc,r3=.slice ra (fG l o o.length).length rc:=by obtain⟨x,y,e,-⟩:=hst3;exact⟨x,y,e⟩
    clear hO3 HRe HO2 hst3 hb3 q3 q4 hlvR hri hoN;generalize fG l o o.length=R at *
    go_wp2_with fail
    refine HTr.out.mono ?_;rintro e w4 ⟨r4,lv,rfl,hb4,hst4,hlv⟩;have hO4:=HO3.out.call hb4;have hTl:(dL R lv).length=R.length:=by simp[dL]
    have hTw:=BX q1 lv;have HSt:=zh (Ii r4 (dL R lv) _ w4 hO4.inn hst4 hTw);obtain⟨r4a,r4c,rfl⟩:∃ra rc,r4=.slice ra (dL R lv).length rc:=by obtain⟨x,y,e,-⟩:=hst4;exact⟨x,y,e⟩
    have HO4:=zh (zi hO4 (zi hst4 (zi hTw (zi hlv (zi q1 q2)))));have hTl2:(dL R lv).length≤R.length:=zo;have hTl3:R.length≤(dL R lv).length:=zo;clear hO4 HO3 HTr hst4 hb4 hTl hTw hlv q1 q2
    go_wp2_with fail
    refine HSt.out.mono ?_;rintro e w5 ⟨r5,rfl,hb5,hst5⟩;have hO5:=HO4.out.1.call hb5;have hTw:=HO4.out.2.2.1;have hlv:=HO4.out.2.2.2.1;have q1:=HO4.out.2.2.2.2.1;have q2:=HO4.out.2.2.2.2.2;have hle5:=Mem.dN (w:=w5) HO4.out.1.inn;have HCl:=zh (DC _ r5 (dL R lv) (bG (dL R lv) 256) _ _ _ w5 hO5.inn (bu hle5 HO4.out.2.1) hst5 hTw zo zo (Jt q1 hlv) (CG (dL R lv)) (jP _ 256));have HN0:=zh (fun cls (hc:qR (dL R lv) (dL R lv).length cls)=>Ju q1 q2 hlv zo hRp HR0.out.2 hc);have HL:=zh (fun x=>sS q1 hlv x 0);have hst4:=bu hle5 HO4.out.2.1;obtain⟨r5a,r5c,rfl⟩:∃ra rc,r5=.slice ra (bG (dL R lv) 256).length rc:=by obtain⟨x,y,e,-⟩:=hst5;exact⟨x,y,e⟩
    have HO5:=zh (zi hO5 (zi hst4 hst5));have hTl4:(dL R lv).length≤l.length:=zo;have hTl5:1≤(dL R lv).length:=zo;have HR0:=zh HR0;clear hO5 HO4 HSt hst4 hst5 hb5 hle5 hTw hlv q1 q2 hTl2 hTl3;generalize dL R lv=T at *
    generalize loOf (aL (pOf T))=lo at *
    generalize hiOf (aL (pOf T))=hi at *
    generalize bG T 256=cuts at *
    go_wp2_with fail
    refine HCl.out.mono ?_;rintro e w6 ⟨r6,cls,rfl,hb6,hst6,hcls⟩;have hO6:=HO5.out.1.call hb6;have hle6:=Mem.dN (w:=w6) HO5.out.1.inn;have hN:=HN0.out cls hcls;have hT6:=bu hle6 HO5.out.2.1;have hc6:=dC hle6 HO5.out.2.2;have HN:=zh hN;have hclen:=hN.clen;obtain⟨r6a,r6c,rfl⟩:∃ra rc,r6=.slice ra cls.length rc:=by obtain⟨x,y,e,-⟩:=hst6;exact⟨x,y,e⟩
    have hO7:=(((hO6.al #[.int .i64 0] 3).Mr).al #[.slice none 0 0] 27).dI 80 2;have hsz:(w6.alloc (.cells #[.int .i64 0] 3)).heap.size=w6.heap.size+1:=by simp
    rw[hsz] at hO7;have HO7:=zh hO7;have hTl4:=hN.len;have hcll:=hcls.len;obtain⟨cf,hcf⟩:∃cf:Nat→Int,cf=fun s=>cls.getD s 0:=⟨_,rfl⟩;obtain⟨dl,hdl⟩:∃dl:Nat→Nat→Option Nat,dl=dlT T lo:=⟨_,rfl⟩;obtain⟨ah,hah⟩:∃ah:Nat→Bool,ah=fun (s:Nat)=>dS T (s:Int):=⟨_,rfl⟩;have HB:Hid (nD T T.length cf dl lo hi ah cuts.length):=zh (by rw[hcf,hdl,hah];exact hN.bfs);have HI:=zh (fun k hk=>DJ (cf:=cf) (ac:=ah) HB.out.iv HB.out.pos (fun s i t h1 h2 h3=>(HB.out.some s i t h1 h2 h3).1) k hk);have Hfun:=zh (zi hcf (zi hdl hah));have Hdat:=zh (zi hT6 (zi hc6 hst6));obtain⟨_,_,e4,t2,t3,t4⟩:=hT6;injection e4 with e4a e4b e4c;subst e4a;subst e4c;obtain⟨_,_,e5,u2,u3,u4⟩:=hc6;injection e5 with e5a e5b e5c;subst e5a;subst e5c;obtain⟨_,_,e6,v2,v3,v4⟩:=hst6;injection e6 with e6a e6b e6c;subst e6a;subst e6c;obtain⟨tb,to',rfl,t5⟩:=t4 (by intro h;simp[h] at hTl5);have hclsp:1≤cls.length:=zo;obtain⟨kb,ko,rfl,v5⟩:=v4 (by intro h;simp[h] at hclsp);unfold maxLen at t3 u3 v3;have hcl1:T.length≤cls.length:=zo;have hcl2:cls.length≤T.length:=zo;generalize hmk0:Mem.grow _ w5 w6=mk0 at *
    generalize hB6:w6.heap.size=B6 at *
    clear hcf hdl hah HCl HO5 HN0 hb6 hle6 hN hO7 hO6 hsz hcls hmk0 e4b e5b e6b t4 v4 hcll;go_wp2;refine au [2,4,5,6,7,8,9] (fun n vs wr=>∃(k:Nat) (vo vst:Value) (xs:List Value) (mk:Mem),
     (∀j,j<k→j<(cO cf dl lo hi ah cuts.length j).1.length)∧k≤(cO cf dl lo hi ah cuts.length k).1.length∧n=T.length - k ∧
     vs=[.pointer (some ⟨w.heap.size,0,none⟩),.slice (some ⟨tb,to',none⟩) T.length r4c,.slice r5a cuts.length r5c,.slice (some ⟨kb,ko,none⟩) cls.length r6c,vo,.pointer (some ⟨B6+1,0,none⟩),.int .i64 k] ∧
     Own w m wr mk [.row vst 80 2 k xs,.obj (B6+1) 27 #[vst],.row vo 3 1 (cO cf dl lo hi ah cuts.length k).1.length (bL (cO cf dl lo hi ah cuts.length k).1),.obj w.heap.size 27 #[.slice none 0 0]] ∧
     kI mk xs (cO cf dl lo hi ah cuts.length k).2∧mk0.le mk) ?_ ?_
    ·exact⟨_,0,.slice (some ⟨B6,0,none⟩) 1 1,.slice none 0 0,[],_,fun j hj=>zo,Nat.zero_le _,rfl,rfl,HO7.out,kI.nil _,Mem.le_refl _⟩
    clear HO7;rintro X z n vs wr hX - ⟨k,vo,vst,xs,mk,hk1,hk2,rfl,rfl,hO,hrow,hmk⟩;simp[litL,lk];have hBI:=HI.out k hk1;obtain⟨voa,voc,rfl⟩:=aQ hO.third.row;by_cases hlt:k<(cO cf dl lo hi ah cuts.length k).1.length
    ·have hsN:=hBI.lt _ (List.getElem_mem hlt);have hoN:=jy hBI.dif hBI.lt;obtain⟨vob,rfl⟩:=iJ hO.third.row zo;have hr1s:=lw hlt;have r1:=aP hO.third.row hr1s;have rl:=(World.ownsRow.lt hO.third.row _ rfl).2;have hgd:(cO cf dl lo hi ah cuts.length k).1.getD k 0=(cO cf dl lo hi ah cuts.length k).1[k]:=by simp[hlt]
     have hok:(cO cf dl lo hi ah cuts.length k).1[k]?=some (cO cf dl lo hi ah cuts.length k).1[k]:=by simp[hlt]
     have hE:=xm cf dl lo hi ah cuts.length k;rw[hgd] at hE;have HBI:=zh hBI;have Hob:=zh (show ∀j,j<k+1→j<(cO cf dl lo hi ah cuts.length j).1.length from fun j hj=>by
      by_cases c:j<k
      ·exact hk1 j c
      ·have:j=k:=zo;subst this;exact hlt)
     clear hBI hgd hk1 hk2;generalize (cO cf dl lo hi ah cuts.length k).1[k]=s at *
     obtain⟨a1,-⟩:=t5 s hsN;have a1w:=Mem.aj hO.inn (Mem.aA hmk a1);have a1l:=Mem.av hO.inn (Mem.aA hmk a1);have hahs:ah s=(T[s]).accept:=by
      have h1:=congrFun Hfun.out.2.2 s;rw[h1,dF T s hsN]
     rw[← hahs] at a1w;clear hahs a1;generalize cO cf dl lo hi ah cuts.length k=r at *
     obtain⟨o,out⟩:=r;simp only at *
     have hO2:=(hO.al #[.bool (ah s),.slice none 0 0] 80).dI 104 3;have HO2:=zh hO2;have HE:=zh hE;have Hok:=zh hok;clear hO2 hO hr1s hE hok;generalize hS:wr.heap.size=S at *
     go_wp2;have HRI:=zh (show ∀i,i≤cuts.length→Fa cf dl lo hi cuts.length T.length s o i (bI cf dl lo hi s o i) from
      Ck HB.out.iv HBI.out.dif HBI.out.lt (fun i t hi' ht=>(HB.out.some s i t hsN hi' ht).1))
     refine au [2,4,5,6,7,8,9,10,56,57,58] (fun n vs wr2=>∃(i:Nat) (vo ve:Value),i≤cuts.length∧n=cuts.length - i ∧
      vs=[.pointer (some ⟨w.heap.size,0,none⟩),.slice (some ⟨tb,to',none⟩) T.length r4c,.slice r5a cuts.length r5c,.slice (some ⟨kb,ko,none⟩) cls.length r6c,vo,.pointer (some ⟨B6+1,0,none⟩),.int .i64 k,.pointer (some ⟨S,0,none⟩),.slice r5a cuts.length r5c,.int .i64 cuts.length,.int .i64 i] ∧
      Own w m wr2 mk [.row ve 104 3 (bI cf dl lo hi s o i).2.length (dz (bI cf dl lo hi s o i).2),.obj S 80 #[.bool (ah s),ve],.row vst 80 2 k xs,.obj (B6+1) 27 #[vst],
       .row vo 3 1 (bI cf dl lo hi s o i).1.length (bL (bI cf dl lo hi s o i).1),.obj w.heap.size 27 #[.slice none 0 0]]) ?_ ?_
     ·exact⟨_,0,.slice (some ⟨vob,0,none⟩) o.length voc,.slice none 0 0,Nat.zero_le _,rfl,rfl,HO2.out⟩
     clear HO2 r1 rl a1w a1l;rintro Y z2 n vs wr2 hY - ⟨i,vo,ve,hi1,rfl,rfl,hO⟩;simp[litL,lk];have hri:=HRI.out i hi1;have hol:=hri.pre.length_le;obtain⟨voa',voc',rfl⟩:=aQ (hO.jT (v:=vo) (t:=3) (size:=1) (n:=(bI cf dl lo hi s o i).1.length) (xs:=bL (bI cf dl lo hi s o i).1) zS);obtain⟨vea,vec,rfl⟩:=aQ hO.row;have hqN:=jy hri.dif hri.lt;have hqe:=zT cf dl lo hi s o i;by_cases hlt3:i<cuts.length
     ·obtain⟨cb,co,rfl,u5⟩:=u4 (by intro h;simp[h] at hlt3);have hle:=HB.out.iv.le i hlt3;have c1:=u5 i hlt3;have hcl3:=HN.out.cut.lo i hlt3;rw[hcl3] at c1;have c1w:=Mem.aj hO.inn (Mem.aA hmk c1.1);have c1l:=Mem.av hO.inn (Mem.aA hmk c1.1);have hok2:(bI cf dl lo hi s o i).1[k]?=some s:=by
       obtain⟨x,hx⟩:=hri.pre;rw[← hx,List.getElem?_append_left hlt];exact Hok.out
      have hrow0:=hO.jT (v:=.slice voa' (bI cf dl lo hi s o i).1.length voc') (t:=3) (size:=1) (n:=(bI cf dl lo hi s o i).1.length) (xs:=bL (bI cf dl lo hi s o i).1) zS;obtain⟨vob',rfl⟩:=iJ hrow0 zo;have hoc:(bL (bI cf dl lo hi s o i).1)[k]?=some (.int .i64 s):=by
       unfold bL;rw[List.getElem?_map,hok2];rfl
      have r1:=aP hrow0 hoc;have rl:=(World.ownsRow.lt hrow0 _ rfl).2;have hwu:IntKind.u8.wrap (lo i:Int)=(lo i:Int):=IntWalk.u8_in _ zo;have hst:=sH (.slice (some ⟨tb,to',none⟩) T.length r4c) T s (lo i) mk wr2 hO.inn (bu hmk Hdat.out.1) zo zo;have hdlx:dl s i=if aW T s (lo i)<0 then none else some (aW T s (lo i)).toNat:=congrFun (congrFun Hfun.out.2.1 s) i;have hkl:k<(bI cf dl lo hi s o i).1.length:=zo;clear hcl3 hok2 hrow0 hoc c1;rcases dU HN.out.wf s (lo i) with ht | ⟨ht1,ht2⟩
      ·rw[ht] at hst;rw[if_pos zo] at hdlx;have hN:=ww (cf:=cf) (lo:=lo) (hi:=hi) (o:=o) hdlx;have HN2:=zh hN;have HST:=zh hst;have HO:=zh hO;clear hN hdlx ht hst hri hO
       go_wp2_with fail
       refine HST.out.mono ?_;rintro e w7 ⟨rfl,hb7⟩;have hO2:=HO.out.move hb7;clear HO hb7 c1w r1;go_wp2;refine hY.out _ _ _ zo rfl ⟨i+1,.slice (some ⟨vob',0,none⟩) (bI cf dl lo hi s o i).1.length voc',.slice vea (bI cf dl lo hi s o i).2.length vec,zo,rfl,rfl,?_⟩;rw[HN2.out];exact hO2
      ·obtain⟨tn,htn⟩:=Int.eq_ofNat_of_zero_le ht1;rw[htn] at hst ht2 hdlx;rw[if_neg zo,Int.toNat_natCast] at hdlx;have hN:=wu (cf:=cf) (lo:=lo) (hi:=hi) (o:=o) hdlx;have hri2:=HRI.out (i+1) zo;have HN2:=zh (zi hN (zi hri2 hri));have HST:=zh hst;have HO:=zh hO;have hhi:=HN.out.cut.hi i hlt3;unfold Bb at hhi;clear hN hdlx hst hri hri2 hO ht1 htn;generalize bI cf dl lo hi s o i=q at *
       obtain⟨o',es⟩:=q;simp only at hqN hqe hol hkl
       go_wp2_with fail
       refine HST.out.mono ?_;rintro e w7 ⟨rfl,hb7⟩;have hO2:=HO.out.move hb7;have c1w:=Mem.aj hO2.inn (Mem.aA hmk (u5 i hlt3).1);clear HO hb7 c1w r1
       go_upto_if 77 with (fail)
       refine aN [2,4,5,6,7,8,9,10,56,57,58,12,13,14] (fun vs w'=>vs=[.pointer (some ⟨w.heap.size,0,none⟩),.slice (some ⟨tb,to',none⟩) T.length r4c,.slice (some ⟨cb,co,none⟩) cuts.length r5c,.slice (some ⟨kb,ko,none⟩) cls.length r6c,.slice (some ⟨vob',0,none⟩) o'.length voc',.pointer (some ⟨B6+1,0,none⟩),.int .i64 k,.pointer (some ⟨S,0,none⟩),.slice (some ⟨cb,co,none⟩) cuts.length r5c,.int .i64 cuts.length,.int .i64 i,.int .i64 (lo i),.int .i64 tn,.int .i64 (hi i)]∧w'=w7) ?_ ?_
       ·intro V hV;by_cases hnx:i+1<cuts.length
        ·rw[dif_pos hnx] at hhi;have d1:=u5 (i+1) hnx;have hcl4:=HN.out.cut.lo (i+1) hnx;rw[hcl4] at hhi d1;have d1w:=Mem.aj hO2.inn (Mem.aA hmk d1.1);have d1l:=Mem.av hO2.inn (Mem.aA hmk d1.1);have hsep:=HB.out.iv.sep i (i+1) zo hnx;have hle5:=HB.out.iv.le (i+1) hnx;have hdec:decide (i+1<cuts.length)=true:=decide_eq_true hnx;have Hhi:=zh hhi;clear hhi hcl4 d1;go_wp2;refine hV.out _ _ rfl ⟨?_,rfl⟩;rw[← Hhi.out];rfl
        ·rw[dif_neg hnx] at hhi;have hdec:decide (i+1<cuts.length)=false:=decide_eq_false hnx;have Hhi:=zh hhi;clear hhi;go_wp2;refine hV.out _ _ rfl ⟨?_,rfl⟩;rw[← Hhi.out];rfl
       rintro z3 vs w8 - ⟨rfl,rfl⟩;simp[litL,lk];clear hhi;have hq1:=(hO2.pull (l₁:=[_,_,_,_]));have hq2:=hq1.bg;have hcn:∀y∈o'.map Int.ofNat,0≤y∧y<cls.length:=fun y hy=>by
        obtain⟨x,hx,rfl⟩:=List.mem_map.1 hy;have:=HN2.out.2.2.lt x hx;simp only[Int.ofNat_eq_natCast];omega
       have hin:=bN (l:=o'.map Int.ofNat) (m:=mk) (by rw[List.length_map,← xX];exact hq1.row) (fun y hy=>by have:=hcn y hy;omega);have hnum:=Ae _ (.slice (some ⟨kb,ko,none⟩) cls.length r6c) (o'.map Int.ofNat) cls tn _ _ hq2.inn hin (dC (Mem.le_trans hmk (Mem.dh hq1.free)) Hdat.out.2.2) zo hcn;rw[Ad zo] at hnum;have hcf0:(fun s=>cls.getD s 0)=cf:=Hfun.out.1.symm;rw[hcf0] at hnum;have hap:=l7 cf o' tn;have hpo:=l6 cf o' tn;have hap2:=hap.2;have hap1:=hap.1;have HNum:=zh (zi hnum (zi hO2 hap));have hrd:(bS cf o' tn).length=o'.length∨(bS cf o' tn).length=o'.length+1∧df cf o' tn=o'.length:=wI;have Hpq:=zh (show bS cf o' tn=if df cf o' tn<o'.length then o' else o' ++ [tn] from rfl);clear hnum hin hcn hq1 hq2 hO2 hap hcf0 hap1 hrd c1w;generalize hp:df cf o' tn=p at *
       have Hp:=zh hp;clear hp
       go_wp2_with fail
       refine HNum.out.1.mono ?_;rintro e w9 ⟨rfl,hb9⟩;have hO2:=HNum.out.2.1.move hb9;clear hb9
       go_upto_if 91 with (fail)
       refine aN [2,4,5,6,7,8,9,10,56,57,58,12,13,14,15] (fun vs w'=>∃vo2:Value,vs=[.pointer (some ⟨w.heap.size,0,none⟩),.slice (some ⟨tb,to',none⟩) T.length r4c,.slice (some ⟨cb,co,none⟩) cuts.length r5c,.slice (some ⟨kb,ko,none⟩) cls.length r6c,vo2,.pointer (some ⟨B6+1,0,none⟩),.int .i64 k,.pointer (some ⟨S,0,none⟩),.slice (some ⟨cb,co,none⟩) cuts.length r5c,.int .i64 cuts.length,.int .i64 i,.int .i64 (lo i),.int .i64 tn,.int .i64 (hi i),.int .i64 p] ∧
        Own w m w' mk [.row (.slice vea es.length vec) 104 3 es.length (dz es),.obj S 80 #[.bool (ah s),.slice vea es.length vec],.row vst 80 2 k xs,.obj (B6+1) 27 #[vst],
         .row vo2 3 1 (bS cf o' tn).length (bL (bS cf o' tn)),.obj w.heap.size 27 #[.slice none 0 0]]) ?_ ?_
       ·intro V hV;by_cases hf:p<o'.length
        ·have hdec:((p:Int)==(o'.length:Int))=false:=beq_eq_false_iff_ne.2 zo;have hpq:=Hpq.out;rw[if_pos hf] at hpq;have Hpq2:=zh hpq;clear hpq;go_wp2;refine hV.out _ _ rfl ⟨.slice (some ⟨vob',0,none⟩) o'.length voc',rfl,?_⟩;rw[Hpq2.out];exact hO2
        ·have hdec:((p:Int)==(o'.length:Int))=true:=beq_iff_eq.2 zo;have hpq:=Hpq.out;rw[if_neg hf] at hpq;have Hpq2:=zh hpq;have hO3:=hO2.al #[.int .i64 tn] 3;have hnews:=hO3.obj.news rfl;clear hpq
         go_wp2_with (at_builtin;refine aC oJ rfl (.tmp 92) (.tmp 94) rfl (.slice (some ⟨vob',0,none⟩) o'.length voc') o'.length (bL o') rfl (hO3.jT zS) ⟨w9.heap.size,0,none⟩ 1 1 [.int .i64 tn] rfl rfl hnews (by simp[Value.oneCell']) (by unfold maxLen;omega) zo ?_)
         intro va vc w7' hown7 hgrow7 hrow7;have hO4:=(hO3.pull (l₁:=[_,_,_,_,_])).app hown7 hgrow7 hrow7 zS;have hO5:=(hO4.D6 (l₁:=[_,_,_,_,_])).tail;have HO5:=zh hO5;clear hO5 hO4 hO3 hown7 hgrow7 hrow7 hnews;go_wp2;refine hV.out _ _ rfl ⟨.slice va (o'.length+1) vc,rfl,?_⟩;rw[Hpq2.out];have:=HO5.out;simpa [bL] using this
       rintro z4 vs w10 - ⟨vo2,rfl,hO3⟩;simp[litL,lk];clear hO2;obtain⟨voa2,voc2,rfl⟩:=aQ (hO3.jT (v:=vo2) (t:=3) (size:=1) (n:=(bS cf o' tn).length) (xs:=bL (bS cf o' tn)) zS);have hpN:p≤2000000:=by
        have h2:=jy HN2.out.2.1.dif HN2.out.2.1.lt;rw[HN2.out.1] at h2;simp only at h2;omega
       have hedok:=rZ (N:=T.length) HN2.out.2.2 zo;simp only at hedok;have hes0:es=[]∨∃fs e,es=fs ++ [e]:=by
        rcases List.eq_nil_or_concat es with h | ⟨fs,e,h⟩
        ·exact .inl h
        ·exact .inr ⟨fs,e,by rw[h,List.concat_eq_append]⟩
       obtain⟨q,hq⟩:∃q,es.length=q:=⟨_,rfl⟩;rw[hq] at hO3 hqe;have Hq:=zh (zi hq (zi hedok hes0));have s1:=hO3.swap.obj.cell (i:=1) rfl;have s2:=hO3.swap.obj.lt;clear hq hedok hes0
       go_upto_region 26 with (fail)
       refine aN [2,4,5,6,7,8,9,10,56,57,58,12,14,15,16,123] (fun vs w'=>∃bb:Bool,vs=[.pointer (some ⟨w.heap.size,0,none⟩),.slice (some ⟨tb,to',none⟩) T.length r4c,.slice (some ⟨cb,co,none⟩) cuts.length r5c,.slice (some ⟨kb,ko,none⟩) cls.length r6c,.slice voa2 (bS cf o' tn).length voc2,.pointer (some ⟨B6+1,0,none⟩),.int .i64 k,.pointer (some ⟨S,0,none⟩),.slice (some ⟨cb,co,none⟩) cuts.length r5c,.int .i64 cuts.length,.int .i64 i,.int .i64 (lo i),.int .i64 (hi i),.int .i64 p,.int .i64 ((q:Int) - 1),.bool bb] ∧
        w'=w10∧(bb=true↔∃(fs:List Ed) (e:Ed),es=fs ++ [e]∧e.to=(p:Int)∧e.hi+1=lo i)) ?_ ?_
       ·intro V hV;rcases Hq.out.2.2 with hnil | ⟨fs,e,hfe⟩
        ·have hq0:q=0:=by rw[← Hq.out.1,hnil];rfl
         have Hn:=zh hnil;subst hq0;clear hnil;go_wp2;exact hV.out _ _ rfl ⟨false,rfl,rfl,by rw[Hn.out];simp⟩
        ·have hq1:q=fs.length+1:=by rw[← Hq.out.1,hfe];simp
         have hed:=Hq.out.2.1 e (by rw[hfe];simp);have hec:=jb es fs.length (by rw[hfe];simp);have hel:es[fs.length]'(by rw[hfe];simp)=e:=by simp[hfe]
         rw[hel] at hec;have HL:=zh (zi hfe (EB fs e (p:Int) (lo i)));subst hq1;obtain⟨eb,rfl⟩:=iJ hO3.row zo;have y1:=aP hO3.row hec.2.1;have y2:=aP hO3.row hec.2.2;have hbl:=(World.ownsRow.lt hO3.row _ rfl).2;have hlt5:fs.length<fs.length+1:=zo;clear hel hec hfe;by_cases hc1:e.to=(p:Int)
         ·by_cases hc2:e.hi+1=lo i
          ·have Hc:=zh (zi hc1 hc2);have hdec1:((e.to:Int)==(p:Int))=true:=beq_iff_eq.2 hc1;have hdec2:((e.hi:Int)+1==(lo i:Int))=true:=beq_iff_eq.2 zo;have hed1:=hed.2.1;clear hc1 hc2;go_wp2;exact hV.out _ _ rfl ⟨true,zS,rfl,by rw[HL.out.1,HL.out.2];simp[Hc.out.1,Hc.out.2]⟩
          ·have Hc:=zh (zi hc1 hc2);have hdec1:((e.to:Int)==(p:Int))=true:=beq_iff_eq.2 hc1;have hdec2:((e.hi:Int)+1==(lo i:Int))=false:=beq_eq_false_iff_ne.2 zo;have hed1:=hed.2.1;clear hc1 hc2;go_wp2;exact hV.out _ _ rfl ⟨false,zS,rfl,by rw[HL.out.1,HL.out.2];simp[Hc.out.2]⟩
         ·have Hc:=zh hc1;have hdec1:((e.to:Int)==(p:Int))=false:=beq_eq_false_iff_ne.2 hc1;clear hc1;go_wp2;exact hV.out _ _ rfl ⟨false,zS,rfl,by rw[HL.out.1,HL.out.2];simp[Hc.out]⟩
       rintro z5 vs w11 - ⟨bb,rfl,rfl,hbb⟩;simp[litL,lk];have Hbb:=zh hbb;clear hbb;have hwh:IntKind.u8.wrap (hi i:Int)=(hi i:Int):=IntWalk.u8_in _ zo;have hwl:IntKind.u8.wrap (lo i:Int)=(lo i:Int):=IntWalk.u8_in _ zo
       cases bb with
       | true=>
        obtain⟨fs,e,hfe,he1,he2⟩:=Hbb.out.1 rfl;have hq1:q=fs.length+1:=by rw[← Hq.out.1,hfe];simp
        have hpe:=wC (lo:=lo i) (hi:=hi i) (fs:=fs) (zi he1 he2);subst hfe;subst hq1;obtain⟨eb,rfl⟩:=iJ hO3.row zo;have hec:=jb (fs ++ [e]) fs.length zS;have y1:=aP hO3.row hec.2.1;have y2:=bU hO3.row (fs.length*3+1);have hbl:=(World.ownsRow.lt hO3.row _ rfl).2;have hlt5:fs.length<fs.length+1:=zo;have hO6:=hO3.setRow (fs.length*3+1) (.int .u8 (hi i));rw[uK] at hO6;have Hfin:=zh (zi hO6 hpe);clear hO6 hO3 hpe he1 he2 hec;go_wp2;refine hY.out _ _ _ zo rfl ⟨i+1,.slice voa2 (bS cf o' tn).length voc2,.slice (some ⟨eb,0,none⟩) (fs.length+1) vec,zo,rfl,rfl,?_⟩;rw[HN2.out.1,Hfin.out.2];have:=Hfin.out.1
        simpa using this
       | false=>
        have hpe:gY es (lo i) (hi i) p=es ++ [⟨lo i,hi i,(p:Int)⟩]:=by
         rcases Hq.out.2.2 with rfl | ⟨fs,e,rfl⟩
         ·rfl
         ·exact wD fun h=>by have:=Hbb.out.2 ⟨fs,e,rfl,h.1,h.2⟩;cases this
        have hO5:=hO3.al #[.int .u8 (lo i),.int .u8 (hi i),.int .i64 p] 104;have hnews:=hO5.obj.news rfl;have Hpe:=zh hpe;clear hpe hO3
        go_wp2_with (at_builtin;refine aC xJ rfl (.tmp 132) (.tmp 139) rfl (.slice vea q vec) q (dz es) rfl hO5.swap.row ⟨w11.heap.size,0,none⟩ 1 1 [.int .u8 (lo i),.int .u8 (hi i),.int .i64 p] rfl rfl hnews (by simp[Value.oneCell']) (by unfold maxLen;omega) zo ?_)
        intro xa xc w12 hown7 hgrow7 hrow7;have hO6:=(hO5.swap.app hown7 hgrow7 hrow7 zS).drop2.swap;have s1:=hO6.obj.cell (i:=1) rfl;have s2:=hO6.obj.lt;have s3:=hO6.obj.frozen 1;have hO7:=(hO6.set 1 (.slice xa (q+1) xc)).swap;have Hfin:=zh hO7;clear hO7 hO6 hO5 hown7 hgrow7 hrow7 hnews;go_wp2;refine hY.out _ _ _ zo rfl ⟨i+1,.slice voa2 (bS cf o' tn).length voc2,.slice xa (q+1) xc,zo,rfl,rfl,?_⟩;rw[HN2.out.1,Hpe.out];have:=Hfin.out;simpa [eY,Hq.out.1] using this
     ·obtain rfl:i=cuts.length:=zo;have s0:=hO.swap.obj.cell (i:=0) rfl;have s1:=hO.swap.obj.cell (i:=1) rfl;have sl:=hO.swap.obj.lt;have u0:=(hO.p8 (g:=B6+1) (t:=27) (arr:=#[vst]) zS).cell (i:=0) rfl;have u1:=(hO.p8 (g:=B6+1) (t:=27) (arr:=#[vst]) zS).lt;have hes:=iD (l:=(bI cf dl lo hi s o cuts.length).2) (m:=mk) hO.row (rZ (N:=T.length) hri zo);have hO2:=hO.bg;have hmk2:=Mem.dh (w:=wr2) hO.free;have hrow2:=(hrow.mono hmk2).push (s:=⟨ah s,(bI cf dl lo hi s o cuts.length).2⟩) hes;obtain⟨vsta,vstc,rfl⟩:=aQ hO2.swap.row;have hO3:=hO2.al #[.bool (ah s),.slice vea (bI cf dl lo hi s o cuts.length).2.length vec] 80;have Hk:=zh (zi hrow2 (Mem.le_trans hmk hmk2));clear hrow2 hes hmk2;generalize mk.addv wr2 (.slice vea (bI cf dl lo hi s o cuts.length).2.length vec)=mk2 at *
      have hnews:=hO3.obj.news rfl;have hvr:=hO3.third.row;clear hO hO2
      go_wp2_with (at_builtin;refine aC lY rfl (.tmp 144) (.tmp 146) rfl (.slice vsta k vstc) k xs rfl hvr ⟨wr2.heap.size,0,none⟩ 1 1 [.bool (ah s),.slice vea (bI cf dl lo hi s o cuts.length).2.length vec] rfl rfl hnews (by simp[Value.oneCell']) (by unfold maxLen;omega) zo ?_)
      intro va vc w7 hown7 hgrow7 hrow7;have hO4:=(hO3.third.app hown7 hgrow7 hrow7 zS).fourth;clear hown7 hgrow7 hrow7 hO3 hvr hnews;have u2:=hO4.obj.cell (i:=0) rfl;have u3:=hO4.obj.frozen 0;have u4:=hO4.obj.lt;have hO5:=((hO4.set 0 (.slice va (k+1) vc)).swap).jO.jO;have HO5:=zh hO5;clear hO5 hO4;go_wp2;have hpre:=hri.pre.length_le;refine hX.out _ _ _ zo rfl ⟨k+1,.slice voa' (bI cf dl lo hi s o cuts.length).1.length voc',.slice va (k+1) vc,xs ++ [.bool (ah s),.slice vea (bI cf dl lo hi s o cuts.length).2.length vec],mk2,?_,?_,rfl,rfl,?_,?_,Hk.out.2⟩
      ·exact Hob.out
      ·rw[HE.out];show k+1≤(bI cf dl lo hi s o cuts.length).1.length;omega
      ·rw[HE.out];exact HO5.out
      ·rw[HE.out];exact Hk.out.1
    ·have hkl2:(cO cf dl lo hi ah cuts.length k).1.length=k:=zo;have hcan:=Bz HB.out hk1 hkl2;have hNl:=jy hBI.dif hBI.lt;rw[hkl2] at hNl;have hclen2:=hBI.len;generalize cO cf dl lo hi ah cuts.length k=r at *
     obtain⟨vsta,vstc,rfl⟩:=aQ hO.row;have u1:=hO.swap.obj.cell (i:=0) rfl;have hO2:=(hO.pull (l₁:=[_,_,_]));have u2:=hO2.obj.cell (i:=0) rfl;have u3:=hO2.obj.frozen 0;have u4:=hO2.obj.lt;have hO3:=(hO2.set 0 (.slice vsta k vstc)).swap;have hst:=fD (l:=r.2) (m:=mk) (by rw[hclen2];exact hO3.row) hrow hO3.free;have hst2:=bu hO3.bg.done hst;have hbel:=hO3.below;have g4:=hO3.swap.obj.cell (i:=0) rfl;have Hk:=zh (zi hcan (zi hst2 (zi hbel (zi hNl hclen2))));clear hcan hst hst2 hbel hNl hclen2 hO3 hO2 hO hBI hrow hkl2;go_wp2;refine bodyPost_ret (v:=.tuple #[.agg #[.slice vsta k vstc],.int .i64 0]) (by simp[results,Tryz.results97,go_sem,g4]) rfl ?_;refine hR.out _ _ ⟨_,r.2,by rw[aI hwf];rfl,Hk.out.2.2.1,Hk.out.2.1,?_,fun _=>⟨Hk.out.1.1,fun x=>?_⟩,fun h=>absurd hwf h⟩
     ·have h1:=Hk.out.2.2.2.1;have h2:=Hk.out.2.2.2.2;omega
     ·rw[Hk.out.1.2,HL.out,HR0.out.out.1]
 ·rw[az hwf];have hO2:=hO1.set 0 (.slice none 0 0);have g4:=hO2.obj.cell (i:=0) rfl;have Hk:=zh (zi hO2 hwf);clear hO1 hO2 hwf;go_wp2;refine bodyPost_ret (v:=.tuple #[.agg #[.slice none 0 0],.int .i64 11]) (by simp[results,Tryz.results97,go_sem,g1]) rfl ?_;exact hR.out _ _ ⟨_,[],by rw[az Hk.out.2];rfl,Hk.out.1.below,fE _,zS,fun h=>absurd h Hk.out.2,fun _=>rfl⟩
theorem rq (v0:Value) (l:Table) (m:Mem) (w:World) (hm:m.inn w) (hl:aR m v0 l) (hlen:l.length≤1000000) :
 Calls Tryz.prog 64 #[.agg #[v0]] w fun e w'=>e=.returned (.bool (tf (Canon l)))∧Below w.heap.size w w':=by
 have hl0:=hl;obtain⟨a,c,rfl,h1,h2,h3⟩:=hl;refine ay fun R hR=>?_;have hO:=(Own.start hm).al #[.slice a l.length c] 27;have HM:=zh (vC (.slice a l.length c) l m _ hO.inn hl0 hlen);have HO:=zh hO;clear hO
 go_enter Tryz.func64,Tryz.ntmps64
 go_wp2_with fail
 refine HM.out.mono ?_;rintro e w1 ⟨r,C,rfl,hb1,hst,hClen,hmin,hnot⟩;have hO1:=HO.out.call hb1;have hle:=hO1.ext.le;obtain⟨ra,rc,rfl⟩:∃ra rc,r=.slice ra C.length rc:=by obtain⟨x,y,e,-⟩:=hst;exact⟨x,y,e⟩
 have hO2:=hO1.al #[.slice ra C.length rc] 27;have g1:=hO2.swap.obj.cell (i:=0) rfl;have g2:=hO2.swap.obj.lt;have HS:=zh (nS (.slice a l.length c) (.slice ra C.length rc) l C _ _ hO2.inn (bu hle hl0) hst);have HO2:=zh hO2;clear hO1 hO2 HM HO;by_cases hwf:WF l
 ·rw[aI hwf];have hci:=pU hmin hwf;have Hk:=zh (zi hci (zi hmin hnot));clear hmin hnot hci
  go_wp2_with fail
  refine HS.out.mono ?_;rintro e w3 ⟨rfl,hb3⟩;have hb4:=(HO2.out.move hb3).below;go_wp2;exact hR.out _ _ ⟨aJ (by rw[aZ Hk.out.1]),hb4⟩
 ·rw[az hwf];have Hk:=zh (zi hwf (zi hmin hnot));clear hmin hnot hwf;go_wp2;exact hR.out _ _ ⟨aJ (by rw[az (fun h=>Hk.out.1 h.wf)]),HO2.out.below⟩
theorem F5 (v0:Value) (l:Table) (m:Mem) (w:World) (hm:m.inn w) (_:TabM m) (hl:aR m v0 l) (hlen:l.length≤1000000) :
 Calls Tryz.prog 64 #[.agg #[v0]] w fun e w'=>e=.returned (.bool (tf (Canon l)))∧Below w.heap.size w w':=rq v0 l m w hm hl hlen
theorem zX (vi vf vt:Value) (s:RS) (m:Mem) (w:World) (hm:m.inn w) (htab:TabM m) (hs:ScAt m vi vf vt s) (hl:ScLe s 100000 1000000) :
 Calls Tryz.prog 45 #[s.val vi vf vt] w fun e w'=>e=.returned (.bool (tf s.iy))∧Below w.heap.size w w':=by
 have hO:=(Own.start hm).al #[.bool s.nul,.bool s.fal,.bool s.tru,vi,vf,vt] 29;have HN:=zh (zY _ _ s.i s.f m _ hO.inn hs.nums hl.i hl.f);have HT:=zh (fun w' (h:m.inn w')=>F5 _ s.t m w' h htab hs.t hl.t);have HE:=zh (RS.zt s);obtain⟨a1,b1,a2,b2,a3,b3,rfl,rfl,rfl⟩:=hs.spell;unfold RS.val;have HO:=zh hO;clear hO hs;generalize s.nul=bn at *
 generalize s.fal=bf at *
 generalize s.tru=bt at *
 refine ay fun R hR=>?_
 go_enter Tryz.func45,Tryz.ntmps45
 go_wp2_with fail
 refine HN.out.mono ?_;rintro e w1 ⟨rfl,hb1⟩;have hO:=HO.out.move hb1;clear HN HO hb1;by_cases h1:s.i=(mkN s.i s.f).i∧s.f=(mkN s.i s.f).rf
 ·rw[aI h1];have q5:=hO.obj.cell (i:=5) rfl;have q6:=hO.obj.lt;have HO:=zh hO;have HE2:=zh (show s.iy↔Canon s.t from HE.out.trans ⟨fun h=>h.2,fun h=>⟨h1,h⟩⟩);clear hO HE h1
  go_wp2_with fail
  refine (HT.out _ HO.out.inn).mono ?_;rintro e w2 ⟨rfl,hb2⟩;have HB:=zh (HO.out.move hb2).below;clear HO HT hb2 q5 q6;generalize hc:tf (Canon s.t)=tc at *
  have HC:=zh (show tc=tf s.iy by rw[← hc];exact (aZ HE2.out).symm);clear hc;go_wp2;exact hR.out _ _ ⟨aJ (by rw[← HC.out]),HB.out⟩
 ·rw[az h1];have HB:=zh hO.below;have HE2:=zh (show ¬ s.iy from fun h=>h1 (HE.out.1 h).1);clear hO HE h1 HT;go_wp2;exact hR.out _ _ ⟨aJ (by rw[az HE2.out]),HB.out⟩
end Cl
