/- The law's walk. -/
import Derived.WalkKit
import Derived.Deep.QuietTactic
import Derived.Test.YtajbfioncdnkcaaGreatDoorProg
import Derived.BigQuiet
import Derived.Deep.Cut
import Derived.Laws.StructEq
import Derived.Lib.AppendStr
import Derived.Lib.Builder
import Derived.Lib.Hide
import Derived.Lib.ItoaLen
import Derived.Maps.OwnOps
import Derived.Maps.OwnSet
import Derived.OrdersHeld
import Derived.Outline
import Derived.StillTailTactics
import Derived.StringKeys
import Derived.WalkLawsBesides
import Derived.WalkSpells
import Derived.Deep.RegionHeld
import Derived.Shelf.Strings.Builder1
import Derived.Shelf.Small.Wraps
import Derived.Shelf.LaysM
import Derived.Shelf.Strconv.Itoa3
import Derived.RegionTactic
import Derived.ChangeAlike
import Derived.RangeFuncNested
import Derived.RangeFuncBound
import Derived.RangeFuncCalls
import Derived.RangeFuncLeaves
import Derived.OwnWalkIn
import Derived.TacticsInMore
import Derived.LoopNIn
import Derived.LoopIn
import Derived.Laws.BytesArg
import Derived.Laws.EntriesVeiled
import Derived.Shelf.Spec.SlicesGrow
import Derived.Shelf.SlSortCmp.WholeK
import Derived.Laws.CopyOwn
import Derived.Deep.Slices
import Derived.Lib.SmallJoins
import Derived.ChangeMaps5
import Derived.Carry
import Derived.KernelRfl
import Derived.ChangeArms
import Derived.Test.YtajbfioncdnkcaaGreatDoorCards
import Derived.Test.YtajbfioncdnkcaaGreatDoorTie
import Derived.ProofKit
import Derived.OpenShut
import Derived.Deep.DeepHandedRow
import Derived.Lib.LaidTab
import Derived.Stop.LaidErr
import Derived.Test.YtajbfioncdnkcaaGreatDoorZz
import Derived.Test.YtajbfioncdnkcaaGreatDoorPkM1
import Derived.Test.YtajbfioncdnkcaaGreatDoorPkM3
import Derived.Test.YtajbfioncdnkcaaGreatDoorPkM32
import Derived.Test.YtajbfioncdnkcaaGreatDoorPkM4
import Derived.Test.YtajbfioncdnkcaaGreatDoorPkM34
import Derived.Test.YtajbfioncdnkcaaGreatDoorPkM2
import Derived.Test.YtajbfioncdnkcaaGreatDoorPkM8
import Derived.Test.YtajbfioncdnkcaaGreatDoorPkM6
import Derived.Test.YtajbfioncdnkcaaGreatDoorPkM33
import Derived.Test.YtajbfioncdnkcaaGreatDoorPkM7
import Derived.Test.YtajbfioncdnkcaaGreatDoorPkM12
import Derived.Test.YtajbfioncdnkcaaGreatDoorPkM20
import Derived.Test.YtajbfioncdnkcaaGreatDoorPkM13
import Derived.Test.YtajbfioncdnkcaaGreatDoorPkM9
import Derived.Test.YtajbfioncdnkcaaGreatDoorPkM35
import Derived.Test.YtajbfioncdnkcaaGreatDoorPkM24
import Derived.Test.YtajbfioncdnkcaaGreatDoorPkM45
import Derived.Test.YtajbfioncdnkcaaGreatDoorPkM19
import Derived.Test.YtajbfioncdnkcaaGreatDoorPkM27
import Derived.Test.YtajbfioncdnkcaaGreatDoorPkM29
import Derived.Test.YtajbfioncdnkcaaGreatDoorPkM39
import Derived.Test.YtajbfioncdnkcaaGreatDoorPkM40
import Derived.Test.YtajbfioncdnkcaaGreatDoorPkM59
import Derived.Test.YtajbfioncdnkcaaGreatDoorPkM14
import Derived.Test.YtajbfioncdnkcaaGreatDoorPkM5
import Derived.Test.YtajbfioncdnkcaaGreatDoorPkM10
import Derived.Test.YtajbfioncdnkcaaGreatDoorPkM15
import Derived.Test.YtajbfioncdnkcaaGreatDoorPkM11
import Derived.Test.YtajbfioncdnkcaaGreatDoorPkM21
import Derived.Test.YtajbfioncdnkcaaGreatDoorPkM16
import Derived.Test.YtajbfioncdnkcaaGreatDoorPkM22
import Derived.Test.YtajbfioncdnkcaaGreatDoorPkM25
import Derived.Test.YtajbfioncdnkcaaGreatDoorPkM18
import Derived.Test.YtajbfioncdnkcaaGreatDoorPkM26
import Derived.Test.YtajbfioncdnkcaaGreatDoorPkM56
import Derived.Test.YtajbfioncdnkcaaGreatDoorPkM31
import Derived.Test.YtajbfioncdnkcaaGreatDoorPkM17
import Derived.Test.YtajbfioncdnkcaaGreatDoorPkM61
import Derived.Test.YtajbfioncdnkcaaGreatDoorPkM23
import Derived.Test.YtajbfioncdnkcaaGreatDoorPkM30
set_option maxRecDepth 100000
set_option maxHeartbeats 16000000
namespace Cl
open Go Go.RowKit
def JB (m:Mem) (v:Value) (l:List (List Bool)):Prop:=Mem.uj (fun b o x=>∃u,m.cell b o=some u∧jh m u x) v l
theorem QU {P:Program} {c:Code} {Q:Exit→Act→World→Prop} {tmps:Array Value} {w:World} (K:List Nat)
 (h:∀z:Nat→Value,c.wp P Q ⟨(litL z (K.zip (K.map fun i=>tmps.getD i undef)) 0 tmps.size).toArray,[]⟩ w):c.wp P Q ⟨tmps,[]⟩ w:=by
 have:=h (fun i=>tmps.getD i undef)
 rwa [zw] at this
theorem Eb {m:Mem} {w:World} (hm:m.inn w) {ad:Option Addr} {c:Nat} {l:List ByteArray} (h:rG m (.slice ad l.length c) l) :
 0<l.length→∃a,ad=some a∧∀j u,(l.map Value.string)[j]?=some u→w.cell? (a.add j)=some u:=fun hp=>by
 obtain⟨a',c',e,-,-,h4⟩:=h;cases e;obtain⟨b,off,rfl,h5⟩:=h4 (fun e=>by rw[e] at hp;cases hp);refine ⟨_,rfl,fun j u hj=>?_⟩;rw[Addr.add_lit];have hlt:j<l.length:=by
  have:=(List.getElem?_eq_some_iff.1 hj).1;simpa using this
 have:=Mem.av hm (h5 j hlt).1;rw[this];simp[hlt] at hj;rw[hj]
end Cl
namespace Cl
theorem RV {A:Table} {s:Nat} (h:s<A.length):cb A s 0=(A[s]).accept:=by
 have h1:=pG A 0 h;rw[FZ] at h1;simp[h] at h1;unfold cb;rw[h1]
theorem RX {A:Table} (hw:WF A) (hb:Bytes A) {s:Nat} (h:s<A.length) (n:Nat):cb A s (n+1)=(A[s]).edges.any fun e=>cb A e.to.toNat n:=by
 have h1:=pG A (n+1) h;rw[Ag hw hb n] at h1;simp[h] at h1;unfold cb;rw[← h1];rw[Bool.eq_iff_iff,List.any_eq_true,List.any_eq_true];constructor
 ·rintro ⟨e,he,hx⟩;refine ⟨e,he,?_⟩;have:=fO (hw _ (List.getElem_mem h)) e he;have hlt:e.to.toNat<A.length:=zo;have h2:=pG A n hlt;simp[canN] at h2;simpa [canN,hlt] using hx
 ·rintro ⟨e,he,hx⟩;refine ⟨e,he,?_⟩;have:=fO (hw _ (List.getElem_mem h)) e he;have hlt:e.to.toNat<A.length:=zo;simpa [canN,hlt] using hx
theorem TA (A:Table) (s n:Nat):f1 A s n=f2 A 1 s n:=by
 unfold f1 f2;by_cases h:n=0
 ·subst h;simp
 ·simp[h]
theorem Ty (A:Table) (k s n:Nat):f2 A k s n=f3 A k 0 s n:=by simp[f2,f3]
theorem Tx (A:Table) (k s n:Nat) (h:s<A.length):f3 A k A.length s n=f2 A (k+1) s n:=by
 unfold f2 f3;have:(n<k∨n=k∧s<A.length)↔n<k+1:=zo;simp[this]
theorem Tw (A:Table) (k t s n:Nat):f3 A k t s n=f4 A k t [] s n:=by simp[f4]
theorem Tv {A:Table} (hw:WF A) (hb:Bytes A) {k t:Nat} (hk:1≤k) (h:t<A.length) (s n:Nat):f4 A k t (A[t]).edges s n=f3 A k (t+1) s n:=by
 obtain⟨k,rfl⟩:∃j,k=j+1:=⟨k - 1,zo⟩;unfold f4;rw[Nat.add_sub_cancel,← RX hw hb h k];unfold f3;by_cases e:n=k+1∧s=t
 ·obtain⟨rfl,rfl⟩:=e;simp
 ·have:(n<k+1∨n=k+1∧s<t)↔(n<k+1∨n=k+1∧s<t+1):=zo;have hd:decide (n<k+1∨n=k+1∧s<t)=decide (n<k+1∨n=k+1∧s<t+1):=decide_eq_decide.2 this;rw[hd];simp[e]
theorem RG (A:Table) (k t:Nat) (es:List Ed) (e:Ed) (s n:Nat):f4 A k t (es ++ [e]) s n=if s=t∧n=k then (f4 A k t es s n || cb A e.to.toNat (k - 1)) else f4 A k t es s n:=by
 unfold f4;by_cases h:s=t∧n=k
 ·rw[if_pos h];obtain⟨rfl,rfl⟩:=h;simp[List.any_append,Bool.or_assoc]
 ·rw[if_neg h];have:¬ (n=k∧s=t):=fun x=>h ⟨x.2,x.1⟩;simp[this]
theorem Tz {A:Table} {k s n:Nat} (h:n<k):f2 A k s n=cb A s n:=by simp[f2,h]
theorem SQ {A:Table} {k t s n:Nat} {es:List Ed} (h:n<k):f4 A k t es s n=cb A s n:=by
 have:¬ n=k:=zo;simp[f4,f3,h,this]
end Cl
namespace Cl
theorem IV {α:Type} {a b:List α} {n:Nat} (h:a <+: b) (hn:n≤a.length):a.take n=b.take n:=by
 obtain⟨c,rfl⟩:=h;rw[List.take_append_of_le_length hn]
theorem RJ (l:Table) (n:Nat) (t:Int) (lo:Nat) {c d:Nat} (h:c≤d):edW l n t lo c <+: edW l n t lo d:=by
 induction d with
 | zero=>
  have:c=0:=zo
  subst this;exact List.prefix_rfl
 | succ d ih=>
  by_cases e:c=d+1
  ·subst e;exact List.prefix_rfl
  ·rw[Di];exact List.IsPrefix.trans (ih zo) (List.prefix_append _ _)
theorem RH (l:Table) (n:Nat) (es:List Ed) {i j:Nat} (h:i≤j) (hj:j≤es.length):esW l n (es.take i) <+: esW l n (es.take j):=by
 induction j with
 | zero=>
  have:i=0:=zo
  subst this;exact List.prefix_rfl
 | succ j ih=>
  by_cases e:i=j+1
  ·subst e;exact List.prefix_rfl
  ·rw[uR l n es (i:=j) zo];exact List.IsPrefix.trans (ih zo zo) (List.prefix_append _ _)
def catW (l:Table) (n:Nat) (es:List Ed) (i:Nat) (e:Ed) (c:Nat):List (List UInt8):=esW l n (es.take i) ++ edW l n e.to e.lo c
theorem OQ (l:Table) (n:Nat) (es:List Ed) (i:Nat) (e:Ed):catW l n es i e 0=esW l n (es.take i):=by simp[catW,Jy]
theorem OT (l:Table) (n:Nat) (es:List Ed) (i:Nat) (e:Ed) (c:Nat):catW l n es i e (c+1)=catW l n es i e c ++ xM l n e.to (e.lo+c):=by
 simp[catW,Di]
theorem Qm (l:Table) (n:Nat) (es:List Ed) {i:Nat} (h:i<es.length) {c:Nat} (hc:c≤(es[i]).hi+1 - (es[i]).lo):catW l n es i es[i] c <+: esW l n (es.take (i+1)):=by
 rw[uR l n es h];unfold catW;exact (List.prefix_append_right_inj _).2 (RJ l n _ _ hc)
theorem Qn (l:Table) (n:Nat) (es:List Ed) {i:Nat} (h:i<es.length):catW l n es i es[i] ((es[i]).hi+1 - (es[i]).lo)=esW l n (es.take (i+1)):=by
 rw[uR l n es h];rfl
theorem D8 {α:Type} {a b:List α} {n:Nat} (h:(a.take n).length<n):a.take n ++ b.take (n - (a.take n).length)=(a ++ b).take n:=by
 have:a.length<n:=by
  rw[List.length_take] at h;omega
 rw[List.take_of_length_le zo,List.take_append,List.take_of_length_le (l:=a) zo]
end Cl
namespace Cl
open Go Go.RowKit
theorem ML {α:Type} {l:List α} {s:Nat} (h:s<l.length) (x:α):l.set s x=l.take s ++ x::l.drop (s+1):=by
 rw[List.set_eq_take_append_cons_drop,if_pos h]
theorem M9 {α:Type} {l:List α} {s:Nat} (h:s<l.length):l=l.take s ++ l[s]::l.drop (s+1):=by
 rw[← List.drop_eq_getElem_cons h,List.take_append_drop]
section
variable {w0 w w':World} {m mk:Mem} {L:List Item}
theorem Own.Gm {l:List Item} {s:Nat} (hs:s<l.length) (h:Own w0 m w mk (l ++ L)):Own w0 m w mk (l[s]::(l.take s ++ (l.drop (s+1) ++ L))):=by
 refine h.perm ?_;have e:l ++ L=l.take s ++ l[s]::(l.drop (s+1) ++ L):=by
  rw[← List.cons_append,← List.append_assoc,← M9 hs]
 rw[e];exact List.perm_middle.symm
theorem Own.setAt {l:List Item} {s:Nat} {it:Item} (hs:s<l.length) (h:Own w0 m w mk (l ++ L)) (hstep:∀L',Own w0 m w mk (l[s]::L')→Own w0 m w' mk (it::L')):Own w0 m w' mk (l.set s it ++ L):=by
 have h1:=hstep _ (h.Gm hs);refine h1.perm ?_;rw[ML hs,List.append_assoc,List.cons_append];exact List.perm_middle
end
theorem Own.fore {w0 w:World} {m mk:Mem} {l₁ l₂:List Item} {a:Item} (h:Own w0 m w mk (l₁ ++ a::l₂)):Own w0 m w mk (a::(l₁ ++ l₂)):=h.perm List.perm_middle.symm
theorem Own.Sa {w0 w:World} {m mk:Mem} {l₁ l₂:List Item} {a:Item} (h:Own w0 m w mk (a::(l₁ ++ l₂))):Own w0 m w mk (l₁ ++ a::l₂):=h.perm List.perm_middle
theorem zI {m:Mem} {w w':World} {g i:Nat} {v:Value} (hg:w.heap.size≤g) (h:w'.cell? ⟨g,i,none⟩=some v):(m.grow w w').cell g i=some v:=by
 unfold World.cell? at h;unfold Mem.cell Mem.grow;rw[if_neg zo]
 split at h
 ·rename_i hb;rw[hb];simpa using h
 ·cases h
def brow (b:Nat→Nat→Bool) (M s:Nat):List Value:=(List.range (M+1)).map fun n=>.bool (b s n)
def rsl (g:Nat→Nat) (M s:Nat):Value:=.slice (some ⟨g s,0,none⟩) (M+1) (M+1)
def AP (t:TypeId) (g:Nat→Nat) (b:Nat→Nat→Bool) (M s:Nat):Item:=.row (rsl g M s) t 1 (M+1) (brow b M s)
def eG (t:TypeId) (g:Nat→Nat) (b:Nat→Nat→Bool) (M N:Nat):List Item:=(List.range N).map (AP t g b M)
def bset (b:Nat→Nat→Bool) (s n:Nat) (x:Bool):Nat→Nat→Bool:=fun s' n'=>if s'=s∧n'=n then x else b s' n'
theorem Dv (b:Nat→Nat→Bool) {M s n:Nat} (h:n≤M):(brow b M s)[n]?=some (.bool (b s n)):=by
 have:n<M+1:=zo;simp[brow,this]
theorem Qq (b:Nat→Nat→Bool) {M s n:Nat} (x:Bool):(brow b M s).set n (.bool x)=brow (bset b s n x) M s:=by
 apply List.ext_getElem?;intro i;rw[List.getElem?_set];by_cases e:n=i
 ·subst e;by_cases h:n<M+1
  ·simp[brow,bset,h]
  ·simp[brow,h]
 ·rw[if_neg e];simp only[brow,List.getElem?_map,bset];by_cases h:i<M+1
  ·have:¬ i=n:=fun x=>e x.symm;simp[h,this]
  ·simp[h]
theorem Cj {b b':Nat→Nat→Bool} {M s:Nat} (h:∀n,n≤M→b s n=b' s n):brow b M s=brow b' M s:=by
 unfold brow;apply List.map_congr_left;intro n hn;rw[h n (by have:=List.mem_range.1 hn;omega)]
theorem iT {t:TypeId} {g g':Nat→Nat} {b b':Nat→Nat→Bool} {M N:Nat} (hg:∀s,s<N→g s=g' s) (h:∀s n,s<N→n≤M→b s n=b' s n):eG t g b M N=eG t g' b' M N:=by
 unfold eG;apply List.map_congr_left;intro s hs;have hs:=List.mem_range.1 hs;unfold AP rsl;rw[hg s hs,Cj fun n hn=>h s n hs hn]
theorem qP (t:TypeId) (g:Nat→Nat) (b:Nat→Nat→Bool) (M N:Nat):(eG t g b M N).length=N:=by simp[eG]
theorem yH {t:TypeId} {g:Nat→Nat} {b:Nat→Nat→Bool} {M N s:Nat} (h:s<(eG t g b M N).length):(eG t g b M N)[s]=AP t g b M s:=by simp[eG]
theorem Ke {t:TypeId} {g:Nat→Nat} {b:Nat→Nat→Bool} {M N s n:Nat} (x:Bool):(eG t g b M N).set s (AP t g (bset b s n x) M s)=eG t g (bset b s n x) M N:=by
 apply List.ext_getElem?;intro i;rw[List.getElem?_set];by_cases e:s=i
 ·subst e;rw[qP];by_cases h:s<N
  ·simp[eG,h]
  ·simp[eG,h]
 ·rw[if_neg e];by_cases h:i<N
  ·simp only[eG,List.getElem?_map,List.getElem?_range h,Option.map_some,Option.some.injEq];unfold AP;rw[Cj fun n' _=>?_];have:¬ i=s:=fun x=>e x.symm;simp[bset,this]
  ·simp[eG,h]
theorem GD (t:TypeId) (g:Nat→Nat) (b:Nat→Nat→Bool) (M N:Nat):eG t g b M (N+1)=eG t g b M N ++ [AP t g b M N]:=by simp[eG,List.range_succ]
section
variable {w0 w w':World} {m mk:Mem} {L:List Item} {t:TypeId} {g:Nat→Nat} {b:Nat→Nat→Bool} {M N:Nat}
theorem Own.NA {s:Nat} (h:Own w0 m w mk (eG t g b M N ++ L)) (hs:s<N):w.ownsRow 0 t 1 (rsl g M s) (M+1) (brow b M s):=by
 have:=h.Gm (s:=s) (by rw[qP];exact hs);rw[yH] at this;exact this.row
theorem Own.Hg {s n:Nat} (h:Own w0 m w mk (eG t g b M N ++ L)) (hs:s<N) (hn:n≤M):w.cell? ⟨g s,n,none⟩=some (.bool (b s n)):=aX (h.NA hs) (Dv b hn)
theorem Own.NB {s:Nat} (h:Own w0 m w mk (eG t g b M N ++ L)) (hs:s<N) (n:Nat):w.frozen? ⟨g s,n,none⟩=false:=dP (h.NA hs) n
theorem Own.SF {s:Nat} (h:Own w0 m w mk (eG t g b M N ++ L)) (hs:s<N):g s<w.heap.size:=(World.ownsRow.lt (h.NA hs) _ rfl).2
theorem Own.SE {s:Nat} (h:Own w0 m w mk (eG t g b M N ++ L)) (hs:s<N):w0.heap.size≤g s:=by
 have:=h.Gm (s:=s) (by rw[qP];exact hs);rw[yH] at this;exact (this.fresh _ (List.mem_cons_self ..) (g s) rfl).1
theorem Own.Sz {s n:Nat} (h:Own w0 m w mk (eG t g b M N ++ L)) (hs:s<N) (x:Bool):Own w0 m (w.setCell ⟨g s,n,none⟩ (.bool x)) mk (eG t g (bset b s n x) M N ++ L):=by
 rw[← Ke x];refine h.setAt (by rw[qP];exact hs) fun L' hL=>?_;rw[yH] at hL;have:=Own.setRow (g:=g s) (n:=M+1) (cap:=M+1) (xs:=brow b M s) hL n (.bool x);rw[Qq] at this;exact this
theorem Own.Rp {k:Nat} (h:Own w0 m w mk (AP t g b M k::(eG t g b M k ++ L))):Own w0 m w mk (eG t g b M (k+1) ++ L):=by
 rw[GD,List.append_assoc];exact h.perm List.perm_middle
end
def outer (g:Nat→Nat) (M k N:Nat):List Value:=(List.range N).map fun s=>if s<k then rsl g M s else .slice none 0 0
theorem mV {g:Nat→Nat} {M k N s:Nat} (h:s<N):(outer g M k N)[s]?=some (if s<k then rsl g M s else .slice none 0 0):=by simp[outer,h]
theorem Na {g:Nat→Nat} {M k N:Nat} (x:Nat):(outer g M k N).set k (.slice (some ⟨x,0,none⟩) (M+1) (M+1))=outer (fun s=>if s=k then x else g s) M (k+1) N:=by
 apply List.ext_getElem?;intro i;rw[List.getElem?_set];by_cases h:i<N
 ·rw[mV h,mV h];have hl:(outer g M k N).length=N:=by simp[outer]
  by_cases e:k=i
  ·subst e;simp[hl,h,rsl]
  ·rw[if_neg e];have e':¬ i=k:=fun x=>e x.symm;by_cases h1:i<k
   ·simp[h1,e',rsl,show i<k+1 by omega]
   ·simp[h1,show ¬ i<k+1 by omega]
 ·have hl:(outer g M k N).length=N:=by simp[outer]
  have hl2:(outer (fun s=>if s=k then x else g s) M (k+1) N).length=N:=by simp[outer]
  have e1:(outer g M k N)[i]?=none:=List.getElem?_eq_none zo;have e2:(outer (fun s=>if s=k then x else g s) M (k+1) N)[i]?=none:=List.getElem?_eq_none zo;rw[e1,e2,hl];by_cases e:k=i
  ·rw[if_pos e,if_neg zo]
  ·rw[if_neg e]
end Cl
namespace Cl
open Go Go.RowKit Go.Proofs
theorem PK:JK Tryz.prog 90 128 24 (.slice none 0 0):=⟨Tryz.underlying90,zk,rfl⟩
def kH (A:Table) (M:Nat):List (List Bool):=(List.range A.length).map fun s=>(List.range (M+1)).map fun n=>cb A s n
theorem Ko (v:Value) (A:Table) (M:Nat) (m:Mem) (w:World) (hm:m.inn w) (hA:aI m v A) (hw:WF A) (hb:Bytes A) (hM:M≤1000000) (hl:A.length≤100000) :
 Calls Tryz.prog 95 #[.agg #[v],.int .i64 M] w fun e w'=>∃r,e=.returned r∧Below w.heap.size w w'∧JB (m.grow w w') r (kH A M):=by
 have hO:=(Own.start hm).al #[v] 27;have HO:=zh hO;obtain⟨va,vc,rfl,a1,a2,a3⟩:=hA;unfold maxLen at a2;have HA:=zh a3;have HW:=zh (zi hw hb);clear hO a3 hw hb;refine aj fun R hR=>?_;have b0:=HO.out.obj.cell (i:=0) rfl
 go_enter Tryz.func95,Tryz.ntmps95
 go_wp2_with (refine wpList_make_row PK rfl (.tmp 12) (.tmp 12) rfl A.length rfl rfl zo (by unfold maxLen;omega) ?_)
 intro w1 hown hgr;have hO1:=HO.out.make (by simpa using hown) hgr;have hsz:(w.alloc (.cells #[.slice va A.length vc] 27)).heap.size=w.heap.size+1:=by simp
 rw[hsz] at hO1;have ho0:List.replicate A.length (Value.slice none 0 0)=outer (fun _=>0) M 0 A.length:=by
  apply List.ext_getElem <;> simp[outer]
 rw[ho0] at hO1;have HO1:=zh hO1;clear hown hgr hO1 hsz ho0 b0 HO;generalize w.heap.size+1=OB at *
 have hb0:=HO1.out.swap.obj.cell (i:=0) rfl;have hb1:=HO1.out.swap.obj.lt;go_wp2;refine ay [1,2,5,6] (fun n vs w2=>∃(k:Nat) (g:Nat→Nat),k≤A.length∧n=A.length - k∧vs=[.int .i64 M,.pointer (some ⟨w.heap.size,0,none⟩),.slice (some ⟨OB,0,none⟩) A.length A.length,.int .i64 k] ∧
  Own w m w2 m (eG 4 g (f1 A) M k ++ [.row (.slice (some ⟨OB,0,none⟩) A.length A.length) 128 1 A.length (outer g M k A.length),.obj w.heap.size 27 #[.slice va A.length vc]])) ?_ ?_
 ·exact⟨_,0,fun _=>0,Nat.zero_le _,rfl,rfl,HO1.out⟩
 clear HO1 hb0 hb1;rintro X z n vs w2 hX - ⟨k,g,hk,rfl,rfl,hO⟩;simp[litL,lk];have hbox:=hO.fI (g:=w.heap.size) (t:=27) (arr:=#[.slice va A.length vc]) zS;have c1:=hbox.cell (i:=0) rfl;have c2:=hbox.lt;by_cases hlt:k<A.length
 ·obtain⟨tb,toff,rfl,h4⟩:=HA.out (by intro h;simp[h] at hlt);obtain⟨e1,-⟩:=h4 k hlt;have hc0:=RV hlt;rw[← hc0] at e1;obtain⟨ac,hac⟩:∃x,cb A k 0=x:=⟨_,rfl⟩;rw[hac] at e1;have HAC:=zh hac;have d1:=Mem.av hO.inn e1;have d2:=Mem.ak hO.inn e1;have HO:=zh hO;clear hO hc0 hac h4 hbox
  go_wp2_with (refine wpList_make_row CY rfl (.tmp 24) (.tmp 24) rfl (M+1) rfl rfl zo (by unfold maxLen;omega) ?_)
  intro w3 hown hgr;have hO2:=HO.out.make hown hgr;generalize w2.heap.size=G at *
  have hP:=hO2.fore (l₁:=.row (.slice (some ⟨G,0,none⟩) (M+1) (M+1)) 4 1 (M+1) (List.replicate (M+1) (.bool false))::eG 4 g (f1 A) M k) (a:=.row (.slice (some ⟨OB,0,none⟩) A.length A.length) 128 1 A.length (outer g M k A.length));have x1:=aX hP.row (mV (g:=g) (M:=M) (k:=k) hlt);have x2:=dP hP.row k;have x3:=(World.ownsRow.lt hP.row _ rfl).2;have hQ:=(hP.setRow k (.slice (some ⟨G,0,none⟩) (M+1) (M+1))).Sa (l₁:=.row (.slice (some ⟨G,0,none⟩) (M+1) (M+1)) 4 1 (M+1) (List.replicate (M+1) (.bool false))::eG 4 g (f1 A) M k);rw[Na] at hQ;have hnk:¬ k<k:=Nat.lt_irrefl k;simp only[hnk,if_false] at x1;have HQ:=zh hQ;clear hown hgr hO2 hP hQ HO c1 c2 d1 d2;go_wp2;generalize w3.setCell ⟨OB,k,none⟩ (.slice (some ⟨G,0,none⟩) (M+1) (M+1))=w4 at *
  clear x1 x2 x3;have hR2:=HQ.out.fore (l₁:=.row (.slice (some ⟨G,0,none⟩) (M+1) (M+1)) 4 1 (M+1) (List.replicate (M+1) (.bool false))::eG 4 g (f1 A) M k);have x1:=aX hR2.row (mV (g:=fun s=>if s=k then G else g s) (M:=M) (k:=k+1) hlt);have hkk:k<k+1:=Nat.lt_succ_self k;simp only[hkk,if_true,rsl] at x1;have x2:=HQ.out.row;have x3:=aX x2 (j:=0) (u:=.bool false) zS;have x4:=dP x2 0;have x5:=(World.ownsRow.lt x2 _ rfl).2;have hbox:=HQ.out.fI (g:=w.heap.size) (t:=27) (arr:=#[.slice (some ⟨tb,toff,none⟩) A.length vc]) zS;have c1:=hbox.cell (i:=0) rfl;have d1:=Mem.av HQ.out.inn e1;clear hR2 x2 hbox;refine aA [1,2,5,6] (fun vs w'=>vs=[.int .i64 M,.pointer (some ⟨w.heap.size,0,none⟩),.slice (some ⟨OB,0,none⟩) A.length A.length,.int .i64 k]∧w'=(w4.setCell ⟨G,0,none⟩ (.bool ac)).drew) ?_ ?_
  ·intro Y hY
   go_region
   all_goals exact hY.out _ _ rfl ⟨rfl,rfl⟩
  rintro z1 vs w5 - ⟨rfl,rfl⟩;simp[litL,lk];have hF:=(HQ.out.setRow 0 (.bool ac)).dr;have hrow:(List.replicate (M+1) (Value.bool false)).set 0 (.bool ac)=brow (f1 A) M k:=by
   apply List.ext_getElem?;intro i;rw[List.getElem?_set];by_cases h:0=i
   ·subst h;rw[if_pos rfl,Dv _ (Nat.zero_le _),if_pos zS];simp[f1,HAC.out]
   ·rw[if_neg h];by_cases h2:i≤M
    ·rw[Dv _ h2];have h0:¬ i=0:=fun x=>h x.symm;have h3:i<M+1:=zo;simp[f1,h0,h3]
    ·rw[List.getElem?_eq_none (by simp;omega),List.getElem?_eq_none (by simp[brow];omega)]
  rw[hrow] at hF;have hcg:eG 4 g (f1 A) M k=eG 4 (fun s=>if s=k then G else g s) (f1 A) M k:=iT (fun s hs=>by show g s=if s=k then G else g s;rw[if_neg zo]) (fun _ _ _ _=>rfl);rw[hcg] at hF;have hF2:Own w m (w4.setCell ⟨G,0,none⟩ (.bool ac)).drew m (AP 4 (fun s=>if s=k then G else g s) (f1 A) M k::(eG 4 (fun s=>if s=k then G else g s) (f1 A) M k ++ [.row (.slice (some ⟨OB,0,none⟩) A.length A.length) 128 1 A.length (outer (fun s=>if s=k then G else g s) M (k+1) A.length),.obj w.heap.size 27 #[.slice (some ⟨tb,toff,none⟩) A.length vc]])):=by
   have e:AP 4 (fun s=>if s=k then G else g s) (f1 A) M k=.row (.slice (some ⟨G,0,none⟩) (M+1) (M+1)) 4 1 (M+1) (brow (f1 A) M k):=by simp[AP,rsl]
   rw[e];exact hF
  have HF:=zh hF2.Rp;clear hF hF2 hrow hcg HQ x1 x3 x4 x5 c1 d1 HAC;go_wp2;exact hX.out _ _ _ zo rfl ⟨k+1,fun s=>if s=k then G else g s,zo,rfl,rfl,HF.out⟩
 ·obtain rfl:k=A.length:=zo;have hO2:Own w m w2 m (eG 4 g (f2 A 1) M A.length ++ [.row (.slice (some ⟨OB,0,none⟩) A.length A.length) 128 1 A.length (outer g M A.length A.length),.obj w.heap.size 27 #[.slice va A.length vc]]):=by
   rw[← iT (fun _ _=>rfl) (fun s n _ _=>TA A s n)];exact hO
  have HO:=zh hO2;clear hO hO2 hk;go_wp2;refine ay [1,2,5,7] (fun n vs w3=>∃j:Nat,j≤M∧n=M - j∧vs=[.int .i64 M,.pointer (some ⟨w.heap.size,0,none⟩),.slice (some ⟨OB,0,none⟩) A.length A.length,.int .i64 ((j+1:Nat):Int)] ∧
   Own w m w3 m (eG 4 g (f2 A (j+1)) M A.length ++ [.row (.slice (some ⟨OB,0,none⟩) A.length A.length) 128 1 A.length (outer g M A.length A.length),.obj w.heap.size 27 #[.slice va A.length vc]])) ?_ ?_
  ·exact⟨_,0,Nat.zero_le _,rfl,rfl,HO.out⟩
  clear HO c1 c2 hbox;rintro X1 z1 n1 vs1 w3 hX1 - ⟨j,hj,rfl,rfl,hO⟩;simp[litL,lk];by_cases hltj:j<M
  ·have hd:decide ((j:Int)+1≤(M:Int))=true:=decide_eq_true zo;have hO2:Own w m w3 m (eG 4 g (f3 A (j+1) 0) M A.length ++ [.row (.slice (some ⟨OB,0,none⟩) A.length A.length) 128 1 A.length (outer g M A.length A.length),.obj w.heap.size 27 #[.slice va A.length vc]]):=by
    rw[← iT (fun _ _=>rfl) (fun s n _ _=>Ty A (j+1) s n)];exact hO
   have HO:=zh hO2;clear hO hO2;go_wp2;refine ay [1,2,5,7,8] (fun n vs w4=>∃t:Nat,t≤A.length∧n=A.length - t∧vs=[.int .i64 M,.pointer (some ⟨w.heap.size,0,none⟩),.slice (some ⟨OB,0,none⟩) A.length A.length,.int .i64 ((j+1:Nat):Int),.int .i64 t] ∧
    Own w m w4 m (eG 4 g (f3 A (j+1) t) M A.length ++ [.row (.slice (some ⟨OB,0,none⟩) A.length A.length) 128 1 A.length (outer g M A.length A.length),.obj w.heap.size 27 #[.slice va A.length vc]])) ?_ ?_
   ·exact⟨_,0,Nat.zero_le _,rfl,rfl,HO.out⟩
   clear HO;rintro X2 z2 n2 vs2 w4 hX2 - ⟨t,ht,rfl,rfl,hO⟩;simp[litL,lk];have hbox:=hO.fI (g:=w.heap.size) (t:=27) (arr:=#[.slice va A.length vc]) zS;have c1:=hbox.cell (i:=0) rfl;have c2:=hbox.lt;clear hbox;by_cases hltt:t<A.length
   ·obtain⟨tb,toff,rfl,h4⟩:=HA.out (by intro h;simp[h] at hltt);obtain⟨-,ve,g2,ea,ec,rfl,g4,g5,g6⟩:=h4 t hltt;unfold maxLen at g5;have hf3:=fun s n=>Tv HW.out.1 HW.out.2 (k:=j+1) zo hltt s n;have hwe:=fO (HW.out.1 _ (List.getElem_mem hltt));have hO2:Own w m w4 m (eG 4 g (f4 A (j+1) t ((A[t]).edges.take 0)) M A.length ++ [.row (.slice (some ⟨OB,0,none⟩) A.length A.length) 128 1 A.length (outer g M A.length A.length),.obj w.heap.size 27 #[.slice (some ⟨tb,toff,none⟩) A.length vc]]):=by
     rw[← iT (fun _ _=>rfl) (fun s n _ _=>(show f3 A (j+1) t s n=f4 A (j+1) t ((A[t]).edges.take 0) s n from Tw A (j+1) t s n))];exact hO
    have HO:=zh (zi hO2 (zi hf3 hwe));have HG6:=zh g6;clear hO hO2 hf3 hwe h4 g6;generalize (A[t]).edges=es at *
    go_wp2;refine ay [1,2,5,7,8,9] (fun n vs w5=>∃i:Nat,i≤es.length∧n=es.length - i∧vs=[.int .i64 M,.pointer (some ⟨w.heap.size,0,none⟩),.slice (some ⟨OB,0,none⟩) A.length A.length,.int .i64 ((j+1:Nat):Int),.int .i64 t,.int .i64 i] ∧
     Own w m w5 m (eG 4 g (f4 A (j+1) t (es.take i)) M A.length ++ [.row (.slice (some ⟨OB,0,none⟩) A.length A.length) 128 1 A.length (outer g M A.length A.length),.obj w.heap.size 27 #[.slice (some ⟨tb,toff,none⟩) A.length vc]])) ?_ ?_
    ·exact⟨_,0,Nat.zero_le _,rfl,rfl,HO.out.1⟩
    have HF3:=zh HO.out.2;clear HO c1 c2;rintro X3 z3 n3 vs3 w5 hX3 - ⟨i,hi,rfl,rfl,hO⟩;simp[litL,lk];have hbox:=hO.fI (g:=w.heap.size) (t:=27) (arr:=#[.slice (some ⟨tb,toff,none⟩) A.length vc]) zS;have c1:=hbox.cell (i:=0) rfl;have c2:=hbox.lt;have d1:=Mem.av hO.inn g2;have d2:=Mem.ak hO.inn g2;clear hbox;by_cases hlti:i<es.length
    ·obtain⟨eb,eo,rfl,h10⟩:=HG6.out (by intro h;simp[h] at hlti);obtain⟨-,-,e3,-⟩:=h10 i hlti;have hsep:=HF3.out.2 es[i] (List.getElem_mem hlti);have hstep:=fun s n=>RG A (j+1) t (es.take i) es[i] s n;rw[← List.take_succ_eq_append_getElem hlti] at hstep;obtain⟨to,hto⟩:=Int.eq_ofNat_of_zero_le hsep.2.2.1;have htl:to<A.length:=by have:=hsep.2.2.2;omega
     have hton:(es[i]).to.toNat=to:=by rw[hto];rfl
     rw[hton] at hstep;rw[hto] at e3;have d3:=Mem.av hO.inn e3;have d4:=Mem.ak hO.inn e3;have hP:=hO.fore (l₁:=eG 4 g (f4 A (j+1) t (es.take i)) M A.length);have x1:=aX hP.row (mV (g:=g) (M:=M) (k:=A.length) htl);have x2:=aX hP.row (mV (g:=g) (M:=M) (k:=A.length) hltt);simp only[htl,hltt,if_true,rsl] at x1 x2;have x3:=(World.ownsRow.lt hP.row _ rfl).2;have y1:=hO.Hg htl (n:=j) zo;rw[SQ (Nat.lt_succ_self j)] at y1;have y2:=hO.SF htl;have y3:=hO.Hg hltt (n:=j+1) zo;have y4:=hO.SF hltt;have y5:=hO.NB hltt (j+1);obtain⟨bc,hbc⟩:∃x,cb A to j=x:=⟨_,rfl⟩;rw[hbc] at y1;have HS:=zh (zi hstep (zi hbc hO));clear hstep hbc hsep hto hton hP h10 hO
     cases bc with
     | false=>
      have hO2:Own w m w5 m (eG 4 g (f4 A (j+1) t (es.take (i+1))) M A.length ++ [.row (.slice (some ⟨OB,0,none⟩) A.length A.length) 128 1 A.length (outer g M A.length A.length),.obj w.heap.size 27 #[.slice (some ⟨tb,toff,none⟩) A.length vc]]):=by
       rw[← iT (fun _ _=>rfl) (fun s n _ _=>(show f4 A (j+1) t (es.take i) s n=f4 A (j+1) t (es.take (i+1)) s n by
        rw[HS.out.1 s n,Nat.add_sub_cancel,HS.out.2.1,Bool.or_false]
        split <;> rfl))]
       exact HS.out.2.2
      have HO2:=zh hO2;clear hO2;go_wp2
      exact hX3.out _ _ _ zo rfl ⟨i+1,zo,rfl,rfl,HO2.out⟩
     | true=>
      have hO2:Own w m (w5.setCell ⟨g t,j+1,none⟩ (.bool true)) m (eG 4 g (f4 A (j+1) t (es.take (i+1))) M A.length ++ [.row (.slice (some ⟨OB,0,none⟩) A.length A.length) 128 1 A.length (outer g M A.length A.length),.obj w.heap.size 27 #[.slice (some ⟨tb,toff,none⟩) A.length vc]]):=by
       rw[← iT (g:=g) (b:=bset (f4 A (j+1) t (es.take i)) t (j+1) true) (fun _ _=>rfl) (fun s n _ _=>(show _=f4 A (j+1) t (es.take (i+1)) s n by
        rw[HS.out.1 s n,Nat.add_sub_cancel,HS.out.2.1,Bool.or_true]
        rfl))]
       exact HS.out.2.2.Sz hltt true
      have HO2:=zh hO2;clear hO2;go_wp2;exact hX3.out _ _ _ zo rfl ⟨i+1,zo,rfl,rfl,HO2.out⟩
    ·obtain rfl:i=es.length:=zo;have hO2:Own w m w5 m (eG 4 g (f3 A (j+1) (t+1)) M A.length ++ [.row (.slice (some ⟨OB,0,none⟩) A.length A.length) 128 1 A.length (outer g M A.length A.length),.obj w.heap.size 27 #[.slice (some ⟨tb,toff,none⟩) A.length vc]]):=by
      rw[← iT (fun _ _=>rfl) (fun s n _ _=>(show f4 A (j+1) t (es.take es.length) s n=f3 A (j+1) (t+1) s n by
       rw[List.take_length];exact HF3.out.1 s n))]
      exact hO
     have HO2:=zh hO2;clear hO2 hO hi;go_wp2;exact hX2.out _ _ _ zo rfl ⟨t+1,zo,rfl,rfl,HO2.out⟩
   ·obtain rfl:t=A.length:=zo;have hO2:Own w m w4 m (eG 4 g (f2 A (j+1+1)) M A.length ++ [.row (.slice (some ⟨OB,0,none⟩) A.length A.length) 128 1 A.length (outer g M A.length A.length),.obj w.heap.size 27 #[.slice va A.length vc]]):=by
     rw[← iT (fun _ _=>rfl) (fun s n hs _=>Tx A (j+1) s n hs)];exact hO
    have HO2:=zh hO2;clear hO2 hO ht;go_wp2;refine hX1.out _ _ _ zo rfl ⟨j+1,zo,rfl,rfl,HO2.out⟩
  ·obtain rfl:j=M:=zo;have hd:decide ((j:Int)+1≤(j:Int))=false:=decide_eq_false zo;have HO:=zh hO;clear hO hj;go_wp2;refine hR.out _ _ ⟨_,rfl,HO.out.below,?_⟩;have hP:=HO.out.fore (l₁:=eG 4 g (f2 A (j+1)) j A.length);have hOB:=(hP.fresh _ (List.mem_cons_self ..) OB rfl).1;have hlen:(kH A j).length=A.length:=by simp[kH]
   rw[← hlen];refine ⟨_,_,rfl,Nat.le_refl _,by rw[hlen];unfold maxLen;omega,fun _=>⟨OB,0,rfl,fun s hs=>?_⟩⟩;rw[hlen] at hs;rw[Nat.zero_add];have h1:=aX hP.row (mV (g:=g) (M:=j) (k:=A.length) hs);rw[if_pos hs] at h1;refine ⟨rsl g j s,zI hOB h1,?_⟩;have e:(kH A j)[s]'(by rw[hlen];exact hs)=(List.range (j+1)).map fun n=>cb A s n:=by simp[kH]
   rw[e];have hl2:((List.range (j+1)).map fun n=>cb A s n).length=j+1:=by simp
   have hgs:=HO.out.SE hs;refine ⟨some ⟨g s,0,none⟩,j+1,by rw[hl2];rfl,zo,by unfold maxLen;omega,fun _=>⟨g s,0,rfl,fun n hn=>?_⟩⟩;rw[hl2] at hn;rw[Nat.zero_add];have h2:=HO.out.Hg hs (n:=n) zo;rw[Tz hn] at h2;have e2:((List.range (j+1)).map fun n=>cb A s n)[n]'(by rw[hl2];exact hn)=cb A s n:=by simp
   rw[e2];exact zI hgs h2
def preS (p:List UInt8) (l:List (List UInt8)):List ByteArray:=l.map fun x=>bstr (p ++ x)
theorem qU (p:List UInt8) (l:List (List UInt8)):(preS p l).length=l.length:=by simp[preS]
theorem Qp (a b:List UInt8):bstr a ++ bstr b=bstr (a ++ b):=by
 unfold bstr;apply ByteArray.ext;simp
theorem OA (w:World) (x:Int) (b:UInt8) (hb:x=b.toNat) :
 (convert 129 9 (.slice (some ⟨w.heap.size,0,none⟩) 1 1)).run Tryz.prog (w.alloc (.cells #[.int .u8 x] 5))=.ok (.string (bstr [b])) (w.alloc (.cells #[.int .u8 x] 5)):=by
 subst hb;have:=run_convert_bytes_arg (w.alloc (.cells #[.int .u8 (b.toNat:Int)] 5)) 129 5 Tryz.underlying129 Tryz.underlying5 w.heap.size 0 1 1 [(b.toNat:Int)] rfl (fun i hi=>by
  obtain rfl:i=0:=zo;simp) _ Tryz.underlying9
 rw[this];have:=strOfNums_bytes [b];simp only[List.map_cons,List.map_nil] at this;rw[this]
 rfl
theorem EE (v vt:Value) (A:Table) (M:Nat) (m:Mem) (hA:aI m v A) (ht:JB m vt (kH A M)) (hw:WF A) (hb:Bytes A) (hM:M≤1000000) (_:A.length≤100000) :
 ∀(len:Nat),len≤M→∀(s:Nat) (n:Int) (p:List UInt8) (mm:Mem) (w:World),s<A.length → -9223372036854775808≤n→n≤1000→p.length+len≤2000000→m.le mm→mm.inn w →
  Calls Tryz.prog 96 #[.agg #[v],vt,.int .i64 s,.int .i64 len,.int .i64 n,.string (bstr p)] w fun e w'=>∃r,e=.returned r∧Below w.heap.size w w'∧rG (mm.grow w w') r (preS p ((wex A len s).take n.toNat)):=by
 have hA':=hA;have ht':=ht;obtain⟨va,vc,rfl,a1,a2,a3⟩:=hA;obtain⟨ta,tc,rfl,t1,t2,t3⟩:=ht;unfold maxLen at a2 t2;have hct:(kH A M).length=A.length:=by simp[kH]
 rw[hct] at t1 ht' ⊢;have HA:=zh (zi a3 (zi t3 (zi hw hb)));clear a3 t3 hw hb hct;intro len
 induction len with
 | zero=>
  intro hlen s n p mm w hs hn1 hn2 hp hmm hm;refine aj fun R hR=>?_;obtain⟨tb,toff,rfl,ht3⟩:=HA.out.2.1 (by intro h;have:=congrArg List.length h;simp[kH] at this;rw[this] at hs;simp at hs);obtain⟨u,u1,ua,uc,rfl,u2,u3,u4⟩:=ht3 s (by simpa [kH] using hs);have e1:(kH A M)[s]'(by simpa [kH] using hs)=(List.range (M+1)).map fun n=>cb A s n:=by simp[kH]
  rw[e1] at u1 u2 u4;simp only[List.length_map,List.length_range] at u1 u2 u4;obtain⟨ub,uoff,rfl,u5⟩:=u4 zS;have u6:=u5 0 zo;simp at u6;unfold OY at u6;have d1:=Mem.av hm (Mem.aF hmm u1);have d2:=Mem.ak hm (Mem.aF hmm u1);have d3:=Mem.av hm (Mem.aF hmm u6);have d4:=Mem.ak hm (Mem.aF hmm u6);unfold maxLen at u3;obtain⟨bb,hbb⟩:∃x,cb A s 0=x:=⟨_,rfl⟩;rw[hbb] at d3 u6;have hO:=(Own.start hm).al #[.slice va A.length vc] 27;have HO:=zh hO;have HBB:=zh hbb;clear hO hbb ht3 u4 u5 e1
  cases bb with
  | false=>
   have hnil:wex A 0 s=[]:=by
    have:=HBB.out;unfold cb at this;simpa using this
   have HN:=zh hnil;clear hnil
   go_enter Tryz.func96,Tryz.ntmps96
   go_wp2;refine hR.out _ _ ⟨_,rfl,HO.out.below,?_⟩;rw[HN.out]
   exact⟨none,0,by simp[preS],by simp[preS],Nat.zero_le _,fun h=>absurd (by simp[preS]) h⟩
  | true=>
   by_cases hn:n≤0
   ·have hd:decide (n≤0)=true:=decide_eq_true hn
    go_enter Tryz.func96,Tryz.ntmps96
    go_wp2;refine hR.out _ _ ⟨_,rfl,HO.out.below,?_⟩;have:n.toNat=0:=zo;rw[this];exact⟨none,0,by simp[preS],by simp[preS],Nat.zero_le _,fun h=>absurd (by simp[preS]) h⟩
   ·have hd:decide (n≤0)=false:=decide_eq_false hn;have hw0:wex A 0 s=[[]]:=by
     have h1:=HBB.out;unfold cb at h1;have h2:∀x∈wex A 0 s,x=[]:=fun x hx=>List.eq_nil_of_length_eq_zero ((kW A 0 s x).1 hx).1;have h3:=(vJ A 0 s)
     match hq:wex A 0 s,h1,h2,h3 with
     | [],h1,_,_=>simp at h1
     | [x],_,h2,_=>rw[h2 x zS]
     | x::y::r,_,h2,h3=>
      have e1:=h2 x zS;have e2:=h2 y zS;rw[e1,e2] at h3;simp at h3;exact absurd h3.1.1 (jG [])
    have HN:=zh hw0;have hO2:=HO.out.al #[.string (bstr p)] 9;have hsz:(w.alloc (.cells #[.slice va A.length vc] 27)).heap.size=w.heap.size+1:=by simp
    rw[hsz] at hO2;have HO2:=zh hO2;clear hw0 hO2 hsz
    go_enter Tryz.func96,Tryz.ntmps96
    go_wp2;refine hR.out _ _ ⟨_,rfl,HO2.out.below,?_⟩;have hge:=(HO2.out.fresh _ (List.mem_cons_self ..) _ rfl).1;have e:preS p ((wex A 0 s).take n.toNat)=[bstr p]:=by
     rw[HN.out];have:1≤n.toNat:=zo;rw[List.take_of_length_le (by simpa using this)];simp[preS]
    rw[e];refine ⟨_,_,rfl,Nat.le_refl _,by simp[maxLen],fun _=>⟨_,0,rfl,fun i hi=>?_⟩⟩;obtain rfl:i=0:=by simpa using hi
    exact⟨zI hge (HO2.out.obj.cell (i:=0) rfl),by simp[bstr,ByteArray.size,maxLen];omega⟩
 | succ len ih=>
  intro hlen s n p mm w hs hn1 hn2 hp hmm hm;have IH:=zh ih;clear ih;refine aj fun R hR=>?_;obtain⟨tb,toff,rfl,ht3⟩:=HA.out.2.1 (by intro h;have:=congrArg List.length h;simp[kH] at this;rw[this] at hs;simp at hs);obtain⟨u,u1,ua,uc,rfl,u2,u3,u4⟩:=ht3 s (by simpa [kH] using hs);have e1:(kH A M)[s]'(by simpa [kH] using hs)=(List.range (M+1)).map fun n=>cb A s n:=by simp[kH]
  rw[e1] at u1 u2 u4;simp only[List.length_map,List.length_range] at u1 u2 u4;obtain⟨ub,uoff,rfl,u5⟩:=u4 zS;have u6:=u5 (len+1) zo;simp at u6;unfold OY at u6;have d1:=Mem.av hm (Mem.aF hmm u1);have d2:=Mem.ak hm (Mem.aF hmm u1);have d3:=Mem.av hm (Mem.aF hmm u6);have d4:=Mem.ak hm (Mem.aF hmm u6);unfold maxLen at u3;obtain⟨bb,hbb⟩:∃x,cb A s (len+1)=x:=⟨_,rfl⟩;rw[hbb] at d3 u6;have hO:=(Own.start hm).al #[.slice va A.length vc] 27;have HO:=zh hO;have HBB:=zh hbb;clear hO hbb ht3 u4 u5 e1
  cases bb with
  | false=>
   have hnil:wex A (len+1) s=[]:=by
    have:=HBB.out;unfold cb at this;simpa using this
   have HN:=zh hnil;clear hnil
   go_enter Tryz.func96,Tryz.ntmps96
   go_wp2;refine hR.out _ _ ⟨_,rfl,HO.out.below,?_⟩;rw[HN.out]
   exact⟨none,0,by simp[preS],by simp[preS],Nat.zero_le _,fun h=>absurd (by simp[preS]) h⟩
  | true=>
   by_cases hn:n≤0
   ·have hd:decide (n≤0)=true:=decide_eq_true hn
    go_enter Tryz.func96,Tryz.ntmps96
    go_wp2;refine hR.out _ _ ⟨_,rfl,HO.out.below,?_⟩;have:n.toNat=0:=zo;rw[this];exact⟨none,0,by simp[preS],by simp[preS],Nat.zero_le _,fun h=>absurd (by simp[preS]) h⟩
   ·have hd:decide (n≤0)=false:=decide_eq_false hn;have hd2:(((len+1:Nat):Int)==0)=false:=beq_eq_false_iff_ne.2 zo;obtain⟨sb,soff,rfl,h4⟩:=HA.out.1 (by intro h;simp[h] at hs);obtain⟨-,ve,g2,ea,ec,rfl,g4,g5,g6⟩:=h4 s hs;have hwx:=Gg HA.out.2.2.1 HA.out.2.2.2 hs len;have hsep:=fO (HA.out.2.2.1 _ (List.getElem_mem hs));have hby:=HA.out.2.2.2 _ (List.getElem_mem hs);generalize (A[s]).edges=es at *
    have HX:=zh (zi hwx (zi hsep hby));have G6:=zh g6;have g2':=Mem.aF hmm g2;have hb0:=HO.out.obj.cell (i:=0) rfl;unfold maxLen at g5;obtain⟨k,rfl⟩:∃k:Nat,n=k:=⟨n.toNat,zo⟩;have hO2:=HO.out.eH 9 1;have HO2:=zh hO2;clear hwx hsep hby g6 h4 hO2 HO
    go_enter Tryz.func96,Tryz.ntmps96
    go_wp2;refine ay [1,2,3,4,5,6,13,14] (fun n vs w2=>∃(i:Nat) (vo:Value) (out:List (List UInt8)) (mk:Mem),i≤es.length∧n=es.length - i∧vs=[.slice (some ⟨tb,toff,none⟩) A.length tc,.int .i64 s,.int .i64 ((len+1:Nat):Int),.int .i64 k,.string (bstr p),.pointer (some ⟨w.heap.size,0,none⟩),vo,.int .i64 i] ∧
     out=(esW A len (es.take i)).take k∧Own w mm w2 mk [.row vo 9 1 out.length ((preS p out).map Value.string),.obj w.heap.size 27 #[.slice (some ⟨sb,soff,none⟩) A.length vc]]∧mm.le mk) ?_ ?_
    ·exact⟨_,0,.slice none 0 0,[],mm,Nat.zero_le _,rfl,rfl,by simp[esW],HO2.out,Mem.le_refl _⟩
    clear HO2 d1 d2 d3 d4 hb0;rintro X z n vs w2 hX - ⟨i,vo,out,mk,hi,rfl,rfl,hout,hO,hmk⟩;simp[litL,lk];obtain⟨voa,voc,rfl⟩:=aO hO.row;have hb0:=hO.swap.obj.cell (i:=0) rfl;have hb1:=hO.swap.obj.lt;have d1:=Mem.av hO.inn (Mem.aF hmk g2');have d2:=Mem.ak hO.inn (Mem.aF hmk g2');have hok:out.length≤k:=by rw[hout];exact List.length_take_le _ _
    by_cases hlt:i<es.length
    ·by_cases hk2:out.length<k
     ·obtain⟨eb,eo,rfl,h10⟩:=G6.out (by intro h;simp[h] at hlt);obtain⟨x1,x2,x3,x4,x5,-⟩:=h10 i hlt;have f1:=Mem.av hO.inn (Mem.aF hmk (Mem.aF hmm x1));have f2:=Mem.av hO.inn (Mem.aF hmk (Mem.aF hmm x2));have f3:=Mem.av hO.inn (Mem.aF hmk (Mem.aF hmm x3));have f4:=Mem.ak hO.inn (Mem.aF hmk (Mem.aF hmm x1));have hse:=HX.out.2.1 es[i] (List.getElem_mem hlt);have hcp:=fun c (hc:c≤(es[i]).hi+1 - (es[i]).lo)=>Qm A len es hlt hc;have hca:=Qn A len es hlt;have hc0:=OQ A len es i es[i];generalize es[i]=e at *
      obtain⟨to,hto⟩:=Int.eq_ofNat_of_zero_le hse.2.2.1;have htl:to<A.length:=by have:=hse.2.2.2;omega
      have hlh:=hse.2.1;have hO3:=(hO.al #[.int .u8 e.lo,.int .u8 e.hi,.int .i64 e.to] 106).swap;have HO3:=zh hO3;have HC0:=zh (zi hcp (zi hca (zi (show out=(catW A len es i e 0).take k by rw[hc0];exact hout) hto)));clear hcp hca hc0 hto hO hO3 hout h10 hse;go_wp2;generalize w2.alloc (.cells #[.int .u8 e.lo,.int .u8 e.hi,.int .i64 e.to] 106)=w3 at *
      generalize w2.heap.size=E at *
      refine ay [1,2,3,4,5,6,13,14,15,16] (fun n vs w4=>∃(c:Nat) (vo:Value) (out:List (List UInt8)) (mk:Mem),c≤e.hi+1 - e.lo∧n=e.hi+1 - e.lo - c∧vs=[.slice (some ⟨tb,toff,none⟩) A.length tc,.int .i64 s,.int .i64 ((len+1:Nat):Int),.int .i64 k,.string (bstr p),.pointer (some ⟨w.heap.size,0,none⟩),vo,.int .i64 i,.pointer (some ⟨E,0,none⟩),.int .i64 ((e.lo+c:Nat):Int)] ∧
       out=(catW A len es i e c).take k∧Own w mm w4 mk [.row vo 9 1 out.length ((preS p out).map Value.string),.obj E 106 #[.int .u8 e.lo,.int .u8 e.hi,.int .i64 e.to],.obj w.heap.size 27 #[.slice (some ⟨sb,soff,none⟩) A.length vc]]∧mm.le mk) ?_ ?_
      ·exact⟨_,0,_,out,mk,Nat.zero_le _,rfl,rfl,HC0.out.2.2.1,HO3.out,hmk⟩
      have HC:=zh (zi HC0.out.1 (zi HC0.out.2.1 HC0.out.2.2.2));clear HC0 HO3 f1 f2 f3 f4 hb0 hb1 d1 d2 hk2 hok hmk;rintro Y z1 n1 vs1 w4 hY - ⟨c,vo,out,mk,hc,rfl,rfl,hout,hO,hmk⟩;simp[litL,lk];obtain⟨voa,voc,rfl⟩:=aO hO.row;have hb0:=hO.third.obj.cell (i:=0) rfl;have hb1:=hO.third.obj.lt;have q0:=hO.swap.obj.cell (i:=0) rfl;have q1:=hO.swap.obj.cell (i:=1) rfl;have q2:=hO.swap.obj.cell (i:=2) rfl;have q3:=hO.swap.obj.lt;have hok:out.length≤k:=by rw[hout];exact List.length_take_le _ _
      by_cases hcl:c<e.hi+1 - e.lo
      ·by_cases hk2:out.length<k
       ·have hd1:decide ((e.lo:Int)+(c:Int)≤(e.hi:Int))=true:=decide_eq_true zo;have hd2:decide ((out.length:Int)<(k:Int))=true:=decide_eq_true zo;have HO:=zh hO;have HOUT:=zh hout;have hto:=HC.out.2.2;rw[hto] at q2;clear hO hout hto;obtain⟨bt,hbt⟩:=byteOf (e.lo+c) zo;have hcv:=OA w4 ((e.lo:Int)+(c:Int)) bt zo;have hcat:=Qp p [bt];have hwu:IntKind.u8.wrap ((e.lo:Int)+(c:Int))=(e.lo:Int)+(c:Int):=IntWalk.u8_in _ zo;have hOa:=HO.out.al' (.cells #[.int .u8 ((e.lo:Int)+(c:Int))] 5);have HI:=zh (IH.out zo to ((k - out.length:Nat):Int) (p ++ [bt]) mk _ htl zo zo (by simp;omega) (Mem.le_trans hmm hmk) hOa.inn);have hsub:((k - out.length:Nat):Int)=(k:Int) - (out.length:Int):=zo;rw[hsub] at HI;have HOa:=zh hOa;have HBT:=zh (zi hbt hsub);clear hbt hsub hOa HO;have hns:¬ 9223372036854775807<(bstr p).size+(bstr [bt]).size:=by
         have h1:(bstr p).size=p.length:=by simp[bstr,ByteArray.size]
         have h2:(bstr [bt]).size=1:=rfl;omega
        go_wp2_with fail
        refine HI.out.mono ?_;rintro e' w5 ⟨r,rfl,hb5,hst⟩;have hO5:=HOa.out.call hb5;have hle5:=Mem.eO (w:=w5) HOa.out.inn;have hkn:((k:Int) - (out.length:Int)).toNat=k - out.length:=zo;rw[hkn] at hst;obtain⟨q,hq⟩:∃q,(wex A len to).take (k - out.length)=q:=⟨_,rfl⟩;rw[hq] at hst;have hql:q.length≤k - out.length:=by rw[← hq];exact List.length_take_le _ _
        obtain⟨ra,rc,rfl⟩:∃ra rc,r=.slice ra (preS (p ++ [bt]) q).length rc:=by obtain⟨x,y,e,-⟩:=hst;exact⟨x,y,e⟩
        have hnews:=Eb hO5.inn hst;have hvr:=hO5.row;have hpl:(preS (p ++ [bt]) q).length=q.length:=qU _ _;rw[hpl] at hnews ⊢;have HO5:=zh hO5;have HQ:=zh (zi hq (zi hpl hle5));clear HI HOa hst hO5 hb5 hcv hcat hns hq hpl hkn hle5
        go_wp2_with (at_builtin;refine fA Mi rfl (.tmp 75) (.tmp 92) rfl (.slice voa out.length voc) out.length ((preS p out).map Value.string) rfl hvr ra q.length rc ((preS (p ++ [bt]) q).map Value.string) rfl (by rw[List.length_map,HQ.out.2.1,Nat.mul_one]) hnews (by simp[Value.oneCell']) (by unfold maxLen;omega) zo ?_)
        intro na nc w6 hown hgrow hrow;have hO6:=HO5.out.app hown hgrow hrow (Nat.le_refl _);have hnew:(preS p out).map Value.string ++ (preS (p ++ [bt]) q).map Value.string=(preS p (out ++ q.map (bt::·))).map Value.string:=by
         simp[preS]
        rw[hnew] at hO6;have hlen2:(out ++ q.map (bt::·)).length=out.length+q.length:=by simp
        have hsucc:=OT A len es i e c;have hbW:xM A len e.to (e.lo+c)=(wex A len to).map (bt::·):=by
         unfold xM;rw[HC.out.2.2,← HBT.out.1,Sc]
        have hout2:out ++ q.map (bt::·)=(catW A len es i e (c+1)).take k:=by
         rw[hsucc,hbW,← HQ.out.1,HOUT.out,List.map_take];refine D8 ?_;rw[← HOUT.out];exact hk2
        have HO6:=zh (zi hO6 (zi hout2 (Mem.le_trans hmk HQ.out.2.2)));clear hown hgrow hrow hO6 hnew hsucc hbW hout2 hvr hnews HO5;go_wp2;refine hY.out _ _ _ zo rfl ⟨c+1,.slice na (out.length+q.length) nc,out ++ q.map (bt::·),_,zo,rfl,?_,HO6.out.2.1,?_,HO6.out.2.2⟩
        ·rfl
        ·rw[hlen2];exact HO6.out.1
       ·have hd1:decide ((e.lo:Int)+(c:Int)≤(e.hi:Int))=true:=decide_eq_true zo;have hd2:decide ((out.length:Int)<(k:Int))=false:=decide_eq_false zo;have hkl:k≤(catW A len es i e c).length:=by
         have:=congrArg List.length hout;rw[List.length_take] at this;omega
        have hout2:out=(esW A len (es.take (i+1))).take k:=by rw[hout];exact IV (HC.out.1 c hc) hkl
        have HO:=zh (zi hO.drop2 (zi hout2 hmk));clear hO hout hout2 hkl;go_wp2;exact hX.out _ _ _ zo rfl ⟨i+1,_,out,mk,zo,rfl,rfl,HO.out.2.1,HO.out.1,HO.out.2.2⟩
      ·have hd1:decide ((e.lo:Int)+(c:Int)≤(e.hi:Int))=false:=decide_eq_false zo;have hout2:out=(esW A len (es.take (i+1))).take k:=by
        rw[hout,← HC.out.2.1,show c=e.hi+1 - e.lo by omega]
       have HO:=zh (zi hO.drop2 (zi hout2 hmk));clear hO hout hout2;go_wp2;exact hX.out _ _ _ zo rfl ⟨i+1,_,out,mk,zo,rfl,rfl,HO.out.2.1,HO.out.1,HO.out.2.2⟩
     ·have hd2:decide ((out.length:Int)<(k:Int))=false:=decide_eq_false zo;have hkl:k≤(esW A len (es.take i)).length:=by
       have:=congrArg List.length hout;rw[List.length_take] at this;omega
      have hout2:out=(esW A len es).take k:=by
       have:=IV (RH A len es (i:=i) (j:=es.length) zo (Nat.le_refl _)) hkl;rw[List.take_length] at this;rw[hout];exact this
      have HOUT:=zh hout2;clear hout hkl hout2;have hall:(wex A (len+1) s).take k=out:=by rw[HX.out.1];exact HOUT.out.symm
      have hmem:∀x∈preS p out,x.size≤maxLen:=fun x hx=>by
       obtain⟨y,hy,rfl⟩:=List.mem_map.1 hx;rw[← hall] at hy;have:=((kW A (len+1) s y).1 (List.mem_of_mem_take hy)).1;have h1:(bstr (p ++ y)).size=p.length+y.length:=by simp[bstr,ByteArray.size]
       rw[h1];unfold maxLen;omega
      have hpl:(preS p out).length=out.length:=qU _ _;have hst:=jF (m:=mk) (l:=preS p out) (by rw[hpl];exact hO.row) hmem;have hst:=og hO.bD.done hst;have Hk:=zh (zi hO.below (zi hst hall));clear hst hmem hall hpl hO;go_wp2;refine hR.out _ _ ⟨_,rfl,Hk.out.1,?_⟩;rw[show ((k:Int)).toNat=k from rfl,Hk.out.2.2];exact Hk.out.2.1
    ·obtain rfl:i=es.length:=zo;have hout2:out=(esW A len es).take k:=by rw[hout,List.take_length]
     have HOUT:=zh hout2;clear hout hout2 hi;have hall:(wex A (len+1) s).take k=out:=by rw[HX.out.1];exact HOUT.out.symm
     have hmem:∀x∈preS p out,x.size≤maxLen:=fun x hx=>by
      obtain⟨y,hy,rfl⟩:=List.mem_map.1 hx;rw[← hall] at hy;have:=((kW A (len+1) s y).1 (List.mem_of_mem_take hy)).1;have h1:(bstr (p ++ y)).size=p.length+y.length:=by simp[bstr,ByteArray.size]
      rw[h1];unfold maxLen;omega
     have hpl:(preS p out).length=out.length:=qU _ _;have hst:=jF (m:=mk) (l:=preS p out) (by rw[hpl];exact hO.row) hmem;have hst:=og hO.bD.done hst;have Hk:=zh (zi hO.below (zi hst hall));clear hst hmem hall hpl hO;go_wp2;refine hR.out _ _ ⟨_,rfl,Hk.out.1,?_⟩;rw[show ((k:Int)).toNat=k from rfl,Hk.out.2.2];exact Hk.out.2.1
theorem Og {f:List UInt8→Bool} {k:Nat} (h:k=0∨∀x,f x=false):iG f k []:=by
 refine ⟨.nil,(fun x hx=>by cases hx),Nat.zero_le _,fun y hy _=>?_⟩;rcases h with h | h
 ·exact⟨(by rw[h];rfl),fun x hx=>by cases hx⟩
 ·rw[h y] at hy;cases hy
theorem N7 (A:Table) (x:List UInt8):aJ (cZ A) 0 x=Sem A x:=by
 unfold cZ Sem;by_cases h:Canon A
 ·simp[aN h]
 ·simp[aL h];exact dC x
theorem EF (v0:Value) (A:Table) (n':Int) (m:Mem) (w:World) (hm:m.inn w) (hA:aI m v0 A) (hn1 : -9223372036854775808≤n') (hn2:n'≤9223372036854775807) (hlA:A.length≤100000) (hlen:(A.length+1)*(iQ n'+1)≤1000000) :
 Calls Tryz.prog 42 #[.agg #[v0],.int .i64 n'] w fun e w'=>∃r ws,e=.returned r∧Below w.heap.size w w'∧rG (m.grow w w') r (ws.map bstr)∧iG (Sem A) (iQ n') ws:=by
 have hO:=(Own.start hm).al #[v0] 27;have HM:=zh (yB v0 A m _ hO.inn hA zo);have HO:=zh hO;obtain⟨va,vc,rfl,-⟩:=hA;have hgc:=iV A;have hgl:=iq A;have hsem:aJ (cZ A) 0=Sem A:=funext (N7 A);have hmul:((cZ A).length+1)*(iQ n'+1)≤(A.length+1)*(iQ n'+1):=Nat.mul_le_mul zo (Nat.le_refl _);generalize cZ A=T at *
 clear hO;refine aj fun R hR=>?_
 go_enter Tryz.func42,Tryz.ntmps42
 go_wp2_with fail
 refine HM.out.mono ?_;rintro e w1 ⟨r,rfl,hb1,hst⟩;obtain⟨ra,rc,rfl⟩:∃ra rc,r=.slice ra T.length rc:=by obtain⟨x,y,e,-⟩:=hst;exact⟨x,y,e⟩
 have hO1:=(HO.out.call hb1).al #[.slice ra T.length rc] 27;have hle1:=Mem.eO (w:=w1) HO.out.inn;have HO1:=zh hO1;have HS:=zh (zi hst (zi hgc hsem));clear hO1 HM HO hb1 hst hgc hsem hle1;generalize m.grow _ w1=mk at *
 have c1:=HO1.out.obj.cell (i:=0) rfl;have c2:=HO1.out.obj.lt;have c3:=HO1.out.obj.frozen 0;by_cases h0:T.length=0
 ·have hd:((T.length:Int)==0)=true:=by simp[h0]
  have H0:=zh h0;clear h0;go_wp2;refine hR.out _ _ ⟨_,[],rfl,HO1.out.below,⟨none,0,rfl,Nat.le_refl _,Nat.zero_le _,fun h=>absurd rfl h⟩,Og (.inr fun x=>?_)⟩;rw[← HS.out.2.2,List.eq_nil_of_length_eq_zero H0.out];exact dC x
 ·have hd:((T.length:Int)==0)=false:=beq_eq_false_iff_ne.2 zo;obtain⟨wv,hwv⟩:∃x:Int,min n' 1000=x:=⟨_,rfl⟩;have hwk:max wv 0=((iQ n':Nat):Int):=by unfold iQ;omega
  obtain⟨M,hM⟩:∃x:Nat,(T.length+1)*(iQ n'+1)=x:=⟨_,rfl⟩;have hMi:((T.length:Int)+1)*(((iQ n':Nat):Int)+1)=(M:Int):=by
   rw[← hM,Int.natCast_mul];rfl
  have hMb:M≤1000000:=zo;have hTl:T.length≤100000:=zo;have hwr:wrap64 (M:Int)=(M:Int):=by unfold wrap64;omega
  have hbig:iQ n'*T.length≤M:=by
   rw[← hM,Nat.mul_comm];exact Nat.mul_le_mul zo zo
  have hwv1:wv≤1000:=zo;have hwv2 : -9223372036854775808≤wv:=zo;have HK:=zh (zi hbig hwk);have hkw:iQ n'≤1000:=by unfold iQ;omega
  have hkv:wv≤0∨wv=((iQ n':Nat):Int):=zo;have HKV:=zh hkv;have HCan:=zh (fun w (hw:mk.inn w)=>Ko (.slice ra T.length rc) T M mk w hw HS.out.1 HS.out.2.1.wf HS.out.2.1.bytes zo zo);have H0:=zh (show 0<T.length by omega);clear hM hbig hmul hgl h0 hkv
  go_wp2_with fail
  refine (HCan.out _ HO1.out.inn).mono ?_;rintro e w2 ⟨vt,rfl,hb2,hct⟩;obtain⟨tb,tc,rfl⟩:∃x y,vt=.slice x T.length y:=by obtain⟨x,y,e,-⟩:=hct;exact⟨x,y,by rw[e];simp[kH]⟩
  have hO2:=(HO1.out.call hb2).eH 9 1;have hle2:=Mem.eO (w:=w2) HO1.out.inn;have HWd:=zh (EE (.slice ra T.length rc) (.slice tb T.length tc) T M _ (aK hle2 HS.out.1) hct HS.out.2.1.wf HS.out.2.1.bytes zo zo);have HO2:=zh hO2;have HS2:=zh HS.out.2;clear hO2 hct HCan HO1 hb2 c1 c2 c3 hle2 HS hwv;generalize mk.grow _ w2=mk2 at *
  generalize w1.heap.size=G at *
  go_wp2;refine ay [5,6,7,8,9,10] (fun n vs w3=>∃(L:Nat) (vo:Value) (out:List (List UInt8)) (mk':Mem),L≤M+1∧n=M+1 - L∧vs=[.pointer (some ⟨G,0,none⟩),.int .i64 wv,.int .i64 M,.slice tb T.length tc,vo,.int .i64 L] ∧
   out=(enum T 0 L).take (iQ n')∧Own w m w3 mk' [.row vo 9 1 out.length ((preS [] out).map Value.string),.obj G 27 #[.slice ra T.length rc],.obj w.heap.size 27 #[.slice va A.length vc]]∧mk2.le mk') ?_ ?_
  ·exact⟨_,0,.slice none 0 0,[],mk2,Nat.zero_le _,rfl,rfl,by simp[enum],HO2.out,Mem.le_refl _⟩
  clear HO2;rintro X z n vs w3 hX - ⟨L,vo,out,mk',hL,rfl,rfl,hout,hO,hmk⟩;simp[litL,lk];obtain⟨voa,voc,rfl⟩:=aO hO.row;have b0:=hO.swap.obj.cell (i:=0) rfl;have b1:=hO.swap.obj.lt;have hok:out.length≤iQ n':=by rw[hout];exact List.length_take_le _ _
  by_cases hlt:L≤M
  ·by_cases hk2:out.length<iQ n'
   ·have hwk2:wv=((iQ n':Nat):Int):=by have:=HKV.out;omega
    have hd1:decide ((L:Int)≤(M:Int))=true:=decide_eq_true zo;have hd2:decide ((out.length:Int)<wv)=true:=decide_eq_true zo;have HI:=zh (HWd.out L zo 0 (wv - (out.length:Int)) [] mk' w3 H0.out zo zo (by simp;omega) hmk hO.inn);have hkn:(wv - (out.length:Int)).toNat=iQ n' - out.length:=zo;have HO:=zh (zi hO (zi hout hkn));clear hO hout hkn hwk2
    go_wp2_with fail
    refine HI.out.mono ?_;rintro e' w5 ⟨r,rfl,hb5,hst⟩;have hO5:=HO.out.1.call hb5;have hle5:=Mem.eO (w:=w5) HO.out.1.inn;rw[HO.out.2.2] at hst;obtain⟨q,hq⟩:∃q,(wex T L ((0:Nat):Int)).take (iQ n' - out.length)=q:=⟨_,rfl⟩;rw[hq] at hst;have hql:q.length≤iQ n' - out.length:=by rw[← hq];exact List.length_take_le _ _
    obtain⟨ra2,rc2,rfl⟩:∃ra rc,r=.slice ra (preS [] q).length rc:=by obtain⟨x,y,e,-⟩:=hst;exact⟨x,y,e⟩
    have hnews:=Eb hO5.inn hst;have hvr:=hO5.row;have hpl:(preS [] q).length=q.length:=qU _ _;rw[hpl] at hnews ⊢;have HO5:=zh hO5;have HQ:=zh (zi hq (zi hpl (zi hle5 HO.out.2.1)));clear HI HO hst hO5 hb5 hq hpl hle5
    go_wp2_with (at_builtin;refine fA Mi rfl (.tmp 41) (.tmp 49) rfl (.slice voa out.length voc) out.length ((preS [] out).map Value.string) rfl hvr ra2 q.length rc2 ((preS [] q).map Value.string) rfl (by rw[List.length_map,HQ.out.2.1,Nat.mul_one]) hnews (by simp[Value.oneCell']) (by unfold maxLen;omega) zo ?_)
    intro na nc w6 hown hgrow hrow;have hO6:=HO5.out.app hown hgrow hrow (Nat.le_refl _);have hnew:(preS [] out).map Value.string ++ (preS [] q).map Value.string=(preS [] (out ++ q)).map Value.string:=by simp[preS]
    rw[hnew] at hO6;have hlen2:(out ++ q).length=out.length+q.length:=by simp
    have hout2:out ++ q=(enum T 0 (L+1)).take (iQ n'):=by
     rw[zR,← HQ.out.1,HQ.out.2.2.2];refine D8 ?_;rw[← HQ.out.2.2.2];exact hk2
    have HO6:=zh (zi hO6 (zi hout2 (Mem.le_trans hmk HQ.out.2.2.1)));clear hown hgrow hrow hO6 hnew hout2 hvr hnews HO5;go_wp2;refine hX.out _ _ _ zo rfl ⟨L+1,.slice na (out.length+q.length) nc,out ++ q,_,zo,rfl,rfl,HO6.out.2.1,?_,HO6.out.2.2⟩;rw[hlen2];exact HO6.out.1
   ·have hd1:decide ((L:Int)≤(M:Int))=true:=decide_eq_true zo;have hd2:decide ((out.length:Int)<wv)=false:=decide_eq_false (by have:=HKV.out;omega);have hkl:iQ n'≤(enum T 0 L).length:=by
     have:=congrArg List.length hout;rw[List.length_take] at this;omega
    have hmem:∀x∈preS [] out,x.size≤maxLen:=fun x hx=>by
     obtain⟨y,hy,rfl⟩:=List.mem_map.1 hx;rw[hout] at hy;have:=((lq T 0 L y).1 (List.mem_of_mem_take hy)).1;have h1:(bstr ([] ++ y)).size=y.length:=by simp[bstr,ByteArray.size]
     rw[h1];unfold maxLen;omega
    have hpl:(preS [] out).length=out.length:=qU _ _;have hst:=jF (m:=mk') (l:=preS [] out) (by rw[hpl];exact hO.row) hmem;have hst:=og hO.bD.done hst;have hpe:preS [] out=out.map bstr:=by simp[preS]
    rw[hpe] at hst;have hfi:iG (Sem A) (iQ n') out:=by
     rw[hout,← HS2.out.2];exact rz (.inl hkl)
    have Hk:=zh (zi hO.below (zi hst hfi));clear hst hmem hpl hO hpe hfi hout;go_wp2;exact hR.out _ _ ⟨_,out,rfl,Hk.out.1,Hk.out.2.1,Hk.out.2.2⟩
  ·obtain rfl:L=M+1:=zo;have hd1:decide (((M+1:Nat):Int)≤(M:Int))=false:=decide_eq_false zo;have hmem:∀x∈preS [] out,x.size≤maxLen:=fun x hx=>by
    obtain⟨y,hy,rfl⟩:=List.mem_map.1 hx;rw[hout] at hy;have:=((lq T 0 (M+1) y).1 (List.mem_of_mem_take hy)).1;have h1:(bstr ([] ++ y)).size=y.length:=by simp[bstr,ByteArray.size]
    rw[h1];unfold maxLen;omega
   have hpl:(preS [] out).length=out.length:=qU _ _;have hst:=jF (m:=mk') (l:=preS [] out) (by rw[hpl];exact hO.row) hmem;have hst:=og hO.bD.done hst;have hpe:preS [] out=out.map bstr:=by simp[preS]
   rw[hpe] at hst;have hfi:iG (Sem A) (iQ n') out:=by
    rw[hout,← HS2.out.2];exact BZ (by have:=HK.out.1;omega)
   have Hk:=zh (zi hO.below (zi hst hfi));clear hst hmem hpl hO hpe hfi hout;go_wp2;exact hR.out _ _ ⟨_,out,rfl,Hk.out.1,Hk.out.2.1,Hk.out.2.2⟩
theorem Gr {s one:RS} {e:El} (hl:gP (bU s).has (some e)) (ho:ScIs (fun x=>dtEl (lstD (some e))=some x) one):tf (one=s)=tf (∀x,(bU s).has x→x=e):=by
 have hk:=zH hl.1;have hv:s.gK:=by
  apply Classical.byContradiction;intro hn;have:=hl.1;rw[zL hn] at this;exact Ca _ this
 rw[jJ hv] at hl ⊢;refine fT ?_;rw[fD ho (iL hv),sM hk];constructor
 ·intro h x hx;have:=(h x).2 hx;cases this;rfl
 ·intro h x;constructor
  ·intro hx;cases hx;exact hl.1
  ·intro hx;rw[h x hx]
theorem vg {w0 w w':World} {m mk:Mem} {L:List Item} {vi vm:Value} {d:Dt} (t:TypeId) (h:Own w0 m w mk L) (hb:Below w.heap.size w w') (hs:DtAt mk vi vm d) :
 ∃mk',mk.le mk'∧DtB mk' w'.heap.size d vi vm∧Own w0 m (w'.alloc (.cells #[.int .i64 d.kind,.int .i64 d.num,.string d.str,vi,vm] t)) mk' L:=by
 obtain⟨mk',h1,h2,h3⟩:=lC t (h.call hb) (hs.le (Mem.eO h.inn));exact⟨mk',Mem.le_trans (Mem.eO h.inn) h1,h2,h3⟩
theorem NK (s:Int) (w:World):Calls Tryz.prog 205 #[.int .i64 s] w fun e w'=>e=.returned (.bool false)∧w'=w:=by
 refine aj fun R hR=>?_
 go_enter Tryz.func205,Tryz.ntmps205
 go_wp2;exact hR.out _ _ ⟨zS,rfl⟩
theorem LD (s t:Int) (w:World):Calls Tryz.prog 140 #[.int .i64 s,.int .i64 t] w fun e w'=>e=.returned (.int .i64 (Lib.compareInt s t))∧w'=w:=by
 refine aj fun R hR=>?_;have hc:Lib.compareInt s t=if s<t then -1 else if t<s then 1 else 0:=by
  unfold Lib.compareInt;rfl
 rw[hc] at hR;clear hc
 go_enter Tryz.func140,Tryz.ntmps140
 go_wp2_with ((go_at_call 205);refine (NK _ _).mono ?_;rintro e w' ⟨rfl,rfl⟩)
 ·exact hR.out _ _ ⟨dL (by rw[if_pos zo]),rfl⟩
 ·exact hR.out _ _ ⟨dL (by rw[if_neg zo,if_pos zo]),rfl⟩
 ·exact hR.out _ _ ⟨dL (by rw[if_neg zo,if_neg zo]),rfl⟩
theorem OH (x y:List UInt8):cmpS x y=0↔x=y:=by
 unfold cmpS;by_cases h:Op.bytesLess x y=true
 ·simp only[h,if_true];refine ⟨fun h=>(by cases h),fun e=>?_⟩;rw[e,Aj] at h;cases h
 ·simp only[h];by_cases e:x=y <;> simp[e]
def cmpD (x d:Dt):Int:=
 if x.kind≠d.kind then Lib.compareInt x.kind d.kind else if Lib.compareInt x.num d.num=0 then cmpS x.str.data.toList d.str.data.toList else Lib.compareInt x.num d.num
theorem OL (x d:Dt):cmpD x d=0↔x.kind=d.kind∧x.num=d.num∧x.str=d.str:=by
 unfold cmpD;by_cases h:x.kind=d.kind
 ·rw[if_neg (by simpa using h)];by_cases h2:Lib.compareInt x.num d.num=0
  ·rw[if_pos h2,OH,Ci];have:=(iP _ _).1 h2;simp[h,this]
  ·rw[if_neg h2];have:x.num≠d.num:=fun e=>h2 ((iP _ _).2 e);simp[h2,this]
 ·rw[if_pos h];have:Lib.compareInt x.kind d.kind≠0:=fun e=>h ((iP _ _).1 e);simp[h,this]
theorem Gd (a b:Option Addr) (c e:Nat) (f:Value) (w:World) :
 Calls Tryz.prog 144 #[.slice a 0 c,.slice b 0 e,f] w fun e w'=>e=.returned (.int .i64 0)∧Below w.heap.size w w':=by
 refine aj fun R hR=>?_
 go_enter Tryz.func144,Tryz.ntmps144
 go_wp2;refine ay [0,1,12,13] (fun n vs wr=>n=0∧vs=[.slice a 0 c,.slice b 0 e,.int .i64 0,.int .i64 0]∧wr=w) ?_ ?_
 ·exact⟨_,rfl,rfl,rfl⟩
 rintro X z n vs wr hX - ⟨rfl,rfl,rfl⟩;simp[litL,lk];go_wp2;exact hR.out _ _ ⟨rfl,Below.refl _ _⟩
theorem Bf (a b:Option Addr) (c e:Nat) (f:Value) (w:World) :
 Calls Tryz.prog 145 #[.slice a 0 c,.slice b 0 e,f] w fun e w'=>e=.returned (.int .i64 0)∧Below w.heap.size w w':=by
 refine aj fun R hR=>?_
 go_enter Tryz.func145,Tryz.ntmps145
 go_wp2;refine ay [0,1,12,13] (fun n vs wr=>n=0∧vs=[.slice a 0 c,.slice b 0 e,.int .i64 0,.int .i64 0]∧wr=w) ?_ ?_
 ·exact⟨_,rfl,rfl,rfl⟩
 rintro X z n vs wr hX - ⟨rfl,rfl,rfl⟩;simp[litL,lk];go_wp2;exact hR.out _ _ ⟨rfl,Below.refl _ _⟩
theorem xK (x d:Dt) (xa xm da dm:Option Addr) (xc xe dc de:Nat) (w:World) (hx:x.kind=d.kind→x.items.length=0∧x.bv.length=0) (hd:d.items.length=0∧d.bv.length=0) :
 Calls Tryz.prog 93 #[x.val (.slice xa x.items.length xc) (.slice xm x.bv.length xe),d.val (.slice da d.items.length dc) (.slice dm d.bv.length de)] w fun e w'=>e=.returned (.int .i64 (cmpD x d))∧Below w.heap.size w w':=by
 have HE:=zh (show cmpD x d=if x.kind≠d.kind then Lib.compareInt x.kind d.kind else if Lib.compareInt x.num d.num=0 then cmpS x.str.data.toList d.str.data.toList else Lib.compareInt x.num d.num from rfl);have HI:=zh (fun w'=>LD x.kind d.kind w');have HN:=zh (fun w'=>Ch x.num d.num w');have HS:=zh (fun w'=>Cg x.str d.str w');unfold Dt.val;rw[hd.1,hd.2];generalize cmpD x d=CD at *
 generalize x.str.data.toList=sl1 at *
 generalize d.str.data.toList=sl2 at *
 generalize x.kind=kx at *
 generalize x.num=nx at *
 generalize x.str=sx at *
 generalize d.kind=kd at *
 generalize d.num=nd at *
 generalize d.str=sd at *
 generalize x.items.length=li at *
 generalize x.bv.length=lm at *
 clear hd;by_cases hk:kx=kd
 ·obtain⟨rfl,rfl⟩:=hx hk;have hkd:(kx != kd)=false:=by simp[hk]
  have HE2:=zh (show CD=if Lib.compareInt nx nd=0 then cmpS sl1 sl2 else Lib.compareInt nx nd by rw[HE.out,if_neg (by simpa using hk)]);generalize Lib.compareInt nx nd=c1 at *
  generalize cmpS sl1 sl2=c2 at *
  have hO:=((Own.start (Mem.ow w)).al #[.int .i64 kx,.int .i64 nx,.string sx,.slice xa 0 xc,.slice xm 0 xe] 33).al #[.int .i64 kd,.int .i64 nd,.string sd,.slice da 0 dc,.slice dm 0 de] 33;simp only[df] at hO;have HO:=zh hO;clear hO HE hx hk HI;refine aj fun R hR=>?_
  go_enter Tryz.func93,Tryz.ntmps93
  go_upto_region 3 with (fail)
  generalize hW:(w.alloc (.cells #[.int .i64 kx,.int .i64 nx,.string sx,.slice xa 0 xc,.slice xm 0 xe] 33)).alloc (.cells #[.int .i64 kd,.int .i64 nd,.string sd,.slice da 0 dc,.slice dm 0 de] 33)=w0 at *
  refine aA [2,3,5] (fun vs w'=>vs=[.pointer (some ⟨w.heap.size,0,none⟩),.pointer (some ⟨w.heap.size+1,0,none⟩),.int .i64 (if c1=0 then c2 else c1)]∧Own w (Mem.of w) w' (Mem.of w) [.obj (w.heap.size+1) 33 #[.int .i64 kd,.int .i64 nd,.string sd,.slice da 0 dc,.slice dm 0 de],.obj w.heap.size 33 #[.int .i64 kx,.int .i64 nx,.string sx,.slice xa 0 xc,.slice xm 0 xe]]) ?_ ?_
  ·intro Y hY;refine aM 13 6 (fun j=>[Fact.is (·=.pointer (some ⟨w.heap.size,1,none⟩)),Fact.is (·=.int .i64 nx),Fact.is (·=.pointer (some ⟨w.heap.size+1,1,none⟩)),Fact.is (·=.int .i64 nd),Fact.is (·=.int .i64 c1),Fact.is (·=.pointer (some ⟨w.heap.size,2,none⟩)),Fact.is (·=.string sx),Fact.is (·=.pointer (some ⟨w.heap.size+1,2,none⟩)),Fact.is (·=.string sd),Fact.is (·=.int .i64 c2),Fact.sl 10 3 #[.int .i64 c1,.int .i64 c2] 2,Fact.is (·=.int .i64 (if c1=0 then c2 else c1)),Fact.is (·=.int .i64 (if c1=0 then c2 else c1))].getD j Fact.any) zk zk ?_ ?_
   ·intro i hi o win a wr ho RA;have HO2:=HO.out.dr.move RA.below;have p1:=HO2.swap.obj.cell (i:=1) rfl;have p2:=HO2.swap.obj.cell (i:=2) rfl;have p3:=HO2.obj.cell (i:=1) rfl;have p4:=HO2.obj.cell (i:=2) rfl;rcases (show i=0∨i=1∨i=2∨i=3∨i=4∨i=5∨i=6∨i=7∨i=8∨i=9∨i=10∨i=11∨i=12 by omega) with rfl | rfl | rfl | rfl | rfl | rfl | rfl | rfl | rfl | rfl | rfl | rfl | rfl
    ·have e2:=RA.k 2;cases ho;exact wv rfl rfl rfl
    ·have e16:a.tmps.getD 16 undef=_:=RA.d 0 rfl;cases ho;exact wv rfl rfl rfl
    ·have e3:=RA.k 3;cases ho;exact wv rfl rfl rfl
    ·have e18:a.tmps.getD 18 undef=_:=RA.d 2 rfl;cases ho;exact wv rfl rfl rfl
    ·have e17:a.tmps.getD 17 undef=_:=RA.d 1 rfl;have e19:a.tmps.getD 19 undef=_:=RA.d 3 rfl;cases ho;refine we rfl rfl (HN.out wr) ?_;rintro e w' ⟨rfl,rfl⟩;exact⟨_,rfl,_,rfl,Below.refl _ _,rfl⟩
    ·have e2:=RA.k 2;cases ho;exact wv rfl rfl rfl
    ·have e21:a.tmps.getD 21 undef=_:=RA.d 5 rfl;cases ho;exact wv rfl rfl rfl
    ·have e3:=RA.k 3;cases ho;exact wv rfl rfl rfl
    ·have e23:a.tmps.getD 23 undef=_:=RA.d 7 rfl;cases ho;exact wv rfl rfl rfl
    ·have e22:a.tmps.getD 22 undef=_:=RA.d 6 rfl;have e24:a.tmps.getD 24 undef=_:=RA.d 8 rfl;cases ho;refine we rfl rfl (HS.out wr) ?_;rintro e w' ⟨rfl,rfl⟩;exact⟨_,rfl,_,rfl,Below.refl _ _,rfl⟩
    ·have e20:a.tmps.getD 20 undef=_:=RA.d 4 rfl;have e25:a.tmps.getD 25 undef=_:=RA.d 9 rfl;have f25:=(Array.getD_eq_getD_getElem? (xs:=a.tmps) (i:=25) (d:=undef)).symm.trans e25;have f20:=(Array.getD_eq_getD_getElem? (xs:=a.tmps) (i:=20) (d:=undef)).symm.trans e20;cases ho;exact aB rfl rfl (aD zg ⟨_,rfl,aP (Below.refl _ _) _,MG win⟩)
    ·have e26:(Fact.sl 10 3 #[.int .i64 c1,.int .i64 c2] 2).holds (a.tmps.getD 26 undef) win wr:=RA.d 10 rfl;cases ho;obtain⟨k1,n1,o1⟩:_∧_∧_:=e26;refine we rfl rfl (Nc (win 10).1 3 c1 c2 wr o1) ?_;rintro e w' ⟨rfl,rfl⟩;exact⟨_,rfl,_,rfl,Below.refl _ _,rfl⟩
    ·have e27:a.tmps.getD 27 undef=_:=RA.d 11 rfl;cases ho;exact wv rfl rfl rfl
   ·intro win a wr E;have e2:=E.keep 2 zk;have e3:=E.keep 3 zk;have e5:a.tmps.getD 5 undef=.int .i64 (if c1=0 then c2 else c1):=E.fact 12 _ zo rfl;obtain⟨t1,d⟩:=a;obtain rfl:d=[]:=E.defers;refine aV zk (hY.out _ _ E.size ⟨?_,HO.out.dr.move E.below⟩) _;simp only[List.map_cons,List.map_nil,e2,e3,e5]
    rfl
  rintro z vs w1 - ⟨rfl,hO⟩;simp[litL,lk];have HO1:=zh hO;clear hO HO HN HS hW;by_cases hc:(if c1=0 then c2 else c1)=0
  ·rw[hc];have HE3:=zh (show CD=0 by rw[HE2.out];exact hc);clear hc HE2
   go_upto_region 6 with (fail)
   refine aA [4] (fun vs w'=>vs=[.int .i64 0]∧Below w.heap.size w w') ?_ ?_
   ·intro Y hY;refine aM 13 6 (fun j=>[Fact.is (·=.pointer (some ⟨w.heap.size,3,none⟩)),Fact.is (·=.slice xa 0 xc),Fact.is (·=.pointer (some ⟨w.heap.size+1,3,none⟩)),Fact.is (·=.slice da 0 dc),Fact.is (·=.int .i64 0),Fact.is (·=.pointer (some ⟨w.heap.size,4,none⟩)),Fact.is (·=.slice xm 0 xe),Fact.is (·=.pointer (some ⟨w.heap.size+1,4,none⟩)),Fact.is (·=.slice dm 0 de),Fact.is (·=.int .i64 0),Fact.sl 10 3 #[.int .i64 0,.int .i64 0] 2,Fact.is (·=.int .i64 0),Fact.is (·=.int .i64 0)].getD j Fact.any) zk zk ?_ ?_
    ·intro i hi o win a wr ho RA;have HO2:=HO1.out.dr.move RA.below;have p1:=HO2.swap.obj.cell (i:=3) rfl;have p2:=HO2.swap.obj.cell (i:=4) rfl;have p3:=HO2.obj.cell (i:=3) rfl;have p4:=HO2.obj.cell (i:=4) rfl;rcases (show i=0∨i=1∨i=2∨i=3∨i=4∨i=5∨i=6∨i=7∨i=8∨i=9∨i=10∨i=11∨i=12 by omega) with rfl | rfl | rfl | rfl | rfl | rfl | rfl | rfl | rfl | rfl | rfl | rfl | rfl
     ·have e2:=RA.k 2;cases ho;exact wv rfl rfl rfl
     ·have e31:a.tmps.getD 31 undef=_:=RA.d 0 rfl;cases ho;exact wv rfl rfl rfl
     ·have e3:=RA.k 3;cases ho;exact wv rfl rfl rfl
     ·have e33:a.tmps.getD 33 undef=_:=RA.d 2 rfl;cases ho;exact wv rfl rfl rfl
     ·have e32:a.tmps.getD 32 undef=_:=RA.d 1 rfl;have e34:a.tmps.getD 34 undef=_:=RA.d 3 rfl;cases ho;refine we rfl rfl (Gd xa da xc dc (.func (.func 93) #[] #[]) wr) ?_;rintro e w' ⟨rfl,hb⟩;exact⟨_,rfl,_,rfl,hb,rfl⟩
     ·have e2:=RA.k 2;cases ho;exact wv rfl rfl rfl
     ·have e36:a.tmps.getD 36 undef=_:=RA.d 5 rfl;cases ho;exact wv rfl rfl rfl
     ·have e3:=RA.k 3;cases ho;exact wv rfl rfl rfl
     ·have e38:a.tmps.getD 38 undef=_:=RA.d 7 rfl;cases ho;exact wv rfl rfl rfl
     ·have e37:a.tmps.getD 37 undef=_:=RA.d 6 rfl;have e39:a.tmps.getD 39 undef=_:=RA.d 8 rfl;cases ho;refine we rfl rfl (Bf xm dm xe de (.func (.func 146) #[] #[]) wr) ?_;rintro e w' ⟨rfl,hb⟩;exact⟨_,rfl,_,rfl,hb,rfl⟩
     ·have e35:a.tmps.getD 35 undef=_:=RA.d 4 rfl;have e40:a.tmps.getD 40 undef=_:=RA.d 9 rfl;have f40:=(Array.getD_eq_getD_getElem? (xs:=a.tmps) (i:=40) (d:=undef)).symm.trans e40;have f35:=(Array.getD_eq_getD_getElem? (xs:=a.tmps) (i:=35) (d:=undef)).symm.trans e35;cases ho;exact aB rfl rfl (aD zg ⟨_,rfl,aP (Below.refl _ _) _,MG win⟩)
     ·have e41:(Fact.sl 10 3 #[.int .i64 0,.int .i64 0] 2).holds (a.tmps.getD 41 undef) win wr:=RA.d 10 rfl;cases ho;obtain⟨k1,n1,o1⟩:_∧_∧_:=e41;refine we rfl rfl (Nc (win 10).1 3 0 0 wr o1) ?_;rintro e w' ⟨rfl,rfl⟩;exact⟨_,rfl,_,rfl,Below.refl _ _,rfl⟩
     ·have e42:a.tmps.getD 42 undef=_:=RA.d 11 rfl;cases ho;exact wv rfl rfl rfl
    ·intro win a wr E;have e4:a.tmps.getD 4 undef=.int .i64 0:=E.fact 12 _ zo rfl;obtain⟨t1,d⟩:=a;obtain rfl:d=[]:=E.defers;refine aV zk (hY.out _ _ E.size ⟨?_,(HO1.out.dr.move E.below).below⟩) _;simp only[List.map_cons,List.map_nil,e4]
   rintro z2 vs w2 - ⟨rfl,hb⟩;simp[litL,lk];have HB:=zh hb;clear hb HO1;go_wp2;exact hR.out _ _ ⟨by rw[HE3.out];rfl,HB.out⟩
  ·have hne:((if c1=0 then c2 else c1) != 0)=true:=by simpa using hc
   have HE3:=zh (show CD=(if c1=0 then c2 else c1) from HE2.out);have HB:=zh HO1.out.below;clear hc HE2 HO1;generalize (if c1=0 then c2 else c1)=cc at *
   go_wp2;exact hR.out _ _ ⟨by rw[HE3.out];rfl,HB.out⟩
 ·have hkd:(kx != kd)=true:=by simp[hk]
  have HE2:=zh (show CD=Lib.compareInt kx kd by rw[HE.out,if_pos hk]);have hb:Below w.heap.size w ((w.alloc (.cells #[.int .i64 kx,.int .i64 nx,.string sx,.slice xa li xc,.slice xm lm xe] 33)).alloc (.cells #[.int .i64 kd,.int .i64 nd,.string sd,.slice da 0 dc,.slice dm 0 de] 33)):=aP (aP (Below.refl _ _) _) _;have HB:=zh hb;clear HE hx hk hb;refine aj fun R hR=>?_
  go_enter Tryz.func93,Tryz.ntmps93
  go_wp2_with fail
  refine (HI.out _).mono ?_;rintro e w1 ⟨rfl,rfl⟩;go_wp2;exact hR.out _ _ ⟨by rw[HE2.out];rfl,HB.out⟩
theorem Oq {x d:Dt} {e:El} (hd:dtEl d=some e) (hx:chkD x 1=0):x.kind=d.kind→x.items.length=0∧x.bv.length=0:=fun hk=>by
 have hc:chkD d 1=0:=by
  unfold dtEl at hd;by_cases h:chkD d 1=0
  ·exact h
  ·rw[if_pos h] at hd;cases hd
 obtain⟨h1,-,-⟩:=lG (qE hx);obtain⟨-,-,-,h5,h6⟩:=oP h1;have hk2:d.kind≠5∧d.kind≠6:=by
  unfold dtEl at hd;rw[if_neg (by simpa using hc)] at hd;constructor <;> intro h <;> simp[h] at hd
 rw[hk] at h5 h6;exact⟨h5.resolve_left hk2.1,h6.resolve_left hk2.2⟩
theorem pE (vi vm ui um:Value) (x d:Dt) (e0:El) (m:Mem) (w:World) (hm:m.inn w) (hx:DtAt m vi vm x) (hd:DtAt m ui um d) (hc:cnt x≤1000000) (hc2:cnt d≤1000000) (he:dtEl d=some e0) :
 Calls Tryz.prog 41 #[x.val vi vm,d.val ui um] w fun e w'=>e=.returned (.bool (tf (dtEl x=some e0)))∧Below w.heap.size w w':=by
 have hO:=((Own.start hm).al #[.int .i64 x.kind,.int .i64 x.num,.string x.str,vi,vm] 33).al #[.int .i64 d.kind,.int .i64 d.num,.string d.str,ui,um] 33;simp only[df] at hO;have HX:=zh (fun w' (h:m.inn w')=>kG vi vm x m w' h hx hc);have HD:=zh (fun w' (h:m.inn w')=>kG ui um d m w' h hd hc2);have hcd:=Dj he;rw[hcd] at HD;obtain⟨xa,xc,xm,xe,rfl,rfl⟩:=hx.slices;obtain⟨da,dc,dm,de,rfl,rfl⟩:=hd.slices;have HC:=zh (fun w' (h:chkD x 1=0)=>xK x d xa xm da dm xc xe dc de w' (Oq he h) (Oq he hcd rfl));have HE:=zh (zi (fun (h:chkD x 1≠0)=>FM h) (fun (h:chkD x 1=0)=>(Ot he h).trans (OL x d).symm));unfold Dt.val at HX HD HC ⊢;have HO:=zh hO;clear hO hx hd hc hc2 he hcd;generalize cmpD x d=cd at *
 generalize chkD x 1=cx at *
 generalize dtEl x=ex at *
 generalize x.kind=kx at *
 generalize x.num=nx at *
 generalize x.str=sx at *
 generalize d.kind=kd at *
 generalize d.num=nd at *
 generalize d.str=sd at *
 refine aj fun R hR=>?_
 go_enter Tryz.func41,Tryz.ntmps41
 go_wp2_with fail
 refine (HX.out _ HO.out.inn).mono ?_;rintro e w1 ⟨rfl,hb1⟩;have hO:=HO.out.move hb1;clear HO hb1 HX;by_cases h0:cx=0
 ·have q0:=hO.obj.cell (i:=0) rfl;have q1:=hO.obj.cell (i:=1) rfl;have q2:=hO.obj.cell (i:=2) rfl;have q3:=hO.obj.cell (i:=3) rfl;have q4:=hO.obj.cell (i:=4) rfl;have q5:=hO.obj.lt;have HO:=zh hO;have HE2:=zh (HE.out.2 h0);have HC2:=zh (fun w'=>HC.out w' h0);rw[h0];clear hO HE HC h0
  go_wp2_with fail
  refine (HD.out _ HO.out.inn).mono ?_;rintro e w2 ⟨rfl,hb2⟩;have hO:=HO.out.move hb2;clear q0 q1 q2 q3 q4 q5 HO HD hb2;obtain⟨q0,q1,q2,q3,q4⟩:=hO.obj.cs5;have q5:=hO.obj.lt;obtain⟨p0,p1,p2,p3,p4⟩:=hO.swap.obj.cs5;have p5:=hO.swap.obj.lt;have HO:=zh hO;clear hO
  go_wp2_with fail
  refine (HC2.out _).mono ?_;rintro e w3 ⟨rfl,hb3⟩;have HB:=zh (HO.out.move hb3).below;clear q0 q1 q2 q3 q4 q5 p0 p1 p2 p3 p4 p5 HO hb3 HC2;go_wp2;refine hR.out _ _ ⟨aQ ?_,HB.out⟩;by_cases h:cd=0
  ·rw[aN (HE2.out.2 h)];simp[h]
  ·rw[aL (fun h2=>h (HE2.out.1 h2))];simp[h]
 ·have HB:=zh hO.below;have HE2:=zh (HE.out.1 h0);have hd0:(cx==0)=false:=beq_eq_false_iff_ne.2 h0;clear hO HE HC h0 HD;go_wp2;exact hR.out _ _ ⟨aQ (by rw[aL (by rw[HE2.out];exact fun h=>nomatch h)]),HB.out⟩
theorem Jf {s:RS} {r:Option El} (h:gP (bU s).has r):∀e,r=some e→elOk e:=fun e he=>by subst he;exact zH h.1
theorem Ra {s:RS} {r:Option El} (h:xN (bU s).has r):∀e,r=some e→elOk e:=fun e he=>by
 subst he;rcases h with ⟨e',h1,h2,-⟩ | ⟨h1,-⟩
 ·cases h1;exact zH h2
 ·cases h1
theorem NE (m:Mem) {r:Option El} (h:∀e,r=some e→elOk e) (hz:(lstD r).str.size≤1000):DtAt m (.slice none 0 0) (.slice none 0 0) (lstD r):=by
 cases r with
 | none=>exact DtAt.leaf m 0 0 _ zo zo (Nat.zero_le _)
 | some e=>exact NF m (h e rfl) (Nat.le_trans hz (by simp[maxLen]))
theorem xV (m:Mem) {e:Option El} (h:∀a,e=some a→elOk a) (hz:(lstD e).str.size≤1000):DtAt m (.slice none 0 0) (.slice none 0 0) (lstD e):=NE m h hz
theorem mZ {s:RS} (hl:ScLe s 8 8) {r:Option El} (h:gP (bU s).has r):(lstD r).str.size≤1000:=by
 cases r with
 | none=>exact Nat.zero_le _
 | some e=>exact Nat.le_trans (xU hl h) zo
theorem Py {s:RS} (hl:ScLe s 8 8) {r:Option El} (h:xN (bU s).has r):(lstD r).str.size≤1000:=by
 rcases h with ⟨e,rfl,h1,h2⟩ | ⟨rfl,-⟩
 ·exact mZ hl (r:=some e) ⟨h1,fun x hx=>.inl (h2 x hx)⟩
 ·exact Nat.zero_le _
theorem J5 {s:RS} {q r:Option El} (h:xN (bU s).has q) (k:gP (bU s).has r):q=none∨∃e,q=some e∧r=some e:=by
 rcases h with ⟨e,rfl,h1,h2⟩ | ⟨rfl,-⟩
 ·exact .inr ⟨e,rfl,oV k ⟨h1,fun x hx=>.inl (h2 x hx)⟩⟩
 ·exact .inl rfl
theorem Fa {s:RS} {e:El} (h:gP (bU s).has (some e)):hasD s (lstD (some e))=true:=by
 rw[jy (sM (zH h.1))];exact aN h.1
theorem MH {s one:RS} {e:El} (h:xN (bU s).has (some e)) (k:gP (bU s).has (some e)) (ho:ScIs (fun x=>dtEl (lstD (some e))=some x) one):tf (one=s)=true:=by
 rw[Gr k ho];rcases h with ⟨a,h1,-,h2⟩ | ⟨h1,-⟩
 ·cases h1;exact aN h2
 ·cases h1
theorem Rk {d:Dt} {s:RS} (h:ofE d≠0) (k:ScIs (fun e=>dtEl d=some e) s):nk s=true:=aN fun e he=>h (iI.2 ⟨e,(k.good e).1 he⟩)
theorem Nn {d:Dt} {s:RS} {z:El} (h:dtEl d=some z) (k:ScIs (fun e=>dtEl d=some e) s) {r:Option El} (hr:gP (bU s).has r):r=some z:=
 oV hr ⟨(k.good z).2 h,fun e he=>.inl (by have:=(k.good e).1 he;rw[h] at this;cases this;rfl)⟩
theorem PH {d:Dt} {s:RS} {z:El} (h:dtEl d=some z) (k:ScIs (fun e=>dtEl d=some e) s) {r:Option El} (hr:xN (bU s).has r):r=some z:=
 wQ hr (.inl ⟨z,rfl,(k.good z).2 h,fun e he=>by have:=(k.good e).1 he;rw[h] at this;cases this;rfl⟩)
theorem Nj {d:Dt} {z:El} (hz:d.str.size≤60) (h:dtEl d=some z):(lstD (some z)).str.size≤1000:=by
 cases z with
 | str x=>
  have h2:=(Cc h).2;show x.length≤1000;rw[← h2];have:d.str.data.toList.length=d.str.size:=rfl
  omega
 | _=>exact Nat.zero_le _
theorem one_has {d:Dt} {s:RS} {z:El} (h:dtEl d=some z) (k:ScIs (fun e=>dtEl d=some e) s) (x:Dt):hasD s x=tf (dtEl x=some z):=by
 refine fT ⟨?_,fun hx=>⟨z,hx,(k.good z).2 h⟩⟩;rintro ⟨e,h1,h2⟩;have:=(k.good e).1 h2;rw[h] at this;cases this;exact h1
theorem Ng {d:Dt} {s:RS} {z:El} (h:dtEl d=some z) (k:ScIs (fun e=>dtEl d=some e) s) {ws:List (List UInt8)} (hf:iG (Sem s.t) (iQ 2) ws):((ws.length:Int)==1)=(d.kind==4):=by
 have hm:∀x,Sem s.t x=true↔some z=some (El.str x):=fun x=>by
  have:=k.mem (.str x);rw[h] at this;exact this
 have hcd:chkD d 1=0:=Classical.byContradiction fun c=>by rw[(CQ c).1] at h;cases h
 have no:(∀x,z≠.str x)→d.kind≠4→((ws.length:Int)==1)=(d.kind==4):=fun h1 h2=>by
  have:ws=[]:=by
   cases ws with
   | nil=>rfl
   | cons x r=>exact absurd (Option.some.inj ((hm x).1 (hf.mem x zS))) (h1 x)
  rw[this,beq_eq_false_iff_ne.2 h2];rfl
 cases uD hcd with
 | nul hk h'=>rw[h'] at h;cases h;exact no (by intro x e;cases e) zo
 | fal hk hn h'=>rw[h'] at h;cases h;exact no (by intro x e;cases e) zo
 | tru hk hn h'=>rw[h'] at h;cases h;exact no (by intro x e;cases e) zo
 | num hk hv h'=>rw[h'] at h;cases h;exact no (by intro x e;cases e) zo
 | parts hk h'=>rw[h'] at h;cases h
 | str hk h'=>
  rw[h'] at h;cases h;have h1:∀x∈ws,x=d.str.data.toList:=fun x hx=>by have:=(hm x).1 (hf.mem x hx);cases this;rfl
  have h2:d.str.data.toList∈ws:=Classical.byContradiction fun hn=>by
   obtain⟨h3,-⟩:=hf.rest _ ((hm _).2 rfl) hn
   cases ws with
   | nil=>exact absurd h3 zD
   | cons x r=>exact hn (by rw[← h1 x zS];simp)
  have h3:ws.length=1:=by
   cases ws with
   | nil=>cases h2
   | cons x r=>
    cases r with
    | nil=>rfl
    | cons y r=>
     have e1:=h1 x zS;have e2:=h1 y zS;have:=(List.pairwise_cons.1 hf.sorted).1 y zS;rw[e1,e2] at this;exact absurd this (jG _)
  rw[h3,beq_iff_eq.2 hk];rfl
theorem wD (A1 A2 A3:Value) (A:RS) (d1 d2:Value) (d:Dt) (x1 x2:Value) (x:Dt) (m:Mem) (w:World) (hm:m.inn w) (htab:TabM m) (hA:ScAt m A1 A2 A3 A) (hd:DtAt m d1 d2 d) (hx:DtAt m x1 x2 x) :
 Calls Tryz.prog 9 #[A.val A1 A2 A3,d.val d1 d2,x.val x1 x2] w fun e w'=>e=.returned (.bool true)∧Below w.heap.size w w':=by
 obtain⟨zaa,zab,zac,zad,zae,zaf,rfl,rfl,rfl⟩:=hA.spell;obtain⟨qda,qdb,qdc,qdd,rfl,rfl⟩:=hd.slices;obtain⟨qxa,qxb,qxc,qxd,rfl,rfl⟩:=hx.slices;have hO:=Own.start hm;have l0:=Mem.le_refl m;obtain⟨m1,k1,bA,hO⟩:=kZ 29 hO (hA.le l0);have l1:=Mem.le_trans l0 k1;obtain⟨m2,k2,bd,hO⟩:=lC 33 hO (hd.le l1);have l2:=Mem.le_trans l1 k2;have bA:=bA.le k2;obtain⟨m3,k3,bx,hO⟩:=lC 33 hO (hx.le l2);have l3:=Mem.le_trans l2 k3;have bA:=bA.le k3;have bd:=bd.le k3;have HT:=zh (htab.le l3);simp only[df] at hO bd bx;have HO:=zh hO;clear hO htab hA hd hx l1 k1 l2 k2 l3 k3 l0;unfold RS.val;unfold Dt.val;refine aj fun R hR=>?_
 go_enter Tryz.func9,Tryz.ntmps9
 go_upto_region 1 with (fail)
 generalize hW:(((w.alloc (.cells #[.bool A.nul,.bool A.fal,.bool A.tru,.slice zaa A.i.length zab,.slice zac A.f.length zad,.slice zae A.t.length zaf] 29)).alloc (.cells #[.int .i64 d.kind,.int .i64 d.num,.string d.str,.slice qda d.items.length qdb,.slice qdc d.bv.length qdd] 33)).alloc (.cells #[.int .i64 x.kind,.int .i64 x.num,.string x.str,.slice qxa x.items.length qxb,.slice qxc x.bv.length qxd] 33))=w0 at *
 clear hW;refine aA [3,4,5,45] (fun vs w'=>∃c:Bool,vs=[.pointer (some ⟨w.heap.size,0,none⟩),.pointer (some ⟨w.heap.size+1,0,none⟩),.pointer (some ⟨w.heap.size+1+1,0,none⟩),.bool c]∧Own w m w' m3 []∧(c=false→(∀s∈[A],gZ s)∧kr d=true∧kr x=true∧d.str.size≤60∧x.str.size≤60)) ?_ ?_
 ·intro X hX;obtain⟨yA0,yA1,yA2,yA3,yA4,yA5⟩:=bA.cw HO.out.inn;have yAl:=Mem.ak HO.out.inn bA.c0;have hO2:=HO.out.al #[.bool A.nul,.bool A.fal,.bool A.tru,.slice zaa A.i.length zab,.slice zac A.f.length zad,.slice zae A.t.length zaf] 29;have HB:=zh (jc _ [A] _ _ hO2.ib.inn (MO hO2 bA.at'));have HO:=zh hO2.tail;clear hO2
  go_wp2_with fail
  refine HB.out.mono ?_;rintro e w3 ⟨rfl,hb⟩;have HO:=zh (HO.out.move hb);clear HB hb;clear yA0 yA1 yA2 yA3 yA4 yA5 yAl;by_cases h:∀s∈[A],gZ s
  case neg=>
   rw[aL h];clear h;go_wp2;exact hX.out _ _ rfl ⟨true,rfl,HO.out,fun h=>by cases h⟩
  rw[aN h];have HG0:=zh h;clear h;obtain⟨yd0,yd1,yd2,yd3,yd4⟩:=bd.cw HO.out.inn;have ydl:=Mem.ak HO.out.inn bd.c0;have HB:=zh (jq _ _ d m3 _ HO.out.inn bd.at')
  go_wp2_with fail
  refine HB.out.mono ?_;rintro e w3 ⟨rfl,hb⟩;have HO:=zh (HO.out.move hb);clear HB hb;clear yd0 yd1 yd2 yd3 yd4 ydl;by_cases h:kr d=true
  case neg=>
   rw[Bool.eq_false_iff.2 h];clear h;go_wp2;exact hX.out _ _ rfl ⟨true,rfl,HO.out,fun h=>by cases h⟩
  rw[h];have HG1:=zh h;clear h;obtain⟨yx0,yx1,yx2,yx3,yx4⟩:=bx.cw HO.out.inn;have yxl:=Mem.ak HO.out.inn bx.c0;have HB:=zh (jq _ _ x m3 _ HO.out.inn bx.at')
  go_wp2_with fail
  refine HB.out.mono ?_;rintro e w3 ⟨rfl,hb⟩;have HO:=zh (HO.out.move hb);clear HB hb;clear yx0 yx1 yx2 yx3 yx4 yxl;by_cases h:kr x=true
  case neg=>
   rw[Bool.eq_false_iff.2 h];clear h;go_wp2;exact hX.out _ _ rfl ⟨true,rfl,HO.out,fun h=>by cases h⟩
  rw[h];have HG2:=zh h;clear h;have y2:=Mem.av HO.out.inn bd.c2;have y0:=Mem.ak HO.out.inn bd.c0;by_cases h:d.str.size≤60
  case neg=>
   have hd:decide ((60:Int)<(d.str.size:Int))=true:=decide_eq_true zo;clear h;go_wp2;exact hX.out _ _ rfl ⟨true,rfl,HO.out,fun h=>by cases h⟩
  have hd3:decide ((60:Int)<(d.str.size:Int))=false:=decide_eq_false zo;have HG3:=zh h;clear h;have y2:=Mem.av HO.out.inn bx.c2;have y0:=Mem.ak HO.out.inn bx.c0;by_cases h:x.str.size≤60
  case neg=>
   have hd:decide ((60:Int)<(x.str.size:Int))=true:=decide_eq_true zo;clear h;go_wp2;exact hX.out _ _ rfl ⟨true,rfl,HO.out,fun h=>by cases h⟩
  have hd4:decide ((60:Int)<(x.str.size:Int))=false:=decide_eq_false zo;have HG4:=zh h;clear h;go_wp2;exact hX.out _ _ rfl ⟨false,rfl,HO.out,fun _=>⟨HG0.out,HG1.out,HG2.out,HG3.out,HG4.out⟩⟩
 rintro z vs w1 - ⟨c,rfl,hO,hc⟩;simp[litL,lk];clear HO;have HO:=zh hO;have HC:=zh hc;clear hO hc
 cases c with
 | true=>
  clear HC
  go_wp2_with fail
  refine (bJ m3 _ HO.out.inn HT.out).mono ?_;rintro e w2 ⟨rfl,hb⟩;have HE:=zh (HO.out.move hb).below;clear hb HO;go_wp2
  exact hR.out _ _ ⟨rfl,HE.out⟩
 | false=>
  obtain⟨g0,g1,g2,g3,g4⟩:=HC.out rfl;clear HC;have LA:=zh (Eg g0);clear g0;have Cd:=zh (kS g1);clear g1;have Cx:=zh (kS g2);clear g2;have Zd:=zh g3;clear g3;have Zx:=zh g4;clear g4;obtain⟨yA0,yA1,yA2,yA3,yA4,yA5⟩:=bA.cw HO.out.inn;have yAl:=Mem.ak HO.out.inn bA.c0;have HB:=zh (mQ _ _ _ A m3 _ HO.out.inn HT.out bA.at' (LA.out.mono zo zo));unfold RS.val at HB
  go_wp2_with fail
  refine HB.out.mono ?_;rintro e w4 ⟨r,rfl,hb,hr⟩;clear yA0 yA1 yA2 yA3 yA4 yA5 yAl;have Hr:=zh hr;unfold Dt.val;obtain⟨m4,lk,bD0,hO⟩:=vg 33 HO.out hb (xV m3 (e:=r) (Jf Hr.out) (mZ LA.out Hr.out));have HT:=zh (HT.out.le lk);have bA:=bA.le lk;have bd:=bd.le lk;have bx:=bx.le lk
  go_upto_region 4 with (fail)
  generalize hW:w4.alloc (.cells #[.int .i64 (lstD r).kind,.int .i64 (lstD r).num,.string (lstD r).str,.slice none 0 0,.slice none 0 0] 33)=w4' at *
  generalize w4.heap.size=gD0 at *
  have HO:=zh hO;clear hb hO hr HB hW lk;obtain⟨yA0,yA1,yA2,yA3,yA4,yA5⟩:=bA.cw HO.out.inn;have yAl:=Mem.ak HO.out.inn bA.c0;have HB:=zh (qi _ _ _ A 8 8 m4 _ HO.out.inn HT.out bA.at' LA.out zo zo);unfold RS.val at HB
  go_wp2_with fail
  refine HB.out.mono ?_;rintro e w5 ⟨q,rfl,hb,hr⟩;clear yA0 yA1 yA2 yA3 yA4 yA5 yAl;have Hq:=zh hr;unfold Dt.val;obtain⟨m5,lk,bD1,hO⟩:=vg 33 HO.out hb (xV m4 (e:=q) (Ra Hq.out) (Py LA.out Hq.out));have HT:=zh (HT.out.le lk);have bA:=bA.le lk;have bd:=bd.le lk;have bx:=bx.le lk;have bD0:=bD0.le lk
  go_upto_region 5 with (fail)
  generalize hW:w5.alloc (.cells #[.int .i64 (lstD q).kind,.int .i64 (lstD q).num,.string (lstD q).str,.slice none 0 0,.slice none 0 0] 33)=w5' at *
  generalize w5.heap.size=gD1 at *
  have HO:=zh hO;clear hb hO hr HB hW lk;have HQ:=zh (J5 Hq.out Hr.out);have e1:(none:Option El).isSome=false:=rfl;have e2:∀e:El,(some e).isSome=true:=fun _=>rfl;refine aA [3,4,5,7,10,76] (fun vs w'=>vs=[.pointer (some ⟨w.heap.size,0,none⟩),.pointer (some ⟨w.heap.size+1,0,none⟩),.pointer (some ⟨w.heap.size+1+1,0,none⟩),.pointer (some ⟨gD0,0,none⟩),.bool q.isSome,.bool false]∧Own w m w' m5 []) ?_ ?_
  ·intro X hX;rcases HQ.out with rfl | ⟨z,rfl,rfl⟩
   ·rw[e1]
    cases r with
    | none=>
     rw[e1];clear e1 e2 HQ;obtain⟨yA0,yA1,yA2,yA3,yA4,yA5⟩:=bA.cw HO.out.inn;have yAl:=Mem.ak HO.out.inn bA.c0;have HB:=zh (gT _ _ _ A m5 _ HO.out.inn HT.out bA.at' (LA.out.mono zo zo));unfold RS.val at HB
     go_wp2_with fail
     refine HB.out.mono ?_;rintro e w6 ⟨rfl,hb⟩;clear yA0 yA1 yA2 yA3 yA4 yA5 yAl;rw[zW Hr.out];have HO:=zh (HO.out.move hb);clear hb HB;go_wp2
     exact hX.out _ _ rfl ⟨rfl,HO.out⟩
    | some z=>
     rw[e2];clear e1 e2 HQ;obtain⟨yA0,yA1,yA2,yA3,yA4,yA5⟩:=bA.cw HO.out.inn;have yAl:=Mem.ak HO.out.inn bA.c0;have HB:=zh (gT _ _ _ A m5 _ HO.out.inn HT.out bA.at' (LA.out.mono zo zo));unfold RS.val at HB
     go_wp2_with fail
     refine HB.out.mono ?_;rintro e w6 ⟨rfl,hb⟩;clear yA0 yA1 yA2 yA3 yA4 yA5 yAl;rw[sZ Hr.out];have HO:=zh (HO.out.move hb);clear hb HB;obtain⟨yA0,yA1,yA2,yA3,yA4,yA5⟩:=bA.cw HO.out.inn;have yAl:=Mem.ak HO.out.inn bA.c0;obtain⟨y00,y01,y02,y03,y04⟩:=bD0.cw HO.out.inn;have y0l:=Mem.ak HO.out.inn bD0.c0;have HB:=zh (ek _ _ _ A _ _ (lstD (some z)) 8 8 m5 _ HO.out.inn HT.out bA.at' bD0.at' (by rw[(mI _).2.2];omega) (mZ LA.out Hr.out) LA.out zo (Nat.le_trans (Nat.mul_le_mul_right _ (show (lstD (some z)).str.size+1+2≤1003 by have:=mZ LA.out Hr.out;omega)) zo));unfold RS.val Dt.val at HB
     go_wp2_with fail
     refine HB.out.mono ?_;rintro e w7 ⟨rfl,hb⟩;clear yA0 yA1 yA2 yA3 yA4 yA5 yAl y00 y01 y02 y03 y04 y0l;rw[Fa Hr.out];have HO:=zh (HO.out.move hb);clear hb HB;go_wp2;exact hX.out _ _ rfl ⟨rfl,HO.out⟩
   ·rw[e2];clear e1 e2 HQ;obtain⟨yA0,yA1,yA2,yA3,yA4,yA5⟩:=bA.cw HO.out.inn;have yAl:=Mem.ak HO.out.inn bA.c0;have HB:=zh (gT _ _ _ A m5 _ HO.out.inn HT.out bA.at' (LA.out.mono zo zo));unfold RS.val at HB
    go_wp2_with fail
    refine HB.out.mono ?_;rintro e w6 ⟨rfl,hb⟩;clear yA0 yA1 yA2 yA3 yA4 yA5 yAl;rw[sZ Hr.out];have HO:=zh (HO.out.move hb);clear hb HB;obtain⟨yA0,yA1,yA2,yA3,yA4,yA5⟩:=bA.cw HO.out.inn;have yAl:=Mem.ak HO.out.inn bA.c0;obtain⟨y00,y01,y02,y03,y04⟩:=bD0.cw HO.out.inn;have y0l:=Mem.ak HO.out.inn bD0.c0;have HB:=zh (ek _ _ _ A _ _ (lstD (some z)) 8 8 m5 _ HO.out.inn HT.out bA.at' bD0.at' (by rw[(mI _).2.2];omega) (mZ LA.out Hr.out) LA.out zo (Nat.le_trans (Nat.mul_le_mul_right _ (show (lstD (some z)).str.size+1+2≤1003 by have:=mZ LA.out Hr.out;omega)) zo));unfold RS.val Dt.val at HB
    go_wp2_with fail
    refine HB.out.mono ?_;rintro e w7 ⟨rfl,hb⟩;clear yA0 yA1 yA2 yA3 yA4 yA5 yAl y00 y01 y02 y03 y04 y0l;rw[Fa Hr.out];have HO:=zh (HO.out.move hb);clear hb HB;go_wp2;exact hX.out _ _ rfl ⟨rfl,HO.out⟩
  rintro z0 vs w8 - ⟨rfl,hO⟩;simp[litL,lk];clear HO;have HO:=zh hO;clear hO
  go_upto_region 7 with (fail)
  rename_i K2 a2 K1 a1;have HJ:Hid (∀(t:Array Value) w',t.size=162→([3,4,5].map fun i=>t.getD i undef)=[.pointer (some ⟨w.heap.size,0,none⟩),.pointer (some ⟨w.heap.size+1,0,none⟩),.pointer (some ⟨w.heap.size+1+1,0,none⟩)]∧Own w m w' m5 []→K2 ⟨t,[]⟩ w'):=by
   refine zh ?_;rintro t w' hs ⟨hv,hO⟩;refine a2 _ _ (QU [3,4,5] fun z=>?_);rw[hv,hs];simp[litL,lk];clear HO bD0 bD1 Hr Hq HQ hs hv a1 a2;have HO:=zh hO;clear hO;obtain⟨yd0,yd1,yd2,yd3,yd4⟩:=bd.cw HO.out.inn;have ydl:=Mem.ak HO.out.inn bd.c0;have HB:=zh (nK _ _ d m5 _ HO.out.inn HT.out bd.at' (by have:=Cd.out;omega) (by have:=Zd.out;omega));unfold Dt.val at HB
   go_wp2_with fail
   refine HB.out.mono ?_;rintro e w10 ⟨s2,si,sf,st,rfl,hb,hn,hS,hL⟩;clear yd0 yd1 yd2 yd3 yd4 ydl;have Is2:=zh hS;have Ls2:=zh (hL.mono (Nat.le_refl 1) (show d.str.size+1≤61 by have:=Zd.out;omega));clear hS hL;obtain⟨va,vb,vc,vd,ve,vf,rfl,rfl,rfl⟩:=hn.spell;unfold RS.val;obtain⟨m6,lk,bs2,hO⟩:=iJ 29 HO.out hb hn;have HT:=zh (HT.out.le lk);have bA:=bA.le lk;have bd:=bd.le lk;have bx:=bx.le lk
   go_upto_region 12 with (fail)
   generalize hW:w10.alloc (.cells #[.bool s2.nul,.bool s2.fal,.bool s2.tru,.slice va s2.i.length vb,.slice vc s2.f.length vd,.slice ve s2.t.length vf] 29)=w10' at *
   generalize w10.heap.size=gs2 at *
   have HO:=zh hO;clear hb hn hO HB hW lk;by_cases hE:ofE d=0
   ·obtain⟨z,hz⟩:=iI.1 hE;rw[hE];have HZ:=zh hz;clear hz hE;obtain⟨y20,y21,y22,y23,y24,y25⟩:=bs2.cw HO.out.inn;have y2l:=Mem.ak HO.out.inn bs2.c0;have HB:=zh (qi _ _ _ s2 1 61 m6 _ HO.out.inn HT.out bs2.at' Ls2.out zo zo);unfold RS.val at HB
    go_wp2_with fail
    refine HB.out.mono ?_;rintro e w12 ⟨r2,rfl,hb,hr⟩;clear y20 y21 y22 y23 y24 y25 y2l;obtain rfl:=PH HZ.out Is2.out hr;unfold Dt.val;obtain⟨m7,lk,bE0,hO⟩:=vg 33 HO.out hb (xV m6 (e:=(some z)) (fun a h=>by cases h;exact zX HZ.out) (Nj Zd.out HZ.out));have HT:=zh (HT.out.le lk);have bA:=bA.le lk;have bd:=bd.le lk;have bx:=bx.le lk;have bs2:=bs2.le lk
    go_upto_region 15 with (fail)
    generalize hW:w12.alloc (.cells #[.int .i64 (lstD (some z)).kind,.int .i64 (lstD (some z)).num,.string (lstD (some z)).str,.slice none 0 0,.slice none 0 0] 33)=w12' at *
    generalize w12.heap.size=gE0 at *
    have HO:=zh hO;clear hb hO hr HB hW lk;obtain⟨y20,y21,y22,y23,y24,y25⟩:=bs2.cw HO.out.inn;have y2l:=Mem.ak HO.out.inn bs2.c0;have HB:=zh (mQ _ _ _ s2 m7 _ HO.out.inn HT.out bs2.at' (Ls2.out.mono zo zo));unfold RS.val at HB
    go_wp2_with fail
    refine HB.out.mono ?_;rintro e w13 ⟨r3,rfl,hb,hr⟩;clear y20 y21 y22 y23 y24 y25 y2l;obtain rfl:=Nn HZ.out Is2.out hr;unfold Dt.val;obtain⟨m8,lk,bE1,hO⟩:=vg 33 HO.out hb (xV m7 (e:=(some z)) (fun a h=>by cases h;exact zX HZ.out) (Nj Zd.out HZ.out));have HT:=zh (HT.out.le lk);have bA:=bA.le lk;have bd:=bd.le lk;have bx:=bx.le lk;have bs2:=bs2.le lk;have bE0:=bE0.le lk
    go_upto_region 16 with (fail)
    generalize hW:w13.alloc (.cells #[.int .i64 (lstD (some z)).kind,.int .i64 (lstD (some z)).num,.string (lstD (some z)).str,.slice none 0 0,.slice none 0 0] 33)=w13' at *
    generalize w13.heap.size=gE1 at *
    have HO:=zh hO;clear hb hO hr HB hW lk
    go_upto_region 16 with (fail)
    refine aA [4,5,13,139] (fun vs w'=>vs=[.pointer (some ⟨w.heap.size+1,0,none⟩),.pointer (some ⟨w.heap.size+1+1,0,none⟩),.pointer (some ⟨gs2,0,none⟩),.bool false]∧Own w m w' m8 []) ?_ ?_
    ·intro X hX;refine aM 27 6 (fun j=>[Fact.is (·=.bool true),Fact.is (·=.bool false),Fact.is (·=.bool false),Fact.is (·=.bool true),Fact.is (·=.bool false),Fact.is (·=.bool false),Fact.is (·=.bool false),Fact.is (·=.agg #[.int .i64 (lstD (some z)).kind,.int .i64 (lstD (some z)).num,.string (lstD (some z)).str,.slice none 0 0,.slice none 0 0]),Fact.is (·=.agg #[.int .i64 d.kind,.int .i64 d.num,.string d.str,.slice qda d.items.length qdb,.slice qdc d.bv.length qdd]),Fact.is (·=.bool true),Fact.is (·=.bool false),Fact.is (·=.bool false),Fact.is (·=.bool false),Fact.is (·=.agg #[.int .i64 (lstD (some z)).kind,.int .i64 (lstD (some z)).num,.string (lstD (some z)).str,.slice none 0 0,.slice none 0 0]),Fact.is (·=.agg #[.int .i64 d.kind,.int .i64 d.num,.string d.str,.slice qda d.items.length qdb,.slice qdc d.bv.length qdd]),Fact.is (·=.bool true),Fact.is (·=.bool false),Fact.is (·=.bool false),Fact.is (·=.bool false),Fact.is (·=.agg #[.bool s2.nul,.bool s2.fal,.bool s2.tru,.slice va s2.i.length vb,.slice vc s2.f.length vd,.slice ve s2.t.length vf]),Fact.is (·=.agg #[.bool A.nul,.bool A.fal,.bool A.tru,.slice zaa A.i.length zab,.slice zac A.f.length zad,.slice zae A.t.length zaf]),Fact.is (·=.bool (hasD A d)),Fact.is (·=.agg #[.bool A.nul,.bool A.fal,.bool A.tru,.slice zaa A.i.length zab,.slice zac A.f.length zad,.slice zae A.t.length zaf]),Fact.is (·=.agg #[.int .i64 d.kind,.int .i64 d.num,.string d.str,.slice qda d.items.length qdb,.slice qdc d.bv.length qdd]),Fact.is (·=.bool (hasD A d)),Fact.is (·=.bool false),Fact.is (·=.bool false)].getD j Fact.any) zk zk ?_ ?_
     ·intro i hi o win a wr ho RA;have HO2:=HO.out.dr.move RA.below;obtain⟨y30,y31,y32,y33,y34,y35⟩:=bA.cw HO2.inn;have y3l:=Mem.ak HO2.inn bA.c0;obtain⟨y40,y41,y42,y43,y44⟩:=bd.cw HO2.inn;have y4l:=Mem.ak HO2.inn bd.c0;obtain⟨y130,y131,y132,y133,y134,y135⟩:=bs2.cw HO2.inn;have y13l:=Mem.ak HO2.inn bs2.c0;obtain⟨y150,y151,y152,y153,y154⟩:=bE0.cw HO2.inn;have y15l:=Mem.ak HO2.inn bE0.c0;obtain⟨y170,y171,y172,y173,y174⟩:=bE1.cw HO2.inn;have y17l:=Mem.ak HO2.inn bE1.c0;rcases (show i=0∨i=1∨i=2∨i=3∨i=4∨i=5∨i=6∨i=7∨i=8∨i=9∨i=10∨i=11∨i=12∨i=13∨i=14∨i=15∨i=16∨i=17∨i=18∨i=19∨i=20∨i=21∨i=22∨i=23∨i=24∨i=25∨i=26 by omega) with rfl | rfl | rfl | rfl | rfl | rfl | rfl | rfl | rfl | rfl | rfl | rfl | rfl | rfl | rfl | rfl | rfl | rfl | rfl | rfl | rfl | rfl | rfl | rfl | rfl | rfl | rfl
      ·have e16:=RA.k 16;cases ho;exact wv rfl rfl rfl
      ·have e113:a.tmps.getD 113 undef=_:=RA.d 0 rfl;cases ho;exact wv rfl rfl rfl
      ·have e114:a.tmps.getD 114 undef=_:=RA.d 1 rfl;cases ho;exact wv rfl rfl rfl
      ·have e18:=RA.k 18;have e115:a.tmps.getD 115 undef=_:=RA.d 2 rfl;cases ho;exact wy rfl rfl rfl e115 rfl
      ·have e116:a.tmps.getD 116 undef=_:=RA.d 3 rfl;have e115:a.tmps.getD 115 undef=_:=RA.d 2 rfl;cases ho;exact wy rfl rfl rfl e115 rfl
      ·have e115:a.tmps.getD 115 undef=_:=RA.d 2 rfl;have e117:a.tmps.getD 117 undef=_:=RA.d 4 rfl;cases ho;exact wv rfl rfl rfl
      ·have e118:a.tmps.getD 118 undef=_:=RA.d 5 rfl;cases ho;exact wv rfl rfl rfl
      ·have e15:=RA.k 15;have e119:a.tmps.getD 119 undef=_:=RA.d 6 rfl;cases ho;exact wy rfl rfl rfl e119 rfl
      ·have e4:=RA.k 4;have e119:a.tmps.getD 119 undef=_:=RA.d 6 rfl;cases ho;exact wy rfl rfl rfl e119 rfl
      ·have e120:a.tmps.getD 120 undef=_:=RA.d 7 rfl;have e121:a.tmps.getD 121 undef=_:=RA.d 8 rfl;have e119:a.tmps.getD 119 undef=_:=RA.d 6 rfl;cases ho;refine we2 rfl rfl rfl e119 (pE _ _ _ _ (lstD (some z)) d z m8 wr HO2.inn bE0.at' bd.at' (by have:=(show cnt (lstD (some z))≤1 by rw[(mI _).2.2];exact Nat.le_refl _);omega) (by have:=Cd.out;omega) (HZ.out)) ?_;rintro e w' ⟨rfl,hb⟩;exact⟨_,rfl,_,rfl,hb,congrArg Value.bool (aN (sM (zX HZ.out)))⟩
      ·have e122:a.tmps.getD 122 undef=_:=RA.d 9 rfl;have e119:a.tmps.getD 119 undef=_:=RA.d 6 rfl;cases ho;exact wy rfl rfl rfl e119 rfl
      ·have e119:a.tmps.getD 119 undef=_:=RA.d 6 rfl;have e123:a.tmps.getD 123 undef=_:=RA.d 10 rfl;cases ho;exact wv rfl rfl rfl
      ·have e124:a.tmps.getD 124 undef=_:=RA.d 11 rfl;cases ho;exact wv rfl rfl rfl
      ·have e17:=RA.k 17;have e125:a.tmps.getD 125 undef=_:=RA.d 12 rfl;cases ho;exact wy rfl rfl rfl e125 rfl
      ·have e4:=RA.k 4;have e125:a.tmps.getD 125 undef=_:=RA.d 12 rfl;cases ho;exact wy rfl rfl rfl e125 rfl
      ·have e126:a.tmps.getD 126 undef=_:=RA.d 13 rfl;have e127:a.tmps.getD 127 undef=_:=RA.d 14 rfl;have e125:a.tmps.getD 125 undef=_:=RA.d 12 rfl;cases ho;refine we2 rfl rfl rfl e125 (pE _ _ _ _ (lstD (some z)) d z m8 wr HO2.inn bE1.at' bd.at' (by have:=(show cnt (lstD (some z))≤1 by rw[(mI _).2.2];exact Nat.le_refl _);omega) (by have:=Cd.out;omega) (HZ.out)) ?_;rintro e w' ⟨rfl,hb⟩;exact⟨_,rfl,_,rfl,hb,congrArg Value.bool (aN (sM (zX HZ.out)))⟩
      ·have e128:a.tmps.getD 128 undef=_:=RA.d 15 rfl;have e125:a.tmps.getD 125 undef=_:=RA.d 12 rfl;cases ho;exact wy rfl rfl rfl e125 rfl
      ·have e125:a.tmps.getD 125 undef=_:=RA.d 12 rfl;have e129:a.tmps.getD 129 undef=_:=RA.d 16 rfl;cases ho;exact wv rfl rfl rfl
      ·have e130:a.tmps.getD 130 undef=_:=RA.d 17 rfl;cases ho;exact wv rfl rfl rfl
      ·have e13:=RA.k 13;have e131:a.tmps.getD 131 undef=_:=RA.d 18 rfl;cases ho;exact wy rfl rfl rfl e131 rfl
      ·have e3:=RA.k 3;have e131:a.tmps.getD 131 undef=_:=RA.d 18 rfl;cases ho;exact wy rfl rfl rfl e131 rfl
      ·have e132:a.tmps.getD 132 undef=_:=RA.d 19 rfl;have e133:a.tmps.getD 133 undef=_:=RA.d 20 rfl;have e131:a.tmps.getD 131 undef=_:=RA.d 18 rfl;cases ho;refine we2 rfl rfl rfl e131 (ik _ _ _ s2 _ _ _ A 1 61 8 8 m8 wr HO2.inn HT.out bs2.at' bA.at' Ls2.out LA.out zo zo zo) ?_;rintro e w' ⟨rfl,hb⟩;exact⟨_,rfl,_,rfl,hb,congrArg Value.bool (Mt HZ.out Is2.out)⟩
      ·have e3:=RA.k 3;have e131:a.tmps.getD 131 undef=_:=RA.d 18 rfl;cases ho;exact wy rfl rfl rfl e131 rfl
      ·have e4:=RA.k 4;have e131:a.tmps.getD 131 undef=_:=RA.d 18 rfl;cases ho;exact wy rfl rfl rfl e131 rfl
      ·have e135:a.tmps.getD 135 undef=_:=RA.d 22 rfl;have e136:a.tmps.getD 136 undef=_:=RA.d 23 rfl;have e131:a.tmps.getD 131 undef=_:=RA.d 18 rfl;cases ho;refine we2 rfl rfl rfl e131 (ek _ _ _ A _ _ d 8 8 m8 wr HO2.inn HT.out bA.at' bd.at' (by have:=Cd.out;omega) (by have:=Zd.out;omega) LA.out zo (Nat.le_trans (Nat.mul_le_mul_right _ (show d.str.size+1+2≤60+3 by have:=Zd.out;omega)) zo)) ?_;rintro e w' ⟨rfl,hb⟩;exact⟨_,rfl,_,rfl,hb,rfl⟩
      ·have e134:a.tmps.getD 134 undef=_:=RA.d 21 rfl;have e137:a.tmps.getD 137 undef=_:=RA.d 24 rfl;have e131:a.tmps.getD 131 undef=_:=RA.d 18 rfl;cases ho;exact wy rfl rfl rfl e131 rfl
      ·have e131:a.tmps.getD 131 undef=_:=RA.d 18 rfl;have e138:a.tmps.getD 138 undef=_:=RA.d 25 rfl;cases ho;exact wv rfl rfl rfl
     ·intro win a wr E;have e4:=E.keep 4 zk;have e5:=E.keep 5 zk;have e13:=E.keep 13 zk;have e139:a.tmps.getD 139 undef=.bool false:=E.fact 26 _ zo rfl;obtain⟨t,d⟩:=a;obtain rfl:d=[]:=E.defers;refine aV zk (hX.out _ _ E.size ⟨?_,HO.out.dr.move E.below⟩) _;simp only[List.map_cons,List.map_nil,e4,e5,e13,e139]
      first | done | rfl
    rintro z0 vs w14 - ⟨rfl,hO⟩;simp[litL,lk];clear HO;have HO:=zh hO;clear hO;clear bE0 bE1;obtain⟨y20,y21,y22,y23,y24,y25⟩:=bs2.cw HO.out.inn;have y2l:=Mem.ak HO.out.inn bs2.c0;have HB:=zh (EF _ s2.t 2 m8 _ HO.out.inn bs2.at'.t zD zD (Nat.le_trans Ls2.out.t zo) (Nat.le_trans (Nat.mul_le_mul_right _ (Nat.add_le_add_right Ls2.out.t 1)) zD))
    go_wp2_with fail
    refine HB.out.mono ?_;rintro e w15 ⟨rw',ws,rfl,hb,hst,hf⟩;clear y20 y21 y22 y23 y24 y25 y2l;obtain⟨wa,wc,hwv⟩:∃a c,rw'=.slice a ws.length c:=by
     obtain⟨a,c,h,-⟩:=hst;exact⟨a,c,by rw[h,List.length_map]⟩
    subst hwv;have HL:=zh (Ng HZ.out Is2.out hf);have HO:=zh (HO.out.move hb);clear hb hst hf HB
    go_upto_region 19 with (fail)
    refine aA [6] (fun vs w'=>vs=[.bool true]∧Own w m w' m8 []) ?_ ?_
    ·intro X hX;refine aM 20 6 (fun j=>[Fact.is (·=.agg #[.bool s2.nul,.bool s2.fal,.bool s2.tru,.slice va s2.i.length vb,.slice vc s2.f.length vd,.slice ve s2.t.length vf]),Fact.is (·=.agg #[.int .i64 x.kind,.int .i64 x.num,.string x.str,.slice qxa x.items.length qxb,.slice qxc x.bv.length qxd]),Fact.is (·=.bool (tf (dtEl x=some z))),Fact.is (·=.agg #[.int .i64 x.kind,.int .i64 x.num,.string x.str,.slice qxa x.items.length qxb,.slice qxc x.bv.length qxd]),Fact.is (·=.agg #[.int .i64 d.kind,.int .i64 d.num,.string d.str,.slice qda d.items.length qdb,.slice qdc d.bv.length qdd]),Fact.is (·=.bool (tf (dtEl x=some z))),Fact.is (·=.bool true),Fact.is (·=.bool true),Fact.is (·=.pointer (some ⟨w.heap.size+1,0,none⟩)),Fact.is (·=.int .i64 d.kind),Fact.is (·=.bool (d.kind==4)),Fact.is (·=.slice wa ws.length wc),Fact.is (·=.int .i64 ws.length),Fact.is (·=.bool (d.kind==4)),Fact.is (·=.bool true),Fact.is (·=.bool true),Fact.is (·=.bool true),Fact.is (·=.bool true),Fact.is (·=.bool true),Fact.is (·=.bool true)].getD j Fact.any) zk zk ?_ ?_
     ·intro i hi o win a wr ho RA;have HO2:=HO.out.dr.move RA.below;obtain⟨y40,y41,y42,y43,y44⟩:=bd.cw HO2.inn;have y4l:=Mem.ak HO2.inn bd.c0;obtain⟨y50,y51,y52,y53,y54⟩:=bx.cw HO2.inn;have y5l:=Mem.ak HO2.inn bx.c0;obtain⟨y130,y131,y132,y133,y134,y135⟩:=bs2.cw HO2.inn;have y13l:=Mem.ak HO2.inn bs2.c0;rcases (show i=0∨i=1∨i=2∨i=3∨i=4∨i=5∨i=6∨i=7∨i=8∨i=9∨i=10∨i=11∨i=12∨i=13∨i=14∨i=15∨i=16∨i=17∨i=18∨i=19 by omega) with rfl | rfl | rfl | rfl | rfl | rfl | rfl | rfl | rfl | rfl | rfl | rfl | rfl | rfl | rfl | rfl | rfl | rfl | rfl | rfl
      ·have e13:=RA.k 13;cases ho;exact wv rfl rfl rfl
      ·have e5:=RA.k 5;cases ho;exact wv rfl rfl rfl
      ·have e143:a.tmps.getD 143 undef=_:=RA.d 0 rfl;have e144:a.tmps.getD 144 undef=_:=RA.d 1 rfl;cases ho;refine we rfl rfl (ek _ _ _ s2 _ _ x 1 61 m8 wr HO2.inn HT.out bs2.at' bx.at' (by have:=Cx.out;omega) (by have:=Zx.out;omega) Ls2.out zo (Nat.le_trans (Nat.mul_le_mul_right _ (show x.str.size+1+2≤60+3 by have:=Zx.out;omega)) zo)) ?_;rintro e w' ⟨rfl,hb⟩;exact⟨_,rfl,_,rfl,hb,congrArg Value.bool (one_has HZ.out Is2.out x)⟩
      ·have e5:=RA.k 5;cases ho;exact wv rfl rfl rfl
      ·have e4:=RA.k 4;cases ho;exact wv rfl rfl rfl
      ·have e146:a.tmps.getD 146 undef=_:=RA.d 3 rfl;have e147:a.tmps.getD 147 undef=_:=RA.d 4 rfl;cases ho;refine we rfl rfl (pE _ _ _ _ x d z m8 wr HO2.inn bx.at' bd.at' (by have:=Cx.out;omega) (by have:=Cd.out;omega) (HZ.out)) ?_;rintro e w' ⟨rfl,hb⟩;exact⟨_,rfl,_,rfl,hb,rfl⟩
      ·have e145:a.tmps.getD 145 undef=_:=RA.d 2 rfl;have e148:a.tmps.getD 148 undef=_:=RA.d 5 rfl;cases ho;exact wv rfl rfl rfl
      ·have e149:a.tmps.getD 149 undef=_:=RA.d 6 rfl;cases ho;exact wv rfl rfl rfl
      ·have e4:=RA.k 4;have e150:a.tmps.getD 150 undef=_:=RA.d 7 rfl;cases ho;exact wy rfl rfl rfl e150 rfl
      ·have e151:a.tmps.getD 151 undef=_:=RA.d 8 rfl;have e150:a.tmps.getD 150 undef=_:=RA.d 7 rfl;cases ho;exact wy rfl rfl rfl e150 rfl
      ·have e152:a.tmps.getD 152 undef=_:=RA.d 9 rfl;have e150:a.tmps.getD 150 undef=_:=RA.d 7 rfl;cases ho;exact wy rfl rfl rfl e150 rfl
      ·have e19:=RA.k 19;have e150:a.tmps.getD 150 undef=_:=RA.d 7 rfl;cases ho;exact wy rfl rfl rfl e150 rfl
      ·have e154:a.tmps.getD 154 undef=_:=RA.d 11 rfl;have e150:a.tmps.getD 150 undef=_:=RA.d 7 rfl;cases ho;exact wy rfl rfl rfl e150 rfl
      ·have e155:a.tmps.getD 155 undef=_:=RA.d 12 rfl;have e150:a.tmps.getD 150 undef=_:=RA.d 7 rfl;cases ho;exact dU rfl (dA rfl rfl e150) (aD zg ⟨_,rfl,Below.refl _ _,congrArg Value.bool HL.out⟩)
      ·have e153:a.tmps.getD 153 undef=_:=RA.d 10 rfl;have e156:a.tmps.getD 156 undef=_:=RA.d 13 rfl;have e150:a.tmps.getD 150 undef=_:=RA.d 7 rfl;cases ho;exact wy rfl rfl rfl e150 rfl
      ·have e150:a.tmps.getD 150 undef=_:=RA.d 7 rfl;have e157:a.tmps.getD 157 undef=_:=RA.d 14 rfl;cases ho;exact wv rfl rfl rfl
      ·have e158:a.tmps.getD 158 undef=_:=RA.d 15 rfl;cases ho;exact wv rfl rfl rfl
      ·have e159:a.tmps.getD 159 undef=_:=RA.d 16 rfl;cases ho;refine we2 rfl rfl rfl e159 (bJ m8 wr HO2.inn HT.out) ?_;rintro e w' ⟨rfl,hb⟩;exact⟨_,rfl,_,rfl,hb,rfl⟩
      ·have e159:a.tmps.getD 159 undef=_:=RA.d 16 rfl;have e160:a.tmps.getD 160 undef=_:=RA.d 17 rfl;cases ho;exact wv rfl rfl rfl
      ·have e161:a.tmps.getD 161 undef=_:=RA.d 18 rfl;cases ho;exact wv rfl rfl rfl
     ·intro win a wr E;have e6:a.tmps.getD 6 undef=.bool true:=E.fact 19 _ zo rfl;obtain⟨t,d⟩:=a;obtain rfl:d=[]:=E.defers;refine aV zk (hX.out _ _ E.size ⟨?_,HO.out.dr.move E.below⟩) _;simp only[List.map_cons,List.map_nil,e6]
      first | done | rfl
    rintro z' vs w9 - ⟨rfl,hO⟩;simp[litL,lk];have HE:=zh hO.below;clear hO HO;go_wp2;exact hR.out _ _ ⟨rfl,HE.out⟩
   ·have ce:(ofE d != 0)=true:=by simpa using hE
    have HM:=zh (Rk hE Is2.out);clear hE;obtain⟨y20,y21,y22,y23,y24,y25⟩:=bs2.cw HO.out.inn;have y2l:=Mem.ak HO.out.inn bs2.c0;have HB:=zh (gT _ _ _ s2 m6 _ HO.out.inn HT.out bs2.at' (Ls2.out.mono zo zo));unfold RS.val at HB
    go_wp2_with fail
    refine HB.out.mono ?_;rintro e w11 ⟨rfl,hb⟩;clear y20 y21 y22 y23 y24 y25 y2l;rw[HM.out];have HO:=zh (HO.out.move hb);clear hb HB;have HB:=zh (bJ m6 _ HO.out.inn HT.out)
    go_wp2_with fail
    refine HB.out.mono ?_;rintro e w8 ⟨rfl,hb⟩;have HE:=zh (HO.out.move hb).below;clear hb HB HO;go_wp2;exact hR.out _ _ ⟨rfl,HE.out⟩
  clear a2;rcases HQ.out with rfl | ⟨z,rfl,rfl⟩
  ·rw[e1];clear e1 e2 HQ;go_wp2;exact HJ.out _ _ rfl ⟨rfl,HO.out⟩
  ·rw[e2];clear e1 e2 HQ;have H5:=zh HO.out;have HO:=zh (Own.start HO.out.inn);obtain⟨y00,y01,y02,y03,y04⟩:=bD0.cw HO.out.inn;have y0l:=Mem.ak HO.out.inn bD0.c0;have HB:=zh (nK _ _ (lstD (some z)) m5 _ HO.out.inn HT.out bD0.at' (by rw[(mI _).2.2];omega) (mZ LA.out Hr.out));unfold Dt.val at HB
   go_wp2_with fail
   refine HB.out.mono ?_;rintro e w10 ⟨s9,si,sf,st,rfl,hb,hn,hS,hL⟩;clear y00 y01 y02 y03 y04 y0l;have Is9:=zh hS;clear hS hL;rw[show ofE (lstD (some z))=0 from iI.2 ⟨z,sM (Jf Hr.out z rfl)⟩];obtain⟨va,vb,vc,vd,ve,vf,rfl,rfl,rfl⟩:=hn.spell;unfold RS.val;obtain⟨m6,lk,bs9,hO⟩:=iJ 29 HO.out hb hn;have HT:=zh (HT.out.le lk);have bA:=bA.le lk
   go_upto_region 9 with (fail)
   generalize hW:w10.alloc (.cells #[.bool s9.nul,.bool s9.fal,.bool s9.tru,.slice va s9.i.length vb,.slice vc s9.f.length vd,.slice ve s9.t.length vf] 29)=w10' at *
   generalize w10.heap.size=gs9 at *
   have HO:=zh hO;clear hb hn hO HB hW lk;have HM:=zh (MH Hq.out Hr.out Is9.out);obtain⟨y90,y91,y92,y93,y94,y95⟩:=bs9.cw HO.out.inn;have y9l:=Mem.ak HO.out.inn bs9.c0;obtain⟨yA0,yA1,yA2,yA3,yA4,yA5⟩:=bA.cw HO.out.inn;have yAl:=Mem.ak HO.out.inn bA.c0;have HB:=zh (dB _ _ _ _ _ _ s9 A m6 _ HO.out.inn bs9.at' bA.at');unfold RS.val at HB
   go_wp2_with fail
   refine HB.out.mono ?_;rintro e w11 ⟨rfl,hb⟩;clear y90 y91 y92 y93 y94 y95 y9l yA0 yA1 yA2 yA3 yA4 yA5 yAl;rw[HM.out];have HO:=zh (HO.out.move hb);clear hb HB;go_wp2;exact HJ.out _ _ rfl ⟨rfl,H5.out.move HO.out.below⟩
end Cl
