/- Lemmas for the proofs of chapter 11. -/
import Derived.WalkKit
import Derived.Test.YtdgjplfcpcphoaaGreatDoorProg
import Derived.BigQuiet
import Derived.Deep.Cut
import Derived.Deep.QuietTactic
import Derived.Laws.StructEq
import Derived.Lib.AppendStr
import Derived.Lib.Builder
import Derived.Lib.Hide
import Derived.Lib.ItoaLen
import Derived.Maps.OwnOps
import Derived.Maps.OwnSet
import Derived.OrdersHeld
import Derived.Outline
import Derived.StillTailTactics
import Derived.StringKeys
import Derived.WalkLawsBesides
import Derived.WalkSpells
import Derived.Deep.RegionHeld
import Derived.RangeFuncNested
import Derived.RangeFuncBound
import Derived.RangeFuncCalls
import Derived.RangeFuncLeaves
import Derived.OwnWalkIn
import Derived.TacticsInMore
import Derived.LoopNIn
import Derived.LoopIn
import Derived.Shelf.Strings.Builder1
import Derived.Shelf.Small.Wraps
import Derived.Shelf.LaysM
import Derived.Shelf.Strconv.Itoa3
import Derived.Shelf.SlSortCmp.WholeK
import Derived.Laws.EntriesVeiled
import Derived.Laws.CopyOwn
import Derived.RegionTactic
import Derived.Test.YtdgjplfcpcphoaaGreatDoorZz
import Derived.Test.YtdgjplfcpcphoaaGreatDoorPkV1
import Derived.Test.YtdgjplfcpcphoaaGreatDoorPkV2
import Derived.Test.YtdgjplfcpcphoaaGreatDoorPkV3
import Derived.Test.YtdgjplfcpcphoaaGreatDoorPkV4
import Derived.Test.YtdgjplfcpcphoaaGreatDoorPkV15
import Derived.Test.YtdgjplfcpcphoaaGreatDoorPkV5
import Derived.Test.YtdgjplfcpcphoaaGreatDoorPkV10
import Derived.Test.YtdgjplfcpcphoaaGreatDoorPkV14
import Derived.Test.YtdgjplfcpcphoaaGreatDoorPkV20
import Derived.Test.YtdgjplfcpcphoaaGreatDoorPkV9
import Derived.Test.YtdgjplfcpcphoaaGreatDoorPkV6
import Derived.Test.YtdgjplfcpcphoaaGreatDoorPkV11
import Derived.Test.YtdgjplfcpcphoaaGreatDoorPkV7
import Derived.Test.YtdgjplfcpcphoaaGreatDoorPkV8
import Derived.Test.YtdgjplfcpcphoaaGreatDoorPkV13
import Derived.Test.YtdgjplfcpcphoaaGreatDoorPkV12
set_option maxRecDepth 100000
set_option maxHeartbeats 16000000
namespace Cl
open Classical in
theorem nV {l:Table} {i:Nat} {st:Sn} (h:l[i]?=some st) (b:Nat):aV l (i:Int) b=aS st.edges b:=by
 obtain⟨h1,h2⟩:=List.getElem?_eq_some_iff.1 h;rw[bP l i b h1,h2]
theorem EA {l:Table} {i:Nat} {st:Sn} (h:l[i]?=some st):dP l (i:Int)=st.accept:=by
 obtain⟨h1,h2⟩:=List.getElem?_eq_some_iff.1 h;rw[dG l i h1,h2]
end Cl
namespace Cl
def mY (s:List UInt8):Table:=((List.range s.length).map fun i=>(⟨false,[⟨(s.getD i 0).toNat,(s.getD i 0).toNat,((i+1:Nat):Int)⟩]⟩:Sn)) ++ [⟨true,[]⟩]
theorem iJ (s:List UInt8):(mY s).length=s.length+1:=by simp[mY]
theorem nR {s:List UInt8} {i:Nat} (h:i<s.length):(mY s)[i]?=some ⟨false,[⟨(s[i]).toNat,(s[i]).toNat,((i+1:Nat):Int)⟩]⟩:=by
 unfold mY;rw[List.getElem?_append_left (by simpa using h)];simp[h]
theorem nQ (s:List UInt8):(mY s)[s.length]?=some ⟨true,[]⟩:=by
 unfold mY;rw[List.getElem?_append_right zS];simp
theorem nP (s:List UInt8):∀(v:List UInt8) (i:Nat),i≤s.length→(aF (mY s) (i:Int) v=true↔v=s.drop i)
 | [],i,hi=>by
  simp only[aF];by_cases h:i<s.length
  ·rw[EA (nR h),List.drop_eq_getElem_cons h];exact⟨fun h=>(by cases h),fun h=>(by cases h)⟩
  ·obtain rfl:i=s.length:=zo;rw[EA (nQ s),List.drop_eq_nil_of_le (Nat.le_refl _)]
   simp
 | c::v,i,hi=>by
  simp only[aF];by_cases h:i<s.length
  ·rw[nV (nR h),List.drop_eq_getElem_cons h];simp only[aS];by_cases e:c=s[i]
   ·rw[if_pos (by rw[e];exact⟨Nat.le_refl _,Nat.le_refl _⟩),nP s v (i+1) h,e];exact⟨fun h=>(by rw[h]),fun h=>(List.cons.inj h).2⟩
   ·have hne:c.toNat≠(s[i]).toNat:=fun h=>e (UInt8.toNat_inj.1 h);rw[if_neg zo,bK zo];exact⟨fun h=>(by cases h),fun h=>absurd (List.cons.inj h).1 e⟩
  ·obtain rfl:i=s.length:=zo;rw[nV (nQ s),List.drop_eq_nil_of_le (Nat.le_refl _)];simp only[aS];rw[bK zo];simp
theorem GU (s:List UInt8) (k b t:Nat) (h:aV (mY s) k b=t):k<s.length∧t=k+1:=by
 by_cases hk:k<s.length
 ·rw[nV (nR hk)] at h;simp only[aS] at h
  split at h
  ·exact⟨hk,zo⟩
  ·omega
 ·by_cases hk2:k=s.length
  ·subst hk2;rw[nV (nQ s)] at h;simp only[aS] at h;omega
  ·rw[df _ _ _ (by rw[iJ];omega)] at h;omega
theorem Mx (s:List UInt8):mP (fun v=>decide (v=s)) (mY s):=by
 have hstep:∀k (h:k<s.length),aV (mY s) k (s[k]).toNat=((k+1:Nat):Int):=fun k h=>by
  rw[nV (nR h)];simp only[aS];rw[if_pos ⟨Nat.le_refl _,Nat.le_refl _⟩]
 have hst:∀x∈mY s,x=⟨true,[]⟩∨∃i,∃h:i<s.length,x=⟨false,[⟨(s[i]).toNat,(s[i]).toNat,((i+1:Nat):Int)⟩]⟩:=by
  intro x hx;obtain⟨i,hi,rfl⟩:=List.mem_iff_getElem.1 hx;rw[iJ] at hi;have hg:(mY s)[i]?=some ((mY s)[i]'(by rw[iJ];exact hi)):=by rw[List.getElem?_eq_getElem]
  by_cases h:i<s.length
  ·rw[nR h] at hg;exact .inr ⟨i,h,(Option.some.inj hg).symm⟩
  ·obtain rfl:i=s.length:=zo;rw[nQ] at hg;exact .inl (Option.some.inj hg).symm
 refine ⟨⟨?_,?_,?_,?_,?_,?_,?_⟩,fun v=>?_⟩
 ·intro x hx;rw[iJ];rcases hst x hx with rfl | ⟨i,h,rfl⟩
  ·trivial
  ·exact⟨Nat.le_refl _,by show (0:Int)≤((i+1:Nat):Int);omega,by show ((i+1:Nat):Int)<((s.length+1:Nat):Int);omega,by show (-1:Int)<((s[i]).toNat:Int);omega,trivial⟩
 ·intro x hx e he;rcases hst x hx with rfl | ⟨i,h,rfl⟩
  ·simp at he
  ·simp only[List.mem_singleton] at he;subst he;exact⟨(s[i]).toNat_lt,(s[i]).toNat_lt⟩
 ·intro x hx;rcases hst x hx with rfl | ⟨i,h,rfl⟩ <;> trivial
 ·intro k hk;rw[iJ] at hk;exact⟨s.drop k,(nP s _ k zo).2 rfl⟩
 ·intro i j hi hj h;rw[iJ] at hi hj;have h1:=(nP s (s.drop i) i zo).2 rfl;rw[h] at h1;have h2:=(nP s (s.drop i) j zo).1 h1;have:=congrArg List.length h2;simp at this;omega
 ·intro k b t hb h t' h1 h2;obtain⟨hk,rfl⟩:=GU s k b t h;refine ⟨t' - 1,(s[t' - 1]'zo).toNat,(s[t' - 1]'zo).toNat_lt,.inl zo,?_⟩;have:=hstep (t' - 1) zo;rw[show t' - 1+1=t' by omega] at this;exact this
 ·intro t h1 h2;rw[iJ] at h2;refine ⟨t - 1,(s[t - 1]'zo).toNat,zo,(s[t - 1]'zo).toNat_lt,?_⟩;have:=hstep (t - 1) zo;rw[show t - 1+1=t by omega] at this;exact this
 ·have:=nP s v 0 (Nat.zero_le _);rw[List.drop_zero] at this;rw[Bool.eq_iff_iff,decide_eq_true_iff];exact this
end Cl
namespace Cl
def GR (c:St) (W:List Table):Prop:=W.length=c.1.length∧∀i (h1:i<W.length) (h2:i<c.1.length),mP (fun w=>(c.1[i]).1.1.data.toList==w) W[i]∧W[i]≠[]
theorem wD {α β:Type} {p:α→Bool} {q:β→Bool}:∀{l:List α} {m:List β},l.length=m.length→(∀i (h1:i<l.length) (h2:i<m.length),p l[i]=q m[i])→l.countP p=m.countP q
 | [],[],_,_=>rfl
 | [],_::_,h,_=>by simp at h
 | _::_,[],h,_=>by simp at h
 | x::l,y::m,h,k=>by
  have h0:=k 0 zS zS;simp only[List.getElem_cons_zero] at h0;simp only[List.countP_cons,h0,wD (l:=l) (m:=m) (by simpa using h) fun i h1 h2=>k (i+1) (by simpa using h1) (by simpa using h2)]
theorem H9 {c:St} {W:List Table} (h:∀k∈c.2,Canon k.1∧k.1≠[]) (hW:GR c W):qc ((c.2.map (·.1) ++ W).map tabC)↔qc (stC1 c):=by
 rw[rW h];have:∀w,((c.2.map (·.1) ++ W).map tabC).countP (fun x=>x.lang w)=hitN c w:=fun w=>by
  rw[List.map_append,List.countP_append,List.countP_map,List.countP_map,List.countP_map,hitN]
  congr 1
  ·exact j4 fun k hk=>rV (h k hk).1 w
  ·refine wD hW.1 fun i h1 h2=>?_;have hl:=(hW.2 i h1 h2).1;show (tabC W[i]).lang w=_;rw[rV hl.canon,hl.sem]
 simp only[qc,this]
end Cl
namespace Cl
def cutS (b:Nat) (o:Nat) (e:Ed):Nat:=
 let o1:=if b<e.lo then min o e.lo else o
 if b≤e.hi then min o1 (e.hi+1) else o1
def cutE (b:Nat) (es:List Ed) (o:Nat):Nat:=es.foldl (cutS b) o
theorem LG (b o:Nat):cutE b [] o=o:=rfl
theorem JS (b o:Nat) {es:List Ed} {j:Nat} (h:j<es.length):cutE b (es.take (j+1)) o=cutS b (cutE b (es.take j) o) es[j]:=by
 unfold cutE;rw[List.take_succ_eq_append_getElem h,List.foldl_append]
 rfl
theorem Nn (b o:Nat) (e:Ed):cutS b o e≤o:=by
 unfold cutS;simp only
 split <;> split <;> omega
theorem Np {b o:Nat} (e:Ed) (h:b<o):b<cutS b o e:=by
 unfold cutS;simp only
 split <;> split <;> omega
theorem uq (b:Nat):∀(es:List Ed) (o:Nat),cutE b es o≤o
 | [],_=>Nat.le_refl _
 | e::es,o=>Nat.le_trans (uq b es (cutS b o e)) (Nn b o e)
theorem C8 {b:Nat}:∀(es:List Ed) (o:Nat),b<o→b<cutE b es o
 | [],_,h=>h
 | e::es,o,h=>C8 es (cutS b o e) (Np e h)
theorem wC {b:Nat}:∀(es:List Ed) (o c:Nat),b≤c→c<cutE b es o→aS es c=aS es b
 | [],_,_,_,_=>rfl
 | e::es,o,c,h1,h2=>by
  have ih:=wC es (cutS b o e) c h1 h2;have hlt:c<cutS b o e:=Nat.lt_of_lt_of_le h2 (uq b es _);simp only[aS];rw[ih];unfold cutS at hlt;simp only at hlt;by_cases h3:b<e.lo
  ·rw[if_pos h3] at hlt;have h4:¬ (e.lo≤b∧b≤e.hi):=zo;have h5:¬ (e.lo≤c∧c≤e.hi):=by split at hlt <;> omega
   rw[if_neg h4,if_neg h5]
  ·rw[if_neg h3] at hlt;by_cases h4:b≤e.hi
   ·rw[if_pos h4] at hlt;rw[if_pos ⟨zo,zo⟩,if_pos ⟨zo,h4⟩]
   ·rw[if_neg zo,if_neg zo]
def nK (Ls:List Table) (ps:List Int) (b:Nat):Nat→Nat
 | 0=>256
 | k+1=>cutE b (lq (Ls.getD k []) (ps.getD k (-1))) (nK Ls ps b k)
theorem xR {Ls:List Table} {ps:List Int} {b:Nat} (h:b<256):∀k,b<nK Ls ps b k
 | 0=>h
 | k+1=>C8 _ _ (xR h k)
theorem xQ (Ls:List Table) (ps:List Int) (b:Nat):∀k,nK Ls ps b k≤256
 | 0=>Nat.le_refl _
 | k+1=>Nat.le_trans (uq _ _ _) (xQ Ls ps b k)
end Cl
namespace Cl
theorem Kz {t:Table} {k:Nat} (hk:t.length≤k+1) (h:∀i (hi:i<t.length),(t[i]).edges=[]∨∃e,(t[i]).edges=[e]∧e.to=((i+1:Nat):Int)∧i+1<t.length):Lane k (tabC t) where
 neg b:=show aV t (-1) b = -1 from gG zo b
 step i b _:=by
  show aV t i b = -1∨(aV t i b=_∧_);by_cases hi:i<t.length
  ·rw[bP t i b hi];rcases h i hi with e | ⟨e,h1,h2,h3⟩
   ·rw[e];exact .inl rfl
   ·rw[h1,aS]
    split
    ·exact .inr ⟨h2,zo⟩
    ·exact .inl rfl
  ·exact .inl (df t i b zo)
end Cl
namespace Cl
theorem Gz (Ls:List Table) (ps:List Int) (b:Nat) {j:Nat}:∀{k:Nat},j≤k→nK Ls ps b k≤nK Ls ps b j:=by
 intro k h
 induction h with
 | refl=>exact Nat.le_refl _
 | step _ ih=>exact Nat.le_trans (uq _ _ _) ih
theorem EX {Ls:List Table} {ps:List Int} {b c:Nat} (hl:ps.length=Ls.length) (h1:b≤c) (h2:c<nK Ls ps b Ls.length):dD (Ls.map tabC) ps c=dD (Ls.map tabC) ps b:=by
 unfold dD;apply List.ext_getElem zS;intro i k1 k2;have hi:i<Ls.length:=by simp at k1;omega
 have hp:i<ps.length:=zo;simp only[List.getElem_zipWith,List.getElem_map];show aV Ls[i] ps[i] c=aV Ls[i] ps[i] b;have h3:c<nK Ls ps b (i+1):=Nat.lt_of_lt_of_le h2 (Gz Ls ps b zo);rw[nK,show Ls.getD i []=Ls[i] by simp[List.getD_eq_getElem?_getD,hi],show ps.getD i (-1)=ps[i] by simp[List.getD_eq_getElem?_getD,hp]] at h3;rw[iO,iO,wC _ _ _ h1 h3]
def stepT (Ls:List Table) (v:List Int) (b k:Nat):List Int:=dD ((Ls.map tabC).take k) (v.take k) b
theorem EY (Ls:List Table) (v:List Int) (b:Nat):stepT Ls v b 0=[]:=by simp[stepT,dD]
theorem EZ {Ls:List Table} {v:List Int} (b:Nat) {k:Nat} (h1:k<Ls.length) (h2:k<v.length):stepT Ls v b (k+1)=stepT Ls v b k ++ [aV Ls[k] v[k] b]:=by
 unfold stepT dD;rw[List.take_succ_eq_append_getElem (show k<(Ls.map tabC).length by simpa using h1),List.take_succ_eq_append_getElem h2,List.zipWith_append (by simp;omega)];simp[tabC]
theorem Ig {Ls:List Table} {v:List Int} (h:v.length=Ls.length) (b:Nat):stepT Ls v b Ls.length=dD (Ls.map tabC) v b:=by
 unfold stepT;rw[show (Ls.map tabC).take Ls.length=Ls.map tabC by rw[← List.length_map (f:=tabC),List.take_length],← h,List.take_length]
theorem Jv (Ls:List Table) (v:List Int):hitT Ls v 0=0:=by simp[hitT,jb]
theorem Jw {Ls:List Table} {v:List Int} {k:Nat} (h1:k<Ls.length) (h2:k<v.length):hitT Ls v (k+1)=hitT Ls v k+if dP Ls[k] v[k] then 1 else 0:=by
 unfold hitT;rw[o7 (by simpa using h1) h2];simp[tabC]
theorem Nh (Ls:List Table) (v:List Int) (k:Nat):hitT Ls v k≤k:=by
 unfold hitT jb;refine Nat.le_trans (List.countP_le_length) ?_;simp;omega
theorem K8 {Ls:List Table} {v:List Int} (h:v.length=Ls.length):hitT Ls v Ls.length=jb (Ls.map tabC) v:=by
 unfold hitT;rw[show (Ls.map tabC).take Ls.length=Ls.map tabC by rw[← List.length_map (f:=tabC),List.take_length],← h,List.take_length]
theorem Bp (Ls:List Table):ek (Ls.map tabC)=List.replicate Ls.length 0:=by rw[ek,List.map_const',List.length_map]
end Cl
