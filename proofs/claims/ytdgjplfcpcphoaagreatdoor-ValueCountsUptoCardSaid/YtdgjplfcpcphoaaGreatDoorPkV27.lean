/- Lemmas for the proofs of chapter 11. -/
import Derived.Test.YtdgjplfcpcphoaaGreatDoorProg
import Derived.BigQuiet
import Derived.Deep.Cut
import Derived.Deep.QuietTactic
import Derived.Laws.StructEq
import Derived.Lib.AppendStr
import Derived.Lib.Builder
import Derived.Lib.Hide
import Derived.Lib.ItoaLen
import Derived.Maps.OwnOps
import Derived.Maps.OwnSet
import Derived.OrdersHeld
import Derived.Outline
import Derived.StillTailTactics
import Derived.StringKeys
import Derived.WalkKit
import Derived.WalkLawsBesides
import Derived.WalkSpells
import Derived.Deep.RegionHeld
import Derived.RangeFuncNested
import Derived.RangeFuncBound
import Derived.RangeFuncCalls
import Derived.RangeFuncLeaves
import Derived.OwnWalkIn
import Derived.TacticsInMore
import Derived.LoopNIn
import Derived.LoopIn
import Derived.Shelf.Strings.Builder1
import Derived.Shelf.Small.Wraps
import Derived.Shelf.LaysM
import Derived.Shelf.Strconv.Itoa3
import Derived.Shelf.SlSortCmp.WholeK
import Derived.Laws.EntriesVeiled
import Derived.Laws.CopyOwn
import Derived.RegionTactic
import Derived.Test.YtdgjplfcpcphoaaGreatDoorZz
import Derived.Test.YtdgjplfcpcphoaaGreatDoorPkV3
import Derived.Test.YtdgjplfcpcphoaaGreatDoorPkV4
import Derived.Test.YtdgjplfcpcphoaaGreatDoorPkV15
import Derived.Test.YtdgjplfcpcphoaaGreatDoorPkV5
import Derived.Test.YtdgjplfcpcphoaaGreatDoorPkV1
import Derived.Test.YtdgjplfcpcphoaaGreatDoorPkV2
import Derived.Test.YtdgjplfcpcphoaaGreatDoorPkV10
import Derived.Test.YtdgjplfcpcphoaaGreatDoorPkV24
import Derived.Test.YtdgjplfcpcphoaaGreatDoorPkV14
import Derived.Test.YtdgjplfcpcphoaaGreatDoorPkV20
import Derived.Test.YtdgjplfcpcphoaaGreatDoorPkV9
import Derived.Test.YtdgjplfcpcphoaaGreatDoorPkV6
import Derived.Test.YtdgjplfcpcphoaaGreatDoorPkV11
import Derived.Test.YtdgjplfcpcphoaaGreatDoorPkV26
import Derived.Test.YtdgjplfcpcphoaaGreatDoorPkV7
import Derived.Test.YtdgjplfcpcphoaaGreatDoorPkV8
import Derived.Test.YtdgjplfcpcphoaaGreatDoorPkV13
import Derived.Test.YtdgjplfcpcphoaaGreatDoorPkV12
set_option maxRecDepth 100000
set_option maxHeartbeats 16000000
namespace Cl
def eZ (s:ByteArray):Table:=qL s.data.toList s.size ++ [⟨true,[]⟩]
theorem Bn (s:ByteArray):(eZ s).length=s.size+1:=by simp[eZ,kH]
theorem yz {s:ByteArray} (h:s.size≤40):Lane 40 (tabC (eZ s)):=by
 unfold eZ;have hl:=kH s.data.toList s.size;refine Kz (by rw[List.length_append,hl,List.length_singleton];omega) fun i hi=>?_;have hi2:=hi;rw[List.length_append,hl,List.length_singleton] at hi2;by_cases c:i<s.size
 ·refine .inr ⟨⟨(s.data.toList.getD i 0).toNat,(s.data.toList.getD i 0).toNat,((i+1:Nat):Int)⟩,?_,rfl,by rw[List.length_append,hl,List.length_singleton];omega⟩;rw[List.getElem_append_left (by rw[hl];exact c)];simp[qL]
 ·refine .inl ?_;rw[List.getElem_append_right (by rw[hl];omega)];simp
def mD (c:St):List Table:=c.2.map (·.1) ++ c.1.map fun f=>eZ f.1.1
theorem Li {c:St} (hs:∀k∈c.2,Canon k.1∧k.1≠[]) (h1:c.1.length≤6) (h2:c.2.length≤6) (h3:∀f∈c.1,f.1.1.size≤40) (h4:∀k∈c.2,fZ k.1) {l:List (List Int)} (hn:l.Nodup) (hl:∀v∈l,gL ((mD c).map tabC) v):l.length≤1400000000:=by
 obtain⟨p1,p2⟩:=Iq h2 h4;have e:(mD c).map tabC=(c.2.map fun k:Kl=>tabC k.1) ++ c.1.map fun f:Fd=>tabC (eZ f.1.1):=by rw[mD,List.map_append,List.map_map,List.map_map];rfl
 rw[e] at hl;have h:=vG (k:=40) (fun x hx=>by
  obtain⟨k,hk,rfl⟩:=List.mem_map.1 hx;exact wX (hs k hk).1 (hs k hk).2) (fun x hx=>by
  obtain⟨f,hf,rfl⟩:=List.mem_map.1 hx;exact yz (h3 f hf)) hn hl
 exact Nat.le_trans h (sW p1 p2 (by rw[List.length_map];exact h1))
theorem EJ (s:ByteArray):eZ s=mY s.data.toList:=by
 unfold eZ qL mY;simp
theorem vg (s:ByteArray):mP (fun w=>s.data.toList==w) (eZ s):=by
 rw[EJ];refine (Mx s.data.toList).congr fun w=>?_;rw[Bool.eq_iff_iff,decide_eq_true_iff,beq_iff_eq];exact eq_comm
theorem u7 (s:ByteArray):eZ s≠[]:=by simp[eZ]
theorem yT (c:St):GR c (c.1.map fun f=>eZ f.1.1):=
 ⟨by rw[List.length_map],fun i h1 h2=>by
  rw[List.getElem_map];exact⟨vg _,u7 _⟩⟩
theorem BD {c:St} (h:∀k∈c.2,Canon k.1∧k.1≠[]):qc ((mD c).map tabC)↔bX c:=
 (H9 h (yT c)).trans ⟨fun k=>(iG c).2 ⟨h,k⟩,fun k=>((iG c).1 k).2⟩
theorem Ih {c:St} (h:∀k∈c.2,Canon k.1∧k.1≠[]):∀T∈mD c,Canon T∧T≠[]:=fun T hT=>by
 rcases List.mem_append.1 hT with hT | hT
 ·obtain⟨k,hk,rfl⟩:=List.mem_map.1 hT;exact h k hk
 ·obtain⟨f,hf,rfl⟩:=List.mem_map.1 hT;exact⟨(vg _).canon,u7 _⟩
end Cl
