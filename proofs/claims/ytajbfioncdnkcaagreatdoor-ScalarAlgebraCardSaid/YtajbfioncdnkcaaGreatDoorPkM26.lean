/- Lemmas for the proofs of chapter 11. -/
import Derived.Test.YtajbfioncdnkcaaGreatDoorProg
import Derived.BigQuiet
import Derived.Deep.Cut
import Derived.Deep.QuietTactic
import Derived.Laws.StructEq
import Derived.Lib.AppendStr
import Derived.Lib.Builder
import Derived.Lib.Hide
import Derived.Lib.ItoaLen
import Derived.Maps.OwnOps
import Derived.Maps.OwnSet
import Derived.OrdersHeld
import Derived.Outline
import Derived.StillTailTactics
import Derived.StringKeys
import Derived.WalkKit
import Derived.WalkLawsBesides
import Derived.WalkSpells
import Derived.Deep.RegionHeld
import Derived.RangeFuncNested
import Derived.RangeFuncBound
import Derived.RangeFuncCalls
import Derived.RangeFuncLeaves
import Derived.OwnWalkIn
import Derived.TacticsInMore
import Derived.LoopNIn
import Derived.LoopIn
import Derived.Shelf.Strings.Builder1
import Derived.Shelf.Small.Wraps
import Derived.Shelf.LaysM
import Derived.Shelf.Strconv.Itoa3
import Derived.Shelf.SlSortCmp.WholeK
import Derived.Laws.EntriesVeiled
import Derived.RegionTactic
import Derived.Laws.CopyOwn
import Derived.Shelf.Spec.SlicesGrow
import Derived.ChangeAlike
import Derived.Laws.BytesArg
import Derived.Test.YtajbfioncdnkcaaGreatDoorZz
import Derived.Test.YtajbfioncdnkcaaGreatDoorPkM3
import Derived.Test.YtajbfioncdnkcaaGreatDoorPkM4
import Derived.Test.YtajbfioncdnkcaaGreatDoorPkM1
import Derived.Test.YtajbfioncdnkcaaGreatDoorPkM2
import Derived.Test.YtajbfioncdnkcaaGreatDoorPkM8
import Derived.Test.YtajbfioncdnkcaaGreatDoorPkM7
import Derived.Test.YtajbfioncdnkcaaGreatDoorPkM6
import Derived.Test.YtajbfioncdnkcaaGreatDoorPkM9
import Derived.Test.YtajbfioncdnkcaaGreatDoorPkM18
import Derived.Test.YtajbfioncdnkcaaGreatDoorPkM5
import Derived.Test.YtajbfioncdnkcaaGreatDoorPkM10
import Derived.Test.YtajbfioncdnkcaaGreatDoorPkM11
import Derived.Test.YtajbfioncdnkcaaGreatDoorPkM16
import Derived.Test.YtajbfioncdnkcaaGreatDoorPkM25
import Derived.Test.YtajbfioncdnkcaaGreatDoorPkM24
import Derived.Test.YtajbfioncdnkcaaGreatDoorPkM12
import Derived.Test.YtajbfioncdnkcaaGreatDoorPkM13
import Derived.Test.YtajbfioncdnkcaaGreatDoorPkM14
import Derived.Test.YtajbfioncdnkcaaGreatDoorPkM15
set_option maxRecDepth 100000
set_option maxHeartbeats 16000000
namespace Cl
open Go Go.RowKit Go.Proofs
structure ScC (m:Mem) (b o:Nat) (s:RS) (vi vf vt:Value):Prop where
 c0:m.cell b o=some (.bool s.nul)
 c1:m.cell b (o+1)=some (.bool s.fal)
 c2:m.cell b (o+2)=some (.bool s.tru)
 c3:m.cell b (o+3)=some vi
 c4:m.cell b (o+4)=some vf
 c5:m.cell b (o+5)=some vt
 at':ScAt m vi vf vt s
def QA (m:Mem) (v:Value) (l:List RS):Prop:=Mem.slice (fun b o s=>∃vi vf vt,ScC m b o s vi vf vt) 6 v l
theorem jc (v:Value) (l:List RS) (m:Mem) (w:World) (hm:m.inn w) (hl:QA m v l) :
 Calls Tryz.prog 12 #[v] w fun e w'=>e=.returned (.bool (tf (∀s∈l,gZ s)))∧Below w.heap.size w w':=by
 obtain⟨a,c,rfl,h1,h2,h3⟩:=hl;unfold maxLen at h2;have HO:=zh (Own.start hm);have H3:=zh h3;clear h3;refine aj fun R hR=>?_
 go_enter Tryz.func12,Tryz.ntmps12
 go_wp2;refine ay [5,6,7] (fun n vs wr=>∃k:Nat,k≤l.length∧n=l.length - k∧vs=[.slice a l.length c,.int .i64 l.length,.int .i64 k]∧(∀s∈l.take k,gZ s)∧Own w m wr m []) ?_ ?_
 ·exact⟨_,0,Nat.zero_le _,rfl,rfl,zS,HO.out⟩
 rintro X z n vs wr hX - ⟨k,hk,rfl,rfl,hrel,hO⟩;have Hrel:=zh hrel;clear hrel HO;simp[litL,lk];by_cases hlt:k<l.length
 ·obtain⟨b,off,rfl,h4⟩:=H3.out (by intro h;simp[h] at hlt);obtain⟨vi,vf,vt,hg⟩:=h4 k hlt;have r0:=Mem.av hO.inn hg.c0;have r1:=Mem.av hO.inn hg.c1;have r2:=Mem.av hO.inn hg.c2;have r3:=Mem.av hO.inn hg.c3;have r4:=Mem.av hO.inn hg.c4;have r5:=Mem.av hO.inn hg.c5;have rl:=Mem.ak hO.inn hg.c0;have HD:=zh (zi (fun (h:gZ l[k]) s (hs:s∈l.take (k+1))=>show gZ s by
   rw[List.take_succ_eq_append_getElem hlt] at hs;rcases List.mem_append.1 hs with hs | hs
   ·exact Hrel.out s hs
   ·rw[List.mem_singleton.1 hs];exact h) (fun (h:¬ gZ l[k]) (hs:∀s∈l,gZ s)=>h (hs _ (List.getElem_mem hlt))))
  have hat:=hg.at';obtain⟨a1,b1,a2,b2,a3,b3,rfl,rfl,rfl⟩:=hat.spell;have hO2:=hO.al #[.bool (l[k]).nul,.bool (l[k]).fal,.bool (l[k]).tru,.slice a1 (l[k]).i.length b1,.slice a2 (l[k]).f.length b2,.slice a3 (l[k]).t.length b3] 29;have HS:=zh (Eu _ _ _ l[k] m _ hO2.inn hat);unfold RS.val at HS;clear h4 hg hat;generalize l[k]=q at *
  obtain⟨q0,q1,q2,q3,q4,q5⟩:=hO2.obj.cs6;have q6:=hO2.obj.lt;have HO2:=zh hO2.tail;clear hO hO2
  go_wp2_with fail
  refine HS.out.mono ?_;rintro e w2 ⟨rfl,hb2⟩;have HO3:=zh (HO2.out.move hb2);clear HS HO2 hb2;by_cases hs:gZ q
  ·rw[aN hs];have HN:=zh (HD.out.1 hs);clear hs HD;go_wp2;exact hX.out _ _ _ zo rfl ⟨k+1,zo,rfl,rfl,HN.out,HO3.out⟩
  ·rw[aL hs];have HN:=zh (HD.out.2 hs);clear hs HD;go_wp2;exact hR.out _ _ ⟨aQ (by rw[aL HN.out]),HO3.out.below⟩
 ·obtain rfl:k=l.length:=zo;have Hk:=zh hO.below;have HN:=zh (show ∀s∈l,gZ s by have:=Hrel.out;rwa [List.take_length] at this);clear hO;go_wp2;exact hR.out _ _ ⟨aQ (by rw[aN HN.out]),Hk.out⟩
theorem qM {s:RS} (h:gZ s):ScLe s 8 8:=⟨h.1,h.2.1,h.2.2.2⟩
end Cl
