/- Lemmas for the proofs of chapter 11. -/
import Derived.Test.YtajbfioncdnkcaaGreatDoorProg
import Derived.BigQuiet
import Derived.Deep.Cut
import Derived.Deep.QuietTactic
import Derived.Laws.StructEq
import Derived.Lib.AppendStr
import Derived.Lib.Builder
import Derived.Lib.Hide
import Derived.Lib.ItoaLen
import Derived.Maps.OwnOps
import Derived.Maps.OwnSet
import Derived.OrdersHeld
import Derived.Outline
import Derived.StillTailTactics
import Derived.StringKeys
import Derived.WalkKit
import Derived.WalkLawsBesides
import Derived.WalkSpells
import Derived.Deep.RegionHeld
import Derived.RangeFuncNested
import Derived.RangeFuncBound
import Derived.RangeFuncCalls
import Derived.RangeFuncLeaves
import Derived.OwnWalkIn
import Derived.TacticsInMore
import Derived.LoopNIn
import Derived.LoopIn
import Derived.Shelf.Strings.Builder1
import Derived.Shelf.Small.Wraps
import Derived.Shelf.LaysM
import Derived.Shelf.Strconv.Itoa3
import Derived.Shelf.Spec.SlicesGrow
import Derived.Shelf.SlSortCmp.WholeK
import Derived.RegionTactic
import Derived.ChangeAlike
import Derived.Laws.BytesArg
import Derived.Laws.EntriesVeiled
import Derived.Laws.CopyOwn
import Derived.Test.YtajbfioncdnkcaaGreatDoorZz
import Derived.Test.YtajbfioncdnkcaaGreatDoorPkM3
import Derived.Test.YtajbfioncdnkcaaGreatDoorPkM4
import Derived.Test.YtajbfioncdnkcaaGreatDoorPkM1
import Derived.Test.YtajbfioncdnkcaaGreatDoorPkM2
import Derived.Test.YtajbfioncdnkcaaGreatDoorPkM8
import Derived.Test.YtajbfioncdnkcaaGreatDoorPkM7
import Derived.Test.YtajbfioncdnkcaaGreatDoorPkM36
import Derived.Test.YtajbfioncdnkcaaGreatDoorPkM12
import Derived.Test.YtajbfioncdnkcaaGreatDoorPkM6
import Derived.Test.YtajbfioncdnkcaaGreatDoorPkM13
import Derived.Test.YtajbfioncdnkcaaGreatDoorPkM9
import Derived.Test.YtajbfioncdnkcaaGreatDoorPkM14
import Derived.Test.YtajbfioncdnkcaaGreatDoorPkM18
import Derived.Test.YtajbfioncdnkcaaGreatDoorPkM26
import Derived.Test.YtajbfioncdnkcaaGreatDoorPkM28
import Derived.Test.YtajbfioncdnkcaaGreatDoorPkM5
import Derived.Test.YtajbfioncdnkcaaGreatDoorPkM10
import Derived.Test.YtajbfioncdnkcaaGreatDoorPkM15
import Derived.Test.YtajbfioncdnkcaaGreatDoorPkM11
import Derived.Test.YtajbfioncdnkcaaGreatDoorPkM16
import Derived.Test.YtajbfioncdnkcaaGreatDoorPkM37
import Derived.Test.YtajbfioncdnkcaaGreatDoorPkM25
import Derived.Test.YtajbfioncdnkcaaGreatDoorPkM24
set_option maxRecDepth 100000
set_option maxHeartbeats 16000000
namespace Cl
open Go Go.RowKit Go.Proofs
theorem uk {w0 w:World} {m mk:Mem} {L:List Item} {vi vf vt:Value} {s:RS} {g:Nat} {t:TypeId} (h:Own w0 m w mk (.obj g t #[.bool s.nul,.bool s.fal,.bool s.tru,vi,vf,vt]::L)) (hs:ScAt mk vi vf vt s) :
 ∃mk',mk.le mk'∧ScB mk' g s vi vf vt∧Own w0 m w mk' L:=
 ⟨_,Mem.jw h.iC,⟨Mem.cz h.obj rfl,Mem.cz h.obj rfl,Mem.cz h.obj rfl,Mem.cz h.obj rfl,Mem.cz h.obj rfl,Mem.cz h.obj rfl,hs.le (Mem.jw h.iC)⟩,h.ib⟩
def Pm (mk:Mem) (g:Nat) (p:El→Prop) (n t:Nat):Prop:=∃s vi vf vt,ScB mk g s vi vf vt∧ScIs p s∧ScLe s n t
end Cl
