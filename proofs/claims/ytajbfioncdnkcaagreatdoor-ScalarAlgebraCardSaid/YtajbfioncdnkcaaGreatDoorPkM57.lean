/- Lemmas for the proofs of chapter 11. -/
import Derived.Test.YtajbfioncdnkcaaGreatDoorProg
import Derived.BigQuiet
import Derived.Deep.Cut
import Derived.Deep.QuietTactic
import Derived.Laws.StructEq
import Derived.Lib.AppendStr
import Derived.Lib.Builder
import Derived.Lib.Hide
import Derived.Lib.ItoaLen
import Derived.Maps.OwnOps
import Derived.Maps.OwnSet
import Derived.OrdersHeld
import Derived.Outline
import Derived.StillTailTactics
import Derived.StringKeys
import Derived.WalkKit
import Derived.WalkLawsBesides
import Derived.WalkSpells
import Derived.Deep.RegionHeld
import Derived.RangeFuncNested
import Derived.RangeFuncBound
import Derived.RangeFuncCalls
import Derived.RangeFuncLeaves
import Derived.OwnWalkIn
import Derived.TacticsInMore
import Derived.LoopNIn
import Derived.LoopIn
import Derived.Shelf.Strings.Builder1
import Derived.Shelf.Small.Wraps
import Derived.Shelf.LaysM
import Derived.Shelf.Strconv.Itoa3
import Derived.Shelf.SlSortCmp.WholeK
import Derived.Laws.EntriesVeiled
import Derived.RegionTactic
import Derived.Laws.CopyOwn
import Derived.Shelf.Spec.SlicesGrow
import Derived.ChangeAlike
import Derived.Laws.BytesArg
import Derived.Test.YtajbfioncdnkcaaGreatDoorZz
import Derived.Test.YtajbfioncdnkcaaGreatDoorPkM3
import Derived.Test.YtajbfioncdnkcaaGreatDoorPkM4
import Derived.Test.YtajbfioncdnkcaaGreatDoorPkM1
import Derived.Test.YtajbfioncdnkcaaGreatDoorPkM2
import Derived.Test.YtajbfioncdnkcaaGreatDoorPkM8
import Derived.Test.YtajbfioncdnkcaaGreatDoorPkM7
import Derived.Test.YtajbfioncdnkcaaGreatDoorPkM36
import Derived.Test.YtajbfioncdnkcaaGreatDoorPkM6
import Derived.Test.YtajbfioncdnkcaaGreatDoorPkM9
import Derived.Test.YtajbfioncdnkcaaGreatDoorPkM18
import Derived.Test.YtajbfioncdnkcaaGreatDoorPkM26
import Derived.Test.YtajbfioncdnkcaaGreatDoorPkM5
import Derived.Test.YtajbfioncdnkcaaGreatDoorPkM10
import Derived.Test.YtajbfioncdnkcaaGreatDoorPkM11
import Derived.Test.YtajbfioncdnkcaaGreatDoorPkM16
import Derived.Test.YtajbfioncdnkcaaGreatDoorPkM25
import Derived.Test.YtajbfioncdnkcaaGreatDoorPkM24
import Derived.Test.YtajbfioncdnkcaaGreatDoorPkM12
import Derived.Test.YtajbfioncdnkcaaGreatDoorPkM13
import Derived.Test.YtajbfioncdnkcaaGreatDoorPkM14
import Derived.Test.YtajbfioncdnkcaaGreatDoorPkM28
import Derived.Test.YtajbfioncdnkcaaGreatDoorPkM15
import Derived.Test.YtajbfioncdnkcaaGreatDoorPkM37
set_option maxRecDepth 100000
set_option maxHeartbeats 16000000
namespace Cl
open Go Go.RowKit Go.Proofs
theorem MN {w0 w:World} {m mk:Mem} {L:List Item} {g:Nat} {t:TypeId} {vi vf vt ui uf ut:Value} {A B:RS} (h:Own w0 m w mk (.obj g t #[.bool A.nul,.bool A.fal,.bool A.tru,vi,vf,vt,.bool B.nul,.bool B.fal,.bool B.tru,ui,uf,ut]::L)) (hA:ScAt mk vi vf vt A) (hB:ScAt mk ui uf ut B) :
 QA (mk.add w g) (.slice (some ⟨g,0,none⟩) 2 2) [A,B]:=by
 have hle:=Mem.jw (w:=w) h.iC;have c {i v} (hi:_=some v):=Mem.cz (m:=mk) h.obj (i:=i) hi;refine ⟨_,2,rfl,Nat.le_refl _,by simp[maxLen],fun _=>⟨g,0,rfl,fun i hi=>?_⟩⟩;rcases (show i=0∨i=1 by simp at hi;omega) with rfl | rfl
 ·exact⟨vi,vf,vt,c (i:=0) rfl,c (i:=1) rfl,c (i:=2) rfl,c (i:=3) rfl,c (i:=4) rfl,c (i:=5) rfl,hA.le hle⟩
 ·exact⟨ui,uf,ut,c (i:=6) rfl,c (i:=7) rfl,c (i:=8) rfl,c (i:=9) rfl,c (i:=10) rfl,c (i:=11) rfl,hB.le hle⟩
theorem tY {A B:RS} (h:∀s∈[A,B],gZ s):ScLe A 8 8∧ScLe B 8 8:=⟨qM (h A zS),qM (h B zS)⟩
end Cl
