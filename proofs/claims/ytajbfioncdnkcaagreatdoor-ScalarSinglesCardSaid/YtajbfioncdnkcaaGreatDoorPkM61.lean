/- Lemmas for the proofs of chapter 11. -/
import Derived.Test.YtajbfioncdnkcaaGreatDoorProg
import Derived.BigQuiet
import Derived.Deep.Cut
import Derived.Deep.QuietTactic
import Derived.Laws.StructEq
import Derived.Lib.AppendStr
import Derived.Lib.Builder
import Derived.Lib.Hide
import Derived.Lib.ItoaLen
import Derived.Maps.OwnOps
import Derived.Maps.OwnSet
import Derived.OrdersHeld
import Derived.Outline
import Derived.StillTailTactics
import Derived.StringKeys
import Derived.WalkKit
import Derived.WalkLawsBesides
import Derived.WalkSpells
import Derived.Deep.RegionHeld
import Derived.Shelf.Strings.Builder1
import Derived.Shelf.Small.Wraps
import Derived.Shelf.LaysM
import Derived.Shelf.Strconv.Itoa3
import Derived.Laws.EntriesVeiled
import Derived.RegionTactic
import Derived.Test.YtajbfioncdnkcaaGreatDoorZz
import Derived.Test.YtajbfioncdnkcaaGreatDoorPkM3
import Derived.Test.YtajbfioncdnkcaaGreatDoorPkM1
import Derived.Test.YtajbfioncdnkcaaGreatDoorPkM2
import Derived.Test.YtajbfioncdnkcaaGreatDoorPkM19
import Derived.Test.YtajbfioncdnkcaaGreatDoorPkM27
import Derived.Test.YtajbfioncdnkcaaGreatDoorPkM29
import Derived.Test.YtajbfioncdnkcaaGreatDoorPkM39
import Derived.Test.YtajbfioncdnkcaaGreatDoorPkM8
import Derived.Test.YtajbfioncdnkcaaGreatDoorPkM14
import Derived.Test.YtajbfioncdnkcaaGreatDoorPkM5
import Derived.Test.YtajbfioncdnkcaaGreatDoorPkM11
set_option maxRecDepth 100000
set_option maxHeartbeats 16000000
namespace Cl
open Go Go.RowKit Go.Proofs
theorem Cc {d:Dt} {z:List UInt8} (h:dtEl d=some (.str z)):d.kind=4∧d.str.data.toList=z:=by
 have hc:chkD d 1=0:=Classical.byContradiction fun k=>by rw[(CQ k).1] at h;cases h
 cases uD hc with
 | nul hk h'=>rw[h'] at h;cases h
 | fal hk hn h'=>rw[h'] at h;cases h
 | tru hk hn h'=>rw[h'] at h;cases h
 | num hk hv h'=>rw[h'] at h;cases h
 | str hk h'=>rw[h'] at h;cases h;exact⟨hk,rfl⟩
 | parts hk h'=>rw[h'] at h;cases h
end Cl
