/- Lemmas for the proofs of chapter 11. -/
import Derived.Test.YtajbfioncdnkcaaGreatDoorProg
import Derived.BigQuiet
import Derived.Deep.Cut
import Derived.Deep.QuietTactic
import Derived.Laws.StructEq
import Derived.Lib.AppendStr
import Derived.Lib.Builder
import Derived.Lib.Hide
import Derived.Lib.ItoaLen
import Derived.Maps.OwnOps
import Derived.Maps.OwnSet
import Derived.OrdersHeld
import Derived.Outline
import Derived.StillTailTactics
import Derived.StringKeys
import Derived.WalkKit
import Derived.WalkLawsBesides
import Derived.WalkSpells
import Derived.Deep.RegionHeld
import Derived.RangeFuncNested
import Derived.RangeFuncBound
import Derived.RangeFuncCalls
import Derived.RangeFuncLeaves
import Derived.OwnWalkIn
import Derived.TacticsInMore
import Derived.LoopNIn
import Derived.LoopIn
import Derived.Shelf.Strings.Builder1
import Derived.Shelf.Small.Wraps
import Derived.Shelf.LaysM
import Derived.Shelf.Strconv.Itoa3
import Derived.Shelf.SlSortCmp.WholeK
import Derived.Laws.EntriesVeiled
import Derived.Laws.CopyOwn
import Derived.RegionTactic
import Derived.Test.YtajbfioncdnkcaaGreatDoorZz
import Derived.Test.YtajbfioncdnkcaaGreatDoorPkM3
import Derived.Test.YtajbfioncdnkcaaGreatDoorPkM4
import Derived.Test.YtajbfioncdnkcaaGreatDoorPkM1
import Derived.Test.YtajbfioncdnkcaaGreatDoorPkM2
import Derived.Test.YtajbfioncdnkcaaGreatDoorPkM8
import Derived.Test.YtajbfioncdnkcaaGreatDoorPkM7
import Derived.Test.YtajbfioncdnkcaaGreatDoorPkM6
import Derived.Test.YtajbfioncdnkcaaGreatDoorPkM9
import Derived.Test.YtajbfioncdnkcaaGreatDoorPkM5
import Derived.Test.YtajbfioncdnkcaaGreatDoorPkM10
import Derived.Test.YtajbfioncdnkcaaGreatDoorPkM11
import Derived.Test.YtajbfioncdnkcaaGreatDoorPkM16
import Derived.Test.YtajbfioncdnkcaaGreatDoorPkM24
set_option maxRecDepth 100000
set_option maxHeartbeats 16000000
namespace Cl
open Go Go.RowKit Go.Proofs
def gZ (s:RS):Prop:=s.i.length≤8∧s.f.length≤8∧Gc s.t
theorem Eu (vi vf vt:Value) (s:RS) (m:Mem) (w:World) (hm:m.inn w) (hs:ScAt m vi vf vt s) :
 Calls Tryz.prog 49 #[s.val vi vf vt] w fun e w'=>e=.returned (.bool (tf (gZ s)))∧Below w.heap.size w w':=by
 have hO:=(Own.start hm).al #[.bool s.nul,.bool s.fal,.bool s.tru,vi,vf,vt] 29;have HT:=zh (Pg _ s.t m _ hO.inn hs.t);have HE:=zh (show gZ s↔s.i.length≤8∧s.f.length≤8∧Gc s.t from Iff.rfl);obtain⟨a1,b1,a2,b2,a3,b3,rfl,rfl,rfl⟩:=hs.spell;unfold RS.val;have HO:=zh hO;clear hO hs;refine aj fun R hR=>?_;by_cases h1:s.i.length≤8
 ·have e1:decide ((s.i.length:Int)≤8)=true:=decide_eq_true zo;by_cases h2:s.f.length≤8
  ·have e2:decide ((s.f.length:Int)≤8)=true:=decide_eq_true zo;have HE3:=zh (show gZ s↔Gc s.t from HE.out.trans ⟨fun h=>h.2.2,fun h=>⟨h1,h2,h⟩⟩);clear h1 h2 HE;generalize s.i.length=li at *
   generalize s.f.length=lf at *
   go_enter Tryz.func49,Tryz.ntmps49
   go_wp2_with fail
   refine HT.out.mono ?_;rintro e w2 ⟨rfl,hb2⟩;have HB:=zh (HO.out.move hb2).below;clear HO HT hb2;generalize hc:tf (Gc s.t)=tc at *
   have HC:=zh (show tc=tf (gZ s) by rw[← hc];exact (fT HE3.out).symm);clear hc;go_wp2;exact hR.out _ _ ⟨aQ (by rw[← HC.out]),HB.out⟩
  ·have e2:decide ((s.f.length:Int)≤8)=false:=decide_eq_false zo;have HE3:=zh (show ¬ gZ s from fun h=>h2 (HE.out.1 h).2.1);have HB:=zh HO.out.below;clear h1 h2 HE HT HO;generalize s.i.length=li at *
   generalize s.f.length=lf at *
   go_enter Tryz.func49,Tryz.ntmps49
   go_wp2;exact hR.out _ _ ⟨aQ (by rw[aL HE3.out]),HB.out⟩
 ·have e1:decide ((s.i.length:Int)≤8)=false:=decide_eq_false zo;have HE3:=zh (show ¬ gZ s from fun h=>h1 (HE.out.1 h).1);have HB:=zh HO.out.below;clear h1 HE HT HO;generalize s.i.length=li at *
  generalize s.f.length=lf at *
  go_enter Tryz.func49,Tryz.ntmps49
  go_wp2;exact hR.out _ _ ⟨aQ (by rw[aL HE3.out]),HB.out⟩
end Cl
