/- Lemmas for the proofs of chapter 11. -/
import Derived.Test.YtajbfioncdnkcaaGreatDoorProg
import Derived.BigQuiet
import Derived.Deep.Cut
import Derived.Deep.QuietTactic
import Derived.Laws.StructEq
import Derived.Lib.AppendStr
import Derived.Lib.Builder
import Derived.Lib.Hide
import Derived.Lib.ItoaLen
import Derived.Maps.OwnOps
import Derived.Maps.OwnSet
import Derived.OrdersHeld
import Derived.Outline
import Derived.StillTailTactics
import Derived.StringKeys
import Derived.WalkKit
import Derived.WalkLawsBesides
import Derived.WalkSpells
import Derived.Deep.RegionHeld
import Derived.RangeFuncNested
import Derived.RangeFuncBound
import Derived.RangeFuncCalls
import Derived.RangeFuncLeaves
import Derived.OwnWalkIn
import Derived.TacticsInMore
import Derived.LoopNIn
import Derived.LoopIn
import Derived.Shelf.Strings.Builder1
import Derived.Shelf.Small.Wraps
import Derived.Shelf.LaysM
import Derived.Shelf.Strconv.Itoa3
import Derived.Shelf.SlSortCmp.WholeK
import Derived.Laws.EntriesVeiled
import Derived.Laws.CopyOwn
import Derived.RegionTactic
import Derived.Test.YtajbfioncdnkcaaGreatDoorZz
import Derived.Test.YtajbfioncdnkcaaGreatDoorPkM3
import Derived.Test.YtajbfioncdnkcaaGreatDoorPkM4
import Derived.Test.YtajbfioncdnkcaaGreatDoorPkM32
import Derived.Test.YtajbfioncdnkcaaGreatDoorPkM1
import Derived.Test.YtajbfioncdnkcaaGreatDoorPkM34
import Derived.Test.YtajbfioncdnkcaaGreatDoorPkM2
import Derived.Test.YtajbfioncdnkcaaGreatDoorPkM8
import Derived.Test.YtajbfioncdnkcaaGreatDoorPkM19
import Derived.Test.YtajbfioncdnkcaaGreatDoorPkM27
import Derived.Test.YtajbfioncdnkcaaGreatDoorPkM41
import Derived.Test.YtajbfioncdnkcaaGreatDoorPkM7
import Derived.Test.YtajbfioncdnkcaaGreatDoorPkM33
import Derived.Test.YtajbfioncdnkcaaGreatDoorPkM6
import Derived.Test.YtajbfioncdnkcaaGreatDoorPkM20
import Derived.Test.YtajbfioncdnkcaaGreatDoorPkM9
import Derived.Test.YtajbfioncdnkcaaGreatDoorPkM35
import Derived.Test.YtajbfioncdnkcaaGreatDoorPkM5
import Derived.Test.YtajbfioncdnkcaaGreatDoorPkM42
import Derived.Test.YtajbfioncdnkcaaGreatDoorPkM10
import Derived.Test.YtajbfioncdnkcaaGreatDoorPkM11
import Derived.Test.YtajbfioncdnkcaaGreatDoorPkM43
import Derived.Test.YtajbfioncdnkcaaGreatDoorPkM21
import Derived.Test.YtajbfioncdnkcaaGreatDoorPkM16
set_option maxRecDepth 100000
set_option maxHeartbeats 16000000
namespace Cl
open Go Go.RowKit Go.Proofs
theorem Kt (v0:Value) (l:Table) (m:Mem) (w:World) (hm:m.inn w) (_:TabM m) (hl:aI m v0 l) (hlen:l.length≤1000000) :
 Calls Tryz.prog 67 #[.agg #[v0]] w fun e w'=>e=.returned (.bool (tf (Canon l)))∧Below w.heap.size w w':=xh v0 l m w hm hl hlen
theorem wS (vi vf vt:Value) (s:RS) (m:Mem) (w:World) (hm:m.inn w) (htab:TabM m) (hs:ScAt m vi vf vt s) (hl:ScLe s 100000 1000000) :
 Calls Tryz.prog 20 #[s.val vi vf vt] w fun e w'=>e=.returned (.bool (tf s.gK))∧Below w.heap.size w w':=by
 have hO:=(Own.start hm).al #[.bool s.nul,.bool s.fal,.bool s.tru,vi,vf,vt] 29;have HN:=zh (Ez _ _ s.i s.f m _ hO.inn hs.nums hl.i hl.f);have HT:=zh (fun w' (h:m.inn w')=>Kt _ s.t m w' h htab hs.t hl.t);have HE:=zh (RS.DZ s);obtain⟨a1,b1,a2,b2,a3,b3,rfl,rfl,rfl⟩:=hs.spell;unfold RS.val;have HO:=zh hO;clear hO hs;generalize s.nul=bn at *
 generalize s.fal=bf at *
 generalize s.tru=bt at *
 refine aj fun R hR=>?_
 go_enter Tryz.func20,Tryz.ntmps20
 go_wp2_with fail
 refine HN.out.mono ?_;rintro e w1 ⟨rfl,hb1⟩;have hO:=HO.out.move hb1;clear HN HO hb1;by_cases h1:s.i=(mkN s.i s.f).i∧s.f=(mkN s.i s.f).rf
 ·rw[aN h1];have q5:=hO.obj.cell (i:=5) rfl;have q6:=hO.obj.lt;have HO:=zh hO;have HE2:=zh (show s.gK↔Canon s.t from HE.out.trans ⟨fun h=>h.2,fun h=>⟨h1,h⟩⟩);clear hO HE h1
  go_wp2_with fail
  refine (HT.out _ HO.out.inn).mono ?_;rintro e w2 ⟨rfl,hb2⟩;have HB:=zh (HO.out.move hb2).below;clear HO HT hb2 q5 q6;generalize hc:tf (Canon s.t)=tc at *
  have HC:=zh (show tc=tf s.gK by rw[← hc];exact (fT HE2.out).symm);clear hc;go_wp2;exact hR.out _ _ ⟨aQ (by rw[← HC.out]),HB.out⟩
 ·rw[aL h1];have HB:=zh hO.below;have HE2:=zh (show ¬ s.gK from fun h=>h1 (HE.out.1 h).1);clear hO HE h1 HT;go_wp2;exact hR.out _ _ ⟨aQ (by rw[aL HE2.out]),HB.out⟩
end Cl
