/- Lemmas for the proofs of chapter 11. -/
import Derived.Test.YtajbfioncdnkcaaGreatDoorProg
import Derived.BigQuiet
import Derived.Deep.Cut
import Derived.Deep.QuietTactic
import Derived.Laws.StructEq
import Derived.Lib.AppendStr
import Derived.Lib.Builder
import Derived.Lib.Hide
import Derived.Lib.ItoaLen
import Derived.Maps.OwnOps
import Derived.Maps.OwnSet
import Derived.OrdersHeld
import Derived.Outline
import Derived.StillTailTactics
import Derived.StringKeys
import Derived.WalkKit
import Derived.WalkLawsBesides
import Derived.WalkSpells
import Derived.Deep.RegionHeld
import Derived.RangeFuncNested
import Derived.RangeFuncBound
import Derived.RangeFuncCalls
import Derived.RangeFuncLeaves
import Derived.OwnWalkIn
import Derived.TacticsInMore
import Derived.LoopNIn
import Derived.LoopIn
import Derived.Shelf.Strings.Builder1
import Derived.Shelf.Small.Wraps
import Derived.Shelf.LaysM
import Derived.Shelf.Strconv.Itoa3
import Derived.Shelf.SlSortCmp.WholeK
import Derived.Laws.EntriesVeiled
import Derived.Laws.CopyOwn
import Derived.RegionTactic
import Derived.Test.YtajbfioncdnkcaaGreatDoorZz
import Derived.Test.YtajbfioncdnkcaaGreatDoorPkM3
import Derived.Test.YtajbfioncdnkcaaGreatDoorPkM4
import Derived.Test.YtajbfioncdnkcaaGreatDoorPkM1
import Derived.Test.YtajbfioncdnkcaaGreatDoorPkM2
import Derived.Test.YtajbfioncdnkcaaGreatDoorPkM8
import Derived.Test.YtajbfioncdnkcaaGreatDoorPkM19
import Derived.Test.YtajbfioncdnkcaaGreatDoorPkM7
import Derived.Test.YtajbfioncdnkcaaGreatDoorPkM6
import Derived.Test.YtajbfioncdnkcaaGreatDoorPkM20
import Derived.Test.YtajbfioncdnkcaaGreatDoorPkM9
import Derived.Test.YtajbfioncdnkcaaGreatDoorPkM5
import Derived.Test.YtajbfioncdnkcaaGreatDoorPkM10
import Derived.Test.YtajbfioncdnkcaaGreatDoorPkM11
import Derived.Test.YtajbfioncdnkcaaGreatDoorPkM21
import Derived.Test.YtajbfioncdnkcaaGreatDoorPkM16
set_option maxRecDepth 100000
set_option maxHeartbeats 16000000
namespace Cl
open Go Go.RowKit Go.Proofs
theorem dB (vi vf vt ui uf ut:Value) (a b:RS) (m:Mem) (w:World) (hm:m.inn w) (ha:ScAt m vi vf vt a) (hb:ScAt m ui uf ut b) :
 Calls Tryz.prog 21 #[a.val vi vf vt,b.val ui uf ut] w fun e w'=>e=.returned (.bool (tf (a=b)))∧Below w.heap.size w w':=by
 have hO:=((Own.start hm).al #[.bool a.nul,.bool a.fal,.bool a.tru,vi,vf,vt] 29).al #[.bool b.nul,.bool b.fal,.bool b.tru,ui,uf,ut] 29;simp only[df] at hO;have HN:=zh (yM _ _ _ _ a.i a.f b.i b.f m _ hO.inn ha.nums hb.nums);have HT:=zh (fun w' (h:m.inn w')=>yQ _ _ a.t b.t m w' h ha.t hb.t);have HE:=zh (RS.eq_iff a b);obtain⟨a1,b1,a2,b2,a3,b3,rfl,rfl,rfl⟩:=ha.spell;obtain⟨c1,d1,c2,d2,c3,d3,rfl,rfl,rfl⟩:=hb.spell;unfold RS.val;have HO:=zh hO;clear hO ha hb;refine aj fun R hR=>?_;by_cases h1:a.nul=b.nul
 ·by_cases h2:a.fal=b.fal
  ·by_cases h3:a.tru=b.tru
   ·have HE2:=zh (show a=b↔(a.i=b.i∧a.f=b.f)∧a.t=b.t from HE.out.trans ⟨fun h=>h.2.2.2,fun h=>⟨h1,h2,h3,h⟩⟩);have e1:(a.nul==b.nul)=true:=by simp[h1]
    have e2:(a.fal==b.fal)=true:=by simp[h2]
    have e3:(a.tru==b.tru)=true:=by simp[h3]
    clear h1 h2 h3 HE;generalize a.nul=an at *
    generalize b.nul=bn at *
    generalize a.fal=af at *
    generalize b.fal=bf at *
    generalize a.tru=at' at *
    generalize b.tru=bt at *
    go_enter Tryz.func21,Tryz.ntmps21
    go_wp2_with fail
    refine HN.out.mono ?_;rintro e w1 ⟨rfl,hb1⟩;have hO:=HO.out.move hb1;clear HN HO hb1;by_cases h4:a.i=b.i∧a.f=b.f
    ·rw[aN h4];have q5:=hO.obj.cell (i:=5) rfl;have q6:=hO.obj.lt;have p5:=hO.swap.obj.cell (i:=5) rfl;have p6:=hO.swap.obj.lt;have HO:=zh hO;have HE3:=zh (show a=b↔a.t=b.t from HE2.out.trans ⟨fun h=>h.2,fun h=>⟨h4,h⟩⟩);clear hO HE2 h4
     go_wp2_with fail
     refine (HT.out _ HO.out.inn).mono ?_;rintro e w2 ⟨rfl,hb2⟩;have HB:=zh (HO.out.move hb2).below;clear HO HT hb2 q5 q6 p5 p6;generalize hc:tf (a.t=b.t)=tc at *
     have HC:=zh (show tc=tf (a=b) by rw[← hc];exact (fT HE3.out).symm);clear hc;go_wp2;exact hR.out _ _ ⟨aQ (by rw[← HC.out]),HB.out⟩
    ·rw[aL h4];have HB:=zh hO.below;have HE3:=zh (show ¬ a=b from fun h=>h4 (HE2.out.1 h).1);clear hO HE2 h4 HT;go_wp2;exact hR.out _ _ ⟨aQ (by rw[aL HE3.out]),HB.out⟩
   ·have HE3:=zh (show ¬ a=b from fun h=>h3 (HE.out.1 h).2.2.1);have HB:=zh HO.out.below;have e1:(a.nul==b.nul)=true:=by simp[h1]
    have e2:(a.fal==b.fal)=true:=by simp[h2]
    have e3:(a.tru==b.tru)=false:=by simp[h3]
    clear h1 h2 h3 HE HO HN HT
    go_enter Tryz.func21,Tryz.ntmps21
    go_wp2;exact hR.out _ _ ⟨aQ (by rw[aL HE3.out]),HB.out⟩
  ·have HE3:=zh (show ¬ a=b from fun h=>h2 (HE.out.1 h).2.1);have HB:=zh HO.out.below;have e1:(a.nul==b.nul)=true:=by simp[h1]
   have e2:(a.fal==b.fal)=false:=by simp[h2]
   clear h1 h2 HE HO HN HT
   go_enter Tryz.func21,Tryz.ntmps21
   go_wp2;exact hR.out _ _ ⟨aQ (by rw[aL HE3.out]),HB.out⟩
 ·have HE3:=zh (show ¬ a=b from fun h=>h1 (HE.out.1 h).1);have HB:=zh HO.out.below;have e1:(a.nul==b.nul)=false:=by simp[h1]
  clear h1 HE HO HN HT
  go_enter Tryz.func21,Tryz.ntmps21
  go_wp2;exact hR.out _ _ ⟨aQ (by rw[aL HE3.out]),HB.out⟩
end Cl
