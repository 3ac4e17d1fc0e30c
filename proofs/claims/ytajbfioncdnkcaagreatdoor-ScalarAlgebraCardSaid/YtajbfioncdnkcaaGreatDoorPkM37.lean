/- Lemmas for the proofs of chapter 11. -/
import Derived.Test.YtajbfioncdnkcaaGreatDoorProg
import Derived.BigQuiet
import Derived.Deep.Cut
import Derived.Deep.QuietTactic
import Derived.Laws.StructEq
import Derived.Lib.AppendStr
import Derived.Lib.Builder
import Derived.Lib.Hide
import Derived.Lib.ItoaLen
import Derived.Maps.OwnOps
import Derived.Maps.OwnSet
import Derived.OrdersHeld
import Derived.Outline
import Derived.StillTailTactics
import Derived.StringKeys
import Derived.WalkKit
import Derived.WalkLawsBesides
import Derived.WalkSpells
import Derived.Deep.RegionHeld
import Derived.RangeFuncNested
import Derived.RangeFuncBound
import Derived.RangeFuncCalls
import Derived.RangeFuncLeaves
import Derived.OwnWalkIn
import Derived.TacticsInMore
import Derived.LoopNIn
import Derived.LoopIn
import Derived.Shelf.Strings.Builder1
import Derived.Shelf.Small.Wraps
import Derived.Shelf.LaysM
import Derived.Shelf.Strconv.Itoa3
import Derived.Shelf.Spec.SlicesGrow
import Derived.Shelf.SlSortCmp.WholeK
import Derived.RegionTactic
import Derived.ChangeAlike
import Derived.Laws.EntriesVeiled
import Derived.Laws.CopyOwn
import Derived.Test.YtajbfioncdnkcaaGreatDoorZz
import Derived.Test.YtajbfioncdnkcaaGreatDoorPkM3
import Derived.Test.YtajbfioncdnkcaaGreatDoorPkM4
import Derived.Test.YtajbfioncdnkcaaGreatDoorPkM1
import Derived.Test.YtajbfioncdnkcaaGreatDoorPkM2
import Derived.Test.YtajbfioncdnkcaaGreatDoorPkM8
import Derived.Test.YtajbfioncdnkcaaGreatDoorPkM7
import Derived.Test.YtajbfioncdnkcaaGreatDoorPkM36
import Derived.Test.YtajbfioncdnkcaaGreatDoorPkM12
import Derived.Test.YtajbfioncdnkcaaGreatDoorPkM6
import Derived.Test.YtajbfioncdnkcaaGreatDoorPkM9
import Derived.Test.YtajbfioncdnkcaaGreatDoorPkM5
import Derived.Test.YtajbfioncdnkcaaGreatDoorPkM10
import Derived.Test.YtajbfioncdnkcaaGreatDoorPkM11
import Derived.Test.YtajbfioncdnkcaaGreatDoorPkM16
import Derived.Test.YtajbfioncdnkcaaGreatDoorPkM24
set_option maxRecDepth 100000
set_option maxHeartbeats 16000000
namespace Cl
open Go Go.RowKit Go.Proofs
theorem MQ (p q:Bool) (w:World):Calls Tryz.prog 82 #[.bool p,.bool q] w fun e w'=>e=.returned (.bool (p || q))∧w'=w:=by
 refine aj fun R hR=>?_;cases p
 ·go_enter Tryz.func82,Tryz.ntmps82
  go_wp2;exact hR.out _ _ ⟨rfl,rfl⟩
 ·go_enter Tryz.func82,Tryz.ntmps82
  go_wp2;exact hR.out _ _ ⟨by simp <;> rfl,rfl⟩
theorem opOr:JM 82 83 84 (fun p q=>(p || q)) orN (fun p q=>(p || q)) (fun p q=>p∨q) where
 c1:=MQ
 c2:=fun vi vf ui uf I F J G m w hm h1 h2 l1 l2 l3 l4=>CU vi vf ui uf I F J G m w hm h1 h2 zo zo zo zo
 c3:=fun v0 v1 A B m w hm ht hA hB hF=>KU v0 v1 A B m w hm ht hA hB hF
 e1:=fun _ _=>by go_simp
 e2:=fun _ _=>by go_simp
 e3:=fun _ _=>by go_simp
 ok:=fun hx hy=>yZ hx hy
 has:=fun hx hy u=>vW _ _ u
 le:=fun hx hy=>(Ja hx hy).mono zo
 bp:=by intro p q;cases p <;> cases q <;> simp
 lp:=by intro p q;cases p <;> cases q <;> simp
theorem lh (vi vf vt:Value) (A:RS) (ui uf ut:Value) (B:RS) (na ta nb tb:Nat) (m:Mem) (w:World) (hm:m.inn w) (htab:TabM m) (ha:ScAt m vi vf vt A) (hb:ScAt m ui uf ut B) (la:ScLe A na ta) (lb:ScLe B nb tb) (hn1:na≤250) (hn2:nb≤250) (ht:(ta+2)*(tb+2)≤1000000) :
 Calls Tryz.prog 33 #[A.val vi vf vt,B.val ui uf ut] w fun e w'=>∃s si sf st,e=.returned (s.val si sf st)∧Below w.heap.size w w'∧ScAt (m.grow w w') si sf st s∧ScIs (fun e=>(bU A).has e∨(bU B).has e) s∧ScLe s (na+nb+4) ((ta+2)*(tb+2)+1):=by
 have hO:=(((Own.start hm).al #[.bool A.nul,.bool A.fal,.bool A.tru,vi,vf,vt] 29).al #[.bool B.nul,.bool B.fal,.bool B.tru,ui,uf,ut] 29).al #[.bool false,.bool false,.bool false,.slice none 0 0,.slice none 0 0,.slice none 0 0] 29;simp only[df] at hO;have HC:=zh (vP opOr vi vf vt A ui uf ut B na ta nb tb m _ hO.inn htab ha hb la lb hn1 hn2 ht);obtain⟨aa,ab,ac,ad,ae,af,rfl,rfl,rfl⟩:=ha.spell;obtain⟨ba,bb,bc,bd,be,bf,rfl,rfl,rfl⟩:=hb.spell;unfold RS.val at HC ⊢;have HO:=zh hO;clear hO ha hb la lb;refine aj fun R hR=>?_
 go_enter Tryz.func33,Tryz.ntmps33
 go_wp2_with fail
 refine HC.out.mono ?_;rintro e w1 ⟨s,si,sf,st,rfl,hb1,hs,hS,hL⟩;obtain⟨ra,rb,rc,rd,re,rf,rfl,rfl,rfl⟩:=hs.spell;have hO1:=HO.out.call hb1;obtain⟨p0,p1,p2,p3,p4,p5,pf0,pf1,pf2,pf3,pf4,pf5⟩:=hO1.obj.cf6;have pl:=hO1.obj.lt;have hO4:=((((((hO1.set 0 (.bool s.nul)).set 1 (.bool s.fal)).set 2 (.bool s.tru)).set 3 (.slice ra s.i.length rb)).set 4 (.slice rc s.f.length rd)).set 5 (.slice re s.t.length rf));obtain⟨g0,g1,g2,g3,g4,g5⟩:=hO4.obj.cs6;have gl:=hO4.obj.lt;have Hk:=zh (zi hO4.below (zi (hs.le hO4.done) (zi hS hL)));clear hO1 hO4 hs hS hL HC HO hb1;go_wp2;refine bodyPost_ret (v:=.agg #[.bool s.nul,.bool s.fal,.bool s.tru,.slice ra s.i.length rb,.slice rc s.f.length rd,.slice re s.t.length rf]) (by simp[results,Tryz.results33,go_sem,g0,g1,g2,g3,g4,g5]) rfl ?_;exact hR.out _ _ ⟨s,_,_,_,rfl,Hk.out.1,Hk.out.2.1,Hk.out.2.2.1,Hk.out.2.2.2⟩
end Cl
