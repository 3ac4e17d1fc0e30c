/- Lemmas for the proofs of chapter 11. -/
import Derived.Test.YtajbfioncdnkcaaGreatDoorProg
import Derived.BigQuiet
import Derived.Deep.Cut
import Derived.Deep.QuietTactic
import Derived.Laws.StructEq
import Derived.Lib.AppendStr
import Derived.Lib.Builder
import Derived.Lib.Hide
import Derived.Lib.ItoaLen
import Derived.Maps.OwnOps
import Derived.Maps.OwnSet
import Derived.OrdersHeld
import Derived.Outline
import Derived.StillTailTactics
import Derived.StringKeys
import Derived.WalkKit
import Derived.WalkLawsBesides
import Derived.WalkSpells
import Derived.Deep.RegionHeld
import Derived.RangeFuncNested
import Derived.RangeFuncBound
import Derived.RangeFuncCalls
import Derived.RangeFuncLeaves
import Derived.OwnWalkIn
import Derived.TacticsInMore
import Derived.LoopNIn
import Derived.LoopIn
import Derived.Shelf.SlSortCmp.WholeK
import Derived.Laws.EntriesVeiled
import Derived.Laws.CopyOwn
import Derived.RegionTactic
import Derived.Test.YtajbfioncdnkcaaGreatDoorZz
import Derived.Test.YtajbfioncdnkcaaGreatDoorPkM4
import Derived.Test.YtajbfioncdnkcaaGreatDoorPkM3
import Derived.Test.YtajbfioncdnkcaaGreatDoorPkM1
import Derived.Test.YtajbfioncdnkcaaGreatDoorPkM2
import Derived.Test.YtajbfioncdnkcaaGreatDoorPkM19
import Derived.Test.YtajbfioncdnkcaaGreatDoorPkM5
import Derived.Test.YtajbfioncdnkcaaGreatDoorPkM10
import Derived.Test.YtajbfioncdnkcaaGreatDoorPkM11
set_option maxRecDepth 100000
set_option maxHeartbeats 16000000
namespace Cl
open Go Go.RowKit Go.Proofs
theorem uq (v v':Value) (l l':List Spn) (m:Mem) (w:World) (hm:m.inn w) (hl:bW m v l) (hl':bW m v' l') :
 Calls Tryz.prog 121 #[v,v'] w fun e w'=>e=.returned (.bool (tf (l=l')))∧Below w.heap.size w w':=by
 obtain⟨a,c,rfl,h1,h2,h3⟩:=hl;obtain⟨a',c',rfl,h1',h2',h3'⟩:=hl';unfold maxLen at h2 h2';refine aj fun R hR=>?_;by_cases hlen:l.length=l'.length
 ·have hne:((l.length:Int) != (l'.length:Int))=false:=by simp[hlen]
  have Hlen:=zh hlen;clear hlen
  go_enter Tryz.func121,Tryz.ntmps121
  go_wp2;refine ay [0,1,12,13] (fun n vs wr=>∃k:Nat,k≤l.length∧n=l.length - k∧vs=[.slice a l.length c,.slice a' l'.length c',.int .i64 l.length,.int .i64 k]∧(l=l'↔l.drop k=l'.drop k)∧Below w.heap.size w wr) ?_ ?_
  ·exact⟨_,0,Nat.zero_le _,rfl,rfl,Iff.rfl,Below.refl _ _⟩
  rintro X z n vs wr hX - ⟨k,hk,rfl,rfl,hrel,hbel⟩;have Hrel:=zh hrel;clear hrel;simp[litL,lk];have hmr:=Mem.bX hm hbel;by_cases hlt:k<l.length
  ·have hlt':k<l'.length:=by rw[← Hlen.out];exact hlt
   obtain⟨b,off,rfl,h4⟩:=h3 (by intro h;simp[h] at hlt);obtain⟨b',off',rfl,h4'⟩:=h3' (by intro h;simp[h] at hlt');obtain⟨g1,g2,-⟩:=h4 k hlt;obtain⟨g1',g2',-⟩:=h4' k hlt';have c1:=Mem.av hmr g1;have c2:=Mem.av hmr g2;have c1':=Mem.av hmr g1';have c2':=Mem.av hmr g2';have HD:=zh (mY l l' k hlt hlt');have hq:=fun w=>Ef (l[k].1) (l[k].2) (l'[k].1) (l'[k].2) w;have hgd:=Fs;have He:=zh (QQ l[k] l'[k]);go_wp2
   go_quiet (fail)
   go_wp2
   ·refine hR.out _ _ ⟨aQ ?_,below_drewN hbel _⟩;rw[aL];intro h;have h5:=He.out.1 (HD.out.1 (Hrel.out.1 h)).1;have h6:=‹(!l[k].1==l'[k].1)=true∨_›;simp[h5] at h6
   ·refine hX.out _ _ _ zo rfl ⟨k+1,zo,rfl,rfl,?_,below_drewN hbel _⟩;have h6:=‹(!l[k].1==l'[k].1)=false∧_›;simp at h6;exact Hrel.out.trans (HD.out.trans ⟨fun h=>h.2,fun h=>⟨He.out.2 zo,h⟩⟩)
  ·go_wp2;refine hR.out _ _ ⟨aQ ?_,hbel⟩;rw[aN (Hrel.out.2 ?_)];rw[List.drop_eq_nil_of_le zo,List.drop_eq_nil_of_le (by rw[← Hlen.out];omega)]
 ·have hne:((l.length:Int) != (l'.length:Int))=true:=by simp;omega
  go_enter Tryz.func121,Tryz.ntmps121
  go_wp2;exact hR.out _ _ ⟨aQ (by rw[aL (fun h=>hlen (by rw[h]))]),Below.refl _ _⟩
theorem yM (vi vf ui uf:Value) (I F J G:List Spn) (m:Mem) (w:World) (hm:m.inn w) (h1:bF m vi vf I F) (h2:bF m ui uf J G) :
 Calls Tryz.prog 68 #[.agg #[vi,vf],.agg #[ui,uf]] w fun e w'=>e=.returned (.bool (tf (I=J∧F=G)))∧Below w.heap.size w w':=by
 have hO:=((Own.start hm).al #[vi,vf] 24).al #[ui,uf] 24;have hsz1:(w.alloc (.cells #[vi,vf] 24)).heap.size=w.heap.size+1:=by simp
 rw[hsz1] at hO;have HA:=zh (uq _ _ I J m _ hO.inn h1.i h2.i);have HB:=zh (fun w' (h:m.inn w')=>uq _ _ F G m w' h h1.f h2.f);obtain⟨a1,c1,b1,d1,rfl,rfl⟩:=h1.spell;obtain⟨a2,c2,b2,d2,rfl,rfl⟩:=h2.spell;have HO:=zh hO;clear hO hsz1 h1 h2;refine aj fun R hR=>?_
 go_enter Tryz.func68,Tryz.ntmps68
 go_wp2_with fail
 refine HA.out.mono ?_;rintro e w1 ⟨rfl,hb1⟩;have hO1:=HO.out.move hb1;by_cases e1:I=J
 ·rw[aN e1];have HB1:=zh (HB.out w1 hO1.inn);have q0:=hO1.obj.cell (i:=1) rfl;have q1:=hO1.swap.obj.cell (i:=1) rfl;have HO1:=zh hO1;have E1:=zh e1;clear HO hO1 hb1 HA HB e1
  go_wp2_with fail
  refine HB1.out.mono ?_;rintro e w2 ⟨rfl,hb2⟩;have Hb:=zh (HO1.out.move hb2).below;clear HO1 hb2 HB1 q0 q1;go_wp2;exact hR.out _ _ ⟨aQ (fT ⟨fun h=>⟨E1.out,h⟩,fun h=>h.2⟩),Hb.out⟩
 ·rw[aL e1];have Hb:=zh hO1.below;have E1:=zh e1;clear HO hO1 hb1 HA HB e1;go_wp2;exact hR.out _ _ ⟨aQ (by rw[aL (fun h=>E1.out h.1)]),Hb.out⟩
end Cl
