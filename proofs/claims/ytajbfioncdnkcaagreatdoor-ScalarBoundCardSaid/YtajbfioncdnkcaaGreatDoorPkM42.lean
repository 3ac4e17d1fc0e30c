/- Lemmas for the proofs of chapter 11. -/
import Derived.Test.YtajbfioncdnkcaaGreatDoorProg
import Derived.BigQuiet
import Derived.Deep.Cut
import Derived.Deep.QuietTactic
import Derived.Laws.StructEq
import Derived.Lib.AppendStr
import Derived.Lib.Builder
import Derived.Lib.Hide
import Derived.Lib.ItoaLen
import Derived.Maps.OwnOps
import Derived.Maps.OwnSet
import Derived.OrdersHeld
import Derived.Outline
import Derived.StillTailTactics
import Derived.StringKeys
import Derived.WalkKit
import Derived.WalkLawsBesides
import Derived.WalkSpells
import Derived.Deep.RegionHeld
import Derived.Test.YtajbfioncdnkcaaGreatDoorZz
import Derived.Test.YtajbfioncdnkcaaGreatDoorPkM3
import Derived.Test.YtajbfioncdnkcaaGreatDoorPkM1
import Derived.Test.YtajbfioncdnkcaaGreatDoorPkM19
import Derived.Test.YtajbfioncdnkcaaGreatDoorPkM27
import Derived.Test.YtajbfioncdnkcaaGreatDoorPkM2
import Derived.Test.YtajbfioncdnkcaaGreatDoorPkM41
import Derived.Test.YtajbfioncdnkcaaGreatDoorPkM5
set_option maxRecDepth 100000
set_option maxHeartbeats 16000000
namespace Cl
open Go Go.RowKit Go.Proofs
theorem qp (u:Int) (w:World) (h1 : -1000000000000002≤u) (h2:u≤1000000000000002) :
 Calls Tryz.prog 113 #[.int .i64 u] w fun e w'=>e=.returned (.int .i64 (u / 10000))∧Below w.heap.size w w':=by
 refine aj fun R hR=>?_;have e1:=zh (Sk u);have e2:=zh (Q7 u)
 go_enter Tryz.func113,Tryz.ntmps113
 go_wp2
 all_goals refine hR.out _ _ ⟨dL ?_,Below.refl _ _⟩
 all_goals simp only[e1.out,e2.out] at *
 all_goals (repeat' split) <;> first | omega | (unfold wrap64;omega)
theorem wX (u:Int) (w:World) :
 Calls Tryz.prog 152 #[.int .i64 u] w fun e w'=>e=.returned (.bool (decide (u % 10000=0)))∧Below w.heap.size w w':=by
 have H:=zh (nZ u);refine aj fun R hR=>?_
 go_enter Tryz.func152,Tryz.ntmps152
 go_wp2
 all_goals refine hR.out _ _ ⟨aQ ?_,Below.refl _ _⟩
 all_goals first
  | (rw[Bool.eq_iff_iff,beq_iff_eq,decide_eq_true_iff];exact H.out)
  | (trace_state;done )
end Cl
