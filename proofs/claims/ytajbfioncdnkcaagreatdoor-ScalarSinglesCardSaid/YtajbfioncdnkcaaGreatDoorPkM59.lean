/- Lemmas for the proofs of chapter 11. -/
import Derived.Test.YtajbfioncdnkcaaGreatDoorProg
import Derived.BigQuiet
import Derived.Deep.Cut
import Derived.Deep.QuietTactic
import Derived.Laws.StructEq
import Derived.Lib.AppendStr
import Derived.Lib.Builder
import Derived.Lib.Hide
import Derived.Lib.ItoaLen
import Derived.Maps.OwnOps
import Derived.Maps.OwnSet
import Derived.OrdersHeld
import Derived.Outline
import Derived.StillTailTactics
import Derived.StringKeys
import Derived.WalkKit
import Derived.WalkLawsBesides
import Derived.WalkSpells
import Derived.Deep.RegionHeld
import Derived.RangeFuncNested
import Derived.RangeFuncBound
import Derived.RangeFuncCalls
import Derived.RangeFuncLeaves
import Derived.OwnWalkIn
import Derived.TacticsInMore
import Derived.LoopNIn
import Derived.LoopIn
import Derived.Shelf.Strings.Builder1
import Derived.Shelf.Small.Wraps
import Derived.Shelf.LaysM
import Derived.Shelf.Strconv.Itoa3
import Derived.RegionTactic
import Derived.ChangeAlike
import Derived.Laws.BytesArg
import Derived.Laws.EntriesVeiled
import Derived.Test.YtajbfioncdnkcaaGreatDoorZz
import Derived.Test.YtajbfioncdnkcaaGreatDoorPkM3
import Derived.Test.YtajbfioncdnkcaaGreatDoorPkM4
import Derived.Test.YtajbfioncdnkcaaGreatDoorPkM1
import Derived.Test.YtajbfioncdnkcaaGreatDoorPkM2
import Derived.Test.YtajbfioncdnkcaaGreatDoorPkM8
import Derived.Test.YtajbfioncdnkcaaGreatDoorPkM7
import Derived.Test.YtajbfioncdnkcaaGreatDoorPkM12
import Derived.Test.YtajbfioncdnkcaaGreatDoorPkM6
import Derived.Test.YtajbfioncdnkcaaGreatDoorPkM20
import Derived.Test.YtajbfioncdnkcaaGreatDoorPkM13
import Derived.Test.YtajbfioncdnkcaaGreatDoorPkM9
set_option maxRecDepth 100000
set_option maxHeartbeats 16000000
namespace Cl
open Go Go.RowKit Go.Proofs
def cmpS (x y:List UInt8):Int:=if Op.bytesLess x y then -1 else if x=y then 0 else 1
theorem NJ (s:ByteArray) (w:World):Calls Tryz.prog 207 #[.string s] w fun e w'=>e=.returned (.bool false)∧w'=w:=by
 refine aj fun R hR=>?_
 go_enter Tryz.func207,Tryz.ntmps207
 go_wp2;exact hR.out _ _ ⟨rfl,rfl⟩
theorem Cg (s t:ByteArray) (w:World):Calls Tryz.prog 143 #[.string s,.string t] w fun e w'=>e=.returned (.int .i64 (cmpS s.data.toList t.data.toList))∧w'=w:=by
 rw[← ByteArray.toList_eq s,← ByteArray.toList_eq t];refine aj fun R hR=>?_
 go_enter Tryz.func143,Tryz.ntmps143
 go_wp2_with ((go_at_call 207);refine (NJ _ _).mono ?_;rintro e w' ⟨rfl,rfl⟩)
 ·have h:Op.bytesLess s.toList t.toList=true:=by assumption
  exact hR.out _ _ ⟨by simp[cmpS,h],rfl⟩
 ·have h:Op.bytesLess s.toList t.toList=false:=by assumption
  have h2:(!s.toList==t.toList)=true:=by assumption
  have h2:¬ s.toList=t.toList:=by simpa using h2
  exact hR.out _ _ ⟨by simp[cmpS,h,h2],rfl⟩
 ·have h:Op.bytesLess s.toList t.toList=false:=by assumption
  have h2:(!s.toList==t.toList)=false:=by assumption
  have h2:s.toList=t.toList:=by simpa using h2
  exact hR.out _ _ ⟨by rw[h2] at h ⊢;simp[cmpS,h],rfl⟩
theorem Nc (g:Nat) (t:TypeId) (x y:Int) (w:World) (h:bI w g t #[.int .i64 x,.int .i64 y]) :
 Calls Tryz.prog 141 #[.slice (some ⟨g,0,none⟩) 2 2] w fun e w'=>e=.returned (.int .i64 (if x=0 then y else x))∧w'=w:=by
 have c0:=h.cell (i:=0) rfl;have c1:=h.cell (i:=1) rfl;have l1:=h.lt;refine aj fun R hR=>?_
 go_enter Tryz.func141,Tryz.ntmps141
 go_wp2;refine ay [3,6,7,8] (fun n vs wr=>∃k:Nat,k≤2∧n=2 - k∧vs=[.int .i64 0,.slice (some ⟨g,0,none⟩) 2 2,.int .i64 2,.int .i64 k]∧wr=w∧(1≤k→x=0)∧(2≤k→y=0)) ?_ ?_
 ·exact⟨_,0,zo,rfl,rfl,rfl,zo,zo⟩
 rintro X z n vs wr hX - ⟨k,hk,rfl,rfl,rfl,h1,h2⟩;simp[litL,lk];have hk:k=0∨k=1∨k=2:=zo;rcases hk with rfl | rfl | rfl
 ·clear h1 h2;by_cases e:x=0
  ·have hd:(x != 0)=false:=by simp[e]
   have E:=zh e;clear e;go_wp2;refine hX.out _ _ _ zo rfl ⟨1,zo,rfl,rfl,rfl,fun _=>E.out,zo⟩
  ·have hd:(x != 0)=true:=by simp[e]
   have E:=zh e;clear e;go_wp2;exact hR.out _ _ ⟨by rw[if_neg E.out];rfl,rfl⟩
 ·have H1:=zh (h1 zo);clear h1 h2;by_cases e:y=0
  ·have hd:(y != 0)=false:=by simp[e]
   have E:=zh e;clear e;go_wp2;refine hX.out _ _ _ zo rfl ⟨2,zo,rfl,rfl,rfl,fun _=>H1.out,fun _=>E.out⟩
  ·have hd:(y != 0)=true:=by simp[e]
   have E:=zh e;clear e;go_wp2;exact hR.out _ _ ⟨by rw[if_pos H1.out];rfl,rfl⟩
 ·have H1:=zh (zi (h1 zo) (h2 zo));clear h1 h2;go_wp2;exact hR.out _ _ ⟨by rw[if_pos H1.out.1,H1.out.2];rfl,rfl⟩
end Cl
