/- Lemmas for the proofs of chapter 11. -/
import Derived.Test.YtajbfioncdnkcaaGreatDoorProg
import Derived.BigQuiet
import Derived.Deep.Cut
import Derived.Deep.QuietTactic
import Derived.Laws.StructEq
import Derived.Lib.AppendStr
import Derived.Lib.Builder
import Derived.Lib.Hide
import Derived.Lib.ItoaLen
import Derived.Maps.OwnOps
import Derived.Maps.OwnSet
import Derived.OrdersHeld
import Derived.Outline
import Derived.StillTailTactics
import Derived.StringKeys
import Derived.WalkKit
import Derived.WalkLawsBesides
import Derived.WalkSpells
import Derived.Deep.RegionHeld
import Derived.Shelf.Strings.Builder1
import Derived.Shelf.Small.Wraps
import Derived.Shelf.LaysM
import Derived.Shelf.Strconv.Itoa3
import Derived.Test.YtajbfioncdnkcaaGreatDoorZz
import Derived.Test.YtajbfioncdnkcaaGreatDoorPkM3
import Derived.Test.YtajbfioncdnkcaaGreatDoorPkM4
import Derived.Test.YtajbfioncdnkcaaGreatDoorPkM1
import Derived.Test.YtajbfioncdnkcaaGreatDoorPkM2
import Derived.Test.YtajbfioncdnkcaaGreatDoorPkM8
import Derived.Test.YtajbfioncdnkcaaGreatDoorPkM7
import Derived.Test.YtajbfioncdnkcaaGreatDoorPkM6
import Derived.Test.YtajbfioncdnkcaaGreatDoorPkM9
set_option maxRecDepth 100000
set_option maxHeartbeats 16000000
namespace Cl
open Go Go.RowKit Go.Proofs
def Gc (l:Table):Prop:=(∀s∈l,s.edges.length≤10)∧l.length≤8
theorem Pg (v0:Value) (l:Table) (m:Mem) (w:World) (hm:m.inn w) (hl:aI m v0 l) :
 Calls Tryz.prog 108 #[.agg #[v0]] w fun e w'=>e=.returned (.bool (tf (Gc l)))∧Below w.heap.size w w':=by
 obtain⟨a,c,rfl,h1,h2,h3⟩:=hl;unfold maxLen at h2;refine aj fun R hR=>?_
 go_enter Tryz.func108,Tryz.ntmps108
 go_wp2;refine ay [1,6,7,8] (fun n vs wr=>∃k:Nat,k≤l.length∧n=l.length - k∧vs=[.pointer (some ⟨w.heap.size,0,none⟩),.slice a l.length c,.int .i64 l.length,.int .i64 k] ∧
  Own w m wr m [.obj w.heap.size 27 #[.slice a l.length c]]∧∀j,(h:j<k)→(h':j<l.length)→(l[j]).edges.length≤10) ?_ ?_
 ·exact⟨_,0,Nat.zero_le _,rfl,rfl,(Own.start hm).al _ _,fun j h=>zo⟩
 rintro X z n vs wr hX - ⟨k,hk,rfl,rfl,hO,hall⟩;simp[litL,lk];have HA:=zh hall;clear hall;by_cases hlt:k<l.length
 ·obtain⟨b,off,rfl,h4⟩:=h3 (by intro h;simp[h] at hlt);obtain⟨g1,ve,g2,ea,ec,rfl,g4,g5,g6⟩:=h4 k hlt;have c1:=Mem.av hO.inn g1;have c2:=Mem.av hO.inn g2;have c3:=Mem.ak hO.inn g1;unfold maxLen at g5;have HO:=zh (hO.al' (.cells #[.bool l[k].accept,.slice ea l[k].edges.length ec] 66));clear hO h3 h4;by_cases hbig:10<l[k].edges.length
  ·have hdec:decide ((10:Int)<(l[k].edges.length:Int))=true:=decide_eq_true zo;have Hb:=zh hbig;clear hbig;go_wp2;refine hR.out _ _ ⟨aQ ?_,HO.out.below⟩;rw[aL];intro hs;have:=hs.1 l[k] (List.getElem_mem hlt);have:=Hb.out;omega
  ·have hdec:decide ((10:Int)<(l[k].edges.length:Int))=false:=decide_eq_false zo;go_wp2;refine hX.out _ _ _ zo rfl ⟨k+1,zo,rfl,rfl,HO.out,fun j hj hj'=>?_⟩;by_cases e:j=k
   ·subst e;omega
   ·exact HA.out j zo hj'
 ·obtain rfl:k=l.length:=zo;have g1:=hO.obj.cell (i:=0) rfl;have g2:=hO.obj.lt;have HO:=zh hO;clear hO;go_wp2;refine hR.out _ _ ⟨aQ ?_,HO.out.below⟩;by_cases h8:l.length≤8
  ·rw[decide_eq_true zo,aN];exact⟨fun s hs=>by obtain⟨i,hi,rfl⟩:=List.mem_iff_getElem.1 hs;exact HA.out i hi hi,h8⟩
  ·rw[decide_eq_false zo,aL];exact fun h=>h8 h.2
end Cl
