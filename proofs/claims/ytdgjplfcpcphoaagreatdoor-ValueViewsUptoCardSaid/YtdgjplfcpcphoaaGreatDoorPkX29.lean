/- Lemmas for the proofs of chapter 11. -/
import Derived.Test.YtdgjplfcpcphoaaGreatDoorProg
import Derived.BigQuiet
import Derived.Deep.Cut
import Derived.Deep.QuietTactic
import Derived.Laws.StructEq
import Derived.Lib.AppendStr
import Derived.Lib.Builder
import Derived.Lib.Hide
import Derived.Lib.ItoaLen
import Derived.Maps.OwnOps
import Derived.Maps.OwnSet
import Derived.OrdersHeld
import Derived.Outline
import Derived.StillTailTactics
import Derived.StringKeys
import Derived.WalkKit
import Derived.WalkLawsBesides
import Derived.WalkSpells
import Derived.Deep.RegionHeld
import Derived.Shelf.Strings.Builder1
import Derived.Shelf.Small.Wraps
import Derived.Shelf.LaysM
import Derived.Shelf.Strconv.Itoa3
import Derived.Laws.CopyRow
import Derived.Laws.Tables
import Derived.BigFrame
import Derived.Deep.Slices
import Derived.Lib.SmallJoins
import Derived.ChangeMaps5
import Derived.Carry
import Derived.KernelRfl
import Derived.ChangeArms
import Derived.RangeFuncNested
import Derived.RangeFuncBound
import Derived.RangeFuncCalls
import Derived.RangeFuncLeaves
import Derived.OwnWalkIn
import Derived.TacticsInMore
import Derived.LoopNIn
import Derived.LoopIn
import Derived.Shelf.Strconv.AppendIntPublic10
import Derived.Shelf.Spec.SlicesGrow
import Derived.Shelf.SlSortCmp.WholeK
import Derived.RegionTactic
import Derived.ChangeAlike
import Derived.Laws.BytesArg
import Derived.Laws.EntriesVeiled
import Derived.Laws.CopyOwn
import Derived.WalkMore
import Derived.Test.YtdgjplfcpcphoaaGreatDoorZz
import Derived.Test.YtdgjplfcpcphoaaGreatDoorPkX3
import Derived.Test.YtdgjplfcpcphoaaGreatDoorPkX5
import Derived.Test.YtdgjplfcpcphoaaGreatDoorPkX1
import Derived.Test.YtdgjplfcpcphoaaGreatDoorPkX2
import Derived.Test.YtdgjplfcpcphoaaGreatDoorPkX10
import Derived.Test.YtdgjplfcpcphoaaGreatDoorPkX4
import Derived.Test.YtdgjplfcpcphoaaGreatDoorPkX9
import Derived.Test.YtdgjplfcpcphoaaGreatDoorPkX25
import Derived.Test.YtdgjplfcpcphoaaGreatDoorPkX6
import Derived.Test.YtdgjplfcpcphoaaGreatDoorPkX11
import Derived.Test.YtdgjplfcpcphoaaGreatDoorPkX14
import Derived.Test.YtdgjplfcpcphoaaGreatDoorPkX28
import Derived.Test.YtdgjplfcpcphoaaGreatDoorPkX23
import Derived.Test.YtdgjplfcpcphoaaGreatDoorPkX13
import Derived.Test.YtdgjplfcpcphoaaGreatDoorPkX27
import Derived.Test.YtdgjplfcpcphoaaGreatDoorPkX18
import Derived.Test.YtdgjplfcpcphoaaGreatDoorPkX16
import Derived.Test.YtdgjplfcpcphoaaGreatDoorPkX15
import Derived.Test.YtdgjplfcpcphoaaGreatDoorPkX7
import Derived.Test.YtdgjplfcpcphoaaGreatDoorPkX8
import Derived.Test.YtdgjplfcpcphoaaGreatDoorPkX12
import Derived.Test.YtdgjplfcpcphoaaGreatDoorPkX17
import Derived.Test.YtdgjplfcpcphoaaGreatDoorPkX19
import Derived.Test.YtdgjplfcpcphoaaGreatDoorPkX24
import Derived.Test.YtdgjplfcpcphoaaGreatDoorPkX20
import Derived.Test.YtdgjplfcpcphoaaGreatDoorPkX21
import Derived.Test.YtdgjplfcpcphoaaGreatDoorPkX26
set_option maxRecDepth 100000
set_option maxHeartbeats 16000000
namespace Cl
open Go Go.RowKit Go.Proofs
theorem zR (l:Table):∀(u v:List UInt8) (s:Int),jf l s (u ++ v)=jf l (jf l s u) v
 | [],_,_=>rfl
 | _::u,v,_=>zR l u v _
theorem tN {l:Table} (h:WF l):∀(u:List UInt8) (s:Int),-1≤s→s<l.length → -1≤jf l s u∧jf l s u<l.length
 | [],s,h1,h2=>⟨h1,h2⟩
 | b::u,s,h1,h2=>by
  have:=dU h s b.toNat;exact tN h u _ zo zo
theorem mV (v0:Value) (l:Table) (s:ByteArray) (m:Mem) (w:World) (hm:m.inn w) (hl:aR m v0 l) (hs:s.size≤maxLen) :
 Calls Tryz.prog 35 #[.agg #[v0],.string s] w fun e w'=>e=.returned (.bool (tf (WF l)&&aF l 0 s.data.toList))∧Below w.heap.size w w':=by
 have hl0:=hl;obtain⟨a,c,rfl,h1,h2,h3⟩:=hl;unfold maxLen at h2 hs;have hO:=(Own.start hm).al #[.slice a l.length c] 27;have HW:=zh (ny (.slice a l.length c) l m _ hO.inn hl0);have HO:=zh hO;clear hO;refine ay fun R hR=>?_
 go_enter Tryz.func35,Tryz.ntmps35
 go_wp2_with fail
 refine HW.out.mono ?_;rintro e w1 ⟨rfl,hb1⟩;have hO1:=HO.out.move hb1;have g1:=hO1.obj.cell (i:=0) rfl;have g2:=hO1.obj.lt;clear HO hb1;by_cases hwf:WF l
 ·rw[aI hwf];by_cases h0:l.length=0
  ·have hdec:((l.length:Int)==0)=true:=by simp[h0]
   have Hk:=zh (zi h0 hO1);clear h0 hO1;go_wp2;refine hR.out _ _ ⟨aJ ?_,Hk.out.2.below⟩;rw[aI hwf,dX l 0 _ (by have:=Hk.out.1;omega)];rfl
  ·have hdec:((l.length:Int)==0)=false:=beq_eq_false_iff_ne.2 zo;have HO1:=zh hO1;clear hO1;go_wp2;refine au [1,2,5,6] (fun n vs wr=>∃(k:Nat),k≤s.size∧n=s.size - k∧vs=[.string s,.pointer (some ⟨w.heap.size,0,none⟩),.int .i64 (jf l 0 (s.data.toList.take k)),.int .i64 k] ∧
    Own w m wr m [.obj w.heap.size 27 #[.slice a l.length c]]) ?_ ?_
   ·exact⟨_,0,Nat.zero_le _,rfl,rfl,HO1.out⟩
   clear HO1 g1 g2;rintro X z n vs wr hX - ⟨k,hk,rfl,rfl,hO⟩;simp[litL,lk];have g1:=hO.obj.cell (i:=0) rfl;have g2:=hO.obj.lt;have hrng:=tN hwf (s.data.toList.take k) 0 zo zo;by_cases hlt:k<s.size
   ·have hnext:jf l 0 (s.data.toList.take (k+1))=aW l (jf l 0 (s.data.toList.take k)) (s[k]).toNat:=by
     have:s.data.toList.take (k+1)=s.data.toList.take k ++ [s[k]]:=by
      rw[List.take_succ_eq_append_getElem (by simpa using hlt)];rfl
     rw[this,zR];rfl
    have Hn:=zh hnext;clear hnext;generalize jf l 0 (s.data.toList.take k)=at0 at *
    have HS:=zh (fun w (hw:m.inn w)=>sH (.slice a l.length c) l at0 (s[k]).toNat m w hw hl0 zo zo);have HO:=zh hO;go_wp2;refine fq (fun w'=>bD w' w.heap.size 27 #[.slice a l.length c]) 7 zk ?_;have hO2:=HO.out.dr;have hS:=hO2.obj;refine aD 0 rfl zk (fun _ _ _ h=>h) hS (aB rfl fun w' hS'=>by have q:=hS'.cell (i:=0) rfl;go_simp;rfl) ?_;refine aD 1 rfl zk (fun _ _ _ h=>h) hS (aB rfl fun w' hS'=>by have q:=hS'.cell (i:=0) rfl;go_simp;rfl) ?_;refine aD 2 rfl zk (fun _ _ _ h=>h) hS (aB rfl fun w' hS'=>by have q:=hS'.cell (i:=0) rfl;go_simp;rfl) ?_;refine aD 3 rfl zk (fun _ _ _ h=>h) hS (aB rfl fun w' hS'=>by have q:=hS'.cell (i:=0) rfl;go_simp;rfl) ?_;refine aD 4 rfl zk (fun _ _ _ h=>h) hS (aB rfl fun w' hS'=>by have q:=hS'.cell (i:=0) rfl;go_simp;rfl) ?_;refine aD 5 rfl zk (fun _ _ _ h=>h) hS (aB rfl fun w' hS'=>by have q:=hS'.cell (i:=0) rfl;go_simp;rfl) ?_;refine aT 6 zk (aO rfl rfl (fQ (by go_simp) (HS.out _ hO2.inn) ?_));rintro e w3 ⟨rfl,hb3⟩;have hO3:=hO2.move hb3;refine ⟨_,rfl,andS hO3.obj fun hS1=>?_⟩;go_simp;refine aT 7 zk (aO rfl rfl (aK (by go_simp;first | exact⟨rfl,rfl⟩ | rfl) (lN rfl ?_)));refine fw zk ?_ _;have HO3:=zh hO3;clear hO3 hO2 hS hS1 hb3;go_wp2;refine hX.out _ _ _ zo rfl ⟨k+1,zo,rfl,?_,HO3.out⟩;rw[Hn.out];rfl
   ·obtain rfl:k=s.size:=zo;have hfull:s.data.toList.take s.size=s.data.toList:=List.take_of_length_le zS;rw[hfull] at hrng ⊢;have hacc:dS l (jf l 0 s.data.toList)=aF l 0 s.data.toList:=by
     have:=iw l s.data.toList [] 0;rw[List.append_nil] at this;rw[this];rfl
    have Hacc:=zh hacc;clear hacc hfull;generalize jf l 0 s.data.toList=at0 at *
    have HO:=zh hO;by_cases hneg:at0<0
    ·have Hneg:=zh (bJ (l:=l) hneg []);have hdec:decide (0≤at0)=false:=decide_eq_false zo;clear hO;go_wp2;refine hR.out _ _ ⟨aJ ?_,HO.out.below⟩;rw[aI hwf,← Hacc.out];have:=Hneg.out;simp only[aF] at this;rw[this];rfl
    ·obtain⟨sn,rfl⟩:=Int.eq_ofNat_of_zero_le (by omega:0≤at0);have hsn:sn<l.length:=zo;obtain⟨b,off,rfl,h4⟩:=h3 (by intro h;simp[h] at hsn);have c1:=(h4 sn hsn).1;have c2:=Mem.aj hO.inn c1;have c3:=Mem.av hO.inn c1;have Ha:=zh (dF l sn hsn);clear c1 hO;go_wp2;refine hR.out _ _ ⟨aJ ?_,HO.out.below⟩;rw[aI hwf,← Hacc.out,Ha.out];rfl
 ·rw[az hwf];have Hk:=zh hO1;clear hO1;go_wp2;exact hR.out _ _ ⟨aJ (by rw[az hwf];rfl),Hk.out.below⟩
def stV (c:St):Vl:=.mk false dJ [] [c]
abbrev stSl (g:Nat):Sl:=⟨.slice none 0 0,.slice none 0 0,.slice none 0 0,.slice none 0 0,.slice (some ⟨g,0,none⟩) 1 1⟩
theorem ML {m:Mem} {n:Nat} {c:St} {g:Nat} {u u2:Value} (h1:m.cell g 0=some u) (h2:m.cell g 1=some u2) (k1:gI (VAt m n) m u c.1) (k2:fV (VAt m n) m u2 c.2):VAt m (n+1) (stSl g) (stV c):=
 ⟨(VAt.leaf m false).1,cu _ _,MO ⟨u,u2,h1,h2,k1,k2⟩⟩
theorem IW {n:Nat} {c:St}:vcnt (n+1) (stV c)=vJ n c+1:=by
 rw[qm];simp[stV,Vl.lists,Vl.structs];omega
theorem DV {n:Nat} {c:St} {acc:Table→Bool} {s:ByteArray} (h:gD (n+1) (stV c)=true):dG (n+1) (eU acc c s).1:=by
 have hc:c∈(stV c).structs:=by simp[stV,Vl.structs]
 unfold eU
 split
 ·rename_i f hf;exact pQ h (GJ hc (List.mem_of_find?_eq_some hf))
 ·split
  ·rename_i k hk;exact pQ h (GK hc (List.mem_of_find?_eq_some hk))
  ·exact Bl
end Cl
