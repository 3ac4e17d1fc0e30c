/- Lemmas for the proofs of chapter 11. -/
import Derived.Test.YtajbfioncdnkcaaGreatDoorProg
import Derived.BigQuiet
import Derived.Deep.Cut
import Derived.Deep.QuietTactic
import Derived.Laws.StructEq
import Derived.Lib.AppendStr
import Derived.Lib.Builder
import Derived.Lib.Hide
import Derived.Lib.ItoaLen
import Derived.Maps.OwnOps
import Derived.Maps.OwnSet
import Derived.OrdersHeld
import Derived.Outline
import Derived.StillTailTactics
import Derived.StringKeys
import Derived.WalkKit
import Derived.WalkLawsBesides
import Derived.WalkSpells
import Derived.Deep.RegionHeld
import Derived.Test.YtajbfioncdnkcaaGreatDoorZz
import Derived.Test.YtajbfioncdnkcaaGreatDoorPkM3
import Derived.Test.YtajbfioncdnkcaaGreatDoorPkM1
import Derived.Test.YtajbfioncdnkcaaGreatDoorPkM6
import Derived.Test.YtajbfioncdnkcaaGreatDoorPkM32
import Derived.Test.YtajbfioncdnkcaaGreatDoorPkM9
set_option maxRecDepth 100000
set_option maxHeartbeats 16000000
namespace Cl
open Go Go.RowKit Go.Proofs
theorem Bz (w:World) :
 Calls Tryz.prog 59 #[] w fun e w'=>∃g1 g2,e=.returned (.agg #[.slice (some ⟨g2,0,none⟩) 1 1])∧Below w.heap.size w w'∧w.heap.size≤g1∧w.heap.size≤g2∧g1≠g2 ∧
  bI w' g1 106 #[.int .u8 0,.int .u8 255,.int .i64 0]∧bI w' g2 66 #[.bool true,.slice (some ⟨g1,0,none⟩) 1 1]:=by
 refine aj fun R hR=>?_
 go_enter Tryz.func59,Tryz.ntmps59
 go_wp2;refine bodyPost_ret (v:=.agg #[.slice (some ⟨w.heap.size+1+1,0,none⟩) 1 1]) (by simp[results,Tryz.results59,go_sem]) rfl ?_;refine hR.out _ _ ⟨_,_,rfl,aP (aP (aP (Below.refl _ _) _) _) _,?_,?_,?_,(bI.new _ _ _).al _,?_⟩
 ·simp <;> omega
 ·omega
 ·simp <;> omega
 ·have:=bI.new ((w.alloc (Obj.cells #[Value.slice (some { block:=w.heap.size+1+1,off:=0 }) 1 1] 27)).alloc (Obj.cells #[Value.int IntKind.u8 0,Value.int IntKind.u8 255,Value.int IntKind.i64 0] 106)) 66 #[Value.bool true,Value.slice (some { block:=w.heap.size+1,off:=0 }) 1 1];simpa using this
theorem yP (s:ByteArray) (m:Mem) (w:World) (hm:m.inn w) (hs:s.size≤1000) :
 Calls Tryz.prog 63 #[.string s] w fun e w'=>∃r,e=.returned (.agg #[r])∧Below w.heap.size w w'∧aI (m.grow w w') r (pW s.data.toList s.size ++ [⟨true,[]⟩]):=by
 refine aj fun R hR=>?_
 go_enter Tryz.func63,Tryz.ntmps63
 go_wp2;refine ay [0,2,3,4] (fun n vs wr=>∃(k:Nat) (v:Value) (xs:List Value) (mk:Mem),k≤s.size∧n=s.size - k∧vs=[.string s,.pointer (some ⟨w.heap.size,0,none⟩),.pointer (some ⟨w.heap.size+1,0,none⟩),.int .i64 k] ∧
  Own w m wr mk [.obj (w.heap.size+1) 27 #[v],.row v 66 2 k xs,.obj w.heap.size 27 #[.slice none 0 0]]∧jX mk xs (pW s.data.toList k)) ?_ ?_
 ·refine ⟨_,0,.slice none 0 0,[],m,Nat.zero_le _,rfl,rfl,?_,jX.nil m⟩;have:=(((Own.start hm).al #[.slice none 0 0] 27).al #[.slice none 0 0] 27).eH 66 2;simpa using this.swap
 rintro X z n vs wr hX - ⟨k,v,xs,mk,hk,rfl,rfl,hO,hrow⟩;simp[litL,lk];have ho2:=hO.obj;have c1:=ho2.cell (i:=0) (v:=v) rfl;have f1:=ho2.frozen 0;have l1:=ho2.lt;by_cases hlt:k<s.size
 ·go_wp2;have hw1:IntKind.i64.wrap ((k:Int)+1)=(k:Int)+1:=IntWalk.i64_in _ zo;refine fw (fun w'=>bI w' (w.heap.size+1) 27 #[v]) 16 zk ?_;have hS:bI wr.drew (w.heap.size+1) 27 #[v]:=ho2.dr;refine az 0 rfl zk (fun _ _ _ h=>h) hS (au rfl fun w' hS'=>by have q:=hS'.cell (i:=0) rfl;go_simp;rfl) ?_;refine az 1 rfl zk (fun _ _ _ h=>h) hS (au rfl fun w' hS'=>by have q:=hS'.cell (i:=0) rfl;go_simp;rfl) ?_;refine az 2 rfl zk (fun _ _ _ h=>h) hS (au rfl fun w' hS'=>by have q:=hS'.cell (i:=0) rfl;go_simp;rfl) ?_;refine az 3 rfl zk (fun _ _ _ h=>h) hS (au rfl fun w' hS'=>by have q:=hS'.cell (i:=0) rfl;go_simp;rfl) ?_;refine az 4 rfl zk (fun _ _ _ h=>h) hS (au rfl fun w' hS'=>by have q:=hS'.cell (i:=0) rfl;go_simp;rfl) ?_;refine az 5 rfl zk (fun _ _ _ h=>h) hS (au rfl fun w' hS'=>by have q:=hS'.cell (i:=0) rfl;go_simp;rfl) ?_;refine az 6 rfl zk (fun _ _ _ h=>h) hS (au rfl fun w' hS'=>by have q:=hS'.cell (i:=0) rfl;go_simp;rfl) ?_;refine az 7 rfl zk (fun _ _ _ h=>h) hS (au rfl fun w' hS'=>by have q:=hS'.cell (i:=0) rfl;go_simp;rfl) ?_;refine az 8 rfl zk (fun _ _ _ h=>h) hS (au rfl fun w' hS'=>by have q:=hS'.cell (i:=0) rfl;go_simp;rfl) ?_;refine az 9 rfl zk (fun _ _ _ h=>h) hS (au rfl fun w' hS'=>by have q:=hS'.cell (i:=0) rfl;go_simp;rfl) ?_;refine az 10 rfl zk (fun _ _ _ h=>h) hS (au rfl fun w' hS'=>by have q:=hS'.cell (i:=0) rfl;go_simp;rfl) ?_;refine aG 11 zk (aB rfl rfl (aD (by go_simp;exact⟨rfl,rfl⟩) (andS (ho2.al _).dr fun hS1=>?_)));refine az 12 rfl zk (fun _ _ _ h=>h) hS1 (au rfl fun w' hS'=>by have q:=hS'.cell (i:=0) rfl;go_simp;rfl) ?_;refine aG 13 zk (aB rfl rfl (aD (by go_simp;exact⟨rfl,rfl⟩) (andS ((ho2.al _).al _).dr fun hS2=>?_)));go_simp;have hO2:=((hO.al #[Value.int IntKind.u8 s[k].toNat,Value.int IntKind.u8 s[k].toNat,Value.int IntKind.i64 (k+1)] 106).al #[Value.bool false,Value.slice (some ⟨wr.heap.size,0,none⟩) 1 1] 66).dr;rw[show (wr.alloc (.cells #[Value.int IntKind.u8 s[k].toNat,Value.int IntKind.u8 s[k].toNat,Value.int IntKind.i64 (k+1)] 106)).heap.size=wr.heap.size+1 by simp] at hO2;have hO3:=hO2.tail.ib;have hed:=CP (mk:=mk) (lo:=s[k].toNat) (hi:=s[k].toNat) (to:=(k:Int)+1) hO2.tail.obj ⟨s[k].toNat_lt,s[k].toNat_lt,by show _≤(k:Int)+1;omega,by show (k:Int)+1≤_;omega⟩;have hf:=hO2.tail.iC;refine aG 14 zk (aB rfl rfl (eB iH (.tmp 12) (.tmp 24) rfl v k xs rfl hO3.swap.row ⟨wr.heap.size+1,0,none⟩ 1 1 [.bool false,.slice (some ⟨wr.heap.size,0,none⟩) 1 1] rfl rfl (hO2.obj.news rfl) (by simp[Value.oneCell']) (by unfold maxLen;omega) zo (fun va vc w3 hown3 hgrow hrow3=>?_)));have hO4:=hO3.swap.app hown3 hgrow hrow3 (Nat.le_refl _);refine andS hO4.swap.obj fun hS3=>?_;have f3:=hS3.frozen 0;have c3:=hS3.cell (i:=0) rfl;refine az 15 rfl zk (fun _ _ _ h=>h) hS3 (au rfl fun w' hS'=>by have q:=hS'.cell (i:=0) rfl;go_simp;rfl) ?_;refine aG 16 zk (aB rfl rfl (aS (by go_simp;rfl) (ji rfl ?_)));refine dS zk ?_ _;have hO5:=hO4.swap.set 0 (.slice va (k+1) vc);have hrow5:=(hrow.mono (Mem.jw hf)).push (s:=⟨false,[⟨s[k].toNat,s[k].toNat,(k+1:Nat)⟩]⟩) hed;have Hfin:=zh (zi hO5 hrow5);clear hO5 hrow5 hO4 hO3 hO2 hO hed hf hown3 hgrow hrow3 hS hS1 hS2 hS3 f3 c3 ho2 c1 f1;go_wp2;refine hX.out _ _ _ zo rfl ⟨k+1,_,_,_,zo,rfl,rfl,Hfin.out.1,?_⟩;have hg:=Hfin.out.2;rw[Bj];have e:s.data.toList.getD k 0=s[k]:=by
   rw[List.getD_eq_getElem?_getD];have:s.data.toList[k]?=some s[k]:=by
    rw[List.getElem?_eq_getElem (by simpa using hlt)];rfl
   rw[this];rfl
  rw[e];exact hg
 ·obtain rfl:k=s.size:=zo;have hO1:=hO.al #[Value.bool true,Value.slice none 0 0] 66
  go_wp2_with (at_builtin;refine aC iH rfl (.tmp 28) (.tmp 30) rfl v s.size xs rfl (hO1.third).row ⟨wr.heap.size,0,none⟩ 1 1 [.bool true,.slice none 0 0] rfl rfl (hO1.obj.news rfl) (by simp[Value.oneCell']) (by unfold maxLen;omega) zo ?_)
  intro va vc w3 hown3 hgrow hrow3;have hO2:=hO1.third.app hown3 hgrow hrow3 zS;have hS3:=hO2.third.obj;have f3:=hS3.frozen 0;have c3:=hS3.cell (i:=0) rfl;have l3:=hS3.lt;have g3:=hO2.fourth.obj.cell (i:=0) rfl;have g4:=hO2.fourth.obj.frozen 0;have g5:=hO2.fourth.obj.lt;have hO4:=(hO2.third.set 0 (.slice va (s.size+1) vc)).fourth.set 0 (.slice va (s.size+1) vc);have hrow4:=hrow.push (s:=(⟨true,[]⟩:Sn)) (CW mk);have hO5:=hO4.third.bD;have hln:(pW s.data.toList s.size ++ [(⟨true,[]⟩:Sn)]).length=s.size+1:=by simp[wL]
  have hst:=dZ (l:=pW s.data.toList s.size ++ [(⟨true,[]⟩:Sn)]) (by rw[hln];exact hO4.third.row) hrow4 hO4.third.free;have hfin:=aK hO5.done hst;have Hfin:=zh (zi hO5.below hfin);clear hO5 hst hfin hO4 hrow4 hown3 hgrow hrow3 hO2 hO1 hO;go_wp2;refine bodyPost_ret (v:=.agg #[.slice va (s.size+1) vc]) (by simp[results,Tryz.results63,go_sem,g3]) rfl ?_;exact hR.out _ _ ⟨_,rfl,Hfin.out.1,Hfin.out.2⟩
end Cl
