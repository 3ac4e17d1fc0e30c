/- The law's walk. -/
import Derived.Test.YtdgjplfcpcphoaaGreatDoorProg
import Derived.BigQuiet
import Derived.Deep.Cut
import Derived.Deep.QuietTactic
import Derived.Laws.StructEq
import Derived.Lib.AppendStr
import Derived.Lib.Builder
import Derived.Lib.Hide
import Derived.Lib.ItoaLen
import Derived.Maps.OwnOps
import Derived.Maps.OwnSet
import Derived.OrdersHeld
import Derived.Outline
import Derived.StillTailTactics
import Derived.StringKeys
import Derived.WalkKit
import Derived.WalkLawsBesides
import Derived.WalkSpells
import Derived.Deep.RegionHeld
import Derived.Laws.CopyRow
import Derived.Laws.Tables
import Derived.BigFrame
import Derived.RangeFuncNested
import Derived.RangeFuncBound
import Derived.RangeFuncCalls
import Derived.RangeFuncLeaves
import Derived.OwnWalkIn
import Derived.TacticsInMore
import Derived.LoopNIn
import Derived.LoopIn
import Derived.Shelf.Strings.Builder1
import Derived.Shelf.Small.Wraps
import Derived.Shelf.LaysM
import Derived.Shelf.Strconv.Itoa3
import Derived.Shelf.Strconv.AppendIntPublic10
import Derived.Shelf.Spec.SlicesGrow
import Derived.Shelf.SlSortCmp.WholeK
import Derived.RegionTactic
import Derived.ChangeAlike
import Derived.Laws.BytesArg
import Derived.Laws.EntriesVeiled
import Derived.Laws.CopyOwn
import Derived.Deep.Slices
import Derived.Lib.SmallJoins
import Derived.ChangeMaps5
import Derived.Carry
import Derived.KernelRfl
import Derived.ChangeArms
import Derived.WalkMore
import Derived.Test.YtdgjplfcpcphoaaGreatDoorRows
import Derived.Test.YtdgjplfcpcphoaaGreatDoorCards
import Derived.Test.YtdgjplfcpcphoaaGreatDoorTie
import Derived.ProofKit
import Derived.OpenShut
import Derived.Deep.DeepHandedRow
import Derived.Lib.LaidTab
import Derived.Stop.LaidErr
import Derived.Test.YtdgjplfcpcphoaaGreatDoorZz
import Derived.Test.YtdgjplfcpcphoaaGreatDoorPkX14
import Derived.Test.YtdgjplfcpcphoaaGreatDoorPkX3
import Derived.Test.YtdgjplfcpcphoaaGreatDoorPkX4
import Derived.Test.YtdgjplfcpcphoaaGreatDoorPkX5
import Derived.Test.YtdgjplfcpcphoaaGreatDoorPkX1
import Derived.Test.YtdgjplfcpcphoaaGreatDoorPkX2
import Derived.Test.YtdgjplfcpcphoaaGreatDoorPkX10
import Derived.Test.YtdgjplfcpcphoaaGreatDoorPkX13
import Derived.Test.YtdgjplfcpcphoaaGreatDoorPkX18
import Derived.Test.YtdgjplfcpcphoaaGreatDoorPkX9
import Derived.Test.YtdgjplfcpcphoaaGreatDoorPkX16
import Derived.Test.YtdgjplfcpcphoaaGreatDoorPkX6
import Derived.Test.YtdgjplfcpcphoaaGreatDoorPkX15
import Derived.Test.YtdgjplfcpcphoaaGreatDoorPkX7
import Derived.Test.YtdgjplfcpcphoaaGreatDoorPkX11
import Derived.Test.YtdgjplfcpcphoaaGreatDoorPkX8
import Derived.Test.YtdgjplfcpcphoaaGreatDoorPkX12
import Derived.Test.YtdgjplfcpcphoaaGreatDoorPkX17
import Derived.Test.YtdgjplfcpcphoaaGreatDoorPkX19
import Derived.Test.YtdgjplfcpcphoaaGreatDoorPkX20
import Derived.Test.YtdgjplfcpcphoaaGreatDoorPkX21
import Derived.Test.YtdgjplfcpcphoaaGreatDoorPkX23
import Derived.Test.YtdgjplfcpcphoaaGreatDoorPkX24
import Derived.Test.YtdgjplfcpcphoaaGreatDoorPkX26
import Derived.Test.YtdgjplfcpcphoaaGreatDoorPkX22
set_option maxRecDepth 100000
set_option maxHeartbeats 16000000
namespace Cl
open Go Go.RowKit Go.Proofs
theorem Ct (u u2:Value) (c:Lc) (i:Int) (m:Mem) (n:Nat) (w:World) (hm:m.inn w) (h1:bP (VAt m n) m u c.1) (h2:bP (VAt m n) m u2 c.2) :
 Calls Tryz.prog 33 #[.agg #[u,u2],.int .i64 i] w fun e w'=>vO m n (gN c i) e∧Below w.heap.size w w':=by
 obtain⟨a1,c1,rfl,p1,q1,k1⟩:=h1;obtain⟨a2,c2,rfl,p2,q2,k2⟩:=h2;unfold maxLen at q1 q2;have hO:=(((Own.start hm).al #[.slice a1 c.1.length c1,.slice a2 c.2.length c2] 51).al zcD 35);simp only[bB] at hO;have HO:=zh hO;have HK:=zh (zi k1 k2);clear hO k1 k2;refine ay fun R hR=>?_;by_cases h0:i<0
 ·have hd:decide (0≤i)=false:=decide_eq_false zo;have hd2:decide (i<0)=true:=decide_eq_true h0;have HR:=zh (show vO m n (gN c i) (.returned (.tuple #[bz (botV,botV) bq bq,.bool false])) by
   rw[sj (.inl h0)];exact⟨bq,bq,rfl,(VAt.leaf m false).mono zo,(VAt.leaf m false).mono zo⟩)
  clear h0
  go_enter Tryz.func33,Tryz.ntmps33
  go_wp2_with (first | refine aH tyD rfl (.tmp 4) (.tmp 27) rfl (cs:=zcD) rfl rfl rfl rfl zD HO.out.obj ?_ | refine aH tyD rfl (.tmp 4) (.tmp 8) rfl (cs:=zcD) rfl rfl rfl rfl zD HO.out.obj ?_)
  intro w' ho hg;have HF:=zh (HO.out.setObj ho hg);have hr:=tyD.load (cs:=zcD.toList) rfl ho.all;clear HO hg ho;go_wp2;refine bodyPost_ret (v:=.tuple #[.agg zcD,.bool false]) (cZ Tryz.results33 rfl hr) rfl ?_;exact hR.out _ _ ⟨HR.out,HF.out.below⟩
 obtain⟨k,rfl⟩:=Int.eq_ofNat_of_zero_le (by omega:0≤i);by_cases h1:k<c.1.length
 ·obtain⟨b,off,rfl,h4⟩:=HK.out.1 (by intro h;simp[h] at h1);obtain⟨x,y,hc,hx,hy⟩:=(h4 k h1).cells;have hl:(dcs c.1[k] x y).length=18:=rfl;have h1d:=cK hx hy;have hcl:=Mem.av HO.out.inn (hc 0 _ rfl);have HC:=zh (fun j u hj=>Mem.aj HO.out.inn (hc j u hj));have HR:=zh (show vO m n (gN c (k:Int)) (.returned (.tuple #[bz c.1[k] x y,.bool true])) by
   rw[EI h1];exact⟨x,y,rfl,hx.succ,hy.succ⟩)
  unfold bz at HR;generalize dcs c.1[k] x y=D at *
  clear h4 hc hx hy
  go_enter Tryz.func33,Tryz.ntmps33
  go_wp2_with (first
   | refine ae tyD rfl (.tmp 19) rfl rfl D hl HC.out ?_
   | refine ae tyD rfl (.tmp 17) rfl rfl D hl HC.out ?_
   | refine aH tyD rfl (.tmp 4) (.tmp 18) rfl (cs:=D.toArray) rfl rfl rfl (by simpa using hl) (fun u hu=>h1d u (by simpa using hu)) HO.out.obj ?_)
  intro w' ho hg;have HF:=zh (HO.out.setObj ho hg);have hr:=tyD.load hl ho.all;clear HO hg ho HC;go_wp2;refine bodyPost_ret (v:=.tuple #[.agg D.toArray,.bool true]) (cZ Tryz.results33 rfl hr) rfl ?_;exact hR.out _ _ ⟨HR.out,HF.out.below⟩
 by_cases h2:0<c.2.length
 ·obtain⟨b,off,rfl,h4⟩:=HK.out.2 (by intro h;simp[h] at h2);obtain⟨x,y,hc,hx,hy⟩:=(h4 0 h2).cells;simp only[Nat.zero_mul,Nat.add_zero] at hc;have hl:(dcs c.2[0] x y).length=18:=rfl;have h1d:=cK hx hy;have hcl:=Mem.av HO.out.inn (hc 0 _ rfl);have HC:=zh (fun j u hj=>Mem.aj HO.out.inn (hc j u hj));have HR:=zh (show vO m n (gN c (k:Int)) (.returned (.tuple #[bz c.2[0] x y,.bool true])) by
   rw[wV zo (by simpa using h1) h2];exact⟨x,y,rfl,hx.succ,hy.succ⟩)
  unfold bz at HR;generalize dcs c.2[0] x y=D at *
  clear h4 hc hx hy
  go_enter Tryz.func33,Tryz.ntmps33
  go_wp2_with (first
   | refine ae tyD rfl (.tmp 32) rfl rfl D hl HC.out ?_
   | refine ae tyD rfl (.tmp 25) rfl rfl D hl HC.out ?_
   | refine aH tyD rfl (.tmp 4) (.tmp 26) rfl (cs:=D.toArray) rfl rfl rfl (by simpa using hl) (fun u hu=>h1d u (by simpa using hu)) HO.out.obj ?_)
  intro w' ho hg;have HF:=zh (HO.out.setObj ho hg);have hr:=tyD.load hl ho.all;clear HO hg ho HC;go_wp2;refine bodyPost_ret (v:=.tuple #[.agg D.toArray,.bool true]) (cZ Tryz.results33 rfl hr) rfl ?_;exact hR.out _ _ ⟨HR.out,HF.out.below⟩
 ·have HR:=zh (show vO m n (gN c (k:Int)) (.returned (.tuple #[bz (botV,botV) bq bq,.bool false])) by
   rw[sj (.inr ⟨by simpa using h1,zo⟩)];exact⟨bq,bq,rfl,(VAt.leaf m false).mono zo,(VAt.leaf m false).mono zo⟩)
  go_enter Tryz.func33,Tryz.ntmps33
  go_wp2_with (refine aH tyD rfl (.tmp 4) (.tmp 27) rfl (cs:=zcD) rfl rfl rfl rfl zD HO.out.obj ?_)
  intro w' ho hg;have HF:=zh (HO.out.setObj ho hg);have hr:=tyD.load (cs:=zcD.toList) rfl ho.all;clear HO hg ho;go_wp2;refine bodyPost_ret (v:=.tuple #[.agg zcD,.bool false]) (cZ Tryz.results33 rfl hr) rfl ?_;exact hR.out _ _ ⟨HR.out,HF.out.below⟩
end Cl
namespace Cl
open Go Go.RowKit Go.Proofs Go.WideShapes Go.ChangeShapes Go.Deep Go.Joins
section
variable {H:Type} {enc:TypeId × Value→H} {w:World} {spare:Nat→Bool} {held:Bool} {B:DataW H→Nat}
theorem LF (hB:mM B) {r:Reach} {b0:Nat} {v:Value} {d:DataW H} {p:List MemPlace} (hv:Value.okWide Tryz.prog w r b0 51 v) (h:DataW.Trod enc Tryz.prog w 0 spare held 51 v d p) :
 ∃(n:Nat) (u u':Value) (c:Lc),v=.agg #[u,u']∧bP (VAt (Mem.of w) n) (Mem.of w) u c.1∧bP (VAt (Mem.of w) n) (Mem.of w) u' c.2∧yD n c+1≤B d:=by
 obtain⟨cs,rfl,hsz⟩:=okWide_struct Tryz.underlying51 hv;obtain⟨fuel,hf⟩:=h;obtain⟨y0,y1,n,rfl,hl,h0,h1,hb⟩:=fT hB Tryz.underlying51 hf;have e2:Tryz.prog.cellsOf 51=2:=by kernel_rfl
 have e1:Tryz.prog.cellsOf 49=1:=by kernel_rfl
 rw[e2] at hl;obtain⟨l⟩:=cs;obtain⟨c0,c1,rfl⟩:=CZ hl;simp[e1] at h0 h1;obtain⟨u,l,g1,k1,b1⟩:=oI hB (pu hB n) (Nat.le_succ n) h0;obtain⟨u',l',g2,k2,b2⟩:=oI hB (pu hB n) (Nat.le_succ n) h1;cases g1;cases g2;exact⟨_,_,_,(l,l'),rfl,k1,k2,by unfold yD;simp only at hb ⊢;omega⟩
end
end Cl
namespace Cl
open Go Go.RowKit Go.Proofs
def lcV (c:Lc):Vl:=.mk false dJ [c] []
abbrev lcSl (g:Nat):Sl:=⟨.slice none 0 0,.slice none 0 0,.slice none 0 0,.slice (some ⟨g,0,none⟩) 1 1,.slice none 0 0⟩
theorem OC {m:Mem} {n:Nat} {c:Lc} {g:Nat} {u u2:Value} (h1:m.cell g 0=some u) (h2:m.cell g 1=some u2) (k1:bP (VAt m n) m u c.1) (k2:bP (VAt m n) m u2 c.2):VAt m (n+1) (lcSl g) (lcV c):=
 ⟨(VAt.leaf m false).1,MO ⟨u,u2,h1,h2,k1,k2⟩,cu _ _⟩
theorem NB {n:Nat} {c:Lc}:vcnt (n+1) (lcV c)=yD n c+1:=by
 rw[qm];simp[lcV,Vl.lists,Vl.structs];omega
theorem LJ {n:Nat} {c:Lc} {i:Int} (h:gD (n+1) (lcV c)=true):dG (n+1) (gN c i).1:=by
 have hc:c∈(lcV c).lists:=by simp[lcV,Vl.lists]
 unfold gN
 split
 ·exact pQ h (jK hc (List.mem_append.2 (.inl (List.getElem_mem _))))
 ·split
  ·exact pQ h (jK hc (List.mem_append.2 (.inr (List.getElem_mem _))))
  ·exact Bl
theorem vM (u u2:Value) (c:Lc) (i:Int) (m:Mem) (n:Nat) (w:World) (hm:m.inn w) (htab:TabM m) (h1:bP (VAt m n) m u c.1) (h2:bP (VAt m n) m u2 c.2) (t1:yD n c+1≤1048576) (_ : -9223372036854775808≤i∧i≤9223372036854775807) :
 Calls Tryz.prog 8 #[.agg #[u,u2],.int .i64 i] w fun e w'=>e=.returned (.bool true)∧Below w.heap.size w w':=by
 obtain⟨m1,l1,c1,hO1⟩:=gu 51 #[u,u2] (Own.start hm);obtain⟨m2,l2,c2,hO2⟩:=gu 51 #[u,u2] hO1;simp only[bB] at c2;have l12:=Mem.le_trans l1 l2;have k1:=bP.le l12 (fun _ _=>VAt.le l12) h1;have k2:=bP.le l12 (fun _ _=>VAt.le l12) h2;have HT:=zh (htab.le l12);have C0:=Mem.aA l2 (c1 0 u rfl);have C1:=Mem.aA l2 (c1 1 u2 rfl);have hS:=fH (n+1) (lcV c) (lcSl (w.heap.size+1)) m2 _ hO2.inn (OC (c2 0 _ rfl) (c2 1 _ rfl) k1 k2) (by rw[NB];exact t1);rw[show (lcV c).val (lcSl (w.heap.size+1))=.agg #[.bool false,.bool false,.bool false,.bool false,.slice none 0 0,.slice none 0 0,.slice none 0 0,.slice (some ⟨w.heap.size+1,0,none⟩) 1 1,.slice none 0 0] from rfl] at hS;have HS:=zh hS;have HVw:=zh (fun w' (h:m2.inn w')=>nO u u2 c i m2 n w' h k1 k2);have HRw:=zh (fun w' (h:m2.inn w')=>Ct u u2 c i m2 n w' h k1 k2);have HSm:=zh (@fI (n+1));have x0:=Mem.aj hO2.inn C0;have x1:=Mem.aj hO2.inn C1;have y0:=Mem.av hO2.inn C0;have HC:=zh (zi C0 C1);have HO:=zh hO2;clear l1 l2 l12 c1 c2 hO1 hO2 k1 k2 hS h1 h2 htab C0 C1;refine ay fun R hR=>?_
 go_enter Tryz.func8,Tryz.ntmps8
 go_wp2_with fail
 refine HS.out.mono ?_;rintro e w1 ⟨rfl,hb1⟩;have HO1:=zh (HO.out.move hb1);clear HO HS hb1 x0 x1 y0;by_cases hsm:gD (n+1) (lcV c)=true
 case neg=>
  rw[Bool.eq_false_iff.2 hsm];clear hsm
  go_wp2_with fail
  refine (bv m2 _ HO1.out.inn HT.out).mono ?_;rintro e w2 ⟨rfl,hb2⟩;have HB:=zh (HO1.out.move hb2).below;clear HO1 hb2;go_wp2;exact hR.out _ _ ⟨rfl,HB.out⟩
 rw[hsm];have HK:=zh (show dG (n+1) (gN c i).1 from LJ hsm);clear hsm;have x0:=Mem.aj HO1.out.inn HC.out.1;have x1:=Mem.aj HO1.out.inn HC.out.2;have y0:=Mem.av HO1.out.inn HC.out.1
 go_wp2_with fail
 refine (HVw.out _ HO1.out.inn).mono ?_;rintro e w2 ⟨⟨x,y,rfl,hx,hy⟩,hb2⟩;have hO2:=(HO1.out.move hb2).al zcD 35;have h1d:=cK hx hy;have hl:(dcs (gN c i).1 x y).length=18:=rfl;have HX3:=zh (zi hx hy);unfold bz;generalize hD:dcs (gN c i).1 x y=D at *
 have HD3:=zh hD;have HL3d:=zh hl;clear hD hx hy hb2 HO1 x0 x1 y0;have HO2:=zh hO2;clear hO2
 go_wp2_with (refine aH tyD rfl (.tmp 5) (.tmp 19) rfl (cs:=D.toArray) rfl rfl rfl (by simpa using hl) (fun u hu=>h1d u (by simpa using hu)) HO2.out.obj ?_)
 intro w3 ho hg;have hO3:=HO2.out.setObj ho hg;have c3:∀j u,D[j]?=some u→Mem.cell (Mem.add m2 w3 w2.heap.size) w2.heap.size j=some u:=fun j u hj=>Mem.dw hO3.obj (by simpa using hj);have l3:=Mem.gZ (w:=w3) hO3.gq;have hO5:=hO3.fZ;generalize hm3:Mem.add m2 w3 w2.heap.size=m3 at *
 have HO3:=zh hO5;have HL3:=zh l3;have HC3:=zh c3;clear hO3 hO5 l3 c3 hm3 ho hg HO2 h1d hl;have x0:=Mem.aj HO3.out.inn (Mem.aA HL3.out HC.out.1);have x1:=Mem.aj HO3.out.inn (Mem.aA HL3.out HC.out.2);have y0:=Mem.av HO3.out.inn (Mem.aA HL3.out HC.out.1)
 go_wp2_with fail
 refine (HRw.out _ (Mem.cz HL3.out HO3.out.inn)).mono ?_;rintro e w4 ⟨⟨x',y',rfl,hx,hy⟩,hb2⟩;have hO2:=(HO3.out.move hb2).al zcD 35;have h1d:=cK hx hy;have hl:(dcs (gN c i).1 x' y').length=18:=rfl;have HX5:=zh (zi hx hy);unfold bz;generalize hD:dcs (gN c i).1 x' y'=E at *
 have HD5:=zh hD;have HL5d:=zh hl;clear hD hx hy hb2 HO3 x0 x1 y0;have HO4:=zh hO2;clear hO2
 go_wp2_with (refine aH tyD rfl (.tmp 7) (.tmp 25) rfl (cs:=E.toArray) rfl rfl rfl (by simpa using hl) (fun u hu=>h1d u (by simpa using hu)) HO4.out.obj ?_)
 intro w5 ho hg;have hO3:=HO4.out.setObj ho hg;have c3:∀j u,E[j]?=some u→Mem.cell (Mem.add m3 w5 w4.heap.size) w4.heap.size j=some u:=fun j u hj=>Mem.dw hO3.obj (by simpa using hj);have l3:=Mem.gZ (w:=w5) hO3.gq;have hO5:=hO3.fZ;generalize hm3:Mem.add m3 w5 w4.heap.size=m5 at *
 have HO5:=zh hO5;have HL5:=zh l3;have HC5:=zh c3;clear hO3 hO5 l3 c3 hm3 ho hg HO4 h1d hl;have HQ1:=zh (show ∀j u,D[j]?=some u→World.cell? _ ⟨w2.heap.size,0+j,none⟩=some u from fun j u hj=>by rw[Nat.zero_add];exact Mem.aj HO5.out.inn (Mem.aA HL5.out (HC3.out j u hj)));have HQ2:=zh (show ∀j u,E[j]?=some u→World.cell? _ ⟨w4.heap.size,0+j,none⟩=some u from fun j u hj=>by rw[Nat.zero_add];exact Mem.aj HO5.out.inn (HC5.out j u hj));have HSM:=zh (HSm.out (gN c i).1 (gN c i).1 x y x' y' m5 _ HO5.out.inn (HX3.out.1.le (Mem.le_trans HL3.out HL5.out)) (HX3.out.2.le (Mem.le_trans HL3.out HL5.out)) (HX5.out.1.le (Mem.le_trans HL3.out HL5.out)) (HX5.out.2.le (Mem.le_trans HL3.out HL5.out)) HK.out HK.out);unfold bz at HSM;rw[HD3.out,HD5.out] at HSM;generalize gN c i=rr at *
 go_wp2_with (first | refine ae tyD rfl (.tmp 5) rfl rfl D HL3d.out HQ1.out ?_ | refine ae tyD rfl (.tmp 7) rfl rfl E HL5d.out HQ2.out ?_)
 refine HSM.out.mono ?_;rintro e w6 ⟨rfl,hb6⟩;rw[aI trivial];have HO6:=zh (HO5.out.move hb6);clear HSM HQ1 HQ2 hb6 HO5
 go_wp2_with fail
 refine (bv m5 _ HO6.out.inn (HT.out.le (Mem.le_trans HL3.out HL5.out))).mono ?_;rintro e w7 ⟨rfl,hb7⟩;have HB:=zh (HO6.out.move hb7).below;clear HO6 hb7;go_wp2;exact hR.out _ _ ⟨rfl,HB.out⟩
end Cl
