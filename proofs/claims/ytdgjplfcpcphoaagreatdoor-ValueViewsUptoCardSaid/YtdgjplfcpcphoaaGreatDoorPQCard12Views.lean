/- The law's walk. -/
import Derived.Test.YtdgjplfcpcphoaaGreatDoorProg
import Derived.BigQuiet
import Derived.Deep.Cut
import Derived.Deep.QuietTactic
import Derived.Laws.StructEq
import Derived.Lib.AppendStr
import Derived.Lib.Builder
import Derived.Lib.Hide
import Derived.Lib.ItoaLen
import Derived.Maps.OwnOps
import Derived.Maps.OwnSet
import Derived.OrdersHeld
import Derived.Outline
import Derived.StillTailTactics
import Derived.StringKeys
import Derived.WalkKit
import Derived.WalkLawsBesides
import Derived.WalkSpells
import Derived.Deep.RegionHeld
import Derived.Laws.CopyRow
import Derived.Laws.Tables
import Derived.BigFrame
import Derived.RangeFuncNested
import Derived.RangeFuncBound
import Derived.RangeFuncCalls
import Derived.RangeFuncLeaves
import Derived.OwnWalkIn
import Derived.TacticsInMore
import Derived.LoopNIn
import Derived.LoopIn
import Derived.Shelf.Strings.Builder1
import Derived.Shelf.Small.Wraps
import Derived.Shelf.LaysM
import Derived.Shelf.Strconv.Itoa3
import Derived.Shelf.Strconv.AppendIntPublic10
import Derived.Shelf.Spec.SlicesGrow
import Derived.Shelf.SlSortCmp.WholeK
import Derived.RegionTactic
import Derived.ChangeAlike
import Derived.Laws.BytesArg
import Derived.Laws.EntriesVeiled
import Derived.Laws.CopyOwn
import Derived.WalkMore
import Derived.Deep.Slices
import Derived.Lib.SmallJoins
import Derived.ChangeMaps5
import Derived.Carry
import Derived.KernelRfl
import Derived.ChangeArms
import Derived.Test.YtdgjplfcpcphoaaGreatDoorRows
import Derived.Test.YtdgjplfcpcphoaaGreatDoorCards
import Derived.Test.YtdgjplfcpcphoaaGreatDoorTie
import Derived.ProofKit
import Derived.OpenShut
import Derived.Deep.DeepHandedRow
import Derived.Lib.LaidTab
import Derived.Stop.LaidErr
import Derived.Test.YtdgjplfcpcphoaaGreatDoorZz
import Derived.Test.YtdgjplfcpcphoaaGreatDoorPkX14
import Derived.Test.YtdgjplfcpcphoaaGreatDoorPkX3
import Derived.Test.YtdgjplfcpcphoaaGreatDoorPkX4
import Derived.Test.YtdgjplfcpcphoaaGreatDoorPkX5
import Derived.Test.YtdgjplfcpcphoaaGreatDoorPkX1
import Derived.Test.YtdgjplfcpcphoaaGreatDoorPkX2
import Derived.Test.YtdgjplfcpcphoaaGreatDoorPkX10
import Derived.Test.YtdgjplfcpcphoaaGreatDoorPkX13
import Derived.Test.YtdgjplfcpcphoaaGreatDoorPkX27
import Derived.Test.YtdgjplfcpcphoaaGreatDoorPkX18
import Derived.Test.YtdgjplfcpcphoaaGreatDoorPkX9
import Derived.Test.YtdgjplfcpcphoaaGreatDoorPkX25
import Derived.Test.YtdgjplfcpcphoaaGreatDoorPkX16
import Derived.Test.YtdgjplfcpcphoaaGreatDoorPkX6
import Derived.Test.YtdgjplfcpcphoaaGreatDoorPkX15
import Derived.Test.YtdgjplfcpcphoaaGreatDoorPkX7
import Derived.Test.YtdgjplfcpcphoaaGreatDoorPkX11
import Derived.Test.YtdgjplfcpcphoaaGreatDoorPkX8
import Derived.Test.YtdgjplfcpcphoaaGreatDoorPkX12
import Derived.Test.YtdgjplfcpcphoaaGreatDoorPkX17
import Derived.Test.YtdgjplfcpcphoaaGreatDoorPkX19
import Derived.Test.YtdgjplfcpcphoaaGreatDoorPkX20
import Derived.Test.YtdgjplfcpcphoaaGreatDoorPkX21
import Derived.Test.YtdgjplfcpcphoaaGreatDoorPkX29
import Derived.Test.YtdgjplfcpcphoaaGreatDoorPkX28
import Derived.Test.YtdgjplfcpcphoaaGreatDoorPkX23
import Derived.Test.YtdgjplfcpcphoaaGreatDoorPkX24
import Derived.Test.YtdgjplfcpcphoaaGreatDoorPkX22
import Derived.Test.YtdgjplfcpcphoaaGreatDoorPkX26
set_option maxRecDepth 100000
set_option maxHeartbeats 16000000
namespace Cl
open Go Go.RowKit Go.Proofs
theorem Cs (u u2:Value) (c:St) (s:ByteArray) (m:Mem) (n:Nat) (w:World) (hm:m.inn w) (h1:gI (VAt m n) m u c.1) (h2:fV (VAt m n) m u2 c.2) (hs:s.size≤maxLen) :
 Calls Tryz.prog 30 #[.agg #[u,u2],.string s] w fun e w'=>BG m n (eU (accB s) c s) e∧Below w.heap.size w w':=by
 obtain⟨a1,c1,rfl,p1,q1,k1⟩:=h1;obtain⟨a2,c2,rfl,p2,q2,k2⟩:=h2;unfold maxLen at q1 q2;have HK:=zh (zi k1 k2);have hO:=((Own.start hm).al #[.slice a1 c.1.length c1,.slice a2 c.2.length c2] 45).al zcD 35;simp only[bB] at hO;have HO:=zh hO;have HSZ:=zh hs;clear k1 k2 hs hO;refine ay fun R hR=>?_
 go_enter Tryz.func30,Tryz.ntmps30
 go_wp2;refine au [1,2,4,6] (fun q vs wr=>∃(i:Nat),i≤c.1.length∧q=c.1.length - i∧vs=[.string s,.pointer (some ⟨w.heap.size,0,none⟩),.pointer (some ⟨w.heap.size+1,0,none⟩),.int .i64 (i:Int)]∧(∀j (hj:j<c.1.length),j<i→¬ c.1[j].1.1=s) ∧
  Own w m wr m [.obj (w.heap.size+1) 35 zcD,.obj w.heap.size 45 #[.slice a1 c.1.length c1,.slice a2 c.2.length c2]]) ?_ ?_
 ·exact⟨_,0,Nat.zero_le _,rfl,rfl,fun j hj h=>absurd h (Nat.not_lt_zero _),HO.out⟩
 clear HO;rintro X z q vs wr hX - ⟨i,hi,rfl,rfl,hA,hO⟩;simp[litL,lk];have HA:=zh hA;clear hA;have g0:=hO.swap.obj.cell (i:=0) rfl;have g1:=hO.swap.obj.cell (i:=1) rfl;have gl:=hO.swap.obj.lt;by_cases hlt:i<c.1.length
 ·obtain⟨b,off,rfl,h4⟩:=HK.out.1 (by intro h;simp[h] at hlt);have hfs:=(h4 i hlt).s;have hfp:=(h4 i hlt).p;obtain⟨x,y,hc,hx,hy⟩:=(h4 i hlt).v.cells;have hl2:(dcs (c.1[i]).2 x y).length=18:=rfl;have h1d:=cK hx hy;have HC:=zh (fun (w':World) (h:m.inn w') j u hj=>Mem.aj h (hc j u hj));have x1:=Mem.aj hO.inn hfs;have xl:=Mem.av hO.inn hfs;have HR:=zh (show c.1[i].1.1=s→BG m n (eU (accB s) c s) (.returned (.tuple #[bz (c.1[i]).2 x y,.int .i64 c.1[i].1.2])) from fun e=>by
   rw[DY hlt HA.out e];exact⟨x,y,rfl,hx.succ,hy.succ⟩)
  have HNX:=zh (show ¬ c.1[i].1.1=s→∀j (hj:j<c.1.length),j<i+1→¬ c.1[j].1.1=s from fun h j hj h3=>by
   by_cases e:j=i
   ·subst e;exact h
   ·exact HA.out j hj zo)
  have HO:=zh hO;unfold bz at HR;generalize dcs (c.1[i]).2 x y=D at *
  generalize c.1[i].1.1=lab at *
  generalize c.1[i].1.2=pr at *
  clear hO h4 hc hx hy;by_cases he:lab=s
  ·have hd:(lab.toList==s.toList)=true:=pX he;have HR2:=zh (HR.out he);clear HR HNX he
   go_upto_region 5 with (fail)
   refine aN [4,5] (fun vs w'=>vs=[.pointer (some ⟨w.heap.size+1,0,none⟩),.int .i64 pr]∧Own w m w' m [.obj (w.heap.size+1) 35 D.toArray]) ?_ ?_
   ·intro Y hY;refine fq (fun w'=>m.inn w'∧bD w' w.heap.size 45 #[.slice (some ⟨b,off,none⟩) c.1.length c1,.slice a2 c.2.length c2]) 13 zk ?_;have hO3:=HO.out.dr;have hS:=zi hO3.inn hO3.swap.obj;refine aD 0 rfl zk (fun _ _ _ h=>h) hS (aB rfl fun w' hS'=>by have q:=hS'.2.cell (i:=0) rfl;have q2:=hS'.2.lt;have q3:=Mem.av hS'.1 hfs;go_simp;rfl) ?_;refine aD 1 rfl zk (fun _ _ _ h=>h) hS (aB rfl fun w' hS'=>by have q:=hS'.2.cell (i:=0) rfl;have q2:=hS'.2.lt;have q3:=Mem.av hS'.1 hfs;go_simp;rfl) ?_;refine aD 2 rfl zk (fun _ _ _ h=>h) hS (aB rfl fun w' hS'=>by have q:=hS'.2.cell (i:=0) rfl;have q2:=hS'.2.lt;have q3:=Mem.av hS'.1 hfs;go_simp;rfl) ?_;refine aD 3 rfl zk (fun _ _ _ h=>h) hS (aB rfl fun w' hS'=>by have q:=hS'.2.cell (i:=0) rfl;have q2:=hS'.2.lt;have q3:=Mem.av hS'.1 hfs;go_simp;rfl) ?_;refine aD 4 rfl zk (fun _ _ _ h=>h) hS (aB rfl fun w' hS'=>by have q:=hS'.2.cell (i:=0) rfl;have q2:=hS'.2.lt;have q3:=Mem.av hS'.1 hfs;go_simp;rfl) ?_;go_simp;refine aD 5 rfl zk (fun _ _ _ h=>h) hS (aB rfl fun w' hS'=>tyD.exec rfl zg hl2 (HC.out w' hS'.1)) ?_;go_simp;refine aD 6 rfl zk (fun _ _ _ h=>h) hS (aB rfl fun w' hS'=>by have q:=hS'.2.cell (i:=0) rfl;have q2:=hS'.2.lt;have q4:=Mem.av hS'.1 hfp;go_simp;rfl) ?_;refine aD 7 rfl zk (fun _ _ _ h=>h) hS (aB rfl fun w' hS'=>by have q:=hS'.2.cell (i:=0) rfl;have q2:=hS'.2.lt;have q4:=Mem.av hS'.1 hfp;go_simp;rfl) ?_;refine aD 8 rfl zk (fun _ _ _ h=>h) hS (aB rfl fun w' hS'=>by have q:=hS'.2.cell (i:=0) rfl;have q2:=hS'.2.lt;have q4:=Mem.av hS'.1 hfp;go_simp;rfl) ?_;refine aD 9 rfl zk (fun _ _ _ h=>h) hS (aB rfl fun w' hS'=>by have q:=hS'.2.cell (i:=0) rfl;have q2:=hS'.2.lt;have q4:=Mem.av hS'.1 hfp;go_simp;rfl) ?_;go_simp;refine aD 10 rfl zk (fun _ _ _ h=>h) hS (aB rfl fun w' hS'=>by have q3:=Mem.aj hS'.1 hfp;have q4:=Mem.av hS'.1 hfp;go_simp;rfl) ?_;refine aD 11 rfl zk (fun _ _ _ h=>h) hS (aB rfl fun w' hS'=>by have q3:=Mem.aj hS'.1 hfp;have q4:=Mem.av hS'.1 hfp;go_simp;rfl) ?_;go_simp;refine aT 12 zk (aO rfl rfl (yS tyD (.tmp 4) (.tmp 28) rfl (cs:=D.toArray) zg zg rfl (by simpa using hl2) (fun u hu=>h1d u (by simpa using hu)) hO3.obj fun w2 ob2 hg2=>?_));have hO4:=hO3.setObj ob2 hg2;refine andS ⟨hO4.inn,hO4.swap.obj⟩ fun hS1=>?_;go_simp;refine aT 13 zk (aO rfl rfl (aK (by go_simp;first | exact⟨rfl,rfl⟩ | rfl) (lN rfl ?_)));refine fw zk ?_ _;exact hY.out _ _ rfl ⟨rfl,hO4.drop2⟩
   rintro z1 vs w3 - ⟨rfl,hO5⟩;simp[litL,lk];have hr:=tyD.load hl2 hO5.obj.all;have HB:=zh hO5.below;clear hO5;go_wp2;refine bodyPost_ret (v:=.tuple #[.agg D.toArray,.int .i64 pr]) (cZ Tryz.results30 rfl hr) rfl ?_;exact hR.out _ _ ⟨HR2.out,HB.out⟩
  ·have hd:(lab.toList==s.toList)=false:=pY he;have HNX2:=zh (HNX.out he);clear HR HNX he;go_wp2;exact hX.out _ _ _ zo rfl ⟨i+1,zo,rfl,rfl,HNX2.out,HO.out⟩
 obtain rfl:i=c.1.length:=zo;have HA0:=zh (fun j (hj:j<c.1.length)=>HA.out j hj hj);have HO:=zh hO;clear hO hX HA;go_wp2;refine au [1,2,4,7] (fun q vs wr=>∃(i:Nat),i≤c.2.length∧q=c.2.length - i∧vs=[.string s,.pointer (some ⟨w.heap.size,0,none⟩),.pointer (some ⟨w.heap.size+1,0,none⟩),.int .i64 (i:Int)]∧(∀j (hj:j<c.2.length),j<i→accB s c.2[j].1=false) ∧
  Own w m wr m [.obj (w.heap.size+1) 35 zcD,.obj w.heap.size 45 #[.slice a1 c.1.length c1,.slice a2 c.2.length c2]]) ?_ ?_
 ·exact⟨_,0,Nat.zero_le _,rfl,rfl,fun j hj h=>absurd h (Nat.not_lt_zero _),HO.out⟩
 clear HO g0 g1 gl;rintro X z q vs wr hX - ⟨i,hi,rfl,rfl,hA,hO⟩;simp[litL,lk];have HA:=zh hA;clear hA;have g1:=hO.swap.obj.cell (i:=1) rfl;have gl:=hO.swap.obj.lt;by_cases hlt:i<c.2.length
 ·obtain⟨b,off,rfl,h4⟩:=HK.out.2 (by intro h;simp[h] at hlt);obtain⟨kc,hkc,hks⟩:=(h4 i hlt).s;obtain⟨x,y,hc,hx,hy⟩:=(h4 i hlt).v.cells;have hl2:(dcs (c.2[i]).2 x y).length=18:=rfl;have h1d:=cK hx hy;have HC:=zh (fun (w':World) (h:m.inn w') j u hj=>Mem.aj h (hc j u hj));have x1:=Mem.aj hO.inn hkc;have xl:=Mem.av hO.inn hkc;have HR:=zh (show accB s c.2[i].1=true→BG m n (eU (accB s) c s) (.returned (.tuple #[bz (c.2[i]).2 x y,.int .i64 3])) from fun e=>by
   rw[DX HA0.out hlt HA.out e];exact⟨x,y,rfl,hx.succ,hy.succ⟩)
  have HNX:=zh (show accB s c.2[i].1=false→∀j (hj:j<c.2.length),j<i+1→accB s c.2[j].1=false from fun h j hj h3=>by
   by_cases e:j=i
   ·subst e;exact h
   ·exact HA.out j hj zo)
  have HAC:=zh (mV kc c.2[i].1 s m wr hO.inn hks HSZ.out);rw[show (tf (WF c.2[i].1)&&aF c.2[i].1 0 s.data.toList)=accB s c.2[i].1 from rfl] at HAC;obtain⟨ta,tc,rfl,-⟩:=hks;have HO:=zh hO;unfold bz at HR;generalize dcs (c.2[i]).2 x y=D at *
  generalize accB s c.2[i].1=ab at *
  clear hO h4 hc hx hy;cases ab
  ·have HNX2:=zh (HNX.out rfl);clear HR HNX
   go_wp2_with (go_at_call 35;refine HAC.out.mono ?_;rintro e w2 ⟨rfl,hb2⟩)
   exact hX.out _ _ _ zo rfl ⟨i+1,zo,rfl,rfl,HNX2.out,HO.out.move hb2⟩
  ·have HR2:=zh (HR.out rfl);clear HR HNX hX
   go_wp2_with (first
    | (go_at_call 35;refine HAC.out.mono ?_;rintro e w2 ⟨rfl,hb2⟩;have hO3:=HO.out.move hb2;have y1:=hO3.swap.obj.cell (i:=1) rfl;have y2:=hO3.swap.obj.lt;have xl2:=Nat.lt_of_lt_of_le xl hb2.size)
    | refine ae tyD rfl (.tmp 54) rfl rfl D hl2 (HC.out _ hO3.inn) ?_
    | (refine aH tyD rfl (.tmp 4) (.tmp 55) rfl (cs:=D.toArray) rfl rfl rfl (by simpa using hl2) (fun u hu=>h1d u (by simpa using hu)) hO3.obj ?_;intro w3 ob3 hg3;have hO4:=hO3.setObj ob3 hg3;have hr:=tyD.load hl2 ob3.all))
   refine bodyPost_ret (v:=.tuple #[.agg D.toArray,.int .i64 3]) (cZ Tryz.results30 rfl hr) rfl ?_;exact hR.out _ _ ⟨HR2.out,hO4.below⟩
 obtain rfl:i=c.2.length:=zo;have HR:=zh (show BG m n (eU (accB s) c s) (.returned (.tuple #[bz (botV,botV) bq bq,.int .i64 3])) by
  rw[DW HA0.out (fun j hj=>HA.out j hj hj)];exact⟨bq,bq,rfl,(VAt.leaf m false).mono zo,(VAt.leaf m false).mono zo⟩)
 have HO:=zh hO;clear hO hX HA HA0
 go_wp2_with (refine aH tyD rfl (.tmp 4) (.tmp 56) rfl (cs:=zcD) rfl rfl rfl rfl zD HO.out.obj ?_)
 intro w' ho hg;have HF:=zh (HO.out.setObj ho hg);have hr:=tyD.load (cs:=zcD.toList) rfl ho.all;clear HO hg ho;go_wp2;refine bodyPost_ret (v:=.tuple #[.agg zcD,.int .i64 3]) (cZ Tryz.results30 rfl hr) rfl ?_;exact hR.out _ _ ⟨HR.out,HF.out.below⟩
theorem vK (u u2:Value) (c:St) (s:ByteArray) (m:Mem) (n:Nat) (w:World) (hm:m.inn w) (htab:TabM m) (h1:gI (VAt m n) m u c.1) (h2:fV (VAt m n) m u2 c.2) (t1:vJ n c+1≤1048576) (hs:s.size≤maxLen) :
 Calls Tryz.prog 7 #[.agg #[u,u2],.string s] w fun e w'=>e=.returned (.bool true)∧Below w.heap.size w w':=by
 obtain⟨m1,l1,c1,hO1⟩:=gu 45 #[u,u2] (Own.start hm);obtain⟨m2,l2,c2,hO2⟩:=gu 45 #[u,u2] hO1;simp only[bB] at c2;have l12:=Mem.le_trans l1 l2;have k1:=gI.le l12 (fun _ _=>VAt.le l12) h1;have k2:=fV.le l12 (fun _ _=>VAt.le l12) h2;have HSZ:=zh hs;have HT:=zh (htab.le l12);have C0:=Mem.aA l2 (c1 0 u rfl);have C1:=Mem.aA l2 (c1 1 u2 rfl);have hS:=fH (n+1) (stV c) (stSl (w.heap.size+1)) m2 _ hO2.inn (ML (c2 0 _ rfl) (c2 1 _ rfl) k1 k2) (by rw[IW];exact t1);rw[show (stV c).val (stSl (w.heap.size+1))=.agg #[.bool false,.bool false,.bool false,.bool false,.slice none 0 0,.slice none 0 0,.slice none 0 0,.slice none 0 0,.slice (some ⟨w.heap.size+1,0,none⟩) 1 1] from rfl] at hS;have HS:=zh hS;have HVw:=zh (fun w' (h:m2.inn w')=>nN u u2 c s m2 n w' h k1 k2 hs);have HRw:=zh (fun w' (h:m2.inn w')=>Cs u u2 c s m2 n w' h k1 k2 hs);have HSm:=zh (@fI (n+1));have x0:=Mem.aj hO2.inn C0;have x1:=Mem.aj hO2.inn C1;have y0:=Mem.av hO2.inn C0;have HC:=zh (zi C0 C1);have HO:=zh hO2;clear l1 l2 l12 c1 c2 hO1 hO2 k1 k2 hS h1 h2 htab C0 C1;refine ay fun R hR=>?_
 go_enter Tryz.func7,Tryz.ntmps7
 go_wp2_with fail
 refine HS.out.mono ?_;rintro e w1 ⟨rfl,hb1⟩;have HO1:=zh (HO.out.move hb1);clear HO HS hb1 x0 x1 y0;by_cases hsm:gD (n+1) (stV c)=true
 case neg=>
  rw[Bool.eq_false_iff.2 hsm];clear hsm
  go_wp2_with fail
  refine (bv m2 _ HO1.out.inn HT.out).mono ?_;rintro e w2 ⟨rfl,hb2⟩;have HB:=zh (HO1.out.move hb2).below;clear HO1 hb2;go_wp2;exact hR.out _ _ ⟨rfl,HB.out⟩
 rw[hsm];have HK:=zh (show dG (n+1) (eU (accB s) c s).1 from DV hsm);clear hsm;have x0:=Mem.aj HO1.out.inn HC.out.1;have x1:=Mem.aj HO1.out.inn HC.out.2;have y0:=Mem.av HO1.out.inn HC.out.1;by_cases hz:s.size≤60
 case neg=>
  have hd:decide (60<(s.size:Int))=true:=decide_eq_true zo
  go_wp2_with fail
  refine (bv m2 _ HO1.out.inn HT.out).mono ?_;rintro e w2 ⟨rfl,hb2⟩;have HB:=zh (HO1.out.move hb2).below;clear HO1 hb2;go_wp2;exact hR.out _ _ ⟨rfl,HB.out⟩
 have hd:decide (60<(s.size:Int))=false:=decide_eq_false zo
 go_wp2_with fail
 refine (HVw.out _ HO1.out.inn).mono ?_;rintro e w2 ⟨⟨x,y,rfl,hx,hy⟩,hb2⟩;have hO2:=(HO1.out.move hb2).al zcD 35;have h1d:=cK hx hy;have hl:(dcs (eU (accB s) c s).1 x y).length=18:=rfl;have HX3:=zh (zi hx hy);unfold bz;generalize hD:dcs (eU (accB s) c s).1 x y=D at *
 have HD3:=zh hD;have HL3d:=zh hl;clear hD hx hy hb2 HO1 x0 x1 y0;have HO2:=zh hO2;clear hO2
 go_wp2_with (refine aH tyD rfl (.tmp 5) (.tmp 24) rfl (cs:=D.toArray) rfl rfl rfl (by simpa using hl) (fun u hu=>h1d u (by simpa using hu)) HO2.out.obj ?_)
 intro w3 ho hg;have hO3:=HO2.out.setObj ho hg;have c3:∀j u,D[j]?=some u→Mem.cell (Mem.add m2 w3 w2.heap.size) w2.heap.size j=some u:=fun j u hj=>Mem.dw hO3.obj (by simpa using hj);have l3:=Mem.gZ (w:=w3) hO3.gq;have hO5:=hO3.fZ;generalize hm3:Mem.add m2 w3 w2.heap.size=m3 at *
 have HO3:=zh hO5;have HL3:=zh l3;have HC3:=zh c3;clear hO3 hO5 l3 c3 hm3 ho hg HO2 h1d hl;have x0:=Mem.aj HO3.out.inn (Mem.aA HL3.out HC.out.1);have x1:=Mem.aj HO3.out.inn (Mem.aA HL3.out HC.out.2);have y0:=Mem.av HO3.out.inn (Mem.aA HL3.out HC.out.1)
 go_wp2_with fail
 refine (HRw.out _ (Mem.cz HL3.out HO3.out.inn)).mono ?_;rintro e w4 ⟨⟨x',y',rfl,hx,hy⟩,hb2⟩;have hO2:=(HO3.out.move hb2).al zcD 35;have h1d:=cK hx hy;have hl:(dcs (eU (accB s) c s).1 x' y').length=18:=rfl;have HX5:=zh (zi hx hy);unfold bz;generalize hD:dcs (eU (accB s) c s).1 x' y'=E at *
 have HD5:=zh hD;have HL5d:=zh hl;clear hD hx hy hb2 HO3 x0 x1 y0;have HO4:=zh hO2;clear hO2
 go_wp2_with (refine aH tyD rfl (.tmp 7) (.tmp 30) rfl (cs:=E.toArray) rfl rfl rfl (by simpa using hl) (fun u hu=>h1d u (by simpa using hu)) HO4.out.obj ?_)
 intro w5 ho hg;have hO3:=HO4.out.setObj ho hg;have c3:∀j u,E[j]?=some u→Mem.cell (Mem.add m3 w5 w4.heap.size) w4.heap.size j=some u:=fun j u hj=>Mem.dw hO3.obj (by simpa using hj);have l3:=Mem.gZ (w:=w5) hO3.gq;have hO5:=hO3.fZ;generalize hm3:Mem.add m3 w5 w4.heap.size=m5 at *
 have HO5:=zh hO5;have HL5:=zh l3;have HC5:=zh c3;clear hO3 hO5 l3 c3 hm3 ho hg HO4 h1d hl;have HQ1:=zh (show ∀j u,D[j]?=some u→World.cell? _ ⟨w2.heap.size,0+j,none⟩=some u from fun j u hj=>by rw[Nat.zero_add];exact Mem.aj HO5.out.inn (Mem.aA HL5.out (HC3.out j u hj)));have HQ2:=zh (show ∀j u,E[j]?=some u→World.cell? _ ⟨w4.heap.size,0+j,none⟩=some u from fun j u hj=>by rw[Nat.zero_add];exact Mem.aj HO5.out.inn (HC5.out j u hj));have HSM:=zh (HSm.out (eU (accB s) c s).1 (eU (accB s) c s).1 x y x' y' m5 _ HO5.out.inn (HX3.out.1.le (Mem.le_trans HL3.out HL5.out)) (HX3.out.2.le (Mem.le_trans HL3.out HL5.out)) (HX5.out.1.le (Mem.le_trans HL3.out HL5.out)) (HX5.out.2.le (Mem.le_trans HL3.out HL5.out)) HK.out HK.out);unfold bz at HSM;rw[HD3.out,HD5.out] at HSM;generalize eU (accB s) c s=rr at *
 go_wp2_with (first | refine ae tyD rfl (.tmp 5) rfl rfl D HL3d.out HQ1.out ?_ | refine ae tyD rfl (.tmp 7) rfl rfl E HL5d.out HQ2.out ?_)
 refine HSM.out.mono ?_;rintro e w6 ⟨rfl,hb6⟩;rw[aI trivial];have HO6:=zh (HO5.out.move hb6);clear HSM HQ1 HQ2 hb6 HO5
 go_wp2_with fail
 refine (bv m5 _ HO6.out.inn (HT.out.le (Mem.le_trans HL3.out HL5.out))).mono ?_;rintro e w7 ⟨rfl,hb7⟩;have HB:=zh (HO6.out.move hb7).below;clear HO6 hb7;go_wp2;exact hR.out _ _ ⟨rfl,HB.out⟩
end Cl
