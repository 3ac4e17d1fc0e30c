/- Lemmas for the proofs of chapter 11. -/
import Derived.Test.YtdgjplfcpcphoaaGreatDoorProg
import Derived.BigQuiet
import Derived.Deep.Cut
import Derived.Deep.QuietTactic
import Derived.Laws.StructEq
import Derived.Lib.AppendStr
import Derived.Lib.Builder
import Derived.Lib.Hide
import Derived.Lib.ItoaLen
import Derived.Maps.OwnOps
import Derived.Maps.OwnSet
import Derived.OrdersHeld
import Derived.Outline
import Derived.StillTailTactics
import Derived.StringKeys
import Derived.WalkKit
import Derived.WalkLawsBesides
import Derived.WalkSpells
import Derived.Deep.RegionHeld
import Derived.Laws.CopyRow
import Derived.Laws.Tables
import Derived.BigFrame
import Derived.RangeFuncNested
import Derived.RangeFuncBound
import Derived.RangeFuncCalls
import Derived.RangeFuncLeaves
import Derived.OwnWalkIn
import Derived.TacticsInMore
import Derived.LoopNIn
import Derived.LoopIn
import Derived.Shelf.Strings.Builder1
import Derived.Shelf.Small.Wraps
import Derived.Shelf.LaysM
import Derived.Shelf.Strconv.Itoa3
import Derived.Shelf.Strconv.AppendIntPublic10
import Derived.Shelf.Spec.SlicesGrow
import Derived.Shelf.SlSortCmp.WholeK
import Derived.RegionTactic
import Derived.ChangeAlike
import Derived.Laws.BytesArg
import Derived.Laws.EntriesVeiled
import Derived.Laws.CopyOwn
import Derived.WalkMore
import Derived.Test.YtdgjplfcpcphoaaGreatDoorZz
import Derived.Test.YtdgjplfcpcphoaaGreatDoorPkX14
import Derived.Test.YtdgjplfcpcphoaaGreatDoorPkX3
import Derived.Test.YtdgjplfcpcphoaaGreatDoorPkX4
import Derived.Test.YtdgjplfcpcphoaaGreatDoorPkX5
import Derived.Test.YtdgjplfcpcphoaaGreatDoorPkX1
import Derived.Test.YtdgjplfcpcphoaaGreatDoorPkX2
import Derived.Test.YtdgjplfcpcphoaaGreatDoorPkX10
import Derived.Test.YtdgjplfcpcphoaaGreatDoorPkX13
import Derived.Test.YtdgjplfcpcphoaaGreatDoorPkX18
import Derived.Test.YtdgjplfcpcphoaaGreatDoorPkX9
import Derived.Test.YtdgjplfcpcphoaaGreatDoorPkX16
import Derived.Test.YtdgjplfcpcphoaaGreatDoorPkX6
import Derived.Test.YtdgjplfcpcphoaaGreatDoorPkX15
import Derived.Test.YtdgjplfcpcphoaaGreatDoorPkX7
import Derived.Test.YtdgjplfcpcphoaaGreatDoorPkX11
import Derived.Test.YtdgjplfcpcphoaaGreatDoorPkX8
import Derived.Test.YtdgjplfcpcphoaaGreatDoorPkX12
import Derived.Test.YtdgjplfcpcphoaaGreatDoorPkX17
import Derived.Test.YtdgjplfcpcphoaaGreatDoorPkX19
import Derived.Test.YtdgjplfcpcphoaaGreatDoorPkX20
set_option maxRecDepth 100000
set_option maxHeartbeats 16000000
namespace Cl
open Go Go.RowKit Go.Proofs
theorem yS {P:Program} {t:TypeId} {n:Nat} {w:World} {o:Oper} {a:Act} {K:Act→World→Prop} {Q:Exit→Act→World→Prop} (S:qd P t n) (p v:Operand) (hop:o.op=Op.store t p v) {g:Nat} {T:TypeId} {cur cs:Array Value} (hp:a.eval p=.pointer (some ⟨g,0,none⟩)) (hv:a.eval v=.agg cs) (hcur:cur.size=n) (hl:cs.size=n) (h1:∀u∈cs.toList,u.oneCell'=true) (hO:bD w g T cur)
 (hK:∀w',bD w' g T cs→w.grownBy w' (some g)→K (a.put o.dst undef) w'):o.wp P a w K Q:=by
 have hst:=run_storeCells_from (P:=P) g T cs.toList 0 cur w hO.get (by simp;omega) h1;simp only[List.take_zero,List.nil_append,Array.toArray_toList] at hst;unfold Oper.wp;simp[execOp,hop,hp,hv,Instr.storeAt,Instr.sureAddr,storeVar,S.size,Value.cells,hl,hst,Result.andThen];exact hK _ ⟨setRow_heap w g cur cs T (0,0) hO.get⟩ (grownBy_setRow' hO.get)
theorem DY {acc:Table→Bool} {c:St} {s:ByteArray} {i:Nat} (hi:i<c.1.length) (h:∀j (hj:j<c.1.length),j<i→¬ c.1[j].1.1=s) (e:c.1[i].1.1=s):eU acc c s=(c.1[i].2,c.1[i].1.2):=by
 unfold eU;rw[Dg i hi (fun j hj hlt=>decide_eq_false (h j hj hlt)) (decide_eq_true e)]
theorem DX {acc:Table→Bool} {c:St} {s:ByteArray} {i:Nat} (h0:∀j (hj:j<c.1.length),¬ c.1[j].1.1=s) (hi:i<c.2.length) (h:∀j (hj:j<c.2.length),j<i→acc c.2[j].1=false) (e:acc c.2[i].1=true):eU acc c s=(c.2[i].2,3):=by
 unfold eU;rw[uF (p:=fun f:Fd=>decide (f.1.1=s)) (fun j hj=>decide_eq_false (h0 j hj)),Dg (p:=fun k:Kl=>acc k.1) i hi (fun j hj hlt=>h j hj hlt) e]
theorem DW {acc:Table→Bool} {c:St} {s:ByteArray} (h0:∀j (hj:j<c.1.length),¬ c.1[j].1.1=s) (h:∀j (hj:j<c.2.length),acc c.2[j].1=false):eU acc c s=((botV,botV),3):=by
 unfold eU;rw[uF (p:=fun f:Fd=>decide (f.1.1=s)) (fun j hj=>decide_eq_false (h0 j hj)),uF (p:=fun k:Kl=>acc k.1) (fun j hj=>h j hj)]
def BG (m:Mem) (n:Nat) (r:Vd × Int) (e:Ending):Prop:=∃x y,e=.returned (.tuple #[bz r.1 x y,.int .i64 r.2])∧VAt m (n+1) x r.1.1∧VAt m (n+1) y r.1.2
theorem nN (u u2:Value) (c:St) (s:ByteArray) (m:Mem) (n:Nat) (w:World) (hm:m.inn w) (h1:gI (VAt m n) m u c.1) (h2:fV (VAt m n) m u2 c.2) (hs:s.size≤maxLen) :
 Calls Tryz.prog 29 #[.agg #[u,u2],.string s] w fun e w'=>BG m n (eU (accB s) c s) e∧Below w.heap.size w w':=by
 obtain⟨a1,c1,rfl,p1,q1,k1⟩:=h1;obtain⟨a2,c2,rfl,p2,q2,k2⟩:=h2;unfold maxLen at q1 q2;have HK:=zh (zi k1 k2);have HO:=zh (((Own.start hm).al #[.slice a1 c.1.length c1,.slice a2 c.2.length c2] 45).al zcD 35);have HSZ:=zh hs;clear k1 k2 hs;refine ay fun R hR=>?_
 go_enter Tryz.func29,Tryz.ntmps29
 go_wp2;refine au [1,2,4,12,11,13] (fun q vs wr=>∃(i:Nat),i≤c.1.length∧q=c.1.length - i∧vs=[.string s,.pointer (some ⟨w.heap.size,0,none⟩),.pointer (some ⟨w.heap.size+1,0,none⟩),.int .i64 (c.1.length:Int),.slice a1 c.1.length c1,.int .i64 (i:Int)]∧(∀j (hj:j<c.1.length),j<i→¬ c.1[j].1.1=s) ∧
  Own w m wr m [.obj (w.heap.size+1) 35 zcD,.obj w.heap.size 45 #[.slice a1 c.1.length c1,.slice a2 c.2.length c2]]) ?_ ?_
 ·exact⟨_,0,Nat.zero_le _,rfl,rfl,fun j hj h=>absurd h (Nat.not_lt_zero _),by simpa only[bB] using HO.out⟩
 clear HO;rintro X z q vs wr hX - ⟨i,hi,rfl,rfl,hA,hO⟩;simp[litL,lk];have HA:=zh hA;clear hA;by_cases hlt:i<c.1.length
 ·obtain⟨b,off,rfl,h4⟩:=HK.out.1 (by intro h;simp[h] at hlt);obtain⟨x,y,hc,hx,hy⟩:=(h4 i hlt).cells;have hl:(fcs c.1[i] x y).length=20:=rfl;have hl2:(dcs (c.1[i]).2 x y).length=18:=rfl;have h1c:=nZ hx hy;have h1d:=cK hx hy;have HC:=zh (fun (w':World) (h:m.inn w') j u hj=>Mem.aj h (hc j u hj));have hcl:=Mem.av hO.inn (hc 0 _ rfl);have H0:(fcs c.1[i] x y).toArray[0]?=some (.string c.1[i].1.1):=rfl;have H1:(fcs c.1[i] x y).toArray[1]?=some (.int .i64 c.1[i].1.2):=rfl;have HSU:=zh (fun (w':World) (g:Nat) (h:bD w' g 58 (fcs c.1[i] x y).toArray)=>h.sub (o:=2) (cs:=dcs (c.1[i]).2 x y) fun j u hj=>by simpa using yw hj);have HR:=zh (show c.1[i].1.1=s→BG m n (eU (accB s) c s) (.returned (.tuple #[bz (c.1[i]).2 x y,.int .i64 c.1[i].1.2])) from fun e=>by
   rw[DY hlt HA.out e];exact⟨x,y,rfl,hx.succ,hy.succ⟩)
  have HNX:=zh (show ¬ c.1[i].1.1=s→∀j (hj:j<c.1.length),j<i+1→¬ c.1[j].1.1=s from fun h j hj h3=>by
   by_cases e:j=i
   ·subst e;exact h
   ·exact HA.out j hj zo)
  have HO:=zh (hO.al zcF 58);unfold bz at HR;generalize dcs (c.1[i]).2 x y=D at *
  generalize fcs c.1[i] x y=N at *
  generalize c.1[i].1.1=lab at *
  generalize c.1[i].1.2=pr at *
  have hin:=hO.inn;clear hO h4 hc hx hy;by_cases he:lab=s
  ·have hd:(lab.toList==s.toList)=true:=pX he;have HR2:=zh (HR.out he);clear HR HNX he
   go_upto_region 5 with (first
    | refine ae tyF rfl (.tmp 15) rfl rfl N hl (HC.out _ hin) ?_
    | (refine aH tyF rfl (.tmp 7) (.tmp 16) rfl (cs:=N.toArray) rfl rfl rfl (by simpa using hl) (fun u hu=>h1c u (by simpa using hu)) HO.out.obj ?_;intro w1 ob1 hg1;have hO2:=HO.out.setObj ob1 hg1;have y0:=hO2.obj.cell H0;have y1:=hO2.obj.lt))
   refine aN [4,5] (fun vs w'=>vs=[.pointer (some ⟨w.heap.size+1,0,none⟩),.int .i64 pr]∧Own w m w' m [.obj (w.heap.size+1) 35 D.toArray]) ?_ ?_
   ·intro Y hY;refine fq (fun w'=>bD w' wr.heap.size 58 N.toArray) 5 zk ?_;have hO3:=hO2.dr;have hS:=hO3.obj;refine aD 0 rfl zk (fun _ _ _ h=>h) hS (aB rfl fun w' hS'=>by go_simp;rfl) ?_;refine aD 1 rfl zk (fun _ _ _ h=>h) hS (aB rfl fun w' hS'=>tyD.exec rfl zg hl2 (HSU.out w' _ hS')) ?_;refine aD 2 rfl zk (fun _ _ _ h=>h) hS (aB rfl fun w' hS'=>by have q:=hS'.cell H1;go_simp;rfl) ?_;refine aD 3 rfl zk (fun _ _ _ h=>h) hS (aB rfl fun w' hS'=>by have q:=hS'.cell H1;go_simp;rfl) ?_;refine aT 4 zk (aO rfl rfl (yS tyD (.tmp 4) (.tmp 22) rfl (cs:=D.toArray) zg zg rfl (by simpa using hl2) (fun u hu=>h1d u (by simpa using hu)) hO3.swap.obj fun w2 ob2 hg2=>?_));have hO4:=hO3.swap.setObj ob2 hg2;refine andS hO4.swap.obj fun hS1=>?_;go_simp;refine aT 5 zk (aO rfl rfl (aK (by go_simp;first | exact⟨rfl,rfl⟩ | rfl) (lN rfl ?_)));refine fw zk ?_ _;exact hY.out _ _ rfl ⟨rfl,hO4.drop2.drop2⟩
   rintro z1 vs w3 - ⟨rfl,hO5⟩;simp[litL,lk];have hr:=tyD.load hl2 hO5.obj.all;have HB:=zh hO5.below;clear hO5;go_wp2;refine bodyPost_ret (v:=.tuple #[.agg D.toArray,.int .i64 pr]) (cZ Tryz.results29 rfl hr) rfl ?_;exact hR.out _ _ ⟨HR2.out,HB.out⟩
  ·have hd:(lab.toList==s.toList)=false:=pY he;have HNX2:=zh (HNX.out he);clear HR HNX he
   go_wp2_with (first
    | refine ae tyF rfl (.tmp 15) rfl rfl N hl (HC.out _ hin) ?_
    | (refine aH tyF rfl (.tmp 7) (.tmp 16) rfl (cs:=N.toArray) rfl rfl rfl (by simpa using hl) (fun u hu=>h1c u (by simpa using hu)) HO.out.obj ?_;intro w1 ob1 hg1;have hO2:=HO.out.setObj ob1 hg1;have y0:=hO2.obj.cell H0;have y1:=hO2.obj.lt))
   exact hX.out _ _ _ zo rfl ⟨i+1,zo,rfl,rfl,HNX2.out,hO2.tail⟩
 obtain rfl:i=c.1.length:=zo;have HA0:=zh (fun j (hj:j<c.1.length)=>HA.out j hj hj);have g1:=hO.swap.obj.cell (i:=1) rfl;have g2:=hO.swap.obj.lt;have HO:=zh hO;clear hO hX HA;go_wp2;refine au [1,4,28,27,29] (fun q vs wr=>∃(i:Nat),i≤c.2.length∧q=c.2.length - i∧vs=[.string s,.pointer (some ⟨w.heap.size+1,0,none⟩),.int .i64 (c.2.length:Int),.slice a2 c.2.length c2,.int .i64 (i:Int)]∧(∀j (hj:j<c.2.length),j<i→accB s c.2[j].1=false) ∧
  Own w m wr m [.obj (w.heap.size+1) 35 zcD]) ?_ ?_
 ·exact⟨_,0,Nat.zero_le _,rfl,rfl,fun j hj h=>absurd h (Nat.not_lt_zero _),HO.out.drop2⟩
 clear HO g1 g2;rintro X z q vs wr hX - ⟨i,hi,rfl,rfl,hA,hO⟩;simp[litL,lk];have HA:=zh hA;clear hA;by_cases hlt:i<c.2.length
 ·obtain⟨b,off,rfl,h4⟩:=HK.out.2 (by intro h;simp[h] at hlt);obtain⟨kc,x,y,hks,hc,hx,hy⟩:=(h4 i hlt).cells;have hl:(kcs c.2[i] kc x y).length=19:=rfl;have hl2:(dcs (c.2[i]).2 x y).length=18:=rfl;have h1c:=nV hks hx hy;have h1d:=cK hx hy;have HC:=zh (fun (w':World) (h:m.inn w') j u hj=>Mem.aj h (hc j u hj));have hcl:=Mem.av hO.inn (hc 0 _ rfl);have H0:(kcs c.2[i] kc x y).toArray[0]?=some kc:=rfl;have HSU:=zh (fun (w':World) (g:Nat) (h:bD w' g 61 (kcs c.2[i] kc x y).toArray)=>h.sub (o:=1) (cs:=dcs (c.2[i]).2 x y) fun j u hj=>by simpa using yj hj);have HR:=zh (show accB s c.2[i].1=true→BG m n (eU (accB s) c s) (.returned (.tuple #[bz (c.2[i]).2 x y,.int .i64 3])) from fun e=>by
   rw[DX HA0.out hlt HA.out e];exact⟨x,y,rfl,hx.succ,hy.succ⟩)
  have HNX:=zh (show accB s c.2[i].1=false→∀j (hj:j<c.2.length),j<i+1→accB s c.2[j].1=false from fun h j hj h3=>by
   by_cases e:j=i
   ·subst e;exact h
   ·exact HA.out j hj zo)
  have HAC:=zh (fun (w':World) (h:m.inn w')=>yI kc c.2[i].1 s m w' h hks HSZ.out);obtain⟨ta,tc,rfl,-⟩:=hks;have HO:=zh (hO.al zcK 61);unfold bz at HR;generalize dcs (c.2[i]).2 x y=D at *
  generalize kcs c.2[i] _ x y=N at *
  generalize accB s c.2[i].1=ab at *
  have hin:=hO.inn;clear hO h4 hc hx hy;cases ab
  ·have HNX2:=zh (HNX.out rfl);clear HR HNX
   go_wp2_with (first
    | refine ae tyK rfl (.tmp 31) rfl rfl N hl (HC.out _ hin) ?_
    | (refine aH tyK rfl (.tmp 9) (.tmp 32) rfl (cs:=N.toArray) rfl rfl rfl (by simpa using hl) (fun u hu=>h1c u (by simpa using hu)) HO.out.obj ?_;intro w1 ob1 hg1;have hO2:=HO.out.setObj ob1 hg1;have y0:=hO2.obj.cell H0;have y1:=hO2.obj.lt)
    | (go_at_call 57;refine (HAC.out _ hO2.inn).mono ?_;rintro e w2 ⟨rfl,hb2⟩))
   exact hX.out _ _ _ zo rfl ⟨i+1,zo,rfl,rfl,HNX2.out,(hO2.move hb2).tail⟩
  ·have HR2:=zh (HR.out rfl);clear HR HNX hX
   go_wp2_with (first
    | refine ae tyK rfl (.tmp 31) rfl rfl N hl (HC.out _ hin) ?_
    | (refine aH tyK rfl (.tmp 9) (.tmp 32) rfl (cs:=N.toArray) rfl rfl rfl (by simpa using hl) (fun u hu=>h1c u (by simpa using hu)) HO.out.obj ?_;intro w1 ob1 hg1;have hO2:=HO.out.setObj ob1 hg1;have y0:=hO2.obj.cell H0;have y1:=hO2.obj.lt)
    | (go_at_call 57;refine (HAC.out _ hO2.inn).mono ?_;rintro e w2 ⟨rfl,hb2⟩;have hO3:=hO2.move hb2;have y2:=HSU.out _ _ hO3.obj;have y3:=hO3.obj.lt)
    | refine ae tyD rfl (.tmp 37) rfl rfl D hl2 y2 ?_
    | (refine aH tyD rfl (.tmp 4) (.tmp 38) rfl (cs:=D.toArray) rfl rfl rfl (by simpa using hl2) (fun u hu=>h1d u (by simpa using hu)) hO3.swap.obj ?_;intro w3 ob3 hg3;have hO4:=hO3.swap.setObj ob3 hg3;have hr:=tyD.load hl2 ob3.all))
   refine bodyPost_ret (v:=.tuple #[.agg D.toArray,.int .i64 3]) (cZ Tryz.results29 rfl hr) rfl ?_;exact hR.out _ _ ⟨HR2.out,hO4.below⟩
 obtain rfl:i=c.2.length:=zo;have HR:=zh (show BG m n (eU (accB s) c s) (.returned (.tuple #[bz (botV,botV) bq bq,.int .i64 3])) by
  rw[DW HA0.out (fun j hj=>HA.out j hj hj)];exact⟨bq,bq,rfl,(VAt.leaf m false).mono zo,(VAt.leaf m false).mono zo⟩)
 have HO:=zh hO;clear hO hX HA HA0
 go_wp2_with (refine aH tyD rfl (.tmp 4) (.tmp 40) rfl (cs:=zcD) rfl rfl rfl rfl zD HO.out.obj ?_)
 intro w' ho hg;have HF:=zh (HO.out.setObj ho hg);have hr:=tyD.load (cs:=zcD.toList) rfl ho.all;clear HO hg ho;go_wp2;refine bodyPost_ret (v:=.tuple #[.agg zcD,.int .i64 3]) (cZ Tryz.results29 rfl hr) rfl ?_;exact hR.out _ _ ⟨HR.out,HF.out.below⟩
def O7 (m:Mem) (v:Value) (fs:List (Nat × Array Value)):Prop:=Mem.mU (fun b o f=>m.cell b o=some (.func (.func f.1) #[] f.2)) v fs
structure O6 (m:Mem) (fs:List (Nat × Array Value)) (rs:List Int):Prop where
 ent:∀i (h:i<fs.length),∀args w,(callFunc (fs[i]).1 args).run Tryz.prog w=.ok (.enter (fs[i]).1 args) w
 run:∀i (h:i<fs.length) (h2:i<rs.length) (w:World),m.inn w→Calls Tryz.prog (fs[i]).1 (fs[i]).2 w fun e w'=>e=.returned (.int .i64 rs[i])∧Below w.heap.size w w'
 le:rs.length≤fs.length
 rest:rs.length<fs.length→∃i,∃h:i<rs.length,rs[i]≠0
theorem zu (v:Value) (fs:List (Nat × Array Value)) (rs:List Int) (m:Mem) (w:World) (hm:m.inn w) (hf:O7 m v fs) (hok:O6 m fs rs) :
 Calls Tryz.prog 71 #[v] w fun e w'=>e=.returned (.int .i64 (lH rs))∧Below w.heap.size w w':=by
 obtain⟨a,c,rfl,p1,q1,k1⟩:=hf;unfold maxLen at q1;have HK:=zh k1;have HO:=zh (Own.start hm);have HF:=zh hok;clear k1 hok;refine ay fun R hR=>?_
 go_enter Tryz.func71,Tryz.ntmps71
 go_wp2;refine au [6,7,8] (fun q vs wr=>∃(i:Nat),i≤fs.length∧q=fs.length - i∧vs=[.slice a fs.length c,.int .i64 (fs.length:Int),.int .i64 (i:Int)]∧(∀j (h:j<rs.length),j<i→rs[j]=0)∧(i<fs.length→i<rs.length)∧lH rs=lH (rs.drop i)∧Own w m wr m []) ?_ ?_
 ·refine ⟨_,0,Nat.zero_le _,rfl,rfl,fun j _ h=>absurd h (Nat.not_lt_zero _),fun h=>?_,rfl,HO.out⟩;by_cases e:rs.length<fs.length
  ·obtain⟨i,hi,-⟩:=HF.out.rest e;omega
  ·omega
 clear HO;rintro X z q vs wr hX - ⟨i,hi,rfl,rfl,hA,hB,hC,hO⟩;simp[litL,lk];have HA:=zh (zi hA (zi hB hC));clear hA hB hC;by_cases hlt:i<fs.length
 case neg=>
  have HR:=zh (show lH rs=0 by
   rw[HA.out.2.2,List.drop_eq_nil_of_le (by have:=HF.out.le;omega)];rfl)
  have HB:=zh hO.below;clear hO hX;go_wp2;exact hR.out _ _ ⟨by rw[HR.out] <;> rfl,HB.out⟩
 have hrl:=HA.out.2.1 hlt;obtain⟨b,off,rfl,h4⟩:=HK.out (by intro h;simp[h] at hlt);have x1:=Mem.aj hO.inn (h4 i hlt);have xl:=Mem.av hO.inn (h4 i hlt);have HRN:=zh (HF.out.run i hlt hrl wr hO.inn);have eg:=HF.out.ent i hlt;have HFD:=zh (Df rs hrl);have HNX:=zh (show rs[i]=0→(∀j (h:j<rs.length),j<i+1→rs[j]=0)∧(i+1<fs.length→i+1<rs.length)∧lH rs=lH (rs.drop (i+1)) from fun h=>by
  have h1:∀j (h:j<rs.length),j<i+1→rs[j]=0:=fun j hj h2=>by
   by_cases e:j=i
   ·subst e;exact h
   ·exact HA.out.1 j hj zo
  refine ⟨h1,fun h2=>?_,?_⟩
  ·by_cases e:rs.length<fs.length
   ·obtain⟨k,hk,hz⟩:=HF.out.rest e;have:¬ k<i+1:=fun h3=>hz (h1 k hk h3);omega
   ·omega
  ·rw[HA.out.2.2,HFD.out,h];rfl)
 have HNE:=zh (show rs[i]≠0→lH rs=rs[i] from fun h=>by
  rw[HA.out.2.2,HFD.out,orI,if_neg h])
 have HO:=zh hO;generalize rs[i]=r at *
 generalize (fs[i]).1=f at *
 generalize (fs[i]).2=caps at *
 clear hO h4
 go_wp2_with fail
 refine HRN.out.mono ?_;rintro e w1 ⟨rfl,hb1⟩;have HO1:=zh (HO.out.move hb1);clear HO HRN hb1 eg;by_cases hr:r=0
 ·subst hr;have HN:=zh (HNX.out rfl);clear HNX HNE;go_wp2;exact hX.out _ _ _ zo rfl ⟨i+1,zo,rfl,rfl,HN.out.1,HN.out.2.1,HN.out.2.2,HO1.out⟩
 ·have hd:(r != 0)=true:=bne_iff_ne.2 hr;have HN:=zh (HNE.out hr);clear HNX HNE hr hX;go_wp2;exact hR.out _ _ ⟨by rw[HN.out] <;> rfl,HO1.out.below⟩
theorem gu {w0 w:World} {m mk:Mem} {L:List Item} (t:TypeId) (arr:Array Value) (h:Own w0 m w mk L):∃mk',mk.le mk'∧(∀i u,arr[i]?=some u→mk'.cell w.heap.size i=some u)∧Own w0 m (w.alloc (.cells arr t)) mk' L:=
 have hO:=h.al arr t
 ⟨_,Mem.gZ hO.gq,fun _ _ hi=>Mem.dw hO.obj hi,hO.fZ⟩
theorem Dp:∀args w,(callFunc 72 args).run Tryz.prog w=.ok (.enter 72 args) w:=enters_of Tryz.func72 zk rfl
theorem Dn:∀args w,(callFunc 74 args).run Tryz.prog w=.ok (.enter 74 args) w:=enters_of Tryz.func74 zk rfl
theorem Dm:∀args w,(callFunc 76 args).run Tryz.prog w=.ok (.enter 76 args) w:=enters_of Tryz.func76 zk rfl
theorem Dl:∀args w,(callFunc 79 args).run Tryz.prog w=.ok (.enter 79 args) w:=enters_of Tryz.func79 zk rfl
theorem BS (g1 g2:Nat) (a b:Bool) (m:Mem) (w:World) (hm:m.inn w) (h1:m.cell g1 0=some (.bool a)) (h2:m.cell g2 0=some (.bool b)) :
 Calls Tryz.prog 72 #[.pointer (some ⟨g1,0,none⟩),.pointer (some ⟨g2,0,none⟩)] w fun e w'=>e=.returned (.int .i64 (yt a b))∧Below w.heap.size w w':=by
 have x1:=Mem.aj hm h1;have x2:=Mem.aj hm h2;have l1:=Mem.av hm h1;have l2:=Mem.av hm h2;have HF:=zh (BR a b w);refine ay fun R hR=>?_
 go_enter Tryz.func72,Tryz.ntmps72
 go_wp2_with (go_at_call 73;refine HF.out.mono ?_;rintro e w1 ⟨rfl,hb1⟩)
 exact hR.out _ _ ⟨rfl,hb1⟩
abbrev EX (g1 g2:Nat):List (Nat × Array Value):=[(72,#[.pointer (some ⟨g1,0,none⟩),.pointer (some ⟨g2,0,none⟩)]),(74,#[.pointer (some ⟨g1,0,none⟩),.pointer (some ⟨g2,0,none⟩)]),(76,#[.pointer (some ⟨g1,0,none⟩),.pointer (some ⟨g2,0,none⟩)]),(79,#[.pointer (some ⟨g1,0,none⟩),.pointer (some ⟨g2,0,none⟩)])]
theorem Hz (g1 g2:Nat):∀i (h:i<(EX g1 g2).length),∀args w,(callFunc ((EX g1 g2)[i]).1 args).run Tryz.prog w=.ok (.enter ((EX g1 g2)[i]).1 args) w:=fun i h=>by
 match i,h with
 | 0,_=>exact Dp
 | 1,_=>exact Dn
 | 2,_=>exact Dm
 | 3,_=>exact Dl
theorem rJ (v v':Vl) (s s':Sl) (m:Mem) (w:World) (hm:m.inn w) (hne:v.any≠v'.any) :
 Calls Tryz.prog 53 #[v.val s,v'.val s'] w fun e w'=>e=.returned (.int .i64 (yt v.any v'.any))∧Below w.heap.size w w':=by
 obtain⟨m1,l1,c1,hO1⟩:=gu 33 (nine v s).toArray (Own.start hm);obtain⟨m2,l2,c2,hO2⟩:=gu 33 (nine v' s').toArray hO1;obtain⟨m3,l3,c3,hO3⟩:=gu 96 #[.func (.func 72) #[] #[.pointer (some ⟨w.heap.size,0,none⟩),.pointer (some ⟨w.heap.size+1,0,none⟩)],.func (.func 74) #[] #[.pointer (some ⟨w.heap.size,0,none⟩),.pointer (some ⟨w.heap.size+1,0,none⟩)],.func (.func 76) #[] #[.pointer (some ⟨w.heap.size,0,none⟩),.pointer (some ⟨w.heap.size+1,0,none⟩)],.func (.func 79) #[] #[.pointer (some ⟨w.heap.size,0,none⟩),.pointer (some ⟨w.heap.size+1,0,none⟩)]] hO2;simp only[bB] at c2 c3;have hc1:=Mem.aA (Mem.le_trans l2 l3) (c1 0 (.bool v.any) rfl);have hc2:=Mem.aA l3 (c2 0 (.bool v'.any) rfl);have hfl:yt v.any v'.any≠0:=by
  cases h1:v.any <;> cases h2:v'.any <;> simp[h1,h2] at hne <;> simp[yt]
 have HF:=zh (zu (.slice (some ⟨w.heap.size+1+1,0,none⟩) 4 4) (EX w.heap.size (w.heap.size+1)) [yt v.any v'.any] m3 _ hO3.inn
  ⟨some ⟨w.heap.size+1+1,0,none⟩,4,rfl,zS,by simp[maxLen],fun _=>⟨_,0,rfl,fun i h=>by
   rw[Nat.zero_add]
   match i,h with
   | 0,_=>exact c3 0 _ rfl
   | 1,_=>exact c3 1 _ rfl
   | 2,_=>exact c3 2 _ rfl
   | 3,_=>exact c3 3 _ rfl⟩⟩
  ⟨Hz _ _,fun i h h2 w' hm'=>by
   match i,h2 with
   | 0,_=>exact BS _ _ v.any v'.any m3 w' hm' hc1 hc2,zS,fun _=>⟨0,zS,hfl⟩⟩)
 have HE:=zh (show lH [yt v.any v'.any]=yt v.any v'.any by simp[lH,orI,hfl]);have HO:=zh hO3;unfold Vl.val;clear hO1 hO2 hO3 c1 c2 c3 hc1 hc2 l1 l2 l3 hne hfl;generalize (nine v s).toArray=N at *
 generalize (nine v' s').toArray=N' at *
 refine ay fun R hR=>?_
 go_enter Tryz.func53,Tryz.ntmps53
 go_wp2_with (go_at_call 71;refine HF.out.mono ?_;rintro e w1 ⟨rfl,hb1⟩)
 exact hR.out _ _ ⟨by rw[HE.out] <;> rfl,(HO.out.move hb1).below⟩
theorem sP (v v':Vl) (s s':Sl) (m:Mem) (n:Nat) (w:World) (hm:m.inn w) (htab:TabM m) (hv:VAt m n s v) (hv':VAt m n s' v') (f1:FewV n v) (f2:FewV n v') (t1:vcnt n v≤1048576) (t2:vcnt n v'≤1048576) (s1:SndV v) (s2:SndV v') (hne:v.any≠v'.any) :
 Calls Tryz.prog 25 #[v.val s,v'.val s'] w fun e w'=>e=.returned (.int .i64 (yt v.any v'.any))∧Below w.heap.size w w':=by
 have hO:=((Own.start hm).al (nine v s).toArray 33).al (nine v' s').toArray 33;simp only[bB] at hO;have h1:=lX v s m n _ hO.inn htab hv f1 t1;rw[aI s1] at h1;have H1:=zh h1;have H2:=zh (show ∀w',m.inn w'→_ from fun w' (h:m.inn w')=>by have:=lX v' s' m n w' h htab hv' f2 t2;rw[aI s2] at this;exact this);have H3:=zh (fun w' (h:m.inn w')=>rJ v v' s s' m w' h hne);have HO:=zh hO;have hN:(nine v s).length=9:=rfl;have hN':(nine v' s').length=9:=rfl;have q0:=hO.swap.obj.all;unfold Vl.val at *
 clear hO h1 hv hv' f1 f2 hne s1 s2;generalize nine v s=N at *
 generalize nine v' s'=N' at *
 refine ay fun R hR=>?_
 go_enter Tryz.func25,Tryz.ntmps25
 go_wp2_with (first
  | (go_at_call 47;first
   | (refine (H2.out _ hO1.inn).mono ?_;rintro e w2 ⟨rfl,hb2⟩;have hO2:=hO1.move hb2;have q2:=hO2.swap.obj.all;have q3:=hO2.obj.all)
   | (refine H1.out.mono ?_;rintro e w1 ⟨rfl,hb1⟩;have hO1:=HO.out.move hb1;have q1:=hO1.obj.all))
  | refine ae tyV rfl (.tmp 2) rfl rfl N hN q2 ?_
  | refine ae tyV rfl (.tmp 3) rfl rfl N' hN' q3 ?_
  | refine ae tyV rfl (.tmp 3) rfl rfl N' hN' q1 ?_
  | refine ae tyV rfl (.tmp 2) rfl rfl N hN q0 ?_
  | (go_at_call 53;refine (H3.out _ hO2.inn).mono ?_;rintro e w3 ⟨rfl,hb3⟩))
 exact hR.out _ _ ⟨rfl,(hO2.move hb3).below⟩
theorem kY (d:Vd) (x y:Sl) (w:World) :
 Calls Tryz.prog 15 #[bz d x y] w fun e w'=>e=.returned (.bool (d.1.any&&d.2.any))∧Below w.heap.size w w':=by
 have hO:=(Own.start (Mem.o9 w)).al (dcs d x y).toArray 35;have c0:=hO.obj.cell (i:=0) (v:=.bool d.1.any) rfl;have c9:=hO.obj.cell (i:=9) (v:=.bool d.2.any) rfl;have HB:=zh hO.below;unfold bz;clear hO;generalize dcs d x y=N at *
 generalize d.1.any=p at *
 generalize d.2.any=q at *
 refine ay fun R hR=>?_;cases p <;> cases q
 all_goals
  go_enter Tryz.func15,Tryz.ntmps15
  go_wp2;exact hR.out _ _ ⟨rfl,HB.out⟩
theorem bP.lF {m m':Mem} {n:Nat} {v:Value} {l:List Vd} (k:m.le m') (h:bP (VAt m n) m v l):bP (VAt m' n) m' v l:=bP.le k (fun _ _=>VAt.le k) h
theorem Ez {n:Nat} {v:Vl} {c:Lc} (h:Ht (n+1) v) (hv:vcnt (n+1) v≤1048576) (hc:c∈v.lists):c.1.length+c.2.length≤1048576:=by
 have h1:=ma h;have h2:(bT c).length≤(v.lists.flatMap bT).length:=by
  rw[List.length_flatMap];exact Ea (f:=fun c=>(bT c).length) hc
 have h3:v.kids.length=(v.lists.flatMap bT).length+(v.structs.flatMap bH).length:=by rw[Vl.kids,List.length_append]
 rw[bT,List.length_append] at h2;omega
theorem Nl {n:Nat} (H:vN n):vN (n+1):=fun v v' s s' m w hm hv hv' hct hct'=>by
 have hO:=((Own.start hm).al (nine v s).toArray 33).al (nine v' s').toArray 33;simp only[bB] at hO;have HL:=zh (zi (fun c (hc:c∈v.lists)=>Ez hv.ht hct hc) (fun c (hc:c∈v'.lists)=>Ez hv'.ht hct' hc));have HCN:=zh (zi (fun d (hd:d∈v.kids)=>show dG n d by have:=jW (n:=n) hd;exact⟨zo,zo⟩) (fun d (hd:d∈v'.kids)=>show dG n d by have:=jW (n:=n) hd;exact⟨zo,zo⟩));have HS:=zh (tJ s.i s.f s.t s'.i s'.f s'.t v.s v'.s m _ hO.inn hv.sc hv'.sc);have HE:=zh (zm v v');have c0:=hO.swap.obj.cell (i:=0) (v:=.bool v.any) rfl;have c0':=hO.obj.cell (i:=0) (v:=.bool v'.any) rfl;have q0:=hO.swap.obj.sub (jZ v s);have q0':=hO.obj.sub (jZ v' s');have H7:(nine v s).toArray[7]?=some s.l:=rfl;have H8:(nine v s).toArray[8]?=some s.s:=rfl;have H7':(nine v' s').toArray[7]?=some s'.l:=rfl;have H8':(nine v' s').toArray[8]?=some s'.s:=rfl;have hv2:=hv.2;have hv2':=hv'.2;obtain⟨a1,b1,a2,b2,a3,b3,a4,b4,a5,b5,rfl,q1,q2,q3,q4,q5⟩:=hv.spell;obtain⟨⟨z1,y1,e1,-,-,k1⟩,⟨z2,y2,e2,-,-,k2⟩⟩:=hv2;simp only[Value.slice.injEq] at e1 e2;obtain⟨rfl,-,rfl⟩:=e1;obtain⟨rfl,-,rfl⟩:=e2;obtain⟨a1',b1',a2',b2',a3',b3',a4',b4',a5',b5',rfl,q1',q2',q3',q4',q5'⟩:=hv'.spell;obtain⟨⟨z1,y1,e1,-,-,k1'⟩,⟨z2,y2,e2,-,-,k2'⟩⟩:=hv2';simp only[Value.slice.injEq] at e1 e2;obtain⟨rfl,-,rfl⟩:=e1;obtain⟨rfl,-,rfl⟩:=e2;simp only at H7 H8 H7' H8';have HH:=zh (zi H7 (zi H8 (zi H7' H8')));unfold maxLen at q4 q5 q4' q5';have HK:=zh (zi k1 (zi k2 (zi k1' k2')));have HO:=zh hO;obtain⟨P1,hP1⟩:∃P1:Prop,P1=(v.any=v'.any∧v.s=v'.s∧v.lists.length=v'.lists.length∧v.structs.length=v'.structs.length):=⟨_,rfl⟩;have HP1:=zh hP1;have c7:=hO.swap.obj.cell H7;have c7':=hO.obj.cell H7';have c8:=hO.swap.obj.cell H8;have c8':=hO.obj.cell H8';have g1:=hO.swap.obj.lt;have g2:=hO.obj.lt;clear hO hP1 k1 k2 k1' k2' hv hv' hct hct' q1 q2 q3 q1' q2' q3' H7 H8 H7' H8';unfold Vl.val RS.val at *
 generalize nine v _=N at *
 generalize nine v' _=N' at *
 refine ay fun R hR=>?_
 go_enter Tryz.func86,Tryz.ntmps86
 go_upto_region 1 with (fail)
 generalize hW:(w.alloc (.cells N.toArray 33)).alloc (.cells N'.toArray 33)=w0 at *
 clear hW;refine aN [2,3,39] (fun vs w'=>vs=[.pointer (some ⟨w.heap.size,0,none⟩),.pointer (some ⟨w.heap.size+1,0,none⟩),.bool (!tf P1)]∧Own w m w' m [.obj (w.heap.size+1) 33 N'.toArray,.obj w.heap.size 33 N.toArray]) ?_ ?_
 ·intro X hX;clear HK HL HCN HE;by_cases h1:v.any=v'.any
  case neg=>
   have HP:=zh (show tf P1=false by rw[HP1.out];exact az fun h=>h1 h.1);have hd:(v.any==v'.any)=false:=by simp[h1]
   have hd2:(v.any != v'.any)=true:=by simp[h1]
   clear h1 HS;go_wp2;exact hX.out _ _ rfl ⟨by rw[HP.out] <;> rfl,HO.out⟩
  have hd:(v.any==v'.any)=true:=by simp[h1]
  have hd2:(v.any != v'.any)=false:=by simp[h1]
  by_cases h2:v.s=v'.s
  case neg=>
   have HP:=zh (show tf P1=false by rw[HP1.out];exact az fun h=>h2 h.2.1);have hh:=HS.out;rw[az h2] at hh;have HS:=zh hh;clear h1 h2 hh
   go_wp2_with (first | refine ae tyS rfl (.tmp 15) rfl rfl _ rfl q0 ?_ | refine ae tyS rfl (.tmp 17) rfl rfl _ rfl q0' ?_ | (go_at_call 133;refine HS.out.mono ?_;rintro e w1 ⟨rfl,hb1⟩))
   exact hX.out _ _ rfl ⟨by rw[HP.out] <;> rfl,HO.out.move hb1⟩
  have hh:=HS.out;rw[aI h2] at hh;have HS1:=zh hh;clear hh HS;by_cases h3:v.lists.length=v'.lists.length
  case neg=>
   have HP:=zh (show tf P1=false by rw[HP1.out];exact az fun h=>h3 h.2.2.1);have hd3:((v.lists.length:Int) != (v'.lists.length:Int))=true:=by simp;omega
   clear h1 h2 h3 HP1;generalize v.lists.length=n4 at *
   generalize v'.lists.length=n4' at *
   go_wp2_with (first | refine ae tyS rfl (.tmp 15) rfl rfl _ rfl q0 ?_ | refine ae tyS rfl (.tmp 17) rfl rfl _ rfl q0' ?_ | (go_at_call 133;refine HS1.out.mono ?_;rintro e w1 ⟨rfl,hb1⟩;have hO1:=HO.out.move hb1;have c7:=hO1.swap.obj.cell HH.out.1;have c7':=hO1.obj.cell HH.out.2.2.1;have g1:=hO1.swap.obj.lt;have g2:=hO1.obj.lt))
   exact hX.out _ _ rfl ⟨by rw[HP.out] <;> rfl,HO.out.move hb1⟩
  have hd3:((v.lists.length:Int) != (v'.lists.length:Int))=false:=by simp[h3]
  by_cases h4:v.structs.length=v'.structs.length
  case neg=>
   have HP:=zh (show tf P1=false by rw[HP1.out];exact az fun h=>h4 h.2.2.2);have hd4:((v.structs.length:Int) != (v'.structs.length:Int))=true:=by simp;omega
   clear h1 h2 h3 h4 HP1;generalize v.lists.length=n4 at *
   generalize v'.lists.length=n4' at *
   generalize v.structs.length=n5 at *
   generalize v'.structs.length=n5' at *
   go_wp2_with (first | refine ae tyS rfl (.tmp 15) rfl rfl _ rfl q0 ?_ | refine ae tyS rfl (.tmp 17) rfl rfl _ rfl q0' ?_ | (go_at_call 133;refine HS1.out.mono ?_;rintro e w1 ⟨rfl,hb1⟩;have hO1:=HO.out.move hb1;have c7:=hO1.swap.obj.cell HH.out.1;have c7':=hO1.obj.cell HH.out.2.2.1;have c8:=hO1.swap.obj.cell HH.out.2.1;have c8':=hO1.obj.cell HH.out.2.2.2;have g1:=hO1.swap.obj.lt;have g2:=hO1.obj.lt))
   exact hX.out _ _ rfl ⟨by rw[HP.out] <;> rfl,HO.out.move hb1⟩
  have hd4:((v.structs.length:Int) != (v'.structs.length:Int))=false:=by simp[h4]
  have HP:=zh (show tf P1=true by rw[HP1.out];exact aI ⟨h1,h2,h3,h4⟩);clear h1 h2 h3 h4 HP1;generalize v.lists.length=n4 at *
  generalize v'.lists.length=n4' at *
  generalize v.structs.length=n5 at *
  generalize v'.structs.length=n5' at *
  go_wp2_with (first | refine ae tyS rfl (.tmp 15) rfl rfl _ rfl q0 ?_ | refine ae tyS rfl (.tmp 17) rfl rfl _ rfl q0' ?_ | (go_at_call 133;refine HS1.out.mono ?_;rintro e w1 ⟨rfl,hb1⟩;have hO1:=HO.out.move hb1;have c7:=hO1.swap.obj.cell HH.out.1;have c7':=hO1.obj.cell HH.out.2.2.1;have c8:=hO1.swap.obj.cell HH.out.2.1;have c8':=hO1.obj.cell HH.out.2.2.2;have g1:=hO1.swap.obj.lt;have g2:=hO1.obj.lt))
  exact hX.out _ _ rfl ⟨by rw[HP.out] <;> rfl,HO.out.move hb1⟩
 clear HO HS c0 c0' q0 q0' c7 c7' c8 c8' g1 g2;rintro z vs w1 - ⟨rfl,hO⟩;simp[litL,lk];have HO:=zh hO;by_cases hp1:P1
 case neg=>
  have HX:=zh (show ¬ v=v' from fun h=>hp1 (by rw[HP1.out,h];exact⟨rfl,rfl,rfl,rfl⟩));rw[az hp1];have HB:=zh hO.below;clear hO HO HE hp1 HP1;go_wp2;exact hR.out _ _ ⟨aJ (by rw[az HX.out]),HB.out⟩
 have hp:=HP1.out ▸ hp1;rw[aI hp1];have HX:=zh (show v=v'↔v.lists=v'.lists∧v.structs=v'.structs from HE.out.trans ⟨fun h=>h.2.2,fun h=>⟨hp.1,hp.2.1,h⟩⟩);have HLL:=zh (zi hp.2.2.1 hp.2.2.2);clear hO HE hp1 HP1 hp;have c7:=HO.out.swap.obj.cell HH.out.1;have g1:=HO.out.swap.obj.lt;go_wp2;refine au [2,3,42,43] (fun q vs wr=>∃(i:Nat),i≤v.lists.length∧q=v.lists.length - i∧vs=[.pointer (some ⟨w.heap.size,0,none⟩),.pointer (some ⟨w.heap.size+1,0,none⟩),.int .i64 (v.lists.length:Int),.int .i64 (i:Int)]∧(v=v'↔v.lists.drop i=v'.lists.drop i∧v.structs=v'.structs) ∧
  Own w m wr m [.obj (w.heap.size+1) 33 N'.toArray,.obj w.heap.size 33 N.toArray]) ?_ ?_
 ·exact⟨_,0,Nat.zero_le _,rfl,rfl,HX.out,HO.out⟩
 clear HO HX c7 g1;rintro X z q vs wr hX - ⟨i,hi,rfl,rfl,hE,hO⟩;simp[litL,lk];have HE:=zh hE;clear hE;by_cases hlt:i<v.lists.length
 ·have hlt':i<v'.lists.length:=by rw[← HLL.out.1];exact hlt
  obtain⟨b,off,rfl,h4⟩:=HK.out.1 (by intro h;simp[h] at hlt);obtain⟨b',off',rfl,h4'⟩:=HK.out.2.2.1 (by intro h;simp[h] at hlt');obtain⟨u,u2,s1,s2,s3,s4⟩:=h4 i hlt;obtain⟨u',u2',s1',s2',s3',s4'⟩:=h4' i hlt';have c7:=hO.swap.obj.cell HH.out.1;have c7':=hO.obj.cell HH.out.2.2.1;have g1:=hO.swap.obj.lt;have g2:=hO.obj.lt;have x1:=Mem.aj hO.inn s1;have x2:=Mem.aj hO.inn s2;have xl:=Mem.av hO.inn s1;have x1':=Mem.aj hO.inn s1';have x2':=Mem.aj hO.inn s2';have xl':=Mem.av hO.inn s1';have HLS:=zh (dM v.lists v'.lists i hlt hlt');have HLC:=zh (JG v.lists[i] v'.lists[i]);have HO:=zh hO;clear hO h4 h4' s1 s2 s1' s2';have HLN:=zh (zi (HL.out.1 _ (List.getElem_mem hlt)) (HL.out.2 _ (List.getElem_mem hlt')));have HKC:=zh (zi (fun d (hd:d∈bT v.lists[i])=>HCN.out.1 d (jK (List.getElem_mem hlt) hd)) (fun d (hd:d∈bT v'.lists[i])=>HCN.out.2 d (jK (List.getElem_mem hlt') hd)));generalize v.lists[i]=cl at *
  generalize v'.lists[i]=cl' at *
  have HVL:=zh (fun (w':World) (h:m.inn w')=>iP u u2 cl m n w' h s3 s4 HLN.out.1);have HVL':=zh (fun (w':World) (h:m.inn w')=>iP u' u2' cl' m n w' h s3' s4' HLN.out.2);obtain⟨ua,uc,rfl,-,r2,-⟩:=s3;obtain⟨ua2,uc2,rfl,-⟩:=s4;obtain⟨ub,ud,rfl,-,r2',-⟩:=s3';obtain⟨ub2,ud2,rfl,-⟩:=s4';unfold maxLen at r2 r2'
  go_upto_region 6 with (fail)
  refine aN [2,3,6,7,42,43] (fun vs w'=>∃p q,vs=[.pointer (some ⟨w.heap.size,0,none⟩),.pointer (some ⟨w.heap.size+1,0,none⟩),.pointer (some ⟨p,0,none⟩),.pointer (some ⟨q,0,none⟩),.int .i64 (v.lists.length:Int),.int .i64 (i:Int)] ∧
   Own w m w' m [.obj p 51 #[.slice ua cl.1.length uc,.slice ua2 cl.2.length uc2],.obj q 51 #[.slice ub cl'.1.length ud,.slice ub2 cl'.2.length ud2],.obj (w.heap.size+1) 33 N'.toArray,.obj w.heap.size 33 N.toArray]) ?_ ?_
  ·intro Y hY
   go_region
   ·exact hY.out _ _ rfl ⟨wr.heap.size,wr.heap.size+1,rfl,by simpa only[bB] using ((HO.out.al #[.slice ua cl.1.length uc,.slice ua2 cl.2.length uc2] 51).al #[.slice ub cl'.1.length ud,.slice ub2 cl'.2.length ud2] 51).dr.swap⟩
   ·exact hY.out _ _ rfl ⟨wr.heap.size+1,wr.heap.size,rfl,by simpa only[bB] using ((HO.out.al #[.slice ub cl'.1.length ud,.slice ub2 cl'.2.length ud2] 51).al #[.slice ua cl.1.length uc,.slice ua2 cl.2.length uc2] 51).dr⟩
  clear HO c7 c7' g1 g2 x1 x2 xl x1' x2' xl';rintro z1 vs w2 - ⟨p,q,rfl,hO⟩;simp[litL,lk];have y1:=hO.obj.cell (i:=0) rfl;have y2:=hO.swap.obj.cell (i:=0) rfl;have y3:=hO.obj.lt;have y4:=hO.swap.obj.lt;have HO:=zh hO;clear hO;by_cases hln:cl.1.length=cl'.1.length
  case neg=>
   have hd:((cl.1.length:Int) != (cl'.1.length:Int))=true:=by simp;omega
   have HX:=zh (show ¬ v=v' from fun h=>hln (HLC.out.1 (HLS.out.1 (HE.out.1 h).1).1).1);clear HLC HLS HE hln HVL HVL' HLN HKC hX;generalize cl.1.length=n1 at *
   generalize cl'.1.length=n2 at *
   go_wp2
   go_quiet (fail)
   go_wp2;exact hR.out _ _ ⟨aJ (by rw[az HX.out]),(HO.out.drN _).below⟩
  have HX:=zh (show v=v'↔bT cl=bT cl'∧v.lists.drop (i+1)=v'.lists.drop (i+1)∧v.structs=v'.structs from
   ⟨fun h=>⟨(HLC.out.1 (HLS.out.1 (HE.out.1 h).1).1).2,(HLS.out.1 (HE.out.1 h).1).2,(HE.out.1 h).2⟩,fun h=>HE.out.2 ⟨HLS.out.2 ⟨HLC.out.2 ⟨hln,h.1⟩,h.2.1⟩,h.2.2⟩⟩)
  clear HLC HLS HE HLN;generalize cl.1.length=n1 at *
  generalize cl.2.length=n3 at *
  generalize cl'.2.length=n4 at *
  generalize cl'.1.length=n2 at *
  subst hln;generalize bT cl=L1 at *
  generalize bT cl'=L2 at *
  have hin0:=HO.out.inn
  go_upto_region 7 with (fail)
  refine aN [2,3,42,43,70] (fun vs w'=>vs=[.pointer (some ⟨w.heap.size,0,none⟩),.pointer (some ⟨w.heap.size+1,0,none⟩),.int .i64 (v.lists.length:Int),.int .i64 (i:Int),.bool (!tf (L1=L2))] ∧
   Own w m w' m [.obj (w.heap.size+1) 33 N'.toArray,.obj w.heap.size 33 N.toArray]) ?_ ?_
  ·intro Y hY;refine aX 15 8 (fun j=>[Fact.is (·=.pointer (some ⟨p,0,none⟩)),Fact.is (·=.slice ua n1 uc),Fact.is (·=.int .i64 (n1:Nat)),Fact.is (·=.pointer (some ⟨q,0,none⟩)),Fact.is (·=.slice ub n1 ud),Fact.is (·=.int .i64 (n1:Nat)),Fact.is (·=.bool false),Fact.is (·=.bool false),Fact.is (·=.agg #[.slice ua n1 uc,.slice ua2 n3 uc2]),Fact.mem m [9] (fun M u=>bP (VAt M n) M u L1),Fact.is (·=.agg #[.slice ub n1 ud,.slice ub2 n4 ud2]),Fact.mem m [11] (fun M u=>bP (VAt M n) M u L2),Fact.is (·=.bool (tf (L1=L2))),Fact.is (·=.bool (!tf (L1=L2))),Fact.is (·=.bool (!tf (L1=L2)))].getD j Fact.any) zk zk ?_ ?_
   ·intro i hi o win a wr ho RA;have HO2:=HO.out.dr.move RA.below;have y1:=HO2.obj.cell (i:=0) rfl;have y2:=HO2.swap.obj.cell (i:=0) rfl;have y5:=HO2.obj.cell (i:=1) rfl;have y6:=HO2.swap.obj.cell (i:=1) rfl;have y3:=HO2.obj.lt;have y4:=HO2.swap.obj.lt;rcases (show i=0∨i=1∨i=2∨i=3∨i=4∨i=5∨i=6∨i=7∨i=8∨i=9∨i=10∨i=11∨i=12∨i=13∨i=14 by omega) with rfl | rfl | rfl | rfl | rfl | rfl | rfl | rfl | rfl | rfl | rfl | rfl | rfl | rfl | rfl
    ·have e6:=RA.k 6;cases ho;exact wv rfl rfl rfl
    ·have e56:a.tmps.getD 56 undef=_:=RA.d 0 rfl;cases ho;exact wv rfl rfl rfl
    ·have e57:a.tmps.getD 57 undef=_:=RA.d 1 rfl;cases ho;exact wv rfl rfl rfl
    ·have e7:=RA.k 7;cases ho;exact wv rfl rfl rfl
    ·have e59:a.tmps.getD 59 undef=_:=RA.d 3 rfl;cases ho;exact wv rfl rfl rfl
    ·have e60:a.tmps.getD 60 undef=_:=RA.d 4 rfl;cases ho;exact wv rfl rfl rfl
    ·have e58:a.tmps.getD 58 undef=_:=RA.d 2 rfl;have e61:a.tmps.getD 61 undef=_:=RA.d 5 rfl;cases ho;exact wv rfl rfl rfl
    ·have e62:a.tmps.getD 62 undef=_:=RA.d 6 rfl;cases ho;exact wv rfl rfl rfl
    ·have e6:=RA.k 6;have e63:a.tmps.getD 63 undef=_:=RA.d 7 rfl;cases ho;exact wy rfl rfl rfl e63 rfl
    ·have e64:a.tmps.getD 64 undef=_:=RA.d 8 rfl;have e63:a.tmps.getD 63 undef=_:=RA.d 7 rfl;cases ho;refine we2 rfl rfl rfl e63 (HVL.out _ HO2.inn) ?_;rintro e w' ⟨r,rfl,hb,hr⟩;exact⟨_,rfl,_,rfl,hb,lC (R:=fun M u=>bP (VAt M n) M u L1) (fun k _ h=>bP.lF k h) HO2.inn hb hr⟩
    ·have e7:=RA.k 7;have e63:a.tmps.getD 63 undef=_:=RA.d 7 rfl;cases ho;exact wy rfl rfl rfl e63 rfl
    ·have e66:a.tmps.getD 66 undef=_:=RA.d 10 rfl;have e63:a.tmps.getD 63 undef=_:=RA.d 7 rfl;cases ho;refine we2 rfl rfl rfl e63 (HVL'.out _ HO2.inn) ?_;rintro e w' ⟨r,rfl,hb,hr⟩;exact⟨_,rfl,_,rfl,hb,lC (R:=fun M u=>bP (VAt M n) M u L2) (fun k _ h=>bP.lF k h) HO2.inn hb hr⟩
    ·have e65:(Fact.mem m [9] (fun M u=>bP (VAt M n) M u L1)).holds (a.tmps.getD 65 undef) win wr:=RA.d 9 rfl;have e67:(Fact.mem m [11] (fun M u=>bP (VAt M n) M u L2)).holds (a.tmps.getD 67 undef) win wr:=RA.d 11 rfl;have e63:a.tmps.getD 63 undef=_:=RA.d 7 rfl;cases ho;have f1:bP (VAt (m.wins wr win [9]) n) (m.wins wr win [9]) _ L1:=e65;have f2:bP (VAt (m.wins wr win [11]) n) (m.wins wr win [11]) _ L2:=e67;have M1:=Mem.nK (m:=m) (es:=[9,11]) HO2.inn win (ds:=[9]) zS;have M2:=Mem.nK (m:=m) (es:=[9,11]) HO2.inn win (ds:=[11]) zS;refine we2 rfl rfl rfl e63 (Ki H _ _ L1 L2 (m.wins wr win [9,11]) wr (Mem.jV HO2.inn win [9,11]) (f1.lF M1) (f2.lF M2) HKC.out.1 HKC.out.2) ?_;rintro e w' ⟨rfl,hb⟩;exact⟨_,rfl,_,rfl,hb,rfl⟩
    ·have e68:a.tmps.getD 68 undef=_:=RA.d 12 rfl;have e63:a.tmps.getD 63 undef=_:=RA.d 7 rfl;cases ho;exact wy rfl rfl rfl e63 rfl
    ·have e63:a.tmps.getD 63 undef=_:=RA.d 7 rfl;have e69:a.tmps.getD 69 undef=_:=RA.d 13 rfl;cases ho;exact wv rfl rfl rfl
   ·intro win a wr E;have e2:=E.keep 2 zk;have e3:=E.keep 3 zk;have e42:=E.keep 42 zk;have e43:=E.keep 43 zk;have e70:a.tmps.getD 70 undef=.bool (!tf (L1=L2)):=E.fact 14 _ zo rfl;have hZ:=HO.out.dr.move E.below;obtain⟨t1,d⟩:=a;obtain rfl:d=[]:=E.defers;refine di zk (hY.out _ _ E.size ⟨?_,hZ.tail.tail⟩) _;simp only[List.map_cons,List.map_nil,e2,e3,e42,e43,e70]
    rfl
  clear HO y1 y2 y3 y4 hin0 HVL HVL' HKC;rintro z2 vs w3 - ⟨rfl,hO⟩;simp[litL,lk];have HO:=zh hO;clear hO;by_cases hL:L1=L2
  ·have HX2:=zh (HX.out.trans ⟨fun h=>h.2,fun h=>⟨hL,h⟩⟩);rw[aI hL];clear HX hL;go_wp2;exact hX.out _ _ _ zo rfl ⟨i+1,zo,rfl,rfl,HX2.out,HO.out⟩
  ·have HX2:=zh (show ¬ v=v' from fun h=>hL (HX.out.1 h).1);rw[az hL];clear HX hL hX;go_wp2;exact hR.out _ _ ⟨aJ (by rw[az HX2.out]),HO.out.below⟩
 obtain rfl:i=v.lists.length:=zo;have HX:=zh (show v=v'↔v.structs=v'.structs from HE.out.trans ⟨fun h=>h.2,fun h=>⟨by rw[List.drop_eq_nil_of_le zo,List.drop_eq_nil_of_le (by rw[← HLL.out.1];omega)],h⟩⟩);have c8:=hO.swap.obj.cell HH.out.2.1;have g1:=hO.swap.obj.lt;have HO:=zh hO;clear hO hX HE;go_wp2;refine au [2,3,74,75] (fun q vs wr=>∃(i:Nat),i≤v.structs.length∧q=v.structs.length - i∧vs=[.pointer (some ⟨w.heap.size,0,none⟩),.pointer (some ⟨w.heap.size+1,0,none⟩),.int .i64 (v.structs.length:Int),.int .i64 (i:Int)]∧(v=v'↔v.structs.drop i=v'.structs.drop i) ∧
  Own w m wr m [.obj (w.heap.size+1) 33 N'.toArray,.obj w.heap.size 33 N.toArray]) ?_ ?_
 ·exact⟨_,0,Nat.zero_le _,rfl,rfl,HX.out,HO.out⟩
 clear HO HX c8 g1;rintro X z q vs wr hX - ⟨i,hi,rfl,rfl,hE,hO⟩;simp[litL,lk];have HE:=zh hE;clear hE;by_cases hlt:i<v.structs.length
 case neg=>
  have HX:=zh (show v=v' from HE.out.2 (by rw[List.drop_eq_nil_of_le zo,List.drop_eq_nil_of_le (by rw[← HLL.out.2];omega)]));have HB:=zh hO.below;clear hO hX HE;go_wp2;exact hR.out _ _ ⟨aJ (by rw[aI HX.out]),HB.out⟩
 have hlt':i<v'.structs.length:=by rw[← HLL.out.2];exact hlt
 obtain⟨b,off,rfl,h4⟩:=HK.out.2.1 (by intro h;simp[h] at hlt);obtain⟨b',off',rfl,h4'⟩:=HK.out.2.2.2 (by intro h;simp[h] at hlt');obtain⟨u,u2,s1,s2,s3,s4⟩:=h4 i hlt;obtain⟨u',u2',s1',s2',s3',s4'⟩:=h4' i hlt';have HLS:=zh (dM v.structs v'.structs i hlt hlt');have HSX:=zh (fun (w':World) (h:m.inn w')=>FU H v.structs[i] v'.structs[i] u u2 u' u2' m w' h s3 s4 s3' s4' (fun d hd=>HCN.out.1 d (il (List.getElem_mem hlt) hd)) (fun d hd=>HCN.out.2 d (il (List.getElem_mem hlt') hd)));generalize v.structs[i]=cl at *
 generalize v'.structs[i]=cl' at *
 obtain⟨ua,uc,rfl,-⟩:=s3;obtain⟨ua2,uc2,rfl,-⟩:=s4;obtain⟨ub,ud,rfl,-⟩:=s3';obtain⟨ub2,ud2,rfl,-⟩:=s4';have HO:=zh hO;have y8:=hO.swap.obj.cell HH.out.2.1;have y9:=hO.swap.obj.lt;clear hO h4 h4'
 go_upto_region 13 with (fail)
 clear y8 y9;refine aN [2,3,74,75,89] (fun vs w'=>vs=[.pointer (some ⟨w.heap.size,0,none⟩),.pointer (some ⟨w.heap.size+1,0,none⟩),.int .i64 (v.structs.length:Int),.int .i64 (i:Int),.bool (!tf (cl=cl'))] ∧
  Own w m w' m [.obj (w.heap.size+1) 33 N'.toArray,.obj w.heap.size 33 N.toArray]) ?_ ?_
 ·intro Y hY;refine aX 12 8 (fun j=>[Fact.is (·=.pointer (some ⟨w.heap.size,8,none⟩)),Fact.is (·=.slice (some ⟨b,off,none⟩) v.structs.length b5),Fact.is (·=.int .i64 (i:Int)),Fact.is (·=.pointer (some ⟨b,off+i*2,none⟩)),Fact.is (·=.agg #[.slice ua cl.1.length uc,.slice ua2 cl.2.length uc2]),Fact.is (·=.pointer (some ⟨w.heap.size+1,8,none⟩)),Fact.is (·=.slice (some ⟨b',off',none⟩) v'.structs.length b5'),Fact.is (·=.int .i64 (i:Int)),Fact.is (·=.pointer (some ⟨b',off'+i*2,none⟩)),Fact.is (·=.agg #[.slice ub cl'.1.length ud,.slice ub2 cl'.2.length ud2]),Fact.is (·=.bool (tf (cl=cl'))),Fact.is (·=.bool (!tf (cl=cl')))].getD j Fact.any) zk zk ?_ ?_
  ·intro i hi o win a wr ho RA;have HO2:=HO.out.dr.move RA.below;have c8:=HO2.swap.obj.cell HH.out.2.1;have c8':=HO2.obj.cell HH.out.2.2.2;have g1:=HO2.swap.obj.lt;have g2:=HO2.obj.lt;have x1:=Mem.aj HO2.inn s1;have x2:=Mem.aj HO2.inn s2;have xl:=Mem.av HO2.inn s1;have x1':=Mem.aj HO2.inn s1';have x2':=Mem.aj HO2.inn s2';have xl':=Mem.av HO2.inn s1';rcases (show i=0∨i=1∨i=2∨i=3∨i=4∨i=5∨i=6∨i=7∨i=8∨i=9∨i=10∨i=11 by omega) with rfl | rfl | rfl | rfl | rfl | rfl | rfl | rfl | rfl | rfl | rfl | rfl
   ·have e2:=RA.k 2;cases ho;exact wv rfl rfl rfl
   ·have e78:a.tmps.getD 78 undef=_:=RA.d 0 rfl;cases ho;exact wv rfl rfl rfl
   ·have e8:=RA.k 8;cases ho;exact wv rfl rfl rfl
   ·have e79:a.tmps.getD 79 undef=_:=RA.d 1 rfl;have e80:a.tmps.getD 80 undef=_:=RA.d 2 rfl;cases ho;refine aO rfl rfl (aK (by go_simp;try (intro hh;omega)) ⟨_,rfl,Below.refl _ _,rfl⟩)
   ·have e81:a.tmps.getD 81 undef=_:=RA.d 3 rfl;cases ho;exact wv rfl rfl rfl
   ·have e3:=RA.k 3;cases ho;exact wv rfl rfl rfl
   ·have e83:a.tmps.getD 83 undef=_:=RA.d 5 rfl;cases ho;exact wv rfl rfl rfl
   ·have e8:=RA.k 8;cases ho;exact wv rfl rfl rfl
   ·have e84:a.tmps.getD 84 undef=_:=RA.d 6 rfl;have e85:a.tmps.getD 85 undef=_:=RA.d 7 rfl;cases ho;refine aO rfl rfl (aK (by go_simp;try (intro hh;omega)) ⟨_,rfl,Below.refl _ _,rfl⟩)
   ·have e86:a.tmps.getD 86 undef=_:=RA.d 8 rfl;cases ho;exact wv rfl rfl rfl
   ·have e82:a.tmps.getD 82 undef=_:=RA.d 4 rfl;have e87:a.tmps.getD 87 undef=_:=RA.d 9 rfl;cases ho;refine we rfl rfl (HSX.out _ HO2.inn) ?_;rintro e w' ⟨rfl,hb⟩;exact⟨_,rfl,_,rfl,hb,rfl⟩
   ·have e88:a.tmps.getD 88 undef=_:=RA.d 10 rfl;cases ho;exact wv rfl rfl rfl
  ·intro win a wr E;have e2:=E.keep 2 zk;have e3:=E.keep 3 zk;have e74:=E.keep 74 zk;have e75:=E.keep 75 zk;have e89:a.tmps.getD 89 undef=.bool (!tf (cl=cl')):=E.fact 11 _ zo rfl;have hZ:=HO.out.dr.move E.below;obtain⟨t1,d⟩:=a;obtain rfl:d=[]:=E.defers;refine di zk (hY.out _ _ E.size ⟨?_,hZ⟩) _;simp only[List.map_cons,List.map_nil,e2,e3,e74,e75,e89]
   rfl
 clear HO s1 s2 s1' s2' HSX;rintro z2 vs w3 - ⟨rfl,hO⟩;simp[litL,lk];have HO:=zh hO;clear hO;by_cases hL:cl=cl'
 ·have HX2:=zh (HE.out.trans (HLS.out.trans ⟨fun h=>h.2,fun h=>⟨hL,h⟩⟩));rw[aI hL];clear HE HLS hL;go_wp2;exact hX.out _ _ _ zo rfl ⟨i+1,zo,rfl,rfl,HX2.out,HO.out⟩
 ·have HX2:=zh (show ¬ v=v' from fun h=>hL (HLS.out.1 (HE.out.1 h)).1);rw[az hL];clear HE HLS hL hX;go_wp2;exact hR.out _ _ ⟨aJ (by rw[az HX2.out]),HO.out.below⟩
theorem sM:∀n,vN n
 | 0=>fun _ _ _ _ _ _ _ h _ _ _=>h.elim
 | n+1=>Nl (sM n)
theorem EI {c:Lc} {i:Nat} (h:i<c.1.length):gN c (i:Int)=(c.1[i],true):=by
 unfold gN;rw[dif_pos ⟨zo,by simpa using h⟩];rfl
theorem wV {c:Lc} {i:Int} (h0:0≤i) (h:¬ i.toNat<c.1.length) (h2:0<c.2.length):gN c i=(c.2[0],true):=by
 unfold gN;rw[dif_neg (fun k=>h k.2),dif_pos ⟨h0,h2⟩]
theorem sj {c:Lc} {i:Int} (h:i<0∨(¬ i.toNat<c.1.length∧c.2.length=0)):gN c i=((botV,botV),false):=by
 unfold gN;rw[dif_neg (fun k=>by rcases h with h | h <;> omega),dif_neg (fun k=>by rcases h with h | h <;> omega)]
def vO (m:Mem) (n:Nat) (r:Vd × Bool) (e:Ending):Prop:=∃x y,e=.returned (.tuple #[bz r.1 x y,.bool r.2])∧VAt m (n+1) x r.1.1∧VAt m (n+1) y r.1.2
theorem nO (u u2:Value) (c:Lc) (i:Int) (m:Mem) (n:Nat) (w:World) (hm:m.inn w) (h1:bP (VAt m n) m u c.1) (h2:bP (VAt m n) m u2 c.2) :
 Calls Tryz.prog 32 #[.agg #[u,u2],.int .i64 i] w fun e w'=>vO m n (gN c i) e∧Below w.heap.size w w':=by
 obtain⟨a1,c1,rfl,p1,q1,k1⟩:=h1;obtain⟨a2,c2,rfl,p2,q2,k2⟩:=h2;unfold maxLen at q1 q2;have hO:=(((Own.start hm).al #[.slice a1 c.1.length c1,.slice a2 c.2.length c2] 51).al zcD 35);simp only[bB] at hO;have HO:=zh hO;have HK:=zh (zi k1 k2);clear hO k1 k2;refine ay fun R hR=>?_;by_cases h0:i<0
 ·have hd:decide (0≤i)=false:=decide_eq_false zo;have hd2:decide (i<0)=true:=decide_eq_true h0;have HR:=zh (show vO m n (gN c i) (.returned (.tuple #[bz (botV,botV) bq bq,.bool false])) by
   rw[sj (.inl h0)];exact⟨bq,bq,rfl,(VAt.leaf m false).mono zo,(VAt.leaf m false).mono zo⟩)
  clear h0
  go_enter Tryz.func32,Tryz.ntmps32
  go_wp2_with (first | refine aH tyD rfl (.tmp 4) (.tmp 34) rfl (cs:=zcD) rfl rfl rfl rfl zD HO.out.obj ?_ | refine aH tyD rfl (.tmp 4) (.tmp 8) rfl (cs:=zcD) rfl rfl rfl rfl zD HO.out.obj ?_)
  intro w' ho hg;have HF:=zh (HO.out.setObj ho hg);have hr:=tyD.load (cs:=zcD.toList) rfl ho.all;clear HO hg ho;go_wp2;refine bodyPost_ret (v:=.tuple #[.agg zcD,.bool false]) (cZ Tryz.results32 rfl hr) rfl ?_;exact hR.out _ _ ⟨HR.out,HF.out.below⟩
 obtain⟨k,rfl⟩:=Int.eq_ofNat_of_zero_le (by omega:0≤i);by_cases h1:k<c.1.length
 ·obtain⟨b,off,rfl,h4⟩:=HK.out.1 (by intro h;simp[h] at h1);obtain⟨x,y,hc,hx,hy⟩:=(h4 k h1).cells;have hl:(dcs c.1[k] x y).length=18:=rfl;have h1d:=cK hx hy;have hcl:=Mem.av HO.out.inn (hc 0 _ rfl);have HC:=zh (fun j u hj=>Mem.aj HO.out.inn (hc j u hj));have HR:=zh (show vO m n (gN c (k:Int)) (.returned (.tuple #[bz c.1[k] x y,.bool true])) by
   rw[EI h1];exact⟨x,y,rfl,hx.succ,hy.succ⟩)
  unfold bz at HR;generalize dcs c.1[k] x y=D at *
  clear h4 hc hx hy
  go_enter Tryz.func32,Tryz.ntmps32
  go_wp2_with (first
   | refine ae tyD rfl (.tmp 19) rfl rfl D hl HC.out ?_
   | refine ae tyD rfl (.tmp 17) rfl rfl D hl HC.out ?_
   | refine aH tyD rfl (.tmp 4) (.tmp 20) rfl (cs:=D.toArray) rfl rfl rfl (by simpa using hl) (fun u hu=>h1d u (by simpa using hu)) HO.out.obj ?_)
  intro w' ho hg;have HF:=zh (HO.out.setObj ho hg);have hr:=tyD.load hl ho.all;clear HO hg ho HC;go_wp2;refine bodyPost_ret (v:=.tuple #[.agg D.toArray,.bool true]) (cZ Tryz.results32 rfl hr) rfl ?_;exact hR.out _ _ ⟨HR.out,HF.out.below⟩
 by_cases h2:0<c.2.length
 ·obtain⟨b,off,rfl,h4⟩:=HK.out.2 (by intro h;simp[h] at h2);obtain⟨x,y,hc,hx,hy⟩:=(h4 0 h2).cells;simp only[Nat.zero_mul,Nat.add_zero] at hc;have hl:(dcs c.2[0] x y).length=18:=rfl;have h1d:=cK hx hy;have hcl:=Mem.av HO.out.inn (hc 0 _ rfl);have HC:=zh (fun j u hj=>Mem.aj HO.out.inn (hc j u hj));have HR:=zh (show vO m n (gN c (k:Int)) (.returned (.tuple #[bz c.2[0] x y,.bool true])) by
   rw[wV zo (by simpa using h1) h2];exact⟨x,y,rfl,hx.succ,hy.succ⟩)
  unfold bz at HR;generalize dcs c.2[0] x y=D at *
  clear h4 hc hx hy
  go_enter Tryz.func32,Tryz.ntmps32
  go_wp2_with (first
   | refine ae tyD rfl (.tmp 32) rfl rfl D hl HC.out ?_
   | refine ae tyD rfl (.tmp 25) rfl rfl D hl HC.out ?_
   | refine aH tyD rfl (.tmp 4) (.tmp 33) rfl (cs:=D.toArray) rfl rfl rfl (by simpa using hl) (fun u hu=>h1d u (by simpa using hu)) HO.out.obj ?_)
  intro w' ho hg;have HF:=zh (HO.out.setObj ho hg);have hr:=tyD.load hl ho.all;clear HO hg ho HC;go_wp2;refine bodyPost_ret (v:=.tuple #[.agg D.toArray,.bool true]) (cZ Tryz.results32 rfl hr) rfl ?_;exact hR.out _ _ ⟨HR.out,HF.out.below⟩
 ·have HR:=zh (show vO m n (gN c (k:Int)) (.returned (.tuple #[bz (botV,botV) bq bq,.bool false])) by
   rw[sj (.inr ⟨by simpa using h1,zo⟩)];exact⟨bq,bq,rfl,(VAt.leaf m false).mono zo,(VAt.leaf m false).mono zo⟩)
  go_enter Tryz.func32,Tryz.ntmps32
  go_wp2_with (refine aH tyD rfl (.tmp 4) (.tmp 34) rfl (cs:=zcD) rfl rfl rfl rfl zD HO.out.obj ?_)
  intro w' ho hg;have HF:=zh (HO.out.setObj ho hg);have hr:=tyD.load (cs:=zcD.toList) rfl ho.all;clear HO hg ho;go_wp2;refine bodyPost_ret (v:=.tuple #[.agg zcD,.bool false]) (cZ Tryz.results32 rfl hr) rfl ?_;exact hR.out _ _ ⟨HR.out,HF.out.below⟩
theorem jg (d d':Vd) (x y x' y':Sl) (m:Mem) (n:Nat) (w:World) (hm:m.inn w) (htab:TabM m) (h1:VAt m n x d.1) (h2:VAt m n y d.2) (h1':VAt m n x' d'.1) (h2':VAt m n y' d'.2) (kd:dG n d) (kd':dG n d') (f1:FewV n d.1) (f2:FewV n d.2) :
 Calls Tryz.prog 27 #[bz d x y,bz d' x' y'] w fun e w'=>e=.returned (.bool (tf (d=d')&&(tf (SndV d.1)&&tf (SndV d.2))))∧Below w.heap.size w w':=by
 have hO:=((Own.start hm).al (dcs d x y).toArray 35).al (dcs d' x' y').toArray 35;simp only[bB] at hO;have HC:=zh (jY (sM n) d d' x y x' y' m _ hO.inn h1 h2 h1' h2' kd kd');have HF:=zh (fun w' (h:m.inn w')=>kX d x y m n w' h htab h1 h2 f1 f2 kd.1 kd.2);have hN:(dcs d x y).length=18:=rfl;have hN':(dcs d' x' y').length=18:=rfl;have HO:=zh hO;have q0:=hO.swap.obj.all;have q0':=hO.obj.all;unfold bz at *
 generalize dcs d x y=D at *
 generalize dcs d' x' y'=D' at *
 clear hO h1 h2 h1' h2' f1 f2;generalize (tf (SndV d.1)&&tf (SndV d.2))=s1 at *
 generalize tf (d=d')=s2 at *
 refine ay fun R hR=>?_
 go_enter Tryz.func27,Tryz.ntmps27
 cases s2
 ·go_wp2_with (first
   | refine ae tyD rfl (.tmp 2) rfl rfl D hN q0 ?_
   | refine ae tyD rfl (.tmp 3) rfl rfl D' hN' q0' ?_
   | (go_at_call 55;refine HC.out.mono ?_;rintro e w1 ⟨rfl,hb1⟩))
  exact hR.out _ _ ⟨rfl,(HO.out.move hb1).below⟩
 ·go_wp2_with (first
   | refine ae tyD rfl (.tmp 3) rfl rfl D' hN' q0' ?_
   | (go_at_call 55;refine HC.out.mono ?_;rintro e w1 ⟨rfl,hb1⟩;have hO1:=HO.out.move hb1;have q1:=hO1.swap.obj.all)
   | refine ae tyD rfl (.tmp 2) rfl rfl D hN q1 ?_
   | refine ae tyD rfl (.tmp 2) rfl rfl D hN q0 ?_
   | (go_at_call 18;refine (HF.out _ hO1.inn).mono ?_;rintro e w2 ⟨rfl,hb2⟩))
  exact hR.out _ _ ⟨rfl,(hO1.move hb2).below⟩
def mJ:St:=([],[(allT,(topV,topV))])
def d9:Vl:=.mk false dJ [] [mJ]
theorem Mw (s:ByteArray):accB s allT=true:=by
 unfold accB;rw[aI yK.canon.wf,yK.lang];rfl
theorem Ih:gH allT:=⟨fun s hs=>by
 simp only[allT,List.mem_singleton] at hs;subst hs;simp,by simp[allT]⟩
theorem Lj:cB mJ:=⟨fun k hk=>by
 simp only[mJ,List.mem_singleton] at hk;subst hk;exact⟨yK.canon,by simp[allT]⟩,fun w=>by simp[hitN,mJ,Mv]⟩
theorem J5 (a:Bool):lU (.mk a dJ [] []) where
 any _:=⟨rfl,rfl,rfl⟩
 rest c hc:=by simp[Vl.lists] at hc
 st c hc:=by simp[Vl.structs] at hc
 sc:=iE
theorem rY (a:Bool) (n:Nat):Snd (n+1) (.mk a dJ [] []):=⟨J5 a,fun x hx=>by simp[Vl.kids,Vl.lists,Vl.structs] at hx⟩
theorem wK:d9.kids=[(topV,topV)]:=rfl
theorem o7 {c:St} (hc:c∈d9.structs):c=mJ:=by simpa [d9,Vl.structs] using hc
theorem Gg:lU d9 where
 any h:=by simp[d9,Vl.any] at h
 rest c hc:=by simp[d9,Vl.lists] at hc
 st c hc:=by
  rw[o7 hc];exact⟨⟨fun f hf=>by simp[mJ] at hf,fun i h=>absurd h (Nat.not_lt_zero _)⟩,Lj⟩
 sc:=iE
theorem o8:SndV d9:=⟨Gg,fun x hx=>by
 obtain rfl:x=(topV,topV):=by simpa [wK] using hx
 exact⟨rY true 14,rY true 14⟩⟩
theorem Jr:depV d9=2:=by unfold depV;rw[if_pos (aI o8)];rfl
theorem Jq:sizV d9=3:=by unfold sizV;rw[if_pos (aI o8)];rfl
theorem Gh:FewP d9 where
 sc:=⟨Nat.zero_le _,Nat.zero_le _,fun s hs=>(by simp[d9,Vl.s,dJ] at hs),Nat.zero_le _⟩
 l:=Nat.zero_le _
 s:=by simp[d9,Vl.structs]
 f c hc:=by rw[o7 hc];exact Nat.zero_le _
 k c hc:=by rw[o7 hc];simp[mJ]
 lab c hc f hf:=by rw[o7 hc] at hf;simp[mJ] at hf
 set c hc k hk:=by
  rw[o7 hc] at hk;obtain rfl:k=(allT,(topV,topV)):=by simpa [mJ] using hk
  exact Ih
theorem jH:FewV 2 d9:=⟨Gh,fun x hx=>by
 obtain rfl:x=(topV,topV):=by simpa [wK] using hx
 exact⟨qK 0 true,qK 0 true⟩⟩
theorem jI:vcnt 2 d9=3:=rfl
theorem pE (m:Mem) (w:World) (hm:m.inn w) :
 Calls Tryz.prog 42 #[] w fun e w'=>∃u,e=.returned (.agg #[.slice none 0 0,u])∧Below w.heap.size w w'∧fV (VAt (m.grow w w') 1) (m.grow w w') u mJ.2:=by
 have hO:=(Own.start hm).al #[.slice none 0 0,.slice none 0 0] 45;have HA:=zh (F7 m (w.alloc (.cells #[.slice none 0 0,.slice none 0 0] 45)));have HT:=zh (fun w'=>qA w');have HO:=zh hO;have hd:bz (topV,topV) bq bq=.agg #[.bool true,.bool false,.bool false,.bool false,.slice none 0 0,.slice none 0 0,.slice none 0 0,.slice none 0 0,.slice none 0 0,.bool true,.bool false,.bool false,.bool false,.slice none 0 0,.slice none 0 0,.slice none 0 0,.slice none 0 0,.slice none 0 0]:=rfl;have HD:=zh hd;clear hO hd;refine ay fun R hR=>?_
 go_enter Tryz.func42,Tryz.ntmps42
 go_wp2_with fail
 refine HA.out.mono ?_;rintro e w1 ⟨r,rfl,hb1,hr⟩;have hO1:=HO.out.call hb1;obtain⟨ra,rc,rfl,-⟩:=id hr
 go_wp2_with fail
 refine (HT.out _).mono ?_;rintro e w2 ⟨rfl,hb2⟩;rw[HD.out];have hO2:=hO1.move hb2;obtain⟨m3,l3,c3,hO3⟩:=gu 61 #[.slice ra allT.length rc,.bool true,.bool false,.bool false,.bool false,.slice none 0 0,.slice none 0 0,.slice none 0 0,.slice none 0 0,.slice none 0 0,.bool true,.bool false,.bool false,.bool false,.slice none 0 0,.slice none 0 0,.slice none 0 0,.slice none 0 0,.slice none 0 0] hO2;have f0:=hO3.obj.frozen 0;have f1:=hO3.obj.frozen 1;have g0:=hO3.obj.cell (i:=0) rfl;have g1:=hO3.obj.cell (i:=1) rfl;have gl:=hO3.obj.lt;have hO5:=(hO3.set 0 (.slice none 0 0)).set 1 (.slice (some ⟨w2.heap.size,0,none⟩) 1 1);have g4:=hO5.obj.cell (i:=0) (v:=.slice none 0 0) rfl;have g5:=hO5.obj.cell (i:=1) (v:=.slice (some ⟨w2.heap.size,0,none⟩) 1 1) rfl;have hle:=Mem.le_trans hO3.done (Mem.le_refl _);have HR:=zh (show fV (VAt m3 1) m3 (.slice (some ⟨w2.heap.size,0,none⟩) 1 1) mJ.2 from
  ⟨some ⟨w2.heap.size,0,none⟩,1,rfl,by simp[mJ],by simp[maxLen],fun _=>⟨_,0,rfl,fun i hi=>by
   obtain rfl:i=0:=by simpa [mJ] using hi
   refine ⟨⟨_,c3 0 _ rfl,bu l3 hr⟩,.of (x:=bq) (y:=bq) (fun j u hj=>?_) (VAt.leaf m3 true) (VAt.leaf m3 true)⟩;refine c3 (1+j) u ?_;have hj2:(dcs (topV,topV) bq bq)[j]?=some u:=hj;have hlt:=(List.getElem?_eq_some_iff.1 hj2).1;have:(dcs (topV,topV) bq bq).length=18:=rfl
   match j,hj2 with
   | 0,h=>exact h
   | 1,h=>exact h
   | 2,h=>exact h
   | 3,h=>exact h
   | 4,h=>exact h
   | 5,h=>exact h
   | 6,h=>exact h
   | 7,h=>exact h
   | 8,h=>exact h
   | 9,h=>exact h
   | 10,h=>exact h
   | 11,h=>exact h
   | 12,h=>exact h
   | 13,h=>exact h
   | 14,h=>exact h
   | 15,h=>exact h
   | 16,h=>exact h
   | 17,h=>exact h
   | k+18,_=>omega⟩⟩)
 have HO3:=zh (zi hO5.below hO5.done);clear hO1 hO2 hO3 hO5 hr l3 c3 HO HA HT hb1 hle HD;go_wp2;refine bodyPost_ret (v:=.agg #[.slice none 0 0,.slice (some ⟨w2.heap.size,0,none⟩) 1 1]) (by simp[results,Tryz.results42,go_sem,g4,g5]) rfl ?_;exact hR.out _ _ ⟨_,rfl,HO3.out.1,fV.le HO3.out.2 (fun _ _=>VAt.le HO3.out.2) HR.out⟩
theorem Fx (s:ByteArray):eU (accB s) mJ s=((topV,topV),3):=by
 unfold eU mJ;simp[Mw]
theorem JQ:JR botV=true:=by
 have h:ng botV.s=true:=rC;unfold JR;rw[h];rfl
theorem yo (w:World):(Instr.field 35 (bz (botV,botV) bq bq) 0).run Tryz.prog w=.ok (botV.val bq) w:=by kernel_rfl
theorem Kc (w:World):(Instr.field 35 (bz (topV,topV) bq bq) 0).run Tryz.prog w=.ok (topV.val bq) w:=by kernel_rfl
theorem Nb {m:Mem} {n g:Nat} {d:Vd} {x y:Sl} (hc:∀j u,(dcs d x y).toArray[j]?=some u→m.cell g j=some u) (hx:VAt m n x d.1) (hy:VAt m n y d.2):bP (VAt m n) m (.slice (some ⟨g,0,none⟩) 1 1) [d]:=
 ⟨some ⟨g,0,none⟩,1,rfl,zS,by simp[maxLen],fun _=>⟨g,0,rfl,fun i hi=>by
  obtain rfl:i=0:=by simpa using hi
  exact .of (fun j u hj=>by simpa using hc j u (by simpa using hj)) hx hy⟩⟩
theorem JN:gN ([],[(topV,topV)]) 4=((topV,topV),true):=by simp[gN]
theorem JO:gN ([],[]) 0=((botV,botV),false):=by simp[gN]
theorem NP:dG 1 (topV,topV):=by simp[dG,vcnt,topV,Vl.kids,Vl.lists,Vl.structs]
theorem NQ:dG 1 (botV,botV):=by simp[dG,vcnt,botV,Vl.kids,Vl.lists,Vl.structs]
theorem EU:dG 2 (d9,d9):=⟨by rw[jI];omega,by rw[jI];omega⟩
theorem FD:¬ ((topV,topV):Vd)=(botV,botV):=fun h=>by
 have:=congrArg (fun d:Vd=>d.1.any) h;simp[topV,botV,Vl.any] at this
theorem bv (m:Mem) (w:World) (hm:m.inn w) (htab:TabM m) :
 Calls Tryz.prog 14 #[] w fun e w'=>e=.returned (.bool true)∧Below w.heap.size w w':=by
 have HO:=zh (Own.start hm);have HA:=zh (pE m w hm);have HOP:=zh (fun (m':Mem) (w':World) (h:m'.inn w')=>pE m' w' h);have HTOP:=zh (fun w'=>qA w');refine ay fun R hR=>?_
 go_enter Tryz.func14,Tryz.ntmps14
 go_wp2_with fail
 refine HA.out.mono ?_;rintro e w1 ⟨u,rfl,hb1,hu⟩;have hO1:=HO.out.call hb1;have HT1:=zh (htab.le (Mem.dN (w:=w1) hm));have HV:=zh (nN (.slice none 0 0) u mJ ⟨#[97]⟩ _ 1 w1 hO1.inn (cu _ _) hu (by simp[ByteArray.size,maxLen]));have HO1:=zh hO1;generalize m.grow w w1=m1 at *
 clear hO1 HO HA hb1 hu htab
 go_wp2_with fail
 refine HV.out.mono ?_;rintro e w2 ⟨hv,hb2⟩;rw[Fx] at hv;obtain⟨x,y,rfl,hx,hy⟩:=hv;have hO2:=(HO1.out.move hb2).al zcD 35;have hl:(dcs (topV,topV) x y).length=18:=rfl;have h1d:=cK (d:=(topV,topV)) hx hy;have HIT:=zh (fun w'=>kY (topV,topV) x y w');have HO2:=zh hO2;unfold bz at HIT ⊢;generalize dcs (topV,topV) x y=D at *
 clear hO2 HO1 HV hb2 hx hy
 go_wp2_with (refine aH tyD rfl (.tmp 1) (.tmp 11) rfl (cs:=D.toArray) rfl rfl rfl (by simpa using hl) (fun u hu=>h1d u (by simpa using hu)) HO2.out.obj ?_)
 intro w3 ob3 hg3;have hO3:=HO2.out.setObj ob3 hg3;have hl3:=Mem.gZ (w:=w3) hO3.gq;have hc3:∀j u,D[j]?=some u→(m1.add w3 w2.heap.size).cell w2.heap.size j=some u:=fun j u hj=>Mem.dw hO3.obj (by simpa using hj);have HO3:=zh hO3.fZ;have HT3:=zh (HT1.out.le hl3);generalize m1.add w3 _=m3 at *
 generalize w2.heap.size=g1 at *
 have HC3:=zh hc3;clear HO2 hO3 hl3 hc3 ob3 hg3 h1d HT1
 go_wp2_with fail
 refine (HTOP.out _).mono ?_;rintro e w4 ⟨rfl,hb4⟩;rw[show bz (topV,topV) bq bq=.agg #[.bool true,.bool false,.bool false,.bool false,.slice none 0 0,.slice none 0 0,.slice none 0 0,.slice none 0 0,.slice none 0 0,.bool true,.bool false,.bool false,.bool false,.slice none 0 0,.slice none 0 0,.slice none 0 0,.slice none 0 0,.slice none 0 0] from rfl];obtain⟨m5,l5,c5,hO5⟩:=gu 35 (dcs (topV,topV) bq bq).toArray (HO3.out.move hb4);have hO5:Own w m (w4.alloc (.cells #[.bool true,.bool false,.bool false,.bool false,.slice none 0 0,.slice none 0 0,.slice none 0 0,.slice none 0 0,.slice none 0 0,.bool true,.bool false,.bool false,.bool false,.slice none 0 0,.slice none 0 0,.slice none 0 0,.slice none 0 0,.slice none 0 0] 35)) m5 []:=hO5;have HV:=zh (nO (.slice none 0 0) (.slice (some ⟨w4.heap.size,0,none⟩) 1 1) ([],[(topV,topV)]) 4 m5 1 _ hO5.inn (cu _ _) (Nb c5 (VAt.leaf m5 true) (VAt.leaf m5 true)));have HO5:=zh hO5;have HT5:=zh (HT3.out.le l5);have HC3:=zh (fun j u hj=>Mem.aA l5 (HC3.out j u hj));clear HO3 HT3 hO5 l5 c5 hb4
 go_wp2_with fail
 refine HV.out.mono ?_;rintro e w6 ⟨hv,hb6⟩;rw[JN] at hv;obtain⟨x2,y2,rfl,hx,hy⟩:=hv;have hO6:=(HO5.out.move hb6).al zcD 35;have hl2:(dcs (topV,topV) x2 y2).length=18:=rfl;have h1d:=cK (d:=(topV,topV)) hx hy;have HIT2:=zh (fun w'=>kY (topV,topV) x2 y2 w');have HO6:=zh hO6;unfold bz at HIT2 ⊢;generalize dcs (topV,topV) x2 y2=D2 at *
 clear hO6 HO5 HV hb6 hx hy
 go_wp2_with (refine aH tyD rfl (.tmp 3) (.tmp 18) rfl (cs:=D2.toArray) rfl rfl rfl (by simpa using hl2) (fun u hu=>h1d u (by simpa using hu)) HO6.out.obj ?_)
 intro w7 ob7 hg7;have hO7:=HO6.out.setObj ob7 hg7;have hl7:=Mem.gZ (w:=w7) hO7.gq;have hc7:∀j u,D2[j]?=some u→(m5.add w7 w6.heap.size).cell w6.heap.size j=some u:=fun j u hj=>Mem.dw hO7.obj (by simpa using hj);have HO7:=zh hO7.fZ;have HT7:=zh (HT5.out.le hl7);have HC3:=zh (fun j u hj=>Mem.aA hl7 (HC3.out j u hj));generalize m5.add w7 _=m7 at *
 generalize w6.heap.size=g2 at *
 have HC7:=zh hc7;have HV:=zh (nO (.slice none 0 0) (.slice none 0 0) ([],[]) 0 m7 0 _ HO7.out.inn (cu _ _) (cu _ _));clear HO6 hO7 hl7 hc7 ob7 hg7 h1d HT5
 go_wp2_with fail
 refine HV.out.mono ?_;rintro e w8 ⟨hv,hb8⟩;rw[JO] at hv;obtain⟨x3,y3,rfl,hx,hy⟩:=hv;have hO8:=(HO7.out.move hb8).al zcD 35;have hl3:(dcs (botV,botV) x3 y3).length=18:=rfl;have h1d:=cK (d:=(botV,botV)) hx hy;have HO8:=zh hO8;unfold bz at ⊢;generalize dcs (botV,botV) x3 y3=D3 at *
 clear hO8 HO7 HV hb8 hx hy
 go_wp2_with (refine aH tyD rfl (.tmp 5) (.tmp 23) rfl (cs:=D3.toArray) rfl rfl rfl (by simpa using hl3) (fun u hu=>h1d u (by simpa using hu)) HO8.out.obj ?_)
 intro w9 ob9 hg9;have hO9:=(HO8.out.setObj ob9 hg9).tail;have HA:=zh (HOP.out m7 w9 hO9.inn);have HO9:=zh hO9;clear HO8 hO9 ob9 hg9 h1d
 go_wp2_with fail
 refine HA.out.mono ?_;rintro e w10 ⟨u4,rfl,hb10,hu⟩;have hO10:=HO9.out.call hb10;have hle:=Mem.dN (w:=w10) HO9.out.inn;obtain⟨m11,l11,c11,hO11⟩:=gu 45 #[.slice none 0 0,u4] hO10;have hle:=Mem.le_trans hle l11;have hO12:=hO11.al zcV 33;have HT11:=zh (HT7.out.le hle);have HC3:=zh (fun j u hj=>Mem.aA hle (HC3.out j u hj));have HC7:=zh (fun j u hj=>Mem.aA hle (HC7.out j u hj));have HSV:=zh (show VAt m11 2 ⟨.slice none 0 0,.slice none 0 0,.slice none 0 0,.slice none 0 0,.slice (some ⟨w10.heap.size,0,none⟩) 1 1⟩ d9 from
  ⟨⟨cu _ _,cu _ _,cu _ _⟩,cu _ _,some ⟨w10.heap.size,0,none⟩,1,rfl,by simp[d9,Vl.structs],by simp[maxLen],fun _=>⟨_,0,rfl,fun i hi=>by
   obtain rfl:i=0:=by simpa [d9,Vl.structs] using hi
   exact⟨_,_,c11 0 _ rfl,c11 1 _ rfl,cu _ _,fV.le l11 (fun _ _=>VAt.le l11) hu⟩⟩⟩)
 have HO12:=zh hO12;simp only[bB] at HO12;have gl:=hO12.tail.inn;clear HO9 hO10 hO11 hO12 l11 c11 hu hb10 hle HT7 HA gl
 go_wp2_with (refine aH tyV rfl (.tmp 7) (.tmp 27) rfl (cs:=#[.bool false,.bool false,.bool false,.bool false,.slice none 0 0,.slice none 0 0,.slice none 0 0,.slice none 0 0,.slice (some ⟨w10.heap.size,0,none⟩) 1 1]) rfl rfl rfl rfl (by simp[Value.oneCell']) HO12.out.obj ?_)
 intro w13 ob13 hg13;have hO13:=HO12.out.setObj ob13 hg13;have hl13:=Mem.gZ (w:=w13) hO13.gq;obtain⟨sv,hsv⟩:∃sv:Sl,sv=⟨.slice none 0 0,.slice none 0 0,.slice none 0 0,.slice none 0 0,.slice (some ⟨w10.heap.size,0,none⟩) 1 1⟩:=⟨_,rfl⟩;have hc13:∀j u,(nine d9 sv)[j]?=some u→(m11.add w13 (w10.heap.size+1)).cell (w10.heap.size+1) j=some u:=fun j u hj=>Mem.dw hO13.obj (by rw[hsv] at hj;have hj2:([.bool false,.bool false,.bool false,.bool false,.slice none 0 0,.slice none 0 0,.slice none 0 0,.slice none 0 0,.slice (some ⟨w10.heap.size,0,none⟩) 1 1]:List Value)[j]?=some u:=hj;simpa using hj2);have HSV:=zh (show VAt (m11.add w13 (w10.heap.size+1)) 2 sv d9 by rw[hsv];exact HSV.out.le hl13);have HO13:=zh hO13.fZ;have HT:=zh (HT11.out.le hl13);have HC3:=zh (fun j u hj=>Mem.aA hl13 (HC3.out j u hj));have HC7:=zh (fun j u hj=>Mem.aA hl13 (HC7.out j u hj));generalize m11.add w13 _=M at *
 generalize w10.heap.size+1=g3 at *
 have HC13:=zh hc13;have hl9:(nine d9 sv).length=9:=rfl;clear HO12 hO13 hl13 hc13 ob13 hg13 HT11 hsv;have HLB:=zh (VAt.leaf M false);have HLT:=zh (VAt.leaf M true)
 go_upto_region 5 with (fail)
 refine aN [0] (fun vs w'=>vs=[.bool true]∧Own w m w' M []) ?_ ?_
 ·intro Y hY;refine aX 62 6 (fun j=>[Fact.is (·=bz (botV,botV) bq bq),Fact.is (·=botV.val bq),Fact.is (·=.bool true),Fact.is (·=.bool true),Fact.is (·=bz (topV,topV) bq bq),Fact.is (·=.bool true),Fact.is (·=.bool true),Fact.is (·=.bool true),Fact.is (·=.agg D.toArray),Fact.is (·=.bool true),Fact.is (·=.bool true),Fact.is (·=.bool true),Fact.is (·=.int .i64 3),Fact.is (·=.bool true),Fact.is (·=.bool true),Fact.is (·=.bool true),Fact.is (·=.agg D2.toArray),Fact.is (·=.bool true),Fact.is (·=.bool true),Fact.is (·=.bool true),Fact.is (·=.bool true),Fact.is (·=.bool true),Fact.is (·=.bool true),Fact.is (·=.bool false),Fact.is (·=.bool true),Fact.is (·=.bool true),Fact.is (·=.bool true),Fact.is (·=bz (topV,topV) bq bq),Fact.is (·=topV.val bq),Fact.is (·=bz (botV,botV) bq bq),Fact.is (·=botV.val bq),Fact.is (·=.int .i64 (-1)),Fact.is (·=.bool true),Fact.is (·=.bool true),Fact.is (·=.bool true),Fact.is (·=.agg (nine d9 sv).toArray),Fact.is (·=bz (d9,d9) sv sv),Fact.is (·=.bool true),Fact.is (·=.bool true),Fact.is (·=.bool true),Fact.is (·=.agg (nine d9 sv).toArray),Fact.is (·=.int .i64 2),Fact.is (·=.bool true),Fact.is (·=.bool true),Fact.is (·=.bool true),Fact.is (·=.agg (nine d9 sv).toArray),Fact.is (·=.int .i64 3),Fact.is (·=.bool true),Fact.is (·=.bool true),Fact.is (·=.bool true),Fact.is (·=bz (topV,topV) bq bq),Fact.is (·=bz (botV,botV) bq bq),Fact.is (·=.bool false),Fact.is (·=.bool true),Fact.is (·=.bool true),Fact.is (·=.bool true),Fact.is (·=.agg (nine d9 sv).toArray),Fact.is (·=bz (d9,d9) sv sv),Fact.is (·=.agg (nine d9 sv).toArray),Fact.is (·=bz (d9,d9) sv sv),Fact.is (·=.bool true),Fact.is (·=.bool true)].getD j Fact.any) zk zk ?_ ?_
  ·intro i hi o win a wr ho RA;have HO2:=HO13.out.dr.move RA.below;have y1:=Mem.av HO2.inn (HC3.out 0 (D[0]'zo) (List.getElem?_eq_getElem _));have y2:=Mem.av HO2.inn (HC7.out 0 (D2[0]'zo) (List.getElem?_eq_getElem _));have y3:=Mem.av HO2.inn (HC13.out 0 _ rfl);rcases (show i=0∨i=1∨i=2∨i=3∨i=4∨i=5∨i=6∨i=7∨i=8∨i=9∨i=10∨i=11∨i=12∨i=13∨i=14∨i=15∨i=16∨i=17∨i=18∨i=19∨i=20∨i=21∨i=22∨i=23∨i=24∨i=25∨i=26∨i=27∨i=28∨i=29∨i=30∨i=31∨i=32∨i=33∨i=34∨i=35∨i=36∨i=37∨i=38∨i=39∨i=40∨i=41∨i=42∨i=43∨i=44∨i=45∨i=46∨i=47∨i=48∨i=49∨i=50∨i=51∨i=52∨i=53∨i=54∨i=55∨i=56∨i=57∨i=58∨i=59∨i=60∨i=61 by omega) with rfl | rfl | rfl | rfl | rfl | rfl | rfl | rfl | rfl | rfl | rfl | rfl | rfl | rfl | rfl | rfl | rfl | rfl | rfl | rfl | rfl | rfl | rfl | rfl | rfl | rfl | rfl | rfl | rfl | rfl | rfl | rfl | rfl | rfl | rfl | rfl | rfl | rfl | rfl | rfl | rfl | rfl | rfl | rfl | rfl | rfl | rfl | rfl | rfl | rfl | rfl | rfl | rfl | rfl | rfl | rfl | rfl | rfl | rfl | rfl | rfl | rfl
   ·cases ho;refine we rfl rfl (iI wr) ?_;rintro e w' ⟨rfl,hb⟩;exact⟨_,rfl,_,rfl,hb,rfl⟩
   ·have e28:a.tmps.getD 28 undef=_:=RA.d 0 rfl;cases ho;refine aO rfl rfl (aK (by go_simp;first | done | rfl | exact yo _ | simp[yo]) ⟨_,rfl,Below.refl _ _,rfl⟩)
   ·have e29:a.tmps.getD 29 undef=_:=RA.d 1 rfl;cases ho;refine we rfl rfl (sO botV bq M 1 wr HO2.inn HT.out HLB.out ⟨Nat.zero_le _,Nat.zero_le _,Nat.zero_le _⟩ (Nat.zero_le _) (Nat.zero_le _)) ?_;rintro e w' ⟨rfl,hb⟩;exact⟨_,rfl,_,rfl,hb,congrArg Value.bool JQ⟩
   ·have e30:a.tmps.getD 30 undef=_:=RA.d 2 rfl;cases ho;exact wv rfl rfl rfl
   ·have e31:a.tmps.getD 31 undef=_:=RA.d 3 rfl;cases ho;refine we2 rfl rfl rfl e31 (lW wr) ?_;rintro e w' ⟨rfl,hb⟩;exact⟨_,rfl,_,rfl,hb,rfl⟩
   ·have e32:a.tmps.getD 32 undef=_:=RA.d 4 rfl;have e31:a.tmps.getD 31 undef=_:=RA.d 3 rfl;cases ho;refine we2 rfl rfl rfl e31 (kY (topV,topV) bq bq wr) ?_;rintro e w' ⟨rfl,hb⟩;exact⟨_,rfl,_,rfl,hb,rfl⟩
   ·have e31:a.tmps.getD 31 undef=_:=RA.d 3 rfl;have e33:a.tmps.getD 33 undef=_:=RA.d 5 rfl;cases ho;exact wv rfl rfl rfl
   ·have e34:a.tmps.getD 34 undef=_:=RA.d 6 rfl;cases ho;exact wv rfl rfl rfl
   ·have e1:=RA.k 1;have e35:a.tmps.getD 35 undef=_:=RA.d 7 rfl;cases ho;refine dn rfl (bQ rfl rfl e35) (aK (tyD.exec (b:=g1) (off:=0) rfl zg hl (fun j u hj=>by rw[Nat.zero_add];exact Mem.aj HO2.inn (HC3.out j u hj))) ⟨_,rfl,Below.refl _ _,rfl⟩)
   ·have e36:a.tmps.getD 36 undef=_:=RA.d 8 rfl;have e35:a.tmps.getD 35 undef=_:=RA.d 7 rfl;cases ho;refine we2 rfl rfl rfl e35 (HIT.out wr) ?_;rintro e w' ⟨rfl,hb⟩;exact⟨_,rfl,_,rfl,hb,rfl⟩
   ·have e35:a.tmps.getD 35 undef=_:=RA.d 7 rfl;have e37:a.tmps.getD 37 undef=_:=RA.d 9 rfl;cases ho;exact wv rfl rfl rfl
   ·have e38:a.tmps.getD 38 undef=_:=RA.d 10 rfl;cases ho;exact wv rfl rfl rfl
   ·have e2:=RA.k 2;have e39:a.tmps.getD 39 undef=_:=RA.d 11 rfl;cases ho;exact wy rfl rfl rfl e39 rfl
   ·have e40:a.tmps.getD 40 undef=_:=RA.d 12 rfl;have e39:a.tmps.getD 39 undef=_:=RA.d 11 rfl;cases ho;exact wy rfl rfl rfl e39 rfl
   ·have e39:a.tmps.getD 39 undef=_:=RA.d 11 rfl;have e41:a.tmps.getD 41 undef=_:=RA.d 13 rfl;cases ho;exact wv rfl rfl rfl
   ·have e42:a.tmps.getD 42 undef=_:=RA.d 14 rfl;cases ho;exact wv rfl rfl rfl
   ·have e3:=RA.k 3;have e43:a.tmps.getD 43 undef=_:=RA.d 15 rfl;cases ho;refine dn rfl (bQ rfl rfl e43) (aK (tyD.exec (b:=g2) (off:=0) rfl zg hl2 (fun j u hj=>by rw[Nat.zero_add];exact Mem.aj HO2.inn (HC7.out j u hj))) ⟨_,rfl,Below.refl _ _,rfl⟩)
   ·have e44:a.tmps.getD 44 undef=_:=RA.d 16 rfl;have e43:a.tmps.getD 43 undef=_:=RA.d 15 rfl;cases ho;refine we2 rfl rfl rfl e43 (HIT2.out wr) ?_;rintro e w' ⟨rfl,hb⟩;exact⟨_,rfl,_,rfl,hb,rfl⟩
   ·have e43:a.tmps.getD 43 undef=_:=RA.d 15 rfl;have e45:a.tmps.getD 45 undef=_:=RA.d 17 rfl;cases ho;exact wv rfl rfl rfl
   ·have e46:a.tmps.getD 46 undef=_:=RA.d 18 rfl;cases ho;exact wv rfl rfl rfl
   ·have e4:=RA.k 4;have e47:a.tmps.getD 47 undef=_:=RA.d 19 rfl;cases ho;exact wy rfl rfl rfl e47 rfl
   ·have e47:a.tmps.getD 47 undef=_:=RA.d 19 rfl;have e48:a.tmps.getD 48 undef=_:=RA.d 20 rfl;cases ho;exact wv rfl rfl rfl
   ·have e49:a.tmps.getD 49 undef=_:=RA.d 21 rfl;cases ho;exact wv rfl rfl rfl
   ·have e6:=RA.k 6;have e50:a.tmps.getD 50 undef=_:=RA.d 22 rfl;cases ho;exact wy rfl rfl rfl e50 rfl
   ·have e51:a.tmps.getD 51 undef=_:=RA.d 23 rfl;have e50:a.tmps.getD 50 undef=_:=RA.d 22 rfl;cases ho;exact wy rfl rfl rfl e50 rfl
   ·have e50:a.tmps.getD 50 undef=_:=RA.d 22 rfl;have e52:a.tmps.getD 52 undef=_:=RA.d 24 rfl;cases ho;exact wv rfl rfl rfl
   ·have e53:a.tmps.getD 53 undef=_:=RA.d 25 rfl;cases ho;exact wv rfl rfl rfl
   ·have e54:a.tmps.getD 54 undef=_:=RA.d 26 rfl;cases ho;refine we2 rfl rfl rfl e54 (lW wr) ?_;rintro e w' ⟨rfl,hb⟩;exact⟨_,rfl,_,rfl,hb,rfl⟩
   ·have e55:a.tmps.getD 55 undef=_:=RA.d 27 rfl;have e54:a.tmps.getD 54 undef=_:=RA.d 26 rfl;cases ho;refine dn rfl (bQ rfl rfl e54) (aK (by go_simp;first | done | rfl | exact Kc _ | simp[Kc]) ⟨_,rfl,Below.refl _ _,rfl⟩)
   ·have e54:a.tmps.getD 54 undef=_:=RA.d 26 rfl;cases ho;refine we2 rfl rfl rfl e54 (iI wr) ?_;rintro e w' ⟨rfl,hb⟩;exact⟨_,rfl,_,rfl,hb,rfl⟩
   ·have e57:a.tmps.getD 57 undef=_:=RA.d 29 rfl;have e54:a.tmps.getD 54 undef=_:=RA.d 26 rfl;cases ho;refine dn rfl (bQ rfl rfl e54) (aK (by go_simp;first | done | rfl | exact yo _ | simp[yo]) ⟨_,rfl,Below.refl _ _,rfl⟩)
   ·have e56:a.tmps.getD 56 undef=_:=RA.d 28 rfl;have e58:a.tmps.getD 58 undef=_:=RA.d 30 rfl;have e54:a.tmps.getD 54 undef=_:=RA.d 26 rfl;cases ho;refine we2 rfl rfl rfl e54 (sP topV botV bq bq M 1 wr HO2.inn HT.out HLT.out HLB.out (qK 0 true) (qK 0 false) (by simp[vcnt,topV,Vl.kids,Vl.lists,Vl.structs]) (by simp[vcnt,botV,Vl.kids,Vl.lists,Vl.structs]) (rY true 15) (rY false 15) (by simp[topV,botV,Vl.any])) ?_;rintro e w' ⟨rfl,hb⟩;exact⟨_,rfl,_,rfl,hb,rfl⟩
   ·have e59:a.tmps.getD 59 undef=_:=RA.d 31 rfl;have e54:a.tmps.getD 54 undef=_:=RA.d 26 rfl;cases ho;exact wy rfl rfl rfl e54 rfl
   ·have e54:a.tmps.getD 54 undef=_:=RA.d 26 rfl;have e60:a.tmps.getD 60 undef=_:=RA.d 32 rfl;cases ho;exact wv rfl rfl rfl
   ·have e61:a.tmps.getD 61 undef=_:=RA.d 33 rfl;cases ho;exact wv rfl rfl rfl
   ·have e7:=RA.k 7;have e62:a.tmps.getD 62 undef=_:=RA.d 34 rfl;cases ho;refine dn rfl (bQ rfl rfl e62) (aK (tyV.exec (b:=g3) (off:=0) rfl zg hl9 (fun j u hj=>by rw[Nat.zero_add];exact Mem.aj HO2.inn (HC13.out j u hj))) ⟨_,rfl,Below.refl _ _,rfl⟩)
   ·have e63:a.tmps.getD 63 undef=_:=RA.d 35 rfl;have e62:a.tmps.getD 62 undef=_:=RA.d 34 rfl;cases ho;refine we2 rfl rfl rfl e62 (fB d9 sv M 2 wr HO2.inn HSV.out) ?_;rintro e w' ⟨rfl,hb⟩;exact⟨_,rfl,_,rfl,hb,rfl⟩
   ·have e64:a.tmps.getD 64 undef=_:=RA.d 36 rfl;have e62:a.tmps.getD 62 undef=_:=RA.d 34 rfl;cases ho;refine we2 rfl rfl rfl e62 (kX (d9,d9) sv sv M 2 wr HO2.inn HT.out HSV.out HSV.out jH jH (by rw[jI];omega) (by rw[jI];omega)) ?_;rintro e w' ⟨rfl,hb⟩;exact⟨_,rfl,_,rfl,hb,by rw[aI o8];rfl⟩
   ·have e62:a.tmps.getD 62 undef=_:=RA.d 34 rfl;have e65:a.tmps.getD 65 undef=_:=RA.d 37 rfl;cases ho;exact wv rfl rfl rfl
   ·have e66:a.tmps.getD 66 undef=_:=RA.d 38 rfl;cases ho;exact wv rfl rfl rfl
   ·have e7:=RA.k 7;have e67:a.tmps.getD 67 undef=_:=RA.d 39 rfl;cases ho;refine dn rfl (bQ rfl rfl e67) (aK (tyV.exec (b:=g3) (off:=0) rfl zg hl9 (fun j u hj=>by rw[Nat.zero_add];exact Mem.aj HO2.inn (HC13.out j u hj))) ⟨_,rfl,Below.refl _ _,rfl⟩)
   ·have e68:a.tmps.getD 68 undef=_:=RA.d 40 rfl;have e67:a.tmps.getD 67 undef=_:=RA.d 39 rfl;cases ho;refine we2 rfl rfl rfl e67 (zx d9 sv M 2 wr HO2.inn HT.out HSV.out jH (by rw[jI];omega)) ?_;rintro e w' ⟨rfl,hb⟩;exact⟨_,rfl,_,rfl,hb,congrArg (Value.int .i64) Jr⟩
   ·have e69:a.tmps.getD 69 undef=_:=RA.d 41 rfl;have e67:a.tmps.getD 67 undef=_:=RA.d 39 rfl;cases ho;exact wy rfl rfl rfl e67 rfl
   ·have e67:a.tmps.getD 67 undef=_:=RA.d 39 rfl;have e70:a.tmps.getD 70 undef=_:=RA.d 42 rfl;cases ho;exact wv rfl rfl rfl
   ·have e71:a.tmps.getD 71 undef=_:=RA.d 43 rfl;cases ho;exact wv rfl rfl rfl
   ·have e7:=RA.k 7;have e72:a.tmps.getD 72 undef=_:=RA.d 44 rfl;cases ho;refine dn rfl (bQ rfl rfl e72) (aK (tyV.exec (b:=g3) (off:=0) rfl zg hl9 (fun j u hj=>by rw[Nat.zero_add];exact Mem.aj HO2.inn (HC13.out j u hj))) ⟨_,rfl,Below.refl _ _,rfl⟩)
   ·have e73:a.tmps.getD 73 undef=_:=RA.d 45 rfl;have e72:a.tmps.getD 72 undef=_:=RA.d 44 rfl;cases ho;refine we2 rfl rfl rfl e72 (BO d9 sv M 2 wr HO2.inn HT.out HSV.out jH (by rw[jI];omega)) ?_;rintro e w' ⟨rfl,hb⟩;exact⟨_,rfl,_,rfl,hb,congrArg (Value.int .i64) Jq⟩
   ·have e74:a.tmps.getD 74 undef=_:=RA.d 46 rfl;have e72:a.tmps.getD 72 undef=_:=RA.d 44 rfl;cases ho;exact wy rfl rfl rfl e72 rfl
   ·have e72:a.tmps.getD 72 undef=_:=RA.d 44 rfl;have e75:a.tmps.getD 75 undef=_:=RA.d 47 rfl;cases ho;exact wv rfl rfl rfl
   ·have e76:a.tmps.getD 76 undef=_:=RA.d 48 rfl;cases ho;exact wv rfl rfl rfl
   ·have e77:a.tmps.getD 77 undef=_:=RA.d 49 rfl;cases ho;refine we2 rfl rfl rfl e77 (lW wr) ?_;rintro e w' ⟨rfl,hb⟩;exact⟨_,rfl,_,rfl,hb,rfl⟩
   ·have e77:a.tmps.getD 77 undef=_:=RA.d 49 rfl;cases ho;refine we2 rfl rfl rfl e77 (iI wr) ?_;rintro e w' ⟨rfl,hb⟩;exact⟨_,rfl,_,rfl,hb,rfl⟩
   ·have e78:a.tmps.getD 78 undef=_:=RA.d 50 rfl;have e79:a.tmps.getD 79 undef=_:=RA.d 51 rfl;have e77:a.tmps.getD 77 undef=_:=RA.d 49 rfl;cases ho;refine we2 rfl rfl rfl e77 (jg (topV,topV) (botV,botV) bq bq bq bq M 1 wr HO2.inn HT.out HLT.out HLT.out HLB.out HLB.out NP NQ (qK 0 true) (qK 0 true)) ?_;rintro e w' ⟨rfl,hb⟩;exact⟨_,rfl,_,rfl,hb,by rw[az FD];rfl⟩
   ·have e80:a.tmps.getD 80 undef=_:=RA.d 52 rfl;have e77:a.tmps.getD 77 undef=_:=RA.d 49 rfl;cases ho;exact wy rfl rfl rfl e77 rfl
   ·have e77:a.tmps.getD 77 undef=_:=RA.d 49 rfl;have e81:a.tmps.getD 81 undef=_:=RA.d 53 rfl;cases ho;exact wv rfl rfl rfl
   ·have e82:a.tmps.getD 82 undef=_:=RA.d 54 rfl;cases ho;exact wv rfl rfl rfl
   ·have e7:=RA.k 7;have e83:a.tmps.getD 83 undef=_:=RA.d 55 rfl;cases ho;refine dn rfl (bQ rfl rfl e83) (aK (tyV.exec (b:=g3) (off:=0) rfl zg hl9 (fun j u hj=>by rw[Nat.zero_add];exact Mem.aj HO2.inn (HC13.out j u hj))) ⟨_,rfl,Below.refl _ _,rfl⟩)
   ·have e84:a.tmps.getD 84 undef=_:=RA.d 56 rfl;have e83:a.tmps.getD 83 undef=_:=RA.d 55 rfl;cases ho;refine we2 rfl rfl rfl e83 (fB d9 sv M 2 wr HO2.inn HSV.out) ?_;rintro e w' ⟨rfl,hb⟩;exact⟨_,rfl,_,rfl,hb,rfl⟩
   ·have e7:=RA.k 7;have e83:a.tmps.getD 83 undef=_:=RA.d 55 rfl;cases ho;refine dn rfl (bQ rfl rfl e83) (aK (tyV.exec (b:=g3) (off:=0) rfl zg hl9 (fun j u hj=>by rw[Nat.zero_add];exact Mem.aj HO2.inn (HC13.out j u hj))) ⟨_,rfl,Below.refl _ _,rfl⟩)
   ·have e86:a.tmps.getD 86 undef=_:=RA.d 58 rfl;have e83:a.tmps.getD 83 undef=_:=RA.d 55 rfl;cases ho;refine we2 rfl rfl rfl e83 (fB d9 sv M 2 wr HO2.inn HSV.out) ?_;rintro e w' ⟨rfl,hb⟩;exact⟨_,rfl,_,rfl,hb,rfl⟩
   ·have e85:a.tmps.getD 85 undef=_:=RA.d 57 rfl;have e87:a.tmps.getD 87 undef=_:=RA.d 59 rfl;have e83:a.tmps.getD 83 undef=_:=RA.d 55 rfl;cases ho;refine we2 rfl rfl rfl e83 (jg (d9,d9) (d9,d9) sv sv sv sv M 2 wr HO2.inn HT.out HSV.out HSV.out HSV.out HSV.out EU EU jH jH) ?_;rintro e w' ⟨rfl,hb⟩;exact⟨_,rfl,_,rfl,hb,by rw[aI rfl,aI o8];rfl⟩
   ·have e83:a.tmps.getD 83 undef=_:=RA.d 55 rfl;have e88:a.tmps.getD 88 undef=_:=RA.d 60 rfl;cases ho;exact wv rfl rfl rfl
  ·intro win a wr E;have e89:a.tmps.getD 89 undef=.bool true:=E.fact 61 _ zo rfl;have hZ:=HO13.out.dr.move E.below;obtain⟨t1,d⟩:=a;obtain rfl:d=[]:=E.defers;refine jB 62 zk (aO rfl rfl (aK (by go_simp;first | done | exact⟨rfl,rfl⟩ | rfl) ?_));refine di zk (hY.out _ _ (by simpa using E.size) ⟨?_,hZ⟩) _;have hsz:t1.size=90:=E.size;simp[hsz] at e89;simp[hsz]
 rintro z vs w2 - ⟨rfl,hO⟩;simp[litL,lk];have HB:=zh hO.below;clear hO HO13 HT HC3 HC7 HC13 HSV HLB HLT HIT HIT2;go_wp2;exact hR.out _ _ ⟨rfl,HB.out⟩
end Cl
