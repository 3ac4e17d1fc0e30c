/- Lemmas for the proofs of chapter 11. -/
import Derived.Test.YtdgjplfcpcphoaaGreatDoorProg
import Derived.BigQuiet
import Derived.Deep.Cut
import Derived.Deep.QuietTactic
import Derived.Laws.StructEq
import Derived.Lib.AppendStr
import Derived.Lib.Builder
import Derived.Lib.Hide
import Derived.Lib.ItoaLen
import Derived.Maps.OwnOps
import Derived.Maps.OwnSet
import Derived.OrdersHeld
import Derived.Outline
import Derived.StillTailTactics
import Derived.StringKeys
import Derived.WalkKit
import Derived.WalkLawsBesides
import Derived.WalkSpells
import Derived.Deep.RegionHeld
import Derived.Laws.CopyRow
import Derived.Laws.Tables
import Derived.BigFrame
import Derived.Shelf.Strings.Builder1
import Derived.Shelf.Small.Wraps
import Derived.Shelf.LaysM
import Derived.Shelf.Strconv.Itoa3
import Derived.Laws.EntriesVeiled
import Derived.RegionTactic
import Derived.RangeFuncNested
import Derived.RangeFuncBound
import Derived.RangeFuncCalls
import Derived.RangeFuncLeaves
import Derived.OwnWalkIn
import Derived.TacticsInMore
import Derived.LoopNIn
import Derived.LoopIn
import Derived.Shelf.Strconv.AppendIntPublic10
import Derived.Shelf.SlSortCmp.WholeK
import Derived.Laws.CopyOwn
import Derived.ChangeAlike
import Derived.Shelf.Spec.SlicesGrow
import Derived.Laws.BytesArg
import Derived.Test.YtdgjplfcpcphoaaGreatDoorZz
import Derived.Test.YtdgjplfcpcphoaaGreatDoorPkV15
import Derived.Test.YtdgjplfcpcphoaaGreatDoorPkV3
import Derived.Test.YtdgjplfcpcphoaaGreatDoorPkV1
import Derived.Test.YtdgjplfcpcphoaaGreatDoorPkV2
import Derived.Test.YtdgjplfcpcphoaaGreatDoorPkV4
import Derived.Test.YtdgjplfcpcphoaaGreatDoorPkV6
import Derived.Test.YtdgjplfcpcphoaaGreatDoorPkV7
import Derived.Test.YtdgjplfcpcphoaaGreatDoorPkV8
import Derived.Test.YtdgjplfcpcphoaaGreatDoorPkV16
import Derived.Test.YtdgjplfcpcphoaaGreatDoorPkV19
import Derived.Test.YtdgjplfcpcphoaaGreatDoorPkV5
import Derived.Test.YtdgjplfcpcphoaaGreatDoorPkV10
import Derived.Test.YtdgjplfcpcphoaaGreatDoorPkV14
import Derived.Test.YtdgjplfcpcphoaaGreatDoorPkV20
import Derived.Test.YtdgjplfcpcphoaaGreatDoorPkV9
import Derived.Test.YtdgjplfcpcphoaaGreatDoorPkV11
import Derived.Test.YtdgjplfcpcphoaaGreatDoorPkV13
import Derived.Test.YtdgjplfcpcphoaaGreatDoorPkV12
import Derived.Test.YtdgjplfcpcphoaaGreatDoorPkV17
import Derived.Test.YtdgjplfcpcphoaaGreatDoorPkV18
set_option maxRecDepth 100000
set_option maxHeartbeats 16000000
namespace Cl
open Go Go.RowKit Go.Proofs
def afK (c:St) (v:List Int) (b k:Nat):List Int:=aftK (stC1 c) v b k
structure AfV (c:St) (v:List Int) (b:Nat):Prop where
 len:∀k,k≤v.length→(afK c v b k).length=v.length
 zero:afK c v b 0=List.replicate v.length (-1)
 all:afK c v b v.length=dD (stC1 c) v b
 self:∀k,k<v.length→(afK c v b k).set k (-1)=afK c v b k
 tab:∀i (h:i<c.2.length) (hv:i<v.length),(afK c v b i).set i (aV c.2[i].1 v[i] b)=afK c v b (i+1)
 lab:∀i (h:i<c.1.length) (hv:c.2.length+i<v.length),(afK c v b (c.2.length+i)).set (c.2.length+i) (jR c.1[i].1.1.data.toList v[c.2.length+i] b)=afK c v b (c.2.length+(i+1))
theorem AfV.of {c:St} {v:List Int} (h:v.length=(stC1 c).length) (b:Nat):AfV c v b:=by
 have hl2:=wZ c;have tT:∀i (hi:i<c.2.length) (h':i<(stC1 c).length),(stC1 c)[i]=tabC (c.2[i]).1:=fun i hi h'=>by
  simp only[stC1];rw[List.getElem_append_left (by simpa using hi)];simp
 have tF:∀i (hi:i<c.1.length) (h':c.2.length+i<(stC1 c).length),(stC1 c)[c.2.length+i]=labC (c.1[i]).1.1.data.toList:=fun i hi h'=>by
  simp only[stC1];rw[List.getElem_append_right zS];simp
 refine ⟨fun k hk=>LW h.symm b hk,J7 _ _ _,LX h.symm b,fun k hk=>?_,fun i hi hv=>?_,fun i hi hv=>?_⟩
 ·show (aftK _ _ _ _).set _ _=aftK _ _ _ _;rw[Ey h.symm b hk];unfold aftK;rw[show v.length - k=(v.length - (k+1))+1 by omega,List.replicate_succ]
 ·have:=Be h.symm b hv;rw[tT i hi] at this;exact this
 ·have:=Be h.symm b hv;rw[tF i hi] at this;rw[← Nat.add_assoc];exact this
def jH (l:List Int):List Value:=l.map (Value.int .i64)
theorem pQ (l:List Int) (i:Nat) (x:Int):(jH l).set i (.int .i64 x)=jH (l.set i x):=by simp[jH,List.map_set]
theorem pR {l:List Int} {i:Nat} (h:i<l.length):(jH l)[i]?=some (.int .i64 l[i]):=by simp[jH,h]
theorem NT:EF Tryz.prog 180 3 8 (.int .i64 0):=⟨Tryz.underlying180,zk,rfl⟩
theorem Lh (n i:Nat) (h:i<n):(List.replicate i (-1:Int) ++ List.replicate (n - i) 0).set i (-1)=List.replicate (i+1) (-1) ++ List.replicate (n - (i+1)) 0:=by
 rw[List.set_append_right _ _ zS,List.length_replicate,Nat.sub_self,show n - i=(n - (i+1))+1 by omega,List.replicate_succ,List.set_cons_zero,List.replicate_succ',List.append_assoc]
 rfl
theorem Ho (l:Table) (k:Nat) (h:k<l.length) (hw:WF l) (b:Nat):aV l (k:Int) b=mh b (l[k]).edges (-1):=by
 rw[← Jg hw,AB l k h]
theorem yK (u u' va:Value) (c:St) (v:List Int) (bb:Nat) (m:Mem) (n:Nat) (w:World) (hm:m.inn w) (h1:ja (VAt m n) m u c.1) (h2:iA (VAt m n) m u' c.2) (hv:cO m va v) (hV:VIn (stC1 c) v) (hwf:∀k∈c.2,WF k.1) (_:bb<256) (hvl:v.length≤1000000) (hvr:∀x∈dD (stC1 c) v bb,-9223372036854775808≤x∧x≤9223372036854775807) :
 Calls Tryz.prog 195 #[.agg #[u,u'],va,.int .u8 bb] w fun e w'=>∃r,e=.returned r∧Below w.heap.size w w'∧cO (m.grow w w') r (dD (stC1 c) v bb):=by
 have hS:=StV.of hV;have hF:=AfV.of hV.len bb;have HVL:=zh hS.len;obtain⟨a1,c1,rfl,p1,q1,k1⟩:=h1;obtain⟨a2,c2,rfl,p2,q2,k2⟩:=h2;obtain⟨a3,c3,rfl,p3,q3,k3⟩:=hv;unfold maxLen at q1 q2 q3;have HR:=zh (zi hS.rngT hS.rngF);have HK:=zh (zi k1 (zi k2 k3));have HW:=zh (fun i (h:i<c.2.length)=>hwf c.2[i] (List.getElem_mem h));have HAL:=zh hF.len;have HAZ:=zh hF.zero;have HAA:=zh hF.all;have HAS:=zh hF.self;have HAT:=zh hF.tab;have HAF:=zh hF.lab;have HVR:=zh hvr;have hO:=(Own.start hm).al #[.slice a1 c.1.length c1,.slice a2 c.2.length c2] 45;have HO:=zh hO;clear hV hS hF k1 k2 k3 hwf hO hvr;generalize afK c v bb=af at *
 generalize dD (stC1 c) v bb=VS at *
 generalize c.2=KL at *
 generalize c.1=FL at *
 refine av fun R hR=>?_
 go_enter Tryz.func195,Tryz.ntmps195
 go_wp2_with (refine wpList_make_row NT rfl (.tmp 18) (.tmp 18) rfl v.length rfl rfl zo (by unfold maxLen;omega) ?_)
 intro w1 ho1 hg1;rw[← cz w (.cells #[.slice a1 FL.length c1,.slice a2 KL.length c2] 45)] at ho1;have hO:=HO.out.make ho1 hg1;simp only[cz] at hO;have HO1:=zh hO;clear HO ho1 hg1 hO;go_wp2;refine au [1,2,3,7,21,22] (fun q vs wr=>∃(i:Nat),i≤v.length∧q=v.length - i∧vs=[.slice a3 v.length c3,.int .u8 bb,.pointer (some ⟨w.heap.size,0,none⟩),.slice (some ⟨w.heap.size+1,0,none⟩) v.length v.length,.int .i64 (v.length:Int),.int .i64 (i:Int)] ∧
  Own w m wr m [.row (.slice (some ⟨w.heap.size+1,0,none⟩) v.length v.length) 3 1 v.length (jH (List.replicate i (-1) ++ List.replicate (v.length - i) 0)),.obj w.heap.size 45 #[.slice a1 FL.length c1,.slice a2 KL.length c2]]) ?_ ?_
 ·exact⟨_,0,Nat.zero_le _,rfl,rfl,by simpa [jH] using HO1.out⟩
 clear HO1;rintro X z q vs wr hX - ⟨i,hi,rfl,rfl,hO⟩;simp[litL,lk];by_cases hlt:i<v.length
 ·have r1:=aN hO.row (pR (i:=i) (by simp;omega));have r2:=bO hO.row i;have rl:=hO.swap.obj.lt;have hO2:=hO.setRow i (.int .i64 (-1));rw[pQ,Lh _ _ hlt] at hO2;have HO2:=zh hO2;clear hO hO2;go_wp2;exact hX.out _ _ _ zo rfl ⟨i+1,zo,rfl,rfl,HO2.out⟩
 ·obtain rfl:i=v.length:=zo;rw[Nat.sub_self,List.replicate_zero,List.append_nil,← HAZ.out] at hO;have g0:=hO.swap.obj.cell (i:=0) rfl;have g1:=hO.swap.obj.cell (i:=1) rfl;have gl:=hO.swap.obj.lt;have HO:=zh hO;clear hO hX;go_wp2;refine au [1,2,3,7,30,31,32] (fun q vs wr=>∃(i:Nat),i≤KL.length∧q=KL.length - i∧vs=[.slice a3 v.length c3,.int .u8 bb,.pointer (some ⟨w.heap.size,0,none⟩),.slice (some ⟨w.heap.size+1,0,none⟩) v.length v.length,.slice a2 KL.length c2,.int .i64 (KL.length:Int),.int .i64 (i:Int)] ∧
   Own w m wr m [.row (.slice (some ⟨w.heap.size+1,0,none⟩) v.length v.length) 3 1 v.length (jH (af i)),.obj w.heap.size 45 #[.slice a1 FL.length c1,.slice a2 KL.length c2]]) ?_ ?_
  ·exact⟨_,0,Nat.zero_le _,rfl,rfl,HO.out⟩
  clear HO g0 g1 gl;rintro X z q vs wr hX - ⟨i,hi,rfl,rfl,hO⟩;simp[litL,lk];have g0:=hO.swap.obj.cell (i:=0) rfl;have g1:=hO.swap.obj.cell (i:=1) rfl;have gl:=hO.swap.obj.lt;by_cases hlt:i<KL.length
  ·obtain⟨b,off,rfl,h4⟩:=HK.out.2.1 (by intro h;simp[h] at hlt);obtain⟨kc,x,y,hks,hc,hx,hy⟩:=(h4 i hlt).cells;obtain⟨b3,off3,rfl,h5⟩:=HK.out.2.2 (by intro h;have:=HVL.out;rw[h] at this;simp at this;omega);have hiv:i<v.length:=by have:=HVL.out;omega
   have e1:=(h5 i hiv).1;have hcl:=Mem.ay hO.inn (hc 0 _ rfl);have HC:=zh (fun j u hj=>Mem.aj hO.inn (hc j u hj));have h2:=nA hks hx hy;have hl2:(kcs KL[i] kc x y).length=19:=rfl;have H0:(kcs KL[i] kc x y).toArray[0]?=some kc:=rfl;have hrg:=HR.out.1 i hlt hiv;have hwf:=HW.out i hlt;have HS:=zh (HAT.out i hlt hiv);have HSF:=zh (zi (HAS.out i hiv) (HAL.out i zo));have HQ:=zh (zi (fun z (hz:z<0)=>gG (l:=KL[i].1) hz bb) (zi (fun (k:Nat) (hk:k<KL[i].1.length)=>Ho KL[i].1 k hk hwf bb) hwf));have HO:=zh (hO.al zcK 61);obtain⟨ta,tc,rfl,t1,t2,t3⟩:=hks;unfold maxLen at t2;have HT:=zh t3;generalize kcs KL[i] _ x y=M at *
   generalize v[i]=vi at *
   generalize KL[i].1=T at *
   clear hO hx hy hc h4 h5 t3 hwf
   go_wp2_with (first
    | refine ae tyK rfl (.tmp 35) rfl rfl M hl2 HC.out ?_
    | refine aI tyK rfl (.tmp 10) (.tmp 36) rfl (cs:=M.toArray) rfl rfl rfl (by simp[hl2]) (fun u hu=>h2 u hu) HO.out.obj ?_)
   intro w1 ho1 hg1;have hO1:=HO.out.setObj ho1 hg1;have gb:=ho1.cell H0;have gbl:=hO1.obj.lt;have x1:=Mem.aj hO1.inn e1;have xl:=Mem.ay hO1.inn e1;have HO1:=zh hO1.tail;by_cases hpos:vi<0
   ·have hd:decide (vi<0)=true:=decide_eq_true hpos;have hss:=HS.out;rw[HQ.out.1 vi hpos,HSF.out.1] at hss;have HSS:=zh hss;clear hO1 HO ho1 hg1 HC e1 HQ HS hss;go_wp2;exact hX.out _ _ _ zo rfl ⟨i+1,zo,rfl,rfl,by rw[← HSS.out];exact HO1.out⟩
   ·obtain⟨k,rfl⟩:=Int.eq_ofNat_of_zero_le (by omega:0≤vi);have hkt:k<T.length:=zo;obtain⟨tb,to,rfl,t4⟩:=HT.out (by intro h;rw[h] at hkt;simp at hkt);obtain⟨s1,ve,s2,ea,ec,rfl,e4,e5,e6⟩:=t4 k hkt;have y1:=Mem.aj hO1.inn s2;have yl:=Mem.ay hO1.inn s2;have hss:=HS.out;rw[HQ.out.2.1 k hkt] at hss;have HSS:=zh hss;have HE6:=zh e6;unfold maxLen at e5;have hd:decide ((k:Int)<0)=false:=decide_eq_false zo;generalize T[k].edges=es at *
    clear hO1 HO ho1 hg1 HC e1 s1 s2 t4 HQ hss e6;go_wp2
    go_quiet (fail)
    go_wp2;refine au [1,2,3,7,9,30,31,32,51,52,53] (fun q vs w2=>∃(j:Nat),j≤es.length∧q=es.length - j∧vs=[.slice (some ⟨b3,off3,none⟩) v.length c3,.int .u8 bb,.pointer (some ⟨w.heap.size,0,none⟩),.slice (some ⟨w.heap.size+1,0,none⟩) v.length v.length,.int .i64 (i:Int),.slice (some ⟨b,off,none⟩) KL.length c2,.int .i64 (KL.length:Int),.int .i64 (i:Int),.slice ea es.length ec,.int .i64 (es.length:Int),.int .i64 (j:Int)] ∧
     Own w m w2 m [.row (.slice (some ⟨w.heap.size+1,0,none⟩) v.length v.length) 3 1 v.length (jH ((af i).set i (mh bb (es.take j) (-1)))),.obj w.heap.size 45 #[.slice a1 FL.length c1,.slice (some ⟨b,off,none⟩) KL.length c2]]) ?_ ?_
    ·refine ⟨_,0,Nat.zero_le _,rfl,rfl,?_⟩;have:=HO1.out;rw[← HSF.out.1] at this;exact this.drN _
    clear HO1 g0 g1 gl gb gbl x1 xl y1 yl;rintro Y z2 q2 vs w2 hY - ⟨j,hj,rfl,rfl,hO2⟩;simp[litL,lk];by_cases hlt2:j<es.length
    ·obtain⟨b',off',rfl,h10⟩:=HE6.out (by intro h;simp[h] at hlt2);obtain⟨e1,e2,e3,e4',e5',-⟩:=h10 j hlt2;have d1:=Mem.aj hO2.inn e1;have d2:=Mem.aj hO2.inn e2;have d3:=Mem.aj hO2.inn e3;have hb1:=Mem.ay hO2.inn e1;have hlen:((af i).set i (mh bb (es.take j) (-1))).length=v.length:=by rw[List.length_set];exact HSF.out.2
     have r1:=aN hO2.row (pR (i:=i) zo);have r2:=bO hO2.row i;have rl:=hO2.swap.obj.lt;have rl2:w.heap.size+1<w2.heap.size:=Item.lt (hO2.ok _ (List.mem_cons_self ..)) rfl;have hls:=Gb bb (-1) hlt2;have HO2:=zh (hO2.al' (.cells #[.int .u8 es[j].lo,.int .u8 es[j].hi,.int .i64 es[j].to] 104));have hO3:=(hO2.setRow i (.int .i64 es[j].to)).al' (.cells #[.int .u8 es[j].lo,.int .u8 es[j].hi,.int .i64 es[j].to] 104);rw[pQ,List.set_set] at hO3;have HO3:=zh hO3;have HLS:=zh hls;generalize es[j]=e at *
     clear hO2 h10 e1 e2 e3 hls hO3;by_cases m1:e.lo≤bb
     ·by_cases m2:bb≤e.hi
      ·have hq:mh bb (es.take (j+1)) (-1)=e.to:=by rw[HLS.out,if_pos ⟨m1,m2⟩]
       have HQ:=zh hq;clear HLS hq;go_wp2;exact hY.out _ _ _ zo rfl ⟨j+1,zo,rfl,rfl,by rw[HQ.out];exact HO3.out⟩
      ·have hq:mh bb (es.take (j+1)) (-1)=mh bb (es.take j) (-1):=by rw[HLS.out,if_neg zo]
       have HQ:=zh hq;clear HLS hq;go_wp2;exact hY.out _ _ _ zo rfl ⟨j+1,zo,rfl,rfl,by rw[HQ.out];exact HO2.out⟩
     ·have hq:mh bb (es.take (j+1)) (-1)=mh bb (es.take j) (-1):=by rw[HLS.out,if_neg zo]
      have HQ:=zh hq;clear HLS hq;go_wp2;exact hY.out _ _ _ zo rfl ⟨j+1,zo,rfl,rfl,by rw[HQ.out];exact HO2.out⟩
    ·rw[List.take_of_length_le (l:=es) (i:=j) zo,HSS.out] at hO2;have HO3:=zh hO2;clear hO2 hY HS;go_wp2;exact hX.out _ _ _ zo rfl ⟨i+1,zo,rfl,rfl,HO3.out⟩
  ·obtain rfl:i=KL.length:=zo;have HO:=zh hO;clear hO hX;go_wp2;refine au [1,2,3,7,75,76,77] (fun q vs wr=>∃(i:Nat),i≤FL.length∧q=FL.length - i∧vs=[.slice a3 v.length c3,.int .u8 bb,.pointer (some ⟨w.heap.size,0,none⟩),.slice (some ⟨w.heap.size+1,0,none⟩) v.length v.length,.slice a1 FL.length c1,.int .i64 (FL.length:Int),.int .i64 (i:Int)] ∧
    Own w m wr m [.row (.slice (some ⟨w.heap.size+1,0,none⟩) v.length v.length) 3 1 v.length (jH (af (KL.length+i))),.obj w.heap.size 45 #[.slice a1 FL.length c1,.slice a2 KL.length c2]]) ?_ ?_
   ·exact⟨_,0,Nat.zero_le _,rfl,rfl,HO.out⟩
   clear HO g0 g1 gl;rintro X z q vs wr hX - ⟨i,hi,rfl,rfl,hO⟩;simp[litL,lk];have g0:=hO.swap.obj.cell (i:=0) rfl;have g1:=hO.swap.obj.cell (i:=1) rfl;have gl:=hO.swap.obj.lt;by_cases hlt:i<FL.length
   ·obtain⟨b,off,rfl,h4⟩:=HK.out.1 (by intro h;simp[h] at hlt);obtain⟨x,y,hc,hx,hy⟩:=(h4 i hlt).cells;obtain⟨b3,off3,rfl,h5⟩:=HK.out.2.2 (by intro h;have:=HVL.out;rw[h] at this;simp at this;omega);have hiv:KL.length+i<v.length:=by have:=HVL.out;omega
    have e1:=(h5 (KL.length+i) hiv).1;have hcl:=Mem.ay hO.inn (hc 0 _ rfl);have HC:=zh (fun j u hj=>Mem.aj hO.inn (hc j u hj));have h2:=nH hx hy;have hl2:(fcs FL[i] x y).length=20:=rfl;have H0:(fcs FL[i] x y).toArray[0]?=some (.string FL[i].1.1):=rfl;have hrg:=HR.out.2 i hlt hiv;have hsz:=(h4 i hlt).sz;have HS:=zh (HAF.out i hlt hiv);have HSF:=zh (zi (HAS.out (KL.length+i) hiv) (HAL.out (KL.length+i) zo));have rl2:w.heap.size+1<wr.heap.size:=Item.lt (hO.ok _ (List.mem_cons_self ..)) rfl;have HO:=zh (hO.al zcF 58);unfold maxLen at hsz;generalize fcs FL[i] x y=M at *
    generalize v[KL.length+i]=vi at *
    generalize FL[i].1.1=lab at *
    clear hO hx hy hc h4 h5
    go_wp2_with (first
     | refine ae tyF rfl (.tmp 80) rfl rfl M hl2 HC.out ?_
     | refine aI tyF rfl (.tmp 14) (.tmp 81) rfl (cs:=M.toArray) rfl rfl rfl (by simp[hl2]) (fun u hu=>h2 u hu) HO.out.obj ?_)
    intro w1 ho1 hg1;have hO1:=HO.out.setObj ho1 hg1;have g0:=hO1.third.obj.cell (i:=0) rfl;have g1:=hO1.third.obj.cell (i:=1) rfl;have gl:=hO1.third.obj.lt;have gb:=ho1.cell H0;have gbl:=hO1.obj.lt;have x1:=Mem.aj hO1.inn e1;have xl:=Mem.ay hO1.inn e1;have hO1:=hO1.tail;have r1:=aN hO1.row (pR (l:=af (KL.length+i)) (i:=KL.length+i) (by rw[HSF.out.2];exact hiv));have r2:=bO hO1.row (KL.length+i);have rl2:w.heap.size+1<w1.heap.size:=Item.lt (hO1.ok _ (List.mem_cons_self ..)) rfl;have hO3:=hO1.setRow (KL.length+i) (.int .i64 (vi+1));rw[pQ] at hO3;have HO3:=zh hO3;have HO1:=zh hO1;have hneg:∀(_:¬ (0≤vi∧(lab.data.toList[vi.toNat]?).map (·.toNat)=some bb)),af (KL.length+(i+1))=af (KL.length+i):=fun h=>by
     rw[← HS.out,show jR lab.data.toList vi bb = -1 by unfold jR;rw[if_neg h]];exact HSF.out.1
    have HN:=zh hneg;clear HO ho1 hg1 HC e1 hO1 hO3 hneg;by_cases h0:0≤vi
    case neg=>
     have hd1:decide (0≤vi)=false:=decide_eq_false h0;have HE:=zh (HN.out fun h=>h0 h.1);clear HN HS;go_wp2;exact hX.out _ _ _ zo rfl ⟨i+1,zo,rfl,rfl,by rw[HE.out];exact HO1.out⟩
    have hd1:decide (0≤vi)=true:=decide_eq_true h0;by_cases h3:vi<(lab.size:Int)
    case neg=>
     have hd2:decide (vi<(lab.size:Int))=false:=decide_eq_false h3;have HE:=zh (HN.out fun h=>by
      obtain⟨u,h5,-⟩:=Option.map_eq_some_iff.1 h.2;have:=(List.getElem?_eq_some_iff.1 h5).1;rw[wG] at this;omega)
     clear HN HS;go_wp2;exact hX.out _ _ _ zo rfl ⟨i+1,zo,rfl,rfl,by rw[HE.out];exact HO1.out⟩
    obtain⟨k,rfl⟩:=Int.eq_ofNat_of_zero_le h0;have hk:k<lab.size:=zo;have hd2:decide ((k:Int)<(lab.size:Int))=true:=decide_eq_true zo;have hlk:lab.data.toList[((k:Nat):Int).toNat]?=some lab[k]:=by
     simp only[Int.toNat_natCast];rw[List.getElem?_eq_getElem (by rw[wG];exact hk)]
     rfl
    by_cases hbk:lab[k].toNat=bb
    ·have hd3:((lab[k].toNat:Int)==(bb:Int))=true:=beq_iff_eq.2 zo;have hE:af (KL.length+(i+1))=(af (KL.length+i)).set (KL.length+i) ((k:Int)+1):=by
      rw[← HS.out]
      congr 1
      unfold jR;rw[if_pos ⟨zo,by rw[hlk];simp[hbk]⟩]
     have HE:=zh hE;clear HN HS hE hlk hbk;go_wp2;exact hX.out _ _ _ zo rfl ⟨i+1,zo,rfl,rfl,by rw[HE.out];exact HO3.out⟩
    ·have hd3:((lab[k].toNat:Int)==(bb:Int))=false:=beq_eq_false_iff_ne.2 zo;have HE:=zh (HN.out fun h=>by
      have:=h.2;rw[hlk] at this;simp at this;exact hbk this)
     clear HN HS hlk hbk;go_wp2;exact hX.out _ _ _ zo rfl ⟨i+1,zo,rfl,rfl,by rw[HE.out];exact HO1.out⟩
   ·obtain rfl:i=FL.length:=zo;rw[← HVL.out,HAA.out] at hO;have hlv:VS.length=v.length:=by rw[← HAA.out];exact HAL.out _ (Nat.le_refl _)
    have hrow:=hO.row;rw[show (jH VS)=VS.map (Value.int .i64) from rfl] at hrow;have hres:=dh hO.aY.done (bI (m:=m) (l:=VS) (by rw[hlv];exact hrow) HVR.out);have HF:=zh (zi hO.below hres);clear hO hrow hres hX;go_wp2;exact hR.out _ _ ⟨_,rfl,HF.out⟩
def jk (m:Mem) (ts:List Value) (todo:List (List Int)):Prop:=ts.length=todo.length∧∀i (h1:i<ts.length) (h2:i<todo.length),cO m ts[i] todo[i]
theorem jk.le {m m':Mem} {ts:List Value} {todo:List (List Int)} (h:jk m ts todo) (k:m.le m'):jk m' ts todo:=⟨h.1,fun i h1 h2=>dh k (h.2 i h1 h2)⟩
theorem jk.push {m:Mem} {ts:List Value} {todo:List (List Int)} (h:jk m ts todo) {x:Value} {l:List Int} (hx:cO m x l):jk m (ts ++ [x]) (todo ++ [l]):=by
 refine ⟨by simp[h.1],fun i h1 h2=>?_⟩;by_cases c:i<ts.length
 ·rw[List.getElem_append_left c,List.getElem_append_left (by rw[← h.1];exact c)];exact h.2 i c _
 ·have h3:i=ts.length:=by simp at h1;omega
  subst h3;simp[h.1,hx]
theorem jk.pop {m:Mem} {ts:List Value} {todo:List (List Int)} (h:jk m ts todo) (hn:todo≠[]):∃ts' x todo' l,ts=ts' ++ [x]∧todo=todo' ++ [l]∧jk m ts' todo'∧cO m x l:=by
 have hn2:ts≠[]:=fun e=>hn (List.length_eq_zero_iff.1 (by rw[← h.1,e];rfl));have e1:=(List.dropLast_concat_getLast hn2).symm;have e2:=(List.dropLast_concat_getLast hn).symm;generalize ts.dropLast=ts' at e1;generalize ts.getLast hn2=x at e1;generalize todo.dropLast=todo' at e2;generalize todo.getLast hn=l at e2;subst e1 e2;have hl:ts'.length=todo'.length:=by have:=h.1;simpa using this
 refine ⟨ts',x,todo',l,rfl,rfl,⟨hl,fun i h1 h2=>?_⟩,?_⟩
 ·have:=h.2 i (by simp;omega) (by simp;omega)
  rwa [List.getElem_append_left h1,List.getElem_append_left h2] at this
 ·have:=h.2 ts'.length zS (by simp;omega);simpa [hl] using this
theorem Own.NQ {w0 w:World} {m mk:Mem} {L:List Item} {g k cap size:Nat} {t:TypeId} {xs last:List Value} (h:Own w0 m w mk (.row (.slice (some ⟨g,0,none⟩) (k+1) cap) t size (k+1) (xs ++ last)::L)) (hx:xs.length=k*size) :
 Own w0 m w mk (.row (.slice (some ⟨g,0,none⟩) k cap) t size k xs::L):=
 h.app (ownsRow_pop hx h.row) (World.grownBy.refl _ _) (N:=w.heap.size) (fun _ hk=>.inl hk) (Nat.le_refl _)
theorem kT {w:World} {base:Nat} {e:TypeId} {size k:Nat} {v:Value} {xs:List Value} (h:w.ownsRow base e size v (k+1) xs):∃g cap,v=.slice (some ⟨g,0,none⟩) (k+1) cap∧k+1≤cap:=by
 rcases h.2 with ⟨-,h0⟩ | ⟨g,cap,cur,h0,-,-,h1,-⟩
 ·omega
 ·exact⟨g,cap,h0,h1⟩
theorem Mc (w:World):(zeroValue 4).run Tryz.prog w=.ok (.bool false) w:=by kernel_rfl
theorem NF:eT Tryz.prog 181 180 1 24:=⟨Tryz.underlying181,zo,by
 obtain⟨i,h1,h2,h3,h4⟩:=info_parts (show (Tryz.prog.info? 180).map (fun i=>(i.zero,i.size,i.bytes))=some (some (.slice none 0 0),1,24) by kernel_rfl);exact⟨i,_,h1,h2,h3,h4,rfl⟩⟩
structure VSt (c:St) (seen todo:List (List Int)) (P:List Int→Prop) (ob:Obj):Prop where
 s:Srch (stC1 c) seen todo P
 map:∃f,BMap Tryz.prog 9 4 ob seen.length f∧nO f seen
 le:todo.length≤seen.length
theorem uI (u u':Value) (c:St) (m:Mem) (n:Nat) (w:World) (hm:m.inn w) (htab:TabM m) (h1:ja (VAt m n) m u c.1) (h2:iA (VAt m n) m u' c.2) (l1:c.1.length≤6) (l2:c.2.length≤6) (l3:∀f∈c.1,f.1.1.size≤40) (l4:∀k∈c.2,fZ k.1) :
 Calls Tryz.prog 154 #[.agg #[u,u']] w fun e w'=>e=.returned (.bool (tf (bX c)))∧Below w.heap.size w w':=by
 have h1':=h1;have h2':=h2;obtain⟨a1,c1,rfl,p1,q1,k1⟩:=h1;obtain⟨a2,c2,rfl,p2,q2,k2⟩:=h2;unfold maxLen at q1 q2;have HA:=zh (zi h1' h2');have HK:=zh k2;have HT:=zh (fun i (h:i<c.2.length)=>(l4 c.2[i] (List.getElem_mem h)).2);have HE:=zh (iG c);have HF:=zh (zi l3 l4);have HTM:=zh htab;have hO:=(Own.start hm).al #[.slice a1 c.1.length c1,.slice a2 c.2.length c2] 45;have HO:=zh hO;have HL:=zh (zi l1 l2);have hl1:c.1.length≤6:=l1;have hl2:c.2.length≤6:=l2;clear hO h1' h2' k1 k2 l3 l4 htab l1 l2;refine av fun R hR=>?_
 go_enter Tryz.func154,Tryz.ntmps154
 go_wp2;refine au [1,13,14,15] (fun q vs wr=>∃(i:Nat),i≤c.2.length∧q=c.2.length - i∧vs=[.pointer (some ⟨w.heap.size,0,none⟩),.slice a2 c.2.length c2,.int .i64 (c.2.length:Int),.int .i64 (i:Int)]∧(∀j (hj:j<c.2.length),j<i→Canon c.2[j].1∧c.2[j].1≠[]) ∧
  Own w m wr m [.obj w.heap.size 45 #[.slice a1 c.1.length c1,.slice a2 c.2.length c2]]) ?_ ?_
 ·exact⟨_,0,Nat.zero_le _,rfl,rfl,fun j hj h=>absurd h (Nat.not_lt_zero _),HO.out⟩
 clear HO;rintro X z q vs wr hX - ⟨i,hi,rfl,rfl,hV,hO⟩;simp[litL,lk];have HV:=zh hV;clear hV;by_cases hlt:i<c.2.length
 ·obtain⟨b,off,rfl,h4⟩:=HK.out (by intro h;simp[h] at hlt);obtain⟨kc,x,y,hks,hc,hx,hy⟩:=(h4 i hlt).cells;have htl:=HT.out i hlt;have hcl:=Mem.ay hO.inn (hc 0 _ rfl);have HC:=zh (fun j u hj=>Mem.aj hO.inn (hc j u hj));have h2:=nA hks hx hy;have hl2':(kcs c.2[i] kc x y).length=19:=rfl;have H0:(kcs c.2[i] kc x y).toArray[0]?=some kc:=rfl;have HVA:=zh (fun (w':World) (h:m.inn w')=>nM kc c.2[i].1 m w' h HTM.out hks zo);have HVN:=zh (show ∀j (hj:j<c.2.length),j<i+1→(Canon c.2[i].1∧c.2[i].1≠[])→Canon c.2[j].1∧c.2[j].1≠[] from fun j hj h1 h2=>by
   by_cases e:j=i
   ·subst e;exact h2
   ·exact HV.out j hj zo)
  have HNO:=zh (show ¬ (Canon c.2[i].1∧c.2[i].1≠[])→¬ bX c from fun h k=>h ((HE.out.1 k).1 _ (List.getElem_mem hlt)));have HO:=zh (hO.al zcK 61);obtain⟨ta,tc,rfl,t1,t2,t3⟩:=hks;unfold maxLen at t2;generalize kcs c.2[i] _ x y=M at *
  generalize c.2[i].1=T at *
  clear hO hx hy hc h4 t3
  go_wp2_with (first
   | refine ae tyK rfl (.tmp 17) rfl rfl M hl2' HC.out ?_
   | refine aI tyK rfl (.tmp 4) (.tmp 18) rfl (cs:=M.toArray) rfl rfl rfl (by simpa using hl2') (fun u hu=>h2 u hu) HO.out.obj ?_)
  intro w1 ho1 hg1;have hO1:=HO.out.setObj ho1 hg1;have gb:=ho1.cell H0;have gbl:=hO1.obj.lt;have HVC:=zh (HVA.out w1 hO1.inn);have HO1:=zh hO1.tail;clear HO HC HVA hO1;by_cases h0:T.length=0
  ·have hd:((T.length:Int)==0)=true:=beq_iff_eq.2 zo;have HB:=zh HO1.out.below;have HR:=zh (HNO.out fun h=>h.2 (List.length_eq_zero_iff.1 h0));clear HO1 HVC HNO HVN h0;go_wp2;exact hR.out _ _ ⟨by rw[az HR.out] <;> rfl,HB.out⟩
  ·have hd:((T.length:Int)==0)=false:=beq_eq_false_iff_ne.2 zo;have hne:T≠[]:=fun e=>h0 (by rw[e];rfl);have HNE:=zh hne;clear h0 hne;have hvc:=HVC.out;by_cases hcn:Canon T
   ·have HNX:=zh (fun j hj h=>HVN.out j hj h ⟨hcn,HNE.out⟩);rw[aH hcn] at hvc;have HVC2:=zh hvc;clear HVN HNO hcn HNE HVC hvc ho1 hg1
    go_wp2_with (go_at_call 157;refine HVC2.out.mono ?_;rintro e w4 ⟨rfl,hb4⟩)
    exact hX.out _ _ _ zo rfl ⟨i+1,zo,rfl,rfl,HNX.out,HO1.out.move hb4⟩
   ·have HR:=zh (HNO.out fun h=>hcn h.1);rw[az hcn] at hvc;have HVC2:=zh hvc;clear HVN HNO hcn HNE HVC hvc ho1 hg1
    go_wp2_with (go_at_call 157;refine HVC2.out.mono ?_;rintro e w4 ⟨rfl,hb4⟩)
    exact hR.out _ _ ⟨by rw[az HR.out] <;> rfl,(HO1.out.move hb4).below⟩
 obtain rfl:i=c.2.length:=zo;have hsets:∀k∈c.2,Canon k.1∧k.1≠[]:=fun k hk=>by
  obtain⟨j,hj,rfl⟩:=List.getElem_of_mem hk;exact HV.out j hj hj
 have hok:=MN hsets;have HOK:=zh hok;have HWF:=zh (fun k (hk:k∈c.2)=>(hsets k hk).1.wf);have HFEW:=zh (fun (l:List (List Int)) (h1:l.Nodup) (h2:∀v∈l,gL (stC1 c) v)=>Lj hsets HL.out.1 HL.out.2 HF.out.1 HF.out.2 h1 h2);have HFC:=zh (JH HF.out.1 HF.out.2);have HEE:=zh (show bX c↔qc (stC1 c) from HE.out.trans ⟨fun h=>h.2,fun h=>⟨hsets,h⟩⟩);have hcl:=wZ c;have hvs:ek (stC1 c)=List.replicate (c.2.length+c.1.length) 0:=by rw[← hcl,ek,List.map_const']
 have HVS:=zh hvs;have g0:=hO.obj.cell (i:=0) rfl;have g1:=hO.obj.cell (i:=1) rfl;have gl:=hO.obj.lt;have HO:=zh hO;clear hO hX HV hsets hok hvs HE HT HK
 go_wp2_with (refine wpList_make_row NT rfl (.tmp 37) (.tmp 37) rfl (c.2.length+c.1.length) rfl rfl zo (by unfold maxLen;omega) ?_)
 intro w1 hown1 hgrow1;have hO1:=HO.out.make hown1 hgrow1;rw[show List.replicate (c.2.length+c.1.length) (Value.int .i64 0)=jH (ek (stC1 c)) by rw[HVS.out];simp[jH]] at hO1;have hlv:(ek (stC1 c)).length=c.2.length+c.1.length:=by rw[HVS.out];simp
 have hv0:=bI (m:=m) (l:=ek (stC1 c)) (by rw[hlv];exact hO1.row) (fun x hx=>by rw[HVS.out] at hx;rw[List.eq_of_mem_replicate hx];omega);have hle0:=Mem.cu (w:=w1) hO1.free;have hO2:=hO1.aY;generalize m.addv w1 _=mk1 at *
 have hO3:=hO2.make (World.ownsRow_lit (base:=0) (e:=180) (size:=1) w1 #[(.slice (some ⟨wr.heap.size,0,none⟩) (c.2.length+c.1.length) (c.2.length+c.1.length))] 1 (Nat.zero_le _) (by unfold maxLen;omega) rfl) (World.grownBy_alloc w1 (.cells #[(.slice (some ⟨wr.heap.size,0,none⟩) (c.2.length+c.1.length) (c.2.length+c.1.length))] 180) none);have hO4:=hO3.Bc (.map #[] 0);simp only[cz] at hO4;have x1:=aN hO4.swap.row (j:=0) rfl;have xl:=(World.ownsRow.lt hO4.swap.row _ rfl).2;have HO4:=zh hO4;have HKC:=zh (fun (w':World) (h:mk1.inn w')=>vz (.slice (some ⟨wr.heap.size,0,none⟩) (c.2.length+c.1.length) (c.2.length+c.1.length)) (ek (stC1 c)) mk1 w' h (HTM.out.le hle0) hv0 (by rw[hlv];omega));have HZ:=zh (zi hv0 hle0);have HSF:=zh (Srch.first (stC1 c));have HLV:=zh (zi hlv hcl);clear hO1 hO2 hO3 hO4 hv0 hle0 hown1 hgrow1 HO hlv hcl;have hin:=HO4.out.inn;generalize ek (stC1 c)=v0 at *
 have Hmm:=@run_makeMap Tryz.prog;have htx:(txt v0).length≤maxLen:=by
  have h:=wU v0 (wu HZ.out.1);have h2:=HLV.out.1;unfold maxLen;omega
 have HTX:=zh (Jk _ htx);clear htx
 go_wp2_with (go_at_call 192;refine (HKC.out _ hin).mono ?_;rintro e w2 ⟨rfl,hb2⟩;obtain⟨w3,o3,hr3,hob,hbm,hgr⟩:=(BMap.made Tryz.prog 9 4).run_put (Maps.string_keyed Tryz.underlying9) Tryz.underlying183 Tryz.underlying4 (HO4.out.move hb2).blob zD HTX.out true)
 have hO5:=(HO4.out.move hb2).iP hob hgr;have hS0:VSt c [v0] [v0] (fun _=>False) o3:=⟨HSF.out,⟨_,hbm,by simpa using nO.none.put v0⟩,Nat.le_refl _⟩;have HO5:=zh (zi hO5 (zi hS0 (zi HZ.out.1 (Mem.le_trans HZ.out.2 (Mem.le_refl _)))));clear hO5 hS0 hob hbm hgr hr3 hb2 HO4 HKC hin Hmm x1 xl;refine au [1,5,6] (fun q vs wr=>∃(seen todo:List (List Int)) (ts:List Value) (tv:Value) (ob:Obj) (mk:Mem),VSt c seen todo (fun _=>False) ob∧q=2*(1400000000 - seen.length)+todo.length∧vs=[.pointer (some ⟨w.heap.size,0,none⟩),tv,.map (some (w1.heap.size+1))]∧m.le mk∧jk mk ts todo ∧
  Own w m wr mk [.blob (w1.heap.size+1) ob,.row tv 180 1 todo.length ts,.obj w.heap.size 45 #[.slice a1 c.1.length c1,.slice a2 c.2.length c2]]) ?_ ?_
 ·refine ⟨_,[v0],[v0],[.slice (some ⟨wr.heap.size,0,none⟩) (c.2.length+c.1.length) (c.2.length+c.1.length)],_,o3,mk1,HO5.out.2.1,rfl,rfl,HO5.out.2.2.2,⟨rfl,fun i h1 h2=>?_⟩,HO5.out.1⟩
  match i,h1,h2 with
  | 0,_,_=>exact HO5.out.2.2.1
 clear HO5 HTX HZ HSF HVS;rintro X z q vs wr hX - ⟨seen,todo,ts,tv,ob,mk,hS,rfl,rfl,hle,hT,hO⟩;simp[litL,lk];by_cases hne:todo=[]
 ·subst hne;have HR:=zh (HEE.out.2 hS.s.once);have HB:=zh hO.below;obtain⟨ta,tcap,rfl⟩:=aO hO.swap.row;clear hO hT hS hX;go_wp2;exact hR.out _ _ ⟨by rw[aH HR.out] <;> rfl,HB.out⟩
 obtain⟨ts,xv,todo,v,rfl,rfl,hT,hxv⟩:=hT.pop hne;rw[show (todo ++ [v]).length=todo.length+1 by simp] at hO;obtain⟨g,tcap,rfl,hcap⟩:=kT hO.swap.row;have hcap0:¬ tcap=0:=zo;have hlt:=hT.1;have hk:todo.length+1≤seen.length:=by have:=hS.le;simpa using this
 have hsl:=HFEW.out seen hS.s.nodup hS.s.reach;have x1:=aN hO.swap.row (j:=todo.length) (u:=xv) (by rw[← hlt];simp);have xl:=(World.ownsRow.lt hO.swap.row _ rfl).2;have hO2:=(hO.swap.NQ (by simpa using hlt)).swap;obtain⟨hs2,hvs⟩:=hS.s.take (todo':=todo) (v:=v) fun x=>KN;have hrv:=hS.s.reach v hvs;have hvin:=VIn.reach HOK.out hrv;have hvlen:v.length≤12:=by rw[hvin.len,HLV.out.2];omega
 have HT:=zh (zi hT hxv);have HS:=zh (show VSt c seen todo (fun x=>x=v) ob from ⟨hs2,hS.map,zo⟩);have HAm:=zh (show ja (VAt mk n) mk (.slice a1 c.1.length c1) c.1∧iA (VAt mk n) mk (.slice a2 c.2.length c2) c.2 from ⟨ja.le hle (fun _ _=>VAt.le hle) HA.out.1,iA.le hle (fun _ _=>VAt.le hle) HA.out.2⟩);have HH:=zh (fun (w':World) (h:mk.inn w')=>Br _ _ xv c v mk n w' h HAm.out.1 HAm.out.2 hxv hvin);have HST:=zh (fun (w':World) (h:mk.inn w')=>wO _ _ xv c v mk n w' h HAm.out.1 HAm.out.2 hxv hvin HWF.out);have HV:=zh (zi hvin (zi hrv (zi hvs hle)));have HNO:=zh (fun h=>mt HEE.out.1 (DR hrv h));have g0:=hO2.third.obj.cell (i:=0) rfl;have g1:=hO2.third.obj.cell (i:=1) rfl;have gl:=hO2.third.obj.lt;have HO:=zh hO2;generalize hkk:todo.length=k at *
 have Hkk:=zh hkk;have Hlt:=zh hlt;clear hO hO2 hS hs2 hT hxv hrv hvin hvs hle hkk hlt hne;generalize hrr:jb (stC1 c) v=r at *
 have HW1:=zh hrr;clear hrr;have hin:=HO.out.inn;by_cases hr1:r=1
 case neg=>
  have hd:((r:Int)==1)=false:=beq_eq_false_iff_ne.2 zo;have HR:=zh (HNO.out hr1);clear HNO HST hr1 hX
  go_wp2_with (go_at_call 193;refine (HH.out _ hin).mono ?_;rintro e w2 ⟨rfl,hb2⟩)
  exact hR.out _ _ ⟨by rw[az HR.out] <;> rfl,(HO.out.move hb2).below⟩
 subst hr1
 go_wp2_with (first
  | (go_at_call 193;refine (HH.out _ hin).mono ?_;rintro e w2 ⟨rfl,hb2⟩;have g0:=(HO.out.move hb2).third.obj.cell (i:=0) rfl;have g1:=(HO.out.move hb2).third.obj.cell (i:=1) rfl;have gl:=(HO.out.move hb2).third.obj.lt)
  | (go_at_call 194;refine (HST.out _ (HO.out.move hb2).inn).mono ?_;rintro e w3 ⟨rs,rfl,hb3,sa,sc,rfl,ss1,ss2,ss3⟩))
 have hO3:=(HO.out.move hb2).call hb3;have hle3:=Mem.dJ (w:=w3) (HO.out.move hb2).inn;generalize hmk3:mk.grow w2 w3=mk3 at *
 have hlt3:=zR (stMk c v) 256;have hall:∀sn:List (List Int),(∀i (h:i<(marked (stMk c v) 256).length),dD (stC1 c) v (marked (stMk c v) 256)[i]∈sn)→∀b<256,dD (stC1 c) v b∈sn:=fun sn h b hb=>by
  obtain⟨a,ha,hm,he⟩:=Ii (c:=c) (v:=v) HV.out.1.len hb;obtain⟨i,hi,hia⟩:=List.getElem_of_mem (FW.2 ⟨ha,hm⟩);rw[he,← hia];exact h i hi
 generalize marked (stMk c v) 256=MS at *
 have HALL:=zh hall;have HL3:=zh (fun i (h:i<MS.length)=>hlt3 MS[i] (List.getElem_mem h));have HSS:=zh ss3;have HO3:=zh hO3;have HT3:=zh (zi (HT.out.1.le hle3) (zi (dh hle3 HT.out.2) (Mem.le_trans HV.out.2.2.2 hle3)));unfold maxLen at ss2;clear hO3 hall hlt3 ss3 hb2 hb3 HO HST HH HNO HT x1 xl g0 g1 gl hin hmk3 hle3 HAm;refine au [1,5,6,7,66,67,68] (fun q vs wr=>∃(j:Nat) (sn td:List (List Int)) (ts:List Value) (tv:Value) (ob:Obj) (mk:Mem),j≤MS.length∧q=MS.length - j∧VSt c sn td (fun x=>x=v) ob∧(∀i (h:i<MS.length),i<j→dD (stC1 c) v MS[i]∈sn) ∧
  2*(1400000000 - sn.length)+td.length+1≤2*(1400000000 - seen.length)+(k+1)∧vs=[.pointer (some ⟨w.heap.size,0,none⟩),tv,.map (some (w1.heap.size+1)),xv,.slice sa MS.length sc,.int .i64 (MS.length:Int),.int .i64 (j:Int)]∧mk3.le mk∧jk mk ts td ∧
  Own w m wr mk [.blob (w1.heap.size+1) ob,.row tv 180 1 td.length ts,.obj w.heap.size 45 #[.slice a1 c.1.length c1,.slice a2 c.2.length c2]]) ?_ ?_
 ·exact⟨_,0,seen,todo,ts,_,ob,mk3,Nat.zero_le _,rfl,HS.out,fun i h h2=>absurd h2 (Nat.not_lt_zero _),by rw[Hkk.out];omega,rfl,Mem.le_refl _,HT3.out.1,by rw[Hkk.out];exact HO3.out⟩
 clear HO3 HS Hlt;rintro Y z2 q vs wr2 hY - ⟨j,sn,td,ts,tv,ob,mk,hj,rfl,hS,hdn,hms,rfl,hle,hT,hO⟩;simp[litL,lk];have Hms:=zh hms;have Hdn:=zh hdn;by_cases hlt:j<MS.length
 case neg=>
  obtain rfl:j=MS.length:=zo;have HSX:=zh (show VSt c sn td (fun _=>False) ob from ⟨hS.s.close ⟨HW1.out,HALL.out sn fun i h=>hdn i h h⟩,hS.map,hS.le⟩);have HO:=zh hO;have HTX:=zh hT;have HLE:=zh (Mem.le_trans HT3.out.2.2 hle);clear hO hT hS hY hdn hms hle;go_wp2;exact hX.out _ _ _ (by have:=Hms.out;have:=Hkk.out;simp;omega) rfl ⟨sn,td,ts,tv,ob,mk,HSX.out,rfl,rfl,HLE.out,HTX.out,HO.out⟩
 obtain⟨b,off,rfl,hss⟩:=HSS.out (by intro h;simp[h] at hlt);obtain⟨hbc,hb256⟩:=hss j hlt;have hrx:=HV.out.2.1.step hb256;have hvx:=VIn.reach HOK.out hrx;have hrng:=hvx.rng HFC.out;have hxlen:(dD (stC1 c) v MS[j]).length≤12:=by rw[hvx.len,HLV.out.2];omega
 have hkey:=Jk (txt (dD (stC1 c) v MS[j])) (by
  have:=wU (dD (stC1 c) v MS[j]) fun x hx=>by have:=hrng x hx;omega
  unfold maxLen;omega)
 have e1:=Mem.aj hO.inn (Mem.aA hle hbc);have el:=Mem.ay hO.inn (Mem.aA hle hbc);have hle':=Mem.le_trans HT3.out.2.2 hle;have HAF:=zh (fun (w':World) (h:mk.inn w')=>yK _ _ xv c v MS[j] mk n w' h (ja.le hle' (fun _ _=>VAt.le hle') HA.out.1) (iA.le hle' (fun _ _=>VAt.le hle') HA.out.2) (dh hle HT3.out.2.1) HV.out.1 HWF.out hb256 zo fun x hx=>by have:=hrng x hx;omega);have HKY:=zh (fun (m':Mem) (w':World) (xr:Value) (h1:mk.le m') (h:m'.inn w') (hx:cO m' xr (dD (stC1 c) v MS[j]))=>vz xr _ m' w' h (HTM.out.le (Mem.le_trans hle' h1)) hx zo);have hseen:=HFEW.out sn hS.s.nodup hS.s.reach;have hsl:=hS.le;have HDN:=zh (show ∀sn':List (List Int),(∀y∈sn,y∈sn')→dD (stC1 c) v MS[j]∈sn'→∀i (h:i<MS.length),i<j+1→dD (stC1 c) v MS[i]∈sn' from fun sn' h1 h2 i h h3=>by
  by_cases e:i=j
  ·subst e;exact h2
  ·exact h1 _ (Hdn.out i h zo))
 have hobj:=hO.third.obj;have g0:=hobj.cell (i:=0) rfl;have g1:=hobj.cell (i:=1) rfl;have gl:=hobj.lt;have HO:=zh hO;have HS:=zh hS;have HTX:=zh (zi hT (zi hle hrx));obtain⟨f,hbm,hka⟩:=hS.map;have HKA:=zh hka;have HBM:=zh hbm;obtain⟨va,vc,rfl⟩:=aO hO.swap.row;generalize dD (stC1 c) v MS[j]=x at *
 generalize MS[j]=bb at *
 have hin:=HO.out.inn;have HK2:=zh hkey;clear hO hS hT hle hle' hss hbc hb256 hrx hvx hrng hdn hka hbm hobj hkey hxlen hX Hdn HA;by_cases hx:x∈sn
 ·have HX2:=zh hx;have HFX:=zh ((HKA.out x).2 hx);clear hx
  go_wp2_with (first
   | (go_at_call 195;refine (HAF.out _ hin).mono ?_;rintro e w4 ⟨xr,rfl,hb4,hxr⟩)
   | (go_at_call 192;refine (HKY.out _ _ xr (Mem.dJ (w:=w4) hin) (HO.out.call hb4).inn hxr).mono ?_;rintro e w5 ⟨rfl,hb5⟩;have hlk:=HBM.out.run_get (Maps.string_keyed Tryz.underlying9) Tryz.underlying183 Tryz.underlying4 Mc ((HO.out.call hb4).move hb5).blob HK2.out;rw[HFX.out] at hlk))
  exact hY.out _ _ _ zo rfl ⟨j+1,sn,td,ts,_,ob,_,zo,rfl,HS.out,HDN.out sn (fun _ h=>h) HX2.out,Hms.out,rfl,Mem.le_trans HTX.out.2.1 (Mem.dJ hin),HTX.out.1.le (Mem.dJ hin),(HO.out.call hb4).move hb5⟩
 ·have HX2:=zh hx;have HFX:=zh (show f (.string (txt x))=false by
   cases h:f (.string (txt x))
   ·rfl
   ·exact absurd ((HKA.out x).1 h) hx)
  clear hx
  go_wp2_with (first
   | (go_at_call 195;refine (HAF.out _ hin).mono ?_;rintro e w4 ⟨xr,rfl,hb4,hxr⟩;have hxr':=hxr;obtain⟨xa,xc,rfl,-⟩:=hxr')
   | (go_at_call 192;refine (HKY.out _ _ (.slice xa x.length xc) (Mem.dJ (w:=w4) hin) (HO.out.call hb4).inn hxr).mono ?_;rintro e w5 ⟨rfl,hb5⟩;have hlk:=HBM.out.run_get (Maps.string_keyed Tryz.underlying9) Tryz.underlying183 Tryz.underlying4 Mc ((HO.out.call hb4).move hb5).blob HK2.out;rw[HFX.out] at hlk;obtain⟨w6,o6,hr6,hob6,hbm6,hgr6⟩:=HBM.out.run_put (Maps.string_keyed Tryz.underlying9) Tryz.underlying183 Tryz.underlying4 ((HO.out.call hb4).move hb5).blob (by unfold maxLen;omega) HK2.out true;have hO7:=(((HO.out.call hb4).move hb5).iP hob6 hgr6).al #[.slice xa x.length xc] 180;have hnews:=hO7.obj.news rfl)
   | (at_builtin;refine aC NF rfl (.tmp 84) (.tmp 86) rfl (.slice va td.length vc) td.length ts rfl hO7.third.row ⟨w6.heap.size,0,none⟩ 1 1 [.slice xa x.length xc] rfl rfl hnews (by simp[Value.oneCell']) (by unfold maxLen;omega) zo ?_;intro va' vc' w7 hown7 hgrow7 hrow7))
  have hO8:=((hO7.third.app hown7 hgrow7 hrow7 zS).drop2).swap;have hS2:VSt c (sn ++ [x]) (td ++ [x]) (fun y=>y=v) o6:=⟨HS.out.s.push HTX.out.2.2 HX2.out,⟨_,by simpa using hbm6,HKA.out.put x⟩,by simp;omega⟩;refine hY.out _ _ _ zo rfl ⟨j+1,sn ++ [x],td ++ [x],ts ++ [.slice xa x.length xc],_,o6,_,zo,rfl,hS2,HDN.out _ (fun y hy=>List.mem_append_left _ hy) zS,?_,rfl,Mem.le_trans HTX.out.2.1 (Mem.dJ hin),(HTX.out.1.le (Mem.dJ hin)).push hxr,?_⟩
  ·have:=HFEW.out _ hS2.s.nodup hS2.s.reach;have:=Hms.out;simp at *
   omega
  ·simpa using hO8
def oQ (m:Mem) (ts:List Value) (l:List Table):Prop:=ts.length=l.length∧∀i (h1:i<ts.length) (h2:i<l.length),aQ m ts[i] l[i]
theorem oQ.le {m m':Mem} {ts:List Value} {l:List Table} (h:oQ m ts l) (k:m.le m'):oQ m' ts l:=⟨h.1,fun i h1 h2=>aZ k (h.2 i h1 h2)⟩
theorem oQ.push {m:Mem} {ts:List Value} {l:List Table} (h:oQ m ts l) {x:Value} {t:Table} (hx:aQ m x t):oQ m (ts ++ [x]) (l ++ [t]):=by
 refine ⟨by simp[h.1],fun i h1 h2=>?_⟩;by_cases c:i<ts.length
 ·rw[List.getElem_append_left c,List.getElem_append_left (by rw[← h.1];exact c)];exact h.2 i c _
 ·have h3:i=ts.length:=by simp at h1;omega
  subst h3;simp[h.1,hx]
theorem o9 (u u':Value) (c:St) (m:Mem) (n:Nat) (w:World) (hm:m.inn w) (h1:ja (VAt m n) m u c.1) (h2:iA (VAt m n) m u' c.2) (hlen:c.1.length+c.2.length≤1048576) :
 Calls Tryz.prog 155 #[.agg #[u,u']] w fun e w'=>∃r,e=.returned r∧Below w.heap.size w w'∧dB (VAt (m.grow w w') n) (m.grow w w') r (dF c):=by
 obtain⟨a1,c1,rfl,p1,q1,k1⟩:=h1;obtain⟨a2,c2,rfl,p2,q2,k2⟩:=h2;unfold maxLen at q1 q2;have hO:=(Own.start hm).al #[.slice a1 c.1.length c1,.slice a2 c.2.length c2] 45;have HK:=zh (zi k1 k2);have HO:=zh (hO.dC 35 18);clear hO k1 k2;have HE:=zh (show dF c=c.1.map (·.2) ++ c.2.map (·.2) from rfl);generalize dF c=SV at *
 generalize c.2=KL at *
 generalize c.1=FL at *
 refine av fun R hR=>?_
 go_enter Tryz.func155,Tryz.ntmps155
 go_wp2;refine au [1,3,9,10,11] (fun q vs wr=>∃(i:Nat) (v:Value) (xs:List Value),i≤FL.length∧q=FL.length - i∧vs=[.pointer (some ⟨w.heap.size,0,none⟩),v,.slice a1 FL.length c1,.int .i64 (FL.length:Int),.int .i64 (i:Int)]∧VRow (VAt m n) xs ((FL.take i).map (·.2)) ∧
  Own w m wr m [.row v 35 18 i xs,.obj w.heap.size 45 #[.slice a1 FL.length c1,.slice a2 KL.length c2]]) ?_ ?_
 ·exact⟨_,0,_,[],Nat.zero_le _,rfl,rfl,.nil _,HO.out⟩
 clear HO;rintro X z q vs wr hX - ⟨i,v,xs,hi,rfl,rfl,hv,hO⟩;simp[litL,lk];have g0:=hO.swap.obj.cell (i:=0) rfl;have g1:=hO.swap.obj.cell (i:=1) rfl;have gl:=hO.swap.obj.lt;by_cases hlt:i<FL.length
 ·obtain⟨b,off,rfl,h4⟩:=HK.out.1 (by intro h;simp[h] at hlt);obtain⟨x,y,hc,hx,hy⟩:=(h4 i hlt).cells;have hcl:=Mem.ay hO.inn (hc 0 _ rfl);have HC:=zh (fun j u hj=>Mem.aj hO.inn (hc j u hj));have h1:=eF hx hy;have h2:=nH hx hy;have hv2:=hv.push hx hy;rw[show (FL.take i).map (·.2) ++ [FL[i].2]=(FL.take (i+1)).map (·.2) by rw[List.take_succ_eq_append_getElem hlt,List.map_append];rfl] at hv2;have hl:(dcs FL[i].2 x y).length=18:=rfl;have hl2:(fcs FL[i] x y).length=20:=rfl;have HS:=zh (fun j u=>@xN FL[i] x y j u);have HV:=zh hv2;generalize dcs FL[i].2 x y=N at *
  generalize fcs FL[i] x y=M at *
  have HO:=zh (hO.al zcF 58);clear hO hv hv2 hx hy hc h4
  go_wp2_with (first
   | refine ae tyF rfl (.tmp 13) rfl rfl M hl2 HC.out ?_
   | refine aI tyF rfl (.tmp 5) (.tmp 14) rfl (cs:=M.toArray) rfl rfl rfl (by simpa using hl2) (fun u hu=>h2 u hu) HO.out.obj ?_)
  intro w1 ho1 hg1;have hO1:=HO.out.setObj ho1 hg1;have g0:=hO1.third.obj.cell (i:=0) rfl;have g1:=hO1.third.obj.cell (i:=1) rfl;have gl:=hO1.obj.lt;have HD:=zh (ho1.sub (o:=2) (cs:=N) fun j u hj=>by simpa using HS.out j u hj);have HO1:=zh (hO1.tail.al N.toArray 35);clear HO hO1 ho1 hg1 HC HS
  go_wp2_with (first
   | refine ae tyD rfl (.tmp 16) rfl rfl N hl HD.out ?_
   | refine ib iN tyD wJ rfl zo rfl (.tmp 17) rfl (cs:=N.toArray) rfl (by simpa using hl) ?_
   | (at_builtin;refine aC iN rfl (.tmp 15) (.tmp 18) rfl v i xs rfl HO1.out.swap.row ⟨w1.heap.size,0,none⟩ 1 1 N rfl hl (by intro j u hj;rw[Addr.add_lit,Nat.zero_add];exact HO1.out.obj.cell (by simpa using hj)) h1 (by unfold maxLen;omega) zo ?_))
  intro va vc w2 ho2 hg2 hr2;have HO2:=zh (HO1.out.swap.app ho2 hg2 hr2 zS).drop2;clear HO1 ho2 hg2 hr2 g0 g1 gl;go_wp2;exact hX.out _ _ _ zo rfl ⟨i+1,_,_,zo,rfl,rfl,HV.out,HO2.out⟩
 ·obtain rfl:i=FL.length:=zo;rw[List.take_length] at hv;have HV:=zh hv;have HO:=zh hO;clear hO hv hX;go_wp2;refine au [1,3,22,23,24] (fun q vs wr=>∃(i:Nat) (v:Value) (xs:List Value),i≤KL.length∧q=KL.length - i∧vs=[.pointer (some ⟨w.heap.size,0,none⟩),v,.slice a2 KL.length c2,.int .i64 (KL.length:Int),.int .i64 (i:Int)]∧VRow (VAt m n) xs (FL.map (·.2) ++ (KL.take i).map (·.2)) ∧
   Own w m wr m [.row v 35 18 (FL.length+i) xs,.obj w.heap.size 45 #[.slice a1 FL.length c1,.slice a2 KL.length c2]]) ?_ ?_
  ·exact⟨_,0,_,xs,Nat.zero_le _,rfl,rfl,by simpa using HV.out,HO.out⟩
  clear HO HV g0 g1 gl;rintro X z q vs wr hX - ⟨i,v,xs,hi,rfl,rfl,hv,hO⟩;simp[litL,lk];have g0:=hO.swap.obj.cell (i:=0) rfl;have g1:=hO.swap.obj.cell (i:=1) rfl;have gl:=hO.swap.obj.lt;by_cases hlt:i<KL.length
  ·obtain⟨b,off,rfl,h4⟩:=HK.out.2 (by intro h;simp[h] at hlt);obtain⟨kc,x,y,hks,hc,hx,hy⟩:=(h4 i hlt).cells;have hcl:=Mem.ay hO.inn (hc 0 _ rfl);have HC:=zh (fun j u hj=>Mem.aj hO.inn (hc j u hj));have h1:=eF hx hy;have h2:=nA hks hx hy;have hv2:=hv.push hx hy;rw[show FL.map (·.2) ++ (KL.take i).map (·.2) ++ [KL[i].2]=FL.map (·.2) ++ (KL.take (i+1)).map (·.2) by rw[List.take_succ_eq_append_getElem hlt,List.map_append,List.append_assoc];rfl] at hv2;have hl:(dcs KL[i].2 x y).length=18:=rfl;have hl2:(kcs KL[i] kc x y).length=19:=rfl;have HS:=zh (fun j u=>@xG KL[i] kc x y j u);have HV:=zh hv2;generalize dcs KL[i].2 x y=N at *
   generalize kcs KL[i] kc x y=M at *
   have HO:=zh (hO.al zcK 61);clear hO hv hv2 hx hy hc h4 hks
   go_wp2_with (first
    | refine ae tyK rfl (.tmp 26) rfl rfl M hl2 HC.out ?_
    | refine aI tyK rfl (.tmp 7) (.tmp 27) rfl (cs:=M.toArray) rfl rfl rfl (by simpa using hl2) (fun u hu=>h2 u hu) HO.out.obj ?_)
   intro w1 ho1 hg1;have hO1:=HO.out.setObj ho1 hg1;have g0:=hO1.third.obj.cell (i:=0) rfl;have g1:=hO1.third.obj.cell (i:=1) rfl;have gl:=hO1.obj.lt;have HD:=zh (ho1.sub (o:=1) (cs:=N) fun j u hj=>by simpa using HS.out j u hj);have HO1:=zh (hO1.tail.al N.toArray 35);clear HO hO1 ho1 hg1 HC HS
   go_wp2_with (first
    | refine ae tyD rfl (.tmp 29) rfl rfl N hl HD.out ?_
    | refine ib iN tyD wJ rfl zo rfl (.tmp 30) rfl (cs:=N.toArray) rfl (by simpa using hl) ?_
    | (at_builtin;refine aC iN rfl (.tmp 28) (.tmp 31) rfl v (FL.length+i) xs rfl HO1.out.swap.row ⟨w1.heap.size,0,none⟩ 1 1 N rfl hl (by intro j u hj;rw[Addr.add_lit,Nat.zero_add];exact HO1.out.obj.cell (by simpa using hj)) h1 (by unfold maxLen;omega) zo ?_))
   intro va vc w2 ho2 hg2 hr2;have HO2:=zh (HO1.out.swap.app ho2 hg2 hr2 zS).drop2;clear HO1 ho2 hg2 hr2 g0 g1 gl;go_wp2;exact hX.out _ _ _ zo rfl ⟨i+1,_,_,zo,rfl,rfl,HV.out,HO2.out⟩
  ·obtain rfl:i=KL.length:=zo;rw[List.take_length] at hv;have hr:=dB.Fe (m:=m.grow w wr) (l:=SV) (by rw[HE.out,List.length_append,List.length_map,List.length_map];exact hO.row) (by rw[HE.out];exact hv) hO.free hO.aY.done;have HF:=zh (zi hO.below hr);clear hO hv hX hr;go_wp2;exact hR.out _ _ ⟨_,rfl,HF.out⟩
theorem yt (z:Array Value) (n:Nat):(Builtin.zeroCells z n).size=n*z.size:=by simp[Builtin.zeroCells]
theorem Nf:(Tryz.prog.info? 35).map (fun i=>(i.zero,i.size,i.bytes))=some (some (.agg zcD),18,272):=by kernel_rfl
theorem Ki {w0 w:World} {m mk:Mem} {L:List Item} (h:Own w0 m w mk L) (n:Nat) (hn:n≤1048576) :
 Calls Tryz.prog 203 #[.slice none 0 0,.int .i64 n] w fun e w'=>∃a c,e=.returned (.slice a 0 c)∧Own w0 m w' mk (.row (.slice a 0 c) 35 18 0 []::L):=by
 by_cases h0:n=0
 ·subst h0;refine Calls.mono (Any8.slices_Grow_room Tryz.Ml none 0 0 0 w (Nat.le_refl _) zo zo zo) ?_;rintro e w' ⟨rfl,rfl⟩;exact⟨none,0,rfl,h.dC _ _⟩
 ·obtain⟨i,hi,hz,hs,hb⟩:=info_parts Nf;refine Calls.mono (Any8.slices_Grow_grow Tryz.Ml i (.agg zcD) hi hz zo none 0 0 n [] w (Nat.le_refl _) zo (by rw[hb];omega) zo zS (fun _=>rfl) (fun a e=>by cases e)) ?_;rintro e w' ⟨rfl,rfl⟩;have hc:=grownCap_ge w (0+n) 0 35;have hm:=grownCap_le_maxLen w (0+n) 0 35 (by unfold maxLen;omega);have hO:=h.dr.al (([]:List Value).toArray ++ Builtin.zeroCells (Value.agg zcD).cells (0+n - 0) ++ Builtin.zeroCells (Value.agg zcD).cells (grownCap w (0+n) 0 35 - (0+n))) 35;refine ⟨_,_,rfl,?_⟩;refine hO.tail.cons (it:=.row _ _ _ _ _) ⟨rfl,.inr ⟨w.heap.size,grownCap w (0+n) 0 35,_,rfl,Nat.zero_le _,hO.obj.get,Nat.zero_le _,hm,?_,?_⟩⟩ (fun k hk=>hO.fresh _ (List.mem_cons_self ..) k hk) (fun b hb'=>(List.pairwise_cons.1 hO.apart).1 b hb')
  ·simp only[Array.size_append,yt,List.size_toArray,List.length_nil];have:(Value.agg zcD).cells.size=18:=rfl;rw[this];generalize grownCap w (0+n) 0 35=c at *
   omega
  ·simp
def catD (xs:List (List Vd)) (k:Nat):List Vd:=(xs.take k).flatten
theorem AY (xs:List (List Vd)) (k:Nat) (h:k<xs.length):catD xs (k+1)=catD xs k ++ xs[k]:=by
 unfold catD;rw[List.take_succ_eq_append_getElem h,List.flatten_append];simp
theorem xV (xs:List (List Vd)) (k:Nat):(catD xs k).length≤(catD xs xs.length).length:=by
 unfold catD;rw[List.take_length];have:xs=xs.take k ++ xs.drop k:=(List.take_append_drop k xs).symm
 conv=>rhs;rw[this]
 rw[List.flatten_append,List.length_append];omega
theorem Dk (g c N:Nat) (xs:List (List Vd)) (m:Mem) (w:World) (hm:m.inn w) (hx:∀i (h:i<xs.length),∃u,m.cell g i=some u∧dB (VAt m N) m u xs[i]) (hlen:(catD xs xs.length).length≤1048576) (hn:xs.length≤1000000) :
 Calls Tryz.prog 163 #[.slice (some ⟨g,0,none⟩) xs.length c] w fun e w'=>∃r,e=.returned r∧Below w.heap.size w w'∧dB (VAt (m.grow w w') N) (m.grow w w') r (catD xs xs.length):=by
 have HX:=zh hx;clear hx;refine av fun R hR=>?_
 go_enter Tryz.func163,Tryz.ntmps163
 go_wp2;refine au [0,3,9,10,11] (fun n vs wr=>∃k:Nat,k≤xs.length∧n=xs.length - k∧vs=[.slice (some ⟨g,0,none⟩) xs.length c,.int .i64 (catD xs k).length,.slice (some ⟨g,0,none⟩) xs.length c,.int .i64 xs.length,.int .i64 k] ∧
  Own w m wr m []) ?_ ?_
 ·exact⟨_,0,Nat.zero_le _,rfl,rfl,Own.start hm⟩
 rintro X z n vs wr hX - ⟨k,hk,rfl,rfl,hO⟩;simp[litL,lk];have htl:=xV xs k;by_cases hlt:k<xs.length
 ·obtain⟨u,hc,hu⟩:=HX.out k hlt;have r1:=Mem.aj hO.inn hc;have rl:=Mem.ay hO.inn hc;obtain⟨a,uc,rfl,-⟩:=hu;have hst:=congrArg List.length (AY xs k hlt);rw[List.length_append] at hst;have htl2:=xV xs (k+1);have HO:=zh hO;have Hst:=zh hst;have hb:(catD xs k).length+xs[k].length≤1048576:=zo;generalize (catD xs k).length=T at *
  generalize xs[k].length=N at *
  clear hc hO hst htl2;go_wp2;exact hX.out _ _ _ zo rfl ⟨k+1,zo,rfl,by rw[Hst.out];rfl,HO.out⟩
 ·obtain rfl:k=xs.length:=zo;have HG:=zh (Ki hO (catD xs xs.length).length hlen);clear hO hX
  go_wp2_with fail
  refine HG.out.mono ?_;rintro e w2 ⟨a,d,rfl,hO⟩;have HO:=zh hO;clear HG hO;go_wp2;refine au [6,25,26,27] (fun n vs wr=>∃(k:Nat) (v:Value) (ys:List Value),k≤xs.length∧n=xs.length - k∧vs=[v,.slice (some ⟨g,0,none⟩) xs.length c,.int .i64 xs.length,.int .i64 k]∧VRow (VAt m N) ys (catD xs k) ∧
   Own w m wr m [.row v 35 18 (catD xs k).length ys]) ?_ ?_
  ·exact⟨_,0,_,[],Nat.zero_le _,rfl,rfl,.nil _,HO.out⟩
  clear HO;rintro X z n vs wr hX - ⟨k,v,ys,hk,rfl,rfl,hr,hO⟩;simp[litL,lk];obtain⟨va,vc,rfl⟩:=aO hO.row;by_cases hlt:k<xs.length
  ·obtain⟨u,hc,hu⟩:=HX.out k hlt;have r1:=Mem.aj hO.inn hc;have rl:=Mem.ay hO.inn hc;obtain⟨ad,cc,zs,rfl,-,-,hy,hn',hk'⟩:=hu.seg;have hst:=AY xs k hlt;have htl2:=xV xs (k+1);rw[hst,List.length_append] at htl2;have hr2:=hr.append hy;rw[← hst] at hr2;have o1:=hy.one_cell;have ly:=hy.len;have HN:=zh (hk' _ hO.inn);have Hst:=zh (congrArg List.length hst);have HR:=zh hr2;rw[List.length_append] at Hst;clear hst hr hr2 hy hc hk' hu;generalize (catD xs k).length=S0 at *
   generalize xs[k].length=q at *
   go_wp2_with (at_builtin;refine dA iN rfl (.tmp 31) (.tmp 32) rfl (.slice va S0 vc) S0 ys rfl hO.row ad q cc zs rfl ly hn' HN.out o1 (by unfold maxLen;omega) zo ?_)
   intro va' vc' w7 hown7 hgrow7 hrow7;have hO3:=hO.app hown7 hgrow7 hrow7 (Nat.le_refl _);rw[← Hst.out] at hO3;have HO3:=zh hO3;clear hO3 hO hown7 hgrow7 hrow7;go_wp2;refine hX.out _ _ _ zo rfl ⟨k+1,_,_,zo,rfl,?_,HR.out,HO3.out⟩;rw[Hst.out];rfl
  ·obtain rfl:k=xs.length:=zo;have hfin:=dB.Fe (m:=m.grow w wr) hO.row hr hO.free hO.aY.done;have Hfin:=zh (zi hO.below hfin);clear hO hr hfin;go_wp2;exact hR.out _ _ ⟨_,rfl,Hfin.out⟩
theorem iK (u u':Value) (c:Lc) (m:Mem) (n:Nat) (w:World) (hm:m.inn w) (h1:dB (VAt m n) m u c.1) (h2:dB (VAt m n) m u' c.2) (hlen:c.1.length+c.2.length≤1048576) :
 Calls Tryz.prog 114 #[.agg #[u,u']] w fun e w'=>∃r,e=.returned r∧Below w.heap.size w w'∧dB (VAt (m.grow w w') n) (m.grow w w') r (bR c):=by
 have hO:=((Own.start hm).al #[u,u'] 51).al #[u,u'] 49;simp only[cz] at hO;have hO2:=hO.jm;have hle:=Mem.kC hO.jr (w:=(w.alloc (.cells #[u,u'] 51)).alloc (.cells #[u,u'] 49));have HC:=Dk (w.heap.size+1) 2 n [c.1,c.2] _ _ hO2.inn (fun i hi=>by
  match i,hi with
  | 0,_=>exact⟨u,Mem.dR hO.obj rfl,h1.le hle fun _ _ h=>h.le hle⟩
  | 1,_=>exact⟨u',Mem.dR hO.obj rfl,h2.le hle fun _ _ h=>h.le hle⟩) (by simp[catD];omega) zS
 rw[show catD [c.1,c.2] ([c.1,c.2]:List (List Vd)).length=bR c by simp[catD,bR]] at HC;have HC:=zh HC;have HO:=zh hO2;obtain⟨a1,b1,rfl,-⟩:=h1;obtain⟨a2,b2,rfl,-⟩:=h2;clear hO hO2 hle;refine av fun R hR=>?_
 go_enter Tryz.func114,Tryz.ntmps114
 go_wp2_with fail
 refine HC.out.mono ?_;rintro e w1 ⟨r,rfl,hb1,hv⟩;have hO1:=HO.out.call hb1;have HF:=zh (zi hO1.below (hv.le hO1.done fun _ _ h=>h.le hO1.done));clear HC HO hb1 hv hO1;go_wp2;exact hR.out _ _ ⟨_,rfl,HF.out⟩
theorem rR (v:Vl) (s:Sl) (m:Mem) (n:Nat) (w:World) (hm:m.inn w) (hv:VAt m (n+1) s v) (hlen:v.kids.length≤1048576) :
 Calls Tryz.prog 105 #[v.val s] w fun e w'=>∃r,e=.returned r∧Below w.heap.size w w'∧dB (VAt (m.grow w w') n) (m.grow w w') r v.kids:=by
 have hO:=(Own.start hm).al (nine v s).toArray 33;have hv2:=hv.2;have H7:(nine v s).toArray[7]?=some s.l:=rfl;have H8:(nine v s).toArray[8]?=some s.s:=rfl;obtain⟨a1,b1,a2,b2,a3,b3,a4,b4,a5,b5,rfl,-,-,-,q4,q5⟩:=hv.spell;obtain⟨⟨z1,y1,e1,-,-,k1⟩,⟨z2,y2,e2,-,-,k2⟩⟩:=hv2;simp only[Value.slice.injEq] at e1 e2;obtain⟨rfl,-,rfl⟩:=e1;obtain⟨rfl,-,rfl⟩:=e2;simp only at H7 H8;have H7:=zh H7;have H8:=zh H8;unfold maxLen at q4 q5;unfold Vl.val;have HE:=zh (show v.kids=v.lists.flatMap bR ++ v.structs.flatMap dF from rfl);generalize (nine v _).toArray=N at *
 generalize v.kids=KD at *
 generalize v.lists=FL at *
 generalize v.structs=KL at *
 have HK:=zh (zi k1 k2);have HO:=zh (hO.dC 35 18);have HL:=zh (show (FL.flatMap bR).length+(KL.flatMap dF).length≤1048576 by have:=hlen;rw[HE.out,List.length_append] at this;exact this);clear hO k1 k2 hv hlen;refine av fun R hR=>?_
 go_enter Tryz.func105,Tryz.ntmps105
 go_wp2;refine au [1,3,9,10,11] (fun q vs wr=>∃(i:Nat) (r:Value) (xs:List Value) (mk:Mem),i≤FL.length∧q=FL.length - i∧vs=[.pointer (some ⟨w.heap.size,0,none⟩),r,.slice a4 FL.length b4,.int .i64 (FL.length:Int),.int .i64 (i:Int)]∧VRow (VAt mk n) xs ((FL.take i).flatMap bR) ∧
  Own w m wr mk [.row r 35 18 ((FL.take i).flatMap bR).length xs,.obj w.heap.size 33 N]) ?_ ?_
 ·exact⟨_,0,_,[],m,Nat.zero_le _,rfl,rfl,.nil _,HO.out⟩
 clear HO;rintro X z q vs wr hX - ⟨i,r,xs,mk,hi,rfl,rfl,hr,hO⟩;simp[litL,lk];have g7:=hO.swap.obj.cell H7.out;have g8:=hO.swap.obj.cell H8.out;have gl:=hO.swap.obj.lt;by_cases hlt:i<FL.length
 ·obtain⟨b,off,rfl,h4⟩:=HK.out.1 (by intro h;simp[h] at hlt);obtain⟨u,u',hu,hu',x1,x2⟩:=h4 i hlt;have c1:=Mem.aj hO.inn (Mem.aA hO.ext.le hu);have c2:=Mem.aj hO.inn (Mem.aA hO.ext.le hu');have cl:=Mem.ay hO.inn (Mem.aA hO.ext.le hu);have hfs:=oI bR hlt;have hfl:=tL bR FL (i+1);rw[hfs,List.length_append] at hfl;have hlv:(bR FL[i]).length=FL[i].1.length+FL[i].2.length:=by rw[bR,List.length_append]
  have hO:=hO.al' (.cells #[u,u'] 51);have HF:=zh (iK u u' FL[i] mk n _ hO.inn (x1.le hO.ext.le fun _ _ h=>h.le hO.ext.le) (x2.le hO.ext.le fun _ _ h=>h.le hO.ext.le) (by have:=HL.out;omega));have HR:=zh (zi hr hfs);have HO:=zh hO;obtain⟨ua,uc,rfl,-⟩:=x1;obtain⟨ua',uc',rfl,-⟩:=x2;clear hO hr h4 hu hu' hfs hlv
  go_wp2_with fail
  refine HF.out.mono ?_;rintro e w1 ⟨r1,rfl,hb1,hv1⟩;have hO1:=HO.out.call hb1;obtain⟨ad,cc,ys,rfl,-,-,hy,hn,hk⟩:=hv1.seg;have hr1:=(HR.out.1.mono fun _ _ h=>h.le (Mem.dJ HO.out.inn)).append hy;rw[← HR.out.2] at hr1;have HR1:=zh hr1;have o1:=hy.one_cell;have ly:=hy.len;have HN:=zh (hk w1 hO1.inn);have HO1:=zh hO1;have HR:=zh (congrArg List.length HR.out.2);clear hO1 HO HF hb1 hv1 hy hk hr1 c1 c2 cl g7 g8 gl;rw[List.length_append] at HR;generalize ((FL.take i).flatMap bR).length=t at *
  go_wp2_with (at_builtin;refine dA iN rfl (.tmp 15) (.tmp 17) rfl r t xs rfl HO1.out.row ad (bR FL[i]).length cc ys rfl ly hn HN.out o1 (by have:=HL.out;unfold maxLen;omega) (by have:=HL.out;omega) ?_)
  intro va vc w2 ho2 hg2 hr2;have hO2:=HO1.out.app ho2 hg2 hr2 (Nat.le_refl _);rw[← HR.out] at hO2;have HO2:=zh hO2;clear HO1 ho2 hg2 hr2 hO2;go_wp2;refine hX.out _ _ _ zo rfl ⟨i+1,_,_,_,zo,rfl,?_,HR1.out,HO2.out⟩;rw[HR.out];rfl
 ·obtain rfl:i=FL.length:=zo;rw[List.take_length] at hr hO;obtain⟨T,hT⟩:∃T,T=(FL.flatMap bR).length:=⟨_,rfl⟩;rw[← hT] at hO;have HT:=zh hT;clear hT;have HV:=zh hr;have HO:=zh hO;clear hO hr hX;go_wp2;refine au [1,3,21,22,23] (fun q vs wr=>∃(i:Nat) (r:Value) (xs:List Value) (mk:Mem),i≤KL.length∧q=KL.length - i∧vs=[.pointer (some ⟨w.heap.size,0,none⟩),r,.slice a5 KL.length b5,.int .i64 (KL.length:Int),.int .i64 (i:Int)]∧VRow (VAt mk n) xs (FL.flatMap bR ++ (KL.take i).flatMap dF) ∧
   Own w m wr mk [.row r 35 18 (T+((KL.take i).flatMap dF).length) xs,.obj w.heap.size 33 N]) ?_ ?_
  ·exact⟨_,0,_,xs,mk,Nat.zero_le _,rfl,rfl,by simpa using HV.out,HO.out⟩
  clear HO HV g7 g8 gl;rintro X z q vs wr hX - ⟨i,r,xs,mk,hi,rfl,rfl,hr,hO⟩;simp[litL,lk];have g7:=hO.swap.obj.cell H8.out;have gl:=hO.swap.obj.lt;by_cases hlt:i<KL.length
  ·obtain⟨b,off,rfl,h4⟩:=HK.out.2 (by intro h;simp[h] at hlt);obtain⟨u,u',hu,hu',x1,x2⟩:=h4 i hlt;have c1:=Mem.aj hO.inn (Mem.aA hO.ext.le hu);have c2:=Mem.aj hO.inn (Mem.aA hO.ext.le hu');have cl:=Mem.ay hO.inn (Mem.aA hO.ext.le hu);have hfs:=oI dF hlt;have hfl:=tL dF KL (i+1);rw[hfs,List.length_append] at hfl;have hlv:(dF KL[i]).length=KL[i].1.length+KL[i].2.length:=by rw[dF,List.length_append,List.length_map,List.length_map]
   have hO:=hO.al' (.cells #[u,u'] 45);have HF:=zh (o9 u u' KL[i] mk n _ hO.inn (x1.le hO.ext.le fun _ _ h=>h.le hO.ext.le) (x2.le hO.ext.le fun _ _ h=>h.le hO.ext.le) (by have:=HL.out;omega));have HR:=zh (zi hr hfs);have HO:=zh hO;obtain⟨ua,uc,rfl,-⟩:=x1;obtain⟨ua',uc',rfl,-⟩:=x2;clear hO hr h4 hu hu' hfs hlv
   go_wp2_with fail
   refine HF.out.mono ?_;rintro e w1 ⟨r1,rfl,hb1,hv1⟩;have hO1:=HO.out.call hb1;obtain⟨ad,cc,ys,rfl,-,-,hy,hn,hk⟩:=hv1.seg;have hr1:=(HR.out.1.mono fun _ _ h=>h.le (Mem.dJ HO.out.inn)).append hy;rw[List.append_assoc,← HR.out.2] at hr1;have HR1:=zh hr1;have o1:=hy.one_cell;have ly:=hy.len;have HN:=zh (hk w1 hO1.inn);have HO1:=zh hO1;have HR:=zh (congrArg List.length HR.out.2);clear hO1 HO HF hb1 hv1 hy hk hr1 c1 c2 cl g7 gl;rw[List.length_append] at HR;generalize ((KL.take i).flatMap dF).length=t at *
   go_wp2_with (at_builtin;refine dA iN rfl (.tmp 27) (.tmp 29) rfl r (T+t) xs rfl HO1.out.row ad (dF KL[i]).length cc ys rfl ly hn HN.out o1 (by have:=HL.out;have:=HT.out;unfold maxLen;omega) (by have:=HL.out;have:=HT.out;omega) ?_)
   intro va vc w2 ho2 hg2 hr2;have hO2:=HO1.out.app ho2 hg2 hr2 (Nat.le_refl _);rw[Nat.add_assoc,← HR.out] at hO2;have HO2:=zh hO2;clear HO1 ho2 hg2 hr2 hO2;go_wp2;refine hX.out _ _ _ zo rfl ⟨i+1,_,_,_,zo,rfl,?_,HR1.out,HO2.out⟩;rw[HR.out,← Nat.add_assoc];rfl
  ·obtain rfl:i=KL.length:=zo;rw[List.take_length] at hr hO;have hv:=dB.Fe (m:=m.grow w wr) (l:=KD) (by rw[HE.out,List.length_append,← HT.out];exact hO.row) (by rw[HE.out];exact hr) hO.free hO.aY.done;have HF:=zh (zi hO.below hv);clear hO hr hX hv;go_wp2;exact hR.out _ _ ⟨_,rfl,HF.out⟩
theorem wP (u:Value) (l:List Fd) (m:Mem) (n:Nat) (w:World) (hm:m.inn w) (h:ja (VAt m n) m u l) :
 Calls Tryz.prog 153 #[u] w fun e w'=>e=.returned (.bool (tf (dz l)))∧Below w.heap.size w w':=by
 obtain⟨a,c,rfl,p1,q1,k1⟩:=h;unfold maxLen at q1;have HK:=zh k1;have HO:=zh (Own.start hm);clear k1;refine av fun R hR=>?_
 go_enter Tryz.func153,Tryz.ntmps153
 go_wp2;refine au [0,5,6,7] (fun q vs wr=>∃(i:Nat),i≤l.length∧q=l.length - i∧vs=[.slice a l.length c,.slice a l.length c,.int .i64 (l.length:Int),.int .i64 (i:Int)]∧(∀j (hj:j<l.length),j<i→l[j].1.2=1∨l[j].1.2=2)∧(∀j (hj:j+1<l.length),j+1<i→bLt l[j].1.1 (l[j+1]).1.1=true) ∧
  Own w m wr m []) ?_ ?_
 ·exact⟨_,0,Nat.zero_le _,rfl,rfl,fun j hj h=>absurd h (Nat.not_lt_zero _),fun j hj h=>absurd h (Nat.not_lt_zero _),HO.out⟩
 clear HO;rintro X z q vs wr hX - ⟨i,hi,rfl,rfl,hA,hB,hO⟩;simp[litL,lk];by_cases hlt:i<l.length
 case neg=>
  obtain rfl:i=l.length:=zo;have HR:=zh (show dz l from ⟨fun f hf=>by obtain⟨j,hj,rfl⟩:=List.getElem_of_mem hf;exact hA j hj hj,fun j hj=>hB j hj hj⟩);have HB:=zh hO.below;clear hA hB hO hX;go_wp2;exact hR.out _ _ ⟨by rw[aH HR.out] <;> rfl,HB.out⟩
 obtain⟨b,off,rfl,h4⟩:=HK.out (by intro h;simp[h] at hlt);obtain⟨x,y,hc,hx,hy⟩:=(h4 i hlt).cells;have hcl:=Mem.ay hO.inn (hc 0 _ rfl);have HC:=zh (fun j u hj=>Mem.aj hO.inn (hc j u hj));have h2:=nH hx hy;have hl2:(fcs l[i] x y).length=20:=rfl;have H0:(fcs l[i] x y).toArray[0]?=some (.string l[i].1.1):=rfl;have H1:(fcs l[i] x y).toArray[1]?=some (.int .i64 l[i].1.2):=rfl;have HAB:=zh (zi hA hB);have HO:=zh (hO.al zcF 58);have HP:=zh (fun j (hj:j<l.length)=>(h4 j hj).s);have HN1:=zh (show (¬ (l[i].1.2=1∨l[i].1.2=2))→¬ dz l from fun h k=>h (k.pres _ (List.getElem_mem hlt)));generalize fcs l[i] x y=M at *
 generalize hpr:l[i].1.2=pr at *
 generalize hlab:l[i].1.1=lab at *
 have HPR:=zh (zi hpr hlab);clear hO hx hy hc h4 hA hB hpr hlab
 go_wp2_with (first
  | refine ae tyF rfl (.tmp 10) rfl rfl M hl2 HC.out ?_
  | refine aI tyF rfl (.tmp 4) (.tmp 11) rfl (cs:=M.toArray) rfl rfl rfl (by simp[hl2]) (fun u hu=>h2 u hu) HO.out.obj ?_)
 intro w1 ho1 hg1;have hO1:=HO.out.setObj ho1 hg1;have gb0:=ho1.cell H0;have gb1:=ho1.cell H1;have gbl:=hO1.obj.lt;have HO1:=zh hO1.tail;have HPW:=zh (fun j (hj:j<l.length)=>zi (Mem.aj hO1.inn (HP.out j hj)) (Mem.ay hO1.inn (HP.out j hj)));clear HO HC ho1 hg1 hO1 HP;by_cases hok:pr=1∨pr=2
 case neg=>
  have hd1:(pr != 1)=true:=bne_iff_ne.2 fun e=>hok (.inl e);have hd2:(pr != 2)=true:=bne_iff_ne.2 fun e=>hok (.inr e);have HR:=zh (HN1.out hok);have HB:=zh (HO1.out.drN 1).below;clear HO1 HPW HN1 hok hX HAB;go_wp2
  go_region
  all_goals go_wp2
  all_goals exact hR.out _ _ ⟨by rw[az HR.out] <;> rfl,HB.out⟩
 have hpres:∀j (hj:j<l.length),j<i+1→l[j].1.2=1∨l[j].1.2=2:=fun j hj h=>by
  by_cases e:j=i
  ·subst e;rw[HPR.out.1];exact hok
  ·exact HAB.out.1 j hj zo
 have HPS:=zh hpres;clear hpres HN1;rcases Nat.eq_zero_or_pos i with rfl | hip
 ·have HAS:=zh (show ∀j (hj:j+1<l.length),j+1<0+1→bLt l[j].1.1 (l[j+1]).1.1=true from fun j hj h=>zo);have HO2:=zh (HO1.out.drN 1);clear HAB HPR HPW HO1;rcases hok with rfl | rfl
  all_goals
   go_wp2
   go_region
   all_goals go_wp2
   all_goals exact hX.out _ _ _ zo rfl ⟨0+1,zo,rfl,rfl,HPS.out,HAS.out,HO2.out⟩
 obtain⟨p,rfl⟩:∃p,i=p+1:=⟨i - 1,zo⟩;obtain⟨y1,yl⟩:=HPW.out p zo;have HO2:=zh (HO1.out.drN 1);cases hb:bLt l[p].1.1 lab
 ·have HR:=zh (show ¬ dz l from fun k=>by
   have:=k.asc p zo;rw[HPR.out.2,hb] at this;cases this)
  have HB:=zh HO2.out.below;unfold bLt at hb;rw[← ByteArray.toList_eq,← ByteArray.toList_eq] at hb;generalize l[p].1.1=lab2 at *
  clear HAB HPR HPW HO1 HO2 HPS hX;rcases hok with rfl | rfl
  all_goals
   go_wp2
   go_region
   all_goals go_wp2
   all_goals exact hR.out _ _ ⟨by rw[az HR.out] <;> rfl,HB.out⟩
 ·have HAS:=zh (show ∀j (hj:j+1<l.length),j+1<p+1+1→bLt l[j].1.1 (l[j+1]).1.1=true from fun j hj h=>by
   by_cases e:j=p
   ·subst e;rw[HPR.out.2];exact hb
   ·exact HAB.out.2 j hj zo)
  unfold bLt at hb;rw[← ByteArray.toList_eq,← ByteArray.toList_eq] at hb;generalize l[p].1.1=lab2 at *
  clear HAB HPR HPW HO1;rcases hok with rfl | rfl
  all_goals
   go_wp2
   go_region
   all_goals go_wp2
   all_goals exact hX.out _ _ _ zo rfl ⟨p+1+1,zo,rfl,rfl,HPS.out,HAS.out,HO2.out⟩
theorem Bt (v:Vl) (x:Sl) (m:Mem) (n:Nat) (w:World) (hm:m.inn w) (htab:TabM m) (hv:VAt m (n+1) x v) (hf:FewP v) (hl:ScLe v.s 30000 100000) :
 Calls Tryz.prog 104 #[v.val x] w fun e w'=>e=.returned (.bool (tf (lI v)))∧Below w.heap.size w w':=by
 have hO:=(Own.start hm).al (nine v x).toArray 33;have hs:=hv.sc;have HN:=zh (fun w'=>rO x.i x.f x.t v.s m w' hs ⟨by have:=hl.i;omega,by have:=hl.f;omega,by have:=hl.t;omega⟩);have HV:=zh (fun w' (h:m.inn w')=>rZ x.i x.f x.t v.s m w' h htab hs (hl.mono zo zo));have HS:=zh (hO.obj.sub (kZ v x));obtain⟨-,hlc,hst⟩:=hv;have h1:=hf.l;have h2:=hf.s;have HF:=zh hf;have HTM:=zh htab;obtain⟨y1,y2,y3,y4,y5⟩:=x;obtain⟨a4,b4,e4,p4,q4,k4⟩:=hlc;obtain⟨a5,b5,e5,p5,q5,k5⟩:=hst;simp only at e4 e5;subst e4 e5;have HK:=zh (zi k4 k5);have HC:=zh (show (nine v ⟨y1,y2,y3,.slice a4 v.lists.length b4,.slice a5 v.structs.length b5⟩).toArray[7]?=some (.slice a4 v.lists.length b4)∧(nine v ⟨y1,y2,y3,.slice a4 v.lists.length b4,.slice a5 v.structs.length b5⟩).toArray[8]?=some (.slice a5 v.structs.length b5) from ⟨rfl,rfl⟩);have c0:=hO.obj.cell (i:=0) (v:=.bool v.any) rfl;have c7:=hO.obj.cell HC.out.1;have c8:=hO.obj.cell HC.out.2;have HO:=zh hO;unfold maxLen at q4 q5;unfold Vl.val;clear hO hs k4 k5 hf htab;have HNS:=zh (kZ v ⟨y1,y2,y3,.slice a4 v.lists.length b4,.slice a5 v.structs.length b5⟩);generalize (nine v _).toArray=N at *
 obtain⟨G,hG⟩:∃G:Prop,G=lI v:=⟨_,rfl⟩;rw[← hG];have HG:=zh hG;clear hG;refine av fun R hR=>?_
 cases hany:v.any with
 | true=>
  have HA:=zh hany;rw[hany] at c0;have hin:=HO.out.inn;clear hany;have HX:=zh (show tf G=(tf (v.s=dI)&&decide (v.lists.length+v.structs.length=0)) by
   rw[HG.out];by_cases g1:v.s=dI
   ·by_cases g2:v.lists.length+v.structs.length=0
    ·rw[aH (p:=lI v) ⟨fun _=>⟨g1,List.length_eq_zero_iff.1 zo,List.length_eq_zero_iff.1 zo⟩,fun c hc=>by rw[List.length_eq_zero_iff.1 (show v.lists.length=0 by omega)] at hc;simp at hc,fun c hc=>by rw[List.length_eq_zero_iff.1 (show v.structs.length=0 by omega)] at hc;simp at hc,by rw[g1];exact gz⟩,aH g1,decide_eq_true g2];rfl
    ·rw[az (p:=lI v) fun k=>g2 (by rw[(k.any HA.out).2.1,(k.any HA.out).2.2];rfl),decide_eq_false g2];simp
   ·rw[az (p:=lI v) fun k=>g1 (k.any HA.out).1,az g1];rfl)
  go_enter Tryz.func104,Tryz.ntmps104
  go_wp2_with (refine ae tyS rfl (.tmp 9) rfl rfl _ rfl HS.out ?_)
  refine (HN.out _).mono ?_;rintro e w1 ⟨rfl,hb1⟩;have c7:=(HO.out.move hb1).obj.cell HC.out.1;have c8:=(HO.out.move hb1).obj.cell HC.out.2;have cl:=(HO.out.move hb1).obj.lt;have HB:=zh (HO.out.move hb1).below;clear HN HV HS HF HK HO HC hb1 HG;generalize v.lists.length=l4 at *
  generalize v.structs.length=l5 at *
  generalize tf (v.s=dI)=te at *
  cases te
  ·go_wp2;exact hR.out _ _ ⟨by rw[HX.out] <;> rfl,HB.out⟩
  ·by_cases hz:l4+l5=0
   ·obtain⟨rfl,rfl⟩:l4=0∧l5=0:=zo;go_wp2;exact hR.out _ _ ⟨by rw[HX.out] <;> rfl,HB.out⟩
   ·have hd:((l4:Int)+l5==0)=false:=beq_eq_false_iff_ne.2 zo;have HX2:=zh (HX.out.trans (by rw[decide_eq_false hz] <;> rfl));clear HX hz;go_wp2
    exact hR.out _ _ ⟨by rw[HX2.out] <;> rfl,HB.out⟩
 | false=>
  have HA:=zh hany;rw[hany] at c0;clear hany;have HE:=zh (show G↔(∀c∈v.lists,c.2.length≤1)∧(∀c∈v.structs,dz c.1∧bX c)∧v.s.fK from by
   rw[HG.out];exact⟨fun k=>⟨k.rest,k.st,k.sc⟩,fun k=>⟨fun h=>(by rw[HA.out] at h;cases h),k.1,k.2.1,k.2.2⟩⟩)
  clear HN HA HG
  go_enter Tryz.func104,Tryz.ntmps104
  go_wp2;refine au [1,23,24,25] (fun q vs wr=>∃(i:Nat),i≤v.lists.length∧q=v.lists.length - i∧vs=[.pointer (some ⟨w.heap.size,0,none⟩),.slice a4 v.lists.length b4,.int .i64 (v.lists.length:Int),.int .i64 (i:Int)]∧(∀j (hj:j<v.lists.length),j<i→(v.lists[j]).2.length≤1) ∧
   Own w m wr m [.obj w.heap.size 33 N]) ?_ ?_
  ·exact⟨_,0,Nat.zero_le _,rfl,rfl,fun j hj h=>absurd h (Nat.not_lt_zero _),HO.out⟩
  clear HO c0 c7 c8;rintro X z q vs wr hX - ⟨i,hi,rfl,rfl,hA,hO⟩;simp[litL,lk];have HA:=zh hA;clear hA;by_cases hlt:i<v.lists.length
  ·obtain⟨b,off,rfl,h4⟩:=HK.out.1 (by intro h;simp[h] at hlt);obtain⟨u,u',s1,s2,s3,s4⟩:=h4 i hlt;obtain⟨ua,uc,rfl,-⟩:=s3;obtain⟨ua',uc',rfl,r1,r2,-⟩:=s4;have x1:=Mem.aj hO.inn s1;have x2:=Mem.aj hO.inn s2;have xl:=Mem.ay hO.inn s1;have HO:=zh (hO.al' (.cells #[.slice ua (v.lists[i]).1.length uc,.slice ua' (v.lists[i]).2.length uc'] 51));unfold maxLen at r2;have HNX:=zh (show (v.lists[i]).2.length≤1→∀j (hj:j<v.lists.length),j<i+1→(v.lists[j]).2.length≤1 from fun h j hj h2=>by
    by_cases e:j=i
    ·subst e;exact h
    ·exact HA.out j hj zo)
   have HNO:=zh (show ¬ (v.lists[i]).2.length≤1→¬ G from fun h k=>h ((HE.out.1 k).1 _ (List.getElem_mem hlt)));generalize (v.lists[i]).1.length=n1 at *
   generalize (v.lists[i]).2.length=n2 at *
   clear hO h4 s1 s2;by_cases hn:n2≤1
   ·have HNX2:=zh (HNX.out hn);clear HNX HNO;go_wp2;exact hX.out _ _ _ zo rfl ⟨i+1,zo,rfl,rfl,HNX2.out,HO.out⟩
   ·have HR:=zh (HNO.out hn);clear HNX HNO hX;go_wp2;exact hR.out _ _ ⟨by rw[az HR.out] <;> rfl,HO.out.below⟩
  obtain rfl:i=v.lists.length:=zo;have HL:=zh (show ∀c∈v.lists,c.2.length≤1 from fun c hc=>by obtain⟨j,hj,rfl⟩:=List.getElem_of_mem hc;exact HA.out j hj hj);have c7:=hO.obj.cell HC.out.1;have c8:=hO.obj.cell HC.out.2;have cl:=hO.obj.lt;have HO:=zh hO;clear hO hX HA;go_wp2;refine au [1,35,36,37] (fun q vs wr=>∃(i:Nat),i≤v.structs.length∧q=v.structs.length - i∧vs=[.pointer (some ⟨w.heap.size,0,none⟩),.slice a5 v.structs.length b5,.int .i64 (v.structs.length:Int),.int .i64 (i:Int)]∧(∀j (hj:j<v.structs.length),j<i→dz (v.structs[j]).1∧bX v.structs[j]) ∧
   Own w m wr m [.obj w.heap.size 33 N]) ?_ ?_
  ·exact⟨_,0,Nat.zero_le _,rfl,rfl,fun j hj h=>absurd h (Nat.not_lt_zero _),HO.out⟩
  clear HO c7 c8 cl;rintro X z q vs wr hX - ⟨i,hi,rfl,rfl,hA,hO⟩;simp[litL,lk];have HA:=zh hA;clear hA;by_cases hlt:i<v.structs.length
  ·obtain⟨b,off,rfl,h4⟩:=HK.out.2 (by intro h;simp[h] at hlt);obtain⟨u,u',s1,s2,s3,s4⟩:=h4 i hlt;have hmem:=List.getElem_mem hlt;have HFI:=zh (fun w' (h:m.inn w')=>wP u (v.structs[i]).1 m n w' h s3);have HCL:=zh (fun w' (h:m.inn w')=>uI u u' v.structs[i] m n w' h HTM.out s3 s4 (HF.out.f _ hmem) (HF.out.k _ hmem) (HF.out.lab _ hmem) (HF.out.set _ hmem));obtain⟨ua,uc,rfl,-⟩:=s3;obtain⟨ua',uc',rfl,-⟩:=s4;have x1:=Mem.aj hO.inn s1;have x2:=Mem.aj hO.inn s2;have xl:=Mem.ay hO.inn s1;have hO1:=hO.al #[.slice ua (v.structs[i]).1.length uc,.slice ua' (v.structs[i]).2.length uc'] 45;have HO:=zh hO1;have HNX:=zh (show dz (v.structs[i]).1∧bX v.structs[i]→∀j (hj:j<v.structs.length),j<i+1→dz (v.structs[j]).1∧bX v.structs[j] from fun h j hj h2=>by
    by_cases e:j=i
    ·subst e;exact h
    ·exact HA.out j hj zo)
   have HNO:=zh (show ¬ (dz (v.structs[i]).1∧bX v.structs[i])→¬ G from fun h k=>h ((HE.out.1 k).2.1 _ hmem));have HFI1:=zh (HFI.out _ hO1.inn);clear hO h4 s1 s2 hO1 hmem HA;generalize (v.structs[i]).1.length=n1 at *
   generalize (v.structs[i]).2.length=n2 at *
   generalize dz (v.structs[i]).1=FO at *
   generalize bX v.structs[i]=CO at *
   by_cases hfo:FO
   case neg=>
    have HR:=zh (HNO.out fun h=>hfo h.1);have hh:=HFI1.out;rw[az hfo] at hh;have HFI2:=zh hh;clear HNX HNO HCL hh HFI1 HFI hX hfo
    go_wp2_with (go_at_call 153;refine HFI2.out.mono ?_;rintro e w2 ⟨rfl,hb2⟩)
    exact hR.out _ _ ⟨by rw[az HR.out] <;> rfl,(HO.out.move hb2).below⟩
   have hh:=HFI1.out;rw[aH hfo] at hh;have HFI2:=zh hh;clear hh HFI1 HFI;by_cases hco:CO
   ·have HCL2:=zh (show ∀w',m.inn w'→_ from fun w' h=>by have:=HCL.out w' h;rw[aH hco] at this;exact this);have HNX2:=zh (HNX.out ⟨hfo,hco⟩);clear HNX HNO HCL hfo hco
    go_wp2_with (first
     | (go_at_call 153;refine HFI2.out.mono ?_;rintro e w2 ⟨rfl,hb2⟩;have x1:=(HO.out.move hb2).obj.cell (i:=0) rfl;have x2:=(HO.out.move hb2).obj.cell (i:=1) rfl;have xl:=(HO.out.move hb2).obj.lt)
     | (go_at_call 154;refine (HCL2.out _ (HO.out.move hb2).inn).mono ?_;rintro e w3 ⟨rfl,hb3⟩))
    exact hX.out _ _ _ zo rfl ⟨i+1,zo,rfl,rfl,HNX2.out,((HO.out.move hb2).move hb3).tail⟩
   ·have HCL2:=zh (show ∀w',m.inn w'→_ from fun w' h=>by have:=HCL.out w' h;rw[az hco] at this;exact this);have HR:=zh (HNO.out fun h=>hco h.2);clear HNX HNO HCL hfo hco hX
    go_wp2_with (first
     | (go_at_call 153;refine HFI2.out.mono ?_;rintro e w2 ⟨rfl,hb2⟩;have x1:=(HO.out.move hb2).obj.cell (i:=0) rfl;have x2:=(HO.out.move hb2).obj.cell (i:=1) rfl;have xl:=(HO.out.move hb2).obj.lt)
     | (go_at_call 154;refine (HCL2.out _ (HO.out.move hb2).inn).mono ?_;rintro e w3 ⟨rfl,hb3⟩))
    exact hR.out _ _ ⟨by rw[az HR.out] <;> rfl,((HO.out.move hb2).move hb3).below⟩
  obtain rfl:i=v.structs.length:=zo;have HST:=zh (show ∀c∈v.structs,dz c.1∧bX c from fun c hc=>by obtain⟨j,hj,rfl⟩:=List.getElem_of_mem hc;exact HA.out j hj hj);have HX2:=zh (show tf G=tf v.s.fK from bg (HE.out.trans ⟨fun h=>h.2.2,fun h=>⟨HL.out,HST.out,h⟩⟩));have HVV:=zh (HV.out wr hO.inn);have HSS:=zh (fun (hN:∀j u,([.bool v.s.nul,.bool v.s.fal,.bool v.s.tru,y1,y2,y3]:List Value)[j]?=some u→N[1+j]?=some u)=>hO.obj.sub hN);have HO:=zh hO;clear hO HV HA HST HL HE hX;generalize tf v.s.fK=vv at *
  go_wp2_with (refine ae tyS rfl (.tmp 51) rfl rfl _ rfl (HSS.out HNS.out) ?_)
  refine HVV.out.mono ?_;rintro e w2 ⟨rfl,hb2⟩;have HB:=zh (HO.out.move hb2).below;clear HO HVV hb2;go_wp2;exact hR.out _ _ ⟨by rw[HX2.out] <;> rfl,HB.out⟩
def wkC (a:Vs):Array Value:=#[.int .i64 a.n,.int .i64 a.d,.bool a.b]
theorem yJ (g lv:Nat) (a:Vs) (h1:0≤a.n∧a.n≤4000000∧0≤a.d∧a.d≤1000) (_:lv≤17) (w0 w:World) (m mk:Mem) (L:List Item) (hO:Own w0 m w mk (.obj g 73 (wkC a)::L)) :
 Calls Tryz.prog 103 #[.pointer (some ⟨g,0,none⟩),.int .i64 (lv:Int)] w fun e w'=>e=.returned (.tuple #[])∧Own w0 m w' mk (.obj g 73 (wkC ⟨a.n+1,max a.d lv,a.b⟩)::L):=by
 obtain⟨n,d,b⟩:=a;obtain⟨n1,n2,d1,d2⟩:0≤n∧n≤4000000∧0≤d∧d≤1000:=h1;have c0:=hO.obj.cell (i:=0) (v:=.int .i64 n) rfl;have f0:=hO.obj.frozen 0;have hl:=hO.obj.lt;have hO1:=hO.set 0 (.int .i64 (n+1));have c1:=hO1.obj.cell (i:=1) (v:=.int .i64 d) rfl;have f1:=hO1.obj.frozen 1;have hO2:=hO1.set 1 (.int .i64 (max d lv));have HO:=zh hO2;clear hO hO1 hO2;refine av fun R hR=>?_
 go_enter Tryz.func103,Tryz.ntmps103
 go_wp2
 go_end0
 exact hR.out _ _ ⟨rfl,HO.out⟩
theorem FewV.kids {n:Nat} {v:Vl} (h:FewV (n+1) v):∀x∈v.kids,FewV n x.1∧FewV n x.2:=h.2
structure VsOk (a:Vs) (N:Int):Prop where
 n:0≤a.n
 le:a.n≤N
 d:0≤a.d
 top:a.d≤17
theorem ME:∀(f lv:Nat) (v:Vl) (a:Vs),f+lv=17→0≤a.d→a.d≤17→0≤(visV f lv v a).d∧(visV f lv v a).d≤17
 | 0,lv,v,a,h,h1,h2=>by simp only[visV];omega
 | f+1,lv,v,a,h,h1,h2=>by
  have hl:∀(l:List Vd) (a:Vs),0≤a.d→a.d≤17→0≤(visL f lv l a).d∧(visL f lv l a).d≤17:=by
   intro l
   induction l with
   | nil=>intro a h1 h2;exact⟨h1,h2⟩
   | cons x l ih=>
    intro a h1 h2;have k1:=ME f (lv+1) x.1 a zo h1 h2;have k2:=ME f (lv+1) x.2 (visV f (lv+1) x.1 a) zo k1.1 k1.2;exact ih _ k2.1 k2.2
  by_cases hg:lI v
  ·rw[kJ hg];exact hl _ _ (by show 0≤max a.d (lv:Int);omega) (by show max a.d (lv:Int)≤17;omega)
  ·rw[qX hg];simp only;omega
theorem VsOk.vis {f lv N:Nat} {v:Vl} {a:Vs} {k:Int} (h:VsOk a k) (hf:f+lv=17) (hv:Ht N v):VsOk (visV f lv v a) (k+vcnt N v):=by
 have h1:=MC f lv N v a hv;have h2:=ME f lv v a hf h.d h.top;have:=h.n;have:=h.le;exact⟨zo,zo,h2.1,h2.2⟩
theorem kL:∀(f lv n:Nat) (v:Vl) (x:Sl) (g:Nat) (a:Vs) (w0 w:World) (m mk:Mem) (L:List Item),f+lv=17→Own w0 m w mk (.obj g 73 (wkC a)::L)→TabM mk→VAt mk n x v→FewV n v→VsOk a (3000000 - vcnt n v)→vcnt n v≤1048576 →
 Calls Tryz.prog 70 #[.pointer (some ⟨g,0,none⟩),v.val x,.int .i64 (lv:Int)] w fun e w'=>∃mk',e=.returned (.tuple #[])∧Own w0 m w' mk' (.obj g 73 (wkC (visV f lv v a))::L)∧mk.le mk'
 | f,lv,0,v,x,g,a,w0,w,m,mk,L,_,_,_,h,_,_,_=>h.elim
 | f,lv,n+1,v,x,g,a,w0,w,m,mk,L,hlv,hO,htab,hv,hfw,ha,hct=>by
  have han:=ha.n;have hal:=ha.le;have had:=ha.d;have hat:=ha.top;have hO1:=hO.al (nine v x).toArray 33;have HE:=zh (yJ g lv a zo zo w0 _ m mk _ hO1.swap);have HN:=zh (fun w' (h:bz w' w.heap.size 33 (nine v x).toArray)=>h.all);have hN:(nine v x).length=9:=rfl;have gl:=hO1.obj.lt
  cases f with
  | zero=>
   obtain rfl:lv=17:=zo;have HV:visV 0 17 v a=⟨a.n+1,max a.d (17:Nat),true⟩:=rfl;have HVH:=zh HV;unfold Vl.val;clear HV hO1 hv hfw ha hO HN;generalize nine v x=N at *
   refine av fun R hR=>?_
   go_enter Tryz.func70,Tryz.ntmps70
   go_wp2_with (go_at_call 103;refine HE.out.mono ?_;rintro e w1 ⟨rfl,hO1⟩;have c2:=hO1.obj.cell (i:=2) (v:=.bool a.b) rfl;have f2:=hO1.obj.frozen 2;have gl2:=hO1.obj.lt)
   go_end0
   exact hR.out _ _ ⟨mk,rfl,by rw[HVH.out];exact (hO1.set 2 (.bool true)).drop2,Mem.le_refl _⟩
  | succ f=>
   have hle16:lv≤16:=zo;have hd:decide ((16:Int)<(lv:Int))=false:=decide_eq_false zo;have hk:=lU hv.ht;have hsm:=hfw.1.sc;have HG:=zh (fun w' (h:mk.inn w')=>Bt v x mk n w' h htab hv hfw.1 ⟨by have:=hsm.1;omega,by have:=hsm.2.1;omega,by have:=hsm.2.2.2;omega⟩);have HCH:=zh (fun w' (h:mk.inn w')=>rR v x mk n w' h hv zo);have hT:=Es n v;have hT2:=Da n v.kids;rw[hT] at hT2;have HT:=zh (zi hT hT2);have HKF:=zh hfw.2;have HTM:=zh htab;have HGB:=zh (zi (fun h:lI v=>kJ (f:=f) (lv:=lv) (a:=a) h) (fun h:¬ lI v=>qX (f:=f) (lv:=lv) (a:=a) h));unfold Vl.val;unfold Vl.val at HG HCH;generalize visV (f+1) lv v a=V at *
   generalize nine v x=N at *
   generalize vcnt (n+1) v=TOT at *
   generalize v.kids=KD at *
   generalize lI v=GV at *
   clear hO1 hv hfw hO hsm hT hT2 htab ha;refine av fun R hR=>?_
   go_enter Tryz.func70,Tryz.ntmps70
   by_cases hgd:GV
   case neg=>
    have HGW:=zh (show ∀w',mk.inn w'→_ from fun w' h=>by have:=HG.out w' h;rw[az hgd] at this;exact this);have HV:=zh (HGB.out.2 hgd);clear HG HCH HGB hgd HT HKF
    go_wp2_with (first
     | (go_at_call 103;refine HE.out.mono ?_;rintro e w1 ⟨rfl,hO1⟩;have gl2:=hO1.swap.obj.lt)
     | refine ae tyV rfl (.tmp 4) rfl rfl N hN (HN.out _ hO1.swap.obj) ?_
     | (go_at_call 104;refine (HGW.out _ hO1.inn).mono ?_;rintro e w2 ⟨rfl,hb2⟩;have hO2:=hO1.move hb2;have c2:=hO2.obj.cell (i:=2) (v:=.bool a.b) rfl;have f2:=hO2.obj.frozen 2;have gl3:=hO2.obj.lt))
    go_end0
    exact hR.out _ _ ⟨mk,rfl,by rw[HV.out];exact (hO2.set 2 (.bool true)).drop2,Mem.le_refl _⟩
   have HGW:=zh (show ∀w',mk.inn w'→_ from fun w' h=>by have:=HG.out w' h;rw[aH hgd] at this;exact this);have HV:=zh (HGB.out.1 hgd);clear HG HGB hgd
   go_wp2_with (first
    | (go_at_call 103;refine HE.out.mono ?_;rintro e w1 ⟨rfl,hO1⟩;have gl2:=hO1.swap.obj.lt)
    | refine ae tyV rfl (.tmp 4) rfl rfl N hN (HN.out _ hO1.swap.obj) ?_
    | (go_at_call 104;refine (HGW.out _ hO1.inn).mono ?_;rintro e w2 ⟨rfl,hb2⟩;have hO2:=hO1.move hb2;have gl3:=hO2.swap.obj.lt)
    | refine ae tyV rfl (.tmp 4) rfl rfl N hN (HN.out _ hO2.swap.obj) ?_)
   refine (HCH.out _ hO2.inn).mono ?_;rintro e w3 ⟨r,rfl,hb3,hr⟩;have hO3:=hO2.call hb3;obtain⟨ra,rc,rfl,p1,q1,hk3⟩:=hr;have hle3:=Mem.dJ (w:=w3) hO2.inn;generalize mk.grow w2 w3=M at *
   have HK:=zh hk3;have HO3:=zh hO3;have HLE:=zh hle3;unfold maxLen at q1;clear hO1 hO2 hO3 hb2 hb3 hk3 hle3 HGW HCH HE HN gl2 gl3;go_wp2;refine au [0,2,24,25,26] (fun q vs wr=>∃(i:Nat) (ai:Vs) (mi:Mem),i≤KD.length∧q=KD.length - i∧vs=[.pointer (some ⟨g,0,none⟩),.int .i64 (lv:Int),.slice ra KD.length rc,.int .i64 (KD.length:Int),.int .i64 (i:Int)]∧ai=visL f lv (KD.take i) ⟨a.n+1,max a.d lv,a.b⟩ ∧
    VsOk ai (3000000 - (TOT:Int)+(cntK n KD i:Nat))∧M.le mi∧Own w0 m wr mi (.obj g 73 (wkC ai)::.obj w.heap.size 33 N.toArray::L)) ?_ ?_
   ·refine ⟨_,0,⟨a.n+1,max a.d lv,a.b⟩,M,Nat.zero_le _,rfl,rfl,rfl,⟨by show 0≤a.n+1;omega,?_,by show 0≤max a.d (lv:Int);omega,by show max a.d (lv:Int)≤17;omega⟩,Mem.le_refl _,HO3.out⟩;have:cntK n KD 0=1:=by simp[cntK]
    rw[this];show a.n+1≤_;omega
   clear HO3;rintro X z q vs wr hX - ⟨i,ai,mi,hi,rfl,rfl,hai,hok,hle,hO⟩;simp[litL,lk];by_cases hlt:i<KD.length
   case neg=>
    obtain rfl:i=KD.length:=zo;rw[List.take_length] at hai;have HF:=zh (zi hO.drop2 (Mem.le_trans HLE.out hle));rw[hai,← HV.out] at HF;clear hO hX hok;go_wp2
    go_end0
    exact hR.out _ _ ⟨_,rfl,HF.out⟩
   obtain⟨b,off,rfl,h4⟩:=HK.out (by intro h;simp[h] at hlt);obtain⟨x1,x2,hc,r1,r2⟩:=(h4 i hlt).cells;have hcl:=Mem.ay hO.inn (Mem.aA hle (hc 0 _ rfl));have HC:=zh (fun j u hj=>Mem.aj hO.inn (Mem.aA hle (hc j u hj)));have h2:=eF r1 r2;have hl2:(dcs KD[i] x1 x2).length=18:=rfl;have HF1:=zh (show ∀j u,(nine KD[i].1 x1)[j]?=some u→(dcs KD[i] x1 x2).toArray[0+j]?=some u from fun j u hj=>by simpa using lw (y:=x2) hj);have HF2:=zh (show ∀j u,(nine KD[i].2 x2)[j]?=some u→(dcs KD[i] x1 x2).toArray[9+j]?=some u from fun j u hj=>by simpa using lu (x:=x1) hj);have hst:=AU n KD i hlt;have htot:=HT.out.2 (i+1);have hfk:=HKF.out KD[i] (List.getElem_mem hlt);have hvs:=Hg f lv KD i hlt ⟨a.n+1,max a.d lv,a.b⟩;rw[← hai] at hvs;have hok1:VsOk ai (3000000 - (vcnt n KD[i].1:Nat)):=⟨hok.n,by have:=hok.le;omega,hok.d,hok.top⟩;have hok2:=hok.vis (f:=f) (lv:=lv+1) zo hfk.1.ht;have hok3:=hok2.vis (f:=f) (lv:=lv+1) zo hfk.2.ht;have hokb:VsOk (visV f (lv+1) KD[i].1 ai) (3000000 - (vcnt n KD[i].2:Nat)):=⟨hok2.n,by have:=hok2.le;omega,hok2.d,hok2.top⟩;have HX1:=zh (fun w' (h:Own w0 m w' mi (.obj g 73 (wkC ai)::.obj wr.heap.size 35 (dcs KD[i] x1 x2).toArray::.obj w.heap.size 33 N.toArray::L))=>
    kL f (lv+1) n KD[i].1 x1 g ai w0 w' m mi _ zo h (HTM.out.le (Mem.le_trans HLE.out hle)) (r1.le hle) hfk.1 hok1 zo)
   have HX2:=zh (fun w' mj (hj:mi.le mj) (h:Own w0 m w' mj (.obj g 73 (wkC (visV f (lv+1) KD[i].1 ai))::.obj wr.heap.size 35 (dcs KD[i] x1 x2).toArray::.obj w.heap.size 33 N.toArray::L))=>
    kL f (lv+1) n KD[i].2 x2 g _ w0 w' m mj _ zo h (HTM.out.le (Mem.le_trans (Mem.le_trans HLE.out hle) hj)) (r2.le (Mem.le_trans hle hj)) hfk.2 hokb zo)
   have HEND:=zh (show VsOk (visL f lv (KD.take (i+1)) ⟨a.n+1,max a.d lv,a.b⟩) (3000000 - (TOT:Int)+(cntK n KD (i+1):Nat)) by
    rw[hvs];exact⟨hok3.n,by have:=hok3.le;omega,hok3.d,hok3.top⟩)
   have HVS:=zh hvs;have HLE2:=zh hle;have HO:=zh (hO.al zcD 35);unfold Vl.val at HX1 HX2;have hN1:(nine KD[i].1 x1).length=9:=rfl;have hN2:(nine KD[i].2 x2).length=9:=rfl;generalize nine KD[i].1 x1=N1 at *
   generalize nine KD[i].2 x2=N2 at *
   generalize dcs KD[i] x1 x2=D at *
   clear hO hc r1 r2 h4 hst hok hok1 hok2 hok3 hokb hfk hvs hai hle
   go_wp2_with (first
    | refine ae tyD rfl (.tmp 28) rfl rfl D hl2 HC.out ?_
    | refine aI tyD rfl (.tmp 7) (.tmp 29) rfl (cs:=D.toArray) rfl rfl rfl (by simp[hl2]) (fun u hu=>h2 u hu) HO.out.obj ?_)
   intro w5 ho5 hg5;have hO5:=HO.out.setObj ho5 hg5;have q0:=hO5.obj.sub HF1.out;have gl5:=hO5.obj.lt;have HY1:=zh (HX1.out _ hO5.swap);clear HO HC ho5 hg5 hO5 HX1
   go_wp2_with (refine ae tyV rfl (.tmp 31) rfl rfl N1 hN1 q0 ?_)
   refine HY1.out.mono ?_;rintro e w6 ⟨mj,rfl,hO6,hle6⟩;have q1:=hO6.swap.obj.sub HF2.out;have gl6:=hO6.swap.obj.lt;have HY2:=zh (HX2.out _ mj hle6 hO6);have HL6:=zh hle6;clear hO6 hle6 HY1 HX2 q0 gl5
   go_wp2_with (refine ae tyV rfl (.tmp 37) rfl rfl N2 hN2 q1 ?_)
   refine HY2.out.mono ?_;rintro e w7 ⟨mj2,rfl,hO7,hle7⟩;have HO7:=zh (zi hO7.drop2 (Mem.le_trans HLE2.out (Mem.le_trans HL6.out hle7)));rw[← HVS.out] at HO7;clear hO7 hle7 HY2 q1 gl6;go_wp2;exact hX.out _ _ _ zo rfl ⟨i+1,_,mj2,zo,rfl,rfl,rfl,HEND.out,HO7.out.2,HO7.out.1⟩
end Cl
