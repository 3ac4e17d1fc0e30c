/- Lemmas for the proofs of chapter 11. -/
import Derived.Test.YtdgjplfcpcphoaaGreatDoorProg
import Derived.BigQuiet
import Derived.Deep.Cut
import Derived.Deep.QuietTactic
import Derived.Laws.StructEq
import Derived.Lib.AppendStr
import Derived.Lib.Builder
import Derived.Lib.Hide
import Derived.Lib.ItoaLen
import Derived.Maps.OwnOps
import Derived.Maps.OwnSet
import Derived.OrdersHeld
import Derived.Outline
import Derived.StillTailTactics
import Derived.StringKeys
import Derived.WalkKit
import Derived.WalkLawsBesides
import Derived.WalkSpells
import Derived.Deep.RegionHeld
import Derived.Laws.CopyRow
import Derived.Laws.Tables
import Derived.BigFrame
import Derived.Shelf.Strings.Builder1
import Derived.Shelf.Small.Wraps
import Derived.Shelf.LaysM
import Derived.Shelf.Strconv.Itoa3
import Derived.Laws.EntriesVeiled
import Derived.RegionTactic
import Derived.RangeFuncNested
import Derived.RangeFuncBound
import Derived.RangeFuncCalls
import Derived.RangeFuncLeaves
import Derived.OwnWalkIn
import Derived.TacticsInMore
import Derived.LoopNIn
import Derived.LoopIn
import Derived.Shelf.Strconv.AppendIntPublic10
import Derived.Shelf.Spec.SlicesGrow
import Derived.Shelf.SlSortCmp.WholeK
import Derived.ChangeAlike
import Derived.Laws.BytesArg
import Derived.Laws.CopyOwn
import Derived.WalkMore
import Derived.Test.YtdgjplfcpcphoaaGreatDoorZz
import Derived.Test.YtdgjplfcpcphoaaGreatDoorPkX14
import Derived.Test.YtdgjplfcpcphoaaGreatDoorPkX3
import Derived.Test.YtdgjplfcpcphoaaGreatDoorPkX1
import Derived.Test.YtdgjplfcpcphoaaGreatDoorPkX2
import Derived.Test.YtdgjplfcpcphoaaGreatDoorPkX4
import Derived.Test.YtdgjplfcpcphoaaGreatDoorPkX7
import Derived.Test.YtdgjplfcpcphoaaGreatDoorPkX8
import Derived.Test.YtdgjplfcpcphoaaGreatDoorPkX15
import Derived.Test.YtdgjplfcpcphoaaGreatDoorPkX5
import Derived.Test.YtdgjplfcpcphoaaGreatDoorPkX10
import Derived.Test.YtdgjplfcpcphoaaGreatDoorPkX13
import Derived.Test.YtdgjplfcpcphoaaGreatDoorPkX18
import Derived.Test.YtdgjplfcpcphoaaGreatDoorPkX9
import Derived.Test.YtdgjplfcpcphoaaGreatDoorPkX16
import Derived.Test.YtdgjplfcpcphoaaGreatDoorPkX6
import Derived.Test.YtdgjplfcpcphoaaGreatDoorPkX11
import Derived.Test.YtdgjplfcpcphoaaGreatDoorPkX12
import Derived.Test.YtdgjplfcpcphoaaGreatDoorPkX17
import Derived.Test.YtdgjplfcpcphoaaGreatDoorPkX19
set_option maxRecDepth 100000
set_option maxHeartbeats 16000000
namespace Cl
open Go Go.RowKit Go.Proofs
theorem xE (u:Value) (l:List Fd) (m:Mem) (n:Nat) (w:World) (hm:m.inn w) (h:gI (VAt m n) m u l) :
 Calls Tryz.prog 153 #[u] w fun e w'=>e=.returned (.bool (tf (dE l)))∧Below w.heap.size w w':=by
 obtain⟨a,c,rfl,p1,q1,k1⟩:=h;unfold maxLen at q1;have HK:=zh k1;have HO:=zh (Own.start hm);clear k1;refine ay fun R hR=>?_
 go_enter Tryz.func153,Tryz.ntmps153
 go_wp2;refine au [0,5,6,7] (fun q vs wr=>∃(i:Nat),i≤l.length∧q=l.length - i∧vs=[.slice a l.length c,.slice a l.length c,.int .i64 (l.length:Int),.int .i64 (i:Int)]∧(∀j (hj:j<l.length),j<i→l[j].1.2=1∨l[j].1.2=2)∧(∀j (hj:j+1<l.length),j+1<i→bLt l[j].1.1 (l[j+1]).1.1=true) ∧
  Own w m wr m []) ?_ ?_
 ·exact⟨_,0,Nat.zero_le _,rfl,rfl,fun j hj h=>absurd h (Nat.not_lt_zero _),fun j hj h=>absurd h (Nat.not_lt_zero _),HO.out⟩
 clear HO;rintro X z q vs wr hX - ⟨i,hi,rfl,rfl,hA,hB,hO⟩;simp[litL,lk];by_cases hlt:i<l.length
 case neg=>
  obtain rfl:i=l.length:=zo;have HR:=zh (show dE l from ⟨fun f hf=>by obtain⟨j,hj,rfl⟩:=List.getElem_of_mem hf;exact hA j hj hj,fun j hj=>hB j hj hj⟩);have HB:=zh hO.below;clear hA hB hO hX;go_wp2;exact hR.out _ _ ⟨by rw[aI HR.out] <;> rfl,HB.out⟩
 obtain⟨b,off,rfl,h4⟩:=HK.out (by intro h;simp[h] at hlt);obtain⟨x,y,hc,hx,hy⟩:=(h4 i hlt).cells;have hcl:=Mem.av hO.inn (hc 0 _ rfl);have HC:=zh (fun j u hj=>Mem.aj hO.inn (hc j u hj));have h2:=nZ hx hy;have hl2:(fcs l[i] x y).length=20:=rfl;have H0:(fcs l[i] x y).toArray[0]?=some (.string l[i].1.1):=rfl;have H1:(fcs l[i] x y).toArray[1]?=some (.int .i64 l[i].1.2):=rfl;have HAB:=zh (zi hA hB);have HO:=zh (hO.al zcF 58);have HP:=zh (fun j (hj:j<l.length)=>(h4 j hj).s);have HN1:=zh (show (¬ (l[i].1.2=1∨l[i].1.2=2))→¬ dE l from fun h k=>h (k.pres _ (List.getElem_mem hlt)));generalize fcs l[i] x y=M at *
 generalize hpr:l[i].1.2=pr at *
 generalize hlab:l[i].1.1=lab at *
 have HPR:=zh (zi hpr hlab);clear hO hx hy hc h4 hA hB hpr hlab
 go_wp2_with (first
  | refine ae tyF rfl (.tmp 10) rfl rfl M hl2 HC.out ?_
  | refine aH tyF rfl (.tmp 4) (.tmp 11) rfl (cs:=M.toArray) rfl rfl rfl (by simp[hl2]) (fun u hu=>h2 u hu) HO.out.obj ?_)
 intro w1 ho1 hg1;have hO1:=HO.out.setObj ho1 hg1;have gb0:=ho1.cell H0;have gb1:=ho1.cell H1;have gbl:=hO1.obj.lt;have HO1:=zh hO1.tail;have HPW:=zh (fun j (hj:j<l.length)=>zi (Mem.aj hO1.inn (HP.out j hj)) (Mem.av hO1.inn (HP.out j hj)));clear HO HC ho1 hg1 hO1 HP;by_cases hok:pr=1∨pr=2
 case neg=>
  have hd1:(pr != 1)=true:=bne_iff_ne.2 fun e=>hok (.inl e);have hd2:(pr != 2)=true:=bne_iff_ne.2 fun e=>hok (.inr e);have HR:=zh (HN1.out hok);have HB:=zh (HO1.out.drN 1).below;clear HO1 HPW HN1 hok hX HAB;go_wp2
  go_region
  all_goals go_wp2
  all_goals exact hR.out _ _ ⟨by rw[az HR.out] <;> rfl,HB.out⟩
 have hpres:∀j (hj:j<l.length),j<i+1→l[j].1.2=1∨l[j].1.2=2:=fun j hj h=>by
  by_cases e:j=i
  ·subst e;rw[HPR.out.1];exact hok
  ·exact HAB.out.1 j hj zo
 have HPS:=zh hpres;clear hpres HN1;rcases Nat.eq_zero_or_pos i with rfl | hip
 ·have HAS:=zh (show ∀j (hj:j+1<l.length),j+1<0+1→bLt l[j].1.1 (l[j+1]).1.1=true from fun j hj h=>zo);have HO2:=zh (HO1.out.drN 1);clear HAB HPR HPW HO1;rcases hok with rfl | rfl
  all_goals
   go_wp2
   go_region
   all_goals go_wp2
   all_goals exact hX.out _ _ _ zo rfl ⟨0+1,zo,rfl,rfl,HPS.out,HAS.out,HO2.out⟩
 obtain⟨p,rfl⟩:∃p,i=p+1:=⟨i - 1,zo⟩;obtain⟨y1,yl⟩:=HPW.out p zo;have HO2:=zh (HO1.out.drN 1);cases hb:bLt l[p].1.1 lab
 ·have HR:=zh (show ¬ dE l from fun k=>by
   have:=k.asc p zo;rw[HPR.out.2,hb] at this;cases this)
  have HB:=zh HO2.out.below;unfold bLt at hb;rw[← ByteArray.toList_eq,← ByteArray.toList_eq] at hb;generalize l[p].1.1=lab2 at *
  clear HAB HPR HPW HO1 HO2 HPS hX;rcases hok with rfl | rfl
  all_goals
   go_wp2
   go_region
   all_goals go_wp2
   all_goals exact hR.out _ _ ⟨by rw[az HR.out] <;> rfl,HB.out⟩
 ·have HAS:=zh (show ∀j (hj:j+1<l.length),j+1<p+1+1→bLt l[j].1.1 (l[j+1]).1.1=true from fun j hj h=>by
   by_cases e:j=p
   ·subst e;rw[HPR.out.2];exact hb
   ·exact HAB.out.2 j hj zo)
  unfold bLt at hb;rw[← ByteArray.toList_eq,← ByteArray.toList_eq] at hb;generalize l[p].1.1=lab2 at *
  clear HAB HPR HPW HO1;rcases hok with rfl | rfl
  all_goals
   go_wp2
   go_region
   all_goals go_wp2
   all_goals exact hX.out _ _ _ zo rfl ⟨p+1+1,zo,rfl,rfl,HPS.out,HAS.out,HO2.out⟩
theorem BQ (v:Vl) (x:Sl) (m:Mem) (n:Nat) (w:World) (hm:m.inn w) (htab:TabM m) (hv:VAt m (n+1) x v) (hf:FewP v) (hl:ScLe v.s 30000 100000) :
 Calls Tryz.prog 104 #[v.val x] w fun e w'=>e=.returned (.bool (tf (lU v)))∧Below w.heap.size w w':=by
 have hO:=(Own.start hm).al (nine v x).toArray 33;have hs:=hv.sc;have HN:=zh (fun w'=>sN x.i x.f x.t v.s m w' hs ⟨by have:=hl.i;omega,by have:=hl.f;omega,by have:=hl.t;omega⟩);have HV:=zh (fun w' (h:m.inn w')=>tH x.i x.f x.t v.s m w' h htab hs (hl.mono zo zo));have HS:=zh (hO.obj.sub (jZ v x));obtain⟨-,hlc,hst⟩:=hv;have h1:=hf.l;have h2:=hf.s;have HF:=zh hf;have HTM:=zh htab;obtain⟨y1,y2,y3,y4,y5⟩:=x;obtain⟨a4,b4,e4,p4,q4,k4⟩:=hlc;obtain⟨a5,b5,e5,p5,q5,k5⟩:=hst;simp only at e4 e5;subst e4 e5;have HK:=zh (zi k4 k5);have HC:=zh (show (nine v ⟨y1,y2,y3,.slice a4 v.lists.length b4,.slice a5 v.structs.length b5⟩).toArray[7]?=some (.slice a4 v.lists.length b4)∧(nine v ⟨y1,y2,y3,.slice a4 v.lists.length b4,.slice a5 v.structs.length b5⟩).toArray[8]?=some (.slice a5 v.structs.length b5) from ⟨rfl,rfl⟩);have c0:=hO.obj.cell (i:=0) (v:=.bool v.any) rfl;have c7:=hO.obj.cell HC.out.1;have c8:=hO.obj.cell HC.out.2;have HO:=zh hO;unfold maxLen at q4 q5;unfold Vl.val;clear hO hs k4 k5 hf htab;have HNS:=zh (jZ v ⟨y1,y2,y3,.slice a4 v.lists.length b4,.slice a5 v.structs.length b5⟩);generalize (nine v _).toArray=N at *
 obtain⟨G,hG⟩:∃G:Prop,G=lU v:=⟨_,rfl⟩;rw[← hG];have HG:=zh hG;clear hG;refine ay fun R hR=>?_
 cases hany:v.any with
 | true=>
  have HA:=zh hany;rw[hany] at c0;have hin:=HO.out.inn;clear hany;have HX:=zh (show tf G=(tf (v.s=dJ)&&decide (v.lists.length+v.structs.length=0)) by
   rw[HG.out];by_cases g1:v.s=dJ
   ·by_cases g2:v.lists.length+v.structs.length=0
    ·rw[aI (p:=lU v) ⟨fun _=>⟨g1,List.length_eq_zero_iff.1 zo,List.length_eq_zero_iff.1 zo⟩,fun c hc=>by rw[List.length_eq_zero_iff.1 (show v.lists.length=0 by omega)] at hc;simp at hc,fun c hc=>by rw[List.length_eq_zero_iff.1 (show v.structs.length=0 by omega)] at hc;simp at hc,by rw[g1];exact iE⟩,aI g1,decide_eq_true g2];rfl
    ·rw[az (p:=lU v) fun k=>g2 (by rw[(k.any HA.out).2.1,(k.any HA.out).2.2];rfl),decide_eq_false g2];simp
   ·rw[az (p:=lU v) fun k=>g1 (k.any HA.out).1,az g1];rfl)
  go_enter Tryz.func104,Tryz.ntmps104
  go_wp2_with (refine ae tyS rfl (.tmp 9) rfl rfl _ rfl HS.out ?_)
  refine (HN.out _).mono ?_;rintro e w1 ⟨rfl,hb1⟩;have c7:=(HO.out.move hb1).obj.cell HC.out.1;have c8:=(HO.out.move hb1).obj.cell HC.out.2;have cl:=(HO.out.move hb1).obj.lt;have HB:=zh (HO.out.move hb1).below;clear HN HV HS HF HK HO HC hb1 HG;generalize v.lists.length=l4 at *
  generalize v.structs.length=l5 at *
  generalize tf (v.s=dJ)=te at *
  cases te
  ·go_wp2;exact hR.out _ _ ⟨by rw[HX.out] <;> rfl,HB.out⟩
  ·by_cases hz:l4+l5=0
   ·obtain⟨rfl,rfl⟩:l4=0∧l5=0:=zo;go_wp2;exact hR.out _ _ ⟨by rw[HX.out] <;> rfl,HB.out⟩
   ·have hd:((l4:Int)+l5==0)=false:=beq_eq_false_iff_ne.2 zo;have HX2:=zh (HX.out.trans (by rw[decide_eq_false hz] <;> rfl));clear HX hz;go_wp2
    exact hR.out _ _ ⟨by rw[HX2.out] <;> rfl,HB.out⟩
 | false=>
  have HA:=zh hany;rw[hany] at c0;clear hany;have HE:=zh (show G↔(∀c∈v.lists,c.2.length≤1)∧(∀c∈v.structs,dE c.1∧cB c)∧v.s.iy from by
   rw[HG.out];exact⟨fun k=>⟨k.rest,k.st,k.sc⟩,fun k=>⟨fun h=>(by rw[HA.out] at h;cases h),k.1,k.2.1,k.2.2⟩⟩)
  clear HN HA HG
  go_enter Tryz.func104,Tryz.ntmps104
  go_wp2;refine au [1,23,24,25] (fun q vs wr=>∃(i:Nat),i≤v.lists.length∧q=v.lists.length - i∧vs=[.pointer (some ⟨w.heap.size,0,none⟩),.slice a4 v.lists.length b4,.int .i64 (v.lists.length:Int),.int .i64 (i:Int)]∧(∀j (hj:j<v.lists.length),j<i→(v.lists[j]).2.length≤1) ∧
   Own w m wr m [.obj w.heap.size 33 N]) ?_ ?_
  ·exact⟨_,0,Nat.zero_le _,rfl,rfl,fun j hj h=>absurd h (Nat.not_lt_zero _),HO.out⟩
  clear HO c0 c7 c8;rintro X z q vs wr hX - ⟨i,hi,rfl,rfl,hA,hO⟩;simp[litL,lk];have HA:=zh hA;clear hA;by_cases hlt:i<v.lists.length
  ·obtain⟨b,off,rfl,h4⟩:=HK.out.1 (by intro h;simp[h] at hlt);obtain⟨u,u',s1,s2,s3,s4⟩:=h4 i hlt;obtain⟨ua,uc,rfl,-⟩:=s3;obtain⟨ua',uc',rfl,r1,r2,-⟩:=s4;have x1:=Mem.aj hO.inn s1;have x2:=Mem.aj hO.inn s2;have xl:=Mem.av hO.inn s1;have HO:=zh (hO.al' (.cells #[.slice ua (v.lists[i]).1.length uc,.slice ua' (v.lists[i]).2.length uc'] 51));unfold maxLen at r2;have HNX:=zh (show (v.lists[i]).2.length≤1→∀j (hj:j<v.lists.length),j<i+1→(v.lists[j]).2.length≤1 from fun h j hj h2=>by
    by_cases e:j=i
    ·subst e;exact h
    ·exact HA.out j hj zo)
   have HNO:=zh (show ¬ (v.lists[i]).2.length≤1→¬ G from fun h k=>h ((HE.out.1 k).1 _ (List.getElem_mem hlt)));generalize (v.lists[i]).1.length=n1 at *
   generalize (v.lists[i]).2.length=n2 at *
   clear hO h4 s1 s2;by_cases hn:n2≤1
   ·have HNX2:=zh (HNX.out hn);clear HNX HNO;go_wp2;exact hX.out _ _ _ zo rfl ⟨i+1,zo,rfl,rfl,HNX2.out,HO.out⟩
   ·have HR:=zh (HNO.out hn);clear HNX HNO hX;go_wp2;exact hR.out _ _ ⟨by rw[az HR.out] <;> rfl,HO.out.below⟩
  obtain rfl:i=v.lists.length:=zo;have HL:=zh (show ∀c∈v.lists,c.2.length≤1 from fun c hc=>by obtain⟨j,hj,rfl⟩:=List.getElem_of_mem hc;exact HA.out j hj hj);have c7:=hO.obj.cell HC.out.1;have c8:=hO.obj.cell HC.out.2;have cl:=hO.obj.lt;have HO:=zh hO;clear hO hX HA;go_wp2;refine au [1,35,36,37] (fun q vs wr=>∃(i:Nat),i≤v.structs.length∧q=v.structs.length - i∧vs=[.pointer (some ⟨w.heap.size,0,none⟩),.slice a5 v.structs.length b5,.int .i64 (v.structs.length:Int),.int .i64 (i:Int)]∧(∀j (hj:j<v.structs.length),j<i→dE (v.structs[j]).1∧cB v.structs[j]) ∧
   Own w m wr m [.obj w.heap.size 33 N]) ?_ ?_
  ·exact⟨_,0,Nat.zero_le _,rfl,rfl,fun j hj h=>absurd h (Nat.not_lt_zero _),HO.out⟩
  clear HO c7 c8 cl;rintro X z q vs wr hX - ⟨i,hi,rfl,rfl,hA,hO⟩;simp[litL,lk];have HA:=zh hA;clear hA;by_cases hlt:i<v.structs.length
  ·obtain⟨b,off,rfl,h4⟩:=HK.out.2 (by intro h;simp[h] at hlt);obtain⟨u,u',s1,s2,s3,s4⟩:=h4 i hlt;have hmem:=List.getElem_mem hlt;have HFI:=zh (fun w' (h:m.inn w')=>xE u (v.structs[i]).1 m n w' h s3);have HCL:=zh (fun w' (h:m.inn w')=>vg u u' v.structs[i] m n w' h HTM.out s3 s4 (HF.out.f _ hmem) (HF.out.k _ hmem) (HF.out.lab _ hmem) (HF.out.set _ hmem));obtain⟨ua,uc,rfl,-⟩:=s3;obtain⟨ua',uc',rfl,-⟩:=s4;have x1:=Mem.aj hO.inn s1;have x2:=Mem.aj hO.inn s2;have xl:=Mem.av hO.inn s1;have hO1:=hO.al #[.slice ua (v.structs[i]).1.length uc,.slice ua' (v.structs[i]).2.length uc'] 45;have HO:=zh hO1;have HNX:=zh (show dE (v.structs[i]).1∧cB v.structs[i]→∀j (hj:j<v.structs.length),j<i+1→dE (v.structs[j]).1∧cB v.structs[j] from fun h j hj h2=>by
    by_cases e:j=i
    ·subst e;exact h
    ·exact HA.out j hj zo)
   have HNO:=zh (show ¬ (dE (v.structs[i]).1∧cB v.structs[i])→¬ G from fun h k=>h ((HE.out.1 k).2.1 _ hmem));have HFI1:=zh (HFI.out _ hO1.inn);clear hO h4 s1 s2 hO1 hmem HA;generalize (v.structs[i]).1.length=n1 at *
   generalize (v.structs[i]).2.length=n2 at *
   generalize dE (v.structs[i]).1=FO at *
   generalize cB v.structs[i]=CO at *
   by_cases hfo:FO
   case neg=>
    have HR:=zh (HNO.out fun h=>hfo h.1);have hh:=HFI1.out;rw[az hfo] at hh;have HFI2:=zh hh;clear HNX HNO HCL hh HFI1 HFI hX hfo
    go_wp2_with (go_at_call 153;refine HFI2.out.mono ?_;rintro e w2 ⟨rfl,hb2⟩)
    exact hR.out _ _ ⟨by rw[az HR.out] <;> rfl,(HO.out.move hb2).below⟩
   have hh:=HFI1.out;rw[aI hfo] at hh;have HFI2:=zh hh;clear hh HFI1 HFI;by_cases hco:CO
   ·have HCL2:=zh (show ∀w',m.inn w'→_ from fun w' h=>by have:=HCL.out w' h;rw[aI hco] at this;exact this);have HNX2:=zh (HNX.out ⟨hfo,hco⟩);clear HNX HNO HCL hfo hco
    go_wp2_with (first
     | (go_at_call 153;refine HFI2.out.mono ?_;rintro e w2 ⟨rfl,hb2⟩;have x1:=(HO.out.move hb2).obj.cell (i:=0) rfl;have x2:=(HO.out.move hb2).obj.cell (i:=1) rfl;have xl:=(HO.out.move hb2).obj.lt)
     | (go_at_call 154;refine (HCL2.out _ (HO.out.move hb2).inn).mono ?_;rintro e w3 ⟨rfl,hb3⟩))
    exact hX.out _ _ _ zo rfl ⟨i+1,zo,rfl,rfl,HNX2.out,((HO.out.move hb2).move hb3).tail⟩
   ·have HCL2:=zh (show ∀w',m.inn w'→_ from fun w' h=>by have:=HCL.out w' h;rw[az hco] at this;exact this);have HR:=zh (HNO.out fun h=>hco h.2);clear HNX HNO HCL hfo hco hX
    go_wp2_with (first
     | (go_at_call 153;refine HFI2.out.mono ?_;rintro e w2 ⟨rfl,hb2⟩;have x1:=(HO.out.move hb2).obj.cell (i:=0) rfl;have x2:=(HO.out.move hb2).obj.cell (i:=1) rfl;have xl:=(HO.out.move hb2).obj.lt)
     | (go_at_call 154;refine (HCL2.out _ (HO.out.move hb2).inn).mono ?_;rintro e w3 ⟨rfl,hb3⟩))
    exact hR.out _ _ ⟨by rw[az HR.out] <;> rfl,((HO.out.move hb2).move hb3).below⟩
  obtain rfl:i=v.structs.length:=zo;have HST:=zh (show ∀c∈v.structs,dE c.1∧cB c from fun c hc=>by obtain⟨j,hj,rfl⟩:=List.getElem_of_mem hc;exact HA.out j hj hj);have HX2:=zh (show tf G=tf v.s.iy from aZ (HE.out.trans ⟨fun h=>h.2.2,fun h=>⟨HL.out,HST.out,h⟩⟩));have HVV:=zh (HV.out wr hO.inn);have HSS:=zh (fun (hN:∀j u,([.bool v.s.nul,.bool v.s.fal,.bool v.s.tru,y1,y2,y3]:List Value)[j]?=some u→N[1+j]?=some u)=>hO.obj.sub hN);have HO:=zh hO;clear hO HV HA HST HL HE hX;generalize tf v.s.iy=vv at *
  go_wp2_with (refine ae tyS rfl (.tmp 51) rfl rfl _ rfl (HSS.out HNS.out) ?_)
  refine HVV.out.mono ?_;rintro e w2 ⟨rfl,hb2⟩;have HB:=zh (HO.out.move hb2).below;clear HO HVV hb2;go_wp2;exact hR.out _ _ ⟨by rw[HX2.out] <;> rfl,HB.out⟩
def wkC (a:Vs):Array Value:=#[.int .i64 a.n,.int .i64 a.d,.bool a.b]
theorem zw (g lv:Nat) (a:Vs) (h1:0≤a.n∧a.n≤4000000∧0≤a.d∧a.d≤1000) (_:lv≤17) (w0 w:World) (m mk:Mem) (L:List Item) (hO:Own w0 m w mk (.obj g 73 (wkC a)::L)) :
 Calls Tryz.prog 103 #[.pointer (some ⟨g,0,none⟩),.int .i64 (lv:Int)] w fun e w'=>e=.returned (.tuple #[])∧Own w0 m w' mk (.obj g 73 (wkC ⟨a.n+1,max a.d lv,a.b⟩)::L):=by
 obtain⟨n,d,b⟩:=a;obtain⟨n1,n2,d1,d2⟩:0≤n∧n≤4000000∧0≤d∧d≤1000:=h1;have c0:=hO.obj.cell (i:=0) (v:=.int .i64 n) rfl;have f0:=hO.obj.frozen 0;have hl:=hO.obj.lt;have hO1:=hO.set 0 (.int .i64 (n+1));have c1:=hO1.obj.cell (i:=1) (v:=.int .i64 d) rfl;have f1:=hO1.obj.frozen 1;have hO2:=hO1.set 1 (.int .i64 (max d lv));have HO:=zh hO2;clear hO hO1 hO2;refine ay fun R hR=>?_
 go_enter Tryz.func103,Tryz.ntmps103
 go_wp2
 go_end0
 exact hR.out _ _ ⟨rfl,HO.out⟩
theorem FewV.kids {n:Nat} {v:Vl} (h:FewV (n+1) v):∀x∈v.kids,FewV n x.1∧FewV n x.2:=h.2
structure VsOk (a:Vs) (N:Int):Prop where
 n:0≤a.n
 le:a.n≤N
 d:0≤a.d
 top:a.d≤17
theorem M9:∀(f lv:Nat) (v:Vl) (a:Vs),f+lv=17→0≤a.d→a.d≤17→0≤(visV f lv v a).d∧(visV f lv v a).d≤17
 | 0,lv,v,a,h,h1,h2=>by simp only[visV];omega
 | f+1,lv,v,a,h,h1,h2=>by
  have hl:∀(l:List Vd) (a:Vs),0≤a.d→a.d≤17→0≤(visL f lv l a).d∧(visL f lv l a).d≤17:=by
   intro l
   induction l with
   | nil=>intro a h1 h2;exact⟨h1,h2⟩
   | cons x l ih=>
    intro a h1 h2;have k1:=M9 f (lv+1) x.1 a zo h1 h2;have k2:=M9 f (lv+1) x.2 (visV f (lv+1) x.1 a) zo k1.1 k1.2;exact ih _ k2.1 k2.2
  by_cases hg:lU v
  ·rw[kT hg];exact hl _ _ (by show 0≤max a.d (lv:Int);omega) (by show max a.d (lv:Int)≤17;omega)
  ·rw[rV hg];simp only;omega
theorem VsOk.vis {f lv N:Nat} {v:Vl} {a:Vs} {k:Int} (h:VsOk a k) (hf:f+lv=17) (hv:Ht N v):VsOk (visV f lv v a) (k+vcnt N v):=by
 have h1:=M8 f lv N v a hv;have h2:=M9 f lv v a hf h.d h.top;have:=h.n;have:=h.le;exact⟨zo,zo,h2.1,h2.2⟩
theorem kW:∀(f lv n:Nat) (v:Vl) (x:Sl) (g:Nat) (a:Vs) (w0 w:World) (m mk:Mem) (L:List Item),f+lv=17→Own w0 m w mk (.obj g 73 (wkC a)::L)→TabM mk→VAt mk n x v→FewV n v→VsOk a (3000000 - vcnt n v)→vcnt n v≤1048576 →
 Calls Tryz.prog 70 #[.pointer (some ⟨g,0,none⟩),v.val x,.int .i64 (lv:Int)] w fun e w'=>∃mk',e=.returned (.tuple #[])∧Own w0 m w' mk' (.obj g 73 (wkC (visV f lv v a))::L)∧mk.le mk'
 | f,lv,0,v,x,g,a,w0,w,m,mk,L,_,_,_,h,_,_,_=>h.elim
 | f,lv,n+1,v,x,g,a,w0,w,m,mk,L,hlv,hO,htab,hv,hfw,ha,hct=>by
  have han:=ha.n;have hal:=ha.le;have had:=ha.d;have hat:=ha.top;have hO1:=hO.al (nine v x).toArray 33;have HE:=zh (zw g lv a zo zo w0 _ m mk _ hO1.swap);have HN:=zh (fun w' (h:bD w' w.heap.size 33 (nine v x).toArray)=>h.all);have hN:(nine v x).length=9:=rfl;have gl:=hO1.obj.lt
  cases f with
  | zero=>
   obtain rfl:lv=17:=zo;have HV:visV 0 17 v a=⟨a.n+1,max a.d (17:Nat),true⟩:=rfl;have HVH:=zh HV;unfold Vl.val;clear HV hO1 hv hfw ha hO HN;generalize nine v x=N at *
   refine ay fun R hR=>?_
   go_enter Tryz.func70,Tryz.ntmps70
   go_wp2_with (go_at_call 103;refine HE.out.mono ?_;rintro e w1 ⟨rfl,hO1⟩;have c2:=hO1.obj.cell (i:=2) (v:=.bool a.b) rfl;have f2:=hO1.obj.frozen 2;have gl2:=hO1.obj.lt)
   go_end0
   exact hR.out _ _ ⟨mk,rfl,by rw[HVH.out];exact (hO1.set 2 (.bool true)).drop2,Mem.le_refl _⟩
  | succ f=>
   have hle16:lv≤16:=zo;have hd:decide ((16:Int)<(lv:Int))=false:=decide_eq_false zo;have hk:=ma hv.ht;have hsm:=hfw.1.sc;have HG:=zh (fun w' (h:mk.inn w')=>BQ v x mk n w' h htab hv hfw.1 ⟨by have:=hsm.1;omega,by have:=hsm.2.1;omega,by have:=hsm.2.2.2;omega⟩);have HCH:=zh (fun w' (h:mk.inn w')=>sQ v x mk n w' h hv zo);have hT:=EW n v;have hT2:=Dw n v.kids;rw[hT] at hT2;have HT:=zh (zi hT hT2);have HKF:=zh hfw.2;have HTM:=zh htab;have HGB:=zh (zi (fun h:lU v=>kT (f:=f) (lv:=lv) (a:=a) h) (fun h:¬ lU v=>rV (f:=f) (lv:=lv) (a:=a) h));unfold Vl.val;unfold Vl.val at HG HCH;generalize visV (f+1) lv v a=V at *
   generalize nine v x=N at *
   generalize vcnt (n+1) v=TOT at *
   generalize v.kids=KD at *
   generalize lU v=GV at *
   clear hO1 hv hfw hO hsm hT hT2 htab ha;refine ay fun R hR=>?_
   go_enter Tryz.func70,Tryz.ntmps70
   by_cases hgd:GV
   case neg=>
    have HGW:=zh (show ∀w',mk.inn w'→_ from fun w' h=>by have:=HG.out w' h;rw[az hgd] at this;exact this);have HV:=zh (HGB.out.2 hgd);clear HG HCH HGB hgd HT HKF
    go_wp2_with (first
     | (go_at_call 103;refine HE.out.mono ?_;rintro e w1 ⟨rfl,hO1⟩;have gl2:=hO1.swap.obj.lt)
     | refine ae tyV rfl (.tmp 4) rfl rfl N hN (HN.out _ hO1.swap.obj) ?_
     | (go_at_call 104;refine (HGW.out _ hO1.inn).mono ?_;rintro e w2 ⟨rfl,hb2⟩;have hO2:=hO1.move hb2;have c2:=hO2.obj.cell (i:=2) (v:=.bool a.b) rfl;have f2:=hO2.obj.frozen 2;have gl3:=hO2.obj.lt))
    go_end0
    exact hR.out _ _ ⟨mk,rfl,by rw[HV.out];exact (hO2.set 2 (.bool true)).drop2,Mem.le_refl _⟩
   have HGW:=zh (show ∀w',mk.inn w'→_ from fun w' h=>by have:=HG.out w' h;rw[aI hgd] at this;exact this);have HV:=zh (HGB.out.1 hgd);clear HG HGB hgd
   go_wp2_with (first
    | (go_at_call 103;refine HE.out.mono ?_;rintro e w1 ⟨rfl,hO1⟩;have gl2:=hO1.swap.obj.lt)
    | refine ae tyV rfl (.tmp 4) rfl rfl N hN (HN.out _ hO1.swap.obj) ?_
    | (go_at_call 104;refine (HGW.out _ hO1.inn).mono ?_;rintro e w2 ⟨rfl,hb2⟩;have hO2:=hO1.move hb2;have gl3:=hO2.swap.obj.lt)
    | refine ae tyV rfl (.tmp 4) rfl rfl N hN (HN.out _ hO2.swap.obj) ?_)
   refine (HCH.out _ hO2.inn).mono ?_;rintro e w3 ⟨r,rfl,hb3,hr⟩;have hO3:=hO2.call hb3;obtain⟨ra,rc,rfl,p1,q1,hk3⟩:=hr;have hle3:=Mem.dN (w:=w3) hO2.inn;generalize mk.grow w2 w3=M at *
   have HK:=zh hk3;have HO3:=zh hO3;have HLE:=zh hle3;unfold maxLen at q1;clear hO1 hO2 hO3 hb2 hb3 hk3 hle3 HGW HCH HE HN gl2 gl3;go_wp2;refine au [0,2,24,25,26] (fun q vs wr=>∃(i:Nat) (ai:Vs) (mi:Mem),i≤KD.length∧q=KD.length - i∧vs=[.pointer (some ⟨g,0,none⟩),.int .i64 (lv:Int),.slice ra KD.length rc,.int .i64 (KD.length:Int),.int .i64 (i:Int)]∧ai=visL f lv (KD.take i) ⟨a.n+1,max a.d lv,a.b⟩ ∧
    VsOk ai (3000000 - (TOT:Int)+(cntK n KD i:Nat))∧M.le mi∧Own w0 m wr mi (.obj g 73 (wkC ai)::.obj w.heap.size 33 N.toArray::L)) ?_ ?_
   ·refine ⟨_,0,⟨a.n+1,max a.d lv,a.b⟩,M,Nat.zero_le _,rfl,rfl,rfl,⟨by show 0≤a.n+1;omega,?_,by show 0≤max a.d (lv:Int);omega,by show max a.d (lv:Int)≤17;omega⟩,Mem.le_refl _,HO3.out⟩;have:cntK n KD 0=1:=by simp[cntK]
    rw[this];show a.n+1≤_;omega
   clear HO3;rintro X z q vs wr hX - ⟨i,ai,mi,hi,rfl,rfl,hai,hok,hle,hO⟩;simp[litL,lk];by_cases hlt:i<KD.length
   case neg=>
    obtain rfl:i=KD.length:=zo;rw[List.take_length] at hai;have HF:=zh (zi hO.drop2 (Mem.le_trans HLE.out hle));rw[hai,← HV.out] at HF;clear hO hX hok;go_wp2
    go_end0
    exact hR.out _ _ ⟨_,rfl,HF.out⟩
   obtain⟨b,off,rfl,h4⟩:=HK.out (by intro h;simp[h] at hlt);obtain⟨x1,x2,hc,r1,r2⟩:=(h4 i hlt).cells;have hcl:=Mem.av hO.inn (Mem.aA hle (hc 0 _ rfl));have HC:=zh (fun j u hj=>Mem.aj hO.inn (Mem.aA hle (hc j u hj)));have h2:=cK r1 r2;have hl2:(dcs KD[i] x1 x2).length=18:=rfl;have HF1:=zh (show ∀j u,(nine KD[i].1 x1)[j]?=some u→(dcs KD[i] x1 x2).toArray[0+j]?=some u from fun j u hj=>by simpa using lK (y:=x2) hj);have HF2:=zh (show ∀j u,(nine KD[i].2 x2)[j]?=some u→(dcs KD[i] x1 x2).toArray[9+j]?=some u from fun j u hj=>by simpa using lJ (x:=x1) hj);have hst:=Bn n KD i hlt;have htot:=HT.out.2 (i+1);have hfk:=HKF.out KD[i] (List.getElem_mem hlt);have hvs:=Iz f lv KD i hlt ⟨a.n+1,max a.d lv,a.b⟩;rw[← hai] at hvs;have hok1:VsOk ai (3000000 - (vcnt n KD[i].1:Nat)):=⟨hok.n,by have:=hok.le;omega,hok.d,hok.top⟩;have hok2:=hok.vis (f:=f) (lv:=lv+1) zo hfk.1.ht;have hok3:=hok2.vis (f:=f) (lv:=lv+1) zo hfk.2.ht;have hokb:VsOk (visV f (lv+1) KD[i].1 ai) (3000000 - (vcnt n KD[i].2:Nat)):=⟨hok2.n,by have:=hok2.le;omega,hok2.d,hok2.top⟩;have HX1:=zh (fun w' (h:Own w0 m w' mi (.obj g 73 (wkC ai)::.obj wr.heap.size 35 (dcs KD[i] x1 x2).toArray::.obj w.heap.size 33 N.toArray::L))=>
    kW f (lv+1) n KD[i].1 x1 g ai w0 w' m mi _ zo h (HTM.out.le (Mem.le_trans HLE.out hle)) (r1.le hle) hfk.1 hok1 zo)
   have HX2:=zh (fun w' mj (hj:mi.le mj) (h:Own w0 m w' mj (.obj g 73 (wkC (visV f (lv+1) KD[i].1 ai))::.obj wr.heap.size 35 (dcs KD[i] x1 x2).toArray::.obj w.heap.size 33 N.toArray::L))=>
    kW f (lv+1) n KD[i].2 x2 g _ w0 w' m mj _ zo h (HTM.out.le (Mem.le_trans (Mem.le_trans HLE.out hle) hj)) (r2.le (Mem.le_trans hle hj)) hfk.2 hokb zo)
   have HEND:=zh (show VsOk (visL f lv (KD.take (i+1)) ⟨a.n+1,max a.d lv,a.b⟩) (3000000 - (TOT:Int)+(cntK n KD (i+1):Nat)) by
    rw[hvs];exact⟨hok3.n,by have:=hok3.le;omega,hok3.d,hok3.top⟩)
   have HVS:=zh hvs;have HLE2:=zh hle;have HO:=zh (hO.al zcD 35);unfold Vl.val at HX1 HX2;have hN1:(nine KD[i].1 x1).length=9:=rfl;have hN2:(nine KD[i].2 x2).length=9:=rfl;generalize nine KD[i].1 x1=N1 at *
   generalize nine KD[i].2 x2=N2 at *
   generalize dcs KD[i] x1 x2=D at *
   clear hO hc r1 r2 h4 hst hok hok1 hok2 hok3 hokb hfk hvs hai hle
   go_wp2_with (first
    | refine ae tyD rfl (.tmp 28) rfl rfl D hl2 HC.out ?_
    | refine aH tyD rfl (.tmp 7) (.tmp 29) rfl (cs:=D.toArray) rfl rfl rfl (by simp[hl2]) (fun u hu=>h2 u hu) HO.out.obj ?_)
   intro w5 ho5 hg5;have hO5:=HO.out.setObj ho5 hg5;have q0:=hO5.obj.sub HF1.out;have gl5:=hO5.obj.lt;have HY1:=zh (HX1.out _ hO5.swap);clear HO HC ho5 hg5 hO5 HX1
   go_wp2_with (refine ae tyV rfl (.tmp 31) rfl rfl N1 hN1 q0 ?_)
   refine HY1.out.mono ?_;rintro e w6 ⟨mj,rfl,hO6,hle6⟩;have q1:=hO6.swap.obj.sub HF2.out;have gl6:=hO6.swap.obj.lt;have HY2:=zh (HX2.out _ mj hle6 hO6);have HL6:=zh hle6;clear hO6 hle6 HY1 HX2 q0 gl5
   go_wp2_with (refine ae tyV rfl (.tmp 37) rfl rfl N2 hN2 q1 ?_)
   refine HY2.out.mono ?_;rintro e w7 ⟨mj2,rfl,hO7,hle7⟩;have HO7:=zh (zi hO7.drop2 (Mem.le_trans HLE2.out (Mem.le_trans HL6.out hle7)));rw[← HVS.out] at HO7;clear hO7 hle7 HY2 q1 gl6;go_wp2;exact hX.out _ _ _ zo rfl ⟨i+1,_,mj2,zo,rfl,rfl,rfl,HEND.out,HO7.out.2,HO7.out.1⟩
noncomputable def wkV (v:Vl):Vs:=visV 16 1 v ⟨0,0,false⟩
theorem nM (v:Vl) (x:Sl) (m:Mem) (n:Nat) (w:World) (hm:m.inn w) (htab:TabM m) (hv:VAt m n x v) (hf:FewV n v) (hct:vcnt n v≤1048576) :
 Calls Tryz.prog 51 #[v.val x] w fun e w'=>∃g,e=.returned (.pointer (some ⟨g,0,none⟩))∧Below w.heap.size w w'∧bD w' g 73 (wkC (wkV v)):=by
 have hO:=((Own.start hm).al (nine v x).toArray 33).al (wkC ⟨0,0,false⟩) 73;simp only[bB] at hO;have HV:=zh (kW 16 1 n v x (w.heap.size+1) ⟨0,0,false⟩ w _ m m _ rfl hO htab hv hf ⟨by show (0:Int)≤0;omega,by show (0:Int)≤_;omega,by show (0:Int)≤0;omega,by show (0:Int)≤17;omega⟩ hct);have HN:=zh hO.swap.obj.all;have hN:(nine v x).length=9:=rfl;have gl:=hO.swap.obj.lt;have HW:=zh (show visV 16 1 v ⟨0,0,false⟩=wkV v from rfl);unfold Vl.val;unfold Vl.val at HV;generalize nine v x=N at *
 clear hO hv hf;refine ay fun R hR=>?_
 go_enter Tryz.func51,Tryz.ntmps51
 go_wp2_with (refine ae tyV rfl (.tmp 1) rfl rfl N hN HN.out ?_)
 refine HV.out.mono ?_;rintro e w1 ⟨mk,rfl,hO1,-⟩;have HO:=zh (zi hO1.below hO1.obj);rw[HW.out] at HO;clear hO1 HV;go_wp2;exact hR.out _ _ ⟨_,rfl,HO.out⟩
theorem M7 (v:Vl):(wkV v).b = !tf (SndV v):=by unfold wkV SndV;rw[Na];rfl
noncomputable def depV (v:Vl):Int:=if tf (SndV v) then (dep 16 v:Int) else 0
noncomputable def sizV (v:Vl):Int:=if tf (SndV v) then (vcnt 16 v:Int) else 0
theorem OQ {v:Vl} (h:SndV v):(wkV v).d=dep 16 v:=by
 have:=(DU 16 1 v ⟨0,0,false⟩ (Nat.le_refl _) h).2;unfold wkV;rw[this];show max (0:Int) _=_;omega
theorem OP {v:Vl} (h:SndV v):(wkV v).n=vcnt 16 v:=by
 have:=(DU 16 1 v ⟨0,0,false⟩ (Nat.le_refl _) h).1;unfold wkV;rw[this];show (0:Int)+_=_;omega
theorem lX (v:Vl) (x:Sl) (m:Mem) (n:Nat) (w:World) (hm:m.inn w) (htab:TabM m) (hv:VAt m n x v) (hf:FewV n v) (hct:vcnt n v≤1048576) :
 Calls Tryz.prog 47 #[v.val x] w fun e w'=>e=.returned (.bool (tf (SndV v)))∧Below w.heap.size w w':=by
 have hO:=(Own.start hm).al (nine v x).toArray 33;have HW:=zh (nM v x m n _ hO.inn htab hv hf hct);have HN:=zh hO.obj.all;have hN:(nine v x).length=9:=rfl;have HB:=zh (M7 v);have HO:=zh hO;have gl:=hO.obj.lt;unfold Vl.val;unfold Vl.val at HW;generalize nine v x=N at *
 generalize wkV v=k at *
 clear hO hv hf;refine ay fun R hR=>?_
 go_enter Tryz.func47,Tryz.ntmps47
 go_wp2_with (refine ae tyV rfl (.tmp 1) rfl rfl N hN HN.out ?_)
 refine HW.out.mono ?_;rintro e w1 ⟨g,rfl,hb1,hob⟩;have c2:=hob.cell (i:=2) (v:=.bool k.b) rfl;have gl2:=hob.lt;have HF:=zh (HO.out.move hb1).below;have HB2:=zh (show tf (SndV v) = !k.b by rw[HB.out,Bool.not_not]);clear HO hb1 hob HW HN HB;generalize tf (SndV v)=ts at *
 go_wp2;exact hR.out _ _ ⟨by rw[HB2.out] <;> rfl,HF.out⟩
theorem kX (d:Vd) (x y:Sl) (m:Mem) (n:Nat) (w:World) (hm:m.inn w) (htab:TabM m) (h1:VAt m n x d.1) (h2:VAt m n y d.2) (f1:FewV n d.1) (f2:FewV n d.2) (t1:vcnt n d.1≤1048576) (t2:vcnt n d.2≤1048576) :
 Calls Tryz.prog 18 #[bz d x y] w fun e w'=>e=.returned (.bool (tf (SndV d.1)&&tf (SndV d.2)))∧Below w.heap.size w w':=by
 have hO:=(Own.start hm).al (dcs d x y).toArray 35;have HC:=zh (lX d.1 x m n _ hO.inn htab h1 f1 t1);have HF:=zh (fun w' (h:m.inn w')=>lX d.2 y m n w' h htab h2 f2 t2);have hN:(nine d.1 x).length=9:=rfl;have hN2:(nine d.2 y).length=9:=rfl;have HD:=zh (zi (fun j u=>@lK d x y j u) (fun j u=>@lJ d x y j u));have HO:=zh hO;unfold Vl.val bz at *
 generalize nine d.1 x=N at *
 generalize nine d.2 y=N2 at *
 generalize dcs d x y=D at *
 clear hO h1 h2 f1 f2;have q0:=HO.out.obj.sub (o:=0) (cs:=N) fun j u hj=>by simpa using HD.out.1 j u hj
 generalize tf (SndV d.1)=s1 at *
 generalize tf (SndV d.2)=s2 at *
 refine ay fun R hR=>?_
 go_enter Tryz.func18,Tryz.ntmps18
 go_wp2_with (refine ae tyV rfl (.tmp 3) rfl rfl N hN q0 ?_)
 refine HC.out.mono ?_;rintro e w1 ⟨rfl,hb1⟩;have HO1:=zh (HO.out.move hb1);have HF1:=zh (HF.out w1 HO1.out.inn);have q1:=HO1.out.obj.sub (o:=9) (cs:=N2) fun j u hj=>by simpa using HD.out.2 j u hj
 clear HO HC HF hb1 q0;cases s1
 ·have HB:=zh HO1.out.below;clear HO1 HF1 q1;go_wp2;exact hR.out _ _ ⟨rfl,HB.out⟩
 ·go_wp2_with (refine ae tyV rfl (.tmp 7) rfl rfl N2 hN2 q1 ?_)
  refine HF1.out.mono ?_;rintro e w2 ⟨rfl,hb2⟩;have HB:=zh (HO1.out.move hb2).below;clear HO1 HF1 hb2 q1;go_wp2;exact hR.out _ _ ⟨rfl,HB.out⟩
theorem zx (v:Vl) (x:Sl) (m:Mem) (n:Nat) (w:World) (hm:m.inn w) (htab:TabM m) (hv:VAt m n x v) (hf:FewV n v) (hct:vcnt n v≤1048576) :
 Calls Tryz.prog 21 #[v.val x] w fun e w'=>e=.returned (.int .i64 (depV v))∧Below w.heap.size w w':=by
 have hO:=(Own.start hm).al (nine v x).toArray 33;have HW:=zh (nM v x m n _ hO.inn htab hv hf hct);have HN:=zh hO.obj.all;have hN:(nine v x).length=9:=rfl;have HB:=zh (M7 v);have HS:=zh (fun h:SndV v=>(OQ h));have HD:=zh (show depV v=_ from rfl);have HO:=zh hO;have gl:=hO.obj.lt;unfold Vl.val;unfold Vl.val at HW;generalize nine v x=N at *
 generalize wkV v=k at *
 clear hO hv hf;refine ay fun R hR=>?_
 go_enter Tryz.func21,Tryz.ntmps21
 go_wp2_with (refine ae tyV rfl (.tmp 1) rfl rfl N hN HN.out ?_)
 refine HW.out.mono ?_;rintro e w1 ⟨g,rfl,hb1,hob⟩;have c2:=hob.cell (i:=2) (v:=.bool k.b) rfl;have c1:=hob.cell (i:=1) (v:=.int .i64 k.d) rfl;have gl2:=hob.lt;have HF:=zh (HO.out.move hb1).below;clear HO hb1 hob HW HN;by_cases hs:SndV v
 ·have hk:k.b=false:=by rw[HB.out,aI hs];rfl
  have HE:=zh (show depV v=k.d by rw[HS.out hs];unfold depV;rw[if_pos (aI hs)]);rw[hk] at c2;clear HB HS HD hs hk;go_wp2;exact hR.out _ _ ⟨by rw[HE.out] <;> rfl,HF.out⟩
 ·have hk:k.b=true:=by rw[HB.out,az hs];rfl
  have HE:=zh (show depV v=0 by unfold depV;rw[if_neg (by rw[az hs];simp)]);rw[hk] at c2;clear HB HS HD hs hk;go_wp2;exact hR.out _ _ ⟨by rw[HE.out] <;> rfl,HF.out⟩
theorem BO (v:Vl) (x:Sl) (m:Mem) (n:Nat) (w:World) (hm:m.inn w) (htab:TabM m) (hv:VAt m n x v) (hf:FewV n v) (hct:vcnt n v≤1048576) :
 Calls Tryz.prog 23 #[v.val x] w fun e w'=>e=.returned (.int .i64 (sizV v))∧Below w.heap.size w w':=by
 have hO:=(Own.start hm).al (nine v x).toArray 33;have HW:=zh (nM v x m n _ hO.inn htab hv hf hct);have HN:=zh hO.obj.all;have hN:(nine v x).length=9:=rfl;have HB:=zh (M7 v);have HS:=zh (fun h:SndV v=>(OP h));have HD:=zh (show sizV v=_ from rfl);have HO:=zh hO;have gl:=hO.obj.lt;unfold Vl.val;unfold Vl.val at HW;generalize nine v x=N at *
 generalize wkV v=k at *
 clear hO hv hf;refine ay fun R hR=>?_
 go_enter Tryz.func23,Tryz.ntmps23
 go_wp2_with (refine ae tyV rfl (.tmp 1) rfl rfl N hN HN.out ?_)
 refine HW.out.mono ?_;rintro e w1 ⟨g,rfl,hb1,hob⟩;have c2:=hob.cell (i:=2) (v:=.bool k.b) rfl;have c1:=hob.cell (i:=0) (v:=.int .i64 k.n) rfl;have gl2:=hob.lt;have HF:=zh (HO.out.move hb1).below;clear HO hb1 hob HW HN;by_cases hs:SndV v
 ·have hk:k.b=false:=by rw[HB.out,aI hs];rfl
  have HE:=zh (show sizV v=k.n by rw[HS.out hs];unfold sizV;rw[if_pos (aI hs)]);rw[hk] at c2;clear HB HS HD hs hk;go_wp2;exact hR.out _ _ ⟨by rw[HE.out] <;> rfl,HF.out⟩
 ·have hk:k.b=true:=by rw[HB.out,az hs];rfl
  have HE:=zh (show sizV v=0 by unfold sizV;rw[if_neg (by rw[az hs];simp)]);rw[hk] at c2;clear HB HS HD hs hk;go_wp2;exact hR.out _ _ ⟨by rw[HE.out] <;> rfl,HF.out⟩
theorem qd.exec {P:Program} {t:TypeId} {n:Nat} (S:qd P t n) {w:World} {o:Oper} {ev:Operand→Value} {p:Operand} (hop:o.op=Op.load t p) {b off:Nat} (hp:ev p=.pointer (some ⟨b,off,none⟩)) {cs:List Value} (hl:cs.length=n) (hc:∀j u,cs[j]?=some u→w.cell? ⟨b,off+j,none⟩=some u) :
 (execOp ev o).run P w=.ok (.value (.agg cs.toArray)) w:=by
 simp[execOp,hop,hp,Instr.loadAt,Instr.sureAddr,S.load hl hc,Result.andThen]
theorem tJ (vi vf vt ui uf ut:Value) (a b:RS) (m:Mem) (w:World) (hm:m.inn w) (ha:ScAt m vi vf vt a) (hb:ScAt m ui uf ut b) :
 Calls Tryz.prog 133 #[a.val vi vf vt,b.val ui uf ut] w fun e w'=>e=.returned (.bool (tf (a=b)))∧Below w.heap.size w w':=by
 have hO:=((Own.start hm).al #[.bool a.nul,.bool a.fal,.bool a.tru,vi,vf,vt] 29).al #[.bool b.nul,.bool b.fal,.bool b.tru,ui,uf,ut] 29;simp only[bB] at hO;have HI:=zh (fun w' (h:m.inn w')=>gW _ _ a.i b.i m w' h ha.i hb.i);have HF:=zh (fun w' (h:m.inn w')=>gW _ _ a.f b.f m w' h ha.f hb.f);have HT:=zh (fun w' (h:m.inn w')=>qM _ _ a.t b.t m w' h ha.t hb.t);have HE:=zh (RS.eq_iff a b);obtain⟨a1,b1,a2,b2,a3,b3,rfl,rfl,rfl⟩:=ha.spell;obtain⟨c1,d1,c2,d2,c3,d3,rfl,rfl,rfl⟩:=hb.spell;unfold RS.val;have HO:=zh hO;clear hO ha hb;refine ay fun R hR=>?_;by_cases h1:a.nul=b.nul
 case neg=>
  have HE3:=zh (show ¬ a=b from fun h=>h1 (HE.out.1 h).1);have HB:=zh HO.out.below;have e1:(a.nul==b.nul)=false:=by simp[h1]
  clear h1 HE HO
  go_enter Tryz.func133,Tryz.ntmps133
  go_wp2;exact hR.out _ _ ⟨aJ (by rw[az HE3.out]),HB.out⟩
 have e1:(a.nul==b.nul)=true:=by simp[h1]
 by_cases h2:a.fal=b.fal
 case neg=>
  have HE3:=zh (show ¬ a=b from fun h=>h2 (HE.out.1 h).2.1);have HB:=zh HO.out.below;have e2:(a.fal==b.fal)=false:=by simp[h2]
  clear h1 h2 HE HO
  go_enter Tryz.func133,Tryz.ntmps133
  go_wp2;exact hR.out _ _ ⟨aJ (by rw[az HE3.out]),HB.out⟩
 have e2:(a.fal==b.fal)=true:=by simp[h2]
 by_cases h3:a.tru=b.tru
 case neg=>
  have HE3:=zh (show ¬ a=b from fun h=>h3 (HE.out.1 h).2.2.1);have HB:=zh HO.out.below;have e3:(a.tru==b.tru)=false:=by simp[h3]
  clear h1 h2 h3 HE HO
  go_enter Tryz.func133,Tryz.ntmps133
  go_wp2;exact hR.out _ _ ⟨aJ (by rw[az HE3.out]),HB.out⟩
 have e3:(a.tru==b.tru)=true:=by simp[h3]
 have HE2:=zh (show a=b↔(a.i=b.i∧a.f=b.f)∧a.t=b.t from HE.out.trans ⟨fun h=>h.2.2.2,fun h=>⟨h1,h2,h3,h⟩⟩);clear h1 h2 h3 HE;generalize a.nul=an at *
 generalize b.nul=bn at *
 generalize a.fal=af at *
 generalize b.fal=bf at *
 generalize a.tru=at' at *
 generalize b.tru=bt at *
 go_enter Tryz.func133,Tryz.ntmps133
 go_wp2_with fail
 refine (HI.out _ HO.out.inn).mono ?_;rintro e w1 ⟨rfl,hb1⟩;have hO:=HO.out.move hb1;clear HI HO hb1;by_cases h4:a.i=b.i
 case neg=>
  rw[az h4];have HB:=zh hO.below;have HE3:=zh (show ¬ a=b from fun h=>h4 (HE2.out.1 h).1.1);clear hO HE2 h4 HT HF;go_wp2;exact hR.out _ _ ⟨aJ (by rw[az HE3.out]),HB.out⟩
 rw[aI h4];have q4:=hO.obj.cell (i:=4) rfl;have q6:=hO.obj.lt;have p4:=hO.swap.obj.cell (i:=4) rfl;have p6:=hO.swap.obj.lt;have HO:=zh hO;have HE3:=zh (show a=b↔a.f=b.f∧a.t=b.t from HE2.out.trans ⟨fun h=>⟨h.1.2,h.2⟩,fun h=>⟨⟨h4,h.1⟩,h.2⟩⟩);clear hO HE2 h4
 go_wp2_with fail
 refine (HF.out _ HO.out.inn).mono ?_;rintro e w2 ⟨rfl,hb2⟩;have hO:=HO.out.move hb2;clear HF HO hb2 q4 q6 p4 p6;by_cases h5:a.f=b.f
 case neg=>
  rw[az h5];have HB:=zh hO.below;have HE4:=zh (show ¬ a=b from fun h=>h5 (HE3.out.1 h).1);clear hO HE3 h5 HT;go_wp2;exact hR.out _ _ ⟨aJ (by rw[az HE4.out]),HB.out⟩
 rw[aI h5];have q5:=hO.obj.cell (i:=5) rfl;have q6:=hO.obj.lt;have p5:=hO.swap.obj.cell (i:=5) rfl;have p6:=hO.swap.obj.lt;have HO:=zh hO;have HE4:=zh (show a=b↔a.t=b.t from HE3.out.trans ⟨fun h=>h.2,fun h=>⟨h5,h⟩⟩);clear hO HE3 h5
 go_wp2_with fail
 refine (HT.out _ HO.out.inn).mono ?_;rintro e w3 ⟨rfl,hb3⟩;have HB:=zh (HO.out.move hb3).below;clear HO HT hb3 q5 q6 p5 p6;generalize hc:tf (a.t=b.t)=tc at *
 have HC:=zh (show tc=tf (a=b) by rw[← hc];exact (aZ HE4.out).symm);clear hc;go_wp2;exact hR.out _ _ ⟨aJ (by rw[← HC.out]),HB.out⟩
theorem NW {α:Type} (A:Nat→Nat→α→Prop) (Rp:List Value→α→Prop) (v v':Value) (l l':List α) (m:Mem) (w:World) (hm:m.inn w)
 (hA:∀b o x,A b o x→∃cs:List Value,cs.length=18∧(∀j u,cs[j]?=some u→m.cell b (o+j)=some u)∧(∀u∈cs,u.oneCell'=true)∧Rp cs x)
 (hc:∀cs cs' x x' w',m.inn w'→Rp cs x→Rp cs' x'→Calls Tryz.prog 55 #[.agg cs.toArray,.agg cs'.toArray] w' fun e w''=>e=.returned (.bool (tf (x=x')))∧Below w'.heap.size w' w'')
 (hl:Mem.slice A 18 v l) (hl':Mem.slice A 18 v' l') :
 Calls Tryz.prog 134 #[v,v',.func (.func 55) #[] #[]] w fun e w'=>e=.returned (.bool (tf (l=l')))∧Below w.heap.size w w':=by
 obtain⟨a,c,rfl,h1,h2,h3⟩:=hl;obtain⟨a',c',rfl,h1',h2',h3'⟩:=hl';unfold maxLen at h2 h2';have HK:=zh (zi h3 h3');have HA:=zh (zi hA hc);have HO:=zh (Own.start hm);clear h3 h3' hA hc;refine ay fun R hR=>?_;by_cases hlen:l.length=l'.length
 case neg=>
  have hne:((l.length:Int) != (l'.length:Int))=true:=by simp;omega
  have HL:=zh (show ¬ l=l' from fun h=>hlen (by rw[h]));clear hlen
  go_enter Tryz.func134,Tryz.ntmps134
  go_wp2;exact hR.out _ _ ⟨aJ (by rw[az HL.out]),HO.out.below⟩
 have hne:((l.length:Int) != (l'.length:Int))=false:=by simp[hlen]
 have Hlen:=zh hlen;clear hlen
 go_enter Tryz.func134,Tryz.ntmps134
 go_wp2;refine au [0,1,2,15,16,17] (fun n vs wr=>∃k:Nat,k≤l.length∧n=l.length - k∧vs=[.slice a l.length c,.slice a' l'.length c',.func (.func 55) #[] #[],.slice a l.length c,.int .i64 l.length,.int .i64 k]∧(l=l'↔l.drop k=l'.drop k)∧Own w m wr m []) ?_ ?_
 ·exact⟨_,0,Nat.zero_le _,rfl,rfl,Iff.rfl,HO.out⟩
 clear HO;rintro X z n vs wr hX - ⟨k,hk,rfl,rfl,hrel,hO⟩;have Hrel:=zh hrel;clear hrel;simp[litL,lk];by_cases hlt:k<l.length
 case neg=>
  have HL:=zh (show l=l' from Hrel.out.2 (by rw[List.drop_eq_nil_of_le zo,List.drop_eq_nil_of_le (by rw[← Hlen.out];omega)]));have HB:=zh hO.below;clear hO hX;go_wp2;exact hR.out _ _ ⟨aJ (by rw[aI HL.out]),HB.out⟩
 have hlt':k<l'.length:=by rw[← Hlen.out];exact hlt
 obtain⟨b,off,rfl,h4⟩:=HK.out.1 (by intro h;simp[h] at hlt);obtain⟨b',off',rfl,h4'⟩:=HK.out.2 (by intro h;simp[h] at hlt');obtain⟨cs,hl1,hc1,ho1,hr1⟩:=HA.out.1 _ _ _ (h4 k hlt);obtain⟨cs',hl2,hc2,ho2,hr2⟩:=HA.out.1 _ _ _ (h4' k hlt');have HD:=zh (dM l l' k hlt hlt');have HC:=zh (fun w' (h:m.inn w')=>HA.out.2 cs cs' l[k] l'[k] w' h hr1 hr2);have hO1:=hO.al zcD 35;have HC1:=zh (fun (w':World) (h:m.inn w') j u hj=>Mem.aj h (hc1 j u hj));have HC2:=zh (fun (w':World) (h:m.inn w') j u hj=>Mem.aj h (hc2 j u hj));have hx1:=hc1 0 (cs[0]'zo) (List.getElem?_eq_getElem _);have hx2:=hc2 0 (cs'[0]'zo) (List.getElem?_eq_getElem _);have xl1:=Mem.av hO.inn hx1;have xl2:=Mem.av hO.inn hx2;have H1:=zh (zi ho1 ho2);have hin:=hO.inn;have HO:=zh hO1;clear hO hO1 h4 h4' hc1 hc2 ho1 ho2 hr1 hr2 hx1 hx2;generalize l[k]=x at *
 generalize l'[k]=x' at *
 by_cases he:x=x'
 ·have HC3:=zh (show ∀w',m.inn w'→_ from fun w' h=>by have:=HC.out w' h;rw[aI he] at this;exact this);have HL:=zh (Hrel.out.trans (HD.out.trans ⟨fun h=>h.2,fun h=>⟨he,h⟩⟩));clear HC HD Hrel he
  go_wp2_with (first
   | refine ae tyD rfl (.tmp 20) rfl rfl cs hl1 (HC1.out _ hin) ?_
   | (refine aH tyD rfl (.tmp 8) (.tmp 21) rfl (cs:=cs.toArray) rfl rfl rfl (by simpa using hl1) (fun u hu=>H1.out.1 u (by simpa using hu)) HO.out.obj ?_;intro w1 ob1 hg1;have hO2:=(HO.out.setObj ob1 hg1).al zcD 35;have xl3:=hO2.swap.obj.lt;have hin2:=hO2.tail.inn)
   | refine ae tyD rfl (.tmp 24) rfl rfl cs' hl2 (HC2.out _ (HO.out.setObj ob1 hg1).inn) ?_
   | (refine aH tyD rfl (.tmp 9) (.tmp 25) rfl (cs:=cs'.toArray) rfl rfl rfl (by simpa using hl2) (fun u hu=>H1.out.2 u (by simpa using hu)) hO2.obj ?_;intro w2 ob2 hg2;have hO3:=hO2.setObj ob2 hg2;have y1:=hO3.swap.obj.all;have y2:=hO3.obj.all)
   | refine ae tyD rfl (.tmp 8) rfl rfl cs hl1 y1 ?_
   | refine ae tyD rfl (.tmp 9) rfl rfl cs' hl2 y2 ?_
   | (go_at_call 55;refine (HC3.out _ hO3.inn).mono ?_;rintro e w3 ⟨rfl,hb3⟩))
  exact hX.out _ _ _ zo rfl ⟨k+1,zo,rfl,rfl,HL.out,(hO3.move hb3).tail.tail⟩
 ·have HC3:=zh (show ∀w',m.inn w'→_ from fun w' h=>by have:=HC.out w' h;rw[az he] at this;exact this);have HL:=zh (show ¬ l=l' from fun h=>he (HD.out.1 (Hrel.out.1 h)).1);clear HC HD Hrel he hX
  go_wp2_with (first
   | refine ae tyD rfl (.tmp 20) rfl rfl cs hl1 (HC1.out _ hin) ?_
   | (refine aH tyD rfl (.tmp 8) (.tmp 21) rfl (cs:=cs.toArray) rfl rfl rfl (by simpa using hl1) (fun u hu=>H1.out.1 u (by simpa using hu)) HO.out.obj ?_;intro w1 ob1 hg1;have hO2:=(HO.out.setObj ob1 hg1).al zcD 35;have xl3:=hO2.swap.obj.lt;have hin2:=hO2.tail.inn)
   | refine ae tyD rfl (.tmp 24) rfl rfl cs' hl2 (HC2.out _ (HO.out.setObj ob1 hg1).inn) ?_
   | (refine aH tyD rfl (.tmp 9) (.tmp 25) rfl (cs:=cs'.toArray) rfl rfl rfl (by simpa using hl2) (fun u hu=>H1.out.2 u (by simpa using hu)) hO2.obj ?_;intro w2 ob2 hg2;have hO3:=hO2.setObj ob2 hg2;have y1:=hO3.swap.obj.all;have y2:=hO3.obj.all)
   | refine ae tyD rfl (.tmp 8) rfl rfl cs hl1 y1 ?_
   | refine ae tyD rfl (.tmp 9) rfl rfl cs' hl2 y2 ?_
   | (go_at_call 55;refine (HC3.out _ hO3.inn).mono ?_;rintro e w3 ⟨rfl,hb3⟩))
  exact hR.out _ _ ⟨aJ (by rw[az HL.out]),(hO3.move hb3).below⟩
theorem NZ {α:Type} (A:Nat→Nat→α→Prop) (Rp:List Value→α→Prop) (v v':Value) (l l':List α) (m:Mem) (w:World) (hm:m.inn w)
 (hA:∀b o x,A b o x→∃cs:List Value,cs.length=20∧(∀j u,cs[j]?=some u→m.cell b (o+j)=some u)∧(∀u∈cs,u.oneCell'=true)∧Rp cs x)
 (hc:∀cs cs' x x' w',m.inn w'→Rp cs x→Rp cs' x'→Calls Tryz.prog 178 #[.agg cs.toArray,.agg cs'.toArray] w' fun e w''=>e=.returned (.bool (tf (x=x')))∧Below w'.heap.size w' w'')
 (hl:Mem.slice A 20 v l) (hl':Mem.slice A 20 v' l') :
 Calls Tryz.prog 177 #[v,v',.func (.func 178) #[] #[]] w fun e w'=>e=.returned (.bool (tf (l=l')))∧Below w.heap.size w w':=by
 obtain⟨a,c,rfl,h1,h2,h3⟩:=hl;obtain⟨a',c',rfl,h1',h2',h3'⟩:=hl';unfold maxLen at h2 h2';have HK:=zh (zi h3 h3');have HA:=zh (zi hA hc);have HO:=zh (Own.start hm);clear h3 h3' hA hc;refine ay fun R hR=>?_;by_cases hlen:l.length=l'.length
 case neg=>
  have hne:((l.length:Int) != (l'.length:Int))=true:=by simp;omega
  have HL:=zh (show ¬ l=l' from fun h=>hlen (by rw[h]));clear hlen
  go_enter Tryz.func177,Tryz.ntmps177
  go_wp2;exact hR.out _ _ ⟨aJ (by rw[az HL.out]),HO.out.below⟩
 have hne:((l.length:Int) != (l'.length:Int))=false:=by simp[hlen]
 have Hlen:=zh hlen;clear hlen
 go_enter Tryz.func177,Tryz.ntmps177
 go_wp2;refine au [0,1,2,15,16,17] (fun n vs wr=>∃k:Nat,k≤l.length∧n=l.length - k∧vs=[.slice a l.length c,.slice a' l'.length c',.func (.func 178) #[] #[],.slice a l.length c,.int .i64 l.length,.int .i64 k]∧(l=l'↔l.drop k=l'.drop k)∧Own w m wr m []) ?_ ?_
 ·exact⟨_,0,Nat.zero_le _,rfl,rfl,Iff.rfl,HO.out⟩
 clear HO;rintro X z n vs wr hX - ⟨k,hk,rfl,rfl,hrel,hO⟩;have Hrel:=zh hrel;clear hrel;simp[litL,lk];by_cases hlt:k<l.length
 case neg=>
  have HL:=zh (show l=l' from Hrel.out.2 (by rw[List.drop_eq_nil_of_le zo,List.drop_eq_nil_of_le (by rw[← Hlen.out];omega)]));have HB:=zh hO.below;clear hO hX;go_wp2;exact hR.out _ _ ⟨aJ (by rw[aI HL.out]),HB.out⟩
 have hlt':k<l'.length:=by rw[← Hlen.out];exact hlt
 obtain⟨b,off,rfl,h4⟩:=HK.out.1 (by intro h;simp[h] at hlt);obtain⟨b',off',rfl,h4'⟩:=HK.out.2 (by intro h;simp[h] at hlt');obtain⟨cs,hl1,hc1,ho1,hr1⟩:=HA.out.1 _ _ _ (h4 k hlt);obtain⟨cs',hl2,hc2,ho2,hr2⟩:=HA.out.1 _ _ _ (h4' k hlt');have HD:=zh (dM l l' k hlt hlt');have HC:=zh (fun w' (h:m.inn w')=>HA.out.2 cs cs' l[k] l'[k] w' h hr1 hr2);have hO1:=hO.al zcF 58;have HC1:=zh (fun (w':World) (h:m.inn w') j u hj=>Mem.aj h (hc1 j u hj));have HC2:=zh (fun (w':World) (h:m.inn w') j u hj=>Mem.aj h (hc2 j u hj));have hx1:=hc1 0 (cs[0]'zo) (List.getElem?_eq_getElem _);have hx2:=hc2 0 (cs'[0]'zo) (List.getElem?_eq_getElem _);have xl1:=Mem.av hO.inn hx1;have xl2:=Mem.av hO.inn hx2;have H1:=zh (zi ho1 ho2);have hin:=hO.inn;have HO:=zh hO1;clear hO hO1 h4 h4' hc1 hc2 ho1 ho2 hr1 hr2 hx1 hx2;generalize l[k]=x at *
 generalize l'[k]=x' at *
 by_cases he:x=x'
 ·have HC3:=zh (show ∀w',m.inn w'→_ from fun w' h=>by have:=HC.out w' h;rw[aI he] at this;exact this);have HL:=zh (Hrel.out.trans (HD.out.trans ⟨fun h=>h.2,fun h=>⟨he,h⟩⟩));clear HC HD Hrel he
  go_wp2_with (first
   | refine ae tyF rfl (.tmp 20) rfl rfl cs hl1 (HC1.out _ hin) ?_
   | (refine aH tyF rfl (.tmp 8) (.tmp 21) rfl (cs:=cs.toArray) rfl rfl rfl (by simpa using hl1) (fun u hu=>H1.out.1 u (by simpa using hu)) HO.out.obj ?_;intro w1 ob1 hg1;have hO2:=(HO.out.setObj ob1 hg1).al zcF 58;have xl3:=hO2.swap.obj.lt;have hin2:=hO2.tail.inn)
   | refine ae tyF rfl (.tmp 24) rfl rfl cs' hl2 (HC2.out _ (HO.out.setObj ob1 hg1).inn) ?_
   | (refine aH tyF rfl (.tmp 9) (.tmp 25) rfl (cs:=cs'.toArray) rfl rfl rfl (by simpa using hl2) (fun u hu=>H1.out.2 u (by simpa using hu)) hO2.obj ?_;intro w2 ob2 hg2;have hO3:=hO2.setObj ob2 hg2;have y1:=hO3.swap.obj.all;have y2:=hO3.obj.all)
   | refine ae tyF rfl (.tmp 8) rfl rfl cs hl1 y1 ?_
   | refine ae tyF rfl (.tmp 9) rfl rfl cs' hl2 y2 ?_
   | (go_at_call 178;refine (HC3.out _ hO3.inn).mono ?_;rintro e w3 ⟨rfl,hb3⟩))
  exact hX.out _ _ _ zo rfl ⟨k+1,zo,rfl,rfl,HL.out,(hO3.move hb3).tail.tail⟩
 ·have HC3:=zh (show ∀w',m.inn w'→_ from fun w' h=>by have:=HC.out w' h;rw[az he] at this;exact this);have HL:=zh (show ¬ l=l' from fun h=>he (HD.out.1 (Hrel.out.1 h)).1);clear HC HD Hrel he hX
  go_wp2_with (first
   | refine ae tyF rfl (.tmp 20) rfl rfl cs hl1 (HC1.out _ hin) ?_
   | (refine aH tyF rfl (.tmp 8) (.tmp 21) rfl (cs:=cs.toArray) rfl rfl rfl (by simpa using hl1) (fun u hu=>H1.out.1 u (by simpa using hu)) HO.out.obj ?_;intro w1 ob1 hg1;have hO2:=(HO.out.setObj ob1 hg1).al zcF 58;have xl3:=hO2.swap.obj.lt;have hin2:=hO2.tail.inn)
   | refine ae tyF rfl (.tmp 24) rfl rfl cs' hl2 (HC2.out _ (HO.out.setObj ob1 hg1).inn) ?_
   | (refine aH tyF rfl (.tmp 9) (.tmp 25) rfl (cs:=cs'.toArray) rfl rfl rfl (by simpa using hl2) (fun u hu=>H1.out.2 u (by simpa using hu)) hO2.obj ?_;intro w2 ob2 hg2;have hO3:=hO2.setObj ob2 hg2;have y1:=hO3.swap.obj.all;have y2:=hO3.obj.all)
   | refine ae tyF rfl (.tmp 8) rfl rfl cs hl1 y1 ?_
   | refine ae tyF rfl (.tmp 9) rfl rfl cs' hl2 y2 ?_
   | (go_at_call 178;refine (HC3.out _ hO3.inn).mono ?_;rintro e w3 ⟨rfl,hb3⟩))
  exact hR.out _ _ ⟨aJ (by rw[az HL.out]),(hO3.move hb3).below⟩
theorem NY {α:Type} (A:Nat→Nat→α→Prop) (Rp:List Value→α→Prop) (v v':Value) (l l':List α) (m:Mem) (w:World) (hm:m.inn w)
 (hA:∀b o x,A b o x→∃cs:List Value,cs.length=19∧(∀j u,cs[j]?=some u→m.cell b (o+j)=some u)∧(∀u∈cs,u.oneCell'=true)∧Rp cs x)
 (hc:∀cs cs' x x' w',m.inn w'→Rp cs x→Rp cs' x'→Calls Tryz.prog 180 #[.agg cs.toArray,.agg cs'.toArray] w' fun e w''=>e=.returned (.bool (tf (x=x')))∧Below w'.heap.size w' w'')
 (hl:Mem.slice A 19 v l) (hl':Mem.slice A 19 v' l') :
 Calls Tryz.prog 179 #[v,v',.func (.func 180) #[] #[]] w fun e w'=>e=.returned (.bool (tf (l=l')))∧Below w.heap.size w w':=by
 obtain⟨a,c,rfl,h1,h2,h3⟩:=hl;obtain⟨a',c',rfl,h1',h2',h3'⟩:=hl';unfold maxLen at h2 h2';have HK:=zh (zi h3 h3');have HA:=zh (zi hA hc);have HO:=zh (Own.start hm);clear h3 h3' hA hc;refine ay fun R hR=>?_;by_cases hlen:l.length=l'.length
 case neg=>
  have hne:((l.length:Int) != (l'.length:Int))=true:=by simp;omega
  have HL:=zh (show ¬ l=l' from fun h=>hlen (by rw[h]));clear hlen
  go_enter Tryz.func179,Tryz.ntmps179
  go_wp2;exact hR.out _ _ ⟨aJ (by rw[az HL.out]),HO.out.below⟩
 have hne:((l.length:Int) != (l'.length:Int))=false:=by simp[hlen]
 have Hlen:=zh hlen;clear hlen
 go_enter Tryz.func179,Tryz.ntmps179
 go_wp2;refine au [0,1,2,15,16,17] (fun n vs wr=>∃k:Nat,k≤l.length∧n=l.length - k∧vs=[.slice a l.length c,.slice a' l'.length c',.func (.func 180) #[] #[],.slice a l.length c,.int .i64 l.length,.int .i64 k]∧(l=l'↔l.drop k=l'.drop k)∧Own w m wr m []) ?_ ?_
 ·exact⟨_,0,Nat.zero_le _,rfl,rfl,Iff.rfl,HO.out⟩
 clear HO;rintro X z n vs wr hX - ⟨k,hk,rfl,rfl,hrel,hO⟩;have Hrel:=zh hrel;clear hrel;simp[litL,lk];by_cases hlt:k<l.length
 case neg=>
  have HL:=zh (show l=l' from Hrel.out.2 (by rw[List.drop_eq_nil_of_le zo,List.drop_eq_nil_of_le (by rw[← Hlen.out];omega)]));have HB:=zh hO.below;clear hO hX;go_wp2;exact hR.out _ _ ⟨aJ (by rw[aI HL.out]),HB.out⟩
 have hlt':k<l'.length:=by rw[← Hlen.out];exact hlt
 obtain⟨b,off,rfl,h4⟩:=HK.out.1 (by intro h;simp[h] at hlt);obtain⟨b',off',rfl,h4'⟩:=HK.out.2 (by intro h;simp[h] at hlt');obtain⟨cs,hl1,hc1,ho1,hr1⟩:=HA.out.1 _ _ _ (h4 k hlt);obtain⟨cs',hl2,hc2,ho2,hr2⟩:=HA.out.1 _ _ _ (h4' k hlt');have HD:=zh (dM l l' k hlt hlt');have HC:=zh (fun w' (h:m.inn w')=>HA.out.2 cs cs' l[k] l'[k] w' h hr1 hr2);have hO1:=hO.al zcK 61;have HC1:=zh (fun (w':World) (h:m.inn w') j u hj=>Mem.aj h (hc1 j u hj));have HC2:=zh (fun (w':World) (h:m.inn w') j u hj=>Mem.aj h (hc2 j u hj));have hx1:=hc1 0 (cs[0]'zo) (List.getElem?_eq_getElem _);have hx2:=hc2 0 (cs'[0]'zo) (List.getElem?_eq_getElem _);have xl1:=Mem.av hO.inn hx1;have xl2:=Mem.av hO.inn hx2;have H1:=zh (zi ho1 ho2);have hin:=hO.inn;have HO:=zh hO1;clear hO hO1 h4 h4' hc1 hc2 ho1 ho2 hr1 hr2 hx1 hx2;generalize l[k]=x at *
 generalize l'[k]=x' at *
 by_cases he:x=x'
 ·have HC3:=zh (show ∀w',m.inn w'→_ from fun w' h=>by have:=HC.out w' h;rw[aI he] at this;exact this);have HL:=zh (Hrel.out.trans (HD.out.trans ⟨fun h=>h.2,fun h=>⟨he,h⟩⟩));clear HC HD Hrel he
  go_wp2_with (first
   | refine ae tyK rfl (.tmp 20) rfl rfl cs hl1 (HC1.out _ hin) ?_
   | (refine aH tyK rfl (.tmp 8) (.tmp 21) rfl (cs:=cs.toArray) rfl rfl rfl (by simpa using hl1) (fun u hu=>H1.out.1 u (by simpa using hu)) HO.out.obj ?_;intro w1 ob1 hg1;have hO2:=(HO.out.setObj ob1 hg1).al zcK 61;have xl3:=hO2.swap.obj.lt;have hin2:=hO2.tail.inn)
   | refine ae tyK rfl (.tmp 24) rfl rfl cs' hl2 (HC2.out _ (HO.out.setObj ob1 hg1).inn) ?_
   | (refine aH tyK rfl (.tmp 9) (.tmp 25) rfl (cs:=cs'.toArray) rfl rfl rfl (by simpa using hl2) (fun u hu=>H1.out.2 u (by simpa using hu)) hO2.obj ?_;intro w2 ob2 hg2;have hO3:=hO2.setObj ob2 hg2;have y1:=hO3.swap.obj.all;have y2:=hO3.obj.all)
   | refine ae tyK rfl (.tmp 8) rfl rfl cs hl1 y1 ?_
   | refine ae tyK rfl (.tmp 9) rfl rfl cs' hl2 y2 ?_
   | (go_at_call 180;refine (HC3.out _ hO3.inn).mono ?_;rintro e w3 ⟨rfl,hb3⟩))
  exact hX.out _ _ _ zo rfl ⟨k+1,zo,rfl,rfl,HL.out,(hO3.move hb3).tail.tail⟩
 ·have HC3:=zh (show ∀w',m.inn w'→_ from fun w' h=>by have:=HC.out w' h;rw[az he] at this;exact this);have HL:=zh (show ¬ l=l' from fun h=>he (HD.out.1 (Hrel.out.1 h)).1);clear HC HD Hrel he hX
  go_wp2_with (first
   | refine ae tyK rfl (.tmp 20) rfl rfl cs hl1 (HC1.out _ hin) ?_
   | (refine aH tyK rfl (.tmp 8) (.tmp 21) rfl (cs:=cs.toArray) rfl rfl rfl (by simpa using hl1) (fun u hu=>H1.out.1 u (by simpa using hu)) HO.out.obj ?_;intro w1 ob1 hg1;have hO2:=(HO.out.setObj ob1 hg1).al zcK 61;have xl3:=hO2.swap.obj.lt;have hin2:=hO2.tail.inn)
   | refine ae tyK rfl (.tmp 24) rfl rfl cs' hl2 (HC2.out _ (HO.out.setObj ob1 hg1).inn) ?_
   | (refine aH tyK rfl (.tmp 9) (.tmp 25) rfl (cs:=cs'.toArray) rfl rfl rfl (by simpa using hl2) (fun u hu=>H1.out.2 u (by simpa using hu)) hO2.obj ?_;intro w2 ob2 hg2;have hO3:=hO2.setObj ob2 hg2;have y1:=hO3.swap.obj.all;have y2:=hO3.obj.all)
   | refine ae tyK rfl (.tmp 8) rfl rfl cs hl1 y1 ?_
   | refine ae tyK rfl (.tmp 9) rfl rfl cs' hl2 y2 ?_
   | (go_at_call 180;refine (HC3.out _ hO3.inn).mono ?_;rintro e w3 ⟨rfl,hb3⟩))
  exact hR.out _ _ ⟨aJ (by rw[az HL.out]),(hO3.move hb3).below⟩
theorem pX {a b:ByteArray} (h:a=b):(a.toList==b.toList)=true:=by rw[h];simp
theorem pY {a b:ByteArray} (h:¬ a=b):(a.toList==b.toList)=false:=by
 rw[ByteArray.toList_eq,ByteArray.toList_eq];exact beq_eq_false_iff_ne.2 fun e=>h (MW e)
def vN (n:Nat):Prop:=∀(v v':Vl) (s s':Sl) (m:Mem) (w:World),m.inn w→VAt m n s v→VAt m n s' v'→vcnt n v≤1048576→vcnt n v'≤1048576→Calls Tryz.prog 86 #[v.val s,v'.val s'] w fun e w'=>e=.returned (.bool (tf (v=v')))∧Below w.heap.size w w'
def dG (n:Nat) (d:Vd):Prop:=vcnt n d.1≤1048576∧vcnt n d.2≤1048576
theorem jE {α:Type} {A:Nat→Nat→α→Prop} {P:α→Prop} {size:Nat} {v:Value} {l:List α} (h:Mem.slice A size v l) (hp:∀x∈l,P x):Mem.slice (fun b o x=>A b o x∧P x) size v l:=by
 obtain⟨a,c,e,h1,h2,h3⟩:=h;refine ⟨a,c,e,h1,h2,fun hne=>?_⟩;obtain⟨b,off,e2,h4⟩:=h3 hne;exact⟨b,off,e2,fun i hi=>⟨h4 i hi,hp _ (List.getElem_mem hi)⟩⟩
theorem jY {n:Nat} (H:vN n) (d d':Vd) (x y x' y':Sl) (m:Mem) (w:World) (hm:m.inn w) (h1:VAt m n x d.1) (h2:VAt m n y d.2) (h1':VAt m n x' d'.1) (h2':VAt m n y' d'.2) (kd:dG n d) (kd':dG n d') :
 Calls Tryz.prog 55 #[bz d x y,bz d' x' y'] w fun e w'=>e=.returned (.bool (tf (d=d')))∧Below w.heap.size w w':=by
 have hO:=((Own.start hm).al (dcs d x y).toArray 35).al (dcs d' x' y').toArray 35;simp only[bB] at hO;have HC:=zh (H d.1 d'.1 x x' m _ hO.inn h1 h1' kd.1 kd'.1);have HF:=zh (fun w' (h:m.inn w')=>H d.2 d'.2 y y' m w' h h2 h2' kd.2 kd'.2);have hN:(nine d.1 x).length=9:=rfl;have hN2:(nine d.2 y).length=9:=rfl;have hN':(nine d'.1 x').length=9:=rfl;have hN2':(nine d'.2 y').length=9:=rfl;have HD:=zh (zi (fun j u=>@lK d x y j u) (fun j u=>@lJ d x y j u));have HD':=zh (zi (fun j u=>@lK d' x' y' j u) (fun j u=>@lJ d' x' y' j u));have HE:=zh (show d=d'↔d.1=d'.1∧d.2=d'.2 from Prod.ext_iff);have HO:=zh hO;unfold Vl.val bz at *
 generalize nine d.1 x=N at *
 generalize nine d.2 y=N2 at *
 generalize dcs d x y=D at *
 generalize nine d'.1 x'=N' at *
 generalize nine d'.2 y'=N2' at *
 generalize dcs d' x' y'=D' at *
 clear hO h1 h2 h1' h2';have q0:=HO.out.swap.obj.sub (o:=0) (cs:=N) fun j u hj=>by simpa using HD.out.1 j u hj
 have q0':=HO.out.obj.sub (o:=0) (cs:=N') fun j u hj=>by simpa using HD'.out.1 j u hj
 refine ay fun R hR=>?_
 go_enter Tryz.func55,Tryz.ntmps55
 by_cases e1:d.1=d'.1
 case neg=>
  have hh:=HC.out;rw[az e1] at hh;have HC:=zh hh;have HX:=zh (show ¬ d=d' from fun h=>e1 (HE.out.1 h).1);clear hh HF e1 HE
  go_wp2_with (first | refine ae tyV rfl (.tmp 5) rfl rfl N hN q0 ?_ | refine ae tyV rfl (.tmp 7) rfl rfl N' hN' q0' ?_ | (go_at_call 86;refine HC.out.mono ?_;rintro e w1 ⟨rfl,hb1⟩))
  exact hR.out _ _ ⟨aJ (by rw[az HX.out]),(HO.out.move hb1).below⟩
 have hh:=HC.out;rw[aI e1] at hh;have HC1:=zh hh;have HX:=zh (aZ (show d.2=d'.2↔d=d' from ⟨fun h=>HE.out.2 ⟨e1,h⟩,fun h=>(HE.out.1 h).2⟩));clear hh HC e1 HE;generalize tf (d.2=d'.2)=ts at *
 go_wp2_with (first
  | refine ae tyV rfl (.tmp 5) rfl rfl N hN q0 ?_
  | refine ae tyV rfl (.tmp 7) rfl rfl N' hN' q0' ?_
  | refine ae tyV rfl (.tmp 11) rfl rfl N2 hN2 q1 ?_
  | refine ae tyV rfl (.tmp 13) rfl rfl N2' hN2' q1' ?_
  | (go_at_call 86;first
   | (refine (HF.out _ hO1.inn).mono ?_;rintro e w2 ⟨rfl,hb2⟩)
   | (refine HC1.out.mono ?_;rintro e w1 ⟨rfl,hb1⟩;have hO1:=HO.out.move hb1;have q1:=hO1.swap.obj.sub (o:=9) (cs:=N2) (fun j u hj=>by simpa using HD.out.2 j u hj);have q1':=hO1.obj.sub (o:=9) (cs:=N2') (fun j u hj=>by simpa using HD'.out.2 j u hj))))
 exact hR.out _ _ ⟨aJ (by rw[HX.out]),(hO1.move hb2).below⟩
theorem Oi {c:St} {f:Fd} (h:f∈c.1):f.2∈bH c:=List.mem_append.2 (.inl (List.mem_map.2 ⟨f,h,rfl⟩))
theorem Oh {c:St} {f:Kl} (h:f∈c.2):f.2∈bH c:=List.mem_append.2 (.inr (List.mem_map.2 ⟨f,h,rfl⟩))
theorem Ki {n:Nat} (H:vN n) (v v':Value) (l l':List Vd) (m:Mem) (w:World) (hm:m.inn w) (h:bP (VAt m n) m v l) (h':bP (VAt m n) m v' l') (kl:∀d∈l,dG n d) (kl':∀d∈l',dG n d) :
 Calls Tryz.prog 134 #[v,v',.func (.func 55) #[] #[]] w fun e w'=>e=.returned (.bool (tf (l=l')))∧Below w.heap.size w w':=
 NW (fun b o d=>VdAt (VAt m n) m b o d∧dG n d) (fun cs d=>(∃x y,cs=dcs d x y∧VAt m n x d.1∧VAt m n y d.2)∧dG n d) v v' l l' m w hm
  (fun b o d hd=>by obtain⟨x,y,h1,h2,h3⟩:=hd.1.cells;exact⟨_,rfl,h1,cK h2 h3,⟨x,y,rfl,h2,h3⟩,hd.2⟩)
  (fun cs cs' d d' w' hm' h1 h2=>by
   obtain⟨⟨x,y,rfl,k1,k2⟩,k3⟩:=h1;obtain⟨⟨x',y',rfl,k1',k2'⟩,k3'⟩:=h2;exact jY H d d' x y x' y' m w' hm' k1 k2 k1' k2' k3 k3') (jE h kl) (jE h' kl')
theorem Jc {n:Nat} (H:vN n) (f f':Fd) (x y x' y':Sl) (m:Mem) (w:World) (hm:m.inn w) (h1:VAt m n x f.2.1) (h2:VAt m n y f.2.2) (h1':VAt m n x' f'.2.1) (h2':VAt m n y' f'.2.2) (kd:dG n f.2) (kd':dG n f'.2) :
 Calls Tryz.prog 178 #[.agg (fcs f x y).toArray,.agg (fcs f' x' y').toArray] w fun e w'=>e=.returned (.bool (tf (f=f')))∧Below w.heap.size w w':=by
 have hO:=((Own.start hm).al (fcs f x y).toArray 58).al (fcs f' x' y').toArray 58;simp only[bB] at hO;have HC:=zh (fun w' (h:m.inn w')=>jY H f.2 f'.2 x y x' y' m w' h h1 h2 h1' h2' kd kd');have hN:(dcs f.2 x y).length=18:=rfl;have hN':(dcs f'.2 x' y').length=18:=rfl;have c0:=hO.swap.obj.cell (i:=0) (v:=.string f.1.1) rfl;have c1:=hO.swap.obj.cell (i:=1) (v:=.int .i64 f.1.2) rfl;have c0':=hO.obj.cell (i:=0) (v:=.string f'.1.1) rfl;have c1':=hO.obj.cell (i:=1) (v:=.int .i64 f'.1.2) rfl;have q0:=hO.swap.obj.sub (o:=2) (cs:=dcs f.2 x y) fun j u hj=>by simpa using yw hj
 have q0':=hO.obj.sub (o:=2) (cs:=dcs f'.2 x' y') fun j u hj=>by simpa using yw hj
 have HE:=zh (show f=f'↔f.1.1=f'.1.1∧f.1.2=f'.1.2∧f.2=f'.2 from ⟨fun h=>by rw[h];exact⟨rfl,rfl,rfl⟩,fun h=>Prod.ext (Prod.ext h.1 h.2.1) h.2.2⟩);have HO:=zh hO;have hin:=hO.inn;unfold bz at *
 generalize dcs f.2 x y=N at *
 generalize dcs f'.2 x' y'=N' at *
 generalize fcs f x y=D at *
 generalize fcs f' x' y'=D' at *
 clear hO h1 h2 h1' h2';refine ay fun R hR=>?_
 go_enter Tryz.func178,Tryz.ntmps178
 by_cases e1:f.1.1=f'.1.1
 case neg=>
  have HX:=zh (show ¬ f=f' from fun h=>e1 (HE.out.1 h).1);have hd:(f.1.1.toList==f'.1.1.toList)=false:=pY e1;clear HE HC e1 q0 q0';go_wp2;exact hR.out _ _ ⟨aJ (by rw[az HX.out]),HO.out.below⟩
 have hd:(f.1.1.toList==f'.1.1.toList)=true:=pX e1;by_cases e2:f.1.2=f'.1.2
 case neg=>
  have HX:=zh (show ¬ f=f' from fun h=>e2 (HE.out.1 h).2.1);have hd2:(f.1.2==f'.1.2)=false:=beq_eq_false_iff_ne.2 e2;clear HE HC e1 e2 q0 q0';go_wp2;exact hR.out _ _ ⟨aJ (by rw[az HX.out]),HO.out.below⟩
 have hd2:(f.1.2==f'.1.2)=true:=beq_iff_eq.2 e2;have HX:=zh (aZ (show f.2=f'.2↔f=f' from ⟨fun h=>HE.out.2 ⟨e1,e2,h⟩,fun h=>(HE.out.1 h).2.2⟩));clear e1 e2 HE;generalize tf (f.2=f'.2)=ts at *
 go_wp2_with (first
  | refine ae tyD rfl (.tmp 18) rfl rfl N hN q0 ?_
  | refine ae tyD rfl (.tmp 20) rfl rfl N' hN' q0' ?_
  | (go_at_call 55;refine (HC.out _ hin).mono ?_;rintro e w2 ⟨rfl,hb2⟩))
 exact hR.out _ _ ⟨aJ (by rw[HX.out]),(HO.out.move hb2).below⟩
theorem Mi {n:Nat} (H:vN n) (v v':Value) (l l':List Fd) (m:Mem) (w:World) (hm:m.inn w) (h:gI (VAt m n) m v l) (h':gI (VAt m n) m v' l') (kl:∀d∈l,dG n d.2) (kl':∀d∈l',dG n d.2) :
 Calls Tryz.prog 177 #[v,v',.func (.func 178) #[] #[]] w fun e w'=>e=.returned (.bool (tf (l=l')))∧Below w.heap.size w w':=
 NZ (fun b o d=>FdAt (VAt m n) m b o d∧dG n d.2) (fun cs d=>(∃x y,cs=fcs d x y∧VAt m n x d.2.1∧VAt m n y d.2.2)∧dG n d.2) v v' l l' m w hm
  (fun b o d hd=>by obtain⟨x,y,h1,h2,h3⟩:=hd.1.cells;exact⟨_,rfl,h1,nZ h2 h3,⟨x,y,rfl,h2,h3⟩,hd.2⟩)
  (fun cs cs' d d' w' hm' h1 h2=>by
   obtain⟨⟨x,y,rfl,k1,k2⟩,k3⟩:=h1;obtain⟨⟨x',y',rfl,k1',k2'⟩,k3'⟩:=h2;exact Jc H d d' x y x' y' m w' hm' k1 k2 k1' k2' k3 k3') (jE h kl) (jE h' kl')
theorem Jb {n:Nat} (H:vN n) (f f':Kl) (c c':Value) (x y x' y':Sl) (m:Mem) (w:World) (hm:m.inn w) (hc:aR m c f.1) (hc':aR m c' f'.1) (h1:VAt m n x f.2.1) (h2:VAt m n y f.2.2) (h1':VAt m n x' f'.2.1) (h2':VAt m n y' f'.2.2) (kd:dG n f.2) (kd':dG n f'.2) :
 Calls Tryz.prog 180 #[.agg (kcs f c x y).toArray,.agg (kcs f' c' x' y').toArray] w fun e w'=>e=.returned (.bool (tf (f=f')))∧Below w.heap.size w w':=by
 have hO:=((Own.start hm).al (kcs f c x y).toArray 61).al (kcs f' c' x' y').toArray 61;simp only[bB] at hO;have HS:=zh (qM c c' f.1 f'.1 m _ hO.inn hc hc');have HC:=zh (fun w' (h:m.inn w')=>jY H f.2 f'.2 x y x' y' m w' h h1 h2 h1' h2' kd kd');have hN:(dcs f.2 x y).length=18:=rfl;have hN':(dcs f'.2 x' y').length=18:=rfl;have c0:=hO.swap.obj.cell (i:=0) (v:=c) rfl;have c0':=hO.obj.cell (i:=0) (v:=c') rfl;have HQ:=zh (fun (w':World) (h:bD w' w.heap.size 61 (kcs f c x y).toArray)=>h.sub (o:=1) (cs:=dcs f.2 x y) fun j u hj=>by simpa using yj hj);have HQ':=zh (fun (w':World) (h:bD w' (w.heap.size+1) 61 (kcs f' c' x' y').toArray)=>h.sub (o:=1) (cs:=dcs f'.2 x' y') fun j u hj=>by simpa using yj hj);have HE:=zh (show f=f'↔f.1=f'.1∧f.2=f'.2 from Prod.ext_iff);have HO:=zh hO;obtain⟨ta,tc,rfl,-⟩:=hc;obtain⟨ta',tc',rfl,-⟩:=hc';unfold bz at *
 generalize dcs f.2 x y=N at *
 generalize dcs f'.2 x' y'=N' at *
 generalize kcs f _ x y=D at *
 generalize kcs f' _ x' y'=D' at *
 clear hO h1 h2 h1' h2';refine ay fun R hR=>?_
 go_enter Tryz.func180,Tryz.ntmps180
 by_cases e1:f.1=f'.1
 case neg=>
  have hh:=HS.out;rw[az e1] at hh;have HS:=zh hh;have HX:=zh (show ¬ f=f' from fun h=>e1 (HE.out.1 h).1);clear HE HC e1 HQ HQ' hh
  go_wp2_with (go_at_call 176;refine HS.out.mono ?_;rintro e w2 ⟨rfl,hb2⟩)
  exact hR.out _ _ ⟨aJ (by rw[az HX.out]),(HO.out.move hb2).below⟩
 have hh:=HS.out;rw[aI e1] at hh;have HS1:=zh hh;have HX:=zh (aZ (show f.2=f'.2↔f=f' from ⟨fun h=>HE.out.2 ⟨e1,h⟩,fun h=>(HE.out.1 h).2⟩));clear e1 HE HS hh;generalize tf (f.2=f'.2)=ts at *
 go_wp2_with (first
  | (go_at_call 176;refine HS1.out.mono ?_;rintro e w2 ⟨rfl,hb2⟩;have hO2:=HO.out.move hb2;have q0:=HQ.out _ hO2.swap.obj;have q0':=HQ'.out _ hO2.obj)
  | refine ae tyD rfl (.tmp 11) rfl rfl N hN q0 ?_
  | refine ae tyD rfl (.tmp 13) rfl rfl N' hN' q0' ?_
  | (go_at_call 55;refine (HC.out _ hO2.inn).mono ?_;rintro e w3 ⟨rfl,hb3⟩))
 exact hR.out _ _ ⟨aJ (by rw[HX.out]),(hO2.move hb3).below⟩
theorem Mh {n:Nat} (H:vN n) (v v':Value) (l l':List Kl) (m:Mem) (w:World) (hm:m.inn w) (h:fV (VAt m n) m v l) (h':fV (VAt m n) m v' l') (kl:∀d∈l,dG n d.2) (kl':∀d∈l',dG n d.2) :
 Calls Tryz.prog 179 #[v,v',.func (.func 180) #[] #[]] w fun e w'=>e=.returned (.bool (tf (l=l')))∧Below w.heap.size w w':=
 NY (fun b o d=>KlAt (VAt m n) m b o d∧dG n d.2) (fun cs d=>(∃c x y,cs=kcs d c x y∧aR m c d.1∧VAt m n x d.2.1∧VAt m n y d.2.2)∧dG n d.2) v v' l l' m w hm
  (fun b o d hd=>by obtain⟨c,x,y,h0,h1,h2,h3⟩:=hd.1.cells;exact⟨_,rfl,h1,nV h0 h2 h3,⟨c,x,y,rfl,h0,h2,h3⟩,hd.2⟩)
  (fun cs cs' d d' w' hm' h1 h2=>by
   obtain⟨⟨c,x,y,rfl,k0,k1,k2⟩,k3⟩:=h1;obtain⟨⟨c',x',y',rfl,k0',k1',k2'⟩,k3'⟩:=h2;exact Jb H d d' c c' x y x' y' m w' hm' k0 k0' k1 k2 k1' k2' k3 k3') (jE h kl) (jE h' kl')
theorem FU {n:Nat} (H:vN n) (c c':St) (u u2 v v2:Value) (m:Mem) (w:World) (hm:m.inn w) (h1:gI (VAt m n) m u c.1) (h2:fV (VAt m n) m u2 c.2) (h1':gI (VAt m n) m v c'.1) (h2':fV (VAt m n) m v2 c'.2) (kd:∀d∈bH c,dG n d) (kd':∀d∈bH c',dG n d) :
 Calls Tryz.prog 135 #[.agg #[u,u2],.agg #[v,v2]] w fun e w'=>e=.returned (.bool (tf (c=c')))∧Below w.heap.size w w':=by
 have hO:=((Own.start hm).al #[u,u2] 45).al #[v,v2] 45;simp only[bB] at hO;have HS:=zh (Mi H u v c.1 c'.1 m _ hO.inn h1 h1' (fun f hf=>kd _ (Oi hf)) (fun f hf=>kd' _ (Oi hf)));have HC:=zh (fun w' (h:m.inn w')=>Mh H u2 v2 c.2 c'.2 m w' h h2 h2' (fun f hf=>kd _ (Oh hf)) (fun f hf=>kd' _ (Oh hf)));have HE:=zh (show c=c'↔c.1=c'.1∧c.2=c'.2 from Prod.ext_iff);have HO:=zh hO;obtain⟨a1,b1,rfl,-⟩:=h1;obtain⟨a2,b2,rfl,-⟩:=h2;obtain⟨a3,b3,rfl,-⟩:=h1';obtain⟨a4,b4,rfl,-⟩:=h2';clear hO;refine ay fun R hR=>?_
 go_enter Tryz.func135,Tryz.ntmps135
 by_cases e1:c.1=c'.1
 case neg=>
  have hh:=HS.out;rw[az e1] at hh;have HS:=zh hh;have HX:=zh (show ¬ c=c' from fun h=>e1 (HE.out.1 h).1);clear HE HC e1 hh
  go_wp2_with (go_at_call 177;refine HS.out.mono ?_;rintro e w2 ⟨rfl,hb2⟩)
  exact hR.out _ _ ⟨aJ (by rw[az HX.out]),(HO.out.move hb2).below⟩
 have hh:=HS.out;rw[aI e1] at hh;have HS1:=zh hh;have HX:=zh (aZ (show c.2=c'.2↔c=c' from ⟨fun h=>HE.out.2 ⟨e1,h⟩,fun h=>(HE.out.1 h).2⟩));clear e1 HE HS hh;generalize tf (c.2=c'.2)=ts at *
 generalize c.1.length=l1 at *
 generalize c.2.length=l2 at *
 generalize c'.1.length=l3 at *
 generalize c'.2.length=l4 at *
 go_wp2_with (first
  | (go_at_call 177;refine HS1.out.mono ?_;rintro e w2 ⟨rfl,hb2⟩;have hO2:=HO.out.move hb2;have y1:=hO2.obj.cell (i:=1) rfl;have y2:=hO2.swap.obj.cell (i:=1) rfl;have y3:=hO2.obj.lt;have y4:=hO2.swap.obj.lt)
  | (go_at_call 179;refine (HC.out _ hO2.inn).mono ?_;rintro e w3 ⟨rfl,hb3⟩))
 exact hR.out _ _ ⟨aJ (by rw[HX.out]),(hO2.move hb3).below⟩
noncomputable def accB (s:ByteArray) (l:Table):Bool:=tf (WF l)&&aF l 0 s.data.toList
theorem yI (v0:Value) (l:Table) (s:ByteArray) (m:Mem) (w:World) (hm:m.inn w) (hl:aR m v0 l) (hs:s.size≤maxLen) :
 Calls Tryz.prog 57 #[.agg #[v0],.string s] w fun e w'=>e=.returned (.bool (accB s l))∧Below w.heap.size w w':=by
 unfold accB;have hl0:=hl;obtain⟨a,c,rfl,h1,h2,h3⟩:=hl;unfold maxLen at h2 hs;have hO:=(Own.start hm).al #[.slice a l.length c] 27;have HW:=zh (mP (.slice a l.length c) l m _ hO.inn hl0);have HO:=zh hO;have HK:=zh h3;have hin:=hO.inn;clear hO h3 hl0;refine ay fun R hR=>?_
 go_enter Tryz.func57,Tryz.ntmps57
 go_wp2
 go_step3
 by_cases h0:l.length=0
 ·have hdec:((l.length:Int)==0)=true:=by simp[h0]
  have HX:=zh (show (tf (WF l)&&aF l 0 s.data.toList)=false by rw[dX l 0 _ zo,Bool.and_false]);clear h0 HW;go_wp2;exact hR.out _ _ ⟨aJ (by rw[HX.out]),HO.out.below⟩
 have hdec:((l.length:Int)==0)=false:=beq_eq_false_iff_ne.2 zo;have hh:=HW.out;by_cases hwf:WF l
 case neg=>
  rw[az hwf] at hh;have HW2:=zh hh;have HX:=zh (show (tf (WF l)&&aF l 0 s.data.toList)=false by rw[az hwf,Bool.false_and]);clear hh HW hwf h0
  go_wp2_with (go_at_call 87;refine HW2.out.mono ?_;rintro e w1 ⟨rfl,hb1⟩)
  exact hR.out _ _ ⟨aJ (by rw[HX.out]),(HO.out.move hb1).below⟩
 rw[aI hwf] at hh;have HW2:=zh hh;have HX:=zh (show (tf (WF l)&&aF l 0 s.data.toList)=aF l 0 s.data.toList by rw[aI hwf,Bool.true_and]);have HWF:=zh hwf;clear hh HW hwf
 go_wp2_with (go_at_call 87;refine HW2.out.mono ?_;rintro e w1 ⟨rfl,hb1⟩)
 have HO1:=zh (HO.out.move hb1);clear HO hb1 HW2 hin
 go_step3
 go_wp2;refine au [1,2,5,20,21] (fun n vs wr=>∃(k x:Nat),k≤s.size∧x<l.length∧n=s.size - k∧vs=[.string s,.pointer (some ⟨w.heap.size,0,none⟩),.int .i64 x,.int .i64 s.size,.int .i64 k]∧aF l 0 s.data.toList=aF l x (s.data.toList.drop k) ∧
  Own w m wr m [.obj w.heap.size 27 #[.slice a l.length c]]) ?_ ?_
 ·exact⟨_,0,0,Nat.zero_le _,zo,rfl,rfl,rfl,HO1.out⟩
 clear HO1;rintro X z n vs wr hX - ⟨k,x,hk,hx,rfl,rfl,hacc,hO⟩;simp[litL,lk];have g1:=hO.obj.cell (i:=0) rfl;have g2:=hO.obj.lt;obtain⟨b,off,rfl,h4⟩:=HK.out (by intro h;simp[h] at h0);obtain⟨s1,ve,s2,se⟩:=h4 x hx;have HA:=zh hacc;clear hacc;by_cases hlt:k<s.size
 case neg=>
  have x1:=Mem.aj hO.inn s1;have xl:=Mem.av hO.inn s1;have HA2:=zh (show aF l 0 s.data.toList=l[x].accept by
   rw[HA.out,List.drop_eq_nil_of_le (by simp;omega),aF,dF l x hx])
  have HB:=zh hO.below;generalize l[x].accept=ac at *
  clear hO HA h4 s1 s2 se hX;go_wp2;exact hR.out _ _ ⟨aJ (by rw[HX.out,HA2.out]),HB.out⟩
 have hstep:aF l 0 s.data.toList=aF l (aS (l[x]).edges (s[k]).toNat) (s.data.toList.drop (k+1)):=by
  rw[HA.out,List.drop_eq_getElem_cons (by simpa using hlt),aF];have e:(s.data.toList[k]'(by simpa using hlt))=s[k]:=rfl;rw[e,bV l x _ hx]
 have HST:=zh hstep;have HWE:=zh (fun e (he:e∈(l[x]).edges)=>eO (HWF.out _ (List.getElem_mem hx)) e he);have x2:=Mem.aj hO.inn s2;have xl:=Mem.av hO.inn s2;obtain⟨ea,ec,rfl,e1,e2,e3⟩:=se;unfold maxLen at e2;have HEK:=zh e3;have HO:=zh hO;have hbt:=(s[k]).toNat_lt;generalize (l[x]).edges=es at *
 clear hO hstep h4 s1 s2 e3 HA;go_wp2;refine au [1,2,5,6,20,21,29,30,31] (fun n vs wr=>∃(j:Nat),j≤es.length∧n=es.length - j∧vs=[.string s,.pointer (some ⟨w.heap.size,0,none⟩),.int .i64 x,.int .i64 k,.int .i64 s.size,.int .i64 k,.slice ea es.length ec,.int .i64 es.length,.int .i64 j]∧aS es (s[k]).toNat=aS (es.drop j) (s[k]).toNat ∧
  Own w m wr m [.obj w.heap.size 27 #[.slice (some ⟨b,off,none⟩) l.length c]]) ?_ ?_
 ·exact⟨_,0,Nat.zero_le _,rfl,rfl,rfl,HO.out⟩
 clear HO x2 xl g1 g2;rintro Y z n vs wr hY - ⟨j,hj,rfl,rfl,hrel,hO⟩;simp[litL,lk];have HRL:=zh hrel;clear hrel;by_cases hlj:j<es.length
 case neg=>
  have HA2:=zh (show aF l 0 s.data.toList=false by
   rw[HST.out,HRL.out,List.drop_eq_nil_of_le zo];exact bJ (by simp[aS]) _)
  have HB:=zh hO.below;clear hO hX hY;go_wp2;exact hR.out _ _ ⟨aJ (by rw[HX.out,HA2.out]),HB.out⟩
 obtain⟨b',off',rfl,h5⟩:=HEK.out (by intro h;simp[h] at hlj);obtain⟨y1,y2,y3,-⟩:=h5 j hlj;have d1:=Mem.aj hO.inn y1;have d2:=Mem.aj hO.inn y2;have d3:=Mem.aj hO.inn y3;have dl:=Mem.av hO.inn y1;have HD:=zh (wZ es (s[k]).toNat j hlj);have hsep:=HWE.out es[j] (List.getElem_mem hlj);have HO:=zh (hO.al #[.int .u8 (es[j]).lo,.int .u8 (es[j]).hi,.int .i64 (es[j]).to] 104);generalize es[j]=e at *
 obtain⟨-,-,hto,htn⟩:=hsep;obtain⟨tn,htn2⟩:=Int.eq_ofNat_of_zero_le hto;clear hO h5 y1 y2 y3;rw[htn2] at d3 HO;generalize hbb:(s[k]).toNat=bb at *
 by_cases hm1:e.lo≤bb
 ·by_cases hm2:bb≤e.hi
  ·have HA2:=zh (show aF l 0 s.data.toList=aF l (tn:Int) (s.data.toList.drop (k+1)) by rw[HST.out,HRL.out,HD.out,if_pos ⟨hm1,hm2⟩,htn2]);clear HRL HD HST hY;go_wp2
   go_quiet (fail)
   go_wp2;exact hX.out _ _ _ zo rfl ⟨k+1,tn,zo,zo,rfl,rfl,HA2.out,(HO.out.drN _).tail⟩
  ·have HA2:=zh (show aS es bb=aS (es.drop (j+1)) bb by rw[HRL.out,HD.out,if_neg zo]);clear HRL HD;go_wp2
   go_quiet (fail)
   go_wp2;exact hY.out _ _ _ zo rfl ⟨j+1,zo,rfl,rfl,HA2.out,(HO.out.drN _).tail⟩
 ·have HA2:=zh (show aS es bb=aS (es.drop (j+1)) bb by rw[HRL.out,HD.out,if_neg zo]);clear HRL HD;go_wp2
  go_quiet (fail)
  go_wp2;exact hY.out _ _ _ zo rfl ⟨j+1,zo,rfl,rfl,HA2.out,(HO.out.drN _).tail⟩
end Cl
