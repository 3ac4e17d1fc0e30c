/- Lemmas for the proofs of chapter 11. -/
import Derived.Test.YtajbfioncdnkcaaGreatDoorProg
import Derived.BigQuiet
import Derived.Deep.Cut
import Derived.Deep.QuietTactic
import Derived.Laws.StructEq
import Derived.Lib.AppendStr
import Derived.Lib.Builder
import Derived.Lib.Hide
import Derived.Lib.ItoaLen
import Derived.Maps.OwnOps
import Derived.Maps.OwnSet
import Derived.OrdersHeld
import Derived.Outline
import Derived.StillTailTactics
import Derived.StringKeys
import Derived.WalkKit
import Derived.WalkLawsBesides
import Derived.WalkSpells
import Derived.Deep.RegionHeld
import Derived.Shelf.SlSortCmp.WholeK
import Derived.Laws.EntriesVeiled
import Derived.Laws.CopyOwn
import Derived.RegionTactic
import Derived.RangeFuncNested
import Derived.RangeFuncBound
import Derived.RangeFuncCalls
import Derived.RangeFuncLeaves
import Derived.OwnWalkIn
import Derived.TacticsInMore
import Derived.LoopNIn
import Derived.LoopIn
import Derived.Shelf.Spec.SlicesGrow
import Derived.Test.YtajbfioncdnkcaaGreatDoorZz
import Derived.Test.YtajbfioncdnkcaaGreatDoorPkM3
import Derived.Test.YtajbfioncdnkcaaGreatDoorPkM1
import Derived.Test.YtajbfioncdnkcaaGreatDoorPkM19
import Derived.Test.YtajbfioncdnkcaaGreatDoorPkM27
import Derived.Test.YtajbfioncdnkcaaGreatDoorPkM2
import Derived.Test.YtajbfioncdnkcaaGreatDoorPkM41
import Derived.Test.YtajbfioncdnkcaaGreatDoorPkM5
import Derived.Test.YtajbfioncdnkcaaGreatDoorPkM42
import Derived.Test.YtajbfioncdnkcaaGreatDoorPkM11
import Derived.Test.YtajbfioncdnkcaaGreatDoorPkM4
import Derived.Test.YtajbfioncdnkcaaGreatDoorPkM32
import Derived.Test.YtajbfioncdnkcaaGreatDoorPkM34
import Derived.Test.YtajbfioncdnkcaaGreatDoorPkM10
import Derived.Test.YtajbfioncdnkcaaGreatDoorPkM21
set_option maxRecDepth 100000
set_option maxHeartbeats 16000000
namespace Cl
open Go Go.RowKit Go.Proofs
theorem jr (u:Int) (w:World) (h1 : -1000000000000002≤u) (h2:u≤1000000000000002) :
 Calls Tryz.prog 211 #[.int .i64 u] w fun e w'=>e=.returned (.int .i64 (gJ u))∧Below w.heap.size w w':=by
 have HF:=zh (fun w'=>qp u w' h1 h2);refine aj fun R hR=>?_
 go_enter Tryz.func211,Tryz.ntmps211
 go_wp2_with fail
 refine (HF.out _).mono ?_;rintro e w1 ⟨rfl,hb⟩;go_wp2;refine hR.out _ _ ⟨dL ?_,hb⟩;unfold gJ;omega
theorem uy (k:Int) (w:World) (h1 : -1000000000000002≤k) (h2:k≤1000000000000002) :
 Calls Tryz.prog 209 #[.int .i64 k] w fun e w'=>e=.returned (.int .i64 (bY k))∧Below w.heap.size w w':=by
 refine aj fun R hR=>?_;have e1:=zh (Tm k);have e2:=zh (Tj k)
 go_enter Tryz.func209,Tryz.ntmps209
 go_wp2
 all_goals refine hR.out _ _ ⟨dL ?_,Below.refl _ _⟩
 all_goals simp only[e1.out,e2.out] at *
 all_goals unfold bY
 all_goals (repeat' split) <;> first | omega | (unfold wrap64;omega)
theorem uz (va:Value) (l:List Spn) (m:Mem) (w:World) (hm:m.inn w) (hl:bW m va l) (hin:∀s∈l,rH s) (hlen:l.length≤1000000) :
 Calls Tryz.prog 210 #[va] w fun e w'=>∃r,e=.returned r∧Below w.heap.size w w'∧bW (m.grow w w') r (ic l):=by
 have HOK:=zh (fun k=>EU (rH.take hin k));have HLN:=zh (fun k=>mW (l.take k));have HIN:=zh hin;clear hin;obtain⟨aa,ac,rfl,a1,a2,a3⟩:=hl;unfold maxLen at a2;have HO:=zh (Own.start hm);refine aj fun R hR=>?_
 go_enter Tryz.func210,Tryz.ntmps210
 go_wp2;refine ay [3,10,11,12] (fun n vs wr=>∃(k:Nat) (vo:Value) (mk1:Mem),k≤l.length∧n=l.length - k∧vs=[vo,.slice aa l.length ac,.int .i64 l.length,.int .i64 k] ∧
  bW mk1 vo (ic (l.take k))∧m.le mk1∧Own w m wr mk1 []) ?_ ?_
 ·exact⟨_,0,.slice none 0 0,m,Nat.zero_le _,rfl,rfl,aR m,Mem.le_refl m,HO.out⟩
 clear HO hm;rintro X z n vs wr hX - ⟨k,vo,mk1,hk,rfl,rfl,hvo,hle,hO⟩;simp[litL,lk];by_cases hlt:k<l.length
 ·obtain⟨b,off,rfl,h4⟩:=a3 (by intro h;simp[h] at hlt);have hgk:=h4 k hlt;have r1:=Mem.av hO.inn (Mem.aF hle hgk.1);have r2:=Mem.av hO.inn (Mem.aF hle hgk.2.1);have rl:=Mem.ak hO.inn (Mem.aF hle hgk.1);have hsp:=HIN.out l[k] (List.getElem_mem hlt);have hst:=ES l k hlt;have hol:=HLN.out k;rw[List.length_take] at hol;have hoe:=HOK.out k;have hoe2:=HOK.out (k+1);generalize hE:ic (l.take (k+1))=OUT2 at *
  generalize ic (l.take k)=OUT at *
  clear h4 hgk;generalize l[k]=q at *
  obtain⟨qa,qb⟩:=q;unfold rH at hsp;simp only at r1 r2 hsp hst;obtain⟨oa,oc,rfl,o1,o2,o3⟩:=hvo;unfold maxLen at o2;have hO1:=hO.al #[.int .i64 qa,.int .i64 qb] 104;by_cases hxy:qb<qa
  ·have hdec:decide (qb<qa)=true:=decide_eq_true hxy;rw[if_pos hxy] at hst;have HV:=zh (zi (show bW mk1 (.slice oa OUT.length oc) OUT2 from by rw[hst];exact⟨oa,oc,rfl,o1,by unfold maxLen;omega,o3⟩) hO1.tail);clear hxy hO hO1 o3;go_wp2;exact hX.out _ _ _ zo rfl ⟨k+1,_,mk1,zo,rfl,rfl,by rw[hE];exact HV.out.1,hle,HV.out.2⟩
  ·have hdec:decide (qb<qa)=false:=decide_eq_false hxy;rw[if_neg hxy] at hst;have hb:=hsp zo;have hil:=xX OUT (qa,qb) false;rw[← hst] at hil;have HO1:=zh ((hO1.eH 104 2).swap);have HST:=zh hst;clear hO hO1 hst;go_wp2;generalize hS:wr.heap.size=S at *
   refine ay [5,6,7,10,11,12,21,22,23] (fun n vs wr=>∃(j:Nat) (sa sb:Int) (d:Bool) (nx:List Spn) (vn:Value),j≤OUT.length∧n=OUT.length - j∧vs=[.pointer (some ⟨S,0,none⟩),vn,.bool d,.slice (some ⟨b,off,none⟩) l.length ac,.int .i64 l.length,.int .i64 k,.slice oa OUT.length oc,.int .i64 OUT.length,.int .i64 j] ∧
    nx ++ insS (sa,sb) d (OUT.drop j)=OUT2 ∧ -1000000000000002≤sa∧sa≤sb∧sb≤1000000000000002∧Own w m wr mk1 [.obj S 104 #[.int .i64 sa,.int .i64 sb],.row vn 104 2 nx.length (aW nx)]) ?_ ?_
   ·exact⟨_,0,qa,qb,false,[],.slice none 0 0,Nat.zero_le _,rfl,rfl,HST.out.symm,hb.1,zo,hb.2,HO1.out⟩
   clear HO1 HST hS hsp hb r1 r2 rl hdec hxy;rintro Y z2 n vs w6 hY - ⟨j,sa,sb,d,nx,vn,hj,rfl,rfl,hg,b1,b2,b3,hO⟩;simp[litL,lk];have hnl:nx.length≤OUT2.length:=by rw[← hg,List.length_append];omega
   obtain⟨voa,voc,rfl⟩:=aO hO.swap.row;by_cases hlj:j<OUT.length
   ·obtain⟨b',off',rfl,h4⟩:=o3 (by intro h;simp[h] at hlj);have hgj:=h4 j hlj;have r1:=Mem.av hO.inn hgj.1;have r2:=Mem.av hO.inn hgj.2.1;have rl:=Mem.ak hO.inn hgj.1;have hx:=hoe OUT[j] (List.getElem_mem hlj);rw[NM OUT j hlj] at hg;have HG:=zh hg;clear h4 hgj hg;generalize OUT[j]=x at *
    obtain⟨xa,xb⟩:=x;simp only at r1 r2 hx;have hO1:=hO.al #[.int .i64 xa,.int .i64 xb] 104;by_cases hA:xb+1<sa
    ·have hdA:decide (xb+1<sa)=true:=decide_eq_true hA;have hO2:=(hO1.al #[.int .i64 xa,.int .i64 xb] 104).fourth
     try simp only[df] at hO2
     have hnews:=hO2.swap.obj.news rfl;have q1:=hO1.swap.obj.cell (i:=0) rfl;have q3:=hO1.swap.obj.lt;have Hxy:=zh hA;clear hA hO hO1
     go_wp2_with (at_builtin;refine aC fZ rfl (.tmp 33) (.tmp 35) rfl (.slice voa nx.length voc) nx.length _ rfl hO2.row ⟨_,0,none⟩ 1 1 [.int .i64 xa,.int .i64 xb] rfl rfl hnews (by simp[Value.oneCell']) (by unfold maxLen;omega) zo ?_)
     intro va vc w7 hown7 hgrow7 hrow7;have HO3:=zh (hO2.app hown7 hgrow7 hrow7 zS).fourth.nG.nG;clear hO2 hown7 hgrow7 hrow7 hnews q1 q3;go_wp2;refine hY.out _ _ _ zo rfl ⟨j+1,sa,sb,d,nx ++ [(xa,xb)],_,zo,rfl,rfl,?_,b1,b2,b3,?_⟩
     ·rw[← HG.out,if_pos (show xb+1<sa from Hxy.out),List.append_assoc];rfl
     ·rw[bg,List.length_append];exact HO3.out
    ·have hdA:decide (xb+1<sa)=false:=decide_eq_false hA;by_cases hB:sb+1<xa
     ·have hdB:decide (sb+1<xa)=true:=decide_eq_true hB;have Hxy:=zh (zi hA hB);clear hA hB
      cases d with
      | true=>
       have hO2:=(hO1.al #[.int .i64 xa,.int .i64 xb] 104).fourth
       try simp only[df] at hO2
       have hnews:=hO2.swap.obj.news rfl;have q1:=hO1.swap.obj.cell (i:=0) rfl;have q2:=hO1.swap.obj.cell (i:=1) rfl;have q3:=hO1.swap.obj.lt;clear hO hO1
       go_wp2_with (at_builtin;refine aC fZ rfl (.tmp 49) (.tmp 51) rfl (.slice voa nx.length voc) nx.length _ rfl hO2.row ⟨_,0,none⟩ 1 1 [.int .i64 xa,.int .i64 xb] rfl rfl hnews (by simp[Value.oneCell']) (by unfold maxLen;omega) zo ?_)
       intro va vc w7 hown7 hgrow7 hrow7;have HO3:=zh (hO2.app hown7 hgrow7 hrow7 zS).fourth.nG.nG;clear hO2 hown7 hgrow7 hrow7 hnews q1 q2 q3;go_wp2;refine hY.out _ _ _ zo rfl ⟨j+1,sa,sb,true,nx ++ [(xa,xb)],_,zo,rfl,rfl,?_,b1,b2,b3,?_⟩
       ·rw[← HG.out,if_neg (show ¬ xb+1<sa by have:=Hxy.out.1;omega),if_pos (show sb+1<xa from Hxy.out.2),List.append_assoc];rfl
       ·rw[bg,List.length_append]
        exact HO3.out
      | false=>
       have hO2:=(hO1.al #[.int .i64 sa,.int .i64 sb] 104).fourth
       try simp only[df] at hO2
       have hnews:=hO2.swap.obj.news rfl;have q1:=hO1.swap.obj.cell (i:=0) rfl;have q2:=hO1.swap.obj.cell (i:=1) rfl;have q3:=hO1.swap.obj.lt;clear hO hO1
       go_wp2_with (at_builtin;refine aC fZ rfl (.tmp 45) (.tmp 47) rfl (.slice voa nx.length voc) nx.length _ rfl hO2.row ⟨_,0,none⟩ 1 1 [.int .i64 sa,.int .i64 sb] rfl rfl hnews (by simp[Value.oneCell']) (by unfold maxLen;omega) zo ?_)
       intro va vc w7 hown7 hgrow7 hrow7;have hO3:=(hO2.app hown7 hgrow7 hrow7 zS).drop2;clear hO2 hown7 hgrow7 hrow7 hnews q1 q2 q3;have q4:=hO3.swap.obj.cell (i:=0) rfl;have q5:=hO3.swap.obj.cell (i:=1) rfl;have q6:=hO3.swap.obj.lt;have hO4:=(hO3.al #[.int .i64 xa,.int .i64 xb] 104).swap
       try simp only[df] at hO4
       have hnews:=hO4.swap.obj.news rfl;clear hO3
       go_wp2_with (at_builtin;refine aC fZ rfl (.tmp 49) (.tmp 51) rfl (.slice va (nx.length+1) vc) (nx.length+1) _ rfl hO4.row ⟨_,0,none⟩ 1 1 [.int .i64 xa,.int .i64 xb] rfl rfl hnews (by simp[Value.oneCell']) (by unfold maxLen;omega) zo ?_)
       intro va2 vc2 w8 hown8 hgrow8 hrow8;have HO3:=zh (hO4.app hown8 hgrow8 hrow8 zS).fourth.nG.nG;clear hO4 hown8 hgrow8 hrow8 hnews q4 q5 q6;go_wp2;refine hY.out _ _ _ zo rfl ⟨j+1,sa,sb,true,nx ++ [(sa,sb)] ++ [(xa,xb)],_,zo,rfl,rfl,?_,b1,b2,b3,?_⟩
       ·rw[← HG.out,if_neg (show ¬ xb+1<sa by have:=Hxy.out.1;omega),if_pos (show sb+1<xa from Hxy.out.2)];simp
       ·rw[bg,bg,List.length_append,List.length_append,List.append_assoc];exact HO3.out
     ·have hdB:decide (sb+1<xa)=false:=decide_eq_false hB;have q1:=hO1.swap.obj.cell (i:=0) rfl;have q2:=hO1.swap.obj.cell (i:=1) rfl;have q3:=hO1.swap.obj.lt;have q4:=hO1.swap.obj.frozen 0;have q5:=hO1.swap.obj.frozen 1;have hne:S≠w6.heap.size:=by have:=hO.obj.lt;omega
      have hne2:w6.heap.size≠S:=fun e=>hne e.symm;have HO1:=zh hO1.tail;have HN:=zh (zi hA hB);clear hO hO1;go_wp2
      all_goals refine hY.out _ _ _ zo rfl ⟨j+1,_,_,d,nx,_,zo,rfl,rfl,?_,?_,?_,?_,(HO1.out.set 0 (.int .i64 _)).set 1 (.int .i64 _)⟩
      all_goals try omega
      all_goals refine Eq.trans (congrArg (fun p=>nx ++ insS p d (OUT.drop (j+1))) (Prod.ext ?_ ?_)) ((congrArg (fun p=>nx ++ p) ((if_neg (show ¬ xb+1<sa by have:=HN.out.1;omega)).trans (if_neg (show ¬ sb+1<xa by have:=HN.out.2;omega)))).symm.trans HG.out)
      all_goals (simp only <;> omega)
   ·obtain rfl:j=OUT.length:=zo;rw[PV] at hg
    cases d with
    | true=>
     simp only[if_true,List.append_nil] at hg;subst hg;have hst:=dJ (m:=mk1) (l:=nx) hO.swap.row (fun s hs=>by have:=hoe2 s hs;unfold spOk;omega);have hle0:=Mem.eD (w:=w6) hO.swap.free;have HV:=zh (zi hst (zi (Mem.le_trans hle hle0) hO.swap.bD.tail));clear hO hst hle0;go_wp2
     exact hX.out _ _ _ zo rfl ⟨k+1,_,_,zo,rfl,rfl,by rw[hE];exact HV.out.1,HV.out.2.1,HV.out.2.2⟩
    | false=>
     simp only[Bool.false_eq_true,if_false] at hg;have hO2:=(hO.al #[.int .i64 sa,.int .i64 sb] 104).third
     try simp only[df] at hO2
     have hnews:=hO2.swap.obj.news rfl;have q1:=hO.obj.cell (i:=0) rfl;have q2:=hO.obj.cell (i:=1) rfl;have q3:=hO.obj.lt;clear hO
     go_wp2_with (at_builtin;refine aC fZ rfl (.tmp 68) (.tmp 70) rfl (.slice voa nx.length voc) nx.length _ rfl hO2.row ⟨_,0,none⟩ 1 1 [.int .i64 sa,.int .i64 sb] rfl rfl hnews (by simp[Value.oneCell']) (by unfold maxLen;omega) zo ?_)
     intro va vc w7 hown7 hgrow7 hrow7;have hO3:=(hO2.app hown7 hgrow7 hrow7 zS).drop2.drop2;have e:nx.length+1=OUT2.length:=by rw[← hg,List.length_append];rfl
     have hO4:Own w m w7 mk1 [.row (.slice va (nx.length+1) vc) 104 2 OUT2.length (aW OUT2)]:=by
      rw[← hg,bg,List.length_append];exact hO3
     rw[e] at hO4 ⊢;have hst:=dJ (m:=mk1) (l:=OUT2) hO4.row (fun s hs=>by have:=hoe2 s hs;unfold spOk;omega);have hle0:=Mem.eD (w:=w7) hO4.free;have HV:=zh (zi hst (zi (Mem.le_trans hle hle0) hO4.bD));clear hO3 hO2 hown7 hgrow7 hrow7 hnews hO4 hst hle0 q1 q2 q3;go_wp2;exact hX.out _ _ _ zo rfl ⟨k+1,_,_,zo,rfl,rfl,by rw[hE];exact HV.out.1,HV.out.2.1,HV.out.2.2⟩
 ·obtain rfl:k=l.length:=zo;rw[List.take_length] at hvo;have Hfin:=zh (zi hO.below (aY hO.done hvo));clear hO hvo;go_wp2;exact hR.out _ _ ⟨_,rfl,Hfin.out.1,Hfin.out.2⟩
def Ad (l:List Spn) (k:Nat):List Spn:=(l.take k).map nW
theorem OO (l:List Spn) (k:Nat) (h:k≤l.length):(Ad l k).length=k:=by simp[Ad];omega
theorem LH (l:List Spn) (k:Nat) (h:k<l.length):Ad l (k+1)=Ad l k ++ [nW l[k]]:=by
 unfold Ad;rw[List.take_succ_eq_append_getElem h,List.map_append];rfl
theorem OP (l:List Spn):Ad l l.length=l.map nW:=by unfold Ad;rw[List.take_length]
theorem LJ (l:List Spn):∀s∈l.map nW,rH s:=fun s hs=>by
 obtain⟨t,-,rfl⟩:=List.mem_map.1 hs;unfold rH nW ig;dsimp only;omega
theorem Qj {l:List Spn} (h:∀s∈l,spOk s):∀s∈l.map nW,spOk s:=fun s hs=>by
 obtain⟨t,ht,rfl⟩:=List.mem_map.1 hs;have:=h t ht;unfold spOk nW ig at *;dsimp only;omega
theorem yN (vi vf:Value) (I F:List Spn) (m:Mem) (w:World) (hm:m.inn w) (hN:bF m vi vf I F) (hI:I.length≤100000) :
 Calls Tryz.prog 165 #[.agg #[vi,vf]] w fun e w'=>∃r,e=.returned r∧Below w.heap.size w w'∧bW (m.grow w w') r (nN I):=by
 have hO:=((Own.start hm).al #[vi,vf] 24).eH 104 2;obtain⟨hi,hf⟩:=hN;obtain⟨af,cf,rfl⟩:=bZ hf;have HOK:=zh (Qj (jZ hi));obtain⟨ai,ci,rfl,i1,i2,i3⟩:=hi;unfold maxLen at i2;have HO:=zh hO;clear hO hf;refine aj fun R hR=>?_
 go_enter Tryz.func165,Tryz.ntmps165
 go_wp2;refine ay [3,7,8,9] (fun n vs wr=>∃(k:Nat) (vo:Value),k≤I.length∧n=I.length - k∧vs=[vo,.slice ai I.length ci,.int .i64 I.length,.int .i64 k] ∧
  Own w m wr m [.row vo 104 2 (Ad I k).length (aW (Ad I k))]) ?_ ?_
 ·exact⟨_,0,.slice none 0 0,Nat.zero_le _,rfl,rfl,HO.out.drop2⟩
 clear HO;rintro X z n vs wr hX - ⟨k,vo,hk,rfl,rfl,hO⟩;simp[litL,lk];obtain⟨voa,voc,rfl⟩:=aO hO.row;have hkl:(Ad I k).length≤100000:=by rw[OO I k hk];omega
 by_cases hlt:k<I.length
 ·obtain⟨b,off,rfl,h4⟩:=i3 (by intro h;simp[h] at hlt);have hg:=h4 k hlt;have r1:=Mem.av hO.inn hg.1;have r2:=Mem.av hO.inn hg.2.1;have rl:=Mem.ak hO.inn hg.1;have hso:spOk I[k]:=hg.2.2;have Hstep:=zh (LH I k hlt);generalize Ad I k=S0 at *
  clear h4 hg;generalize I[k]=q at *
  obtain⟨qa,qb⟩:=q;unfold spOk at hso;simp only at r1 r2 hso;have hO1:=hO.al #[.int .i64 qa,.int .i64 qb] 104;have q1:=hO1.obj.cell (i:=0) rfl;have q2:=hO1.obj.cell (i:=1) rfl;have q3:=hO1.obj.lt;have HO1:=zh hO1;clear hO hO1;have hO2:=(HO1.out.al #[.int .i64 (max qa (-100000000000)),.int .i64 (min qb 100000000000)] 104).third;simp only[df] at hO2;have hnews:=hO2.swap.obj.news rfl
  go_wp2_with (at_builtin;refine aC fZ rfl (.tmp 13) (.tmp 21) rfl (.slice voa S0.length voc) S0.length _ rfl hO2.row ⟨_,0,none⟩ 1 1 [.int .i64 (max qa (-100000000000)),.int .i64 (min qb 100000000000)] rfl rfl hnews (by simp[Value.oneCell']) (by unfold maxLen;omega) zo ?_)
  intro va vc w7 hown7 hgrow7 hrow7;have HO3:=zh (hO2.app hown7 hgrow7 hrow7 zS).drop2.drop2;clear hown7 hgrow7 hrow7 HO1 q1 q2 q3 hO2 hnews;go_wp2;refine hX.out _ _ _ zo rfl ⟨k+1,_,zo,rfl,rfl,?_⟩;rw[Hstep.out,bg,List.length_append];exact HO3.out
 ·obtain rfl:k=I.length:=zo;have HE:=zh (zi (LJ I) (ET I));rw[OP] at hO hkl ⊢;generalize I.map nW=L at *
  have hst:=dJ (m:=m) hO.row HOK.out;have hO1:=hO.bD;have HN:=zh (uz _ L _ wr hO1.inn hst HE.out.1 zo);have HO1:=zh hO1;clear hst hO1 hO HOK
  go_wp2_with fail
  refine HN.out.mono ?_;rintro e w2 ⟨r,rfl,hb,hr⟩;rw[HE.out.2] at hr;have hO2:=HO1.out.call hb;have Hfin:=zh (zi hO2.below (aY hO2.done hr));obtain⟨ra,rc,rfl⟩:=bZ hr;clear HN HO1 HE hb hr hO2;go_wp2;exact hR.out _ _ ⟨_,rfl,Hfin.out.1,Hfin.out.2⟩
def yJ (l:List Spn) (k:Nat):List Spn:=(kX (l.take k)).map nR
theorem M0 (l:List Spn) (k:Nat) (h:k≤l.length):(yJ l k).length≤k:=by unfold yJ;rw[List.length_map];exact D9 h
theorem Kk (l:List Spn) (k:Nat) (h:k<l.length):yJ l (k+1)=yJ l k ++ if (jD l[k]).1≤(jD l[k]).2 then [nR (jD l[k])] else []:=by
 unfold yJ;rw[BS l k h,List.map_append]
 split <;> rfl
theorem M3 (l:List Spn):yJ l l.length=(kX l).map nR:=by unfold yJ;rw[List.take_length]
theorem Kl (l:List Spn):∀s∈(kX l).map nR,rH s:=fun s hs=>by
 have:=yK s hs;simp only[lL,qz] at this;unfold rH;omega
theorem PE (l:List Spn):∀s∈(kX l).map nR,spOk s:=fun s hs=>by
 have h1:=yK s hs;have h2:=MZ s hs;simp only[lL,qz] at h1;unfold spOk;omega
theorem wY (vi vf:Value) (I F:List Spn) (m:Mem) (w:World) (hm:m.inn w) (hN:bF m vi vf I F) (hF:F.length≤100000) :
 Calls Tryz.prog 166 #[.agg #[vi,vf]] w fun e w'=>∃r,e=.returned r∧Below w.heap.size w w'∧bW (m.grow w w') r (kY F):=by
 have hO:=((Own.start hm).al #[vi,vf] 24).eH 104 2;obtain⟨hi,hf⟩:=hN;obtain⟨ai,ci,rfl⟩:=bZ hi;obtain⟨af,cf,rfl,i1,i2,i3⟩:=hf;unfold maxLen at i2;have HO:=zh hO;clear hO hi;refine aj fun R hR=>?_
 go_enter Tryz.func166,Tryz.ntmps166
 go_wp2;refine ay [3,9,10,11] (fun n vs wr=>∃(k:Nat) (vo:Value),k≤F.length∧n=F.length - k∧vs=[vo,.slice af F.length cf,.int .i64 F.length,.int .i64 k] ∧
  Own w m wr m [.row vo 104 2 (yJ F k).length (aW (yJ F k))]) ?_ ?_
 ·exact⟨_,0,.slice none 0 0,Nat.zero_le _,rfl,rfl,HO.out.drop2⟩
 clear HO;rintro X z n vs wr hX - ⟨k,vo,hk,rfl,rfl,hO⟩;simp[litL,lk];obtain⟨voa,voc,rfl⟩:=aO hO.row;have hkl:=M0 F k hk;by_cases hlt:k<F.length
 ·obtain⟨b,off,rfl,h4⟩:=i3 (by intro h;simp[h] at hlt);have hg:=h4 k hlt;have r1:=Mem.av hO.inn hg.1;have r2:=Mem.av hO.inn hg.2.1;have rl:=Mem.ak hO.inn hg.1;have hso:spOk F[k]:=hg.2.2;have hstep:=Kk F k hlt;generalize hR1:yJ F (k+1)=S1 at *
  generalize yJ F k=S0 at *
  clear h4 hg;generalize F[k]=q at *
  obtain⟨qa,qb⟩:=q;unfold spOk at hso;simp only at r1 r2 hso;have HO2:=zh (hO.al #[.int .i64 qa,.int .i64 qb] 104);have HR1:=zh (zi hR1 hstep);clear hO hR1 hstep
  go_upto_region 5 with (fail)
  generalize hW2:wr.alloc (.cells #[.int .i64 qa,.int .i64 qb] 104)=w5 at *
  generalize wr.heap.size=S at *
  refine aA [3,6,7,9,10,11] (fun vs w'=>vs=[.slice voa S0.length voc,.int .i64 (max qa (-1000000000000000)),.int .i64 (min qb 1000000000000000),.slice (some ⟨b,off,none⟩) F.length cf,.int .i64 F.length,.int .i64 k] ∧
   Own w m w' m [.row (.slice voa S0.length voc) 104 2 S0.length (aW S0)]) ?_ ?_
  ·intro Y hY;have q1:=HO2.out.obj.cell (i:=0) rfl;have q2:=HO2.out.obj.cell (i:=1) rfl;have q5:=HO2.out.obj.lt
   go_quiet (fail)
   go_wp2;exact hY.out _ _ rfl ⟨rfl,HO2.out.tail.drN _⟩
  rintro z4 vs w6 - ⟨rfl,hO⟩;simp[litL,lk];have hcl:jD (qa,qb)=trimF (max qa (-1000000000000000),min qb 1000000000000000):=rfl;have hsk:=fun h=>KX (t:=(qa,qb)) h;have hx0:max qa (-1000000000000000)≤9223372036854775807 ∧ -1000000000000000≤max qa (-1000000000000000):=zo;have hy0:min qb 1000000000000000≤1000000000000000 ∧ -9223372036854775808≤min qb 1000000000000000:=zo;unfold maxU at hsk;simp only at hsk;generalize max qa (-1000000000000000)=x at *
  generalize min qb 1000000000000000=y at *
  clear HO2 hW2 r1 r2 hso;by_cases hxy:x≤y
  ·have hdec:decide (y<x)=false:=decide_eq_false zo;have HW1:=zh (fun w'=>wX x w');have HW2:=zh (fun w'=>wX y w');have HO:=zh hO;have HC:=zh hcl;clear hcl hsk hO
   go_wp2_with fail
   refine (HW1.out _).mono ?_;rintro e w7 ⟨rfl,hb7⟩;have HO7:=zh (HO.out.move hb7);clear HW1 HO hb7;by_cases ex:x % 10000=0 <;> by_cases ey:y % 10000=0
   ·have hc2:jD (qa,qb)=((x+1),(y - 1)):=by rw[HC.out];simp[trimF,ex,ey]
    have HC2:=zh hc2;have HE:=zh (zi ex ey);have hf1:((x+1):Int) % 10000≠0:=zo;have hf2:((y - 1):Int) % 10000≠0:=zo;have HFR:=zh (zi hf1 hf2);clear hc2 HC hf1 hf2;rw[decide_eq_true ex]
    go_wp2_with fail
    refine (HW2.out _).mono ?_;rintro e w8 ⟨rfl,hb8⟩;rw[decide_eq_true ey];have hO8:=HO7.out.move hb8;have HO8:=zh hO8;clear HW2 HO7 hb8 ex ey;by_cases hle:(x+1)≤(y - 1)
    ·have hdle:decide ((x+1)≤(y - 1))=true:=decide_eq_true hle;have HK1:=zh (fun w'=>jr ((x+1)) w' zo zo);have HK2:=zh (fun w'=>jr ((y - 1)) w' zo zo);have Hle:=zh hle;clear hle hO8
     go_wp2_with fail
     refine (HK1.out _).mono ?_;rintro e w9 ⟨rfl,hb9⟩;have HO9:=zh (HO8.out.move hb9);clear HK1 HO8 hb9
     go_wp2_with fail
     refine (HK2.out _).mono ?_;rintro e w10 ⟨rfl,hb10⟩;have hO2:=((HO9.out.move hb10).al #[.int .i64 (gJ ((x+1))),.int .i64 (gJ ((y - 1)))] 104).swap;have hnews:=hO2.swap.obj.news rfl;clear HK2 HO9 hb10
     go_wp2_with (at_builtin;refine aC fZ rfl (.tmp 35) (.tmp 41) rfl (.slice voa S0.length voc) S0.length _ rfl hO2.row ⟨_,0,none⟩ 1 1 [.int .i64 (gJ ((x+1))),.int .i64 (gJ ((y - 1)))] rfl rfl hnews (by simp[Value.oneCell']) (by unfold maxLen;omega) zo ?_)
     intro va vc w11 hown7 hgrow7 hrow7;have HO3:=zh (hO2.app hown7 hgrow7 hrow7 zS).drop2;clear hown7 hgrow7 hrow7 hO2 hnews;go_wp2;refine hX.out _ _ _ zo rfl ⟨k+1,_,zo,rfl,rfl,?_⟩;rw[HR1.out.1,HR1.out.2,HC2.out,if_pos (show (x+1)≤(y - 1) from Hle.out)];have e:S0 ++ [nR ((x+1),(y - 1))]=S0 ++ [(gJ ((x+1)),gJ ((y - 1)))]:=rfl;rw[e,bg,List.length_append];exact HO3.out
    ·first
      | (exfalso;omega)
      | (have hdle:decide ((x+1)≤(y - 1))=false:=decide_eq_false hle
         have Hle:=zh hle;clear hle hO8;go_wp2;refine hX.out _ _ _ zo rfl ⟨k+1,_,zo,rfl,rfl,?_⟩;rw[HR1.out.1,HR1.out.2,HC2.out,if_neg (show ¬ (x+1)≤(y - 1) by have:=Hle.out;omega),List.append_nil];exact HO8.out)
   ·have hc2:jD (qa,qb)=((x+1),(y)):=by rw[HC.out];simp[trimF,ex,ey]
    have HC2:=zh hc2;have HE:=zh (zi ex ey);have hf1:((x+1):Int) % 10000≠0:=zo;have hf2:((y):Int) % 10000≠0:=zo;have HFR:=zh (zi hf1 hf2);clear hc2 HC hf1 hf2;rw[decide_eq_true ex]
    go_wp2_with fail
    refine (HW2.out _).mono ?_;rintro e w8 ⟨rfl,hb8⟩;rw[decide_eq_false ey];have hO8:=HO7.out.move hb8;have HO8:=zh hO8;clear HW2 HO7 hb8 ex ey;by_cases hle:(x+1)≤(y)
    ·have hdle:decide ((x+1)≤(y))=true:=decide_eq_true hle;have HK1:=zh (fun w'=>jr ((x+1)) w' zo zo);have HK2:=zh (fun w'=>jr ((y)) w' zo zo);have Hle:=zh hle;clear hle hO8
     go_wp2_with fail
     refine (HK1.out _).mono ?_;rintro e w9 ⟨rfl,hb9⟩;have HO9:=zh (HO8.out.move hb9);clear HK1 HO8 hb9
     go_wp2_with fail
     refine (HK2.out _).mono ?_;rintro e w10 ⟨rfl,hb10⟩;have hO2:=((HO9.out.move hb10).al #[.int .i64 (gJ ((x+1))),.int .i64 (gJ ((y)))] 104).swap;have hnews:=hO2.swap.obj.news rfl;clear HK2 HO9 hb10
     go_wp2_with (at_builtin;refine aC fZ rfl (.tmp 35) (.tmp 41) rfl (.slice voa S0.length voc) S0.length _ rfl hO2.row ⟨_,0,none⟩ 1 1 [.int .i64 (gJ ((x+1))),.int .i64 (gJ ((y)))] rfl rfl hnews (by simp[Value.oneCell']) (by unfold maxLen;omega) zo ?_)
     intro va vc w11 hown7 hgrow7 hrow7;have HO3:=zh (hO2.app hown7 hgrow7 hrow7 zS).drop2;clear hown7 hgrow7 hrow7 hO2 hnews;go_wp2;refine hX.out _ _ _ zo rfl ⟨k+1,_,zo,rfl,rfl,?_⟩;rw[HR1.out.1,HR1.out.2,HC2.out,if_pos (show (x+1)≤(y) from Hle.out)];have e:S0 ++ [nR ((x+1),(y))]=S0 ++ [(gJ ((x+1)),gJ ((y)))]:=rfl;rw[e,bg,List.length_append];exact HO3.out
    ·first
      | (exfalso;omega)
      | (have hdle:decide ((x+1)≤(y))=false:=decide_eq_false hle
         have Hle:=zh hle;clear hle hO8;go_wp2;refine hX.out _ _ _ zo rfl ⟨k+1,_,zo,rfl,rfl,?_⟩;rw[HR1.out.1,HR1.out.2,HC2.out,if_neg (show ¬ (x+1)≤(y) by have:=Hle.out;omega),List.append_nil];exact HO8.out)
   ·have hc2:jD (qa,qb)=((x),(y - 1)):=by rw[HC.out];simp[trimF,ex,ey]
    have HC2:=zh hc2;have HE:=zh (zi ex ey);have hf1:((x):Int) % 10000≠0:=zo;have hf2:((y - 1):Int) % 10000≠0:=zo;have HFR:=zh (zi hf1 hf2);clear hc2 HC hf1 hf2;rw[decide_eq_false ex]
    go_wp2_with fail
    refine (HW2.out _).mono ?_;rintro e w8 ⟨rfl,hb8⟩;rw[decide_eq_true ey];have hO8:=HO7.out.move hb8;have HO8:=zh hO8;clear HW2 HO7 hb8 ex ey;by_cases hle:(x)≤(y - 1)
    ·have hdle:decide ((x)≤(y - 1))=true:=decide_eq_true hle;have HK1:=zh (fun w'=>jr ((x)) w' zo zo);have HK2:=zh (fun w'=>jr ((y - 1)) w' zo zo);have Hle:=zh hle;clear hle hO8
     go_wp2_with fail
     refine (HK1.out _).mono ?_;rintro e w9 ⟨rfl,hb9⟩;have HO9:=zh (HO8.out.move hb9);clear HK1 HO8 hb9
     go_wp2_with fail
     refine (HK2.out _).mono ?_;rintro e w10 ⟨rfl,hb10⟩;have hO2:=((HO9.out.move hb10).al #[.int .i64 (gJ ((x))),.int .i64 (gJ ((y - 1)))] 104).swap;have hnews:=hO2.swap.obj.news rfl;clear HK2 HO9 hb10
     go_wp2_with (at_builtin;refine aC fZ rfl (.tmp 35) (.tmp 41) rfl (.slice voa S0.length voc) S0.length _ rfl hO2.row ⟨_,0,none⟩ 1 1 [.int .i64 (gJ ((x))),.int .i64 (gJ ((y - 1)))] rfl rfl hnews (by simp[Value.oneCell']) (by unfold maxLen;omega) zo ?_)
     intro va vc w11 hown7 hgrow7 hrow7;have HO3:=zh (hO2.app hown7 hgrow7 hrow7 zS).drop2;clear hown7 hgrow7 hrow7 hO2 hnews;go_wp2;refine hX.out _ _ _ zo rfl ⟨k+1,_,zo,rfl,rfl,?_⟩;rw[HR1.out.1,HR1.out.2,HC2.out,if_pos (show (x)≤(y - 1) from Hle.out)];have e:S0 ++ [nR ((x),(y - 1))]=S0 ++ [(gJ ((x)),gJ ((y - 1)))]:=rfl;rw[e,bg,List.length_append];exact HO3.out
    ·first
      | (exfalso;omega)
      | (have hdle:decide ((x)≤(y - 1))=false:=decide_eq_false hle
         have Hle:=zh hle;clear hle hO8;go_wp2;refine hX.out _ _ _ zo rfl ⟨k+1,_,zo,rfl,rfl,?_⟩;rw[HR1.out.1,HR1.out.2,HC2.out,if_neg (show ¬ (x)≤(y - 1) by have:=Hle.out;omega),List.append_nil];exact HO8.out)
   ·have hc2:jD (qa,qb)=((x),(y)):=by rw[HC.out];simp[trimF,ex,ey]
    have HC2:=zh hc2;have HE:=zh (zi ex ey);have hf1:((x):Int) % 10000≠0:=zo;have hf2:((y):Int) % 10000≠0:=zo;have HFR:=zh (zi hf1 hf2);clear hc2 HC hf1 hf2;rw[decide_eq_false ex]
    go_wp2_with fail
    refine (HW2.out _).mono ?_;rintro e w8 ⟨rfl,hb8⟩;rw[decide_eq_false ey];have hO8:=HO7.out.move hb8;have HO8:=zh hO8;clear HW2 HO7 hb8 ex ey;by_cases hle:(x)≤(y)
    ·have hdle:decide ((x)≤(y))=true:=decide_eq_true hle;have HK1:=zh (fun w'=>jr ((x)) w' zo zo);have HK2:=zh (fun w'=>jr ((y)) w' zo zo);have Hle:=zh hle;clear hle hO8
     go_wp2_with fail
     refine (HK1.out _).mono ?_;rintro e w9 ⟨rfl,hb9⟩;have HO9:=zh (HO8.out.move hb9);clear HK1 HO8 hb9
     go_wp2_with fail
     refine (HK2.out _).mono ?_;rintro e w10 ⟨rfl,hb10⟩;have hO2:=((HO9.out.move hb10).al #[.int .i64 (gJ ((x))),.int .i64 (gJ ((y)))] 104).swap;have hnews:=hO2.swap.obj.news rfl;clear HK2 HO9 hb10
     go_wp2_with (at_builtin;refine aC fZ rfl (.tmp 35) (.tmp 41) rfl (.slice voa S0.length voc) S0.length _ rfl hO2.row ⟨_,0,none⟩ 1 1 [.int .i64 (gJ ((x))),.int .i64 (gJ ((y)))] rfl rfl hnews (by simp[Value.oneCell']) (by unfold maxLen;omega) zo ?_)
     intro va vc w11 hown7 hgrow7 hrow7;have HO3:=zh (hO2.app hown7 hgrow7 hrow7 zS).drop2;clear hown7 hgrow7 hrow7 hO2 hnews;go_wp2;refine hX.out _ _ _ zo rfl ⟨k+1,_,zo,rfl,rfl,?_⟩;rw[HR1.out.1,HR1.out.2,HC2.out,if_pos (show (x)≤(y) from Hle.out)];have e:S0 ++ [nR ((x),(y))]=S0 ++ [(gJ ((x)),gJ ((y)))]:=rfl;rw[e,bg,List.length_append];exact HO3.out
    ·first
      | (exfalso;omega)
      | (have hdle:decide ((x)≤(y))=false:=decide_eq_false hle
         have Hle:=zh hle;clear hle hO8;go_wp2;refine hX.out _ _ _ zo rfl ⟨k+1,_,zo,rfl,rfl,?_⟩;rw[HR1.out.1,HR1.out.2,HC2.out,if_neg (show ¬ (x)≤(y) by have:=Hle.out;omega),List.append_nil];exact HO8.out)
  ·have hdec:decide (y<x)=true:=decide_eq_true zo;have HS:=zh (hsk zo);have HO:=zh hO;clear hcl hsk hO;go_wp2;refine hX.out _ _ _ zo rfl ⟨k+1,_,zo,rfl,rfl,?_⟩;rw[HR1.out.1,HR1.out.2,if_neg (show ¬ (jD (qa,qb)).1≤(jD (qa,qb)).2 by have:=HS.out;omega),List.append_nil];exact HO.out
 ·obtain rfl:k=F.length:=zo;rw[M3] at hO hkl ⊢;have HE:=zh (zi (Kl F) (show ic ((kX F).map nR)=kY F from rfl));have HOK:=zh (PE F);generalize (kX F).map nR=L at *
  have hst:=dJ (m:=m) hO.row HOK.out;have hO1:=hO.bD;have HN:=zh (uz _ L _ wr hO1.inn hst HE.out.1 zo);have HO1:=zh hO1;clear hst hO1 hO HOK
  go_wp2_with fail
  refine HN.out.mono ?_;rintro e w2 ⟨r,rfl,hb,hr⟩;rw[HE.out.2] at hr;have hO2:=HO1.out.call hb;have Hfin:=zh (zi hO2.below (aY hO2.done hr));obtain⟨ra,rc,rfl⟩:=bZ hr;clear HN HO1 HE hb hr hO2;go_wp2;exact hR.out _ _ ⟨_,rfl,Hfin.out.1,Hfin.out.2⟩
def namK (l:List Spn) (k:Nat):List Spn:=(l.take k).map fP
theorem Nv (l:List Spn) (k:Nat) (h:k<l.length):namK l (k+1)=namK l k ++ [fP l[k]]:=by
 unfold namK;rw[List.take_succ_eq_append_getElem h,List.map_append];rfl
theorem PI (l:List Spn):namK l l.length=l.map fP:=by unfold namK;rw[List.take_length]
theorem JV {l:List Spn} (h:∀s∈l,rkIn s):∀s∈l.map fP,spOk s:=fun s hs=>by
 obtain⟨t,ht,rfl⟩:=List.mem_map.1 hs;have:=h t ht;unfold rkIn at this;unfold spOk fP bY;dsimp only;omega
theorem Ey (vi vf:Value) (I L:List Spn) (m:Mem) (w:World) (hm:m.inn w) (hi:bW m vi I) (hf:bW m vf L) (hin:∀s∈L,rkIn s) (hlen:L.length≤1000000) :
 Calls Tryz.prog 164 #[vi,vf] w fun e w'=>∃rf,e=.returned (.agg #[vi,rf])∧Below w.heap.size w w'∧bF (m.grow w w') vi rf I (L.map fP):=by
 have HOK:=zh (zi (JV hin) hi);obtain⟨ai,ci,rfl⟩:=bZ hi;obtain⟨af,cf,rfl,i1,i2,i3⟩:=hf;unfold maxLen at i2;have HO:=zh ((((Own.start hm).al #[.slice none 0 0,.slice none 0 0] 24).al #[.slice ai I.length ci,.slice none 0 0] 24).eH 104 2);clear hi;refine aj fun R hR=>?_
 go_enter Tryz.func164,Tryz.ntmps164
 go_wp2;refine ay [4,5,10,11,12] (fun n vs wr=>∃(k:Nat) (vo:Value),k≤L.length∧n=L.length - k∧vs=[.pointer (some ⟨w.heap.size,0,none⟩),.pointer (some ⟨w.heap.size+1,0,none⟩),.slice af L.length cf,.int .i64 L.length,.int .i64 k] ∧
  Own w m wr m [.obj (w.heap.size+1) 24 #[.slice ai I.length ci,vo],.row vo 104 2 k (aW (namK L k)),.obj w.heap.size 24 #[.slice none 0 0,.slice none 0 0]]) ?_ ?_
 ·refine ⟨_,0,.slice none 0 0,Nat.zero_le _,rfl,rfl,?_⟩;have:=HO.out.swap;simp only[df] at this;exact this
 clear HO;rintro X z n vs wr hX - ⟨k,vo,hk,rfl,rfl,hO⟩;simp[litL,lk];obtain⟨voa,voc,rfl⟩:=aO hO.swap.row;by_cases hlt:k<L.length
 ·obtain⟨b,off,rfl,h4⟩:=i3 (by intro h;simp[h] at hlt);have hg:=h4 k hlt;have r1:=Mem.av hO.inn hg.1;have r2:=Mem.av hO.inn hg.2.1;have rl:=Mem.ak hO.inn hg.1;have hso:=hin L[k] (List.getElem_mem hlt);have HS:=zh (Nv L k hlt);generalize namK L k=S0 at *
  clear h4 hg;generalize L[k]=q at *
  obtain⟨qa,qb⟩:=q;unfold rkIn at hso;simp only at r1 r2 hso;have ho2:=hO.obj;have l1:=ho2.lt;have HU1:=zh (fun w'=>uy qa w' hso.1 hso.2.1);have HU2:=zh (fun w'=>uy qb w' hso.2.2.1 hso.2.2.2);go_wp2;have hO1:=(hO.al #[.int .i64 qa,.int .i64 qb] 104).dr;refine fw (fun w'=>bI w' (w.heap.size+1) 24 #[.slice ai I.length ci,.slice voa k voc]∧bI w' wr.heap.size 104 #[.int .i64 qa,.int .i64 qb]) 12 zk ?_;have hS:=zi hO1.swap.obj hO1.obj;refine az 0 rfl zk (fun _ _ _ h=>h) hS (au rfl fun w' hS'=>by have q:=hS'.1.cell (i:=1) rfl;have q1:=hS'.2.cell (i:=0) rfl;have q2:=hS'.2.cell (i:=1) rfl;go_simp;rfl) ?_;refine az 1 rfl zk (fun _ _ _ h=>h) hS (au rfl fun w' hS'=>by have q:=hS'.1.cell (i:=1) rfl;have q1:=hS'.2.cell (i:=0) rfl;have q2:=hS'.2.cell (i:=1) rfl;go_simp;rfl) ?_;refine az 2 rfl zk (fun _ _ _ h=>h) hS (au rfl fun w' hS'=>by have q:=hS'.1.cell (i:=1) rfl;have q1:=hS'.2.cell (i:=0) rfl;have q2:=hS'.2.cell (i:=1) rfl;go_simp;rfl) ?_;refine az 3 rfl zk (fun _ _ _ h=>h) hS (au rfl fun w' hS'=>by have q:=hS'.1.cell (i:=1) rfl;have q1:=hS'.2.cell (i:=0) rfl;have q2:=hS'.2.cell (i:=1) rfl;go_simp;rfl) ?_;refine az 5 rfl zk (fun _ _ _ h=>h) hS (au rfl fun w' hS'=>by have q:=hS'.1.cell (i:=1) rfl;have q1:=hS'.2.cell (i:=0) rfl;have q2:=hS'.2.cell (i:=1) rfl;go_simp;rfl) ?_;refine az 6 rfl zk (fun _ _ _ h=>h) hS (au rfl fun w' hS'=>by have q:=hS'.1.cell (i:=1) rfl;have q1:=hS'.2.cell (i:=0) rfl;have q2:=hS'.2.cell (i:=1) rfl;go_simp;rfl) ?_;refine aG 4 zk (aB rfl rfl (dI zg (HU1.out _) ?_));rintro e w1 ⟨rfl,hb1⟩;have hO2:=hO1.move hb1;refine ⟨_,rfl,andS (zi hO2.swap.obj hO2.obj) fun hS1=>?_⟩;refine aG 7 zk (aB rfl rfl (dI zg (HU2.out _) ?_));rintro e w2 ⟨rfl,hb2⟩;have hO3:=hO2.move hb2;refine ⟨_,rfl,andS (zi hO3.swap.obj hO3.obj) fun hS2=>?_⟩;refine az 8 rfl zk (fun _ _ _ h=>h) hS2 (au rfl fun w' hS'=>by go_simp;rfl) ?_;refine aG 9 zk (aB rfl rfl (aD (by go_simp;exact⟨rfl,rfl⟩) (andS (zi (hO3.swap.obj.al _) (hO3.obj.al _)) fun hS3=>?_)));go_simp;have hO4:=hO3.al #[.int .i64 (bY qa),.int .i64 (bY qb)] 104;refine aG 10 zk (aB rfl rfl (eB fZ (.tmp 17) (.tmp 25) rfl (.slice voa k voc) k (aW S0) rfl hO4.fourth.row ⟨w2.heap.size,0,none⟩ 1 1 [.int .i64 (bY qa),.int .i64 (bY qb)] rfl rfl (hO4.obj.news rfl) (by simp[Value.oneCell']) (by unfold maxLen;omega) zo (fun va vc w3 hown3 hgrow hrow3=>?_)));have hO5:=hO4.fourth.app hown3 hgrow hrow3 (Nat.le_refl _);refine andS (zi hO5.fourth.obj hO5.third.obj) fun hS4=>?_;refine az 11 rfl zk (fun _ _ _ h=>h) hS4 (au rfl fun w' hS'=>by go_simp;rfl) ?_;have f3:=hS4.1.frozen 1;have c3:=hS4.1.cell (i:=1) rfl;refine aG 12 zk (aB rfl rfl (aS (by go_simp;rfl) (ji rfl ?_)));refine dS zk ?_ _;have hO6:=hO5.fourth.set 1 (.slice va (k+1) vc);have Hfin:=zh hO6.nG.nG;clear hO6 hO5 hO4 hO3 hO2 hO1 hO hown3 hgrow hrow3 hS hS1 hS2 hS3 hS4 f3 c3 ho2 hb1 hb2;go_wp2;refine hX.out _ _ _ zo rfl ⟨k+1,.slice va (k+1) vc,zo,rfl,rfl,?_⟩;rw[HS.out];have e:S0 ++ [fP (qa,qb)]=S0 ++ [(bY qa,bY qb)]:=rfl;rw[e,bg];exact Hfin.out
 ·obtain rfl:k=L.length:=zo;rw[PI] at hO;have c1:=hO.obj.cell (i:=0) rfl;have c2:=hO.obj.cell (i:=1) rfl;have g3:=hO.third.obj.cell (i:=0) rfl;have g4:=hO.third.obj.cell (i:=1) rfl;have g5:=hO.third.obj.frozen 0;have g6:=hO.third.obj.frozen 1;have g7:=hO.third.obj.lt;have hml:(L.map fP).length=L.length:=List.length_map ..;have hO4:=(hO.third.set 0 (.slice ai I.length ci)).set 1 (.slice voa L.length voc);have hst:=dJ (m:=m) (l:=L.map fP) (by rw[hml];exact hO4.third.row) HOK.out.1;have hfin:bF (m.grow w _) _ _ I (L.map fP):=⟨aY hO4.done HOK.out.2,aY hO4.third.bD.done hst⟩;have g8:=hO4.obj.cell (i:=0) rfl;have g9:=hO4.obj.cell (i:=1) rfl;have Hfin:=zh (zi hO4.below hfin);clear hst hfin hO4 hO hml;go_wp2;refine bodyPost_ret (v:=.agg #[.slice ai I.length ci,.slice voa L.length voc]) (by simp[results,Tryz.results164,go_sem,g8,g9]) rfl ?_;exact hR.out _ _ ⟨_,rfl,Hfin.out.1,Hfin.out.2⟩
theorem mU (vi vf:Value) (I F:List Spn) (m:Mem) (w:World) (hm:m.inn w) (h1:bF m vi vf I F) (hI:I.length≤100000) (hF:F.length≤100000) :
 Calls Tryz.prog 114 #[.agg #[vi,vf]] w fun e w'=>∃ri rf,e=.returned (.agg #[ri,rf])∧Below w.heap.size w w'∧bF (m.grow w w') ri rf (mkN I F).i (mkN I F).rf:=by
 have hO:=((Own.start hm).al #[vi,vf] 24).al #[.slice none 0 0,.slice none 0 0] 24;have hsz1:(w.alloc (.cells #[vi,vf] 24)).heap.size=w.heap.size+1:=by simp
 rw[hsz1] at hO;obtain⟨a1,c1,b1,d1,rfl,rfl⟩:=h1.spell;have hrk:=(jk I F).rk;have hl:=(fF hI hF).f;have hraw:(mkN I F).i=nN I∧(mkN I F).f=kY F:=⟨rfl,rfl⟩;have HRK:=zh (zi hrk hl);clear hrk hl;have HO:=zh hO;have H1:=zh (zi hraw h1);clear hO h1 hsz1 hraw;refine aj fun R hR=>?_;generalize mkN I F=x at *
 go_enter Tryz.func114,Tryz.ntmps114
 go_upto_region 1 with (fail)
 refine aA [2] (fun vs w'=>∃(mk':Mem) (ra rb:Option Addr) (rc rd:Nat),vs=[.pointer (some ⟨w.heap.size+1,0,none⟩)] ∧
  Own w m w' mk' [.obj (w.heap.size+1) 24 #[.slice ra x.i.length rc,.slice rb x.rf.length rd]] ∧
  bF mk' (.slice ra x.i.length rc) (.slice rb x.rf.length rd) x.i x.rf) ?_ ?_
 ·intro X hX;refine aM 5 5 (fun j=>[Fact.is (·=.agg #[.slice a1 I.length c1,.slice b1 F.length d1]),Fact.mem m [1] (SpV x.i),Fact.is (·=.agg #[.slice a1 I.length c1,.slice b1 F.length d1]),Fact.mem m [3] (SpV x.f),Fact.mem m [4,1,3] (NumV x.i x.rf)].getD j Fact.any) zk zk ?_ ?_
  ·intro i hi o win a wr ho RA;have HO2:=HO.out.dr.move RA.below;have p1:=HO2.swap.obj.cell (i:=0) rfl;have p2:=HO2.swap.obj.cell (i:=1) rfl;rcases (show i=0∨i=1∨i=2∨i=3∨i=4 by omega) with rfl | rfl | rfl | rfl | rfl
   ·have e1:=RA.k 1;cases ho;exact wv rfl rfl rfl
   ·have e3:a.tmps.getD 3 undef=_:=RA.d 0 rfl;cases ho;refine we rfl rfl (yN _ _ I F m wr HO2.inn H1.out.2 hI) ?_;rintro e w' ⟨r,rfl,hb,hn⟩;rw[← H1.out.1.1] at hn;exact⟨_,rfl,_,rfl,hb,bH SpV.le HO2.inn hb (pM hn)⟩
   ·have e1:=RA.k 1;cases ho;exact wv rfl rfl rfl
   ·have e5:a.tmps.getD 5 undef=_:=RA.d 2 rfl;cases ho;refine we rfl rfl (wY _ _ I F m wr HO2.inn H1.out.2 hF) ?_;rintro e w' ⟨r,rfl,hb,hn⟩;rw[← H1.out.1.2] at hn;exact⟨_,rfl,_,rfl,hb,bH SpV.le HO2.inn hb (pM hn)⟩
   ·have e4:(Fact.mem m [1] (SpV x.i)).holds (a.tmps.getD 4 undef) win wr:=RA.d 1 rfl;have e6:(Fact.mem m [3] (SpV x.f)).holds (a.tmps.getD 6 undef) win wr:=RA.d 3 rfl;cases ho;obtain⟨r1,s1,k1,t1⟩:SpV _ _ _:=e4;obtain⟨r2,s2,k2,t2⟩:SpV _ _ _:=e6;refine we rfl rfl (Ey _ _ x.i x.f (m.wins wr win [1,3]) wr (Mem.bK HO2.inn win [1,3]) (aY (Mem.cO (es:=[1,3]) HO2.inn win zS) t1) (aY (Mem.cO (es:=[1,3]) HO2.inn win zS) t2) HRK.out.1 (by have:=HRK.out.2;omega)) ?_;rintro e w' ⟨rf,rfl,hb,hn⟩;exact⟨_,rfl,_,rfl,hb,fG (ds:=[1,3]) NumV.le HO2.inn zS (fun d hd=>(RA.rng d (by simp at hd;rcases hd with rfl | rfl <;> kernel_rfl)).2.2) hb (iD hn)⟩
  ·intro win a wr E;have e2:=E.keep 2 zk;have e7:(Fact.mem m [4,1,3] (NumV x.i x.rf)).holds (a.tmps.getD 7 undef) win wr:=E.fact 4 _ zo rfl;obtain⟨ra,rc,rb,rd,f1,st1⟩:NumV _ _ _ _:=e7;have hO1:=HO.out.drop2.dr.region E.below win [4,1,3] (fun d hd=>(E.rng d (by simp at hd;omega)).1);have HE:=zh E;generalize m.wins wr win [4,1,3]=mk2 at *
   have HK:=zh st1;clear E st1;have b1:=hO1.obj.frozen 0;have b1':=hO1.obj.frozen 1;have b2:=hO1.obj.cell (i:=0) rfl;have b2':=hO1.obj.cell (i:=1) rfl;have b3:=hO1.obj.lt;have hO3:=(hO1.set 0 (.slice ra x.i.length rc)).set 1 (.slice rb x.rf.length rd);refine bR 5 zk (aB rfl rfl (aS zg ?_));obtain⟨t,d⟩:=a;obtain rfl:d=[]:=HE.out.defers;refine aV zk (hX.out _ _ HE.out.size ⟨mk2,ra,rb,rc,rd,?_,hO3,HK.out⟩) _;simp only[List.map_cons,List.map_nil,e2]
   rfl
 rintro z2 vs w2 - ⟨mk',ra,rb,rc,rd,rfl,hO,hr⟩;simp[litL,lk];have g5:=hO.obj.cell (i:=0) rfl;have g6:=hO.obj.cell (i:=1) rfl;have Hk:=zh (zi hO.below (hr.le hO.done));clear hO hr HO;go_wp2;refine bodyPost_ret (v:=.agg #[.slice ra x.i.length rc,.slice rb x.rf.length rd]) (by simp[results,Tryz.results114,go_sem,g5,g6]) rfl ?_;exact hR.out _ _ ⟨_,_,rfl,Hk.out.1,Hk.out.2⟩
theorem Ez (vi vf:Value) (I F:List Spn) (m:Mem) (w:World) (hm:m.inn w) (h1:bF m vi vf I F) (hI:I.length≤100000) (hF:F.length≤100000) :
 Calls Tryz.prog 66 #[.agg #[vi,vf]] w fun e w'=>e=.returned (.bool (tf (I=(mkN I F).i∧F=(mkN I F).rf)))∧Below w.heap.size w w':=by
 have hO:=(Own.start hm).al #[vi,vf] 24;obtain⟨a1,c1,b1,d1,rfl,rfl⟩:=h1.spell;have HO:=zh hO;have H1:=zh h1;clear hO h1;refine aj fun R hR=>?_
 go_enter Tryz.func66,Tryz.ntmps66
 go_upto_region 1 with (fail)
 refine aA [2] (fun vs w'=>vs=[.bool (tf (I=(mkN I F).i∧F=(mkN I F).rf))]∧Below w.heap.size w w') ?_ ?_
 ·intro Y hY;refine aM 5 5 (fun j=>[Fact.is (·=.agg #[.slice a1 I.length c1,.slice b1 F.length d1]),Fact.is (·=.agg #[.slice a1 I.length c1,.slice b1 F.length d1]),Fact.mem m [2] (NumV (mkN I F).i (mkN I F).rf),Fact.is (·=.bool (tf (I=(mkN I F).i∧F=(mkN I F).rf))),Fact.is (·=.bool (tf (I=(mkN I F).i∧F=(mkN I F).rf)))].getD j Fact.any) zk zk ?_ ?_
  ·intro i hi o win a wr ho RA;have HO3:=HO.out.dr.move RA.below;have q1:=HO3.obj.cell (i:=0) rfl;have q2:=HO3.obj.cell (i:=1) rfl;rcases (show i=0∨i=1∨i=2∨i=3∨i=4 by omega) with rfl | rfl | rfl | rfl | rfl
   ·have e1:=RA.k 1;cases ho;exact wv rfl rfl rfl
   ·have e1:=RA.k 1;cases ho;exact wv rfl rfl rfl
   ·have e4:a.tmps.getD 4 undef=_:=RA.d 1 rfl;cases ho;refine we rfl rfl (mU _ _ I F m wr HO3.inn H1.out hI hF) ?_;rintro e w' ⟨ri,rf,rfl,hb,hn⟩;exact⟨_,rfl,_,rfl,hb,bH NumV.le HO3.inn hb (iD hn)⟩
   ·have e3:a.tmps.getD 3 undef=_:=RA.d 0 rfl;have e5:(Fact.mem m [2] (NumV (mkN I F).i (mkN I F).rf)).holds (a.tmps.getD 5 undef) win wr:=RA.d 2 rfl;cases ho;obtain⟨x1,y1,x2,y2,f1,s1⟩:NumV _ _ _ _:=e5;have s0:=H1.out.le (Mem.dw HO3.inn win [2]);refine we rfl rfl (yM _ _ _ _ I F (mkN I F).i (mkN I F).rf _ wr (Mem.bK HO3.inn win [2]) s0 s1) ?_;rintro e w' ⟨rfl,hb⟩;exact⟨_,rfl,_,rfl,hb,rfl⟩
   ·have e6:a.tmps.getD 6 undef=_:=RA.d 3 rfl;cases ho;exact wv rfl rfl rfl
  ·intro win a wr E;have e2:a.tmps.getD 2 undef=.bool (tf (I=(mkN I F).i∧F=(mkN I F).rf)):=E.fact 4 _ zo rfl;obtain⟨t1,d⟩:=a;obtain rfl:d=[]:=E.defers;refine aV zk (hY.out _ _ E.size ⟨?_,(HO.out.dr.move E.below).below⟩) _;simp only[List.map_cons,List.map_nil,e2]
 rintro z vs w1 - ⟨rfl,hb⟩;simp[litL,lk];have Hb:=zh hb;clear hb HO;go_wp2;exact hR.out _ _ ⟨rfl,Hb.out⟩
structure News (w:World) (a:Option Addr) (q:List Spn):Prop where
 at':0<q.length→∃ad,a=some ad∧∀j u,(aW q)[j]?=some u→w.cell? (ad.add j)=some u
 one:∀v∈aW q,v.oneCell'=true
theorem CX {m:Mem} {w:World} (hm:m.inn w) {a:Option Addr} {c:Nat} {q:List Spn} (h:bW m (.slice a q.length c) q):News w a q:=
 ⟨fun hl=>by
  obtain⟨b,off,e,h2⟩:=vU hm h (by intro e;rw[e] at hl;simp at hl);exact⟨_,e,h2⟩,fun v hv=>by
  obtain⟨q,-,hq⟩:=List.mem_flatMap.1 hv;simp at hq;rcases hq with rfl | rfl <;> rfl⟩
theorem MM {w0 w:World} {m mk:Mem} {L:List Item} {v:Value} {t:TypeId} {l:List Spn} (h:Own w0 m w mk (.row v t 2 l.length (aW l)::L)) (hk:∀p∈l,spOk p) :
 ∃mk',bW mk' v l∧mk.le mk'∧Own w0 m w mk' L:=⟨_,dJ (m:=mk) h.row hk,Mem.eD h.free,h.bD⟩
theorem EA (vi vf:Value) (I F:List Spn) (ui uf:Value) (J G:List Spn) (m:Mem) (w:World) (hm:m.inn w) (h1:bF m vi vf I F) (h2:bF m ui uf J G) (hI:I.length≤50000) (hF:F.length≤50000) (hJ:J.length≤50000) (hG:G.length≤50000) :
 Calls Tryz.prog 85 #[.agg #[vi,vf],.agg #[ui,uf]] w fun e w'=>∃ri rf,e=.returned (.agg #[ri,rf])∧Below w.heap.size w w'∧bF (m.grow w w') ri rf (orN (mkN I F) (mkN J G)).i (orN (mkN I F) (mkN J G)).rf:=by
 have hO:=((((Own.start hm).al #[vi,vf] 24).al #[ui,uf] 24).al #[.slice none 0 0,.slice none 0 0] 24).al #[.slice none 0 0,.slice none 0 0] 24;simp only[df] at hO;obtain⟨a1,c1,b1,d1,rfl,rfl⟩:=h1.spell;obtain⟨a2,c2,b2,d2,rfl,rfl⟩:=h2.spell;have H1:=zh (zi (QI I F J G) (zi h1 h2));have k1:∀s∈I ++ J,spOk s:=fun s hs=>(List.mem_append.1 hs).elim (jZ h1.i s) (jZ h2.i s);have k2:∀s∈F ++ G,spOk s:=fun s hs=>(List.mem_append.1 hs).elim (jZ h1.f s) (jZ h2.f s);have HK:=zh (zi k1 k2);have HO:=zh (hO.eH 104 2);have n1:=CX hO.inn h1.i;clear hO h1 h2 k1 k2;refine aj fun R hR=>?_;generalize orN (mkN I F) (mkN J G)=x at *
 go_enter Tryz.func85,Tryz.ntmps85
 go_wp2_with (at_builtin;refine fA fZ rfl (.tmp 7) (.tmp 9) rfl (.slice none 0 0) 0 [] rfl HO.out.row a1 I.length c1 (aW I) rfl (cK I) n1.at' n1.one (by unfold maxLen;omega) zo ?_)
 intro va vc w1 hown hgrow hrow
 try simp only[Nat.zero_add,List.nil_append] at hown
 try simp only[Nat.zero_add] at hrow ⊢
 have hO1:=(HO.out.app hown hgrow hrow zS).swap;have p1:=hO1.obj.cell (i:=0) rfl;have p2:=hO1.obj.cell (i:=1) rfl;have p3:=hO1.obj.frozen 0;have p4:=hO1.obj.frozen 1;have p5:=hO1.obj.lt;have p6:=hO1.fourth.obj.cell (i:=0) rfl;have p7:=hO1.fourth.obj.cell (i:=1) rfl;have p8:=hO1.fourth.obj.lt;have hO2:=hO1.set 0 (.slice va I.length vc);have n2:=CX hO2.inn H1.out.2.2.i;have HO2:=zh hO2;clear hO1 hO2 hown hgrow hrow HO n1
 go_wp2_with (at_builtin;refine fA fZ rfl (.tmp 13) (.tmp 15) rfl (.slice va I.length vc) I.length (aW I) rfl HO2.out.swap.row a2 J.length c2 (aW J) rfl (cK J) n2.at' n2.one (by unfold maxLen;omega) zo ?_)
 intro va2 vc2 w2 hown2 hgrow2 hrow2;have hO1:=(HO2.out.swap.app hown2 hgrow2 hrow2 (by simp[World.setCell])).swap;clear p1 p2 p3 p4 p5 p6 p7 p8;have p1:=hO1.obj.cell (i:=0) rfl;have p2:=hO1.obj.cell (i:=1) rfl;have p3:=hO1.obj.frozen 0;have p4:=hO1.obj.frozen 1;have p5:=hO1.obj.lt;have p6:=hO1.fifth.obj.cell (i:=0) rfl;have p7:=hO1.fifth.obj.cell (i:=1) rfl;have p8:=hO1.fifth.obj.lt;have hO2:=(hO1.set 0 (.slice va2 (I.length+J.length) vc2)).swap;have eIJ:aW I ++ aW J=aW (I ++ J):=by simp[aW]
 have lIJ:I.length+J.length=(I ++ J).length:=by simp
 rw[eIJ,lIJ] at hO2;obtain⟨mk1,hst,hle,hO3⟩:=MM hO2 HK.out.1;rw[← lIJ] at hst hO3;have n3:=CX (Mem.dK hle hO3.inn) H1.out.2.1.f;have HO3:=zh (hO3.eH 104 2);have HST:=zh (zi hst hle);clear hO1 hO2 hO3 hown2 hgrow2 hrow2 HO2 n2 hst hle eIJ lIJ
 go_wp2_with (at_builtin;refine fA fZ rfl (.tmp 19) (.tmp 21) rfl (.slice none 0 0) 0 [] rfl HO3.out.row b1 F.length d1 (aW F) rfl (cK F) n3.at' n3.one (by unfold maxLen;omega) zo ?_)
 intro va3 vc3 w3 hown3 hgrow3 hrow3
 try simp only[Nat.zero_add,List.nil_append] at hown3
 try simp only[Nat.zero_add] at hrow3 ⊢
 have hO1:=(HO3.out.app hown3 hgrow3 hrow3 (by simp[World.setCell])).swap;clear p1 p2 p3 p4 p5 p6 p7 p8;have p1:=hO1.obj.cell (i:=0) rfl;have p2:=hO1.obj.cell (i:=1) rfl;have p3:=hO1.obj.frozen 0;have p4:=hO1.obj.frozen 1;have p5:=hO1.obj.lt;have p6:=hO1.fourth.obj.cell (i:=0) rfl;have p7:=hO1.fourth.obj.cell (i:=1) rfl;have p8:=hO1.fourth.obj.lt;have hO2:=hO1.set 1 (.slice va3 F.length vc3);have n4:=CX (Mem.dK HST.out.2 hO2.inn) H1.out.2.2.f;have HO2:=zh hO2;clear hO1 hO2 hown3 hgrow3 hrow3 HO3 n3
 go_wp2_with (at_builtin;refine fA fZ rfl (.tmp 25) (.tmp 27) rfl (.slice va3 F.length vc3) F.length (aW F) rfl HO2.out.swap.row b2 G.length d2 (aW G) rfl (cK G) n4.at' n4.one (by unfold maxLen;omega) zo ?_)
 intro va4 vc4 w4 hown4 hgrow4 hrow4;have hO1:=(HO2.out.swap.app hown4 hgrow4 hrow4 (by simp[World.setCell])).swap;clear p1 p2 p3 p4 p5 p6 p7 p8;have p1:=hO1.obj.cell (i:=0) rfl;have p2:=hO1.obj.cell (i:=1) rfl;have p3:=hO1.obj.frozen 0;have p4:=hO1.obj.frozen 1;have p5:=hO1.obj.lt;have hO2:=(hO1.set 1 (.slice va4 (F.length+G.length) vc4)).swap;have eFG:aW F ++ aW G=aW (F ++ G):=by simp[aW]
 have lFG:F.length+G.length=(F ++ G).length:=by simp
 rw[eFG,lFG] at hO2;obtain⟨mk2,hst,hle,hO3⟩:=MM hO2 HK.out.2;rw[← lFG] at hst hO3;have hN:bF _ _ _ (I ++ J) (F ++ G):=⟨aY hle HST.out.1,hst⟩;have HM:=zh (mU _ _ (I ++ J) (F ++ G) _ _ hO3.inn hN (by simp;omega) (by simp;omega));rw[H1.out.1] at HM;have HO3:=zh hO3.swap;clear hO1 hO2 hO3 hown4 hgrow4 hrow4 HO2 n4 hst hle eFG lFG hN
 go_wp2_with fail
 refine HM.out.mono ?_;rintro e w5 ⟨ri,rf,rfl,hb,hn⟩;have hO4:=HO3.out.call hb;obtain⟨xa,xc,ya,yc,rfl,rfl⟩:=hn.spell;clear p1 p2 p3 p4 p5;have p3:=hO4.obj.frozen 0;have p4:=hO4.obj.frozen 1;have p5:=hO4.obj.lt;have hO5:=(hO4.set 0 (.slice xa x.i.length xc)).set 1 (.slice ya x.rf.length yc);have g5:=hO5.obj.cell (i:=0) rfl;have g6:=hO5.obj.cell (i:=1) rfl;have p1:=hO4.obj.cell (i:=0) rfl;have p2:=hO4.obj.cell (i:=1) rfl;have Hk:=zh (zi hO5.below (hn.le hO5.done));clear hO4 hO5 HM HO3 hb hn;go_wp2;refine bodyPost_ret (v:=.agg #[.slice xa x.i.length xc,.slice ya x.rf.length yc]) (by simp[results,Tryz.results85,go_sem,g5,g6]) rfl ?_;exact hR.out _ _ ⟨_,_,rfl,Hk.out.1,Hk.out.2⟩
theorem Jt:∀{l:List Spn} {lo hi:Int},(∀s∈l,spIn s) → -1000000000000003≤lo→lo≤1000000000000003 → -1000000000000003≤hi→hi≤1000000000000003→∀s∈kM l lo hi,spOk s
 | [],lo,hi,_,h1,h2,h3,h4,s,hs=>by
  unfold kM at hs
  split at hs
  ·rw[List.mem_singleton] at hs;subst hs;unfold spOk;dsimp only;omega
  ·cases hs
 | t::l,lo,hi,hl,h1,h2,h3,h4,s,hs=>by
  have ht:=hl t (List.mem_cons_self ..);unfold spIn at ht;unfold kM at hs;rcases List.mem_append.1 hs with hs | hs
  ·split at hs
   ·rw[List.mem_singleton] at hs;subst hs;unfold spOk;dsimp only;omega
   ·cases hs
  ·exact Jt (fun s hs=>hl s (List.mem_cons_of_mem _ hs)) zo zo h3 h4 s hs
theorem yO (va:Value) (l:List Spn) (lo hi:Int) (m:Mem) (w:World) (hm:m.inn w) (hl:bW m va l) (hin:∀s∈l,spIn s) (hlen:l.length≤1000000)
 (h1 : -1000000000000003≤lo) (h2:lo≤1000000000000003) (h3 : -1000000000000003≤hi) (h4:hi≤1000000000000003) :
 Calls Tryz.prog 167 #[va,.int .i64 lo,.int .i64 hi] w fun e w'=>∃r,e=.returned r∧Below w.heap.size w w'∧bW (m.grow w w') r (kM l lo hi):=by
 have HOK:=zh (Jt hin h1 h2 h3 h4);have hgl:=uN l lo hi;obtain⟨aa,ac,rfl,a1,a2,a3⟩:=hl;unfold maxLen at a2;have HO:=zh ((Own.start hm).eH 104 2);have HB:=zh (zi h1 h2);clear h1 h2;refine aj fun R hR=>?_
 go_enter Tryz.func167,Tryz.ntmps167
 go_wp2;generalize hG:kM l lo hi=G at *
 refine ay [1,2,7,10,11,12] (fun n vs wr=>∃(k:Nat) (lo':Int) (pre:List Spn) (vo:Value),k≤l.length∧n=l.length - k∧vs=[.int .i64 lo',.int .i64 hi,vo,.slice aa l.length ac,.int .i64 l.length,.int .i64 k] ∧
  pre ++ kM (l.drop k) lo' hi=G ∧ -1000000000000003≤lo'∧lo'≤1000000000000003∧Own w m wr m [.row vo 104 2 pre.length (aW pre)]) ?_ ?_
 ·exact⟨_,0,lo,[],.slice none 0 0,Nat.zero_le _,rfl,rfl,hG,HB.out.1,HB.out.2,HO.out⟩
 clear HO HB hG;rintro X z n vs wr hX - ⟨k,lo',pre,vo,hk,rfl,rfl,hg,hb1,hb2,hO⟩;simp[litL,lk];have hpl:pre.length≤l.length+1:=by rw[← hg,List.length_append] at hgl;omega
 obtain⟨voa,voc,rfl⟩:=aO hO.row;by_cases hlt:k<l.length
 ·obtain⟨b,off,rfl,h4⟩:=a3 (by intro h;simp[h] at hlt);have hgk:=h4 k hlt;have r1:=Mem.av hO.inn hgk.1;have r2:=Mem.av hO.inn hgk.2.1;have rl:=Mem.ak hO.inn hgk.1;have hsp:=hin l[k] (List.getElem_mem hlt);rw[K9 l k hlt] at hg;have HG:=zh hg;clear h4 hgk hg;generalize l[k]=q at *
  obtain⟨qa,qb⟩:=q;unfold spIn at hsp;simp only at r1 r2 hsp;have hO1:=hO.al #[.int .i64 qa,.int .i64 qb] 104;by_cases hxy:lo'<qa
  ·have hdec:decide (lo'<qa)=true:=decide_eq_true hxy;have hO2:=(hO1.al #[.int .i64 lo',.int .i64 (qa - 1)] 104).third
   try simp only[df] at hO2
   have hnews:=hO2.swap.obj.news rfl;have Hxy:=zh hxy;clear hxy hO hO1
   go_wp2_with (at_builtin;refine aC fZ rfl (.tmp 20) (.tmp 26) rfl (.slice voa pre.length voc) pre.length _ rfl hO2.row ⟨_,0,none⟩ 1 1 [.int .i64 lo',.int .i64 (qa - 1)] rfl rfl hnews (by simp[Value.oneCell']) (by unfold maxLen;omega) zo ?_)
   intro va vc w7 hown7 hgrow7 hrow7;have hO3:=(hO2.app hown7 hgrow7 hrow7 zS).drop2.swap;have d1:=hO3.obj.cell (i:=0) rfl;have d2:=hO3.obj.cell (i:=1) rfl;have d3:=hO3.obj.lt;have HO3:=zh hO3;clear hO3 hO2 hown7 hgrow7 hrow7 hnews;go_wp2;refine hX.out _ _ _ zo rfl ⟨k+1,_,pre ++ [(lo',qa - 1)],_,zo,rfl,rfl,?_,zo,zo,?_⟩
   ·rw[← HG.out,if_pos (show lo'<qa from Hxy.out),List.append_assoc]
   ·rw[bg,List.length_append];exact HO3.out.tail
  ·have hdec:decide (lo'<qa)=false:=decide_eq_false hxy;have HO3:=zh hO1.tail;have Hxy:=zh hxy;clear hxy hO hO1;go_wp2;refine hX.out _ _ _ zo rfl ⟨k+1,_,pre,_,zo,rfl,rfl,?_,zo,zo,HO3.out⟩;rw[← HG.out,if_neg (show ¬ lo'<qa by have:=Hxy.out;omega),List.nil_append]
 ·obtain rfl:k=l.length:=zo;rw[Oc] at hg;by_cases hxy:lo'≤hi
  ·have hdec:decide (lo'≤hi)=true:=decide_eq_true hxy;rw[if_pos hxy] at hg;have hO2:=(hO.al #[.int .i64 lo',.int .i64 hi] 104).swap
   try simp only[df] at hO2
   have hnews:=hO2.swap.obj.news rfl;clear hxy hO
   go_wp2_with (at_builtin;refine aC fZ rfl (.tmp 35) (.tmp 39) rfl (.slice voa pre.length voc) pre.length _ rfl hO2.row ⟨_,0,none⟩ 1 1 [.int .i64 lo',.int .i64 hi] rfl rfl hnews (by simp[Value.oneCell']) (by unfold maxLen;omega) zo ?_)
   intro va vc w7 hown7 hgrow7 hrow7;have hO3:=(hO2.app hown7 hgrow7 hrow7 zS).drop2;have hO4:Own w m w7 m [.row (.slice va (pre.length+1) vc) 104 2 G.length (aW G)]:=by
    rw[← hg,bg,List.length_append];exact hO3
   have e:pre.length+1=G.length:=by rw[← hg,List.length_append];rfl
   rw[e] at hO4 ⊢;have hst:=dJ (m:=m) (l:=G) hO4.row HOK.out;have hfin:=aY hO4.bD.done hst;have Hfin:=zh (zi hO4.below hfin);clear hO3 hO2 hown7 hgrow7 hrow7 hnews hO4 hst hfin;go_wp2;exact hR.out _ _ ⟨_,rfl,Hfin.out.1,Hfin.out.2⟩
  ·have hdec:decide (lo'≤hi)=false:=decide_eq_false hxy;rw[if_neg hxy,List.append_nil] at hg;subst hg;have hst:=dJ (m:=m) (l:=pre) hO.row HOK.out;have hfin:=aY hO.bD.done hst;have Hfin:=zh (zi hO.below hfin);clear hO hst hfin hxy;go_wp2;exact hR.out _ _ ⟨_,rfl,Hfin.out.1,Hfin.out.2⟩
theorem kU (vi vf:Value) (I F:List Spn) (m:Mem) (w:World) (hm:m.inn w) (h1:bF m vi vf I F) (hI:I.length≤90000) (hF:F.length≤90000) :
 Calls Tryz.prog 115 #[.agg #[vi,vf]] w fun e w'=>∃ri rf,e=.returned (.agg #[ri,rf])∧Below w.heap.size w w'∧bF (m.grow w w') ri rf (notN (mkN I F)).i (notN (mkN I F)).rf:=by
 have hO:=((Own.start hm).al #[vi,vf] 24).al #[.slice none 0 0,.slice none 0 0] 24;have hsz1:(w.alloc (.cells #[vi,vf] 24)).heap.size=w.heap.size+1:=by simp
 rw[hsz1] at hO;obtain⟨a1,c1,b1,d1,rfl,rfl⟩:=h1.spell;have hrk:=(jf (jk I F)).rk;have hl:=(lS (fF hI hF)).f;have hraw:(notN (mkN I F)).i=kM (nN I) (-100000000000) 100000000000∧(notN (mkN I F)).f=kM (kY F) (-999900000000000) 999899999999999:=⟨rfl,rfl⟩;have HRK:=zh (zi hrk (zi hl (zi (jk I F).inI (jk I F).inR)));have HLN:=zh (zi (fF hI hF).i (fF hI hF).f);clear hrk hl;have HO:=zh hO;have H1:=zh (zi hraw h1);clear hO h1 hsz1 hraw;refine aj fun R hR=>?_;generalize notN (mkN I F)=x at *
 go_enter Tryz.func115,Tryz.ntmps115
 go_upto_region 1 with (fail)
 refine aA [2] (fun vs w'=>∃(mk':Mem) (ra rb:Option Addr) (rc rd:Nat),vs=[.pointer (some ⟨w.heap.size+1,0,none⟩)] ∧
  Own w m w' mk' [.obj (w.heap.size+1) 24 #[.slice ra x.i.length rc,.slice rb x.rf.length rd]] ∧
  bF mk' (.slice ra x.i.length rc) (.slice rb x.rf.length rd) x.i x.rf) ?_ ?_
 ·intro X hX;refine aM 7 5 (fun j=>[Fact.is (·=.agg #[.slice a1 I.length c1,.slice b1 F.length d1]),Fact.mem m [1] (SpV (nN I)),Fact.mem m [2,1] (SpV x.i),Fact.is (·=.agg #[.slice a1 I.length c1,.slice b1 F.length d1]),Fact.mem m [4] (SpV (kY F)),Fact.mem m [5,4] (SpV x.f),Fact.mem m [6,2,1,5,4] (NumV x.i x.rf)].getD j Fact.any) zk zk ?_ ?_
  ·intro i hi o win a wr ho RA;have HO2:=HO.out.dr.move RA.below;have p1:=HO2.swap.obj.cell (i:=0) rfl;have p2:=HO2.swap.obj.cell (i:=1) rfl;rcases (show i=0∨i=1∨i=2∨i=3∨i=4∨i=5∨i=6 by omega) with rfl | rfl | rfl | rfl | rfl | rfl | rfl
   ·have e1:=RA.k 1;cases ho;exact wv rfl rfl rfl
   ·have e3:a.tmps.getD 3 undef=_:=RA.d 0 rfl;cases ho;refine we rfl rfl (yN _ _ I F m wr HO2.inn H1.out.2 zo) ?_;rintro e w' ⟨r,rfl,hb,hn⟩;exact⟨_,rfl,_,rfl,hb,bH SpV.le HO2.inn hb (pM hn)⟩
   ·have e4:(Fact.mem m [1] (SpV (nN I))).holds (a.tmps.getD 4 undef) win wr:=RA.d 1 rfl;cases ho;obtain⟨r1,s1,k1,t1⟩:SpV _ _ _:=e4;refine we rfl rfl (yO _ (nN I) (-100000000000) 100000000000 (m.wins wr win [1]) wr (Mem.bK HO2.inn win [1]) t1 HRK.out.2.2.1 (by have h:(nN I).length≤90000:=HLN.out.1;omega) zo zo zo zo) ?_;rintro e w' ⟨r,rfl,hb,hn⟩;rw[← H1.out.1.1] at hn;exact⟨_,rfl,_,rfl,hb,fG (ds:=[1]) SpV.le HO2.inn zS (fun d hd=>(RA.rng d (by simp at hd;subst hd;kernel_rfl)).2.2) hb (pM hn)⟩
   ·have e1:=RA.k 1;cases ho;exact wv rfl rfl rfl
   ·have e6:a.tmps.getD 6 undef=_:=RA.d 3 rfl;cases ho;refine we rfl rfl (wY _ _ I F m wr HO2.inn H1.out.2 zo) ?_;rintro e w' ⟨r,rfl,hb,hn⟩;exact⟨_,rfl,_,rfl,hb,bH SpV.le HO2.inn hb (pM hn)⟩
   ·have e7:(Fact.mem m [4] (SpV (kY F))).holds (a.tmps.getD 7 undef) win wr:=RA.d 4 rfl;cases ho;obtain⟨r1,s1,k1,t1⟩:SpV _ _ _:=e7;refine we rfl rfl (yO _ (kY F) (-999900000000000) 999899999999999 (m.wins wr win [4]) wr (Mem.bK HO2.inn win [4]) t1 HRK.out.2.2.2 (by have h:(kY F).length≤90000:=HLN.out.2;omega) zo zo zo zo) ?_;rintro e w' ⟨r,rfl,hb,hn⟩;rw[← H1.out.1.2] at hn;exact⟨_,rfl,_,rfl,hb,fG (ds:=[4]) SpV.le HO2.inn zS (fun d hd=>(RA.rng d (by simp at hd;subst hd;kernel_rfl)).2.2) hb (pM hn)⟩
   ·have e5:(Fact.mem m [2,1] (SpV x.i)).holds (a.tmps.getD 5 undef) win wr:=RA.d 2 rfl;have e8:(Fact.mem m [5,4] (SpV x.f)).holds (a.tmps.getD 8 undef) win wr:=RA.d 5 rfl;cases ho;obtain⟨r1,s1,k1,t1⟩:SpV _ _ _:=e5;obtain⟨r2,s2,k2,t2⟩:SpV _ _ _:=e8;refine we rfl rfl (Ey _ _ x.i x.f (m.wins wr win [2,1,5,4]) wr (Mem.bK HO2.inn win [2,1,5,4]) (aY (Mem.cO (es:=[2,1,5,4]) HO2.inn win zS) t1) (aY (Mem.cO (es:=[2,1,5,4]) HO2.inn win zS) t2) HRK.out.1 (by have:=HRK.out.2.1;omega)) ?_;rintro e w' ⟨rf,rfl,hb,hn⟩;exact⟨_,rfl,_,rfl,hb,fG (ds:=[2,1,5,4]) NumV.le HO2.inn zS (fun d hd=>(RA.rng d (by simp at hd;rcases hd with rfl | rfl | rfl | rfl <;> kernel_rfl)).2.2) hb (iD hn)⟩
  ·intro win a wr E;have e2:=E.keep 2 zk;have e9:(Fact.mem m [6,2,1,5,4] (NumV x.i x.rf)).holds (a.tmps.getD 9 undef) win wr:=E.fact 6 _ zo rfl;obtain⟨ra,rc,rb,rd,f1,st1⟩:NumV _ _ _ _:=e9;have hO1:=HO.out.drop2.dr.region E.below win [6,2,1,5,4] (fun d hd=>(E.rng d (by simp at hd;omega)).1);have HE:=zh E;generalize m.wins wr win [6,2,1,5,4]=mk2 at *
   have HK:=zh st1;clear E st1;have b1:=hO1.obj.frozen 0;have b1':=hO1.obj.frozen 1;have b2:=hO1.obj.cell (i:=0) rfl;have b2':=hO1.obj.cell (i:=1) rfl;have b3:=hO1.obj.lt;have hO3:=(hO1.set 0 (.slice ra x.i.length rc)).set 1 (.slice rb x.rf.length rd);refine bR 7 zk (aB rfl rfl (aS zg ?_));obtain⟨t,d⟩:=a;obtain rfl:d=[]:=HE.out.defers;refine aV zk (hX.out _ _ HE.out.size ⟨mk2,ra,rb,rc,rd,?_,hO3,HK.out⟩) _;simp only[List.map_cons,List.map_nil,e2]
   rfl
 rintro z2 vs w2 - ⟨mk',ra,rb,rc,rd,rfl,hO,hr⟩;simp[litL,lk];have g5:=hO.obj.cell (i:=0) rfl;have g6:=hO.obj.cell (i:=1) rfl;have Hk:=zh (zi hO.below (hr.le hO.done));clear hO hr HO;go_wp2;refine bodyPost_ret (v:=.agg #[.slice ra x.i.length rc,.slice rb x.rf.length rd]) (by simp[results,Tryz.results115,go_sem,g5,g6]) rfl ?_;exact hR.out _ _ ⟨_,_,rfl,Hk.out.1,Hk.out.2⟩
theorem Bw (vi vf:Value) (I F:List Spn) (ui uf:Value) (J G:List Spn) (m:Mem) (w:World) (hm:m.inn w) (h1:bF m vi vf I F) (h2:bF m ui uf J G) (hI:I.length≤20000) (hF:F.length≤20000) (hJ:J.length≤20000) (hG:G.length≤20000) :
 Calls Tryz.prog 80 #[.agg #[vi,vf],.agg #[ui,uf]] w fun e w'=>∃ri rf,e=.returned (.agg #[ri,rf])∧Below w.heap.size w w'∧bF (m.grow w w') ri rf (andN (mkN I F) (mkN J G)).i (andN (mkN I F) (mkN J G)).rf:=by
 have hO:=(((Own.start hm).al #[vi,vf] 24).al #[ui,uf] 24).al #[.slice none 0 0,.slice none 0 0] 24;have hsz1:(w.alloc (.cells #[vi,vf] 24)).heap.size=w.heap.size+1:=by simp
 have hsz2:((w.alloc (.cells #[vi,vf] 24)).alloc (.cells #[ui,uf] 24)).heap.size=w.heap.size+1+1:=by simp
 rw[hsz2,hsz1] at hO;obtain⟨a1,c1,b1,d1,rfl,rfl⟩:=h1.spell;obtain⟨a2,c2,b2,d2,rfl,rfl⟩:=h2.spell;have hx:=jf (jk I F);have hy:=jf (jk J G);have h4:=lS (fF hI hF);have h5:=lS (fF hJ hG);have h6:=Ja h4 h5;have hraw:orN (mkN (notN (mkN I F)).i (notN (mkN I F)).rf) (mkN (notN (mkN J G)).i (notN (mkN J G)).rf)=orN (notN (mkN I F)) (notN (mkN J G))∧notN (mkN (orN (notN (mkN I F)) (notN (mkN J G))).i (orN (notN (mkN I F)) (notN (mkN J G))).rf)=andN (mkN I F) (mkN J G):=⟨by rw[jv hx,jv hy],by rw[jv (yZ hx hy)];rfl⟩;have l1:=h4.i;have l2:=h4.f;have l3:=h5.i;have l4:=h5.f;have l5:=h6.i;have l6:=h6.f;rw[← NS.ky] at l2 l4 l6;clear hx hy h4 h5 h6;generalize orN (notN (mkN I F)) (notN (mkN J G))=ox at *
 generalize hnx:notN (mkN I F)=nx at *
 generalize hny:notN (mkN J G)=ny at *
 have HN:=zh (zi hnx hny);clear hnx hny;have HO:=zh hO;have H1:=zh (zi hraw (zi h1 h2));clear hO h1 h2 hsz1 hsz2 hraw;refine aj fun R hR=>?_;generalize andN (mkN I F) (mkN J G)=x at *
 go_enter Tryz.func80,Tryz.ntmps80
 go_upto_region 1 with (fail)
 refine aA [4] (fun vs w'=>∃(mk':Mem) (ra rb:Option Addr) (rc rd:Nat),vs=[.pointer (some ⟨w.heap.size+1+1,0,none⟩)] ∧
  Own w m w' mk' [.obj (w.heap.size+1+1) 24 #[.slice ra x.i.length rc,.slice rb x.rf.length rd]] ∧
  bF mk' (.slice ra x.i.length rc) (.slice rb x.rf.length rd) x.i x.rf) ?_ ?_
 ·intro X hX;refine aM 6 5 (fun j=>[Fact.is (·=.agg #[.slice a1 I.length c1,.slice b1 F.length d1]),Fact.mem m [1] (NumV nx.i nx.rf),Fact.is (·=.agg #[.slice a2 J.length c2,.slice b2 G.length d2]),Fact.mem m [3] (NumV ny.i ny.rf),Fact.mem m [4,1,3] (NumV ox.i ox.rf),Fact.mem m [5,4,1,3] (NumV x.i x.rf)].getD j Fact.any) zk zk ?_ ?_
  ·intro i hi o win a wr ho RA;have HO2:=HO.out.dr.move RA.below;have p1:=HO2.swap.obj.cell (i:=0) rfl;have p2:=HO2.swap.obj.cell (i:=1) rfl;have p3:=HO2.third.obj.cell (i:=0) rfl;have p4:=HO2.third.obj.cell (i:=1) rfl;rcases (show i=0∨i=1∨i=2∨i=3∨i=4∨i=5 by omega) with rfl | rfl | rfl | rfl | rfl | rfl
   ·have e2:=RA.k 2;cases ho;exact wv rfl rfl rfl
   ·have e5:a.tmps.getD 5 undef=_:=RA.d 0 rfl;cases ho;refine we rfl rfl (kU _ _ I F m wr HO2.inn H1.out.2.1 zo zo) ?_;rintro e w' ⟨ri,rf,rfl,hb,hn⟩;rw[HN.out.1] at hn;exact⟨_,rfl,_,rfl,hb,bH NumV.le HO2.inn hb (iD hn)⟩
   ·have e3:=RA.k 3;cases ho;exact wv rfl rfl rfl
   ·have e7:a.tmps.getD 7 undef=_:=RA.d 2 rfl;cases ho;refine we rfl rfl (kU _ _ J G m wr HO2.inn H1.out.2.2 zo zo) ?_;rintro e w' ⟨ri,rf,rfl,hb,hn⟩;rw[HN.out.2] at hn;exact⟨_,rfl,_,rfl,hb,bH NumV.le HO2.inn hb (iD hn)⟩
   ·have e6:(Fact.mem m [1] (NumV nx.i nx.rf)).holds (a.tmps.getD 6 undef) win wr:=RA.d 1 rfl;have e8:(Fact.mem m [3] (NumV ny.i ny.rf)).holds (a.tmps.getD 8 undef) win wr:=RA.d 3 rfl;cases ho;obtain⟨r1,s1,r2,s2,k1,t1⟩:NumV _ _ _ _:=e6;obtain⟨r3,s3,r4,s4,k2,t2⟩:NumV _ _ _ _:=e8;refine we rfl rfl (EA _ _ nx.i nx.rf _ _ ny.i ny.rf (m.wins wr win [1,3]) wr (Mem.bK HO2.inn win [1,3]) (t1.le (Mem.cO (es:=[1,3]) HO2.inn win zS)) (t2.le (Mem.cO (es:=[1,3]) HO2.inn win zS)) zo zo zo zo) ?_;rintro e w' ⟨ri,rf,rfl,hb,hn⟩;rw[H1.out.1.1] at hn;exact⟨_,rfl,_,rfl,hb,fG (ds:=[1,3]) NumV.le HO2.inn zS (fun d hd=>(RA.rng d (by simp at hd;rcases hd with rfl | rfl <;> kernel_rfl)).2.2) hb (iD hn)⟩
   ·have e9:(Fact.mem m [4,1,3] (NumV ox.i ox.rf)).holds (a.tmps.getD 9 undef) win wr:=RA.d 4 rfl;cases ho;obtain⟨r1,s1,r2,s2,k1,t1⟩:NumV _ _ _ _:=e9;refine we rfl rfl (kU _ _ ox.i ox.rf (m.wins wr win [4,1,3]) wr (Mem.bK HO2.inn win [4,1,3]) t1 zo zo) ?_;rintro e w' ⟨ri,rf,rfl,hb,hn⟩;rw[H1.out.1.2] at hn;exact⟨_,rfl,_,rfl,hb,fG (ds:=[4,1,3]) NumV.le HO2.inn zS (fun d hd=>(RA.rng d (by simp at hd;rcases hd with rfl | rfl | rfl <;> kernel_rfl)).2.2) hb (iD hn)⟩
  ·intro win a wr E;have e4:=E.keep 4 zk;have e10:(Fact.mem m [5,4,1,3] (NumV x.i x.rf)).holds (a.tmps.getD 10 undef) win wr:=E.fact 5 _ zo rfl;obtain⟨ra,rc,rb,rd,f1,st1⟩:NumV _ _ _ _:=e10;have hO1:=HO.out.drop2.drop2.dr.region E.below win [5,4,1,3] (fun d hd=>(E.rng d (by simp at hd;omega)).1);have HE:=zh E;generalize m.wins wr win [5,4,1,3]=mk2 at *
   have HK:=zh st1;clear E st1;have b1:=hO1.obj.frozen 0;have b1':=hO1.obj.frozen 1;have b2:=hO1.obj.cell (i:=0) rfl;have b2':=hO1.obj.cell (i:=1) rfl;have b3:=hO1.obj.lt;have hO3:=(hO1.set 0 (.slice ra x.i.length rc)).set 1 (.slice rb x.rf.length rd);refine bR 6 zk (aB rfl rfl (aS zg ?_));obtain⟨t,d⟩:=a;obtain rfl:d=[]:=HE.out.defers;refine aV zk (hX.out _ _ HE.out.size ⟨mk2,ra,rb,rc,rd,?_,hO3,HK.out⟩) _;simp only[List.map_cons,List.map_nil,e4]
   rfl
 rintro z2 vs w2 - ⟨mk',ra,rb,rc,rd,rfl,hO,hr⟩;simp[litL,lk];have g5:=hO.obj.cell (i:=0) rfl;have g6:=hO.obj.cell (i:=1) rfl;have Hk:=zh (zi hO.below (hr.le hO.done));clear hO hr HO;go_wp2;refine bodyPost_ret (v:=.agg #[.slice ra x.i.length rc,.slice rb x.rf.length rd]) (by simp[results,Tryz.results80,go_sem,g5,g6]) rfl ?_;exact hR.out _ _ ⟨_,_,rfl,Hk.out.1,Hk.out.2⟩
theorem qm (vi vf:Value) (I F:List Spn) (ui uf:Value) (J G:List Spn) (m:Mem) (w:World) (hm:m.inn w) (h1:bF m vi vf I F) (h2:bF m ui uf J G) (hI:I.length≤15000) (hF:F.length≤15000) (hJ:J.length≤15000) (hG:G.length≤15000) :
 Calls Tryz.prog 87 #[.agg #[vi,vf],.agg #[ui,uf]] w fun e w'=>∃ri rf,e=.returned (.agg #[ri,rf])∧Below w.heap.size w w'∧bF (m.grow w w') ri rf (eT (mkN I F) (mkN J G)).i (eT (mkN I F) (mkN J G)).rf:=by
 have hO:=(((Own.start hm).al #[vi,vf] 24).al #[ui,uf] 24).al #[.slice none 0 0,.slice none 0 0] 24;have hsz1:(w.alloc (.cells #[vi,vf] 24)).heap.size=w.heap.size+1:=by simp
 have hsz2:((w.alloc (.cells #[vi,vf] 24)).alloc (.cells #[ui,uf] 24)).heap.size=w.heap.size+1+1:=by simp
 rw[hsz2,hsz1] at hO;obtain⟨a1,c1,b1,d1,rfl,rfl⟩:=h1.spell;obtain⟨a2,c2,b2,d2,rfl,rfl⟩:=h2.spell;have hyo:=jk J G;have hnl:=lS (fF hJ hG);have l1:=hnl.i;have l2:=hnl.f;rw[← NS.ky] at l2;have hraw:andN (mkN I F) (mkN (notN (mkN J G)).i (notN (mkN J G)).rf)=eT (mkN I F) (mkN J G):=by rw[jv (jf hyo)];rfl
 clear hyo hnl;have HO:=zh hO;have H1:=zh (zi hraw (zi h1 h2));clear hO h1 h2 hsz1 hsz2 hraw;refine aj fun R hR=>?_;generalize eT (mkN I F) (mkN J G)=x at *
 go_enter Tryz.func87,Tryz.ntmps87
 go_upto_region 1 with (fail)
 refine aA [4] (fun vs w'=>∃(mk':Mem) (ra rb:Option Addr) (rc rd:Nat),vs=[.pointer (some ⟨w.heap.size+1+1,0,none⟩)] ∧
  Own w m w' mk' [.obj (w.heap.size+1+1) 24 #[.slice ra x.i.length rc,.slice rb x.rf.length rd]] ∧
  bF mk' (.slice ra x.i.length rc) (.slice rb x.rf.length rd) x.i x.rf) ?_ ?_
 ·intro X hX;refine aM 4 5 (fun j=>[Fact.is (·=.agg #[.slice a1 I.length c1,.slice b1 F.length d1]),Fact.is (·=.agg #[.slice a2 J.length c2,.slice b2 G.length d2]),Fact.mem m [2] (NumV (notN (mkN J G)).i (notN (mkN J G)).rf),Fact.mem m [3,2] (NumV x.i x.rf)].getD j Fact.any) zk zk ?_ ?_
  ·intro i hi o win a wr ho RA;have HO2:=HO.out.dr.move RA.below;have p1:=HO2.swap.obj.cell (i:=0) rfl;have p2:=HO2.swap.obj.cell (i:=1) rfl;have p3:=HO2.third.obj.cell (i:=0) rfl;have p4:=HO2.third.obj.cell (i:=1) rfl;rcases (show i=0∨i=1∨i=2∨i=3 by omega) with rfl | rfl | rfl | rfl
   ·have e2:=RA.k 2;cases ho;exact wv rfl rfl rfl
   ·have e3:=RA.k 3;cases ho;exact wv rfl rfl rfl
   ·have e6:a.tmps.getD 6 undef=_:=RA.d 1 rfl;cases ho;refine we rfl rfl (kU _ _ J G m wr HO2.inn H1.out.2.2 zo zo) ?_;rintro e w' ⟨ri,rf,rfl,hb,hn⟩;exact⟨_,rfl,_,rfl,hb,bH NumV.le HO2.inn hb (iD hn)⟩
   ·have e5:a.tmps.getD 5 undef=_:=RA.d 0 rfl;have e7:(Fact.mem m [2] (NumV (notN (mkN J G)).i (notN (mkN J G)).rf)).holds (a.tmps.getD 7 undef) win wr:=RA.d 2 rfl;cases ho;obtain⟨r1,s1,r2,s2,k1,t1⟩:NumV _ _ _ _:=e7;refine we rfl rfl (Bw _ _ I F _ _ _ _ _ wr (Mem.bK HO2.inn win [2]) (H1.out.2.1.le (Mem.dw HO2.inn win [2])) t1 zo zo zo zo) ?_;rintro e w' ⟨ri,rf,rfl,hb,hn⟩;rw[H1.out.1] at hn;exact⟨_,rfl,_,rfl,hb,fG (ds:=[2]) NumV.le HO2.inn zS (fun d hd=>(RA.rng d (by simp at hd;subst hd;kernel_rfl)).2.2) hb (iD hn)⟩
  ·intro win a wr E;have e4:=E.keep 4 zk;have e8:(Fact.mem m [3,2] (NumV x.i x.rf)).holds (a.tmps.getD 8 undef) win wr:=E.fact 3 _ zo rfl;obtain⟨ra,rc,rb,rd,f1,st1⟩:NumV _ _ _ _:=e8;have hO1:=HO.out.drop2.drop2.dr.region E.below win [3,2] (fun d hd=>(E.rng d (by simp at hd;omega)).1);have HE:=zh E;generalize m.wins wr win [3,2]=mk2 at *
   have HK:=zh st1;clear E st1;have b1:=hO1.obj.frozen 0;have b1':=hO1.obj.frozen 1;have b2:=hO1.obj.cell (i:=0) rfl;have b2':=hO1.obj.cell (i:=1) rfl;have b3:=hO1.obj.lt;have hO3:=(hO1.set 0 (.slice ra x.i.length rc)).set 1 (.slice rb x.rf.length rd);refine bR 4 zk (aB rfl rfl (aS zg ?_));obtain⟨t,d⟩:=a;obtain rfl:d=[]:=HE.out.defers;refine aV zk (hX.out _ _ HE.out.size ⟨mk2,ra,rb,rc,rd,?_,hO3,HK.out⟩) _;simp only[List.map_cons,List.map_nil,e4]
   rfl
 rintro z2 vs w2 - ⟨mk',ra,rb,rc,rd,rfl,hO,hr⟩;simp[litL,lk];have g5:=hO.obj.cell (i:=0) rfl;have g6:=hO.obj.cell (i:=1) rfl;have Hk:=zh (zi hO.below (hr.le hO.done));clear hO hr HO;go_wp2;refine bodyPost_ret (v:=.agg #[.slice ra x.i.length rc,.slice rb x.rf.length rd]) (by simp[results,Tryz.results87,go_sem,g5,g6]) rfl ?_;exact hR.out _ _ ⟨_,_,rfl,Hk.out.1,Hk.out.2⟩
end Cl
