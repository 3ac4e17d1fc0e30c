/- Lemmas for the proofs of chapter 11. -/
import Derived.Test.YtdgjplfcpcphoaaGreatDoorProg
import Derived.BigQuiet
import Derived.Deep.Cut
import Derived.Deep.QuietTactic
import Derived.Laws.StructEq
import Derived.Lib.AppendStr
import Derived.Lib.Builder
import Derived.Lib.Hide
import Derived.Lib.ItoaLen
import Derived.Maps.OwnOps
import Derived.Maps.OwnSet
import Derived.OrdersHeld
import Derived.Outline
import Derived.StillTailTactics
import Derived.StringKeys
import Derived.WalkKit
import Derived.WalkLawsBesides
import Derived.WalkSpells
import Derived.Deep.RegionHeld
import Derived.Shelf.SlSortCmp.WholeK
import Derived.Laws.EntriesVeiled
import Derived.Laws.CopyOwn
import Derived.RegionTactic
import Derived.RangeFuncNested
import Derived.RangeFuncBound
import Derived.RangeFuncCalls
import Derived.RangeFuncLeaves
import Derived.OwnWalkIn
import Derived.TacticsInMore
import Derived.LoopNIn
import Derived.LoopIn
import Derived.Test.YtdgjplfcpcphoaaGreatDoorZz
import Derived.Test.YtdgjplfcpcphoaaGreatDoorPkV3
import Derived.Test.YtdgjplfcpcphoaaGreatDoorPkV1
import Derived.Test.YtdgjplfcpcphoaaGreatDoorPkV2
import Derived.Test.YtdgjplfcpcphoaaGreatDoorPkV7
import Derived.Test.YtdgjplfcpcphoaaGreatDoorPkV4
import Derived.Test.YtdgjplfcpcphoaaGreatDoorPkV5
set_option maxRecDepth 100000
set_option maxHeartbeats 16000000
namespace Cl
open Go Go.RowKit Go.Proofs
theorem cz (w:World) (o:Obj):(w.alloc o).heap.size=w.heap.size+1:=by simp
theorem fF (u:Int) (w:World) (h1 : -1000000000000002≤u) (h2:u≤1000000000000002) :
 Calls Tryz.prog 188 #[.int .i64 u] w fun e w'=>e=.returned (.int .i64 (dY u))∧Below w.heap.size w w':=by
 have HF:=zh (fun w'=>zz u w' h1 h2);refine av fun R hR=>?_
 go_enter Tryz.func188,Tryz.ntmps188
 go_wp2_with fail
 refine (HF.out _).mono ?_;rintro e w1 ⟨rfl,hb⟩;go_wp2;refine hR.out _ _ ⟨fC ?_,hb⟩;unfold dY;omega
theorem oh (k:Int) (w:World) (h1 : -1000000000000002≤k) (h2:k≤1000000000000002) :
 Calls Tryz.prog 185 #[.int .i64 k] w fun e w'=>e=.returned (.int .i64 (bF k))∧Below w.heap.size w w':=by
 refine av fun R hR=>?_;have e1:=zh (Ou k);have e2:=zh (Oq k)
 go_enter Tryz.func185,Tryz.ntmps185
 go_wp2
 all_goals refine hR.out _ _ ⟨fC ?_,Below.refl _ _⟩
 all_goals simp only[e1.out,e2.out] at *
 all_goals unfold bF
 all_goals (repeat' split) <;> first | omega | (unfold wrap64;omega)
theorem oo (va:Value) (l:List Spn) (m:Mem) (w:World) (hm:m.inn w) (hl:dw m va l) (hin:∀s∈l,mE s) (hlen:l.length≤1000000) :
 Calls Tryz.prog 186 #[va] w fun e w'=>∃r,e=.returned r∧Below w.heap.size w w'∧dw (m.grow w w') r (eB l):=by
 have HOK:=zh (fun k=>zL (mE.take hin k));have HLN:=zh (fun k=>nz (l.take k));have HIN:=zh hin;clear hin;obtain⟨aa,ac,rfl,a1,a2,a3⟩:=hl;unfold maxLen at a2;have HO:=zh (Own.start hm);refine av fun R hR=>?_
 go_enter Tryz.func186,Tryz.ntmps186
 go_wp2;refine au [3,10,11,12] (fun n vs wr=>∃(k:Nat) (vo:Value) (mk1:Mem),k≤l.length∧n=l.length - k∧vs=[vo,.slice aa l.length ac,.int .i64 l.length,.int .i64 k] ∧
  dw mk1 vo (eB (l.take k))∧m.le mk1∧Own w m wr mk1 []) ?_ ?_
 ·exact⟨_,0,.slice none 0 0,m,Nat.zero_le _,rfl,rfl,iR m,Mem.le_refl m,HO.out⟩
 clear HO hm;rintro X z n vs wr hX - ⟨k,vo,mk1,hk,rfl,rfl,hvo,hle,hO⟩;simp[litL,lk];by_cases hlt:k<l.length
 ·obtain⟨b,off,rfl,h4⟩:=a3 (by intro h;simp[h] at hlt);have hgk:=h4 k hlt;have r1:=Mem.aj hO.inn (Mem.aA hle hgk.1);have r2:=Mem.aj hO.inn (Mem.aA hle hgk.2.1);have rl:=Mem.ay hO.inn (Mem.aA hle hgk.1);have hsp:=HIN.out l[k] (List.getElem_mem hlt);have hst:=zJ l k hlt;have hol:=HLN.out k;rw[List.length_take] at hol;have hoe:=HOK.out k;have hoe2:=HOK.out (k+1);generalize hE:eB (l.take (k+1))=OUT2 at *
  generalize eB (l.take k)=OUT at *
  clear h4 hgk;generalize l[k]=q at *
  obtain⟨qa,qb⟩:=q;unfold mE at hsp;simp only at r1 r2 hsp hst;obtain⟨oa,oc,rfl,o1,o2,o3⟩:=hvo;unfold maxLen at o2;have hO1:=hO.al #[.int .i64 qa,.int .i64 qb] 139;by_cases hxy:qb<qa
  ·have hdec:decide (qb<qa)=true:=decide_eq_true hxy;rw[if_pos hxy] at hst;have HV:=zh (zi (show dw mk1 (.slice oa OUT.length oc) OUT2 from by rw[hst];exact⟨oa,oc,rfl,o1,by unfold maxLen;omega,o3⟩) hO1.tail);clear hxy hO hO1 o3;go_wp2;exact hX.out _ _ _ zo rfl ⟨k+1,_,mk1,zo,rfl,rfl,by rw[hE];exact HV.out.1,hle,HV.out.2⟩
  ·have hdec:decide (qb<qa)=false:=decide_eq_false hxy;rw[if_neg hxy] at hst;have hb:=hsp zo;have hil:=ru OUT (qa,qb) false;rw[← hst] at hil;have HO1:=zh ((hO1.dC 139 2).swap);have HST:=zh hst;clear hO hO1 hst;go_wp2;generalize hS:wr.heap.size=S at *
   refine au [5,6,7,10,11,12,21,22,23] (fun n vs wr=>∃(j:Nat) (sa sb:Int) (d:Bool) (nx:List Spn) (vn:Value),j≤OUT.length∧n=OUT.length - j∧vs=[.pointer (some ⟨S,0,none⟩),vn,.bool d,.slice (some ⟨b,off,none⟩) l.length ac,.int .i64 l.length,.int .i64 k,.slice oa OUT.length oc,.int .i64 OUT.length,.int .i64 j] ∧
    nx ++ insS (sa,sb) d (OUT.drop j)=OUT2 ∧ -1000000000000002≤sa∧sa≤sb∧sb≤1000000000000002∧Own w m wr mk1 [.obj S 139 #[.int .i64 sa,.int .i64 sb],.row vn 139 2 nx.length (bu nx)]) ?_ ?_
   ·exact⟨_,0,qa,qb,false,[],.slice none 0 0,Nat.zero_le _,rfl,rfl,HST.out.symm,hb.1,zo,hb.2,HO1.out⟩
   clear HO1 HST hS hsp hb r1 r2 rl hdec hxy;rintro Y z2 n vs w6 hY - ⟨j,sa,sb,d,nx,vn,hj,rfl,rfl,hg,b1,b2,b3,hO⟩;simp[litL,lk];have hnl:nx.length≤OUT2.length:=by rw[← hg,List.length_append];omega
   obtain⟨voa,voc,rfl⟩:=aO hO.swap.row;by_cases hlj:j<OUT.length
   ·obtain⟨b',off',rfl,h4⟩:=o3 (by intro h;simp[h] at hlj);have hgj:=h4 j hlj;have r1:=Mem.aj hO.inn hgj.1;have r2:=Mem.aj hO.inn hgj.2.1;have rl:=Mem.ay hO.inn hgj.1;have hx:=hoe OUT[j] (List.getElem_mem hlj);rw[Jp OUT j hlj] at hg;have HG:=zh hg;clear h4 hgj hg;generalize OUT[j]=x at *
    obtain⟨xa,xb⟩:=x;simp only at r1 r2 hx;have hO1:=hO.al #[.int .i64 xa,.int .i64 xb] 139;by_cases hA:xb+1<sa
    ·have hdA:decide (xb+1<sa)=true:=decide_eq_true hA;have hO2:=(hO1.al #[.int .i64 xa,.int .i64 xb] 139).fourth
     try simp only[cz] at hO2
     have hnews:=hO2.swap.obj.news rfl;have q1:=hO1.swap.obj.cell (i:=0) rfl;have q3:=hO1.swap.obj.lt;have Hxy:=zh hA;clear hA hO hO1
     go_wp2_with (at_builtin;refine aC fw rfl (.tmp 33) (.tmp 35) rfl (.slice voa nx.length voc) nx.length _ rfl hO2.row ⟨_,0,none⟩ 1 1 [.int .i64 xa,.int .i64 xb] rfl rfl hnews (by simp[Value.oneCell']) (by unfold maxLen;omega) zo ?_)
     intro va vc w7 hown7 hgrow7 hrow7;have HO3:=zh (hO2.app hown7 hgrow7 hrow7 zS).fourth.jJ.jJ;clear hO2 hown7 hgrow7 hrow7 hnews q1 q3;go_wp2;refine hY.out _ _ _ zo rfl ⟨j+1,sa,sb,d,nx ++ [(xa,xb)],_,zo,rfl,rfl,?_,b1,b2,b3,?_⟩
     ·rw[← HG.out,if_pos (show xb+1<sa from Hxy.out),List.append_assoc];rfl
     ·rw[aT,List.length_append];exact HO3.out
    ·have hdA:decide (xb+1<sa)=false:=decide_eq_false hA;by_cases hB:sb+1<xa
     ·have hdB:decide (sb+1<xa)=true:=decide_eq_true hB;have Hxy:=zh (zi hA hB);clear hA hB
      cases d with
      | true=>
       have hO2:=(hO1.al #[.int .i64 xa,.int .i64 xb] 139).fourth
       try simp only[cz] at hO2
       have hnews:=hO2.swap.obj.news rfl;have q1:=hO1.swap.obj.cell (i:=0) rfl;have q2:=hO1.swap.obj.cell (i:=1) rfl;have q3:=hO1.swap.obj.lt;clear hO hO1
       go_wp2_with (at_builtin;refine aC fw rfl (.tmp 49) (.tmp 51) rfl (.slice voa nx.length voc) nx.length _ rfl hO2.row ⟨_,0,none⟩ 1 1 [.int .i64 xa,.int .i64 xb] rfl rfl hnews (by simp[Value.oneCell']) (by unfold maxLen;omega) zo ?_)
       intro va vc w7 hown7 hgrow7 hrow7;have HO3:=zh (hO2.app hown7 hgrow7 hrow7 zS).fourth.jJ.jJ;clear hO2 hown7 hgrow7 hrow7 hnews q1 q2 q3;go_wp2;refine hY.out _ _ _ zo rfl ⟨j+1,sa,sb,true,nx ++ [(xa,xb)],_,zo,rfl,rfl,?_,b1,b2,b3,?_⟩
       ·rw[← HG.out,if_neg (show ¬ xb+1<sa by have:=Hxy.out.1;omega),if_pos (show sb+1<xa from Hxy.out.2),List.append_assoc];rfl
       ·rw[aT,List.length_append]
        exact HO3.out
      | false=>
       have hO2:=(hO1.al #[.int .i64 sa,.int .i64 sb] 139).fourth
       try simp only[cz] at hO2
       have hnews:=hO2.swap.obj.news rfl;have q1:=hO1.swap.obj.cell (i:=0) rfl;have q2:=hO1.swap.obj.cell (i:=1) rfl;have q3:=hO1.swap.obj.lt;clear hO hO1
       go_wp2_with (at_builtin;refine aC fw rfl (.tmp 45) (.tmp 47) rfl (.slice voa nx.length voc) nx.length _ rfl hO2.row ⟨_,0,none⟩ 1 1 [.int .i64 sa,.int .i64 sb] rfl rfl hnews (by simp[Value.oneCell']) (by unfold maxLen;omega) zo ?_)
       intro va vc w7 hown7 hgrow7 hrow7;have hO3:=(hO2.app hown7 hgrow7 hrow7 zS).drop2;clear hO2 hown7 hgrow7 hrow7 hnews q1 q2 q3;have q4:=hO3.swap.obj.cell (i:=0) rfl;have q5:=hO3.swap.obj.cell (i:=1) rfl;have q6:=hO3.swap.obj.lt;have hO4:=(hO3.al #[.int .i64 xa,.int .i64 xb] 139).swap
       try simp only[cz] at hO4
       have hnews:=hO4.swap.obj.news rfl;clear hO3
       go_wp2_with (at_builtin;refine aC fw rfl (.tmp 49) (.tmp 51) rfl (.slice va (nx.length+1) vc) (nx.length+1) _ rfl hO4.row ⟨_,0,none⟩ 1 1 [.int .i64 xa,.int .i64 xb] rfl rfl hnews (by simp[Value.oneCell']) (by unfold maxLen;omega) zo ?_)
       intro va2 vc2 w8 hown8 hgrow8 hrow8;have HO3:=zh (hO4.app hown8 hgrow8 hrow8 zS).fourth.jJ.jJ;clear hO4 hown8 hgrow8 hrow8 hnews q4 q5 q6;go_wp2;refine hY.out _ _ _ zo rfl ⟨j+1,sa,sb,true,nx ++ [(sa,sb)] ++ [(xa,xb)],_,zo,rfl,rfl,?_,b1,b2,b3,?_⟩
       ·rw[← HG.out,if_neg (show ¬ xb+1<sa by have:=Hxy.out.1;omega),if_pos (show sb+1<xa from Hxy.out.2)];simp
       ·rw[aT,aT,List.length_append,List.length_append,List.append_assoc];exact HO3.out
     ·have hdB:decide (sb+1<xa)=false:=decide_eq_false hB;have q1:=hO1.swap.obj.cell (i:=0) rfl;have q2:=hO1.swap.obj.cell (i:=1) rfl;have q3:=hO1.swap.obj.lt;have q4:=hO1.swap.obj.frozen 0;have q5:=hO1.swap.obj.frozen 1;have hne:S≠w6.heap.size:=by have:=hO.obj.lt;omega
      have hne2:w6.heap.size≠S:=fun e=>hne e.symm;have HO1:=zh hO1.tail;have HN:=zh (zi hA hB);clear hO hO1;go_wp2
      all_goals refine hY.out _ _ _ zo rfl ⟨j+1,_,_,d,nx,_,zo,rfl,rfl,?_,?_,?_,?_,(HO1.out.set 0 (.int .i64 _)).set 1 (.int .i64 _)⟩
      all_goals try omega
      all_goals refine Eq.trans (congrArg (fun p=>nx ++ insS p d (OUT.drop (j+1))) (Prod.ext ?_ ?_)) ((congrArg (fun p=>nx ++ p) ((if_neg (show ¬ xb+1<sa by have:=HN.out.1;omega)).trans (if_neg (show ¬ sb+1<xa by have:=HN.out.2;omega)))).symm.trans HG.out)
      all_goals (simp only <;> omega)
   ·obtain rfl:j=OUT.length:=zo;rw[K5] at hg
    cases d with
    | true=>
     simp only[if_true,List.append_nil] at hg;subst hg;have hst:=dM (m:=mk1) (l:=nx) hO.swap.row (fun s hs=>by have:=hoe2 s hs;unfold spOk;omega);have hle0:=Mem.cu (w:=w6) hO.swap.free;have HV:=zh (zi hst (zi (Mem.le_trans hle hle0) hO.swap.aY.tail));clear hO hst hle0;go_wp2
     exact hX.out _ _ _ zo rfl ⟨k+1,_,_,zo,rfl,rfl,by rw[hE];exact HV.out.1,HV.out.2.1,HV.out.2.2⟩
    | false=>
     simp only[Bool.false_eq_true,if_false] at hg;have hO2:=(hO.al #[.int .i64 sa,.int .i64 sb] 139).third
     try simp only[cz] at hO2
     have hnews:=hO2.swap.obj.news rfl;have q1:=hO.obj.cell (i:=0) rfl;have q2:=hO.obj.cell (i:=1) rfl;have q3:=hO.obj.lt;clear hO
     go_wp2_with (at_builtin;refine aC fw rfl (.tmp 68) (.tmp 70) rfl (.slice voa nx.length voc) nx.length _ rfl hO2.row ⟨_,0,none⟩ 1 1 [.int .i64 sa,.int .i64 sb] rfl rfl hnews (by simp[Value.oneCell']) (by unfold maxLen;omega) zo ?_)
     intro va vc w7 hown7 hgrow7 hrow7;have hO3:=(hO2.app hown7 hgrow7 hrow7 zS).drop2.drop2;have e:nx.length+1=OUT2.length:=by rw[← hg,List.length_append];rfl
     have hO4:Own w m w7 mk1 [.row (.slice va (nx.length+1) vc) 139 2 OUT2.length (bu OUT2)]:=by
      rw[← hg,aT,List.length_append];exact hO3
     rw[e] at hO4 ⊢;have hst:=dM (m:=mk1) (l:=OUT2) hO4.row (fun s hs=>by have:=hoe2 s hs;unfold spOk;omega);have hle0:=Mem.cu (w:=w7) hO4.free;have HV:=zh (zi hst (zi (Mem.le_trans hle hle0) hO4.aY));clear hO3 hO2 hown7 hgrow7 hrow7 hnews hO4 hst hle0 q1 q2 q3;go_wp2;exact hX.out _ _ _ zo rfl ⟨k+1,_,_,zo,rfl,rfl,by rw[hE];exact HV.out.1,HV.out.2.1,HV.out.2.2⟩
 ·obtain rfl:k=l.length:=zo;rw[List.take_length] at hvo;have Hfin:=zh (zi hO.below (bV hO.done hvo));clear hO hvo;go_wp2;exact hR.out _ _ ⟨_,rfl,Hfin.out.1,Hfin.out.2⟩
def uw (l:List Spn) (k:Nat):List Spn:=(l.take k).map jy
theorem JY (l:List Spn) (k:Nat) (h:k≤l.length):(uw l k).length=k:=by simp[uw];omega
theorem GI (l:List Spn) (k:Nat) (h:k<l.length):uw l (k+1)=uw l k ++ [jy l[k]]:=by
 unfold uw;rw[List.take_succ_eq_append_getElem h,List.map_append];rfl
theorem JZ (l:List Spn):uw l l.length=l.map jy:=by unfold uw;rw[List.take_length]
theorem GJ (l:List Spn):∀s∈l.map jy,mE s:=fun s hs=>by
 obtain⟨t,-,rfl⟩:=List.mem_map.1 hs;unfold mE jy iw;dsimp only;omega
theorem LH {l:List Spn} (h:∀s∈l,spOk s):∀s∈l.map jy,spOk s:=fun s hs=>by
 obtain⟨t,ht,rfl⟩:=List.mem_map.1 hs;have:=h t ht;unfold spOk jy iw at *;dsimp only;omega
theorem BV (vi vf:Value) (I F:List Spn) (m:Mem) (w:World) (hm:m.inn w) (hN:eu m vi vf I F) (hI:I.length≤100000) :
 Calls Tryz.prog 143 #[.agg #[vi,vf]] w fun e w'=>∃r,e=.returned r∧Below w.heap.size w w'∧dw (m.grow w w') r (oG I):=by
 have hO:=((Own.start hm).al #[vi,vf] 24).dC 139 2;obtain⟨hi,hf⟩:=hN;obtain⟨af,cf,rfl⟩:=bU hf;have HOK:=zh (LH (FH hi));obtain⟨ai,ci,rfl,i1,i2,i3⟩:=hi;unfold maxLen at i2;have HO:=zh hO;clear hO hf;refine av fun R hR=>?_
 go_enter Tryz.func143,Tryz.ntmps143
 go_wp2;refine au [3,7,8,9] (fun n vs wr=>∃(k:Nat) (vo:Value),k≤I.length∧n=I.length - k∧vs=[vo,.slice ai I.length ci,.int .i64 I.length,.int .i64 k] ∧
  Own w m wr m [.row vo 139 2 (uw I k).length (bu (uw I k))]) ?_ ?_
 ·exact⟨_,0,.slice none 0 0,Nat.zero_le _,rfl,rfl,HO.out.drop2⟩
 clear HO;rintro X z n vs wr hX - ⟨k,vo,hk,rfl,rfl,hO⟩;simp[litL,lk];obtain⟨voa,voc,rfl⟩:=aO hO.row;have hkl:(uw I k).length≤100000:=by rw[JY I k hk];omega
 by_cases hlt:k<I.length
 ·obtain⟨b,off,rfl,h4⟩:=i3 (by intro h;simp[h] at hlt);have hg:=h4 k hlt;have r1:=Mem.aj hO.inn hg.1;have r2:=Mem.aj hO.inn hg.2.1;have rl:=Mem.ay hO.inn hg.1;have hso:spOk I[k]:=hg.2.2;have Hstep:=zh (GI I k hlt);generalize uw I k=S0 at *
  clear h4 hg;generalize I[k]=q at *
  obtain⟨qa,qb⟩:=q;unfold spOk at hso;simp only at r1 r2 hso;have hO1:=hO.al #[.int .i64 qa,.int .i64 qb] 139;have q1:=hO1.obj.cell (i:=0) rfl;have q2:=hO1.obj.cell (i:=1) rfl;have q3:=hO1.obj.lt;have HO1:=zh hO1;clear hO hO1;have hO2:=(HO1.out.al #[.int .i64 (max qa (-100000000000)),.int .i64 (min qb 100000000000)] 139).third;simp only[cz] at hO2;have hnews:=hO2.swap.obj.news rfl
  go_wp2_with (at_builtin;refine aC fw rfl (.tmp 13) (.tmp 21) rfl (.slice voa S0.length voc) S0.length _ rfl hO2.row ⟨_,0,none⟩ 1 1 [.int .i64 (max qa (-100000000000)),.int .i64 (min qb 100000000000)] rfl rfl hnews (by simp[Value.oneCell']) (by unfold maxLen;omega) zo ?_)
  intro va vc w7 hown7 hgrow7 hrow7;have HO3:=zh (hO2.app hown7 hgrow7 hrow7 zS).drop2.drop2;clear hown7 hgrow7 hrow7 HO1 q1 q2 q3 hO2 hnews;go_wp2;refine hX.out _ _ _ zo rfl ⟨k+1,_,zo,rfl,rfl,?_⟩;rw[Hstep.out,aT,List.length_append];exact HO3.out
 ·obtain rfl:k=I.length:=zo;have HE:=zh (zi (GJ I) (zK I));rw[JZ] at hO hkl ⊢;generalize I.map jy=L at *
  have hst:=dM (m:=m) hO.row HOK.out;have hO1:=hO.aY;have HN:=zh (oo _ L _ wr hO1.inn hst HE.out.1 zo);have HO1:=zh hO1;clear hst hO1 hO HOK
  go_wp2_with fail
  refine HN.out.mono ?_;rintro e w2 ⟨r,rfl,hb,hr⟩;rw[HE.out.2] at hr;have hO2:=HO1.out.call hb;have Hfin:=zh (zi hO2.below (bV hO2.done hr));obtain⟨ra,rc,rfl⟩:=bU hr;clear HN HO1 HE hb hr hO2;go_wp2;exact hR.out _ _ ⟨_,rfl,Hfin.out.1,Hfin.out.2⟩
def sD (l:List Spn) (k:Nat):List Spn:=(gY (l.take k)).map jq
theorem IK (l:List Spn) (k:Nat) (h:k≤l.length):(sD l k).length≤k:=by unfold sD;rw[List.length_map];exact yN h
theorem Fu (l:List Spn) (k:Nat) (h:k<l.length):sD l (k+1)=sD l k ++ if (fI l[k]).1≤(fI l[k]).2 then [jq (fI l[k])] else []:=by
 unfold sD;rw[wm l k h,List.map_append]
 split <;> rfl
theorem IL (l:List Spn):sD l l.length=(gY l).map jq:=by unfold sD;rw[List.take_length]
theorem Fv (l:List Spn):∀s∈(gY l).map jq,mE s:=fun s hs=>by
 have:=sF s hs;simp only[qE,Aa] at this;unfold mE;omega
theorem KG (l:List Spn):∀s∈(gY l).map jq,spOk s:=fun s hs=>by
 have h1:=sF s hs;have h2:=IJ s hs;simp only[qE,Aa] at h1;unfold spOk;omega
theorem zy (vi vf:Value) (I F:List Spn) (m:Mem) (w:World) (hm:m.inn w) (hN:eu m vi vf I F) (hF:F.length≤100000) :
 Calls Tryz.prog 144 #[.agg #[vi,vf]] w fun e w'=>∃r,e=.returned r∧Below w.heap.size w w'∧dw (m.grow w w') r (lh F):=by
 have hO:=((Own.start hm).al #[vi,vf] 24).dC 139 2;obtain⟨hi,hf⟩:=hN;obtain⟨ai,ci,rfl⟩:=bU hi;obtain⟨af,cf,rfl,i1,i2,i3⟩:=hf;unfold maxLen at i2;have HO:=zh hO;clear hO hi;refine av fun R hR=>?_
 go_enter Tryz.func144,Tryz.ntmps144
 go_wp2;refine au [3,9,10,11] (fun n vs wr=>∃(k:Nat) (vo:Value),k≤F.length∧n=F.length - k∧vs=[vo,.slice af F.length cf,.int .i64 F.length,.int .i64 k] ∧
  Own w m wr m [.row vo 139 2 (sD F k).length (bu (sD F k))]) ?_ ?_
 ·exact⟨_,0,.slice none 0 0,Nat.zero_le _,rfl,rfl,HO.out.drop2⟩
 clear HO;rintro X z n vs wr hX - ⟨k,vo,hk,rfl,rfl,hO⟩;simp[litL,lk];obtain⟨voa,voc,rfl⟩:=aO hO.row;have hkl:=IK F k hk;by_cases hlt:k<F.length
 ·obtain⟨b,off,rfl,h4⟩:=i3 (by intro h;simp[h] at hlt);have hg:=h4 k hlt;have r1:=Mem.aj hO.inn hg.1;have r2:=Mem.aj hO.inn hg.2.1;have rl:=Mem.ay hO.inn hg.1;have hso:spOk F[k]:=hg.2.2;have hstep:=Fu F k hlt;generalize hR1:sD F (k+1)=S1 at *
  generalize sD F k=S0 at *
  clear h4 hg;generalize F[k]=q at *
  obtain⟨qa,qb⟩:=q;unfold spOk at hso;simp only at r1 r2 hso;have HO2:=zh (hO.al #[.int .i64 qa,.int .i64 qb] 139);have HR1:=zh (zi hR1 hstep);clear hO hR1 hstep
  go_upto_region 5 with (fail)
  generalize hW2:wr.alloc (.cells #[.int .i64 qa,.int .i64 qb] 139)=w5 at *
  generalize wr.heap.size=S at *
  refine aR [3,6,7,9,10,11] (fun vs w'=>vs=[.slice voa S0.length voc,.int .i64 (max qa (-1000000000000000)),.int .i64 (min qb 1000000000000000),.slice (some ⟨b,off,none⟩) F.length cf,.int .i64 F.length,.int .i64 k] ∧
   Own w m w' m [.row (.slice voa S0.length voc) 139 2 S0.length (bu S0)]) ?_ ?_
  ·intro Y hY;have q1:=HO2.out.obj.cell (i:=0) rfl;have q2:=HO2.out.obj.cell (i:=1) rfl;have q5:=HO2.out.obj.lt
   go_quiet (fail)
   go_wp2;exact hY.out _ _ rfl ⟨rfl,HO2.out.tail.drN _⟩
  rintro z4 vs w6 - ⟨rfl,hO⟩;simp[litL,lk];have hcl:fI (qa,qb)=trimF (max qa (-1000000000000000),min qb 1000000000000000):=rfl;have hsk:=fun h=>Gf (t:=(qa,qb)) h;have hx0:max qa (-1000000000000000)≤9223372036854775807 ∧ -1000000000000000≤max qa (-1000000000000000):=zo;have hy0:min qb 1000000000000000≤1000000000000000 ∧ -9223372036854775808≤min qb 1000000000000000:=zo;unfold maxU at hsk;simp only at hsk;generalize max qa (-1000000000000000)=x at *
  generalize min qb 1000000000000000=y at *
  clear HO2 hW2 r1 r2 hso;by_cases hxy:x≤y
  ·have hdec:decide (y<x)=false:=decide_eq_false zo;have HW1:=zh (fun w'=>qz x w');have HW2:=zh (fun w'=>qz y w');have HO:=zh hO;have HC:=zh hcl;clear hcl hsk hO
   go_wp2_with fail
   refine (HW1.out _).mono ?_;rintro e w7 ⟨rfl,hb7⟩;have HO7:=zh (HO.out.move hb7);clear HW1 HO hb7;by_cases ex:x % 10000=0 <;> by_cases ey:y % 10000=0
   ·have hc2:fI (qa,qb)=((x+1),(y - 1)):=by rw[HC.out];simp[trimF,ex,ey]
    have HC2:=zh hc2;have HE:=zh (zi ex ey);have hf1:((x+1):Int) % 10000≠0:=zo;have hf2:((y - 1):Int) % 10000≠0:=zo;have HFR:=zh (zi hf1 hf2);clear hc2 HC hf1 hf2;rw[decide_eq_true ex]
    go_wp2_with fail
    refine (HW2.out _).mono ?_;rintro e w8 ⟨rfl,hb8⟩;rw[decide_eq_true ey];have hO8:=HO7.out.move hb8;have HO8:=zh hO8;clear HW2 HO7 hb8 ex ey;by_cases hle:(x+1)≤(y - 1)
    ·have hdle:decide ((x+1)≤(y - 1))=true:=decide_eq_true hle;have HK1:=zh (fun w'=>fF ((x+1)) w' zo zo);have HK2:=zh (fun w'=>fF ((y - 1)) w' zo zo);have Hle:=zh hle;clear hle hO8
     go_wp2_with fail
     refine (HK1.out _).mono ?_;rintro e w9 ⟨rfl,hb9⟩;have HO9:=zh (HO8.out.move hb9);clear HK1 HO8 hb9
     go_wp2_with fail
     refine (HK2.out _).mono ?_;rintro e w10 ⟨rfl,hb10⟩;have hO2:=((HO9.out.move hb10).al #[.int .i64 (dY ((x+1))),.int .i64 (dY ((y - 1)))] 139).swap;have hnews:=hO2.swap.obj.news rfl;clear HK2 HO9 hb10
     go_wp2_with (at_builtin;refine aC fw rfl (.tmp 35) (.tmp 41) rfl (.slice voa S0.length voc) S0.length _ rfl hO2.row ⟨_,0,none⟩ 1 1 [.int .i64 (dY ((x+1))),.int .i64 (dY ((y - 1)))] rfl rfl hnews (by simp[Value.oneCell']) (by unfold maxLen;omega) zo ?_)
     intro va vc w11 hown7 hgrow7 hrow7;have HO3:=zh (hO2.app hown7 hgrow7 hrow7 zS).drop2;clear hown7 hgrow7 hrow7 hO2 hnews;go_wp2;refine hX.out _ _ _ zo rfl ⟨k+1,_,zo,rfl,rfl,?_⟩;rw[HR1.out.1,HR1.out.2,HC2.out,if_pos (show (x+1)≤(y - 1) from Hle.out)];have e:S0 ++ [jq ((x+1),(y - 1))]=S0 ++ [(dY ((x+1)),dY ((y - 1)))]:=rfl;rw[e,aT,List.length_append];exact HO3.out
    ·first
      | (exfalso;omega)
      | (have hdle:decide ((x+1)≤(y - 1))=false:=decide_eq_false hle
         have Hle:=zh hle;clear hle hO8;go_wp2;refine hX.out _ _ _ zo rfl ⟨k+1,_,zo,rfl,rfl,?_⟩;rw[HR1.out.1,HR1.out.2,HC2.out,if_neg (show ¬ (x+1)≤(y - 1) by have:=Hle.out;omega),List.append_nil];exact HO8.out)
   ·have hc2:fI (qa,qb)=((x+1),(y)):=by rw[HC.out];simp[trimF,ex,ey]
    have HC2:=zh hc2;have HE:=zh (zi ex ey);have hf1:((x+1):Int) % 10000≠0:=zo;have hf2:((y):Int) % 10000≠0:=zo;have HFR:=zh (zi hf1 hf2);clear hc2 HC hf1 hf2;rw[decide_eq_true ex]
    go_wp2_with fail
    refine (HW2.out _).mono ?_;rintro e w8 ⟨rfl,hb8⟩;rw[decide_eq_false ey];have hO8:=HO7.out.move hb8;have HO8:=zh hO8;clear HW2 HO7 hb8 ex ey;by_cases hle:(x+1)≤(y)
    ·have hdle:decide ((x+1)≤(y))=true:=decide_eq_true hle;have HK1:=zh (fun w'=>fF ((x+1)) w' zo zo);have HK2:=zh (fun w'=>fF ((y)) w' zo zo);have Hle:=zh hle;clear hle hO8
     go_wp2_with fail
     refine (HK1.out _).mono ?_;rintro e w9 ⟨rfl,hb9⟩;have HO9:=zh (HO8.out.move hb9);clear HK1 HO8 hb9
     go_wp2_with fail
     refine (HK2.out _).mono ?_;rintro e w10 ⟨rfl,hb10⟩;have hO2:=((HO9.out.move hb10).al #[.int .i64 (dY ((x+1))),.int .i64 (dY ((y)))] 139).swap;have hnews:=hO2.swap.obj.news rfl;clear HK2 HO9 hb10
     go_wp2_with (at_builtin;refine aC fw rfl (.tmp 35) (.tmp 41) rfl (.slice voa S0.length voc) S0.length _ rfl hO2.row ⟨_,0,none⟩ 1 1 [.int .i64 (dY ((x+1))),.int .i64 (dY ((y)))] rfl rfl hnews (by simp[Value.oneCell']) (by unfold maxLen;omega) zo ?_)
     intro va vc w11 hown7 hgrow7 hrow7;have HO3:=zh (hO2.app hown7 hgrow7 hrow7 zS).drop2;clear hown7 hgrow7 hrow7 hO2 hnews;go_wp2;refine hX.out _ _ _ zo rfl ⟨k+1,_,zo,rfl,rfl,?_⟩;rw[HR1.out.1,HR1.out.2,HC2.out,if_pos (show (x+1)≤(y) from Hle.out)];have e:S0 ++ [jq ((x+1),(y))]=S0 ++ [(dY ((x+1)),dY ((y)))]:=rfl;rw[e,aT,List.length_append];exact HO3.out
    ·first
      | (exfalso;omega)
      | (have hdle:decide ((x+1)≤(y))=false:=decide_eq_false hle
         have Hle:=zh hle;clear hle hO8;go_wp2;refine hX.out _ _ _ zo rfl ⟨k+1,_,zo,rfl,rfl,?_⟩;rw[HR1.out.1,HR1.out.2,HC2.out,if_neg (show ¬ (x+1)≤(y) by have:=Hle.out;omega),List.append_nil];exact HO8.out)
   ·have hc2:fI (qa,qb)=((x),(y - 1)):=by rw[HC.out];simp[trimF,ex,ey]
    have HC2:=zh hc2;have HE:=zh (zi ex ey);have hf1:((x):Int) % 10000≠0:=zo;have hf2:((y - 1):Int) % 10000≠0:=zo;have HFR:=zh (zi hf1 hf2);clear hc2 HC hf1 hf2;rw[decide_eq_false ex]
    go_wp2_with fail
    refine (HW2.out _).mono ?_;rintro e w8 ⟨rfl,hb8⟩;rw[decide_eq_true ey];have hO8:=HO7.out.move hb8;have HO8:=zh hO8;clear HW2 HO7 hb8 ex ey;by_cases hle:(x)≤(y - 1)
    ·have hdle:decide ((x)≤(y - 1))=true:=decide_eq_true hle;have HK1:=zh (fun w'=>fF ((x)) w' zo zo);have HK2:=zh (fun w'=>fF ((y - 1)) w' zo zo);have Hle:=zh hle;clear hle hO8
     go_wp2_with fail
     refine (HK1.out _).mono ?_;rintro e w9 ⟨rfl,hb9⟩;have HO9:=zh (HO8.out.move hb9);clear HK1 HO8 hb9
     go_wp2_with fail
     refine (HK2.out _).mono ?_;rintro e w10 ⟨rfl,hb10⟩;have hO2:=((HO9.out.move hb10).al #[.int .i64 (dY ((x))),.int .i64 (dY ((y - 1)))] 139).swap;have hnews:=hO2.swap.obj.news rfl;clear HK2 HO9 hb10
     go_wp2_with (at_builtin;refine aC fw rfl (.tmp 35) (.tmp 41) rfl (.slice voa S0.length voc) S0.length _ rfl hO2.row ⟨_,0,none⟩ 1 1 [.int .i64 (dY ((x))),.int .i64 (dY ((y - 1)))] rfl rfl hnews (by simp[Value.oneCell']) (by unfold maxLen;omega) zo ?_)
     intro va vc w11 hown7 hgrow7 hrow7;have HO3:=zh (hO2.app hown7 hgrow7 hrow7 zS).drop2;clear hown7 hgrow7 hrow7 hO2 hnews;go_wp2;refine hX.out _ _ _ zo rfl ⟨k+1,_,zo,rfl,rfl,?_⟩;rw[HR1.out.1,HR1.out.2,HC2.out,if_pos (show (x)≤(y - 1) from Hle.out)];have e:S0 ++ [jq ((x),(y - 1))]=S0 ++ [(dY ((x)),dY ((y - 1)))]:=rfl;rw[e,aT,List.length_append];exact HO3.out
    ·first
      | (exfalso;omega)
      | (have hdle:decide ((x)≤(y - 1))=false:=decide_eq_false hle
         have Hle:=zh hle;clear hle hO8;go_wp2;refine hX.out _ _ _ zo rfl ⟨k+1,_,zo,rfl,rfl,?_⟩;rw[HR1.out.1,HR1.out.2,HC2.out,if_neg (show ¬ (x)≤(y - 1) by have:=Hle.out;omega),List.append_nil];exact HO8.out)
   ·have hc2:fI (qa,qb)=((x),(y)):=by rw[HC.out];simp[trimF,ex,ey]
    have HC2:=zh hc2;have HE:=zh (zi ex ey);have hf1:((x):Int) % 10000≠0:=zo;have hf2:((y):Int) % 10000≠0:=zo;have HFR:=zh (zi hf1 hf2);clear hc2 HC hf1 hf2;rw[decide_eq_false ex]
    go_wp2_with fail
    refine (HW2.out _).mono ?_;rintro e w8 ⟨rfl,hb8⟩;rw[decide_eq_false ey];have hO8:=HO7.out.move hb8;have HO8:=zh hO8;clear HW2 HO7 hb8 ex ey;by_cases hle:(x)≤(y)
    ·have hdle:decide ((x)≤(y))=true:=decide_eq_true hle;have HK1:=zh (fun w'=>fF ((x)) w' zo zo);have HK2:=zh (fun w'=>fF ((y)) w' zo zo);have Hle:=zh hle;clear hle hO8
     go_wp2_with fail
     refine (HK1.out _).mono ?_;rintro e w9 ⟨rfl,hb9⟩;have HO9:=zh (HO8.out.move hb9);clear HK1 HO8 hb9
     go_wp2_with fail
     refine (HK2.out _).mono ?_;rintro e w10 ⟨rfl,hb10⟩;have hO2:=((HO9.out.move hb10).al #[.int .i64 (dY ((x))),.int .i64 (dY ((y)))] 139).swap;have hnews:=hO2.swap.obj.news rfl;clear HK2 HO9 hb10
     go_wp2_with (at_builtin;refine aC fw rfl (.tmp 35) (.tmp 41) rfl (.slice voa S0.length voc) S0.length _ rfl hO2.row ⟨_,0,none⟩ 1 1 [.int .i64 (dY ((x))),.int .i64 (dY ((y)))] rfl rfl hnews (by simp[Value.oneCell']) (by unfold maxLen;omega) zo ?_)
     intro va vc w11 hown7 hgrow7 hrow7;have HO3:=zh (hO2.app hown7 hgrow7 hrow7 zS).drop2;clear hown7 hgrow7 hrow7 hO2 hnews;go_wp2;refine hX.out _ _ _ zo rfl ⟨k+1,_,zo,rfl,rfl,?_⟩;rw[HR1.out.1,HR1.out.2,HC2.out,if_pos (show (x)≤(y) from Hle.out)];have e:S0 ++ [jq ((x),(y))]=S0 ++ [(dY ((x)),dY ((y)))]:=rfl;rw[e,aT,List.length_append];exact HO3.out
    ·first
      | (exfalso;omega)
      | (have hdle:decide ((x)≤(y))=false:=decide_eq_false hle
         have Hle:=zh hle;clear hle hO8;go_wp2;refine hX.out _ _ _ zo rfl ⟨k+1,_,zo,rfl,rfl,?_⟩;rw[HR1.out.1,HR1.out.2,HC2.out,if_neg (show ¬ (x)≤(y) by have:=Hle.out;omega),List.append_nil];exact HO8.out)
  ·have hdec:decide (y<x)=true:=decide_eq_true zo;have HS:=zh (hsk zo);have HO:=zh hO;clear hcl hsk hO;go_wp2;refine hX.out _ _ _ zo rfl ⟨k+1,_,zo,rfl,rfl,?_⟩;rw[HR1.out.1,HR1.out.2,if_neg (show ¬ (fI (qa,qb)).1≤(fI (qa,qb)).2 by have:=HS.out;omega),List.append_nil];exact HO.out
 ·obtain rfl:k=F.length:=zo;rw[IL] at hO hkl ⊢;have HE:=zh (zi (Fv F) (show eB ((gY F).map jq)=lh F from rfl));have HOK:=zh (KG F);generalize (gY F).map jq=L at *
  have hst:=dM (m:=m) hO.row HOK.out;have hO1:=hO.aY;have HN:=zh (oo _ L _ wr hO1.inn hst HE.out.1 zo);have HO1:=zh hO1;clear hst hO1 hO HOK
  go_wp2_with fail
  refine HN.out.mono ?_;rintro e w2 ⟨r,rfl,hb,hr⟩;rw[HE.out.2] at hr;have hO2:=HO1.out.call hb;have Hfin:=zh (zi hO2.below (bV hO2.done hr));obtain⟨ra,rc,rfl⟩:=bU hr;clear HN HO1 HE hb hr hO2;go_wp2;exact hR.out _ _ ⟨_,rfl,Hfin.out.1,Hfin.out.2⟩
def namK (l:List Spn) (k:Nat):List Spn:=(l.take k).map dL
theorem I1 (l:List Spn) (k:Nat) (h:k<l.length):namK l (k+1)=namK l k ++ [dL l[k]]:=by
 unfold namK;rw[List.take_succ_eq_append_getElem h,List.map_append];rfl
theorem KM (l:List Spn):namK l l.length=l.map dL:=by unfold namK;rw[List.take_length]
def rkIn (s:Spn):Prop := -1000000000000002≤s.1∧s.1≤1000000000000002 ∧ -1000000000000002≤s.2∧s.2≤1000000000000002
theorem ET {l:List Spn} (h:∀s∈l,rkIn s):∀s∈l.map dL,spOk s:=fun s hs=>by
 obtain⟨t,ht,rfl⟩:=List.mem_map.1 hs;have:=h t ht;unfold rkIn at this;unfold spOk dL bF;dsimp only;omega
theorem IM (vi vf:Value) (I L:List Spn) (m:Mem) (w:World) (hm:m.inn w) (hi:dw m vi I) (hf:dw m vf L) (hin:∀s∈L,rkIn s) (hlen:L.length≤1000000) :
 Calls Tryz.prog 142 #[vi,vf] w fun e w'=>∃rf,e=.returned (.agg #[vi,rf])∧Below w.heap.size w w'∧eu (m.grow w w') vi rf I (L.map dL):=by
 have HOK:=zh (zi (ET hin) hi);obtain⟨ai,ci,rfl⟩:=bU hi;obtain⟨af,cf,rfl,i1,i2,i3⟩:=hf;unfold maxLen at i2;have HO:=zh ((((Own.start hm).al #[.slice none 0 0,.slice none 0 0] 24).al #[.slice ai I.length ci,.slice none 0 0] 24).dC 139 2);clear hi;refine av fun R hR=>?_
 go_enter Tryz.func142,Tryz.ntmps142
 go_wp2;refine au [4,5,10,11,12] (fun n vs wr=>∃(k:Nat) (vo:Value),k≤L.length∧n=L.length - k∧vs=[.pointer (some ⟨w.heap.size,0,none⟩),.pointer (some ⟨w.heap.size+1,0,none⟩),.slice af L.length cf,.int .i64 L.length,.int .i64 k] ∧
  Own w m wr m [.obj (w.heap.size+1) 24 #[.slice ai I.length ci,vo],.row vo 139 2 k (bu (namK L k)),.obj w.heap.size 24 #[.slice none 0 0,.slice none 0 0]]) ?_ ?_
 ·refine ⟨_,0,.slice none 0 0,Nat.zero_le _,rfl,rfl,?_⟩;have:=HO.out.swap;simp only[cz] at this;exact this
 clear HO;rintro X z n vs wr hX - ⟨k,vo,hk,rfl,rfl,hO⟩;simp[litL,lk];obtain⟨voa,voc,rfl⟩:=aO hO.swap.row;by_cases hlt:k<L.length
 ·obtain⟨b,off,rfl,h4⟩:=i3 (by intro h;simp[h] at hlt);have hg:=h4 k hlt;have r1:=Mem.aj hO.inn hg.1;have r2:=Mem.aj hO.inn hg.2.1;have rl:=Mem.ay hO.inn hg.1;have hso:=hin L[k] (List.getElem_mem hlt);have HS:=zh (I1 L k hlt);generalize namK L k=S0 at *
  clear h4 hg;generalize L[k]=q at *
  obtain⟨qa,qb⟩:=q;unfold rkIn at hso;simp only at r1 r2 hso;have ho2:=hO.obj;have l1:=ho2.lt;have HU1:=zh (fun w'=>oh qa w' hso.1 hso.2.1);have HU2:=zh (fun w'=>oh qb w' hso.2.2.1 hso.2.2.2);go_wp2;have hO1:=(hO.al #[.int .i64 qa,.int .i64 qb] 139).dr;refine gT (fun w'=>bz w' (w.heap.size+1) 24 #[.slice ai I.length ci,.slice voa k voc]∧bz w' wr.heap.size 139 #[.int .i64 qa,.int .i64 qb]) 12 zk ?_;have hS:=zi hO1.swap.obj hO1.obj;refine aG 0 rfl zk (fun _ _ _ h=>h) hS (aB rfl fun w' hS'=>by have q:=hS'.1.cell (i:=1) rfl;have q1:=hS'.2.cell (i:=0) rfl;have q2:=hS'.2.cell (i:=1) rfl;go_simp;rfl) ?_;refine aG 1 rfl zk (fun _ _ _ h=>h) hS (aB rfl fun w' hS'=>by have q:=hS'.1.cell (i:=1) rfl;have q1:=hS'.2.cell (i:=0) rfl;have q2:=hS'.2.cell (i:=1) rfl;go_simp;rfl) ?_;refine aG 2 rfl zk (fun _ _ _ h=>h) hS (aB rfl fun w' hS'=>by have q:=hS'.1.cell (i:=1) rfl;have q1:=hS'.2.cell (i:=0) rfl;have q2:=hS'.2.cell (i:=1) rfl;go_simp;rfl) ?_;refine aG 3 rfl zk (fun _ _ _ h=>h) hS (aB rfl fun w' hS'=>by have q:=hS'.1.cell (i:=1) rfl;have q1:=hS'.2.cell (i:=0) rfl;have q2:=hS'.2.cell (i:=1) rfl;go_simp;rfl) ?_;refine aG 5 rfl zk (fun _ _ _ h=>h) hS (aB rfl fun w' hS'=>by have q:=hS'.1.cell (i:=1) rfl;have q1:=hS'.2.cell (i:=0) rfl;have q2:=hS'.2.cell (i:=1) rfl;go_simp;rfl) ?_;refine aG 6 rfl zk (fun _ _ _ h=>h) hS (aB rfl fun w' hS'=>by have q:=hS'.1.cell (i:=1) rfl;have q1:=hS'.2.cell (i:=0) rfl;have q2:=hS'.2.cell (i:=1) rfl;go_simp;rfl) ?_;refine aW 4 zk (aP rfl rfl (gq zg (HU1.out _) ?_));rintro e w1 ⟨rfl,hb1⟩;have hO2:=hO1.move hb1;refine ⟨_,rfl,andS (zi hO2.swap.obj hO2.obj) fun hS1=>?_⟩;refine aW 7 zk (aP rfl rfl (gq zg (HU2.out _) ?_));rintro e w2 ⟨rfl,hb2⟩;have hO3:=hO2.move hb2;refine ⟨_,rfl,andS (zi hO3.swap.obj hO3.obj) fun hS2=>?_⟩;refine aG 8 rfl zk (fun _ _ _ h=>h) hS2 (aB rfl fun w' hS'=>by go_simp;rfl) ?_;refine aW 9 zk (aP rfl rfl (aM (by go_simp;exact⟨rfl,rfl⟩) (andS (zi (hO3.swap.obj.al _) (hO3.obj.al _)) fun hS3=>?_)));go_simp;have hO4:=hO3.al #[.int .i64 (bF qa),.int .i64 (bF qb)] 139;refine aW 10 zk (aP rfl rfl (eH fw (.tmp 17) (.tmp 25) rfl (.slice voa k voc) k (bu S0) rfl hO4.fourth.row ⟨w2.heap.size,0,none⟩ 1 1 [.int .i64 (bF qa),.int .i64 (bF qb)] rfl rfl (hO4.obj.news rfl) (by simp[Value.oneCell']) (by unfold maxLen;omega) zo (fun va vc w3 hown3 hgrow hrow3=>?_)));have hO5:=hO4.fourth.app hown3 hgrow hrow3 (Nat.le_refl _);refine andS (zi hO5.fourth.obj hO5.third.obj) fun hS4=>?_;refine aG 11 rfl zk (fun _ _ _ h=>h) hS4 (aB rfl fun w' hS'=>by go_simp;rfl) ?_;have f3:=hS4.1.frozen 1;have c3:=hS4.1.cell (i:=1) rfl;refine aW 12 zk (aP rfl rfl (iH (by go_simp;rfl) (p8 rfl ?_)));refine gU zk ?_ _;have hO6:=hO5.fourth.set 1 (.slice va (k+1) vc);have Hfin:=zh hO6.jJ.jJ;clear hO6 hO5 hO4 hO3 hO2 hO1 hO hown3 hgrow hrow3 hS hS1 hS2 hS3 hS4 f3 c3 ho2 hb1 hb2;go_wp2;refine hX.out _ _ _ zo rfl ⟨k+1,.slice va (k+1) vc,zo,rfl,rfl,?_⟩;rw[HS.out];have e:S0 ++ [dL (qa,qb)]=S0 ++ [(bF qa,bF qb)]:=rfl;rw[e,aT];exact Hfin.out
 ·obtain rfl:k=L.length:=zo;rw[KM] at hO;have c1:=hO.obj.cell (i:=0) rfl;have c2:=hO.obj.cell (i:=1) rfl;have g3:=hO.third.obj.cell (i:=0) rfl;have g4:=hO.third.obj.cell (i:=1) rfl;have g5:=hO.third.obj.frozen 0;have g6:=hO.third.obj.frozen 1;have g7:=hO.third.obj.lt;have hml:(L.map dL).length=L.length:=List.length_map ..;have hO4:=(hO.third.set 0 (.slice ai I.length ci)).set 1 (.slice voa L.length voc);have hst:=dM (m:=m) (l:=L.map dL) (by rw[hml];exact hO4.third.row) HOK.out.1;have hfin:eu (m.grow w _) _ _ I (L.map dL):=⟨bV hO4.done HOK.out.2,bV hO4.third.aY.done hst⟩;have g8:=hO4.obj.cell (i:=0) rfl;have g9:=hO4.obj.cell (i:=1) rfl;have Hfin:=zh (zi hO4.below hfin);clear hst hfin hO4 hO hml;go_wp2;refine bodyPost_ret (v:=.agg #[.slice ai I.length ci,.slice voa L.length voc]) (by simp[results,Tryz.results142,go_sem,g8,g9]) rfl ?_;exact hR.out _ _ ⟨_,rfl,Hfin.out.1,Hfin.out.2⟩
theorem NSok.inR {x:NS} (h:NSok x):∀s∈x.f,spIn s:=fun s hs=>by
 have h1:=h.bf s hs;have h2:=h.nf.ok s hs;simp only[qE,Aa] at h1;unfold spIn;omega
theorem NSok.rk {x:NS} (h:NSok x):∀s∈x.f,rkIn s:=fun s hs=>by
 have h1:=h.inR s hs;unfold spIn at h1;unfold rkIn;omega
theorem sI (vi vf:Value) (I F:List Spn) (m:Mem) (w:World) (hm:m.inn w) (h1:eu m vi vf I F) (hI:I.length≤100000) (hF:F.length≤100000) :
 Calls Tryz.prog 96 #[.agg #[vi,vf]] w fun e w'=>∃ri rf,e=.returned (.agg #[ri,rf])∧Below w.heap.size w w'∧eu (m.grow w w') ri rf (mkN I F).i (mkN I F).rf:=by
 have hO:=((Own.start hm).al #[vi,vf] 24).al #[.slice none 0 0,.slice none 0 0] 24;have hsz1:(w.alloc (.cells #[vi,vf] 24)).heap.size=w.heap.size+1:=by simp
 rw[hsz1] at hO;obtain⟨a1,c1,b1,d1,rfl,rfl⟩:=h1.spell;have hrk:=(DW I F).rk;have hl:=(Mj hI hF).f;have hraw:(mkN I F).i=oG I∧(mkN I F).f=lh F:=⟨rfl,rfl⟩;have HRK:=zh (zi hrk hl);clear hrk hl;have HO:=zh hO;have H1:=zh (zi hraw h1);clear hO h1 hsz1 hraw;refine av fun R hR=>?_;generalize mkN I F=x at *
 go_enter Tryz.func96,Tryz.ntmps96
 go_upto_region 1 with (fail)
 refine aR [2] (fun vs w'=>∃(mk':Mem) (ra rb:Option Addr) (rc rd:Nat),vs=[.pointer (some ⟨w.heap.size+1,0,none⟩)] ∧
  Own w m w' mk' [.obj (w.heap.size+1) 24 #[.slice ra x.i.length rc,.slice rb x.rf.length rd]] ∧
  eu mk' (.slice ra x.i.length rc) (.slice rb x.rf.length rd) x.i x.rf) ?_ ?_
 ·intro X hX;refine bv 5 5 (fun j=>[Fact.is (·=.agg #[.slice a1 I.length c1,.slice b1 F.length d1]),Fact.mem m [1] (SpV x.i),Fact.is (·=.agg #[.slice a1 I.length c1,.slice b1 F.length d1]),Fact.mem m [3] (SpV x.f),Fact.mem m [4,1,3] (NumV x.i x.rf)].getD j Fact.any) zk zk ?_ ?_
  ·intro i hi o win a wr ho RA;have HO2:=HO.out.dr.move RA.below;have p1:=HO2.swap.obj.cell (i:=0) rfl;have p2:=HO2.swap.obj.cell (i:=1) rfl;rcases (show i=0∨i=1∨i=2∨i=3∨i=4 by omega) with rfl | rfl | rfl | rfl | rfl
   ·have e1:=RA.k 1;cases ho;exact wv rfl rfl rfl
   ·have e3:a.tmps.getD 3 undef=_:=RA.d 0 rfl;cases ho;refine we rfl rfl (BV _ _ I F m wr HO2.inn H1.out.2 hI) ?_;rintro e w' ⟨r,rfl,hb,hn⟩;rw[← H1.out.1.1] at hn;exact⟨_,rfl,_,rfl,hb,pO SpV.le HO2.inn hb (Me hn)⟩
   ·have e1:=RA.k 1;cases ho;exact wv rfl rfl rfl
   ·have e5:a.tmps.getD 5 undef=_:=RA.d 2 rfl;cases ho;refine we rfl rfl (zy _ _ I F m wr HO2.inn H1.out.2 hF) ?_;rintro e w' ⟨r,rfl,hb,hn⟩;rw[← H1.out.1.2] at hn;exact⟨_,rfl,_,rfl,hb,pO SpV.le HO2.inn hb (Me hn)⟩
   ·have e4:(Fact.mem m [1] (SpV x.i)).holds (a.tmps.getD 4 undef) win wr:=RA.d 1 rfl;have e6:(Fact.mem m [3] (SpV x.f)).holds (a.tmps.getD 6 undef) win wr:=RA.d 3 rfl;cases ho;obtain⟨r1,s1,k1,t1⟩:SpV _ _ _:=e4;obtain⟨r2,s2,k2,t2⟩:SpV _ _ _:=e6;refine we rfl rfl (IM _ _ x.i x.f (m.wins wr win [1,3]) wr (Mem.lK HO2.inn win [1,3]) (bV (Mem.rD (es:=[1,3]) HO2.inn win zS) t1) (bV (Mem.rD (es:=[1,3]) HO2.inn win zS) t2) HRK.out.1 (by have:=HRK.out.2;omega)) ?_;rintro e w' ⟨rf,rfl,hb,hn⟩;exact⟨_,rfl,_,rfl,hb,KQ (ds:=[1,3]) NumV.le HO2.inn zS (fun d hd=>(RA.rng d (by simp at hd;rcases hd with rfl | rfl <;> kernel_rfl)).2.2) hb (Cf hn)⟩
  ·intro win a wr E;have e2:=E.keep 2 zk;have e7:(Fact.mem m [4,1,3] (NumV x.i x.rf)).holds (a.tmps.getD 7 undef) win wr:=E.fact 4 _ zo rfl;obtain⟨ra,rc,rb,rd,f1,st1⟩:NumV _ _ _ _:=e7;have hO1:=HO.out.drop2.dr.region E.below win [4,1,3] (fun d hd=>(E.rng d (by simp at hd;omega)).1);have HE:=zh E;generalize m.wins wr win [4,1,3]=mk2 at *
   have HK:=zh st1;clear E st1;have b1:=hO1.obj.frozen 0;have b1':=hO1.obj.frozen 1;have b2:=hO1.obj.cell (i:=0) rfl;have b2':=hO1.obj.cell (i:=1) rfl;have b3:=hO1.obj.lt;have hO3:=(hO1.set 0 (.slice ra x.i.length rc)).set 1 (.slice rb x.rf.length rd);refine il 5 zk (aP rfl rfl (iH zg ?_));obtain⟨t,d⟩:=a;obtain rfl:d=[]:=HE.out.defers;refine dH zk (hX.out _ _ HE.out.size ⟨mk2,ra,rb,rc,rd,?_,hO3,HK.out⟩) _;simp only[List.map_cons,List.map_nil,e2]
   rfl
 rintro z2 vs w2 - ⟨mk',ra,rb,rc,rd,rfl,hO,hr⟩;simp[litL,lk];have g5:=hO.obj.cell (i:=0) rfl;have g6:=hO.obj.cell (i:=1) rfl;have Hk:=zh (zi hO.below (hr.le hO.done));clear hO hr HO;go_wp2;refine bodyPost_ret (v:=.agg #[.slice ra x.i.length rc,.slice rb x.rf.length rd]) (by simp[results,Tryz.results96,go_sem,g5,g6]) rfl ?_;exact hR.out _ _ ⟨_,_,rfl,Hk.out.1,Hk.out.2⟩
theorem nZ (v v':Value) (l l':List Spn) (m:Mem) (w:World) (hm:m.inn w) (hl:dw m v l) (hl':dw m v' l') :
 Calls Tryz.prog 141 #[v,v'] w fun e w'=>e=.returned (.bool (tf (l=l')))∧Below w.heap.size w w':=by
 obtain⟨a,c,rfl,h1,h2,h3⟩:=hl;obtain⟨a',c',rfl,h1',h2',h3'⟩:=hl';unfold maxLen at h2 h2';refine av fun R hR=>?_;by_cases hlen:l.length=l'.length
 ·have hne:((l.length:Int) != (l'.length:Int))=false:=by simp[hlen]
  have Hlen:=zh hlen;clear hlen
  go_enter Tryz.func141,Tryz.ntmps141
  go_wp2;refine au [0,1,12,13] (fun n vs wr=>∃k:Nat,k≤l.length∧n=l.length - k∧vs=[.slice a l.length c,.slice a' l'.length c',.int .i64 l.length,.int .i64 k]∧(l=l'↔l.drop k=l'.drop k)∧Below w.heap.size w wr) ?_ ?_
  ·exact⟨_,0,Nat.zero_le _,rfl,rfl,Iff.rfl,Below.refl _ _⟩
  rintro X z n vs wr hX - ⟨k,hk,rfl,rfl,hrel,hbel⟩;have Hrel:=zh hrel;clear hrel;simp[litL,lk];have hmr:=Mem.bB hm hbel;by_cases hlt:k<l.length
  ·have hlt':k<l'.length:=by rw[← Hlen.out];exact hlt
   obtain⟨b,off,rfl,h4⟩:=h3 (by intro h;simp[h] at hlt);obtain⟨b',off',rfl,h4'⟩:=h3' (by intro h;simp[h] at hlt');obtain⟨g1,g2,-⟩:=h4 k hlt;obtain⟨g1',g2',-⟩:=h4' k hlt';have c1:=Mem.aj hmr g1;have c2:=Mem.aj hmr g2;have c1':=Mem.aj hmr g1';have c2':=Mem.aj hmr g2';have HD:=zh (eU l l' k hlt hlt');have hq:=fun w=>yV (l[k].1) (l[k].2) (l'[k].1) (l'[k].2) w;have hgd:=Aj;have He:=zh (Mr l[k] l'[k]);go_wp2
   go_quiet (fail)
   go_wp2
   ·refine hR.out _ _ ⟨aJ ?_,below_drewN hbel _⟩;rw[az];intro h;have h5:=He.out.1 (HD.out.1 (Hrel.out.1 h)).1;have h6:=‹(!l[k].1==l'[k].1)=true∨_›;simp[h5] at h6
   ·refine hX.out _ _ _ zo rfl ⟨k+1,zo,rfl,rfl,?_,below_drewN hbel _⟩;have h6:=‹(!l[k].1==l'[k].1)=false∧_›;simp at h6;exact Hrel.out.trans (HD.out.trans ⟨fun h=>h.2,fun h=>⟨He.out.2 zo,h⟩⟩)
  ·go_wp2;refine hR.out _ _ ⟨aJ ?_,hbel⟩;rw[aH (Hrel.out.2 ?_)];rw[List.drop_eq_nil_of_le zo,List.drop_eq_nil_of_le (by rw[← Hlen.out];omega)]
 ·have hne:((l.length:Int) != (l'.length:Int))=true:=by simp;omega
  go_enter Tryz.func141,Tryz.ntmps141
  go_wp2;exact hR.out _ _ ⟨aJ (by rw[az (fun h=>hlen (by rw[h]))]),Below.refl _ _⟩
theorem BU (vi vf ui uf:Value) (I F J G:List Spn) (m:Mem) (w:World) (hm:m.inn w) (h1:eu m vi vf I F) (h2:eu m ui uf J G) :
 Calls Tryz.prog 95 #[.agg #[vi,vf],.agg #[ui,uf]] w fun e w'=>e=.returned (.bool (tf (I=J∧F=G)))∧Below w.heap.size w w':=by
 have hO:=((Own.start hm).al #[vi,vf] 24).al #[ui,uf] 24;have hsz1:(w.alloc (.cells #[vi,vf] 24)).heap.size=w.heap.size+1:=by simp
 rw[hsz1] at hO;have HA:=zh (nZ _ _ I J m _ hO.inn h1.i h2.i);have HB:=zh (fun w' (h:m.inn w')=>nZ _ _ F G m w' h h1.f h2.f);obtain⟨a1,c1,b1,d1,rfl,rfl⟩:=h1.spell;obtain⟨a2,c2,b2,d2,rfl,rfl⟩:=h2.spell;have HO:=zh hO;clear hO hsz1 h1 h2;refine av fun R hR=>?_
 go_enter Tryz.func95,Tryz.ntmps95
 go_wp2_with fail
 refine HA.out.mono ?_;rintro e w1 ⟨rfl,hb1⟩;have hO1:=HO.out.move hb1;by_cases e1:I=J
 ·rw[aH e1];have HB1:=zh (HB.out w1 hO1.inn);have q0:=hO1.obj.cell (i:=1) rfl;have q1:=hO1.swap.obj.cell (i:=1) rfl;have HO1:=zh hO1;have E1:=zh e1;clear HO hO1 hb1 HA HB e1
  go_wp2_with fail
  refine HB1.out.mono ?_;rintro e w2 ⟨rfl,hb2⟩;have Hb:=zh (HO1.out.move hb2).below;clear HO1 hb2 HB1 q0 q1;go_wp2;exact hR.out _ _ ⟨aJ (bg ⟨fun h=>⟨E1.out,h⟩,fun h=>h.2⟩),Hb.out⟩
 ·rw[az e1];have Hb:=zh hO1.below;have E1:=zh e1;clear HO hO1 hb1 HA HB e1;go_wp2;exact hR.out _ _ ⟨aJ (by rw[az (fun h=>E1.out h.1)]),Hb.out⟩
theorem zx (vi vf:Value) (I F:List Spn) (m:Mem) (w:World) (hm:m.inn w) (h1:eu m vi vf I F) (hI:I.length≤100000) (hF:F.length≤100000) :
 Calls Tryz.prog 63 #[.agg #[vi,vf]] w fun e w'=>e=.returned (.bool (tf (I=(mkN I F).i∧F=(mkN I F).rf)))∧Below w.heap.size w w':=by
 have hO:=(Own.start hm).al #[vi,vf] 24;obtain⟨a1,c1,b1,d1,rfl,rfl⟩:=h1.spell;have HO:=zh hO;have H1:=zh h1;clear hO h1;refine av fun R hR=>?_
 go_enter Tryz.func63,Tryz.ntmps63
 go_upto_region 1 with (fail)
 refine aR [2] (fun vs w'=>vs=[.bool (tf (I=(mkN I F).i∧F=(mkN I F).rf))]∧Below w.heap.size w w') ?_ ?_
 ·intro Y hY;refine bv 5 5 (fun j=>[Fact.is (·=.agg #[.slice a1 I.length c1,.slice b1 F.length d1]),Fact.is (·=.agg #[.slice a1 I.length c1,.slice b1 F.length d1]),Fact.mem m [2] (NumV (mkN I F).i (mkN I F).rf),Fact.is (·=.bool (tf (I=(mkN I F).i∧F=(mkN I F).rf))),Fact.is (·=.bool (tf (I=(mkN I F).i∧F=(mkN I F).rf)))].getD j Fact.any) zk zk ?_ ?_
  ·intro i hi o win a wr ho RA;have HO3:=HO.out.dr.move RA.below;have q1:=HO3.obj.cell (i:=0) rfl;have q2:=HO3.obj.cell (i:=1) rfl;rcases (show i=0∨i=1∨i=2∨i=3∨i=4 by omega) with rfl | rfl | rfl | rfl | rfl
   ·have e1:=RA.k 1;cases ho;exact wv rfl rfl rfl
   ·have e1:=RA.k 1;cases ho;exact wv rfl rfl rfl
   ·have e4:a.tmps.getD 4 undef=_:=RA.d 1 rfl;cases ho;refine we rfl rfl (sI _ _ I F m wr HO3.inn H1.out hI hF) ?_;rintro e w' ⟨ri,rf,rfl,hb,hn⟩;exact⟨_,rfl,_,rfl,hb,pO NumV.le HO3.inn hb (Cf hn)⟩
   ·have e3:a.tmps.getD 3 undef=_:=RA.d 0 rfl;have e5:(Fact.mem m [2] (NumV (mkN I F).i (mkN I F).rf)).holds (a.tmps.getD 5 undef) win wr:=RA.d 2 rfl;cases ho;obtain⟨x1,y1,x2,y2,f1,s1⟩:NumV _ _ _ _:=e5;have s0:=H1.out.le (Mem.xA HO3.inn win [2]);refine we rfl rfl (BU _ _ _ _ I F (mkN I F).i (mkN I F).rf _ wr (Mem.lK HO3.inn win [2]) s0 s1) ?_;rintro e w' ⟨rfl,hb⟩;exact⟨_,rfl,_,rfl,hb,rfl⟩
   ·have e6:a.tmps.getD 6 undef=_:=RA.d 3 rfl;cases ho;exact wv rfl rfl rfl
  ·intro win a wr E;have e2:a.tmps.getD 2 undef=.bool (tf (I=(mkN I F).i∧F=(mkN I F).rf)):=E.fact 4 _ zo rfl;obtain⟨t1,d⟩:=a;obtain rfl:d=[]:=E.defers;refine dH zk (hY.out _ _ E.size ⟨?_,(HO.out.dr.move E.below).below⟩) _;simp only[List.map_cons,List.map_nil,e2]
 rintro z vs w1 - ⟨rfl,hb⟩;simp[litL,lk];have Hb:=zh hb;clear hb HO;go_wp2;exact hR.out _ _ ⟨rfl,Hb.out⟩
end Cl
