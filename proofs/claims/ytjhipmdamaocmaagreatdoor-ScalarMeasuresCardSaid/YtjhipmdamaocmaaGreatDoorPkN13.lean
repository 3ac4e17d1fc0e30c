/- Lemmas for the proofs of chapter 11. -/
import Derived.Test.YtjhipmdamaocmaaGreatDoorPkN12
set_option maxRecDepth 100000
set_option maxHeartbeats 16000000
namespace Cl
open Go Go.RowKit Go.Proofs
theorem bZ (w:World) (o:Obj):(w.alloc o).heap.size=w.heap.size+1:=by simp
theorem iD (u:Int) (w:World) (h1 : -1000000000000002≤u) (h2:u≤1000000000000002) :
 Calls Tryz.prog 280 #[.int .i64 u] w fun e w'=>e=.returned (.int .i64 (fA u))∧Below w.heap.size w w':=by
 have HF:=zh (fun w'=>nR u w' h1 h2);refine aj fun R hR=>?_
 go_enter Tryz.func280,Tryz.ntmps280
 go_wp2_with fail
 refine (HF.out _).mono ?_;rintro e w1 ⟨rfl,hb⟩;go_wp2;refine hR.out _ _ ⟨dB ?_,hb⟩;unfold fA;omega
theorem ry (k:Int) (w:World) (h1 : -1000000000000002≤k) (h2:k≤1000000000000002) :
 Calls Tryz.prog 278 #[.int .i64 k] w fun e w'=>e=.returned (.int .i64 (bL k))∧Below w.heap.size w w':=by
 refine aj fun R hR=>?_;have e1:=zh (Sr k);have e2:=zh (Sq k)
 go_enter Tryz.func278,Tryz.ntmps278
 go_wp2
 all_goals refine hR.out _ _ ⟨dB ?_,zP _ _⟩
 all_goals simp only[e1.out,e2.out] at *
 all_goals unfold bL
 all_goals (repeat' split) <;> first | omega | (unfold wrap64;omega)
theorem rz (va:Value) (l:List Spn) (m:Mem) (w:World) (hm:m.inn w) (hl:bM m va l) (hin:∀s∈l,pI s) (hlen:l.length≤1000000) :
 Calls Tryz.prog 279 #[va] w fun e w'=>∃r,e=.returned r∧Below w.heap.size w w'∧bM (m.grow w w') r (fP l):=by
 have HOK:=zh (fun k=>Eo (pI.take hin k));have HLN:=zh (fun k=>kN (l.take k));have HIN:=zh hin;clear hin;obtain⟨aa,ac,rfl,a1,a2,a3⟩:=hl;unfold maxLen at a2;have HO:=zh (Own.start hm);refine aj fun R hR=>?_
 go_enter Tryz.func279,Tryz.ntmps279
 go_wp2;refine au [3,10,11,12] (fun n vs wr=>∃(k:Nat) (vo:Value) (mk1:Mem),k≤l.length∧n=l.length - k∧vs=[vo,.slice aa l.length ac,.int .i64 l.length,.int .i64 k] ∧
  bM mk1 vo (fP (l.take k))∧m.le mk1∧Own w m wr mk1 []) ?_ ?_
 ·exact⟨_,0,.slice none 0 0,m,zC _,rfl,rfl,aV m,Mem.le_refl m,HO.out⟩
 clear HO hm;rintro X z n vs wr hX - ⟨k,vo,mk1,hk,rfl,rfl,hvo,hle,hO⟩;simp[litL,lk];by_cases hlt:k<l.length
 ·obtain⟨b,off,rfl,h4⟩:=a3 (by intro h;simp[h] at hlt);have hgk:=h4 k hlt;have r1:=Mem.ak hO.inn (Mem.aB hle hgk.1);have r2:=Mem.ak hO.inn (Mem.aB hle hgk.2.1);have rl:=Mem.ay hO.inn (Mem.aB hle hgk.1);have hsp:=HIN.out l[k] (zB hlt);have hst:=Em l k hlt;have hol:=HLN.out k;rw[List.length_take] at hol;have hoe:=HOK.out k;have hoe2:=HOK.out (k+1);generalize hE:fP (l.take (k+1))=OUT2 at *
  generalize fP (l.take k)=OUT at *
  clear h4 hgk;generalize l[k]=q at *
  obtain⟨qa,qb⟩:=q;unfold pI at hsp;simp only at r1 r2 hsp hst;obtain⟨oa,oc,rfl,o1,o2,o3⟩:=hvo;unfold maxLen at o2;have hO1:=hO.al #[.int .i64 qa,.int .i64 qb] 153;by_cases hxy:qb<qa
  ·have hdec:decide (qb<qa)=true:=zL hxy;rw[zI hxy] at hst;have HV:=zh (zi (show bM mk1 (.slice oa OUT.length oc) OUT2 from by rw[hst];exact⟨oa,oc,rfl,o1,by unfold maxLen;omega,o3⟩) hO1.tail);clear hxy hO hO1 o3;go_wp2;exact hX.out _ _ _ zo rfl ⟨k+1,_,mk1,zo,rfl,rfl,by rw[hE];exact HV.out.1,hle,HV.out.2⟩
  ·have hdec:decide (qb<qa)=false:=zK hxy;rw[zH hxy] at hst;have hb:=hsp zo;have hil:=vL OUT (qa,qb) false;rw[← hst] at hil;have HO1:=zh ((hO1.dI 153 2).swap);have HST:=zh hst;clear hO hO1 hst;go_wp2;generalize hS:wr.heap.size=S at *
   refine au [5,6,7,10,11,12,21,22,23] (fun n vs wr=>∃(j:Nat) (sa sb:Int) (d:Bool) (nx:List Spn) (vn:Value),j≤OUT.length∧n=OUT.length - j∧vs=[.pointer (some ⟨S,0,none⟩),vn,.bool d,.slice (some ⟨b,off,none⟩) l.length ac,.int .i64 l.length,.int .i64 k,.slice oa OUT.length oc,.int .i64 OUT.length,.int .i64 j] ∧
    nx ++ insS (sa,sb) d (OUT.drop j)=OUT2 ∧ -1000000000000002≤sa∧sa≤sb∧sb≤1000000000000002∧Own w m wr mk1 [.obj S 153 #[.int .i64 sa,.int .i64 sb],.row vn 153 2 nx.length (aS nx)]) ?_ ?_
   ·exact⟨_,0,qa,qb,false,[],.slice none 0 0,zC _,rfl,rfl,HST.out.symm,hb.1,zo,hb.2,HO1.out⟩
   clear HO1 HST hS hsp hb r1 r2 rl hdec hxy;rintro Y z2 n vs w6 hY - ⟨j,sa,sb,d,nx,vn,hj,rfl,rfl,hg,b1,b2,b3,hO⟩;simp[litL,lk];have hnl:nx.length≤OUT2.length:=by rw[← hg,zJ];omega
   obtain⟨voa,voc,rfl⟩:=aM hO.swap.row;by_cases hlj:j<OUT.length
   ·obtain⟨b',off',rfl,h4⟩:=o3 (by intro h;simp[h] at hlj);have hgj:=h4 j hlj;have r1:=Mem.ak hO.inn hgj.1;have r2:=Mem.ak hO.inn hgj.2.1;have rl:=Mem.ay hO.inn hgj.1;have hx:=hoe OUT[j] (zB hlj);rw[Nc OUT j hlj] at hg;have HG:=zh hg;clear h4 hgj hg;generalize OUT[j]=x at *
    obtain⟨xa,xb⟩:=x;simp only at r1 r2 hx;have hO1:=hO.al #[.int .i64 xa,.int .i64 xb] 153;by_cases hA:xb+1<sa
    ·have hdA:decide (xb+1<sa)=true:=zL hA;have hO2:=(hO1.al #[.int .i64 xa,.int .i64 xb] 153).fourth
     try simp only[bZ] at hO2
     have hnews:=hO2.swap.obj.news rfl;have q1:=hO1.swap.obj.c 0;have q3:=hO1.swap.obj.lt;have Hxy:=zh hA;clear hA hO hO1
     go_wp2_with (at_builtin;refine aA eX rfl (.tmp 33) (.tmp 35) rfl (.slice voa nx.length voc) nx.length _ rfl hO2.row ⟨_,0,none⟩ 1 1 [.int .i64 xa,.int .i64 xb] rfl rfl hnews (by simp[Value.oneCell']) (by unfold maxLen;omega) zo ?_)
     intro va vc w7 hown7 hgrow7 hrow7;have HO3:=zh (hO2.app hown7 hgrow7 hrow7 zS).fourth.kV.kV;clear hO2 hown7 hgrow7 hrow7 hnews q1 q3;go_wp2;refine hY.out _ _ _ zo rfl ⟨j+1,sa,sb,d,nx ++ [(xa,xb)],_,zo,rfl,rfl,?_,b1,b2,b3,?_⟩
     ·rw[← HG.out,zI (show xb+1<sa from Hxy.out),List.append_assoc];rfl
     ·rw[aX,zJ];exact HO3.out
    ·have hdA:decide (xb+1<sa)=false:=zK hA;by_cases hB:sb+1<xa
     ·have hdB:decide (sb+1<xa)=true:=zL hB;have Hxy:=zh (zi hA hB);clear hA hB
      cases d with
      | true=>
       have hO2:=(hO1.al #[.int .i64 xa,.int .i64 xb] 153).fourth
       try simp only[bZ] at hO2
       have hnews:=hO2.swap.obj.news rfl;have q1:=hO1.swap.obj.c 0;have q2:=hO1.swap.obj.c 1;have q3:=hO1.swap.obj.lt;clear hO hO1
       go_wp2_with (at_builtin;refine aA eX rfl (.tmp 49) (.tmp 51) rfl (.slice voa nx.length voc) nx.length _ rfl hO2.row ⟨_,0,none⟩ 1 1 [.int .i64 xa,.int .i64 xb] rfl rfl hnews (by simp[Value.oneCell']) (by unfold maxLen;omega) zo ?_)
       intro va vc w7 hown7 hgrow7 hrow7;have HO3:=zh (hO2.app hown7 hgrow7 hrow7 zS).fourth.kV.kV;clear hO2 hown7 hgrow7 hrow7 hnews q1 q2 q3;go_wp2;refine hY.out _ _ _ zo rfl ⟨j+1,sa,sb,true,nx ++ [(xa,xb)],_,zo,rfl,rfl,?_,b1,b2,b3,?_⟩
       ·rw[← HG.out,zH (show ¬ xb+1<sa by have:=Hxy.out.1;omega),zI (show sb+1<xa from Hxy.out.2),List.append_assoc];rfl
       ·rw[aX,zJ]
        exact HO3.out
      | false=>
       have hO2:=(hO1.al #[.int .i64 sa,.int .i64 sb] 153).fourth
       try simp only[bZ] at hO2
       have hnews:=hO2.swap.obj.news rfl;have q1:=hO1.swap.obj.c 0;have q2:=hO1.swap.obj.c 1;have q3:=hO1.swap.obj.lt;clear hO hO1
       go_wp2_with (at_builtin;refine aA eX rfl (.tmp 45) (.tmp 47) rfl (.slice voa nx.length voc) nx.length _ rfl hO2.row ⟨_,0,none⟩ 1 1 [.int .i64 sa,.int .i64 sb] rfl rfl hnews (by simp[Value.oneCell']) (by unfold maxLen;omega) zo ?_)
       intro va vc w7 hown7 hgrow7 hrow7;have hO3:=(hO2.app hown7 hgrow7 hrow7 zS).drop2;clear hO2 hown7 hgrow7 hrow7 hnews q1 q2 q3;have q4:=hO3.swap.obj.c 0;have q5:=hO3.swap.obj.c 1;have q6:=hO3.swap.obj.lt;have hO4:=(hO3.al #[.int .i64 xa,.int .i64 xb] 153).swap
       try simp only[bZ] at hO4
       have hnews:=hO4.swap.obj.news rfl;clear hO3
       go_wp2_with (at_builtin;refine aA eX rfl (.tmp 49) (.tmp 51) rfl (.slice va (nx.length+1) vc) (nx.length+1) _ rfl hO4.row ⟨_,0,none⟩ 1 1 [.int .i64 xa,.int .i64 xb] rfl rfl hnews (by simp[Value.oneCell']) (by unfold maxLen;omega) zo ?_)
       intro va2 vc2 w8 hown8 hgrow8 hrow8;have HO3:=zh (hO4.app hown8 hgrow8 hrow8 zS).fourth.kV.kV;clear hO4 hown8 hgrow8 hrow8 hnews q4 q5 q6;go_wp2;refine hY.out _ _ _ zo rfl ⟨j+1,sa,sb,true,nx ++ [(sa,sb)] ++ [(xa,xb)],_,zo,rfl,rfl,?_,b1,b2,b3,?_⟩
       ·rw[← HG.out,zH (show ¬ xb+1<sa by have:=Hxy.out.1;omega),zI (show sb+1<xa from Hxy.out.2)];simp
       ·rw[aX,aX,zJ,zJ,List.append_assoc];exact HO3.out
     ·have hdB:decide (sb+1<xa)=false:=zK hB;have q1:=hO1.swap.obj.c 0;have q2:=hO1.swap.obj.c 1;have q3:=hO1.swap.obj.lt;have q4:=hO1.swap.obj.frozen 0;have q5:=hO1.swap.obj.frozen 1;have hne:S≠w6.heap.size:=by have:=hO.obj.lt;omega
      have hne2:w6.heap.size≠S:=fun e=>hne e.symm;have HO1:=zh hO1.tail;have HN:=zh (zi hA hB);clear hO hO1;go_wp2
      all_goals refine hY.out _ _ _ zo rfl ⟨j+1,_,_,d,nx,_,zo,rfl,rfl,?_,?_,?_,?_,(HO1.out.set 0 (.int .i64 _)).set 1 (.int .i64 _)⟩
      all_goals try omega
      all_goals refine Eq.trans (congrArg (fun p=>nx ++ insS p d (OUT.drop (j+1))) (Prod.ext ?_ ?_)) ((congrArg (fun p=>nx ++ p) ((zH (show ¬ xb+1<sa by have:=HN.out.1;omega)).trans (zH (show ¬ sb+1<xa by have:=HN.out.2;omega)))).symm.trans HG.out)
      all_goals (simp only <;> omega)
   ·obtain rfl:j=OUT.length:=zo;rw[Py] at hg
    cases d with
    | true=>
     simp only[if_true,yM] at hg;subst hg;have hst:=cz (m:=mk1) (l:=nx) hO.swap.row (fun s hs=>by have:=hoe2 s hs;unfold spOk;omega);have hle0:=Mem.dG (w:=w6) hO.swap.free;have HV:=zh (zi hst (zi (Mem.le_trans hle hle0) hO.swap.bv.tail));clear hO hst hle0;go_wp2
     exact hX.out _ _ _ zo rfl ⟨k+1,_,_,zo,rfl,rfl,by rw[hE];exact HV.out.1,HV.out.2.1,HV.out.2.2⟩
    | false=>
     simp only[Bool.false_eq_true,if_false] at hg;have hO2:=(hO.al #[.int .i64 sa,.int .i64 sb] 153).third
     try simp only[bZ] at hO2
     have hnews:=hO2.swap.obj.news rfl;have q1:=hO.obj.c 0;have q2:=hO.obj.c 1;have q3:=hO.obj.lt;clear hO
     go_wp2_with (at_builtin;refine aA eX rfl (.tmp 68) (.tmp 70) rfl (.slice voa nx.length voc) nx.length _ rfl hO2.row ⟨_,0,none⟩ 1 1 [.int .i64 sa,.int .i64 sb] rfl rfl hnews (by simp[Value.oneCell']) (by unfold maxLen;omega) zo ?_)
     intro va vc w7 hown7 hgrow7 hrow7;have hO3:=(hO2.app hown7 hgrow7 hrow7 zS).drop2.drop2;have e:nx.length+1=OUT2.length:=by rw[← hg,zJ];rfl
     have hO4:Own w m w7 mk1 [.row (.slice va (nx.length+1) vc) 153 2 OUT2.length (aS OUT2)]:=by
      rw[← hg,aX,zJ];exact hO3
     rw[e] at hO4 ⊢;have hst:=cz (m:=mk1) (l:=OUT2) hO4.row (fun s hs=>by have:=hoe2 s hs;unfold spOk;omega);have hle0:=Mem.dG (w:=w7) hO4.free;have HV:=zh (zi hst (zi (Mem.le_trans hle hle0) hO4.bv));clear hO3 hO2 hown7 hgrow7 hrow7 hnews hO4 hst hle0 q1 q2 q3;go_wp2;exact hX.out _ _ _ zo rfl ⟨k+1,_,_,zo,rfl,rfl,by rw[hE];exact HV.out.1,HV.out.2.1,HV.out.2.2⟩
 ·obtain rfl:k=l.length:=zo;rw[yB] at hvo;have Hfin:=zh (zi hO.below (aW hO.done hvo));clear hO hvo;go_wp2;exact hR.out _ _ ⟨_,rfl,Hfin.out.1,Hfin.out.2⟩
def xZ (l:List Spn) (k:Nat):List Spn:=(l.take k).map lL
theorem NZ (l:List Spn) (k:Nat) (h:k≤l.length):(xZ l k).length=k:=by simp[xZ];omega
theorem K5 (l:List Spn) (k:Nat) (h:k<l.length):xZ l (k+1)=xZ l k ++ [lL l[k]]:=by
 unfold xZ;rw[zF h,yD];rfl
theorem N7 (l:List Spn):xZ l l.length=l.map lL:=by unfold xZ;rw[yB]
theorem K6 (l:List Spn):∀s∈l.map lL,pI s:=fun s hs=>by
 obtain⟨t,-,rfl⟩:=List.mem_map.1 hs;unfold pI lL fG;dsimp only;omega
theorem PT {l:List Spn} (h:∀s∈l,spOk s):∀s∈l.map lL,spOk s:=fun s hs=>by
 obtain⟨t,ht,rfl⟩:=List.mem_map.1 hs;have:=h t ht;unfold spOk lL fG at *;dsimp only;omega
theorem wK (vi vf:Value) (I F:List Spn) (m:Mem) (w:World) (hm:m.inn w) (hN:bu m vi vf I F) (hI:I.length≤100000) :
 Calls Tryz.prog 218 #[.agg #[vi,vf]] w fun e w'=>∃r,e=.returned r∧Below w.heap.size w w'∧bM (m.grow w w') r (lD I):=by
 have hO:=((Own.start hm).al #[vi,vf] 24).dI 153 2;obtain⟨hi,hf⟩:=hN;obtain⟨af,cf,rfl⟩:=bO hf;have HOK:=zh (PT (jf hi));obtain⟨ai,ci,rfl,i1,i2,i3⟩:=hi;unfold maxLen at i2;have HO:=zh hO;clear hO hf;refine aj fun R hR=>?_
 go_enter Tryz.func218,Tryz.ntmps218
 go_wp2;refine au [3,7,8,9] (fun n vs wr=>∃(k:Nat) (vo:Value),k≤I.length∧n=I.length - k∧vs=[vo,.slice ai I.length ci,.int .i64 I.length,.int .i64 k] ∧
  Own w m wr m [.row vo 153 2 (xZ I k).length (aS (xZ I k))]) ?_ ?_
 ·exact⟨_,0,.slice none 0 0,zC _,rfl,rfl,HO.out.drop2⟩
 clear HO;rintro X z n vs wr hX - ⟨k,vo,hk,rfl,rfl,hO⟩;simp[litL,lk];obtain⟨voa,voc,rfl⟩:=aM hO.row;have hkl:(xZ I k).length≤100000:=by rw[NZ I k hk];omega
 by_cases hlt:k<I.length
 ·obtain⟨b,off,rfl,h4⟩:=i3 (by intro h;simp[h] at hlt);have hg:=h4 k hlt;have r1:=Mem.ak hO.inn hg.1;have r2:=Mem.ak hO.inn hg.2.1;have rl:=Mem.ay hO.inn hg.1;have hso:spOk I[k]:=hg.2.2;have Hstep:=zh (K5 I k hlt);generalize xZ I k=S0 at *
  clear h4 hg;generalize I[k]=q at *
  obtain⟨qa,qb⟩:=q;unfold spOk at hso;simp only at r1 r2 hso;have hO1:=hO.al #[.int .i64 qa,.int .i64 qb] 153;have q1:=hO1.obj.c 0;have q2:=hO1.obj.c 1;have q3:=hO1.obj.lt;have HO1:=zh hO1;clear hO hO1;have hO2:=(HO1.out.al #[.int .i64 (max qa (-100000000000)),.int .i64 (min qb 100000000000)] 153).third;simp only[bZ] at hO2;have hnews:=hO2.swap.obj.news rfl
  go_wp2_with (at_builtin;refine aA eX rfl (.tmp 13) (.tmp 21) rfl (.slice voa S0.length voc) S0.length _ rfl hO2.row ⟨_,0,none⟩ 1 1 [.int .i64 (max qa (-100000000000)),.int .i64 (min qb 100000000000)] rfl rfl hnews (by simp[Value.oneCell']) (by unfold maxLen;omega) zo ?_)
  intro va vc w7 hown7 hgrow7 hrow7;have HO3:=zh (hO2.app hown7 hgrow7 hrow7 zS).drop2.drop2;clear hown7 hgrow7 hrow7 HO1 q1 q2 q3 hO2 hnews;go_wp2;refine hX.out _ _ _ zo rfl ⟨k+1,_,zo,rfl,rfl,?_⟩;rw[Hstep.out,aX,zJ];exact HO3.out
 ·obtain rfl:k=I.length:=zo;have HE:=zh (zi (K6 I) (En I));rw[N7] at hO hkl ⊢;generalize I.map lL=L at *
  have hst:=cz (m:=m) hO.row HOK.out;have hO1:=hO.bv;have HN:=zh (rz _ L _ wr hO1.inn hst HE.out.1 zo);have HO1:=zh hO1;clear hst hO1 hO HOK
  go_wp2_with fail
  refine HN.out.mono ?_;rintro e w2 ⟨r,rfl,hb,hr⟩;rw[HE.out.2] at hr;have hO2:=HO1.out.call hb;have Hfin:=zh (zi hO2.below (aW hO2.done hr));obtain⟨ra,rc,rfl⟩:=bO hr;clear HN HO1 HE hb hr hO2;go_wp2;exact hR.out _ _ ⟨_,rfl,Hfin.out.1,Hfin.out.2⟩
def wG (l:List Spn) (k:Nat):List Spn:=(jM (l.take k)).map lJ
theorem Mq (l:List Spn) (k:Nat) (h:k≤l.length):(wG l k).length≤k:=by unfold wG;rw[List.length_map];exact Dk h
theorem J4 (l:List Spn) (k:Nat) (h:k<l.length):wG l (k+1)=wG l k ++ if (iH l[k]).1≤(iH l[k]).2 then [lJ (iH l[k])] else []:=by
 unfold wG;rw[Bc l k h,yD]
 split <;> rfl
theorem Mr (l:List Spn):wG l l.length=(jM l).map lJ:=by unfold wG;rw[yB]
theorem J5 (l:List Spn):∀s∈(jM l).map lJ,pI s:=fun s hs=>by
 have:=wH s hs;simp only[jT,nX] at this;unfold pI;omega
theorem Pb (l:List Spn):∀s∈(jM l).map lJ,spOk s:=fun s hs=>by
 have h1:=wH s hs;have h2:=Mo s hs;simp only[jT,nX] at h1;unfold spOk;omega
theorem uG (vi vf:Value) (I F:List Spn) (m:Mem) (w:World) (hm:m.inn w) (hN:bu m vi vf I F) (hF:F.length≤100000) :
 Calls Tryz.prog 219 #[.agg #[vi,vf]] w fun e w'=>∃r,e=.returned r∧Below w.heap.size w w'∧bM (m.grow w w') r (jN F):=by
 have hO:=((Own.start hm).al #[vi,vf] 24).dI 153 2;obtain⟨hi,hf⟩:=hN;obtain⟨ai,ci,rfl⟩:=bO hi;obtain⟨af,cf,rfl,i1,i2,i3⟩:=hf;unfold maxLen at i2;have HO:=zh hO;clear hO hi;refine aj fun R hR=>?_
 go_enter Tryz.func219,Tryz.ntmps219
 go_wp2;refine au [3,9,10,11] (fun n vs wr=>∃(k:Nat) (vo:Value),k≤F.length∧n=F.length - k∧vs=[vo,.slice af F.length cf,.int .i64 F.length,.int .i64 k] ∧
  Own w m wr m [.row vo 153 2 (wG F k).length (aS (wG F k))]) ?_ ?_
 ·exact⟨_,0,.slice none 0 0,zC _,rfl,rfl,HO.out.drop2⟩
 clear HO;rintro X z n vs wr hX - ⟨k,vo,hk,rfl,rfl,hO⟩;simp[litL,lk];obtain⟨voa,voc,rfl⟩:=aM hO.row;have hkl:=Mq F k hk;by_cases hlt:k<F.length
 ·obtain⟨b,off,rfl,h4⟩:=i3 (by intro h;simp[h] at hlt);have hg:=h4 k hlt;have r1:=Mem.ak hO.inn hg.1;have r2:=Mem.ak hO.inn hg.2.1;have rl:=Mem.ay hO.inn hg.1;have hso:spOk F[k]:=hg.2.2;have hstep:=J4 F k hlt;generalize hR1:wG F (k+1)=S1 at *
  generalize wG F k=S0 at *
  clear h4 hg;generalize F[k]=q at *
  obtain⟨qa,qb⟩:=q;unfold spOk at hso;simp only at r1 r2 hso;have HO2:=zh (hO.al #[.int .i64 qa,.int .i64 qb] 153);have HR1:=zh (zi hR1 hstep);clear hO hR1 hstep
  go_upto_region 5 with (fail)
  generalize hW2:wr.alloc (.cells #[.int .i64 qa,.int .i64 qb] 153)=w5 at *
  generalize wr.heap.size=S at *
  refine aI [3,6,7,9,10,11] (fun vs w'=>vs=[.slice voa S0.length voc,.int .i64 (max qa (-1000000000000000)),.int .i64 (min qb 1000000000000000),.slice (some ⟨b,off,none⟩) F.length cf,.int .i64 F.length,.int .i64 k] ∧
   Own w m w' m [.row (.slice voa S0.length voc) 153 2 S0.length (aS S0)]) ?_ ?_
  ·intro Y hY;have q1:=HO2.out.obj.c 0;have q2:=HO2.out.obj.c 1;have q5:=HO2.out.obj.lt
   go_quiet (fail)
   go_wp2;exact hY.out _ _ rfl ⟨rfl,HO2.out.tail.drN _⟩
  rintro z4 vs w6 - ⟨rfl,hO⟩;simp[litL,lk];have hcl:iH (qa,qb)=trimF (max qa (-1000000000000000),min qb 1000000000000000):=rfl;have hsk:=fun h=>KA (t:=(qa,qb)) h;have hx0:max qa (-1000000000000000)≤9223372036854775807 ∧ -1000000000000000≤max qa (-1000000000000000):=zo;have hy0:min qb 1000000000000000≤1000000000000000 ∧ -9223372036854775808≤min qb 1000000000000000:=zo;unfold maxU at hsk;simp only at hsk;generalize max qa (-1000000000000000)=x at *
  generalize min qb 1000000000000000=y at *
  clear HO2 hW2 r1 r2 hso;by_cases hxy:x≤y
  ·have hdec:decide (y<x)=false:=zK zo;have HW1:=zh (fun w'=>nQ x w');have HW2:=zh (fun w'=>nQ y w');have HO:=zh hO;have HC:=zh hcl;clear hcl hsk hO
   go_wp2_with fail
   refine (HW1.out _).mono ?_;rintro e w7 ⟨rfl,hb7⟩;have HO7:=zh (HO.out.move hb7);clear HW1 HO hb7;by_cases ex:x % 10000=0 <;> by_cases ey:y % 10000=0
   ·have hc2:iH (qa,qb)=((x+1),(y - 1)):=by rw[HC.out];simp[trimF,ex,ey]
    have HC2:=zh hc2;have HE:=zh (zi ex ey);have hf1:((x+1):Int) % 10000≠0:=zo;have hf2:((y - 1):Int) % 10000≠0:=zo;have HFR:=zh (zi hf1 hf2);clear hc2 HC hf1 hf2;rw[zL ex]
    go_wp2_with fail
    refine (HW2.out _).mono ?_;rintro e w8 ⟨rfl,hb8⟩;rw[zL ey];have hO8:=HO7.out.move hb8;have HO8:=zh hO8;clear HW2 HO7 hb8 ex ey;by_cases hle:(x+1)≤(y - 1)
    ·have hdle:decide ((x+1)≤(y - 1))=true:=zL hle;have HK1:=zh (fun w'=>iD ((x+1)) w' zo zo);have HK2:=zh (fun w'=>iD ((y - 1)) w' zo zo);have Hle:=zh hle;clear hle hO8
     go_wp2_with fail
     refine (HK1.out _).mono ?_;rintro e w9 ⟨rfl,hb9⟩;have HO9:=zh (HO8.out.move hb9);clear HK1 HO8 hb9
     go_wp2_with fail
     refine (HK2.out _).mono ?_;rintro e w10 ⟨rfl,hb10⟩;have hO2:=((HO9.out.move hb10).al #[.int .i64 (fA ((x+1))),.int .i64 (fA ((y - 1)))] 153).swap;have hnews:=hO2.swap.obj.news rfl;clear HK2 HO9 hb10
     go_wp2_with (at_builtin;refine aA eX rfl (.tmp 35) (.tmp 41) rfl (.slice voa S0.length voc) S0.length _ rfl hO2.row ⟨_,0,none⟩ 1 1 [.int .i64 (fA ((x+1))),.int .i64 (fA ((y - 1)))] rfl rfl hnews (by simp[Value.oneCell']) (by unfold maxLen;omega) zo ?_)
     intro va vc w11 hown7 hgrow7 hrow7;have HO3:=zh (hO2.app hown7 hgrow7 hrow7 zS).drop2;clear hown7 hgrow7 hrow7 hO2 hnews;go_wp2;refine hX.out _ _ _ zo rfl ⟨k+1,_,zo,rfl,rfl,?_⟩;rw[HR1.out.1,HR1.out.2,HC2.out,zI (show (x+1)≤(y - 1) from Hle.out)];have e:S0 ++ [lJ ((x+1),(y - 1))]=S0 ++ [(fA ((x+1)),fA ((y - 1)))]:=rfl;rw[e,aX,zJ];exact HO3.out
    ·first
      | (exfalso;omega)
      | (have hdle:decide ((x+1)≤(y - 1))=false:=zK hle
         have Hle:=zh hle;clear hle hO8;go_wp2;refine hX.out _ _ _ zo rfl ⟨k+1,_,zo,rfl,rfl,?_⟩;rw[HR1.out.1,HR1.out.2,HC2.out,zH (show ¬ (x+1)≤(y - 1) by have:=Hle.out;omega),yM];exact HO8.out)
   ·have hc2:iH (qa,qb)=((x+1),(y)):=by rw[HC.out];simp[trimF,ex,ey]
    have HC2:=zh hc2;have HE:=zh (zi ex ey);have hf1:((x+1):Int) % 10000≠0:=zo;have hf2:((y):Int) % 10000≠0:=zo;have HFR:=zh (zi hf1 hf2);clear hc2 HC hf1 hf2;rw[zL ex]
    go_wp2_with fail
    refine (HW2.out _).mono ?_;rintro e w8 ⟨rfl,hb8⟩;rw[zK ey];have hO8:=HO7.out.move hb8;have HO8:=zh hO8;clear HW2 HO7 hb8 ex ey;by_cases hle:(x+1)≤(y)
    ·have hdle:decide ((x+1)≤(y))=true:=zL hle;have HK1:=zh (fun w'=>iD ((x+1)) w' zo zo);have HK2:=zh (fun w'=>iD ((y)) w' zo zo);have Hle:=zh hle;clear hle hO8
     go_wp2_with fail
     refine (HK1.out _).mono ?_;rintro e w9 ⟨rfl,hb9⟩;have HO9:=zh (HO8.out.move hb9);clear HK1 HO8 hb9
     go_wp2_with fail
     refine (HK2.out _).mono ?_;rintro e w10 ⟨rfl,hb10⟩;have hO2:=((HO9.out.move hb10).al #[.int .i64 (fA ((x+1))),.int .i64 (fA ((y)))] 153).swap;have hnews:=hO2.swap.obj.news rfl;clear HK2 HO9 hb10
     go_wp2_with (at_builtin;refine aA eX rfl (.tmp 35) (.tmp 41) rfl (.slice voa S0.length voc) S0.length _ rfl hO2.row ⟨_,0,none⟩ 1 1 [.int .i64 (fA ((x+1))),.int .i64 (fA ((y)))] rfl rfl hnews (by simp[Value.oneCell']) (by unfold maxLen;omega) zo ?_)
     intro va vc w11 hown7 hgrow7 hrow7;have HO3:=zh (hO2.app hown7 hgrow7 hrow7 zS).drop2;clear hown7 hgrow7 hrow7 hO2 hnews;go_wp2;refine hX.out _ _ _ zo rfl ⟨k+1,_,zo,rfl,rfl,?_⟩;rw[HR1.out.1,HR1.out.2,HC2.out,zI (show (x+1)≤(y) from Hle.out)];have e:S0 ++ [lJ ((x+1),(y))]=S0 ++ [(fA ((x+1)),fA ((y)))]:=rfl;rw[e,aX,zJ];exact HO3.out
    ·first
      | (exfalso;omega)
      | (have hdle:decide ((x+1)≤(y))=false:=zK hle
         have Hle:=zh hle;clear hle hO8;go_wp2;refine hX.out _ _ _ zo rfl ⟨k+1,_,zo,rfl,rfl,?_⟩;rw[HR1.out.1,HR1.out.2,HC2.out,zH (show ¬ (x+1)≤(y) by have:=Hle.out;omega),yM];exact HO8.out)
   ·have hc2:iH (qa,qb)=((x),(y - 1)):=by rw[HC.out];simp[trimF,ex,ey]
    have HC2:=zh hc2;have HE:=zh (zi ex ey);have hf1:((x):Int) % 10000≠0:=zo;have hf2:((y - 1):Int) % 10000≠0:=zo;have HFR:=zh (zi hf1 hf2);clear hc2 HC hf1 hf2;rw[zK ex]
    go_wp2_with fail
    refine (HW2.out _).mono ?_;rintro e w8 ⟨rfl,hb8⟩;rw[zL ey];have hO8:=HO7.out.move hb8;have HO8:=zh hO8;clear HW2 HO7 hb8 ex ey;by_cases hle:(x)≤(y - 1)
    ·have hdle:decide ((x)≤(y - 1))=true:=zL hle;have HK1:=zh (fun w'=>iD ((x)) w' zo zo);have HK2:=zh (fun w'=>iD ((y - 1)) w' zo zo);have Hle:=zh hle;clear hle hO8
     go_wp2_with fail
     refine (HK1.out _).mono ?_;rintro e w9 ⟨rfl,hb9⟩;have HO9:=zh (HO8.out.move hb9);clear HK1 HO8 hb9
     go_wp2_with fail
     refine (HK2.out _).mono ?_;rintro e w10 ⟨rfl,hb10⟩;have hO2:=((HO9.out.move hb10).al #[.int .i64 (fA ((x))),.int .i64 (fA ((y - 1)))] 153).swap;have hnews:=hO2.swap.obj.news rfl;clear HK2 HO9 hb10
     go_wp2_with (at_builtin;refine aA eX rfl (.tmp 35) (.tmp 41) rfl (.slice voa S0.length voc) S0.length _ rfl hO2.row ⟨_,0,none⟩ 1 1 [.int .i64 (fA ((x))),.int .i64 (fA ((y - 1)))] rfl rfl hnews (by simp[Value.oneCell']) (by unfold maxLen;omega) zo ?_)
     intro va vc w11 hown7 hgrow7 hrow7;have HO3:=zh (hO2.app hown7 hgrow7 hrow7 zS).drop2;clear hown7 hgrow7 hrow7 hO2 hnews;go_wp2;refine hX.out _ _ _ zo rfl ⟨k+1,_,zo,rfl,rfl,?_⟩;rw[HR1.out.1,HR1.out.2,HC2.out,zI (show (x)≤(y - 1) from Hle.out)];have e:S0 ++ [lJ ((x),(y - 1))]=S0 ++ [(fA ((x)),fA ((y - 1)))]:=rfl;rw[e,aX,zJ];exact HO3.out
    ·first
      | (exfalso;omega)
      | (have hdle:decide ((x)≤(y - 1))=false:=zK hle
         have Hle:=zh hle;clear hle hO8;go_wp2;refine hX.out _ _ _ zo rfl ⟨k+1,_,zo,rfl,rfl,?_⟩;rw[HR1.out.1,HR1.out.2,HC2.out,zH (show ¬ (x)≤(y - 1) by have:=Hle.out;omega),yM];exact HO8.out)
   ·have hc2:iH (qa,qb)=((x),(y)):=by rw[HC.out];simp[trimF,ex,ey]
    have HC2:=zh hc2;have HE:=zh (zi ex ey);have hf1:((x):Int) % 10000≠0:=zo;have hf2:((y):Int) % 10000≠0:=zo;have HFR:=zh (zi hf1 hf2);clear hc2 HC hf1 hf2;rw[zK ex]
    go_wp2_with fail
    refine (HW2.out _).mono ?_;rintro e w8 ⟨rfl,hb8⟩;rw[zK ey];have hO8:=HO7.out.move hb8;have HO8:=zh hO8;clear HW2 HO7 hb8 ex ey;by_cases hle:(x)≤(y)
    ·have hdle:decide ((x)≤(y))=true:=zL hle;have HK1:=zh (fun w'=>iD ((x)) w' zo zo);have HK2:=zh (fun w'=>iD ((y)) w' zo zo);have Hle:=zh hle;clear hle hO8
     go_wp2_with fail
     refine (HK1.out _).mono ?_;rintro e w9 ⟨rfl,hb9⟩;have HO9:=zh (HO8.out.move hb9);clear HK1 HO8 hb9
     go_wp2_with fail
     refine (HK2.out _).mono ?_;rintro e w10 ⟨rfl,hb10⟩;have hO2:=((HO9.out.move hb10).al #[.int .i64 (fA ((x))),.int .i64 (fA ((y)))] 153).swap;have hnews:=hO2.swap.obj.news rfl;clear HK2 HO9 hb10
     go_wp2_with (at_builtin;refine aA eX rfl (.tmp 35) (.tmp 41) rfl (.slice voa S0.length voc) S0.length _ rfl hO2.row ⟨_,0,none⟩ 1 1 [.int .i64 (fA ((x))),.int .i64 (fA ((y)))] rfl rfl hnews (by simp[Value.oneCell']) (by unfold maxLen;omega) zo ?_)
     intro va vc w11 hown7 hgrow7 hrow7;have HO3:=zh (hO2.app hown7 hgrow7 hrow7 zS).drop2;clear hown7 hgrow7 hrow7 hO2 hnews;go_wp2;refine hX.out _ _ _ zo rfl ⟨k+1,_,zo,rfl,rfl,?_⟩;rw[HR1.out.1,HR1.out.2,HC2.out,zI (show (x)≤(y) from Hle.out)];have e:S0 ++ [lJ ((x),(y))]=S0 ++ [(fA ((x)),fA ((y)))]:=rfl;rw[e,aX,zJ];exact HO3.out
    ·first
      | (exfalso;omega)
      | (have hdle:decide ((x)≤(y))=false:=zK hle
         have Hle:=zh hle;clear hle hO8;go_wp2;refine hX.out _ _ _ zo rfl ⟨k+1,_,zo,rfl,rfl,?_⟩;rw[HR1.out.1,HR1.out.2,HC2.out,zH (show ¬ (x)≤(y) by have:=Hle.out;omega),yM];exact HO8.out)
  ·have hdec:decide (y<x)=true:=zL zo;have HS:=zh (hsk zo);have HO:=zh hO;clear hcl hsk hO;go_wp2;refine hX.out _ _ _ zo rfl ⟨k+1,_,zo,rfl,rfl,?_⟩;rw[HR1.out.1,HR1.out.2,zH (show ¬ (iH (qa,qb)).1≤(iH (qa,qb)).2 by have:=HS.out;omega),yM];exact HO.out
 ·obtain rfl:k=F.length:=zo;rw[Mr] at hO hkl ⊢;have HE:=zh (zi (J5 F) (show fP ((jM F).map lJ)=jN F from rfl));have HOK:=zh (Pb F);generalize (jM F).map lJ=L at *
  have hst:=cz (m:=m) hO.row HOK.out;have hO1:=hO.bv;have HN:=zh (rz _ L _ wr hO1.inn hst HE.out.1 zo);have HO1:=zh hO1;clear hst hO1 hO HOK
  go_wp2_with fail
  refine HN.out.mono ?_;rintro e w2 ⟨r,rfl,hb,hr⟩;rw[HE.out.2] at hr;have hO2:=HO1.out.call hb;have Hfin:=zh (zi hO2.below (aW hO2.done hr));obtain⟨ra,rc,rfl⟩:=bO hr;clear HN HO1 HE hb hr hO2;go_wp2;exact hR.out _ _ ⟨_,rfl,Hfin.out.1,Hfin.out.2⟩
def namK (l:List Spn) (k:Nat):List Spn:=(l.take k).map eH
theorem MU (l:List Spn) (k:Nat) (h:k<l.length):namK l (k+1)=namK l k ++ [eH l[k]]:=by
 unfold namK;rw[zF h,yD];rfl
theorem Ph (l:List Spn):namK l l.length=l.map eH:=by unfold namK;rw[yB]
def rkIn (s:Spn):Prop := -1000000000000002≤s.1∧s.1≤1000000000000002 ∧ -1000000000000002≤s.2∧s.2≤1000000000000002
theorem JI {l:List Spn} (h:∀s∈l,rkIn s):∀s∈l.map eH,spOk s:=fun s hs=>by
 obtain⟨t,ht,rfl⟩:=List.mem_map.1 hs;have:=h t ht;unfold rkIn at this;unfold spOk eH bL;dsimp only;omega
theorem DU (vi vf:Value) (I L:List Spn) (m:Mem) (w:World) (hm:m.inn w) (hi:bM m vi I) (hf:bM m vf L) (hin:∀s∈L,rkIn s) (hlen:L.length≤1000000) :
 Calls Tryz.prog 217 #[vi,vf] w fun e w'=>∃rf,e=.returned (.agg #[vi,rf])∧Below w.heap.size w w'∧bu (m.grow w w') vi rf I (L.map eH):=by
 have HOK:=zh (zi (JI hin) hi);obtain⟨ai,ci,rfl⟩:=bO hi;obtain⟨af,cf,rfl,i1,i2,i3⟩:=hf;unfold maxLen at i2;have HO:=zh ((((Own.start hm).al #[.slice none 0 0,.slice none 0 0] 24).al #[.slice ai I.length ci,.slice none 0 0] 24).dI 153 2);clear hi;refine aj fun R hR=>?_
 go_enter Tryz.func217,Tryz.ntmps217
 go_wp2;refine au [4,5,10,11,12] (fun n vs wr=>∃(k:Nat) (vo:Value),k≤L.length∧n=L.length - k∧vs=[.pointer (some ⟨w.heap.size,0,none⟩),.pointer (some ⟨w.heap.size+1,0,none⟩),.slice af L.length cf,.int .i64 L.length,.int .i64 k] ∧
  Own w m wr m [.obj (w.heap.size+1) 24 #[.slice ai I.length ci,vo],.row vo 153 2 k (aS (namK L k)),.obj w.heap.size 24 #[.slice none 0 0,.slice none 0 0]]) ?_ ?_
 ·refine ⟨_,0,.slice none 0 0,zC _,rfl,rfl,?_⟩;have:=HO.out.swap;simp only[bZ] at this;exact this
 clear HO;rintro X z n vs wr hX - ⟨k,vo,hk,rfl,rfl,hO⟩;simp[litL,lk];obtain⟨voa,voc,rfl⟩:=aM hO.swap.row;by_cases hlt:k<L.length
 ·obtain⟨b,off,rfl,h4⟩:=i3 (by intro h;simp[h] at hlt);have hg:=h4 k hlt;have r1:=Mem.ak hO.inn hg.1;have r2:=Mem.ak hO.inn hg.2.1;have rl:=Mem.ay hO.inn hg.1;have hso:=hin L[k] (zB hlt);have HS:=zh (MU L k hlt);generalize namK L k=S0 at *
  clear h4 hg;generalize L[k]=q at *
  obtain⟨qa,qb⟩:=q;unfold rkIn at hso;simp only at r1 r2 hso;have ho2:=hO.obj;have l1:=ho2.lt;have HU1:=zh (fun w'=>ry qa w' hso.1 hso.2.1);have HU2:=zh (fun w'=>ry qb w' hso.2.2.1 hso.2.2.2);go_wp2;have hO1:=(hO.al #[.int .i64 qa,.int .i64 qb] 153).dr;refine fo (fun w'=>bE w' (w.heap.size+1) 24 #[.slice ai I.length ci,.slice voa k voc]∧bE w' wr.heap.size 153 #[.int .i64 qa,.int .i64 qb]) 12 zk ?_;have hS:=zi hO1.swap.obj hO1.obj;refine az 0 rfl zk (fun _ _ _ h=>h) hS (av rfl fun w' hS'=>by have q:=hS'.1.cell (i:=1) rfl;have q1:=hS'.2.cell (i:=0) rfl;have q2:=hS'.2.cell (i:=1) rfl;go_simp;rfl) ?_;refine az 1 rfl zk (fun _ _ _ h=>h) hS (av rfl fun w' hS'=>by have q:=hS'.1.cell (i:=1) rfl;have q1:=hS'.2.cell (i:=0) rfl;have q2:=hS'.2.cell (i:=1) rfl;go_simp;rfl) ?_;refine az 2 rfl zk (fun _ _ _ h=>h) hS (av rfl fun w' hS'=>by have q:=hS'.1.cell (i:=1) rfl;have q1:=hS'.2.cell (i:=0) rfl;have q2:=hS'.2.cell (i:=1) rfl;go_simp;rfl) ?_;refine az 3 rfl zk (fun _ _ _ h=>h) hS (av rfl fun w' hS'=>by have q:=hS'.1.cell (i:=1) rfl;have q1:=hS'.2.cell (i:=0) rfl;have q2:=hS'.2.cell (i:=1) rfl;go_simp;rfl) ?_;refine az 5 rfl zk (fun _ _ _ h=>h) hS (av rfl fun w' hS'=>by have q:=hS'.1.cell (i:=1) rfl;have q1:=hS'.2.cell (i:=0) rfl;have q2:=hS'.2.cell (i:=1) rfl;go_simp;rfl) ?_;refine az 6 rfl zk (fun _ _ _ h=>h) hS (av rfl fun w' hS'=>by have q:=hS'.1.cell (i:=1) rfl;have q1:=hS'.2.cell (i:=0) rfl;have q2:=hS'.2.cell (i:=1) rfl;go_simp;rfl) ?_;refine aH 4 zk (aF rfl rfl (cO zg (HU1.out _) ?_));rintro e w1 ⟨rfl,hb1⟩;have hO2:=hO1.move hb1;refine ⟨_,rfl,andS (zi hO2.swap.obj hO2.obj) fun hS1=>?_⟩;refine aH 7 zk (aF rfl rfl (cO zg (HU2.out _) ?_));rintro e w2 ⟨rfl,hb2⟩;have hO3:=hO2.move hb2;refine ⟨_,rfl,andS (zi hO3.swap.obj hO3.obj) fun hS2=>?_⟩;refine az 8 rfl zk (fun _ _ _ h=>h) hS2 (av rfl fun w' hS'=>by go_simp;rfl) ?_;refine aH 9 zk (aF rfl rfl (aP (by go_simp;exact⟨rfl,rfl⟩) (andS (zi (hO3.swap.obj.al _) (hO3.obj.al _)) fun hS3=>?_)));go_simp;have hO4:=hO3.al #[.int .i64 (bL qa),.int .i64 (bL qb)] 153;refine aH 10 zk (aF rfl rfl (dR eX (.tmp 17) (.tmp 25) rfl (.slice voa k voc) k (aS S0) rfl hO4.fourth.row ⟨w2.heap.size,0,none⟩ 1 1 [.int .i64 (bL qa),.int .i64 (bL qb)] rfl rfl (hO4.obj.news rfl) (by simp[Value.oneCell']) (by unfold maxLen;omega) zo (fun va vc w3 hown3 hgrow hrow3=>?_)));have hO5:=hO4.fourth.app hown3 hgrow hrow3 (zG _);refine andS (zi hO5.fourth.obj hO5.third.obj) fun hS4=>?_;refine az 11 rfl zk (fun _ _ _ h=>h) hS4 (av rfl fun w' hS'=>by go_simp;rfl) ?_;have f3:=hS4.1.frozen 1;have c3:=hS4.1.cell (i:=1) rfl;refine aH 12 zk (aF rfl rfl (aZ (by go_simp;rfl) (iP rfl ?_)));refine dE zk ?_ _;have hO6:=hO5.fourth.set 1 (.slice va (k+1) vc);have Hfin:=zh hO6.kV.kV;clear hO6 hO5 hO4 hO3 hO2 hO1 hO hown3 hgrow hrow3 hS hS1 hS2 hS3 hS4 f3 c3 ho2 hb1 hb2;go_wp2;refine hX.out _ _ _ zo rfl ⟨k+1,.slice va (k+1) vc,zo,rfl,rfl,?_⟩;rw[HS.out];have e:S0 ++ [eH (qa,qb)]=S0 ++ [(bL qa,bL qb)]:=rfl;rw[e,aX];exact Hfin.out
 ·obtain rfl:k=L.length:=zo;rw[Ph] at hO;have c1:=hO.obj.c 0;have c2:=hO.obj.c 1;have g3:=hO.third.obj.c 0;have g4:=hO.third.obj.c 1;have g5:=hO.third.obj.frozen 0;have g6:=hO.third.obj.frozen 1;have g7:=hO.third.obj.lt;have hml:(L.map eH).length=L.length:=List.length_map ..;have hO4:=(hO.third.set 0 (.slice ai I.length ci)).set 1 (.slice voa L.length voc);have hst:=cz (m:=m) (l:=L.map eH) (by rw[hml];exact hO4.third.row) HOK.out.1;have hfin:bu (m.grow w _) _ _ I (L.map eH):=⟨aW hO4.done HOK.out.2,aW hO4.third.bv.done hst⟩;have g8:=hO4.obj.c 0;have g9:=hO4.obj.c 1;have Hfin:=zh (zi hO4.below hfin);clear hst hfin hO4 hO hml;go_wp2;refine yQ (v:=.agg #[.slice ai I.length ci,.slice voa L.length voc]) (by simp[results,Tryz.results217,go_sem,g8,g9]) rfl ?_;exact hR.out _ _ ⟨_,rfl,Hfin.out.1,Hfin.out.2⟩
theorem NSok.inR {x:NS} (h:NSok x):∀s∈x.f,spIn s:=fun s hs=>by
 have h1:=h.bf s hs;have h2:=h.nf.ok s hs;simp only[jT,nX] at h1;unfold spIn;omega
theorem NSok.rk {x:NS} (h:NSok x):∀s∈x.f,rkIn s:=fun s hs=>by
 have h1:=h.inR s hs;unfold spIn at h1;unfold rkIn;omega
theorem kK (vi vf:Value) (I F:List Spn) (m:Mem) (w:World) (hm:m.inn w) (h1:bu m vi vf I F) (hI:I.length≤100000) (hF:F.length≤100000) :
 Calls Tryz.prog 150 #[.agg #[vi,vf]] w fun e w'=>∃ri rf,e=.returned (.agg #[ri,rf])∧Below w.heap.size w w'∧bu (m.grow w w') ri rf (mkN I F).i (mkN I F).rf:=by
 have hO:=((Own.start hm).al #[vi,vf] 24).al #[.slice none 0 0,.slice none 0 0] 24;have hsz1:(w.alloc (.cells #[vi,vf] 24)).heap.size=w.heap.size+1:=by simp
 rw[hsz1] at hO;obtain⟨a1,c1,b1,d1,rfl,rfl⟩:=h1.spell;have hrk:=(gG I F).rk;have hl:=(eu hI hF).f;have hraw:(mkN I F).i=lD I∧(mkN I F).f=jN F:=⟨rfl,rfl⟩;have HRK:=zh (zi hrk hl);clear hrk hl;have HO:=zh hO;have H1:=zh (zi hraw h1);clear hO h1 hsz1 hraw;refine aj fun R hR=>?_;generalize mkN I F=x at *
 go_enter Tryz.func150,Tryz.ntmps150
 go_upto_region 1 with (fail)
 refine aI [2] (fun vs w'=>∃(mk':Mem) (ra rb:Option Addr) (rc rd:Nat),vs=[.pointer (some ⟨w.heap.size+1,0,none⟩)] ∧
  Own w m w' mk' [.obj (w.heap.size+1) 24 #[.slice ra x.i.length rc,.slice rb x.rf.length rd]] ∧
  bu mk' (.slice ra x.i.length rc) (.slice rb x.rf.length rd) x.i x.rf) ?_ ?_
 ·intro X hX;refine aU 5 5 (fun j=>[Fact.is (·=.agg #[.slice a1 I.length c1,.slice b1 F.length d1]),Fact.mem m [1] (SpV x.i),Fact.is (·=.agg #[.slice a1 I.length c1,.slice b1 F.length d1]),Fact.mem m [3] (SpV x.f),Fact.mem m [4,1,3] (NumV x.i x.rf)].getD j Fact.any) zk zk ?_ ?_
  ·intro i hi o win a wr ho RA;have HO2:=HO.out.dr.move RA.below;have p1:=HO2.swap.obj.c 0;have p2:=HO2.swap.obj.c 1;rcases (show i=0∨i=1∨i=2∨i=3∨i=4 by omega) with rfl | rfl | rfl | rfl | rfl
   ·have e1:=RA.k 1;cases ho;exact wv rfl rfl rfl
   ·have e3:a.tmps.getD 3 undef=_:=RA.d 0 rfl;cases ho;refine we rfl rfl (wK _ _ I F m wr HO2.inn H1.out.2 hI) ?_;rintro e w' ⟨r,rfl,hb,hn⟩;rw[← H1.out.1.1] at hn;exact⟨_,rfl,_,rfl,hb,fQ SpV.le HO2.inn hb (nE hn)⟩
   ·have e1:=RA.k 1;cases ho;exact wv rfl rfl rfl
   ·have e5:a.tmps.getD 5 undef=_:=RA.d 2 rfl;cases ho;refine we rfl rfl (uG _ _ I F m wr HO2.inn H1.out.2 hF) ?_;rintro e w' ⟨r,rfl,hb,hn⟩;rw[← H1.out.1.2] at hn;exact⟨_,rfl,_,rfl,hb,fQ SpV.le HO2.inn hb (nE hn)⟩
   ·have e4:(Fact.mem m [1] (SpV x.i)).holds (a.tmps.getD 4 undef) win wr:=RA.d 1 rfl;have e6:(Fact.mem m [3] (SpV x.f)).holds (a.tmps.getD 6 undef) win wr:=RA.d 3 rfl;cases ho;obtain⟨r1,s1,k1,t1⟩:SpV _ _ _:=e4;obtain⟨r2,s2,k2,t2⟩:SpV _ _ _:=e6;refine we rfl rfl (DU _ _ x.i x.f (m.wins wr win [1,3]) wr (Mem.eB HO2.inn win [1,3]) (aW (Mem.fE (es:=[1,3]) HO2.inn win zS) t1) (aW (Mem.fE (es:=[1,3]) HO2.inn win zS) t2) HRK.out.1 (by have:=HRK.out.2;omega)) ?_;rintro e w' ⟨rf,rfl,hb,hn⟩;exact⟨_,rfl,_,rfl,hb,fZ (ds:=[1,3]) NumV.le HO2.inn zS (fun d hd=>(RA.rng d (by simp at hd;rcases hd with rfl | rfl <;> kernel_rfl)).2.2) hb (gB hn)⟩
  ·intro win a wr E;have e2:=E.keep 2 zk;have e7:(Fact.mem m [4,1,3] (NumV x.i x.rf)).holds (a.tmps.getD 7 undef) win wr:=E.fact 4 _ zo rfl;obtain⟨ra,rc,rb,rd,f1,st1⟩:NumV _ _ _ _:=e7;have hO1:=HO.out.drop2.dr.region E.below win [4,1,3] (fun d hd=>(E.rng d (by simp at hd;omega)).1);have HE:=zh E;generalize m.wins wr win [4,1,3]=mk2 at *
   have HK:=zh st1;clear E st1;have b1:=hO1.obj.frozen 0;have b1':=hO1.obj.frozen 1;have b2:=hO1.obj.c 0;have b2':=hO1.obj.c 1;have b3:=hO1.obj.lt;have hO3:=(hO1.set 0 (.slice ra x.i.length rc)).set 1 (.slice rb x.rf.length rd);refine dQ 5 zk (aF rfl rfl (aZ zg ?_));obtain⟨t,d⟩:=a;obtain rfl:d=[]:=HE.out.defers;refine bS zk (hX.out _ _ HE.out.size ⟨mk2,ra,rb,rc,rd,?_,hO3,HK.out⟩) _;simp only[yG,List.map_nil,e2]
   rfl
 rintro z2 vs w2 - ⟨mk',ra,rb,rc,rd,rfl,hO,hr⟩;simp[litL,lk];have g5:=hO.obj.c 0;have g6:=hO.obj.c 1;have Hk:=zh (zi hO.below (hr.le hO.done));clear hO hr HO;go_wp2;refine yQ (v:=.agg #[.slice ra x.i.length rc,.slice rb x.rf.length rd]) (by simp[results,Tryz.results150,go_sem,g5,g6]) rfl ?_;exact hR.out _ _ ⟨_,_,rfl,Hk.out.1,Hk.out.2⟩
theorem rq (v v':Value) (l l':List Spn) (m:Mem) (w:World) (hm:m.inn w) (hl:bM m v l) (hl':bM m v' l') :
 Calls Tryz.prog 212 #[v,v'] w fun e w'=>e=.returned (.bool (tf (l=l')))∧Below w.heap.size w w':=by
 obtain⟨a,c,rfl,h1,h2,h3⟩:=hl;obtain⟨a',c',rfl,h1',h2',h3'⟩:=hl';unfold maxLen at h2 h2';refine aj fun R hR=>?_;by_cases hlen:l.length=l'.length
 ·have hne:((l.length:Int) != (l'.length:Int))=false:=by simp[hlen]
  have Hlen:=zh hlen;clear hlen
  go_enter Tryz.func212,Tryz.ntmps212
  go_wp2;refine au [0,1,12,13] (fun n vs wr=>∃k:Nat,k≤l.length∧n=l.length - k∧vs=[.slice a l.length c,.slice a' l'.length c',.int .i64 l.length,.int .i64 k]∧(l=l'↔l.drop k=l'.drop k)∧Below w.heap.size w wr) ?_ ?_
  ·exact⟨_,0,zC _,rfl,rfl,Iff.rfl,zP _ _⟩
  rintro X z n vs wr hX - ⟨k,hk,rfl,rfl,hrel,hbel⟩;have Hrel:=zh hrel;clear hrel;simp[litL,lk];have hmr:=Mem.bJ hm hbel;by_cases hlt:k<l.length
  ·have hlt':k<l'.length:=by rw[← Hlen.out];exact hlt
   obtain⟨b,off,rfl,h4⟩:=h3 (by intro h;simp[h] at hlt);obtain⟨b',off',rfl,h4'⟩:=h3' (by intro h;simp[h] at hlt');obtain⟨g1,g2,-⟩:=h4 k hlt;obtain⟨g1',g2',-⟩:=h4' k hlt';have c1:=Mem.ak hmr g1;have c2:=Mem.ak hmr g2;have c1':=Mem.ak hmr g1';have c2':=Mem.ak hmr g2';have HD:=zh (kS l l' k hlt hlt');have hq:=fun w=>Dp (l[k].1) (l[k].2) (l'[k].1) (l'[k].2) w;have hgd:=EH;have He:=zh (Qq l[k] l'[k]);go_wp2
   go_quiet (fail)
   go_wp2
   ·refine hR.out _ _ ⟨aL ?_,below_drewN hbel _⟩;rw[aK];intro h;have h5:=He.out.1 (HD.out.1 (Hrel.out.1 h)).1;have h6:=‹(!l[k].1==l'[k].1)=true∨_›;simp[h5] at h6
   ·refine hX.out _ _ _ zo rfl ⟨k+1,zo,rfl,rfl,?_,below_drewN hbel _⟩;have h6:=‹(!l[k].1==l'[k].1)=false∧_›;simp at h6;exact Hrel.out.trans (HD.out.trans ⟨fun h=>h.2,fun h=>⟨He.out.2 zo,h⟩⟩)
  ·go_wp2;refine hR.out _ _ ⟨aL ?_,hbel⟩;rw[aN (Hrel.out.2 ?_)];rw[zO zo,zO (by rw[← Hlen.out];omega)]
 ·have hne:((l.length:Int) != (l'.length:Int))=true:=by simp;omega
  go_enter Tryz.func212,Tryz.ntmps212
  go_wp2;exact hR.out _ _ ⟨aL (by rw[aK (fun h=>hlen (by rw[h]))]),zP _ _⟩
theorem wJ (vi vf ui uf:Value) (I F J G:List Spn) (m:Mem) (w:World) (hm:m.inn w) (h1:bu m vi vf I F) (h2:bu m ui uf J G) :
 Calls Tryz.prog 144 #[.agg #[vi,vf],.agg #[ui,uf]] w fun e w'=>e=.returned (.bool (tf (I=J∧F=G)))∧Below w.heap.size w w':=by
 have hO:=((Own.start hm).al #[vi,vf] 24).al #[ui,uf] 24;have hsz1:(w.alloc (.cells #[vi,vf] 24)).heap.size=w.heap.size+1:=by simp
 rw[hsz1] at hO;have HA:=zh (rq _ _ I J m _ hO.inn h1.i h2.i);have HB:=zh (fun w' (h:m.inn w')=>rq _ _ F G m w' h h1.f h2.f);obtain⟨a1,c1,b1,d1,rfl,rfl⟩:=h1.spell;obtain⟨a2,c2,b2,d2,rfl,rfl⟩:=h2.spell;have HO:=zh hO;clear hO hsz1 h1 h2;refine aj fun R hR=>?_
 go_enter Tryz.func144,Tryz.ntmps144
 go_wp2_with fail
 refine HA.out.mono ?_;rintro e w1 ⟨rfl,hb1⟩;have hO1:=HO.out.move hb1;by_cases e1:I=J
 ·rw[aN e1];have HB1:=zh (HB.out w1 hO1.inn);have q0:=hO1.obj.c 1;have q1:=hO1.swap.obj.c 1;have HO1:=zh hO1;have E1:=zh e1;clear HO hO1 hb1 HA HB e1
  go_wp2_with fail
  refine HB1.out.mono ?_;rintro e w2 ⟨rfl,hb2⟩;have Hb:=zh (HO1.out.move hb2).below;clear HO1 hb2 HB1 q0 q1;go_wp2;exact hR.out _ _ ⟨aL (fK ⟨fun h=>⟨E1.out,h⟩,fun h=>h.2⟩),Hb.out⟩
 ·rw[aK e1];have Hb:=zh hO1.below;have E1:=zh e1;clear HO hO1 hb1 HA HB e1;go_wp2;exact hR.out _ _ ⟨aL (by rw[aK (fun h=>E1.out h.1)]),Hb.out⟩
theorem DW (vi vf:Value) (I F:List Spn) (m:Mem) (w:World) (hm:m.inn w) (h1:bu m vi vf I F) (hI:I.length≤100000) (hF:F.length≤100000) :
 Calls Tryz.prog 104 #[.agg #[vi,vf]] w fun e w'=>e=.returned (.bool (tf (I=(mkN I F).i∧F=(mkN I F).rf)))∧Below w.heap.size w w':=by
 have hO:=(Own.start hm).al #[vi,vf] 24;obtain⟨a1,c1,b1,d1,rfl,rfl⟩:=h1.spell;have HO:=zh hO;have H1:=zh h1;clear hO h1;refine aj fun R hR=>?_
 go_enter Tryz.func104,Tryz.ntmps104
 go_upto_region 1 with (fail)
 refine aI [2] (fun vs w'=>vs=[.bool (tf (I=(mkN I F).i∧F=(mkN I F).rf))]∧Below w.heap.size w w') ?_ ?_
 ·intro Y hY;refine aU 5 5 (fun j=>[Fact.is (·=.agg #[.slice a1 I.length c1,.slice b1 F.length d1]),Fact.is (·=.agg #[.slice a1 I.length c1,.slice b1 F.length d1]),Fact.mem m [2] (NumV (mkN I F).i (mkN I F).rf),Fact.is (·=.bool (tf (I=(mkN I F).i∧F=(mkN I F).rf))),Fact.is (·=.bool (tf (I=(mkN I F).i∧F=(mkN I F).rf)))].getD j Fact.any) zk zk ?_ ?_
  ·intro i hi o win a wr ho RA;have HO3:=HO.out.dr.move RA.below;have q1:=HO3.obj.c 0;have q2:=HO3.obj.c 1;rcases (show i=0∨i=1∨i=2∨i=3∨i=4 by omega) with rfl | rfl | rfl | rfl | rfl
   ·have e1:=RA.k 1;cases ho;exact wv rfl rfl rfl
   ·have e1:=RA.k 1;cases ho;exact wv rfl rfl rfl
   ·have e4:a.tmps.getD 4 undef=_:=RA.d 1 rfl;cases ho;refine we rfl rfl (kK _ _ I F m wr HO3.inn H1.out hI hF) ?_;rintro e w' ⟨ri,rf,rfl,hb,hn⟩;exact⟨_,rfl,_,rfl,hb,fQ NumV.le HO3.inn hb (gB hn)⟩
   ·have e3:a.tmps.getD 3 undef=_:=RA.d 0 rfl;have e5:(Fact.mem m [2] (NumV (mkN I F).i (mkN I F).rf)).holds (a.tmps.getD 5 undef) win wr:=RA.d 2 rfl;cases ho;obtain⟨x1,y1,x2,y2,f1,s1⟩:NumV _ _ _ _:=e5;have s0:=H1.out.le (Mem.jq HO3.inn win [2]);refine we rfl rfl (wJ _ _ _ _ I F (mkN I F).i (mkN I F).rf _ wr (Mem.eB HO3.inn win [2]) s0 s1) ?_;rintro e w' ⟨rfl,hb⟩;exact⟨_,rfl,_,rfl,hb,rfl⟩
   ·have e6:a.tmps.getD 6 undef=_:=RA.d 3 rfl;cases ho;exact wv rfl rfl rfl
  ·intro win a wr E;have e2:a.tmps.getD 2 undef=.bool (tf (I=(mkN I F).i∧F=(mkN I F).rf)):=E.fact 4 _ zo rfl;obtain⟨t1,d⟩:=a;obtain rfl:d=[]:=E.defers;refine bS zk (hY.out _ _ E.size ⟨?_,(HO.out.dr.move E.below).below⟩) _;simp only[yG,List.map_nil,e2]
 rintro z vs w1 - ⟨rfl,hb⟩;simp[litL,lk];have Hb:=zh hb;clear hb HO;go_wp2;exact hR.out _ _ ⟨rfl,Hb.out⟩
theorem Io:gL Tryz.prog 157 2 1 8:=⟨Tryz.underlying157,zo,by
 obtain⟨i,h1,h2,h3,h4⟩:=info_parts (P:=Tryz.prog) (e:=2) (z:=.int .i64 0) (size:=1) (bytes:=8) zk;exact⟨i,_,h1,h2,h3,h4,rfl⟩⟩
def vB (l:List Spn) (k:Nat):List Int:=(l.take k).flatMap fun s=>[s.1*10000,s.2*10000]
def CF (s:Spn):List Int:=[s.1,s.2] ++ if s.1<0∧s.2 > 0 then [1] else []
def pF (l:List Spn) (k:Nat):List Int:=(l.take k).flatMap CF
theorem Bp (l:List Spn) (k:Nat) (h:k<l.length):vB l (k+1)=vB l k ++ [l[k].1*10000,l[k].2*10000]:=by
 unfold vB;rw[zF h,List.flatMap_append];simp
theorem Bo (l:List Spn) (k:Nat) (h:k<l.length):pF l (k+1)=pF l k ++ CF l[k]:=by
 unfold pF;rw[zF h,List.flatMap_append];simp
theorem Od (l:List Spn) (k:Nat):k≤l.length→(vB l k).length≤2*k:=by
 induction k with
 | zero=>intro _;simp[vB]
 | succ k ih=>intro h;rw[Bp l k zo,zJ];have:=ih zo;simp only[yJ,List.length_nil];omega
theorem Ob (s:Spn):(CF s).length≤3:=by unfold CF;split <;> simp
theorem Oc (l:List Spn) (k:Nat):k≤l.length→(pF l k).length≤3*k:=by
 induction k with
 | zero=>intro _;simp[pF]
 | succ k ih=>intro h;rw[Bo l k zo,zJ];have:=ih zo;have:=Ob l[k];omega
theorem PZ (x:NS):vB x.i x.i.length ++ pF x.rf x.rf.length=Ho x:=by
 unfold vB pF Ho;rw[yB,yB];rfl
theorem P5 {x:NS} (h:NSok x):∀u∈Ho x,-1000000000000002≤u∧u≤1000000000000002:=fun u hu=>by
 unfold Ho at hu;rcases List.mem_append.1 hu with hu | hu
 ·obtain⟨s,hs,hu⟩:=List.mem_flatMap.1 hu;have h1:=h.bi s hs;have h2:=h.ni.ok s hs;simp only[fG] at h1;simp at hu;omega
 ·obtain⟨s,hs,hu⟩:=List.mem_flatMap.1 hu;have h1:=h.inF s hs;unfold spIn at h1;rcases List.mem_append.1 hu with hu | hu
  ·simp at hu;omega
  ·split at hu
   ·simp at hu;omega
   ·cases hu
theorem MQ (u v:Int) (w:World) (hu : -1000000000000002≤u∧u≤1000000000000002) (hv : -1000000000000002≤v∧v≤1000000000000002) :
 Calls Tryz.prog 151 #[.int .i64 u,.int .i64 v] w fun e w'=>e=.returned (.bool (decide (near u v)))∧Below w.heap.size w w':=BX u v w hu.1 hu.2 hv.1 hv.2
theorem Ot (l:List Int) (k:Nat) (h:k<l.length):dN (l.take (k+1)) none=dN [l[k]] (dN (l.take k) none):=by
 rw[zF h,kE]
theorem uF (vi vf:Value) (I F:List Spn) (m:Mem) (w:World) (hm:m.inn w) (h1:bu m vi vf I F) (hI:I.length≤100000) (hF:F.length≤100000) :
 Calls Tryz.prog 92 #[.agg #[vi,vf]] w fun e w'=>e=.returned (.tuple #[.int .i64 ((bR (mkN I F)).getD 0),.bool (bR (mkN I F)).isSome])∧Below w.heap.size w w':=by
 have hO:=(Own.start hm).al #[vi,vf] 24;have HM:=zh (kK _ _ I F m _ hO.inn h1 hI hF);obtain⟨a1,c1,b1,d1,rfl,rfl⟩:=h1.spell;have hxl:=eu hI hF;have hxo:=gG I F;have l1:=hxl.i;have l2:=hxl.f;rw[← NS.jR] at l2;have HX:=zh (zi hxo.inI (zi hxo.inF (zi (fun s hs=>hxo.bi s hs) (zi (P5 hxo) hxo))));have HO:=zh hO;clear hO h1 hxl hxo;generalize mkN I F=x at *
 refine aj fun R hR=>?_
 go_enter Tryz.func92,Tryz.ntmps92
 go_wp2_with fail
 refine HM.out.mono ?_;rintro e w1 ⟨ri,rf,rfl,hb1,hr1⟩;have hO1:=HO.out.call hb1;obtain⟨xa,xc,ya,yc,rfl,rfl⟩:=hr1.spell;have hO2:=(hO1.al #[.slice xa x.i.length xc,.slice ya x.rf.length yc] 24).dI 2 1;generalize m.grow (w.alloc (.cells #[.slice a1 I.length c1,.slice b1 F.length d1] 24)) w1=mk at *
 have HK:=zh (zi hO2.kV hr1);clear hO1 hO2 hr1 hb1 HM HO;go_wp2;generalize w1.heap.size=S at *
 refine au [4,5,17,18,19] (fun n vs wr=>∃(k:Nat) (vo:Value),k≤x.i.length∧n=x.i.length - k∧vs=[.pointer (some ⟨S,0,none⟩),vo,.slice xa x.i.length xc,.int .i64 x.i.length,.int .i64 k] ∧
  (∀s∈x.i.take k,¬ (s.1≤0∧s.2 ≥ 0))∧Own w m wr mk [.row vo 2 1 (vB x.i k).length ((vB x.i k).map (Value.int .i64)),.obj S 24 #[.slice xa x.i.length xc,.slice ya x.rf.length yc]]) ?_ ?_
 ·exact⟨_,0,.slice none 0 0,zC _,rfl,rfl,(fun s h=>by cases h),HK.out.1⟩
 rintro X z n vs wr hX - ⟨k,vo,hk,rfl,rfl,hnz,hO⟩;simp[litL,lk];obtain⟨voa,voc,rfl⟩:=aM hO.row;have hkl:=Od x.i k hk;by_cases hlt:k<x.i.length
 ·obtain⟨ad,cc,e,q1,q2,q3⟩:=HK.out.2.i;injection e with e1 e2 e3;subst e1;obtain⟨b,off,rfl,h4⟩:=q3 (by intro h;simp[h] at hlt);have hg:=h4 k hlt;have r1:=Mem.ak hO.inn hg.1;have r2:=Mem.ak hO.inn hg.2.1;have rl:=Mem.ay hO.inn hg.1;have hbi:=HX.out.2.2.1 x.i[k] (zB hlt);simp only[fG] at hbi;have hbi2:=HX.out.1 x.i[k] (zB hlt);have HZ:=zh (fun (h:x.i[k].1≤0∧x.i[k].2 ≥ 0)=>Gv HX.out.2.2.2.2 ⟨x.i[k],zB hlt,h⟩);have HT:=zh (show ¬ (x.i[k].1≤0∧x.i[k].2 ≥ 0)→∀s∈x.i.take (k+1),¬ (s.1≤0∧s.2 ≥ 0) from fun h s hs=>by
   rw[zF hlt] at hs;rcases List.mem_append.1 hs with hs | hs
   ·exact hnz s hs
   ·rw[zU] at hs;rw[hs];exact h)
  have HS:=zh (Bp x.i k hlt);clear h4 hg q1 q2 q3 e3 hnz;generalize x.i[k]=q at *
  generalize hC:vB x.i (k+1)=C1 at *
  generalize vB x.i k=C at *
  obtain⟨qa,qb⟩:=q;unfold spIn at hbi2;simp only at r1 r2 hbi hbi2;have hO1:=hO.al #[.int .i64 qa,.int .i64 qb] 153;have s1:=hO1.obj.c 0;have s2:=hO1.obj.c 1;have s3:=hO1.obj.lt;by_cases hz:qa≤0∧qb ≥ 0
  ·have hd1:decide (qa≤0)=true:=zL hz.1;have hd2:decide (qb ≥ 0)=true:=zL hz.2;have HF:=zh (zi (HZ.out hz) hO1.below);clear hO hO1 hz;go_wp2;exact hR.out _ _ ⟨by rw[HF.out.1];rfl,HF.out.2⟩
  ·have hnz:=zh (HT.out hz);have hO2:=(hO1.al #[.int .i64 (qa*10000),.int .i64 (qb*10000)] 2).third;simp only[bZ] at hO2;have hnews:=hO2.swap.obj.news rfl;clear hO hO1;have hdz:(decide (qa≤0)&&decide (qb ≥ 0))=false:=by
    rw[← Bool.decide_and];exact zK hz
   by_cases ha:qa≤0
   ·have hd1:decide (qa≤0)=true:=zL ha;have hd2:decide (qb ≥ 0)=false:=zK (fun h=>hz ⟨ha,h⟩);clear hz ha hdz
    go_wp2_with (at_builtin;refine aA Io rfl (.tmp 31) (.tmp 38) rfl (.slice voa C.length voc) C.length _ rfl hO2.row ⟨_,0,none⟩ 2 2 [.int .i64 (qa*10000),.int .i64 (qb*10000)] rfl rfl hnews (by simp[Value.oneCell']) (by unfold maxLen;omega) zo ?_)
    intro va vc w7 hown7 hgrow7 hrow7;have HO3:=zh (hO2.app hown7 hgrow7 hrow7 zS).drop2.drop2;clear hown7 hgrow7 hrow7 hO2 hnews s1 s2 s3;go_wp2;refine hX.out _ _ _ zo rfl ⟨k+1,_,zo,rfl,rfl,hnz.out,?_⟩;rw[hC,HS.out,zJ,yD];exact HO3.out
   ·have hd1:decide (qa≤0)=false:=zK ha;clear hz ha hdz
    go_wp2_with (at_builtin;refine aA Io rfl (.tmp 31) (.tmp 38) rfl (.slice voa C.length voc) C.length _ rfl hO2.row ⟨_,0,none⟩ 2 2 [.int .i64 (qa*10000),.int .i64 (qb*10000)] rfl rfl hnews (by simp[Value.oneCell']) (by unfold maxLen;omega) zo ?_)
    intro va vc w7 hown7 hgrow7 hrow7;have HO3:=zh (hO2.app hown7 hgrow7 hrow7 zS).drop2.drop2;clear hown7 hgrow7 hrow7 hO2 hnews s1 s2 s3;go_wp2;refine hX.out _ _ _ zo rfl ⟨k+1,_,zo,rfl,rfl,hnz.out,?_⟩;rw[hC,HS.out,zJ,yD];exact HO3.out
 ·obtain rfl:k=x.i.length:=zo;rw[yB] at hnz;have HZ:=zh (show ¬ CW x from fun ⟨s,hs,h⟩=>hnz s hs h);have HA:=zh (PZ x);have HO:=zh hO;have q1:=hO.swap.obj.c 1;have q2:=hO.swap.obj.lt;clear hX hO hnz;generalize vB x.i x.i.length=C at *
  go_wp2;refine au [5,42,43,44] (fun n vs wr=>∃(k:Nat) (vo:Value),k≤x.rf.length∧n=x.rf.length - k∧vs=[vo,.slice ya x.rf.length yc,.int .i64 x.rf.length,.int .i64 k] ∧
   Own w m wr mk [.row vo 2 1 (C ++ pF x.rf k).length ((C ++ pF x.rf k).map (Value.int .i64))]) ?_ ?_
  ·refine ⟨_,0,_,zC _,rfl,rfl,?_⟩;rw[show C ++ pF x.rf 0=C by simp[pF]];exact HO.out.drop2
  clear HO q1 q2;rintro Y z n vs wr hY - ⟨k,vo,hk,rfl,rfl,hO⟩;simp[litL,lk];obtain⟨voa,voc,rfl⟩:=aM hO.row;have hkl:=Oc x.rf k hk;have hDl:(C ++ pF x.rf k).length≤1000000:=by rw[zJ];omega
  by_cases hlt:k<x.rf.length
  ·obtain⟨ad,cc,e,q1,q2,q3⟩:=HK.out.2.f;injection e with e1 e2 e3;subst e1;obtain⟨b,off,rfl,h4⟩:=q3 (by intro h;simp[h] at hlt);have hg:=h4 k hlt;have r1:=Mem.ak hO.inn hg.1;have r2:=Mem.ak hO.inn hg.2.1;have rl:=Mem.ay hO.inn hg.1;have HS:=zh (show C ++ pF x.rf (k+1)=(C ++ pF x.rf k) ++ CF x.rf[k] by rw[Bo x.rf k hlt,List.append_assoc]);clear h4 hg q1 q2 q3 e3 hkl;generalize x.rf[k]=q at *
   generalize hD1:C ++ pF x.rf (k+1)=D1 at *
   generalize C ++ pF x.rf k=D at *
   obtain⟨qa,qb⟩:=q;simp only at r1 r2;have hO1:=hO.al #[.int .i64 qa,.int .i64 qb] 153;have s1:=hO1.obj.c 0;have s2:=hO1.obj.c 1;have s3:=hO1.obj.lt;have hO2:=(hO1.al #[.int .i64 qa,.int .i64 qb] 2).third;simp only[bZ] at hO2;have hnews:=hO2.swap.obj.news rfl;clear hO hO1
   go_wp2_with (at_builtin;refine aA Io rfl (.tmp 48) (.tmp 53) rfl (.slice voa D.length voc) D.length _ rfl hO2.row ⟨_,0,none⟩ 2 2 [.int .i64 qa,.int .i64 qb] rfl rfl hnews (by simp[Value.oneCell']) (by unfold maxLen;omega) zo ?_)
   intro va vc w7 hown7 hgrow7 hrow7;have hO3:=(hO2.app hown7 hgrow7 hrow7 zS).drop2;clear hown7 hgrow7 hrow7 hO2 hnews s1 s2 s3;have s1:=hO3.swap.obj.c 0;have s2:=hO3.swap.obj.c 1;have s3:=hO3.swap.obj.lt;by_cases hz:qa<0∧qb > 0
   ·have hd1:decide (qa<0)=true:=zL hz.1;have hd2:decide (qb > 0)=true:=zL hz.2;have HZ1:=zh (show CF (qa,qb)=[qa,qb,1] by unfold CF;rw[zI hz];rfl);have hO2:=(hO3.drop2.al #[.int .i64 1] 2).swap;have hnews:=hO2.swap.obj.news rfl;clear hz hO3
    go_wp2_with (at_builtin;refine aA Io rfl (.tmp 63) (.tmp 64) rfl (.slice va (D.length+2) vc) (D.length+2) _ rfl hO2.row ⟨_,0,none⟩ 1 1 [.int .i64 1] rfl rfl hnews (by simp[Value.oneCell']) (by unfold maxLen;omega) zo ?_)
    intro va2 vc2 w8 hown8 hgrow8 hrow8;have HO3:=zh (hO2.app hown8 hgrow8 hrow8 zS).drop2;clear hown8 hgrow8 hrow8 hO2 hnews s1 s2 s3;go_wp2;refine hY.out _ _ _ zo rfl ⟨k+1,_,zo,rfl,rfl,?_⟩;rw[hD1,HS.out,HZ1.out,zJ,yD];exact HO3.out
   ·have HZ1:=zh (show CF (qa,qb)=[qa,qb] by unfold CF;rw[zH hz];rfl);have HO3:=zh hO3.drop2;by_cases ha:qa<0
    ·have hd1:decide (qa<0)=true:=zL ha;have hd2:decide (qb > 0)=false:=zK (fun h=>hz ⟨ha,h⟩);clear hz hO3 ha;go_wp2;refine hY.out _ _ _ zo rfl ⟨k+1,_,zo,rfl,rfl,?_⟩;rw[hD1,HS.out,HZ1.out,zJ,yD];exact HO3.out
    ·have hd1:decide (qa<0)=false:=zK ha;clear hz hO3 ha;go_wp2;refine hY.out _ _ _ zo rfl ⟨k+1,_,zo,rfl,rfl,?_⟩;rw[hD1,HS.out,HZ1.out,zJ,yD];exact HO3.out
  ·obtain rfl:k=x.rf.length:=zo;rw[HA.out] at hO hDl ⊢;have HL:=zh (Kv HX.out.2.2.2.2 HZ.out);have hin:=HX.out.2.2.2.1;have HBS:=zh Ot;generalize Ho x=L at *
   have hst:=dO (m:=mk) hO.row (fun u hu=>by have:=hin u hu;omega);have hO1:=hO.bv;generalize mk.addv wr (.slice voa L.length voc)=mk2 at *
   have HO1:=zh hO1;have HIN:=zh hin;obtain⟨la,lc,e,i1,i2,i3⟩:=hst;injection e with e1 e2 e3;subst e1 e3;unfold maxLen at i2;clear hY hO hO1 hin HA HZ;go_wp2;refine au [10,11,67,68,69] (fun n vs wr=>∃(k:Nat) (r:Option Int),k≤L.length∧n=L.length - k∧vs=[.int .i64 (r.getD 0),.bool r.isSome,.slice voa L.length voc,.int .i64 L.length,.int .i64 k] ∧
    r=dN (L.take k) none∧Gb r∧Own w m wr mk2 []) ?_ ?_
   ·exact⟨_,0,none,zC _,rfl,rfl,rfl,(fun u h=>by cases h),HO1.out⟩
   clear HO1;rintro V z n vs wr hV - ⟨k,r,hk,rfl,rfl,hr,hri,hO⟩;simp[litL,lk];by_cases hlt:k<L.length
   ·obtain⟨b,off,rfl,h4⟩:=i3 (by intro h;simp[h] at hlt);obtain⟨hg,hg2⟩:=h4 k hlt;have r1:=Mem.ak hO.inn hg;have rl:=Mem.ay hO.inn hg;have hst:=HBS.out L k hlt;rw[← hr] at hst;have hu:=HIN.out L[k] (zB hlt);have HS:=zh (zi hst (tF hri hu.1 hu.2));clear hst h4 hg hg2 hr;generalize hBk:dN (L.take (k+1)) none=B1 at *
    generalize L[k]=u at *
    have HO:=zh hO;clear hO
    cases r with
    | none=>
     clear hri;go_wp2
     exact hV.out _ _ _ zo rfl ⟨k+1,some u,zo,rfl,rfl,by rw[hBk,HS.out.1];rfl,HS.out.2,HO.out⟩
    | some v=>
     have hv:=hri v rfl;have HN:=zh (MQ u v wr hu hv);clear hu hv hri
     go_wp2_with fail
     refine HN.out.mono ?_;rintro e w2 ⟨rfl,hb2⟩;have HO2:=zh (HO.out.move hb2);clear HN HO hb2;by_cases hn:near u v
     ·rw[zL hn];have HB:=zh (show dN [u] (some v)=some u from by simp[dN,hn]);clear hn;go_wp2;exact hV.out _ _ _ zo rfl ⟨k+1,some u,zo,rfl,rfl,by rw[hBk,HS.out.1,HB.out],by rw[← HB.out];exact HS.out.2,HO2.out⟩
     ·rw[zK hn];have HB:=zh (show dN [u] (some v)=some v from by simp[dN,hn]);clear hn;go_wp2;exact hV.out _ _ _ zo rfl ⟨k+1,some v,zo,rfl,rfl,by rw[hBk,HS.out.1,HB.out],by rw[← HB.out];exact HS.out.2,HO2.out⟩
   ·obtain rfl:k=L.length:=zo;rw[yB] at hr;have HF:=zh (zi (hr.trans HL.out) hO.below);clear hO hr hri;go_wp2;exact hR.out _ _ ⟨by rw[← HF.out.1];rfl,HF.out.2⟩
structure News (w:World) (a:Option Addr) (q:List Spn):Prop where
 at':0<q.length→∃ad,a=some ad∧∀j u,(aS q)[j]?=some u→w.cell? (ad.add j)=some u
 one:∀v∈aS q,v.oneCell'=true
theorem Ce {m:Mem} {w:World} (hm:m.inn w) {a:Option Addr} {c:Nat} {q:List Spn} (h:bM m (.slice a q.length c) q):News w a q:=
 ⟨fun hl=>by
  obtain⟨b,off,e,h2⟩:=tu hm h (by intro e;rw[e] at hl;simp at hl);exact⟨_,e,h2⟩,fun v hv=>by
  obtain⟨q,-,hq⟩:=List.mem_flatMap.1 hv;simp at hq;rcases hq with rfl | rfl <;> rfl⟩
theorem Md {w0 w:World} {m mk:Mem} {L:List Item} {v:Value} {t:TypeId} {l:List Spn} (h:Own w0 m w mk (.row v t 2 l.length (aS l)::L)) (hk:∀p∈l,spOk p) :
 ∃mk',bM mk' v l∧mk.le mk'∧Own w0 m w mk' L:=⟨_,cz (m:=mk) h.row hk,Mem.dG h.free,h.bv⟩
theorem DX (vi vf:Value) (I F:List Spn) (ui uf:Value) (J G:List Spn) (m:Mem) (w:World) (hm:m.inn w) (h1:bu m vi vf I F) (h2:bu m ui uf J G) (hI:I.length≤50000) (hF:F.length≤50000) (hJ:J.length≤50000) (hG:G.length≤50000) :
 Calls Tryz.prog 165 #[.agg #[vi,vf],.agg #[ui,uf]] w fun e w'=>∃ri rf,e=.returned (.agg #[ri,rf])∧Below w.heap.size w w'∧bu (m.grow w w') ri rf (orN (mkN I F) (mkN J G)).i (orN (mkN I F) (mkN J G)).rf:=by
 have hO:=((((Own.start hm).al #[vi,vf] 24).al #[ui,uf] 24).al #[.slice none 0 0,.slice none 0 0] 24).al #[.slice none 0 0,.slice none 0 0] 24;simp only[bZ] at hO;obtain⟨a1,c1,b1,d1,rfl,rfl⟩:=h1.spell;obtain⟨a2,c2,b2,d2,rfl,rfl⟩:=h2.spell;have H1:=zh (zi (Ql I F J G) (zi h1 h2));have k1:∀s∈I ++ J,spOk s:=fun s hs=>(List.mem_append.1 hs).elim (jf h1.i s) (jf h2.i s);have k2:∀s∈F ++ G,spOk s:=fun s hs=>(List.mem_append.1 hs).elim (jf h1.f s) (jf h2.f s);have HK:=zh (zi k1 k2);have HO:=zh (hO.dI 153 2);have n1:=Ce hO.inn h1.i;clear hO h1 h2 k1 k2;refine aj fun R hR=>?_;generalize orN (mkN I F) (mkN J G)=x at *
 go_enter Tryz.func165,Tryz.ntmps165
 go_wp2_with (at_builtin;refine dS eX rfl (.tmp 7) (.tmp 9) rfl (.slice none 0 0) 0 [] rfl HO.out.row a1 I.length c1 (aS I) rfl (bN I) n1.at' n1.one (by unfold maxLen;omega) zo ?_)
 intro va vc w1 hown hgrow hrow
 try simp only[Nat.zero_add,List.nil_append] at hown
 try simp only[Nat.zero_add] at hrow ⊢
 have hO1:=(HO.out.app hown hgrow hrow zS).swap;have p1:=hO1.obj.c 0;have p2:=hO1.obj.c 1;have p3:=hO1.obj.frozen 0;have p4:=hO1.obj.frozen 1;have p5:=hO1.obj.lt;have p6:=hO1.fourth.obj.c 0;have p7:=hO1.fourth.obj.c 1;have p8:=hO1.fourth.obj.lt;have hO2:=hO1.set 0 (.slice va I.length vc);have n2:=Ce hO2.inn H1.out.2.2.i;have HO2:=zh hO2;clear hO1 hO2 hown hgrow hrow HO n1
 go_wp2_with (at_builtin;refine dS eX rfl (.tmp 13) (.tmp 15) rfl (.slice va I.length vc) I.length (aS I) rfl HO2.out.swap.row a2 J.length c2 (aS J) rfl (bN J) n2.at' n2.one (by unfold maxLen;omega) zo ?_)
 intro va2 vc2 w2 hown2 hgrow2 hrow2;have hO1:=(HO2.out.swap.app hown2 hgrow2 hrow2 (by simp[World.setCell])).swap;clear p1 p2 p3 p4 p5 p6 p7 p8;have p1:=hO1.obj.c 0;have p2:=hO1.obj.c 1;have p3:=hO1.obj.frozen 0;have p4:=hO1.obj.frozen 1;have p5:=hO1.obj.lt;have p6:=hO1.fifth.obj.c 0;have p7:=hO1.fifth.obj.c 1;have p8:=hO1.fifth.obj.lt;have hO2:=(hO1.set 0 (.slice va2 (I.length+J.length) vc2)).swap;have eIJ:aS I ++ aS J=aS (I ++ J):=by simp[aS]
 have lIJ:I.length+J.length=(I ++ J).length:=by simp
 rw[eIJ,lIJ] at hO2;obtain⟨mk1,hst,hle,hO3⟩:=Md hO2 HK.out.1;rw[← lIJ] at hst hO3;have n3:=Ce (Mem.cK hle hO3.inn) H1.out.2.1.f;have HO3:=zh (hO3.dI 153 2);have HST:=zh (zi hst hle);clear hO1 hO2 hO3 hown2 hgrow2 hrow2 HO2 n2 hst hle eIJ lIJ
 go_wp2_with (at_builtin;refine dS eX rfl (.tmp 19) (.tmp 21) rfl (.slice none 0 0) 0 [] rfl HO3.out.row b1 F.length d1 (aS F) rfl (bN F) n3.at' n3.one (by unfold maxLen;omega) zo ?_)
 intro va3 vc3 w3 hown3 hgrow3 hrow3
 try simp only[Nat.zero_add,List.nil_append] at hown3
 try simp only[Nat.zero_add] at hrow3 ⊢
 have hO1:=(HO3.out.app hown3 hgrow3 hrow3 (by simp[World.setCell])).swap;clear p1 p2 p3 p4 p5 p6 p7 p8;have p1:=hO1.obj.c 0;have p2:=hO1.obj.c 1;have p3:=hO1.obj.frozen 0;have p4:=hO1.obj.frozen 1;have p5:=hO1.obj.lt;have p6:=hO1.fourth.obj.c 0;have p7:=hO1.fourth.obj.c 1;have p8:=hO1.fourth.obj.lt;have hO2:=hO1.set 1 (.slice va3 F.length vc3);have n4:=Ce (Mem.cK HST.out.2 hO2.inn) H1.out.2.2.f;have HO2:=zh hO2;clear hO1 hO2 hown3 hgrow3 hrow3 HO3 n3
 go_wp2_with (at_builtin;refine dS eX rfl (.tmp 25) (.tmp 27) rfl (.slice va3 F.length vc3) F.length (aS F) rfl HO2.out.swap.row b2 G.length d2 (aS G) rfl (bN G) n4.at' n4.one (by unfold maxLen;omega) zo ?_)
 intro va4 vc4 w4 hown4 hgrow4 hrow4;have hO1:=(HO2.out.swap.app hown4 hgrow4 hrow4 (by simp[World.setCell])).swap;clear p1 p2 p3 p4 p5 p6 p7 p8;have p1:=hO1.obj.c 0;have p2:=hO1.obj.c 1;have p3:=hO1.obj.frozen 0;have p4:=hO1.obj.frozen 1;have p5:=hO1.obj.lt;have hO2:=(hO1.set 1 (.slice va4 (F.length+G.length) vc4)).swap;have eFG:aS F ++ aS G=aS (F ++ G):=by simp[aS]
 have lFG:F.length+G.length=(F ++ G).length:=by simp
 rw[eFG,lFG] at hO2;obtain⟨mk2,hst,hle,hO3⟩:=Md hO2 HK.out.2;rw[← lFG] at hst hO3;have hN:bu _ _ _ (I ++ J) (F ++ G):=⟨aW hle HST.out.1,hst⟩;have HM:=zh (kK _ _ (I ++ J) (F ++ G) _ _ hO3.inn hN (by simp;omega) (by simp;omega));rw[H1.out.1] at HM;have HO3:=zh hO3.swap;clear hO1 hO2 hO3 hown4 hgrow4 hrow4 HO2 n4 hst hle eFG lFG hN
 go_wp2_with fail
 refine HM.out.mono ?_;rintro e w5 ⟨ri,rf,rfl,hb,hn⟩;have hO4:=HO3.out.call hb;obtain⟨xa,xc,ya,yc,rfl,rfl⟩:=hn.spell;clear p1 p2 p3 p4 p5;have p3:=hO4.obj.frozen 0;have p4:=hO4.obj.frozen 1;have p5:=hO4.obj.lt;have hO5:=(hO4.set 0 (.slice xa x.i.length xc)).set 1 (.slice ya x.rf.length yc);have g5:=hO5.obj.c 0;have g6:=hO5.obj.c 1;have p1:=hO4.obj.c 0;have p2:=hO4.obj.c 1;have Hk:=zh (zi hO5.below (hn.le hO5.done));clear hO4 hO5 HM HO3 hb hn;go_wp2;refine yQ (v:=.agg #[.slice xa x.i.length xc,.slice ya x.rf.length yc]) (by simp[results,Tryz.results165,go_sem,g5,g6]) rfl ?_;exact hR.out _ _ ⟨_,_,rfl,Hk.out.1,Hk.out.2⟩
theorem Jb:∀{l:List Spn} {lo hi:Int},(∀s∈l,spIn s) → -1000000000000003≤lo→lo≤1000000000000003 → -1000000000000003≤hi→hi≤1000000000000003→∀s∈jC l lo hi,spOk s
 | [],lo,hi,_,h1,h2,h3,h4,s,hs=>by
  unfold jC at hs
  split at hs
  ·rw[zU] at hs;subst hs;unfold spOk;dsimp only;omega
  ·cases hs
 | t::l,lo,hi,hl,h1,h2,h3,h4,s,hs=>by
  have ht:=hl t (yA ..);unfold spIn at ht;unfold jC at hs;rcases List.mem_append.1 hs with hs | hs
  ·split at hs
   ·rw[zU] at hs;subst hs;unfold spOk;dsimp only;omega
   ·cases hs
  ·exact Jb (fun s hs=>hl s (zR _ hs)) zo zo h3 h4 s hs
theorem wL (va:Value) (l:List Spn) (lo hi:Int) (m:Mem) (w:World) (hm:m.inn w) (hl:bM m va l) (hin:∀s∈l,spIn s) (hlen:l.length≤1000000)
 (h1 : -1000000000000003≤lo) (h2:lo≤1000000000000003) (h3 : -1000000000000003≤hi) (h4:hi≤1000000000000003) :
 Calls Tryz.prog 270 #[va,.int .i64 lo,.int .i64 hi] w fun e w'=>∃r,e=.returned r∧Below w.heap.size w w'∧bM (m.grow w w') r (jC l lo hi):=by
 have HOK:=zh (Jb hin h1 h2 h3 h4);have hgl:=rR l lo hi;obtain⟨aa,ac,rfl,a1,a2,a3⟩:=hl;unfold maxLen at a2;have HO:=zh ((Own.start hm).dI 153 2);have HB:=zh (zi h1 h2);clear h1 h2;refine aj fun R hR=>?_
 go_enter Tryz.func270,Tryz.ntmps270
 go_wp2;generalize hG:jC l lo hi=G at *
 refine au [1,2,7,10,11,12] (fun n vs wr=>∃(k:Nat) (lo':Int) (pre:List Spn) (vo:Value),k≤l.length∧n=l.length - k∧vs=[.int .i64 lo',.int .i64 hi,vo,.slice aa l.length ac,.int .i64 l.length,.int .i64 k] ∧
  pre ++ jC (l.drop k) lo' hi=G ∧ -1000000000000003≤lo'∧lo'≤1000000000000003∧Own w m wr m [.row vo 153 2 pre.length (aS pre)]) ?_ ?_
 ·exact⟨_,0,lo,[],.slice none 0 0,zC _,rfl,rfl,hG,HB.out.1,HB.out.2,HO.out⟩
 clear HO HB hG;rintro X z n vs wr hX - ⟨k,lo',pre,vo,hk,rfl,rfl,hg,hb1,hb2,hO⟩;simp[litL,lk];have hpl:pre.length≤l.length+1:=by rw[← hg,zJ] at hgl;omega
 obtain⟨voa,voc,rfl⟩:=aM hO.row;by_cases hlt:k<l.length
 ·obtain⟨b,off,rfl,h4⟩:=a3 (by intro h;simp[h] at hlt);have hgk:=h4 k hlt;have r1:=Mem.ak hO.inn hgk.1;have r2:=Mem.ak hO.inn hgk.2.1;have rl:=Mem.ay hO.inn hgk.1;have hsp:=hin l[k] (zB hlt);rw[KJ l k hlt] at hg;have HG:=zh hg;clear h4 hgk hg;generalize l[k]=q at *
  obtain⟨qa,qb⟩:=q;unfold spIn at hsp;simp only at r1 r2 hsp;have hO1:=hO.al #[.int .i64 qa,.int .i64 qb] 153;by_cases hxy:lo'<qa
  ·have hdec:decide (lo'<qa)=true:=zL hxy;have hO2:=(hO1.al #[.int .i64 lo',.int .i64 (qa - 1)] 153).third
   try simp only[bZ] at hO2
   have hnews:=hO2.swap.obj.news rfl;have Hxy:=zh hxy;clear hxy hO hO1
   go_wp2_with (at_builtin;refine aA eX rfl (.tmp 20) (.tmp 26) rfl (.slice voa pre.length voc) pre.length _ rfl hO2.row ⟨_,0,none⟩ 1 1 [.int .i64 lo',.int .i64 (qa - 1)] rfl rfl hnews (by simp[Value.oneCell']) (by unfold maxLen;omega) zo ?_)
   intro va vc w7 hown7 hgrow7 hrow7;have hO3:=(hO2.app hown7 hgrow7 hrow7 zS).drop2.swap;have d1:=hO3.obj.c 0;have d2:=hO3.obj.c 1;have d3:=hO3.obj.lt;have HO3:=zh hO3;clear hO3 hO2 hown7 hgrow7 hrow7 hnews;go_wp2;refine hX.out _ _ _ zo rfl ⟨k+1,_,pre ++ [(lo',qa - 1)],_,zo,rfl,rfl,?_,zo,zo,?_⟩
   ·rw[← HG.out,zI (show lo'<qa from Hxy.out),List.append_assoc]
   ·rw[aX,zJ];exact HO3.out.tail
  ·have hdec:decide (lo'<qa)=false:=zK hxy;have HO3:=zh hO1.tail;have Hxy:=zh hxy;clear hxy hO hO1;go_wp2;refine hX.out _ _ _ zo rfl ⟨k+1,_,pre,_,zo,rfl,rfl,?_,zo,zo,HO3.out⟩;rw[← HG.out,zH (show ¬ lo'<qa by have:=Hxy.out;omega),List.nil_append]
 ·obtain rfl:k=l.length:=zo;rw[Nw] at hg;by_cases hxy:lo'≤hi
  ·have hdec:decide (lo'≤hi)=true:=zL hxy;rw[zI hxy] at hg;have hO2:=(hO.al #[.int .i64 lo',.int .i64 hi] 153).swap
   try simp only[bZ] at hO2
   have hnews:=hO2.swap.obj.news rfl;clear hxy hO
   go_wp2_with (at_builtin;refine aA eX rfl (.tmp 35) (.tmp 39) rfl (.slice voa pre.length voc) pre.length _ rfl hO2.row ⟨_,0,none⟩ 1 1 [.int .i64 lo',.int .i64 hi] rfl rfl hnews (by simp[Value.oneCell']) (by unfold maxLen;omega) zo ?_)
   intro va vc w7 hown7 hgrow7 hrow7;have hO3:=(hO2.app hown7 hgrow7 hrow7 zS).drop2;have hO4:Own w m w7 m [.row (.slice va (pre.length+1) vc) 153 2 G.length (aS G)]:=by
    rw[← hg,aX,zJ];exact hO3
   have e:pre.length+1=G.length:=by rw[← hg,zJ];rfl
   rw[e] at hO4 ⊢;have hst:=cz (m:=m) (l:=G) hO4.row HOK.out;have hfin:=aW hO4.bv.done hst;have Hfin:=zh (zi hO4.below hfin);clear hO3 hO2 hown7 hgrow7 hrow7 hnews hO4 hst hfin;go_wp2;exact hR.out _ _ ⟨_,rfl,Hfin.out.1,Hfin.out.2⟩
  ·have hdec:decide (lo'≤hi)=false:=zK hxy;rw[zH hxy,yM] at hg;subst hg;have hst:=cz (m:=m) (l:=pre) hO.row HOK.out;have hfin:=aW hO.bv.done hst;have Hfin:=zh (zi hO.below hfin);clear hO hst hfin hxy;go_wp2;exact hR.out _ _ ⟨_,rfl,Hfin.out.1,Hfin.out.2⟩
theorem jI (vi vf:Value) (I F:List Spn) (m:Mem) (w:World) (hm:m.inn w) (h1:bu m vi vf I F) (hI:I.length≤90000) (hF:F.length≤90000) :
 Calls Tryz.prog 211 #[.agg #[vi,vf]] w fun e w'=>∃ri rf,e=.returned (.agg #[ri,rf])∧Below w.heap.size w w'∧bu (m.grow w w') ri rf (notN (mkN I F)).i (notN (mkN I F)).rf:=by
 have hO:=((Own.start hm).al #[vi,vf] 24).al #[.slice none 0 0,.slice none 0 0] 24;have hsz1:(w.alloc (.cells #[vi,vf] 24)).heap.size=w.heap.size+1:=by simp
 rw[hsz1] at hO;obtain⟨a1,c1,b1,d1,rfl,rfl⟩:=h1.spell;have hrk:=(ik (gG I F)).rk;have hl:=(jV (eu hI hF)).f;have hraw:(notN (mkN I F)).i=jC (lD I) (-100000000000) 100000000000∧(notN (mkN I F)).f=jC (jN F) (-999900000000000) 999899999999999:=⟨rfl,rfl⟩;have HRK:=zh (zi hrk (zi hl (zi (gG I F).inI (gG I F).inR)));have HLN:=zh (zi (eu hI hF).i (eu hI hF).f);clear hrk hl;have HO:=zh hO;have H1:=zh (zi hraw h1);clear hO h1 hsz1 hraw;refine aj fun R hR=>?_;generalize notN (mkN I F)=x at *
 go_enter Tryz.func211,Tryz.ntmps211
 go_upto_region 1 with (fail)
 refine aI [2] (fun vs w'=>∃(mk':Mem) (ra rb:Option Addr) (rc rd:Nat),vs=[.pointer (some ⟨w.heap.size+1,0,none⟩)] ∧
  Own w m w' mk' [.obj (w.heap.size+1) 24 #[.slice ra x.i.length rc,.slice rb x.rf.length rd]] ∧
  bu mk' (.slice ra x.i.length rc) (.slice rb x.rf.length rd) x.i x.rf) ?_ ?_
 ·intro X hX;refine aU 7 5 (fun j=>[Fact.is (·=.agg #[.slice a1 I.length c1,.slice b1 F.length d1]),Fact.mem m [1] (SpV (lD I)),Fact.mem m [2,1] (SpV x.i),Fact.is (·=.agg #[.slice a1 I.length c1,.slice b1 F.length d1]),Fact.mem m [4] (SpV (jN F)),Fact.mem m [5,4] (SpV x.f),Fact.mem m [6,2,1,5,4] (NumV x.i x.rf)].getD j Fact.any) zk zk ?_ ?_
  ·intro i hi o win a wr ho RA;have HO2:=HO.out.dr.move RA.below;have p1:=HO2.swap.obj.c 0;have p2:=HO2.swap.obj.c 1;rcases (show i=0∨i=1∨i=2∨i=3∨i=4∨i=5∨i=6 by omega) with rfl | rfl | rfl | rfl | rfl | rfl | rfl
   ·have e1:=RA.k 1;cases ho;exact wv rfl rfl rfl
   ·have e3:a.tmps.getD 3 undef=_:=RA.d 0 rfl;cases ho;refine we rfl rfl (wK _ _ I F m wr HO2.inn H1.out.2 zo) ?_;rintro e w' ⟨r,rfl,hb,hn⟩;exact⟨_,rfl,_,rfl,hb,fQ SpV.le HO2.inn hb (nE hn)⟩
   ·have e4:(Fact.mem m [1] (SpV (lD I))).holds (a.tmps.getD 4 undef) win wr:=RA.d 1 rfl;cases ho;obtain⟨r1,s1,k1,t1⟩:SpV _ _ _:=e4;refine we rfl rfl (wL _ (lD I) (-100000000000) 100000000000 (m.wins wr win [1]) wr (Mem.eB HO2.inn win [1]) t1 HRK.out.2.2.1 (by have h:(lD I).length≤90000:=HLN.out.1;omega) zo zo zo zo) ?_;rintro e w' ⟨r,rfl,hb,hn⟩;rw[← H1.out.1.1] at hn;exact⟨_,rfl,_,rfl,hb,fZ (ds:=[1]) SpV.le HO2.inn zS (fun d hd=>(RA.rng d (by simp at hd;subst hd;kernel_rfl)).2.2) hb (nE hn)⟩
   ·have e1:=RA.k 1;cases ho;exact wv rfl rfl rfl
   ·have e6:a.tmps.getD 6 undef=_:=RA.d 3 rfl;cases ho;refine we rfl rfl (uG _ _ I F m wr HO2.inn H1.out.2 zo) ?_;rintro e w' ⟨r,rfl,hb,hn⟩;exact⟨_,rfl,_,rfl,hb,fQ SpV.le HO2.inn hb (nE hn)⟩
   ·have e7:(Fact.mem m [4] (SpV (jN F))).holds (a.tmps.getD 7 undef) win wr:=RA.d 4 rfl;cases ho;obtain⟨r1,s1,k1,t1⟩:SpV _ _ _:=e7;refine we rfl rfl (wL _ (jN F) (-999900000000000) 999899999999999 (m.wins wr win [4]) wr (Mem.eB HO2.inn win [4]) t1 HRK.out.2.2.2 (by have h:(jN F).length≤90000:=HLN.out.2;omega) zo zo zo zo) ?_;rintro e w' ⟨r,rfl,hb,hn⟩;rw[← H1.out.1.2] at hn;exact⟨_,rfl,_,rfl,hb,fZ (ds:=[4]) SpV.le HO2.inn zS (fun d hd=>(RA.rng d (by simp at hd;subst hd;kernel_rfl)).2.2) hb (nE hn)⟩
   ·have e5:(Fact.mem m [2,1] (SpV x.i)).holds (a.tmps.getD 5 undef) win wr:=RA.d 2 rfl;have e8:(Fact.mem m [5,4] (SpV x.f)).holds (a.tmps.getD 8 undef) win wr:=RA.d 5 rfl;cases ho;obtain⟨r1,s1,k1,t1⟩:SpV _ _ _:=e5;obtain⟨r2,s2,k2,t2⟩:SpV _ _ _:=e8;refine we rfl rfl (DU _ _ x.i x.f (m.wins wr win [2,1,5,4]) wr (Mem.eB HO2.inn win [2,1,5,4]) (aW (Mem.fE (es:=[2,1,5,4]) HO2.inn win zS) t1) (aW (Mem.fE (es:=[2,1,5,4]) HO2.inn win zS) t2) HRK.out.1 (by have:=HRK.out.2.1;omega)) ?_;rintro e w' ⟨rf,rfl,hb,hn⟩;exact⟨_,rfl,_,rfl,hb,fZ (ds:=[2,1,5,4]) NumV.le HO2.inn zS (fun d hd=>(RA.rng d (by simp at hd;rcases hd with rfl | rfl | rfl | rfl <;> kernel_rfl)).2.2) hb (gB hn)⟩
  ·intro win a wr E;have e2:=E.keep 2 zk;have e9:(Fact.mem m [6,2,1,5,4] (NumV x.i x.rf)).holds (a.tmps.getD 9 undef) win wr:=E.fact 6 _ zo rfl;obtain⟨ra,rc,rb,rd,f1,st1⟩:NumV _ _ _ _:=e9;have hO1:=HO.out.drop2.dr.region E.below win [6,2,1,5,4] (fun d hd=>(E.rng d (by simp at hd;omega)).1);have HE:=zh E;generalize m.wins wr win [6,2,1,5,4]=mk2 at *
   have HK:=zh st1;clear E st1;have b1:=hO1.obj.frozen 0;have b1':=hO1.obj.frozen 1;have b2:=hO1.obj.c 0;have b2':=hO1.obj.c 1;have b3:=hO1.obj.lt;have hO3:=(hO1.set 0 (.slice ra x.i.length rc)).set 1 (.slice rb x.rf.length rd);refine dQ 7 zk (aF rfl rfl (aZ zg ?_));obtain⟨t,d⟩:=a;obtain rfl:d=[]:=HE.out.defers;refine bS zk (hX.out _ _ HE.out.size ⟨mk2,ra,rb,rc,rd,?_,hO3,HK.out⟩) _;simp only[yG,List.map_nil,e2]
   rfl
 rintro z2 vs w2 - ⟨mk',ra,rb,rc,rd,rfl,hO,hr⟩;simp[litL,lk];have g5:=hO.obj.c 0;have g6:=hO.obj.c 1;have Hk:=zh (zi hO.below (hr.le hO.done));clear hO hr HO;go_wp2;refine yQ (v:=.agg #[.slice ra x.i.length rc,.slice rb x.rf.length rd]) (by simp[results,Tryz.results211,go_sem,g5,g6]) rfl ?_;exact hR.out _ _ ⟨_,_,rfl,Hk.out.1,Hk.out.2⟩
theorem J8 (vi vf:Value) (I F:List Spn) (ui uf:Value) (J G:List Spn) (m:Mem) (w:World) (hm:m.inn w) (h1:bu m vi vf I F) (h2:bu m ui uf J G) (hI:I.length≤20000) (hF:F.length≤20000) (hJ:J.length≤20000) (hG:G.length≤20000) :
 Calls Tryz.prog 230 #[.agg #[vi,vf],.agg #[ui,uf]] w fun e w'=>∃ri rf,e=.returned (.agg #[ri,rf])∧Below w.heap.size w w'∧bu (m.grow w w') ri rf (andN (mkN I F) (mkN J G)).i (andN (mkN I F) (mkN J G)).rf:=by
 have hO:=(((Own.start hm).al #[vi,vf] 24).al #[ui,uf] 24).al #[.slice none 0 0,.slice none 0 0] 24;have hsz1:(w.alloc (.cells #[vi,vf] 24)).heap.size=w.heap.size+1:=by simp
 have hsz2:((w.alloc (.cells #[vi,vf] 24)).alloc (.cells #[ui,uf] 24)).heap.size=w.heap.size+1+1:=by simp
 rw[hsz2,hsz1] at hO;obtain⟨a1,c1,b1,d1,rfl,rfl⟩:=h1.spell;obtain⟨a2,c2,b2,d2,rfl,rfl⟩:=h2.spell;have hx:=ik (gG I F);have hy:=ik (gG J G);have h4:=jV (eu hI hF);have h5:=jV (eu hJ hG);have h6:=ME h4 h5;have hraw:orN (mkN (notN (mkN I F)).i (notN (mkN I F)).rf) (mkN (notN (mkN J G)).i (notN (mkN J G)).rf)=orN (notN (mkN I F)) (notN (mkN J G))∧notN (mkN (orN (notN (mkN I F)) (notN (mkN J G))).i (orN (notN (mkN I F)) (notN (mkN J G))).rf)=andN (mkN I F) (mkN J G):=⟨by rw[gF hx,gF hy],by rw[gF (uJ hx hy)];rfl⟩;have l1:=h4.i;have l2:=h4.f;have l3:=h5.i;have l4:=h5.f;have l5:=h6.i;have l6:=h6.f;rw[← NS.jR] at l2 l4 l6;clear hx hy h4 h5 h6;generalize orN (notN (mkN I F)) (notN (mkN J G))=ox at *
 generalize hnx:notN (mkN I F)=nx at *
 generalize hny:notN (mkN J G)=ny at *
 have HN:=zh (zi hnx hny);clear hnx hny;have HO:=zh hO;have H1:=zh (zi hraw (zi h1 h2));clear hO h1 h2 hsz1 hsz2 hraw;refine aj fun R hR=>?_;generalize andN (mkN I F) (mkN J G)=x at *
 go_enter Tryz.func230,Tryz.ntmps230
 go_upto_region 1 with (fail)
 refine aI [4] (fun vs w'=>∃(mk':Mem) (ra rb:Option Addr) (rc rd:Nat),vs=[.pointer (some ⟨w.heap.size+1+1,0,none⟩)] ∧
  Own w m w' mk' [.obj (w.heap.size+1+1) 24 #[.slice ra x.i.length rc,.slice rb x.rf.length rd]] ∧
  bu mk' (.slice ra x.i.length rc) (.slice rb x.rf.length rd) x.i x.rf) ?_ ?_
 ·intro X hX;refine aU 6 5 (fun j=>[Fact.is (·=.agg #[.slice a1 I.length c1,.slice b1 F.length d1]),Fact.mem m [1] (NumV nx.i nx.rf),Fact.is (·=.agg #[.slice a2 J.length c2,.slice b2 G.length d2]),Fact.mem m [3] (NumV ny.i ny.rf),Fact.mem m [4,1,3] (NumV ox.i ox.rf),Fact.mem m [5,4,1,3] (NumV x.i x.rf)].getD j Fact.any) zk zk ?_ ?_
  ·intro i hi o win a wr ho RA;have HO2:=HO.out.dr.move RA.below;have p1:=HO2.swap.obj.c 0;have p2:=HO2.swap.obj.c 1;have p3:=HO2.third.obj.c 0;have p4:=HO2.third.obj.c 1;rcases (show i=0∨i=1∨i=2∨i=3∨i=4∨i=5 by omega) with rfl | rfl | rfl | rfl | rfl | rfl
   ·have e2:=RA.k 2;cases ho;exact wv rfl rfl rfl
   ·have e5:a.tmps.getD 5 undef=_:=RA.d 0 rfl;cases ho;refine we rfl rfl (jI _ _ I F m wr HO2.inn H1.out.2.1 zo zo) ?_;rintro e w' ⟨ri,rf,rfl,hb,hn⟩;rw[HN.out.1] at hn;exact⟨_,rfl,_,rfl,hb,fQ NumV.le HO2.inn hb (gB hn)⟩
   ·have e3:=RA.k 3;cases ho;exact wv rfl rfl rfl
   ·have e7:a.tmps.getD 7 undef=_:=RA.d 2 rfl;cases ho;refine we rfl rfl (jI _ _ J G m wr HO2.inn H1.out.2.2 zo zo) ?_;rintro e w' ⟨ri,rf,rfl,hb,hn⟩;rw[HN.out.2] at hn;exact⟨_,rfl,_,rfl,hb,fQ NumV.le HO2.inn hb (gB hn)⟩
   ·have e6:(Fact.mem m [1] (NumV nx.i nx.rf)).holds (a.tmps.getD 6 undef) win wr:=RA.d 1 rfl;have e8:(Fact.mem m [3] (NumV ny.i ny.rf)).holds (a.tmps.getD 8 undef) win wr:=RA.d 3 rfl;cases ho;obtain⟨r1,s1,r2,s2,k1,t1⟩:NumV _ _ _ _:=e6;obtain⟨r3,s3,r4,s4,k2,t2⟩:NumV _ _ _ _:=e8;refine we rfl rfl (DX _ _ nx.i nx.rf _ _ ny.i ny.rf (m.wins wr win [1,3]) wr (Mem.eB HO2.inn win [1,3]) (t1.le (Mem.fE (es:=[1,3]) HO2.inn win zS)) (t2.le (Mem.fE (es:=[1,3]) HO2.inn win zS)) zo zo zo zo) ?_;rintro e w' ⟨ri,rf,rfl,hb,hn⟩;rw[H1.out.1.1] at hn;exact⟨_,rfl,_,rfl,hb,fZ (ds:=[1,3]) NumV.le HO2.inn zS (fun d hd=>(RA.rng d (by simp at hd;rcases hd with rfl | rfl <;> kernel_rfl)).2.2) hb (gB hn)⟩
   ·have e9:(Fact.mem m [4,1,3] (NumV ox.i ox.rf)).holds (a.tmps.getD 9 undef) win wr:=RA.d 4 rfl;cases ho;obtain⟨r1,s1,r2,s2,k1,t1⟩:NumV _ _ _ _:=e9;refine we rfl rfl (jI _ _ ox.i ox.rf (m.wins wr win [4,1,3]) wr (Mem.eB HO2.inn win [4,1,3]) t1 zo zo) ?_;rintro e w' ⟨ri,rf,rfl,hb,hn⟩;rw[H1.out.1.2] at hn;exact⟨_,rfl,_,rfl,hb,fZ (ds:=[4,1,3]) NumV.le HO2.inn zS (fun d hd=>(RA.rng d (by simp at hd;rcases hd with rfl | rfl | rfl <;> kernel_rfl)).2.2) hb (gB hn)⟩
  ·intro win a wr E;have e4:=E.keep 4 zk;have e10:(Fact.mem m [5,4,1,3] (NumV x.i x.rf)).holds (a.tmps.getD 10 undef) win wr:=E.fact 5 _ zo rfl;obtain⟨ra,rc,rb,rd,f1,st1⟩:NumV _ _ _ _:=e10;have hO1:=HO.out.drop2.drop2.dr.region E.below win [5,4,1,3] (fun d hd=>(E.rng d (by simp at hd;omega)).1);have HE:=zh E;generalize m.wins wr win [5,4,1,3]=mk2 at *
   have HK:=zh st1;clear E st1;have b1:=hO1.obj.frozen 0;have b1':=hO1.obj.frozen 1;have b2:=hO1.obj.c 0;have b2':=hO1.obj.c 1;have b3:=hO1.obj.lt;have hO3:=(hO1.set 0 (.slice ra x.i.length rc)).set 1 (.slice rb x.rf.length rd);refine dQ 6 zk (aF rfl rfl (aZ zg ?_));obtain⟨t,d⟩:=a;obtain rfl:d=[]:=HE.out.defers;refine bS zk (hX.out _ _ HE.out.size ⟨mk2,ra,rb,rc,rd,?_,hO3,HK.out⟩) _;simp only[yG,List.map_nil,e4]
   rfl
 rintro z2 vs w2 - ⟨mk',ra,rb,rc,rd,rfl,hO,hr⟩;simp[litL,lk];have g5:=hO.obj.c 0;have g6:=hO.obj.c 1;have Hk:=zh (zi hO.below (hr.le hO.done));clear hO hr HO;go_wp2;refine yQ (v:=.agg #[.slice ra x.i.length rc,.slice rb x.rf.length rd]) (by simp[results,Tryz.results230,go_sem,g5,g6]) rfl ?_;exact hR.out _ _ ⟨_,_,rfl,Hk.out.1,Hk.out.2⟩
theorem lw (vi vf:Value) (I F:List Spn) (ui uf:Value) (J G:List Spn) (m:Mem) (w:World) (hm:m.inn w) (h1:bu m vi vf I F) (h2:bu m ui uf J G) (hI:I.length≤15000) (hF:F.length≤15000) (hJ:J.length≤15000) (hG:G.length≤15000) :
 Calls Tryz.prog 166 #[.agg #[vi,vf],.agg #[ui,uf]] w fun e w'=>∃ri rf,e=.returned (.agg #[ri,rf])∧Below w.heap.size w w'∧bu (m.grow w w') ri rf (bY (mkN I F) (mkN J G)).i (bY (mkN I F) (mkN J G)).rf:=by
 have hO:=(((Own.start hm).al #[vi,vf] 24).al #[ui,uf] 24).al #[.slice none 0 0,.slice none 0 0] 24;have hsz1:(w.alloc (.cells #[vi,vf] 24)).heap.size=w.heap.size+1:=by simp
 have hsz2:((w.alloc (.cells #[vi,vf] 24)).alloc (.cells #[ui,uf] 24)).heap.size=w.heap.size+1+1:=by simp
 rw[hsz2,hsz1] at hO;obtain⟨a1,c1,b1,d1,rfl,rfl⟩:=h1.spell;obtain⟨a2,c2,b2,d2,rfl,rfl⟩:=h2.spell;have hyo:=gG J G;have hnl:=jV (eu hJ hG);have l1:=hnl.i;have l2:=hnl.f;rw[← NS.jR] at l2;have hraw:andN (mkN I F) (mkN (notN (mkN J G)).i (notN (mkN J G)).rf)=bY (mkN I F) (mkN J G):=by rw[gF (ik hyo)];rfl
 clear hyo hnl;have HO:=zh hO;have H1:=zh (zi hraw (zi h1 h2));clear hO h1 h2 hsz1 hsz2 hraw;refine aj fun R hR=>?_;generalize bY (mkN I F) (mkN J G)=x at *
 go_enter Tryz.func166,Tryz.ntmps166
 go_upto_region 1 with (fail)
 refine aI [4] (fun vs w'=>∃(mk':Mem) (ra rb:Option Addr) (rc rd:Nat),vs=[.pointer (some ⟨w.heap.size+1+1,0,none⟩)] ∧
  Own w m w' mk' [.obj (w.heap.size+1+1) 24 #[.slice ra x.i.length rc,.slice rb x.rf.length rd]] ∧
  bu mk' (.slice ra x.i.length rc) (.slice rb x.rf.length rd) x.i x.rf) ?_ ?_
 ·intro X hX;refine aU 4 5 (fun j=>[Fact.is (·=.agg #[.slice a1 I.length c1,.slice b1 F.length d1]),Fact.is (·=.agg #[.slice a2 J.length c2,.slice b2 G.length d2]),Fact.mem m [2] (NumV (notN (mkN J G)).i (notN (mkN J G)).rf),Fact.mem m [3,2] (NumV x.i x.rf)].getD j Fact.any) zk zk ?_ ?_
  ·intro i hi o win a wr ho RA;have HO2:=HO.out.dr.move RA.below;have p1:=HO2.swap.obj.c 0;have p2:=HO2.swap.obj.c 1;have p3:=HO2.third.obj.c 0;have p4:=HO2.third.obj.c 1;rcases (show i=0∨i=1∨i=2∨i=3 by omega) with rfl | rfl | rfl | rfl
   ·have e2:=RA.k 2;cases ho;exact wv rfl rfl rfl
   ·have e3:=RA.k 3;cases ho;exact wv rfl rfl rfl
   ·have e6:a.tmps.getD 6 undef=_:=RA.d 1 rfl;cases ho;refine we rfl rfl (jI _ _ J G m wr HO2.inn H1.out.2.2 zo zo) ?_;rintro e w' ⟨ri,rf,rfl,hb,hn⟩;exact⟨_,rfl,_,rfl,hb,fQ NumV.le HO2.inn hb (gB hn)⟩
   ·have e5:a.tmps.getD 5 undef=_:=RA.d 0 rfl;have e7:(Fact.mem m [2] (NumV (notN (mkN J G)).i (notN (mkN J G)).rf)).holds (a.tmps.getD 7 undef) win wr:=RA.d 2 rfl;cases ho;obtain⟨r1,s1,r2,s2,k1,t1⟩:NumV _ _ _ _:=e7;refine we rfl rfl (J8 _ _ I F _ _ _ _ _ wr (Mem.eB HO2.inn win [2]) (H1.out.2.1.le (Mem.jq HO2.inn win [2])) t1 zo zo zo zo) ?_;rintro e w' ⟨ri,rf,rfl,hb,hn⟩;rw[H1.out.1] at hn;exact⟨_,rfl,_,rfl,hb,fZ (ds:=[2]) NumV.le HO2.inn zS (fun d hd=>(RA.rng d (by simp at hd;subst hd;kernel_rfl)).2.2) hb (gB hn)⟩
  ·intro win a wr E;have e4:=E.keep 4 zk;have e8:(Fact.mem m [3,2] (NumV x.i x.rf)).holds (a.tmps.getD 8 undef) win wr:=E.fact 3 _ zo rfl;obtain⟨ra,rc,rb,rd,f1,st1⟩:NumV _ _ _ _:=e8;have hO1:=HO.out.drop2.drop2.dr.region E.below win [3,2] (fun d hd=>(E.rng d (by simp at hd;omega)).1);have HE:=zh E;generalize m.wins wr win [3,2]=mk2 at *
   have HK:=zh st1;clear E st1;have b1:=hO1.obj.frozen 0;have b1':=hO1.obj.frozen 1;have b2:=hO1.obj.c 0;have b2':=hO1.obj.c 1;have b3:=hO1.obj.lt;have hO3:=(hO1.set 0 (.slice ra x.i.length rc)).set 1 (.slice rb x.rf.length rd);refine dQ 4 zk (aF rfl rfl (aZ zg ?_));obtain⟨t,d⟩:=a;obtain rfl:d=[]:=HE.out.defers;refine bS zk (hX.out _ _ HE.out.size ⟨mk2,ra,rb,rc,rd,?_,hO3,HK.out⟩) _;simp only[yG,List.map_nil,e4]
   rfl
 rintro z2 vs w2 - ⟨mk',ra,rb,rc,rd,rfl,hO,hr⟩;simp[litL,lk];have g5:=hO.obj.c 0;have g6:=hO.obj.c 1;have Hk:=zh (zi hO.below (hr.le hO.done));clear hO hr HO;go_wp2;refine yQ (v:=.agg #[.slice ra x.i.length rc,.slice rb x.rf.length rd]) (by simp[results,Tryz.results166,go_sem,g5,g6]) rfl ?_;exact hR.out _ _ ⟨_,_,rfl,Hk.out.1,Hk.out.2⟩
end Cl
