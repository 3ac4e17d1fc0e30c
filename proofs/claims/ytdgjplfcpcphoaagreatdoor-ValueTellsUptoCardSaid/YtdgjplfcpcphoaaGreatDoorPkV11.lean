/- Lemmas for the proofs of chapter 11. -/
import Derived.Test.YtdgjplfcpcphoaaGreatDoorProg
import Derived.BigQuiet
import Derived.Deep.Cut
import Derived.Deep.QuietTactic
import Derived.Laws.StructEq
import Derived.Lib.AppendStr
import Derived.Lib.Builder
import Derived.Lib.Hide
import Derived.Lib.ItoaLen
import Derived.Maps.OwnOps
import Derived.Maps.OwnSet
import Derived.OrdersHeld
import Derived.Outline
import Derived.StillTailTactics
import Derived.StringKeys
import Derived.WalkKit
import Derived.WalkLawsBesides
import Derived.WalkSpells
import Derived.Deep.RegionHeld
import Derived.Shelf.Strings.Builder1
import Derived.Shelf.Small.Wraps
import Derived.Shelf.LaysM
import Derived.Shelf.Strconv.Itoa3
import Derived.Test.YtdgjplfcpcphoaaGreatDoorZz
import Derived.Test.YtdgjplfcpcphoaaGreatDoorPkV3
import Derived.Test.YtdgjplfcpcphoaaGreatDoorPkV5
import Derived.Test.YtdgjplfcpcphoaaGreatDoorPkV1
import Derived.Test.YtdgjplfcpcphoaaGreatDoorPkV2
import Derived.Test.YtdgjplfcpcphoaaGreatDoorPkV10
import Derived.Test.YtdgjplfcpcphoaaGreatDoorPkV4
import Derived.Test.YtdgjplfcpcphoaaGreatDoorPkV9
import Derived.Test.YtdgjplfcpcphoaaGreatDoorPkV6
set_option maxRecDepth 100000
set_option maxHeartbeats 16000000
namespace Cl
open Go Go.RowKit Go.Proofs
structure Nw (l C:Table):Prop where
 canon:Canon C
 lang:∀x,aF C 0 x=aF l 0 x
theorem fB (m:Mem):aQ m (.slice none 0 0) []:=⟨none,0,rfl,Nat.le_refl _,by simp[maxLen],fun h=>absurd rfl h⟩
theorem xY (v0:Value) (l:Table) (m:Mem) (w:World) (hm:m.inn w) (htab:TabM m) (hl:aQ m v0 l) (hlen:l.length≤1000000) :
 Calls Tryz.prog 197 #[v0] w fun e w'=>∃r C,e=.returned (.tuple #[.agg #[r],.int .i64 (if tf (WF l)=true then 0 else 11)])∧Below w.heap.size w w'∧aQ (m.grow w w') r C∧C.length≤l.length+1 ∧
  (WF l→Nw l C)∧(¬ WF l→C=[]):=by
 have hl0:=hl;obtain⟨a,c,rfl,h1,h2,h3⟩:=hl;unfold maxLen at h2;have HW:=zh (fun w (hw:m.inn w)=>mr (.slice a l.length c) l m w hw hl0);refine av fun R hR=>?_;have hO:=(Own.start hm).al #[.slice none 0 0] 27;have HO:=zh hO;clear hO
 go_enter Tryz.func197,Tryz.ntmps197
 go_wp2_with fail
 refine (HW.out _ (Mem.dm HO.out.ext.le HO.out.inn)).mono ?_;rintro e w1 ⟨rfl,hb1⟩;have hO1:=HO.out.move hb1;clear HO hb1;by_cases hwf:WF l
 ·rw[aH hwf];by_cases h0:l.length=0
  ·have hln:l=[]:=List.eq_nil_of_length_eq_zero h0;have hO2:=hO1.set 0 (.slice none 0 0);have g1:=hO1.obj.cell (i:=0) rfl;have g2:=hO1.obj.frozen 0;have g3:=hO1.obj.lt;have g4:=hO2.obj.cell (i:=0) rfl;have Hk:=zh (zi hO2 hln);have hdec:((l.length:Int)==0)=true:=by simp[h0]
   clear hO1 hO2 hln h0;go_wp2;refine bodyPost_ret (v:=.tuple #[.agg #[.slice none 0 0],.int .i64 0]) (by simp[results,Tryz.results197,go_sem,g1]) rfl ?_;refine hR.out _ _ ⟨_,[],by rw[aH hwf];rfl,Hk.out.1.below,fB _,zS,fun _=>⟨iq,fun x=>?_⟩,fun _=>rfl⟩;rw[Hk.out.2]
  ·have hdec:((l.length:Int)==0)=false:=beq_eq_false_iff_ne.2 zo;have HC:=zh (AR (.slice a l.length c) l m w1 (Mem.dm hO1.ext.le hO1.inn) hl0 hwf hlen);have HO1:=zh hO1;clear hO1
   go_wp2_with fail
   refine HC.out.mono ?_;rintro e w2 ⟨g,mk,vc,vn,va,rfl,hO2,k1,k2,k3⟩;have hO3:=HO1.out.join hO2;have hle:=hO2.ext.le;have hH:=xU hwf hlen;have HR:=zh (Fq g vc vn va l (bC l 256) (dQ l (bC l 256)) (l.map (·.accept) ++ [false]) _ _ hH m mk w w2 [.obj w.heap.size 27 #[.slice none 0 0]] (htab.le hle) hO3 k2 k3);clear hO3 hO2 HC HO1
   go_wp2_with fail
   refine HR.out.mono ?_;rintro e w3 ⟨mk2,vk,cls,rfl,hO4,hle2,k4,hcls⟩;have q0:=hO4.obj.cell (i:=0) rfl;have hO5:=hO4.jm;have hle3:=Mem.kC (w:=w3) hO4.jr;have htabAt:TabAt (mk2.add w3 g) g (bC l 256) (dQ l (bC l 256)) (l.map (·.accept) ++ [false]) cls:=by
    refine ⟨vc,vn,va,vk,Mem.dR hO4.obj rfl,Mem.dR hO4.obj rfl,Mem.dR hO4.obj rfl,Mem.dR hO4.obj rfl,?_,?_,?_,?_⟩
    ·exact dh (Mem.le_trans hle2 hle3) k1
    ·exact lX (Mem.le_trans hle2 hle3) k2
    ·exact gF (Mem.le_trans hle2 hle3) k3
    ·exact dh hle3 k4
   have HN:=zh (xW g l (bC l 256) (dQ l (bC l 256)) (l.map (·.accept) ++ [false]) cls _ _ hH (oJ l) hcls
    (fun lv hlv hh=>Dh hwf hlen hcls hlv hh) (fun lv hlv hh=>AO hwf hlen hcls hlv hh) (mk2.add w3 g) w3 hO5.inn htabAt)
   have HO5:=zh hO5;clear hO5 hO4 HR htabAt hH q0
   go_wp2_with fail
   refine HN.out.mono ?_;rintro e w4 ⟨r,C,rfl,hb4,hst,hcan,hlang,hClen⟩;have hO6:=HO5.out.call hb4;obtain⟨ra,rc,rfl⟩:∃ra rc,r=.slice ra C.length rc:=by obtain⟨x,y,e,-⟩:=hst;exact⟨x,y,e⟩
   have g1:=hO6.obj.cell (i:=0) rfl;have g2:=hO6.obj.frozen 0;have g3:=hO6.obj.lt;have hO7:=hO6.set 0 (.slice ra C.length rc);have g4:=hO7.obj.cell (i:=0) rfl;have hfin:=aZ hO7.done hst;rw[ji] at hClen;have Hk:=zh (zi hO7.below (zi hfin (zi hcan (zi hlang hClen))));clear hO7 hO6 hfin hcan hlang hst hClen HO5;go_wp2;refine bodyPost_ret (v:=.tuple #[.agg #[.slice ra C.length rc],.int .i64 0]) (by simp[results,Tryz.results197,go_sem,g4]) rfl ?_;exact hR.out _ _ ⟨_,C,by rw[aH hwf];rfl,Hk.out.1,Hk.out.2.1,Hk.out.2.2.2.2,fun _=>⟨Hk.out.2.2.1,Hk.out.2.2.2.1⟩,fun h=>absurd hwf h⟩
 ·rw[az hwf];have hO2:=hO1.set 0 (.slice none 0 0);have g1:=hO1.obj.cell (i:=0) rfl;have g2:=hO1.obj.frozen 0;have g3:=hO1.obj.lt;have g4:=hO2.obj.cell (i:=0) rfl;have Hk:=zh (zi hO2 hwf);clear hO1 hO2 hwf;go_wp2;refine bodyPost_ret (v:=.tuple #[.agg #[.slice none 0 0],.int .i64 11]) (by simp[results,Tryz.results197,go_sem,g1]) rfl ?_;exact hR.out _ _ ⟨_,[],by rw[az Hk.out.2];rfl,Hk.out.1.below,fB _,zS,fun h=>absurd h Hk.out.2,fun _=>rfl⟩
noncomputable def kG (l:Table):Table:=if tf (Canon l)=true then l else []
theorem Cz (l:Table):Canon (kG l):=by
 unfold kG
 split
 ·rename_i h;exact vC.1 h
 ·exact iq
theorem La {l:Table} (h:Canon l):kG l=l:=by simp[kG,aH h]
theorem JB (l:Table):(kG l).length≤l.length:=by
 unfold kG;split <;> simp
theorem oM {l C:Table} (h1:WF l→Nw l C) (hw:WF l):Canon l↔l=C:=
 ⟨fun h=>qH h (h1 hw).canon fun x=>((h1 hw).lang x).symm,fun h=>by rw[h];exact (h1 hw).canon⟩
theorem nM (v0:Value) (l:Table) (m:Mem) (w:World) (hm:m.inn w) (htab:TabM m) (hl:aQ m v0 l) (hlen:l.length≤1000000) :
 Calls Tryz.prog 157 #[.agg #[v0]] w fun e w'=>e=.returned (.bool (tf (Canon l)))∧Below w.heap.size w w':=by
 have hl0:=hl;obtain⟨a,c,rfl,h1,h2,h3⟩:=hl;refine av fun R hR=>?_;have hO:=(Own.start hm).al #[.slice a l.length c] 27;have HM:=zh (xY (.slice a l.length c) l m _ hO.inn htab hl0 hlen);have HO:=zh hO;clear hO
 go_enter Tryz.func157,Tryz.ntmps157
 go_wp2_with fail
 refine HM.out.mono ?_;rintro e w1 ⟨r,C,rfl,hb1,hst,hClen,hmin,hnot⟩;have hO1:=HO.out.call hb1;have hle:=hO1.ext.le;obtain⟨ra,rc,rfl⟩:∃ra rc,r=.slice ra C.length rc:=by obtain⟨x,y,e,-⟩:=hst;exact⟨x,y,e⟩
 have hO2:=hO1.al #[.slice ra C.length rc] 27;have g1:=hO2.swap.obj.cell (i:=0) rfl;have g2:=hO2.swap.obj.lt;have HS:=zh (pY (.slice a l.length c) (.slice ra C.length rc) l C _ _ hO2.inn (aZ hle hl0) hst);have HO2:=zh hO2;clear hO1 hO2 HM HO;by_cases hwf:WF l
 ·rw[aH hwf];have hci:=oM hmin hwf;have Hk:=zh (zi hci (zi hmin hnot));clear hmin hnot hci
  go_wp2_with fail
  refine HS.out.mono ?_;rintro e w3 ⟨rfl,hb3⟩;have hb4:=(HO2.out.move hb3).below;go_wp2;exact hR.out _ _ ⟨aJ (by rw[bg Hk.out.1]),hb4⟩
 ·rw[az hwf];have Hk:=zh (zi hwf (zi hmin hnot));clear hmin hnot hwf;go_wp2;exact hR.out _ _ ⟨aJ (by rw[az (fun h=>Hk.out.1 h.wf)]),HO2.out.below⟩
theorem K9 (v0:Value) (l:Table) (m:Mem) (w:World) (hm:m.inn w) (htab:TabM m) (hl:aQ m v0 l) (hlen:l.length≤1000000) :
 Calls Tryz.prog 159 #[.agg #[v0]] w fun e w'=>∃r,e=.returned (.agg #[r])∧Below w.heap.size w w'∧aQ (m.grow w w') r (kG l):=by
 have hl0:=hl;obtain⟨a,c,rfl,h1,h2,h3⟩:=hl;refine av fun R hR=>?_;have hO:=((Own.start hm).al #[.slice a l.length c] 27).al #[.slice none 0 0] 27;have hsz:(w.alloc (.cells #[.slice a l.length c] 27)).heap.size=w.heap.size+1:=by simp
 rw[hsz] at hO;have HV:=zh (nM (.slice a l.length c) l m _ hO.inn htab hl0 hlen);have HO:=zh hO;clear hO hsz
 go_enter Tryz.func159,Tryz.ntmps159
 go_wp2_with fail
 refine HV.out.mono ?_;rintro e w1 ⟨rfl,hb1⟩;have hO1:=HO.out.move hb1;have g1:=hO1.swap.obj.cell (i:=0) rfl;have g2:=hO1.obj.cell (i:=0) rfl;have g3:=hO1.obj.frozen 0;have g4:=hO1.obj.lt;clear HO HV hb1;by_cases hc:Canon l
 ·have hO2:=hO1.set 0 (.slice a l.length c);have g5:=hO2.obj.cell (i:=0) rfl;have Hk:=zh (zi hO2 hc);rw[aH hc];clear hO1 hO2 hc;go_wp2;refine bodyPost_ret (v:=.agg #[.slice a l.length c]) (by simp[results,Tryz.results159,go_sem,g5]) rfl ?_;exact hR.out _ _ ⟨_,rfl,Hk.out.1.below,by rw[La Hk.out.2];exact aZ Hk.out.1.done hl0⟩
 ·have hO2:=hO1.set 0 (.slice none 0 0);have g5:=hO2.obj.cell (i:=0) rfl;have Hk:=zh (zi hO2 hc);rw[az hc];clear hO1 hO2 hc;go_wp2;refine bodyPost_ret (v:=.agg #[.slice none 0 0]) (by simp[results,Tryz.results159,go_sem,g2]) rfl ?_;exact hR.out _ _ ⟨_,rfl,Hk.out.1.below,by rw[kG,az Hk.out.2];exact fB _⟩
theorem rA {m:Mem} {v:Value} {l:Table} (h:aQ m v l):Bytes l:=by
 obtain⟨a,c,-,-,-,h4⟩:=h;intro s hs;obtain⟨b,off,-,h5⟩:=h4 (List.ne_nil_of_mem hs);obtain⟨i,hi,rfl⟩:=List.mem_iff_getElem.1 hs;obtain⟨-,ve,-,h6⟩:=h5 i hi;obtain⟨a',c',-,-,-,h7⟩:=h6;intro e he;obtain⟨b',off',-,h8⟩:=h7 (List.ne_nil_of_mem he);obtain⟨j,hj,rfl⟩:=List.mem_iff_getElem.1 he;exact⟨(h8 j hj).2.2.2.1,(h8 j hj).2.2.2.2.1⟩
theorem Bb (v0:Value) (l:Table) (m:Mem) (w:World) (hm:m.inn w) (hl:aQ m v0 l) (hwf:WF l) (hlen:l.length≤1000000) :
 Calls Tryz.prog 145 #[v0] w fun e w'=>∃r out,e=.returned r∧Below w.heap.size w w'∧fJ (m.grow w w') r out∧out.length=l.length∧∀s:Nat,s<l.length→(bt out s=true↔Lv l s):=by
 have hby:=rA hl;obtain⟨a,c,rfl,h1,h2,h3⟩:=hl;unfold maxLen at h2;refine av fun R hR=>?_
 go_enter Tryz.func145,Tryz.ntmps145
 go_wp2_with (refine wpList_make_row Cq rfl (.tmp 9) (.tmp 9) rfl l.length rfl rfl zo (by unfold maxLen;omega) ?_)
 intro w5 hown hgrow;have hO:=(Own.start hm).make hown hgrow;clear hown hgrow;have hrep:List.replicate l.length (Value.bool false)=(List.replicate l.length false).map Value.bool:=by simp
 rw[hrep] at hO;clear hrep;have hR0:=LP l;generalize hB:w.heap.size=B at *
 generalize List.replicate l.length false=out0 at *
 go_wp2;refine au [0,3,12,13] (fun n vs wr=>∃(r:Nat) (out:List Bool),r≤l.length∧n=l.length - r∧vs=[.slice a l.length c,.slice (some ⟨B,0,none⟩) l.length l.length,.int .i64 l.length,.int .i64 r] ∧
  Own w m wr m [.row (.slice (some ⟨B,0,none⟩) l.length l.length) 4 1 l.length (out.map Value.bool)]∧oW l out r) ?_ ?_
 ·exact⟨_,0,out0,Nat.zero_le _,rfl,rfl,hO,hR0⟩
 clear hO hR0;rintro X z n vs wr hX - ⟨r,out,hr,rfl,rfl,hO,hAR⟩;simp[litL,lk];by_cases hlt:r<l.length
 ·have hst:=J5 hAR.len hAR.sound;have HAR:=zh hAR;clear hAR;go_wp2;refine au [0,3,12,13,15,16,17] (fun n vs wr=>∃(i:Nat) (o:List Bool),i≤l.length∧n=l.length - i∧vs=[.slice a l.length c,.slice (some ⟨B,0,none⟩) l.length l.length,.int .i64 l.length,.int .i64 r,.slice a l.length c,.int .i64 l.length,.int .i64 i] ∧
   Own w m wr m [.row (.slice (some ⟨B,0,none⟩) l.length l.length) 4 1 l.length (o.map Value.bool)]∧qK l out o i (fun _=>False)) ?_ ?_
  ·exact⟨_,0,out,Nat.zero_le _,rfl,rfl,hO,hst⟩
  clear hO hst;rintro Y z2 n vs wr2 hY - ⟨i,o,hi,rfl,rfl,hO,hI⟩;simp[litL,lk];by_cases hlt2:i<l.length
  ·obtain⟨b,off,rfl,h4⟩:=h3 (by intro h;simp[h] at hlt2);obtain⟨g1,ve,g2,ea,ec,rfl,g4,g5,g6⟩:=h4 i hlt2;have hgl:=Mem.ay hO.inn g1;have g1w:=Mem.aj hO.inn g1;have g2w:=Mem.aj hO.inn g2;have hol:=hI.len;have hil:i<o.length:=zo;have d3:=aN (j:=i) (u:=.bool o[i]) hO.row (by simp[hil]);rw[← kD hil] at d3;have d4:=bO hO.row i;have hrl:=(World.ownsRow.lt hO.row _ rfl).2;have hwfl:=hwf l[i] (List.getElem_mem hlt2);have hbyl:=hby l[i] (List.getElem_mem hlt2);have hgl2:l[i]?=some l[i]:=by simp[hlt2]
   have hacc:=dG l i hlt2;generalize l[i]=st at *
   have hs1:=Ex (C':=fun o'=>dP l i=true∨∃e∈st.edges.take 0,bt o' e.to.toNat=true) hI hlt2 st.accept (fun h=>.inl (hacc.trans h)) (fun h=>⟨[],by simp only[aF];exact hacc.trans h⟩) (fun h=>by
    rcases h with h | ⟨e,he,-⟩
    ·exact .inr (hacc.symm.trans h)
    ·simp at he)
   have hO1:=(hO.setRow i (.bool (bt o i || st.accept))).al #[.bool st.accept,.slice ea st.edges.length ec] 80;have hset:(o.map Value.bool).set i (.bool (bt o i || st.accept))=(o.set i (bt o i || st.accept)).map Value.bool:=by rw[List.map_set]
   rw[hset,World.size_setCell] at hO1;have Hk:=zh (zi hs1 (zi hO1 (zi hwfl (zi hbyl (zi hgl2 hacc)))));clear hs1 hO1 hset hwfl hbyl hgl2 hacc hI hO;generalize hbo:bt o i=bo at *
   unfold maxLen at g5;have Hbo:=zh hbo;clear hbo;generalize hS:wr2.heap.size=S at *
   cases bo
   all_goals
    go_wp2;refine au [0,3,4,5,12,13,15,16,17,34,35,36] (fun n vs wr=>∃(j:Nat) (o':List Bool),j≤st.edges.length∧n=st.edges.length - j ∧
     vs=[.slice (some ⟨b,off,none⟩) l.length c,.slice (some ⟨B,0,none⟩) l.length l.length,.int .i64 i,.pointer (some ⟨S,0,none⟩),.int .i64 l.length,.int .i64 r,.slice (some ⟨b,off,none⟩) l.length c,.int .i64 l.length,.int .i64 i,.slice ea st.edges.length ec,.int .i64 st.edges.length,.int .i64 j] ∧
     Own w m wr m [.row (.slice (some ⟨B,0,none⟩) l.length l.length) 4 1 l.length (o'.map Value.bool)]∧qK l out o' i (fun o''=>dP l i=true∨∃e∈st.edges.take j,bt o'' e.to.toNat=true)) ?_ ?_
    ·exact⟨_,0,_,Nat.zero_le _,rfl,rfl,Hk.out.2.1.tail,Hk.out.1⟩
    clear g1w g2w hgl d3 d4 hrl;rintro Z z3 n vs wr3 hZ - ⟨j,o',hj,rfl,rfl,hO,hI⟩;simp[litL,lk];by_cases hlt3:j<st.edges.length
    ·obtain⟨b',off',rfl,h10⟩:=g6 (by intro h;simp[h] at hlt3);obtain⟨e1,e2,e3,e4,e5,-⟩:=h10 j hlt3;have e1w:=Mem.aj hO.inn e1;have e2w:=Mem.aj hO.inn e2;have e3w:=Mem.aj hO.inn e3;have ebl:=Mem.ay hO.inn e1;have hte:=di Hk.out.2.2.1 st.edges[j] (List.getElem_mem hlt3);obtain⟨en,hen⟩:=Int.eq_ofNat_of_zero_le hte.2.1;have hol2:=hI.len;have hst2:=Ex (C':=fun o''=>dP l i=true∨∃e∈st.edges.take (j+1),bt o'' e.to.toNat=true) hI hlt2 (bt o' en) (fun h=>.inr ⟨st,Hk.out.2.2.2.2.1,st.edges[j],List.getElem_mem hlt3,by rw[hen];exact h⟩)
      (fun h=>M8 hwf hby Hk.out.2.2.2.2.1 (List.getElem_mem hlt3) (by rw[hen];exact hI.sound en h)) (fun h=>by
       rcases h with h | ⟨e,he,h⟩
       ·exact .inl (.inl h)
       ·rw[List.take_succ_eq_append_getElem hlt3] at he;rcases List.mem_append.1 he with h1 | h1
        ·exact .inl (.inr ⟨e,h1,h⟩)
        ·simp only[List.mem_singleton] at h1;subst h1;rw[hen] at h;exact .inr h)
     have hil2:i<o'.length:=zo;have hte2:=hte.2.2;rw[hen] at e3w hte2;have henl:en<o'.length:=zo;have d5:=aN (j:=i) (u:=.bool o'[i]) hO.row (by simp[hil2]);have d6:=aN (j:=en) (u:=.bool o'[en]) hO.row (by simp[henl]);rw[← kD hil2] at d5;rw[← kD henl] at d6;have d7:=bO hO.row i;have drl:=(World.ownsRow.lt hO.row _ rfl).2;have hO1:=(hO.setRow i (.bool (bt o' i || bt o' en)));have hset:(o'.map Value.bool).set i (.bool (bt o' i || bt o' en))=(o'.set i (bt o' i || bt o' en)).map Value.bool:=by rw[List.map_set]
     rw[hset] at hO1;have Hk2:=zh (zi hst2 hO1);clear hst2 hO1 hset hI hO hen;generalize bt o' en=be at *
     generalize hbo2:bt o' i=bo2 at *
     have Hbo2:=zh hbo2;clear hbo2;cases bo2
     all_goals
      go_wp2;exact hZ.out _ _ _ zo rfl ⟨j+1,_,zo,rfl,rfl,Hk2.out.2.al' _,Hk2.out.1⟩
    ·obtain rfl:j=st.edges.length:=zo;have hnx:=LQ hI hlt2 (fun h=>by
      rw[List.take_length];rcases h with h | ⟨st',h1,h2⟩
      ·exact .inl h
      ·rw[Hk.out.2.2.2.2.1] at h1;cases h1;exact .inr h2)
     have Hk2:=zh hnx;clear hnx hI;go_wp2;exact hY.out _ _ _ zo rfl ⟨i+1,o',zo,rfl,rfl,hO,Hk2.out⟩
  ·obtain rfl:i=l.length:=zo;have h1:=zh (J6 HAR.out hI);go_wp2;exact hX.out _ _ _ zo rfl ⟨r+1,o,zo,rfl,rfl,hO,h1.out⟩
 ·obtain rfl:r=l.length:=zo;have h1:=Nv hwf hAR;have hb:=fV (l:=out) (m:=m) (w:=wr) (v:=.slice (some ⟨B,0,none⟩) l.length l.length) (by rw[hAR.len];exact hO.row);have Hk:=zh (zi h1 (zi (gF hO.aY.done hb) (zi hO.below hAR.len)));clear h1 hb hO hAR;go_wp2;exact hR.out _ _ ⟨_,out,rfl,hB ▸ Hk.out.2.2.1,Hk.out.2.1,Hk.out.2.2.2,Hk.out.1⟩
theorem CG {es:List Ed} {lv:Nat→Bool} {j:Nat} (h:j<es.length):(es.take (j+1)).filter (fun e=>lv e.to.toNat)=(es.take j).filter (fun e=>lv e.to.toNat) ++ if lv (es[j]).to.toNat=true then [es[j]] else []:=by
 rw[List.take_succ_eq_append_getElem h,List.filter_append];simp[List.filter_cons]
theorem Bz (v0:Value) (l:Table) (m:Mem) (w:World) (hm:m.inn w) (hl:aQ m v0 l) (hwf:WF l) (hlen:l.length≤1000000) (hel:∀s∈l,s.edges.length≤1000000) :
 Calls Tryz.prog 146 #[v0] w fun e w'=>∃r lv,e=.returned r∧Below w.heap.size w w'∧aQ (m.grow w w') r (dE l lv)∧∀s:Nat,s<l.length→(lv s=true↔Lv l s):=by
 have hA:=Bb v0 l m w hm hl hwf hlen;have hby:=rA hl;have hl0:=hl;obtain⟨a,c,rfl,h1,h2,h3⟩:=hl;unfold maxLen at h2;have HA:=zh hA;clear hA;refine av fun R hR=>?_
 go_enter Tryz.func146,Tryz.ntmps146
 go_wp2_with fail
 refine HA.out.mono ?_;rintro e w1 ⟨r,out,rfl,hb1,hr1,hol,hiff⟩;have hO1:=((Own.start hm).call hb1).dC 80 2;obtain⟨la,lc,rfl,l1,l2,l3⟩:=hr1;have HF:=zh hiff;have hol1:l.length≤out.length:=zo;clear hol;have HO1:=zh hO1;clear hiff hO1 HA hb1;go_wp2;refine au [0,3,4,12,13,14] (fun n vs wr=>∃(k:Nat) (vst:Value) (xs:List Value) (mk:Mem),k≤l.length∧n=l.length - k∧vs=[.slice a l.length c,.slice la out.length lc,vst,.slice a l.length c,.int .i64 l.length,.int .i64 k] ∧
  Own w m wr mk [.row vst 80 2 k xs]∧kw mk xs (dE (l.take k) (bt out))∧(m.grow w w1).le mk) ?_ ?_
 ·exact⟨_,0,.slice none 0 0,[],_,Nat.zero_le _,rfl,rfl,HO1.out,kw.nil _,Mem.le_refl _⟩
 clear HO1;rintro X z n vs wr hX - ⟨k,vst,xs,mk,hk,rfl,rfl,hO,hrow,hmk⟩;simp[litL,lk];obtain⟨vsta,vstc,rfl⟩:=aO hO.row;by_cases hlt:k<l.length
 ·obtain⟨b,off,rfl,h4⟩:=h3 (by intro h;simp[h] at hlt);obtain⟨g1,ve,g2,ea,ec,rfl,g4,g5,g6⟩:=h4 k hlt;obtain⟨lb,lo',rfl,l4⟩:=l3 (by intro h;simp[h] at hol1;simp[hol1] at hlt);have hmr:=Mem.dm hO.ext.le hO.inn;have g1w:=Mem.aj hmr g1;have g2w:=Mem.aj hmr g2;have hgl:=Mem.ay hmr g1;have hwfl:=hwf l[k] (List.getElem_mem hlt);have hell:=hel l[k] (List.getElem_mem hlt);have hbyl:=hby l[k] (List.getElem_mem hlt);have htk:dE (l.take (k+1)) (bt out)=dE (l.take k) (bt out) ++ [⟨(l[k]).accept,(l[k]).edges.filter fun e=>bt out e.to.toNat⟩]:=by
   unfold dE;rw[List.take_succ_eq_append_getElem hlt,List.map_append];rfl
  generalize l[k]=st at *
  unfold maxLen at g5;have hO2:=((hO.al #[.bool st.accept,.slice ea st.edges.length ec] 80).tail.al #[.bool st.accept,.slice none 0 0] 80).dC 104 3;have hsz:(wr.alloc (.cells #[.bool st.accept,.slice ea st.edges.length ec] 80)).heap.size=wr.heap.size+1:=by simp
  rw[hsz] at hO2;have Hk:=zh (zi hO2 (zi htk (zi hwfl hbyl)));clear hO2 htk hwfl hbyl hsz hO;generalize hS:wr.heap.size=S at *
  go_wp2;refine au [0,3,4,7,12,13,14,22,23,24] (fun n vs w2=>∃(j:Nat) (vx:Value),j≤st.edges.length∧n=st.edges.length - j ∧
   vs=[.slice (some ⟨b,off,none⟩) l.length c,.slice (some ⟨lb,lo',none⟩) out.length lc,.slice vsta k vstc,.pointer (some ⟨S+1,0,none⟩),.slice (some ⟨b,off,none⟩) l.length c,.int .i64 l.length,.int .i64 k,.slice ea st.edges.length ec,.int .i64 st.edges.length,.int .i64 j] ∧
   Own w m w2 mk [.row vx 104 3 ((st.edges.take j).filter fun e=>bt out e.to.toNat).length (cK ((st.edges.take j).filter fun e=>bt out e.to.toNat)),.obj (S+1) 80 #[.bool st.accept,vx],.row (.slice vsta k vstc) 80 2 k xs]) ?_ ?_
  ·exact⟨_,0,.slice none 0 0,Nat.zero_le _,rfl,rfl,Hk.out.1⟩
  clear g1w g2w hgl hmr;rintro Y z2 n vs w2 hY - ⟨j,vx,hj,rfl,rfl,hO⟩;simp[litL,lk];obtain⟨vxa,vxc,rfl⟩:=aO hO.row;by_cases hlt2:j<st.edges.length
  ·obtain⟨b',off',rfl,h10⟩:=g6 (by intro h;simp[h] at hlt2);obtain⟨e1,e2,e3,e4,e5,e6⟩:=h10 j hlt2;have hmr:=Mem.dm hO.ext.le hO.inn;have e1w:=Mem.aj hmr e1;have e2w:=Mem.aj hmr e2;have e3w:=Mem.aj hmr e3;have ebl:=Mem.ay hmr e1;have hte:=di Hk.out.2.2.1 st.edges[j] (List.getElem_mem hlt2);have hft:=CG (lv:=bt out) hlt2;obtain⟨en,hen⟩:=Int.eq_ofNat_of_zero_le hte.2.1;have hte2:=hte.2.2;rw[hen] at e3w hte2 hft;have henl:en<out.length:=zo;have x1:=Mem.aj hO.inn (Mem.aA hmk (l4 en henl));have xl:=Mem.ay hO.inn (Mem.aA hmk (l4 en henl));rw[← kD henl] at x1;have hec:cK [st.edges[j]]=[.int .u8 (st.edges[j]).lo,.int .u8 (st.edges[j]).hi,.int .i64 en]:=by simp[cK,hen]
   have hfl:=List.length_filter_le (fun e=>bt out e.to.toNat) (st.edges.take j);have htl:(st.edges.take j).length≤j:=List.length_take_le _ _;generalize st.edges[j]=e at *
   generalize (st.edges.take j).filter (fun e=>bt out e.to.toNat)=es1 at *
   have s1:=hO.swap.obj.cell (i:=1) rfl;have s2:=hO.swap.obj.lt;have Hft:=zh (zi hft hec);clear hft hec hte hen
   cases hbf:bt out en with
   | false=>
    rw[hbf] at x1;have Hbf:=zh hbf;clear hbf;go_wp2;refine hY.out _ _ _ zo rfl ⟨j+1,.slice vxa es1.length vxc,zo,rfl,rfl,?_⟩;have e1:=Hft.out.1;simp only[Int.toNat_natCast,Hbf.out,Bool.false_eq_true,if_false,List.append_nil] at e1;rw[e1]
    exact hO.al' _
   | true=>
    rw[hbf] at x1;have Hbf:=zh hbf;clear hbf;have hO2:=(hO.al #[.int .u8 e.lo,.int .u8 e.hi,.int .i64 en] 104).tail;have hO3:=hO2.al #[.int .u8 e.lo,.int .u8 e.hi,.int .i64 en] 104;have hsz:(w2.alloc (.cells #[.int .u8 e.lo,.int .u8 e.hi,.int .i64 en] 104)).heap.size=w2.heap.size+1:=by simp
    rw[hsz] at hO3;have hnews:=hO3.obj.news rfl;clear hO2 hO
    go_wp2_with (at_builtin;refine aC wT rfl (.tmp 34) (.tmp 36) rfl (.slice vxa es1.length vxc) es1.length (cK es1) rfl hO3.swap.row ⟨w2.heap.size+1,0,none⟩ 1 1 [.int .u8 e.lo,.int .u8 e.hi,.int .i64 en] rfl rfl hnews (by simp[Value.oneCell']) (by unfold maxLen;omega) zo ?_)
    intro va vc w7 hown7 hgrow7 hrow7;have hO4:=(hO3.swap.app hown7 hgrow7 hrow7 zS).third;clear hown7 hgrow7 hrow7 hO3 hnews;have u2:=hO4.obj.cell (i:=1) rfl;have u3:=hO4.obj.frozen 1;have u4:=hO4.obj.lt;have hO5:=((hO4.set 1 (.slice va (es1.length+1) vc)).swap).jJ;have HO5:=zh hO5;clear hO5 hO4;go_wp2;refine hY.out _ _ _ zo rfl ⟨j+1,.slice va (es1.length+1) vc,zo,rfl,rfl,?_⟩;have e1:=Hft.out.1;simp only[Int.toNat_natCast,Hbf.out,if_true] at e1;rw[e1,eY];have e2:=Hft.out.2;simp only[cK,List.flatMap_cons,List.flatMap_nil,List.append_nil] at e2;rw[e2];have:=HO5.out;simpa using this
  ·obtain rfl:j=st.edges.length:=zo;rw[List.take_length] at hO;have hfl:=List.length_filter_le (fun e=>bt out e.to.toNat) st.edges;have hok:∀e∈st.edges.filter (fun e=>bt out e.to.toNat),edOk e:=fun e he=>by
    have he':=(List.mem_filter.1 he).1;have q1:=Hk.out.2.2.2 e he';have q2:=di Hk.out.2.2.1 e he';exact⟨q1.1,q1.2,zo,zo⟩
   have hes:=ik (m:=mk) hO.row hok;have hmk2:=Mem.cu (w:=w2) hO.free;have hrow2:=(hrow.mono hmk2).push (s:=⟨st.accept,st.edges.filter fun e=>bt out e.to.toNat⟩) hes;rw[← Hk.out.2.1] at hrow2;have hO2:=hO.aY;have x0:=hO2.obj.cell (i:=0) rfl;have x1:=hO2.obj.cell (i:=1) rfl;have xl:=hO2.obj.lt;have hO3:=hO2.al #[.bool st.accept,.slice vxa (st.edges.filter fun e=>bt out e.to.toNat).length vxc] 80;have Hk2:=zh (zi hrow2 (Mem.le_trans hmk hmk2));clear hrow2 hes hmk2 hok;generalize mk.addv w2 (.slice vxa (st.edges.filter fun e=>bt out e.to.toNat).length vxc)=mk2 at *
   generalize st.edges.filter (fun e=>bt out e.to.toNat)=es1 at *
   have hnews:=hO3.obj.news rfl;clear hO hO2
   go_wp2_with (at_builtin;refine aC lM rfl (.tmp 40) (.tmp 42) rfl (.slice vsta k vstc) k xs rfl hO3.third.row ⟨w2.heap.size,0,none⟩ 1 1 [.bool st.accept,.slice vxa es1.length vxc] rfl rfl hnews (by simp[Value.oneCell']) (by unfold maxLen;omega) zo ?_)
   intro va vc w7 hown7 hgrow7 hrow7;have hO4:=((hO3.third.app hown7 hgrow7 hrow7 zS)).drop2.drop2;clear hown7 hgrow7 hrow7 hO3 hnews;go_wp2;exact hX.out _ _ _ zo rfl ⟨k+1,.slice va (k+1) vc,_,mk2,zo,rfl,rfl,hO4,Hk2.out.1,Hk2.out.2⟩
 ·obtain rfl:k=l.length:=zo;rw[List.take_length] at hrow;have htl:(dE l (bt out)).length=l.length:=by simp[dE]
  have hst:=fA (l:=dE l (bt out)) (m:=mk) (by rw[htl];exact hO.row) hrow hO.free;have hst2:=aZ hO.aY.done hst;have Hk:=zh (zi hst2 (zi hO.below HF.out));clear hst hst2 hO hrow htl;go_wp2;exact hR.out _ _ ⟨_,bt out,rfl,Hk.out.2.1,Hk.out.1,Hk.out.2.2⟩
theorem iD {w:World} {t:TypeId} {size:Nat} {a:Option Addr} {n c:Nat} {xs:List Value} (h:w.ownsRow 0 t size (.slice a n c) n xs) (hn:0<n):∃b,a=some ⟨b,0,none⟩:=by
 rcases h.2 with ⟨h,-⟩ | ⟨gg,cap,cur,h,-⟩
 ·injection h with h1 h2 h3;omega
 ·injection h with h1 h2 h3;exact⟨_,h1⟩
theorem kY {o:List Nat} {k:Nat} (h:k<o.length):(bG o)[k]?=some (.int .i64 (o[k]:Nat)):=by simp[bG,h]
theorem qQ (o:List Nat) (es:List Ed) (e:Ed) (q:Nat):cK (renE o es ++ [⟨e.lo,e.hi,(q:Int)⟩])=cK (renE o es) ++ [.int .u8 e.lo,.int .u8 e.hi,.int .i64 q]:=by rw[eY]
theorem BN (v0:Value) (l:Table) (m:Mem) (w:World) (hm:m.inn w) (hl:aQ m v0 l) (hwf:WF l) (hlen:l.length≤1000000) (hpos:0<l.length) (hel:∀s∈l,s.edges.length≤1000000) :
 Calls Tryz.prog 147 #[v0] w fun e w'=>∃r o,e=.returned r∧Below w.heap.size w w'∧aQ (m.grow w w') r (fE l o o.length)∧ky l o o.length:=by
 have hby:=rA hl;obtain⟨a,c,rfl,h1,h2,h3⟩:=hl;unfold maxLen at h2;obtain⟨b,off,rfl,h4⟩:=h3 (by intro h;simp[h] at hpos);clear h3;refine av fun R hR=>?_;have hO:=(((Own.start hm).al #[.int .i64 0] 3).LM).dC 80 2;have HO:=zh (zi hO (BO hpos));clear hO
 go_enter Tryz.func147,Tryz.ntmps147
 go_wp2;refine au [0,3,4,5] (fun n vs wr=>∃(k:Nat) (o:List Nat) (vo vst:Value) (xs:List Value) (mk:Mem),n=l.length - k∧vs=[.slice (some ⟨b,off,none⟩) l.length c,vo,vst,.int .i64 k] ∧
  Own w m wr mk [.row vst 80 2 k xs,.row vo 3 1 o.length (bG o)]∧kw mk xs (fE l o k)∧ky l o k) ?_ ?_
 ·exact⟨_,0,[0],.slice (some ⟨w.heap.size,0,none⟩) 1 1,.slice none 0 0,[],_,rfl,rfl,HO.out.1,kw.nil _,HO.out.2⟩
 clear HO;rintro X z n vs wr hX - ⟨k,o,vo,vst,xs,mk,rfl,rfl,hO,hrow,hRI⟩;simp[litL,lk];obtain⟨vsta,vstc,rfl⟩:=aO hO.row;obtain⟨voa,voc,rfl⟩:=aO hO.swap.row;have hoN:=sQ hRI.nodup hRI.lt;have hkle:=hRI.le;by_cases hlt:k<o.length
 ·obtain⟨vob,rfl⟩:=iD hO.swap.row zo;have hsN:=hRI.lt _ (List.getElem_mem hlt);have r1:=aN hO.swap.row (kY hlt);obtain⟨g1,ve,g2,ea,ec,rfl,g4,g5,g6⟩:=h4 o[k] hsN;have hmr:=Mem.dm hO.ext.le hO.inn;have g1w:=Mem.aj hmr g1;have g2w:=Mem.aj hmr g2;have hgl:=Mem.ay hmr g1;have rl:=(World.ownsRow.lt hO.swap.row _ rfl).2;have hwfl:=hwf l[o[k]] (List.getElem_mem hsN);have hell:=hel l[o[k]] (List.getElem_mem hsN);have hbyl:=hby l[o[k]] (List.getElem_mem hsN);have hgs:l[o[k]]?=some l[o[k]]:=by simp[hsN]
  have hst0:=Jq hRI (l[o[k]]).edges;have hnext:=fun o'=>Fs hRI hlt hgs (o':=o');have HX:=zh (zi hnext (zi hst0 (zi hwfl hbyl)));clear hnext hst0 hgs hwfl hbyl;generalize l[o[k]]=st at *
  generalize o[k]=s at *
  unfold maxLen at g5;have hO2:=(hO.al #[.bool st.accept,.slice none 0 0] 80).dC 104 3;have HO2:=zh hO2;clear hO2 hO;generalize hS:wr.heap.size=S at *
  go_wp2;refine au [0,4,5,6,3,33,34,35] (fun n vs w2=>∃(j:Nat) (o':List Nat) (vo' vx:Value),j≤st.edges.length∧n=st.edges.length - j ∧
   vs=[.slice (some ⟨b,off,none⟩) l.length c,.slice vsta k vstc,.int .i64 k,.pointer (some ⟨S,0,none⟩),vo',.slice ea st.edges.length ec,.int .i64 st.edges.length,.int .i64 j] ∧
   Own w m w2 mk [.row vx 104 3 j (cK (renE o' (st.edges.take j))),.obj S 80 #[.bool st.accept,vx],.row (.slice vsta k vstc) 80 2 k xs,.row vo' 3 1 o'.length (bG o')] ∧
   InR l o st.edges j o') ?_ ?_
  ·exact⟨_,0,o,.slice (some ⟨vob,0,none⟩) o.length voc,.slice none 0 0,Nat.zero_le _,rfl,rfl,HO2.out,HX.out.2.1⟩
  clear HO2 g1w g2w hgl hmr r1 rl;rintro Y z2 n vs w2 hY - ⟨j,o',vo',vx,hj,rfl,rfl,hO,hI⟩;simp[litL,lk];obtain⟨vxa,vxc,rfl⟩:=aO hO.row;obtain⟨voa',voc',rfl⟩:=aO hO.fourth.row;have hoN':=sQ hI.nodup hI.lt;have hol':=hI.pre.length_le;by_cases hlt2:j<st.edges.length
  ·obtain⟨b',off',rfl,h10⟩:=g6 (by intro h;simp[h] at hlt2);obtain⟨e1,e2,e3,e4,e5,e6⟩:=h10 j hlt2;have hmr:=Mem.dm hO.ext.le hO.inn;have e1w:=Mem.aj hmr e1;have e2w:=Mem.aj hmr e2;have e3w:=Mem.aj hmr e3;have ebl:=Mem.ay hmr e1;have hte:=di HX.out.2.2.1 st.edges[j] (List.getElem_mem hlt2);have hstep:=K6 hI hlt2 zo;obtain⟨en,hen⟩:=Int.eq_ofNat_of_zero_le hte.2.1;have hte2:=hte.2.2;rw[hen] at e3w hte2 hstep;rw[Int.toNat_natCast] at hstep;obtain⟨vob',rfl⟩:=iD hO.fourth.row zo;have HST:=zh hstep;clear hstep hte hen;generalize st.edges[j]=e at *
   have hO2:=hO.al #[.int .u8 e.lo,.int .u8 e.hi,.int .i64 en] 104;have HO2:=zh hO2;have hne:S<w2.heap.size:=hO.swap.obj.lt;clear hO2 hO;generalize hE:w2.heap.size=E at *
   go_wp2;refine au [0,4,5,6,3,33,34,35,8,9] (fun n vs w3=>∃(q:Nat),q≤eD o' en∧n=o'.length - q ∧
    vs=[.slice (some ⟨b,off,none⟩) l.length c,.slice vsta k vstc,.int .i64 k,.pointer (some ⟨S,0,none⟩),.slice (some ⟨vob',0,none⟩) o'.length voc',.slice (some ⟨b',off',none⟩) st.edges.length ec,.int .i64 st.edges.length,.int .i64 j,.pointer (some ⟨E,0,none⟩),.int .i64 q] ∧
    Own w m w3 mk [.obj E 104 #[.int .u8 e.lo,.int .u8 e.hi,.int .i64 en],.row (.slice vxa j vxc) 104 3 j (cK (renE o' (st.edges.take j))),.obj S 80 #[.bool st.accept,.slice vxa j vxc],.row (.slice vsta k vstc) 80 2 k xs,.row (.slice (some ⟨vob',0,none⟩) o'.length voc') 3 1 o'.length (bG o')]) ?_ ?_
   ·exact⟨_,0,Nat.zero_le _,rfl,rfl,HO2.out⟩
   clear HO2 e1w e2w e3w ebl hmr;rintro Z z3 n vs w3 hZ - ⟨q,hq,rfl,rfl,hO⟩;simp[litL,lk];have hip:=Ef o' en;have f2:=hO.obj.cell (i:=2) rfl;have fl:=hO.obj.lt;go_wp2;refine aR [0,4,5,6,3,33,34,35,8,9,51] (fun vs w'=>∃(bb:Bool) (nq:Nat),vs=[.slice (some ⟨b,off,none⟩) l.length c,.slice vsta k vstc,.int .i64 k,.pointer (some ⟨S,0,none⟩),.slice (some ⟨vob',0,none⟩) o'.length voc',.slice (some ⟨b',off',none⟩) st.edges.length ec,.int .i64 st.edges.length,.int .i64 j,.pointer (some ⟨E,0,none⟩),.int .i64 q,.bool bb] ∧
    w'=w3.drewN nq∧(bb=true→q<o'.length∧q+1≤eD o' en)∧(bb=false→q=eD o' en)) ?_ ?_
   ·intro V hV;by_cases hq2:q<o'.length
    ·have hnx:=Gj hq hq2;have r2:=aN hO.fifth.row (kY hq2);have HN:=zh hnx;clear hnx;generalize o'[q]=y at *
     by_cases hy:y=en
     ·have hne2:((y:Int) != (en:Int))=false:=by simp[hy]
      have HY:=zh hy;clear hy;refine wp_region_quiet_lit zk zk ?_
      repeat (any_goals (first | go_big_quiet_step (fail) | quiet_step (fail) | (refine wpQuiet_step (fun K hK=>?_);go_simp;split <;> (refine hK _ ?_;clear hK K))))
      all_goals (refine wpQuiet_nil ?_;intro _ hw';obtain⟨nq,hw''⟩:=hw';subst hw'')
      all_goals go_wp2
      all_goals refine hV.out _ _ rfl ⟨false,nq,rfl,rfl,(fun h=>by cases h),fun _=>?_⟩
      all_goals
       have:=HN.out;rw[if_pos HY.out] at this;exact this
     ·have hne2:((y:Int) != (en:Int))=true:=by simp;omega
      have HY:=zh hy;clear hy;refine wp_region_quiet_lit zk zk ?_
      repeat (any_goals (first | go_big_quiet_step (fail) | quiet_step (fail) | (refine wpQuiet_step (fun K hK=>?_);go_simp;split <;> (refine hK _ ?_;clear hK K))))
      all_goals (refine wpQuiet_nil ?_;intro _ hw';obtain⟨nq,hw''⟩:=hw';subst hw'')
      all_goals go_wp2
      all_goals refine hV.out _ _ rfl ⟨true,nq,rfl,rfl,(fun _=>⟨hq2,?_⟩),(fun h=>by cases h)⟩
      all_goals
       have:=HN.out;rw[if_neg HY.out] at this;exact this
    ·refine wp_region_quiet_lit zk zk ?_
     repeat (any_goals (first | go_big_quiet_step (fail) | quiet_step (fail) | (refine wpQuiet_step (fun K hK=>?_);go_simp;split <;> (refine hK _ ?_;clear hK K))))
     all_goals (refine wpQuiet_nil ?_;intro _ hw';obtain⟨nq,hw''⟩:=hw';subst hw'')
     all_goals go_wp2
     all_goals exact hV.out _ _ rfl ⟨false,nq,rfl,rfl,(fun h=>by cases h),fun _=>zo⟩
   rintro z4 vs w4 - ⟨bb,nq,rfl,rfl,hb1,hb2⟩;simp[litL,lk];have hO2:=hO.drN nq;clear hO f2 fl
   cases bb with
   | true=>
    obtain⟨hq3,hq4⟩:=hb1 rfl;clear hb1 hb2;go_wp2
    exact hZ.out _ _ _ zo rfl ⟨q+1,hq4,rfl,rfl,hO2⟩
   | false=>
    obtain rfl:=hb2 rfl;clear hb1 hb2;have f2:=hO2.obj.cell (i:=2) rfl;have fl:=hO2.obj.lt
    go_upto_if 57 with (fail)
    refine aR [0,4,5,6,3,33,34,35,8,9] (fun vs w5=>∃vo2:Value,vs=[.slice (some ⟨b,off,none⟩) l.length c,.slice vsta k vstc,.int .i64 k,.pointer (some ⟨S,0,none⟩),vo2,.slice (some ⟨b',off',none⟩) st.edges.length ec,.int .i64 st.edges.length,.int .i64 j,.pointer (some ⟨E,0,none⟩),.int .i64 (eD o' en)] ∧
     Own w m w5 mk [.obj E 104 #[.int .u8 e.lo,.int .u8 e.hi,.int .i64 en],.row (.slice vxa j vxc) 104 3 j (cK (renE o' (st.edges.take j))),.obj S 80 #[.bool st.accept,.slice vxa j vxc],.row (.slice vsta k vstc) 80 2 k xs,.row vo2 3 1 (kF o' en).length (bG (kF o' en))]) ?_ ?_
    ·intro V hV;by_cases hfull:eD o' en<o'.length
     ·have hdec:(((eD o' en:Nat):Int)==(o'.length:Int))=false:=beq_eq_false_iff_ne.2 zo;have hia:kF o' en=o':=by unfold kF;rw[if_pos hfull]
      have Hia:=zh hia;clear hia;go_wp2;refine hV.out _ _ rfl ⟨.slice (some ⟨vob',0,none⟩) o'.length voc',rfl,?_⟩;rw[Hia.out];exact hO2
     ·have hdec:(((eD o' en:Nat):Int)==(o'.length:Int))=true:=beq_iff_eq.2 zo;have hia:kF o' en=o' ++ [en]:=by unfold kF;rw[if_neg hfull]
      have Hia:=zh hia;have hO3:=hO2.al #[.int .i64 en] 3;clear hia;have hwsz:(w3.drewN nq).heap.size=w3.heap.size:=rfl;rw[hwsz] at hO3;have hnews:=hO3.obj.news rfl
      go_wp2_with (at_builtin;refine aC nU rfl (.tmp 58) (.tmp 61) rfl (.slice (some ⟨vob',0,none⟩) o'.length voc') o'.length (bG o') rfl (hO3.jM zS) ⟨w3.heap.size,0,none⟩ 1 1 [.int .i64 en] rfl rfl hnews (by simp[Value.oneCell']) (by unfold maxLen;omega) zo ?_)
      intro va vc w7 hown7 hgrow7 hrow7;have hO4:=(hO3.pull (l₁:=[_,_,_,_,_])).app hown7 hgrow7 hrow7 zS;have hO5:=(hO4.Dr (l₁:=[_,_,_,_,_])).tail;have HO5:=zh hO5;clear hO5 hO4 hO3 hown7 hgrow7 hrow7 hnews;go_wp2;refine hV.out _ _ rfl ⟨.slice va (o'.length+1) vc,rfl,?_⟩;rw[Hia.out];have:=HO5.out;simpa [bG] using this
    rintro z5 vs w5 - ⟨vo2,rfl,hO3⟩;simp[litL,lk];have f0:=hO3.obj.cell (i:=0) rfl;have f1:=hO3.obj.cell (i:=1) rfl;have fl:=hO3.obj.lt;have x1:=hO3.third.obj.cell (i:=1) rfl;have xl:=hO3.third.obj.lt;obtain⟨vo2a,vo2c,rfl⟩:=aO (hO3.jM (v:=vo2) (t:=3) (size:=1) (n:=(kF o' en).length) (xs:=bG (kF o' en)) zS);have hO4:=hO3.tail.al #[.int .u8 e.lo,.int .u8 e.hi,.int .i64 (eD o' en)] 104;have hnews:=hO4.obj.news rfl;clear hO3 hO2
    go_wp2_with (at_builtin;refine aC wT rfl (.tmp 64) (.tmp 71) rfl (.slice vxa j vxc) j (cK (renE o' (st.edges.take j))) rfl hO4.swap.row ⟨w5.heap.size,0,none⟩ 1 1 [.int .u8 e.lo,.int .u8 e.hi,.int .i64 (eD o' en)] rfl rfl hnews (by simp[Value.oneCell']) (by unfold maxLen;omega) zo ?_)
    intro va vc w7 hown7 hgrow7 hrow7;have hO5:=(hO4.swap.app hown7 hgrow7 hrow7 zS).third;clear hown7 hgrow7 hrow7 hO4 hnews;have u2:=hO5.obj.cell (i:=1) rfl;have u3:=hO5.obj.frozen 1;have u4:=hO5.obj.lt;have hO6:=((hO5.set 1 (.slice va (j+1) vc)).swap).jJ;have HO6:=zh hO6;clear hO6 hO5;go_wp2;refine hY.out _ _ _ zo rfl ⟨j+1,kF o' en,.slice vo2a (kF o' en).length vo2c,.slice va (j+1) vc,zo,rfl,rfl,?_,HST.out.1⟩;rw[HST.out.2,qQ];exact HO6.out
  ·obtain rfl:j=st.edges.length:=zo;rw[List.take_length] at hO;have hn:=HX.out.1 o' hI;have hok:∀e∈renE o' st.edges,edOk e:=fun e he=>by
    obtain⟨e0,he0,rfl⟩:=List.mem_map.1 he;have q1:=HX.out.2.2.2 e0 he0;have q2:=Ef o' e0.to.toNat;exact⟨q1.1,q1.2,by show _≤((eD o' e0.to.toNat:Nat):Int);omega,by show ((eD o' e0.to.toNat:Nat):Int)≤_;omega⟩
   have hrl:(renE o' st.edges).length=st.edges.length:=by simp[renE]
   have hes:=ik (m:=mk) (l:=renE o' st.edges) (by rw[hrl];exact hO.row) hok;have hmk2:=Mem.cu (w:=w2) hO.free;have hrow2:=(hrow.mono hmk2).push (s:=⟨st.accept,renE o' st.edges⟩) hes;have hO2:=hO.aY;have x0:=hO2.obj.cell (i:=0) rfl;have x1:=hO2.obj.cell (i:=1) rfl;have xl:=hO2.obj.lt;have hO3:=hO2.al #[.bool st.accept,.slice vxa st.edges.length vxc] 80;have Hk2:=zh (zi hrow2 hn);clear hrow2 hes hmk2 hok hrl hn hI;generalize mk.addv w2 (.slice vxa st.edges.length vxc)=mk2 at *
   have hnews:=hO3.obj.news rfl;clear hO hO2
   go_wp2_with (at_builtin;refine aC lM rfl (.tmp 75) (.tmp 77) rfl (.slice vsta k vstc) k xs rfl hO3.third.row ⟨w2.heap.size,0,none⟩ 1 1 [.bool st.accept,.slice vxa st.edges.length vxc] rfl rfl hnews (by simp[Value.oneCell']) (by unfold maxLen;omega) zo ?_)
   intro va vc w7 hown7 hgrow7 hrow7;have hO4:=((hO3.third.app hown7 hgrow7 hrow7 zS)).drop2.drop2;clear hown7 hgrow7 hrow7 hO3 hnews;go_wp2;refine hX.out _ _ _ zo rfl ⟨k+1,o',.slice voa' o'.length voc',.slice va (k+1) vc,_,mk2,rfl,rfl,hO4,?_,Hk2.out.2.1⟩;rw[Hk2.out.2.2];exact Hk2.out.1
 ·obtain rfl:k=o.length:=zo;have htl:(fE l o o.length).length=o.length:=by simp[fE]
  have hst:=fA (l:=fE l o o.length) (m:=mk) (by rw[htl];exact hO.row) hrow hO.free;have hst2:=aZ hO.aY.done hst;have Hk:=zh (zi hst2 (zi hO.below hRI));clear hst hst2 hO hrow htl hRI;go_wp2;exact hR.out _ _ ⟨_,o,rfl,Hk.out.2.1,Hk.out.1,Hk.out.2.2⟩
theorem y7 (v v':Value) (l l':List Int) (m:Mem) (w:World) (hm:m.inn w) (hl:cO m v l) (hl':cO m v' l') :
 Calls Tryz.prog 221 #[v,v'] w fun e w'=>e=.returned (.bool (tf (l=l')))∧Below w.heap.size w w':=by
 obtain⟨a,c,rfl,h1,h2,h3⟩:=hl;obtain⟨a',c',rfl,h1',h2',h3'⟩:=hl';unfold maxLen at h2 h2';refine av fun R hR=>?_;by_cases hlen:l.length=l'.length
 ·have hne:((l.length:Int) != (l'.length:Int))=false:=by simp[hlen]
  have Hlen:=zh hlen;clear hlen
  go_enter Tryz.func221,Tryz.ntmps221
  go_wp2;refine au [0,1,12,13] (fun n vs wr=>∃k:Nat,k≤l.length∧n=l.length - k∧vs=[.slice a l.length c,.slice a' l'.length c',.int .i64 l.length,.int .i64 k]∧(l=l'↔l.drop k=l'.drop k)∧Below w.heap.size w wr) ?_ ?_
  ·exact⟨_,0,Nat.zero_le _,rfl,rfl,Iff.rfl,Below.refl _ _⟩
  rintro X z n vs wr hX - ⟨k,hk,rfl,rfl,hrel,hbel⟩;have Hrel:=zh hrel;clear hrel;simp[litL,lk];have hmr:=Mem.bB hm hbel;by_cases hlt:k<l.length
  ·have hlt':k<l'.length:=by rw[← Hlen.out];exact hlt
   obtain⟨b,off,rfl,h4⟩:=h3 (by intro h;simp[h] at hlt);obtain⟨b',off',rfl,h4'⟩:=h3' (by intro h;simp[h] at hlt');have c1:=Mem.aj hmr (h4 k hlt).1;have c1':=Mem.aj hmr (h4' k hlt').1;have HD:=zh (eU l l' k hlt hlt');by_cases heq:l[k]=l'[k]
   ·have hb1:(l[k] != l'[k])=false:=by simp[heq]
    have Heq:=zh heq;clear heq;go_wp2
    go_quiet (fail)
    go_wp2;exact hX.out _ _ _ zo rfl ⟨k+1,zo,rfl,rfl,Hrel.out.trans (HD.out.trans ⟨fun h=>h.2,fun h=>⟨Heq.out,h⟩⟩),below_drewN hbel _⟩
   ·have hb1:(l[k] != l'[k])=true:=by simp[heq]
    have Heq:=zh heq;clear heq;go_wp2
    go_quiet (fail)
    go_wp2;exact hR.out _ _ ⟨aJ (by rw[az];intro h;exact Heq.out (HD.out.1 (Hrel.out.1 h)).1),below_drewN hbel _⟩
  ·go_wp2;refine hR.out _ _ ⟨aJ ?_,hbel⟩;rw[aH (Hrel.out.2 ?_)];rw[List.drop_eq_nil_of_le zo,List.drop_eq_nil_of_le (by rw[← Hlen.out];omega)]
 ·have hne:((l.length:Int) != (l'.length:Int))=true:=by simp;omega
  go_enter Tryz.func221,Tryz.ntmps221
  go_wp2;exact hR.out _ _ ⟨aJ (by rw[az (fun h=>hlen (by rw[h]))]),Below.refl _ _⟩
theorem Lg (v v':Value) (l:List (List Int)) (x:List Int) (m:Mem) (w:World) (hm:m.inn w) (hl:jT m v l) (hx:cO m v' x) :
 Calls Tryz.prog 189 #[v,v'] w fun e w'=>e=.returned (.int .i64 (firstIdx (fun y=>y=x) l 0))∧Below w.heap.size w w':=by
 have hcall:=fun u y hu w1 hm1=>y7 u v' y x m w1 hm1 hu hx;have Hc:=zh hcall;clear hcall;obtain⟨a,c,rfl,h1,h2,h3⟩:=hl;obtain⟨ax,cx,rfl,-⟩:=hx;unfold maxLen at h2;refine av fun R hR=>?_
 go_enter Tryz.func189,Tryz.ntmps189
 go_wp2;refine au [0,1,7,8] (fun n vs wr=>∃k:Nat,k≤l.length∧n=l.length - k∧vs=[.slice a l.length c,.slice ax x.length cx,.int .i64 l.length,.int .i64 k]∧firstIdx (fun y=>y=x) l 0=firstIdx (fun y=>y=x) (l.drop k) k∧Below w.heap.size w wr) ?_ ?_
 ·exact⟨_,0,Nat.zero_le _,rfl,rfl,rfl,Below.refl _ _⟩
 rintro X z n vs wr hX - ⟨k,hk,rfl,rfl,hrel,hbel⟩;have Hrel:=zh hrel;clear hrel;simp[litL,lk];have hmr:=Mem.bB hm hbel;by_cases hlt:k<l.length
 ·obtain⟨b,off,rfl,h4⟩:=h3 (by intro h;simp[h] at hlt);obtain⟨u,hu1,hu2⟩:=h4 k hlt;have hc:=Hc.out u l[k] hu2 _ hmr;obtain⟨ua,uc,rfl,-⟩:=hu2;have c1:=Mem.aj hmr hu1;have HD:=zh (jX (fun y=>y=x) l k hlt);have Hcc:=zh hc;clear hc
  go_wp2_with fail
  refine Hcc.out.mono ?_;rintro e w' ⟨rfl,hbel2⟩;by_cases hx:l[k]=x
  ·rw[aH hx];have Hx:=zh hx;clear hx;go_wp2;exact hR.out _ _ ⟨fC (by rw[Hrel.out,HD.out,if_pos (aH Hx.out)]),bM hbel hbel2⟩
  ·rw[az hx];go_wp2;exact hX.out _ _ _ zo rfl ⟨k+1,zo,rfl,rfl,by rw[Hrel.out,HD.out,if_neg (by rw[az hx];simp)],bM hbel hbel2⟩
 ·go_wp2;exact hR.out _ _ ⟨fC (by rw[Hrel.out,List.drop_eq_nil_of_le zo];rfl),hbel⟩
theorem zH (v v':Value) (l cl:List Int) (x:Nat) (m:Mem) (w:World) (hm:m.inn w) (hl:cO m v l) (hc:cO m v' cl) (hx:x<cl.length) (hlc:∀y∈l,0≤y∧y<cl.length) :
 Calls Tryz.prog 150 #[v,v',.int .i64 x] w fun e w'=>e=.returned (.int .i64 (let r:=firstIdx (fun y=>cl.getD y.toNat 0=cl[x]) l 0;if r<0 then l.length else r))∧Below w.heap.size w w':=by
 obtain⟨a,c,rfl,h1,h2,h3⟩:=hl;obtain⟨a',c',rfl,h1',h2',h3'⟩:=hc;obtain⟨b',off',rfl,h4'⟩:=h3' (by intro h;simp[h] at hx);unfold maxLen at h2 h2';refine av fun R hR=>?_
 go_enter Tryz.func150,Tryz.ntmps150
 go_wp2;refine au [0,1,2,9,10,11] (fun n vs wr=>∃k:Nat,k≤l.length∧n=l.length - k∧vs=[.slice a l.length c,.slice (some ⟨b',off',none⟩) cl.length c',.int .i64 x,.slice a l.length c,.int .i64 l.length,.int .i64 k]∧firstIdx (fun y=>cl.getD y.toNat 0=cl[x]) l 0=firstIdx (fun y=>cl.getD y.toNat 0=cl[x]) (l.drop k) k∧Below w.heap.size w wr) ?_ ?_
 ·exact⟨_,0,Nat.zero_le _,rfl,rfl,rfl,Below.refl _ _⟩
 rintro X z n vs wr hX - ⟨k,hk,rfl,rfl,hrel,hbel⟩;have Hrel:=zh hrel;clear hrel;simp[litL,lk];have hmr:=Mem.bB hm hbel;by_cases hlt:k<l.length
 ·obtain⟨b,off,rfl,h4⟩:=h3 (by intro h;simp[h] at hlt);have c1:=Mem.aj hmr (h4 k hlt).1;obtain⟨y,hy⟩:=Int.eq_ofNat_of_zero_le (hlc l[k] (List.getElem_mem hlt)).1;have hy2:y<cl.length:=by have:=(hlc l[k] (List.getElem_mem hlt)).2;omega
  have hgd:cl.getD (l[k]).toNat 0=cl[y]:=by rw[hy];simp[hy2]
  rw[hy] at c1;have Hgd:=zh hgd;clear hgd hy;have c2:=Mem.aj hmr (h4' y hy2).1;have c3:=Mem.aj hmr (h4' x hx).1;have HD:=zh (jX (fun y=>cl.getD y.toNat 0=cl[x]) l k hlt);by_cases heq:cl[y]=cl[x]
  ·have hb1:(cl[y]==cl[x])=true:=by simp[heq]
   have Heq:=zh heq;clear heq;go_wp2
   go_quiet (fail)
   go_wp2;refine hR.out _ _ ⟨fC ?_,below_drewN hbel _⟩;rw[Hrel.out,HD.out,if_pos (aH (by rw[Hgd.out];exact Heq.out))];rw[if_neg zo]
  ·have hb1:(cl[y]==cl[x])=false:=by simp[heq]
   have Heq:=zh heq;clear heq;go_wp2
   go_quiet (fail)
   go_wp2;exact hX.out _ _ _ zo rfl ⟨k+1,zo,rfl,rfl,by rw[Hrel.out,HD.out,if_neg (by rw[az (by rw[Hgd.out];exact Heq.out)];simp)],below_drewN hbel _⟩
 ·go_wp2;exact hR.out _ _ ⟨fC (by rw[Hrel.out,List.drop_eq_nil_of_le zo];rfl),hbel⟩
def sigP (cls:List Int) (ta:Nat→Nat→Int) (s i:Nat):List Int:=cls.getD s 0::(List.range i).map fun i=>oL cls (ta s i)
theorem Ir (cls:List Int) (ta:Nat→Nat→Int) (s i:Nat):sigP cls ta s (i+1)=sigP cls ta s i ++ [oL cls (ta s i)]:=by
 unfold sigP;rw[List.range_succ,List.map_append];rfl
theorem xM (l:List (List Int)) (x:List Int):firstIdx (fun y=>y=x) l 0=if l.findIdx (·==x)<l.length then ((l.findIdx (·==x):Nat):Int) else -1:=by
 rcases jW (fun y=>y=x) l 0 with ⟨h1,h2⟩ | ⟨i,h1,h2,h3,h4⟩
 ·rw[h1,if_neg];intro h;obtain⟨y,hy,hp⟩:=List.findIdx_lt_length.1 h;exact h2 y hy (by simpa using hp)
 ·have:l.findIdx (·==x)=i:=by
   rw[List.findIdx_eq h1];exact⟨by simpa using h3,fun j hj=>by simpa using h4 j zo hj⟩
  rw[h2,this,if_pos h1];simp
theorem De {cls:List Int} {n:Nat} (_:cls.length=n) (hr:∀s,s<n→0≤cls.getD s 0∧cls.getD s 0≤n) {x:Int} (hx : -1≤x∧x<n) : -1≤oL cls x∧oL cls x≤n:=by
 unfold oL
 split
 ·omega
 ·have:=hr x.toNat zo;omega
theorem Df (v0 v1:Value) (l:Table) (cuts:List Int) (lo hi:Nat→Nat) (m:Mem) (w:World) (hm:m.inn w) (hl:aQ m v0 l) (hc:cO m v1 cuts) (hwf:WF l) (hlen:l.length≤1000000) (hpos:1≤l.length)
 (H:Bg l l.length lo hi cuts.length (fun s i=>aV l s (lo i))) (hlo:∀i,(h:i<cuts.length)→cuts[i]=lo i) (hclen:cuts.length≤256) :
 Calls Tryz.prog 149 #[v0,v1] w fun e w'=>∃r cls,e=.returned r∧Below w.heap.size w w'∧cO (m.grow w w') r cls∧qh l l.length cls:=by
 have hl0:=hl;obtain⟨a,c,rfl,h1,h2,h3⟩:=hl;obtain⟨ca,cc,rfl,c1,c2,c3⟩:=hc;unfold maxLen at h2 c2;obtain⟨b,off,rfl,h4⟩:=h3 (by intro h;simp[h] at hpos);clear h3;refine av fun R hR=>?_
 go_enter Tryz.func149,Tryz.ntmps149
 go_wp2_with (refine wpList_make_row vY rfl (.tmp 18) (.tmp 18) rfl l.length rfl rfl zo (by unfold maxLen;omega) ?_)
 intro w1 hown1 hgrow1;have hO:=((Own.start hm).make hown1 hgrow1);rw[jh] at hO;clear hown1 hgrow1;generalize w.heap.size=B at hO ⊢;go_wp2;refine au [0,1,5,20,21,22] (fun n vs wr=>∃k:Nat,k≤l.length∧n=l.length - k∧vs=[.slice (some ⟨b,off,none⟩) l.length c,.slice ca cuts.length cc,.slice (some ⟨B,0,none⟩) l.length l.length,.slice (some ⟨b,off,none⟩) l.length c,.int .i64 l.length,.int .i64 k] ∧
  Own w m wr m [.row (.slice (some ⟨B,0,none⟩) l.length l.length) 3 1 l.length (fH (((l.take k).map (·.accept)).map b2i) (l.length - k))]) ?_ ?_
 ·exact⟨_,0,Nat.zero_le _,rfl,rfl,by simpa using hO⟩
 clear hO;rintro X z n vs wr hX - ⟨k,hk,rfl,rfl,hO⟩;simp[litL,lk];by_cases hlt:k<l.length
 ·obtain⟨g1,ve,g2,ea,ec,rfl,g4,g5,g6⟩:=h4 k hlt;have g1w:=Mem.aj hO.inn g1;have g2w:=Mem.aj hO.inn g2;have hgl:=Mem.ay hO.inn g1;have hst:=tQ (acc:=l.map (·.accept)) (k:=k) (N:=l.length) (by simpa using hlt) zS;rw[← List.map_take,← List.map_take,List.getElem_map] at hst;have r1:=aN (j:=k) (u:=.int .i64 0) hO.row (fG (by simp;omega) zo);have r2:=bO hO.row k;have r3:=(World.ownsRow.lt hO.row _ rfl).2;have hO2:=hO.setRow k (.int .i64 1);have HS:=zh (zi hst (zi hO hO2));clear hst hO hO2
  cases hb:(l[k]).accept with
  | true=>
   rw[hb] at g1w HS;go_wp2;refine hX.out _ _ _ zo rfl ⟨k+1,zo,rfl,rfl,?_⟩;rw[HS.out.1]
   exact HS.out.2.2.al' _
  | false=>
   rw[hb] at g1w HS;go_wp2;refine hX.out _ _ _ zo rfl ⟨k+1,zo,rfl,rfl,?_⟩;rw[HS.out.1,show Value.int .i64 (b2i false)=.int .i64 0 from rfl];have:∀{xs:List Value},xs[k]?=some (.int .i64 0)→xs.set k (.int .i64 0)=xs:=fun {xs} h=>by
    obtain⟨h1,h2⟩:=List.getElem?_eq_some_iff.1 h;rw[← h2,List.set_getElem_self]
   rw[this (fG (by simp;omega) zo)];exact HS.out.2.1.al' _
 ·obtain rfl:k=l.length:=zo;rw[List.take_length,Nat.sub_self,jY] at hO;have hstart:qJ l l.length ((l.map (·.accept)).map b2i) 0:=zl hpos zS fun s hs=>by
   rw[dG l s hs];simp[hs,b2i]
  have hin:=bI (l:=(l.map (·.accept)).map b2i) (m:=m) (by simpa using hO.row) (fun x hx=>by
   obtain⟨b,-,rfl⟩:=List.mem_map.1 hx;unfold b2i;split <;> omega)
  have hO4:=hO.aY;have hle:=Mem.cu (w:=wr) hO.free;generalize m.addv wr (.slice (some ⟨B,0,none⟩) l.length l.length)=mk1 at *
  generalize Value.slice (some ⟨B,0,none⟩) l.length l.length=vk at *
  generalize (l.map (·.accept)).map b2i=cls0 at *
  have Hk:=zh (zi hstart (zi hin (zi hO4 hle)));clear hstart hin hO4 hle hO;go_wp2;refine au [0,1,5,8,34,35] (fun n vs wr=>∃(r many:Nat) (cls:List Int) (vk:Value) (mk':Mem),n=l.length - r∧r≤l.length∧r≤many∧many≤l.length ∧
   vs=[.slice (some ⟨b,off,none⟩) l.length c,.slice ca cuts.length cc,vk,.int .i64 many,.int .i64 l.length,.int .i64 r] ∧
   qJ l l.length cls many∧cO mk' vk cls∧Own w m wr mk' []∧m.le mk') ?_ ?_
  ·exact⟨_,0,0,cls0,vk,mk1,rfl,Nat.zero_le _,Nat.zero_le _,Nat.zero_le _,rfl,Hk.out.1,Hk.out.2.1,Hk.out.2.2.1,Hk.out.2.2.2⟩
  clear Hk;rintro Y z n vs wr2 hY - ⟨r,many,cls,vk,mk1,rfl,hr,hrm,hmany,rfl,hri,hin,hO,hle⟩;simp[litL,lk];have hclen2:=hri.len;have hrng:=hri.rng;have hin0:=hin;obtain⟨ka,kc,rfl,k1,k2,k3⟩:=hin;have hkpos:0<cls.length:=zo;obtain⟨kb,ko,rfl,k4⟩:=k3 (by intro h;simp[h] at hkpos);unfold maxLen at k2;have HRI:=zh (zi hri (zi hclen2 hrng));have hcl1:l.length≤cls.length:=zo;have hcl2:cls.length≤l.length:=zo;clear hri hclen2 hrng;by_cases hlt2:r<l.length
  ·go_wp2_with (refine wpList_make_row vY rfl (.tmp 38) (.tmp 38) rfl l.length rfl rfl zo (by unfold maxLen;omega) ?_)
   intro w3 hown3 hgrow3;have hO2:=(hO.make hown3 hgrow3).dC 135 1;rw[jh] at hO2;have HO2:=zh hO2;clear hO2 hO hown3 hgrow3;generalize wr2.heap.size=M at *
   go_wp2;refine au [0,1,5,8,34,35,9,10,41,42] (fun n vs w4=>∃(s:Nat) (vs':Value) (xs:List Value) (mk:Mem),s≤l.length∧n=l.length - s ∧
    vs=[.slice (some ⟨b,off,none⟩) l.length c,.slice ca cuts.length cc,.slice (some ⟨kb,ko,none⟩) cls.length kc,.int .i64 many,.int .i64 l.length,.int .i64 r,vs',.slice (some ⟨M,0,none⟩) l.length l.length,.int .i64 l.length,.int .i64 s] ∧
    Own w m w4 mk [.row vs' 135 1 (dK (sig cls (fun s i=>aV l s (lo i)) cuts.length) s).1.length xs,.row (.slice (some ⟨M,0,none⟩) l.length l.length) 3 1 l.length (fH (dK (sig cls (fun s i=>aV l s (lo i)) cuts.length) s).2 (l.length - s))] ∧
    jl mk xs (dK (sig cls (fun s i=>aV l s (lo i)) cuts.length) s).1∧mk1.le mk) ?_ ?_
   ·exact⟨_,0,.slice none 0 0,[],_,Nat.zero_le _,rfl,rfl,HO2.out,jl.nil _,Mem.le_refl _⟩
   clear HO2;rintro Z z3 n vs w4 hZ - ⟨s,vs',xs,mk,hs,rfl,rfl,hO,hrow,hmk⟩;simp[litL,lk];have hnum:=Ce (sig cls (fun s i=>aV l s (lo i)) cuts.length) s;have hsn:=vT (sig cls (fun s i=>aV l s (lo i)) cuts.length) s;obtain⟨vsa,vsc,rfl⟩:=aO hO.row;by_cases hlt3:s<l.length
   ·have hO':=hO;have d1:=k4 s zo;have hcs:cls.getD s 0=cls[s]'zo:=by simp[show s<cls.length by omega]
    have d1w:=Mem.aj hO.inn (Mem.aA hmk d1.1);have d1l:=Mem.ay hO.inn (Mem.aA hmk d1.1);have hcsr:=(HRI.out.2.2 s hlt3);rw[← hcs] at d1w;have hO2:=(hO.al #[.int .i64 (cls.getD s 0)] 3).LM;have HO2:=zh hO2;clear hO2 hO hO' hcs;generalize hN:w4.heap.size=N at *
    go_wp2;refine au [0,1,5,8,34,35,9,10,41,42,11,12,50,51,52] (fun n vs w5=>∃(i:Nat) (vr:Value),i≤cuts.length∧n=cuts.length - i ∧
     vs=[.slice (some ⟨b,off,none⟩) l.length c,.slice ca cuts.length cc,.slice (some ⟨kb,ko,none⟩) cls.length kc,.int .i64 many,.int .i64 l.length,.int .i64 r,.slice vsa (dK (sig cls (fun s i=>aV l s (lo i)) cuts.length) s).1.length vsc,.slice (some ⟨M,0,none⟩) l.length l.length,.int .i64 l.length,.int .i64 s,.int .i64 s,vr,.slice ca cuts.length cc,.int .i64 cuts.length,.int .i64 i] ∧
     Own w m w5 mk [.row vr 3 1 (i+1) ((sigP cls (fun s i=>aV l s (lo i)) s i).map (Value.int .i64)),.row (.slice vsa (dK (sig cls (fun s i=>aV l s (lo i)) cuts.length) s).1.length vsc) 135 1 (dK (sig cls (fun s i=>aV l s (lo i)) cuts.length) s).1.length xs,.row (.slice (some ⟨M,0,none⟩) l.length l.length) 3 1 l.length (fH (dK (sig cls (fun s i=>aV l s (lo i)) cuts.length) s).2 (l.length - s))]) ?_ ?_
    ·exact⟨_,0,.slice (some ⟨N,0,none⟩) 1 1,Nat.zero_le _,rfl,rfl,HO2.out⟩
    clear HO2 d1w;rintro V z4 n vs w5 hV - ⟨i,vr,hi1,rfl,rfl,hO⟩;simp[litL,lk];obtain⟨vra,vrc,rfl⟩:=aO hO.row;by_cases hlt4:i<cuts.length
    ·obtain⟨cb,co,rfl,c4⟩:=c3 (by intro h;simp[h] at hlt4);have q1:=c4 i hlt4;rw[hlo i hlt4] at q1;have hmr:=Mem.dm hO.ext.le hO.inn;have q1w:=Mem.aj hmr q1.1;have hle5:=H.iv.le i hlt4;have hcall:=yh (.slice (some ⟨b,off,none⟩) l.length c) l s (lo i) m _ hmr hl0 zo zo;have hsg:=Ir cls (fun s i=>aV l s (lo i)) s i;have hwu:IntKind.u8.wrap (lo i:Int)=(lo i:Int):=IntWalk.u8_in _ zo;rcases dX hwf s (lo i) with ht | ⟨ht1,ht2⟩
     ·have hcl3:oL cls (aV l s (lo i)) = -1:=by rw[ht];rfl
      rw[ht] at hcall;rw[hcl3] at hsg;have HS:=zh (zi hcall hsg);clear hcall hsg ht hcl3
      go_wp2_with fail
      refine HS.out.1.mono ?_;rintro e w6 ⟨rfl,hb6⟩;have hO3:=(hO.move hb6).al #[.int .i64 (-1)] 3;have hnews:=hO3.obj.news rfl;have hb6s:=hb6.size;clear hO hb6
      go_wp2_with (at_builtin;refine aC nU rfl (.tmp 67) (.tmp 69) rfl (.slice vra (i+1) vrc) (i+1) _ rfl hO3.swap.row ⟨w6.heap.size,0,none⟩ 1 1 [.int .i64 (-1)] rfl rfl hnews (by simp[Value.oneCell']) (by unfold maxLen;omega) zo ?_)
      intro va vc w7 hown7 hgrow7 hrow7;have hO4:=(hO3.swap.app hown7 hgrow7 hrow7 zS).drop2;have HO4:=zh hO4;clear hown7 hgrow7 hrow7 hO3 hnews hO4;go_wp2;refine hV.out _ _ _ zo rfl ⟨i+1,.slice va (i+1+1) vc,zo,rfl,rfl,?_⟩;rw[HS.out.2,List.map_append];exact HO4.out
     ·obtain⟨tn,htn⟩:=Int.eq_ofNat_of_zero_le ht1;rw[htn] at hcall ht2;have htl:tn<cls.length:=zo;have hcl3:oL cls (aV l s (lo i))=cls[tn]:=by
       rw[htn];unfold oL;rw[if_neg zo];simp[htl]
      rw[hcl3] at hsg;have k5:=k4 tn htl;generalize cls[tn]=y at *
      have HS:=zh (zi hcall hsg);clear hcall hsg ht1 hcl3 htn
      go_wp2_with fail
      refine HS.out.1.mono ?_;rintro e w6 ⟨rfl,hb6⟩;have hOm:=hO.move hb6;have k5w:=Mem.aj hOm.inn (Mem.aA hmk k5.1);have k5l:=Mem.ay hOm.inn (Mem.aA hmk k5.1);have hO3:=hOm.al #[.int .i64 y] 3;have hnews:=hO3.obj.news rfl;have hb6s:=hb6.size;clear hO hb6 hOm
      go_wp2_with (at_builtin;refine aC nU rfl (.tmp 67) (.tmp 69) rfl (.slice vra (i+1) vrc) (i+1) _ rfl hO3.swap.row ⟨w6.heap.size,0,none⟩ 1 1 [.int .i64 y] rfl rfl hnews (by simp[Value.oneCell']) (by unfold maxLen;omega) zo ?_)
      intro va vc w7 hown7 hgrow7 hrow7;have hO4:=(hO3.swap.app hown7 hgrow7 hrow7 zS).drop2;have HO4:=zh hO4;clear hown7 hgrow7 hrow7 hO3 hnews hO4;go_wp2;refine hV.out _ _ _ zo rfl ⟨i+1,.slice va (i+1+1) vc,zo,rfl,rfl,?_⟩;rw[HS.out.2,List.map_append];exact HO4.out
    ·obtain rfl:i=cuts.length:=zo;have esg:sigP cls (fun s i=>aV l s (lo i)) s cuts.length=sig cls (fun s i=>aV l s (lo i)) cuts.length s:=rfl;rw[esg] at hO;have hsl:(sig cls (fun s i=>aV l s (lo i)) cuts.length s).length=cuts.length+1:=by simp[sig]
     have hsr:∀x∈sig cls (fun s i=>aV l s (lo i)) cuts.length s,-9223372036854775808≤x∧x≤9223372036854775807:=by
      intro x hx;unfold sig at hx;rcases List.mem_cons.1 hx with rfl | hx
      ·omega
      ·obtain⟨j,hj,rfl⟩:=List.mem_map.1 hx;have:=De HRI.out.2.1 HRI.out.2.2 (H.rng s j hlt3 (List.mem_range.1 hj));simp only at this ⊢;omega
     have hs1:=hO.swap.aY;have hiss:=mJ hO.swap.row hrow hO.swap.free;have hs2:=hs1.aY;have hint:=bI (m:=mk.addv w5 (.slice vsa (dK (sig cls (fun s i=>aV l s (lo i)) cuts.length) s).1.length vsc)) (l:=sig cls (fun s i=>aV l s (lo i)) cuts.length s) (by rw[hsl];exact hO.row) hsr;have hfind:=Lg _ _ _ _ _ w5 hs2.inn (lX (Mem.cu hs1.free) hiss) hint;rw[xM] at hfind;have hint2:=bI (m:=mk) (l:=sig cls (fun s i=>aV l s (lo i)) cuts.length s) (by rw[hsl];exact hO.row) hsr;have hle6:=hnum.le;have hl6:=hnum.len;have hfl:(dK (sig cls (fun s i=>aV l s (lo i)) cuts.length) s).1.findIdx (·==sig cls (fun s i=>aV l s (lo i)) cuts.length s)≤(dK (sig cls (fun s i=>aV l s (lo i)) cuts.length) s).1.length:=List.findIdx_le_length;clear hs1 hiss hs2 hint esg hnum;generalize sig cls (fun s i=>aV l s (lo i)) cuts.length s=x at *
     generalize dK (sig cls (fun s i=>aV l s (lo i)) cuts.length) s=rr at *
     obtain⟨sn,nxl⟩:=rr;simp only at *
     by_cases hf:sn.findIdx (·==x)<sn.length
     ·rw[if_pos hf] at hfind;rw[if_pos hf] at hsn;generalize sn.findIdx (·==x)=idx at *
      have HF:=zh (zi hfind (zi hsn hl6));clear hfind hsn hl6 hsl
      go_wp2_with fail
      refine HF.out.1.mono ?_;rintro e w6 ⟨rfl,hb6⟩;have hO4:=(hO.move hb6).tail.swap;have r1:=aN (j:=s) (u:=.int .i64 0) hO4.row (fG HF.out.2.2 zo);have r2:=bO hO4.row s;have r3:=(World.ownsRow.lt hO4.row _ rfl).2;have hO5:=hO4.setRow s (.int .i64 idx);rw[iU HF.out.2.2 zo] at hO5;have HO5:=zh hO5.swap;clear hO5 hO4 hO hb6;go_wp2;refine hZ.out _ _ _ zo rfl ⟨s+1,.slice vsa sn.length vsc,xs,mk,zo,rfl,?_,?_,?_,hmk⟩
      ·rw[List.map];rfl
      ·rw[HF.out.2.1];exact HO5.out
      ·rw[HF.out.2.1];exact hrow
     ·rw[if_neg hf] at hfind;rw[if_neg hf] at hsn;have hidx:sn.findIdx (·==x)=sn.length:=zo;rw[hidx] at hsn;have hmk2:=Mem.cu (w:=w5) hO.free;have hrow2:=(hrow.mono hmk2).push hint2;have hOs:=hO.aY;have HF:=zh (zi hfind (zi hsn (zi hl6 (zi hrow2 (Mem.le_trans hmk hmk2)))));clear hfind hsn hl6 hsl hidx hf hfl hrow2 hmk2 hint2 hO;generalize mk.addv w5 (.slice vra (cuts.length+1) vrc)=mk2 at *
      go_wp2_with fail
      refine HF.out.1.mono ?_;rintro e w6 ⟨rfl,hb6⟩;have hO4:=(hOs.move hb6).al #[.slice vra (cuts.length+1) vrc] 135;have hnews:=hO4.obj.news rfl;clear hOs hb6
      go_wp2_with (at_builtin;refine aC wS rfl (.tmp 79) (.tmp 81) rfl (.slice vsa sn.length vsc) sn.length xs rfl hO4.swap.row ⟨w6.heap.size,0,none⟩ 1 1 [.slice vra (cuts.length+1) vrc] rfl rfl hnews (by simp[Value.oneCell']) (by unfold maxLen;omega) zo ?_)
      intro va vc w7 hown7 hgrow7 hrow7;have hO5:=(hO4.swap.app hown7 hgrow7 hrow7 zS).drop2.swap;clear hown7 hgrow7 hrow7 hO4 hnews;have r1:=aN (j:=s) (u:=.int .i64 0) hO5.row (fG HF.out.2.2.1 zo);have r2:=bO hO5.row s;have r3:=(World.ownsRow.lt hO5.row _ rfl).2;have hO6:=hO5.setRow s (.int .i64 sn.length);rw[iU HF.out.2.2.1 zo] at hO6;have HO6:=zh hO6.swap;clear hO6 hO5;go_wp2;refine hZ.out _ _ _ zo rfl ⟨s+1,.slice va (sn.length+1) vc,xs ++ [.slice vra (cuts.length+1) vrc],mk2,zo,rfl,?_,?_,?_,HF.out.2.2.2.2⟩
      ·rfl
      ·rw[HF.out.2.1];show Own w m _ mk2 [.row _ _ _ (sn ++ [x]).length _,.row _ _ _ _ _];rw[show (sn ++ [x]).length=sn.length+1 by simp];exact HO6.out
      ·rw[HF.out.2.1];exact HF.out.2.2.2.1
   ·obtain rfl:s=l.length:=zo;rw[Nat.sub_self,jY] at hO;have hrd:=zm H hpos HRI.out.1;generalize dK (sig cls (fun s i=>aV l s (lo i)) cuts.length) l.length=rr at *
    obtain⟨sn,nxl⟩:=rr;simp only at hO hrd hnum hrow;have hin2:=bI (l:=nxl) (m:=mk) (by rw[hnum.len];exact hO.swap.row) (fun y hy=>by
     obtain⟨i,hi,rfl⟩:=List.mem_iff_getElem.1 hy;have:=hnum.rng (s:=i) (by rw[← hnum.len];exact hi);simp only[List.getD_eq_getElem?_getD,hi,List.getElem?_eq_getElem,Option.getD_some] at this;have:=hnum.le;simp only at this;omega)
    have hle2:=Mem.cu (w:=w4) hO.swap.free;have hO5:=hO.swap.aY.tail;have hnl:=hnum.len;generalize mk.addv w4 (.slice (some ⟨M,0,none⟩) l.length l.length)=mk2 at *
    have Hk:=zh (zi hin2 (zi (Mem.le_trans (Mem.le_trans hle hmk) hle2) (zi hO5 (zi hrd hnl))));have hs1:=hrd.2.1;have hs2:=hrd.2.2.1;clear hin2 hle2 hO5 hO hrd hnum hsn hnl;by_cases hstop:sn.length=many
    ·have hdec:((sn.length:Int)==(many:Int))=true:=by simp[hstop]
     have HT:=zh hstop;clear hstop;go_wp2;refine hR.out _ _ ⟨_,nxl,rfl,Hk.out.2.2.1.below,?_,Hk.out.2.2.2.1.2.2.2.2 HT.out⟩;have:=dh Hk.out.2.2.1.done Hk.out.1;exact this
    ·have hdec:((sn.length:Int)==(many:Int))=false:=by simp;omega
     go_wp2;exact hY.out _ _ _ zo rfl ⟨r+1,sn.length,nxl,.slice (some ⟨M,0,none⟩) l.length l.length,mk2,rfl,zo,zo,hs2,rfl,Hk.out.2.2.2.1.1,Hk.out.1,Hk.out.2.2.1,Hk.out.2.1⟩
  ·obtain rfl:r=l.length:=zo;have hfull:=KF HRI.out.1 hrm hpos;have Hk:=zh (zi hfull (zi hO.below (dh hO.done hin0)));clear hfull hin0 hO;go_wp2;exact hR.out _ _ ⟨_,cls,rfl,Hk.out.2.1,Hk.out.2.2,Hk.out.1⟩
end Cl
