/- Lemmas for the proofs of chapter 11. -/
import Derived.Test.YtdgjplfcpcphoaaGreatDoorProg
import Derived.BigQuiet
import Derived.Deep.Cut
import Derived.Deep.QuietTactic
import Derived.Laws.StructEq
import Derived.Lib.AppendStr
import Derived.Lib.Builder
import Derived.Lib.Hide
import Derived.Lib.ItoaLen
import Derived.Maps.OwnOps
import Derived.Maps.OwnSet
import Derived.OrdersHeld
import Derived.Outline
import Derived.StillTailTactics
import Derived.StringKeys
import Derived.WalkKit
import Derived.WalkLawsBesides
import Derived.WalkSpells
import Derived.Deep.RegionHeld
import Derived.Shelf.Strings.Builder1
import Derived.Shelf.Small.Wraps
import Derived.Shelf.LaysM
import Derived.Shelf.Strconv.Itoa3
import Derived.Test.YtdgjplfcpcphoaaGreatDoorZz
import Derived.Test.YtdgjplfcpcphoaaGreatDoorPkV3
import Derived.Test.YtdgjplfcpcphoaaGreatDoorPkV5
import Derived.Test.YtdgjplfcpcphoaaGreatDoorPkV1
import Derived.Test.YtdgjplfcpcphoaaGreatDoorPkV2
import Derived.Test.YtdgjplfcpcphoaaGreatDoorPkV10
import Derived.Test.YtdgjplfcpcphoaaGreatDoorPkV4
import Derived.Test.YtdgjplfcpcphoaaGreatDoorPkV9
import Derived.Test.YtdgjplfcpcphoaaGreatDoorPkV11
import Derived.Test.YtdgjplfcpcphoaaGreatDoorPkV6
set_option maxRecDepth 100000
set_option maxHeartbeats 16000000
namespace Cl
open Go Go.RowKit Go.Proofs
theorem Cg (T:Table):∀i,(h:i<(bC T 256).length)→(bC T 256)[i]=(loOf (aK (pOf T)) i:Nat):=(oJ T).lo
structure Og (T:Table) (cuts:List Int) (cls:List Int) (lo hi:Nat→Nat):Prop where
 wf:WF T
 by_:Bytes T
 ta:Bg T T.length lo hi cuts.length (fun s i=>aV T s (lo i))
 bfs:mR T T.length (fun s=>cls.getD s 0) (dlT T lo) lo hi (fun s=>dP T s) cuts.length
 cut:Kj cuts lo hi
 cls:qh T T.length cls
 len:T.length≤1000000
 pos:1≤T.length
 clen:cuts.length≤256
theorem IY {R:Table} (hw:WF R) (hb:Bytes R) {lv:Nat→Bool} (hlv:∀s:Nat,s<R.length→(lv s=true↔Lv R s)) (hlen:R.length≤1000000) (hpos:1≤R.length) (h0:Lv R 0) {cls:List Int}
 (hc:qh (dE R lv) (dE R lv).length cls):Og (dE R lv) (bC (dE R lv) 256) cls (loOf (aK (pOf (dE R lv)))) (hiOf (aK (pOf (dE R lv)))):=by
 have hl:(dE R lv).length=R.length:=by simp[dE]
 have hwT:=BA hw lv;have ht:=yM hw hlv;have h0T:Lv (dE R lv) 0:=by obtain⟨w,hx⟩:=h0;exact⟨w,by rw[rT hw hlv];exact hx⟩
 refine ⟨hwT,EU hb lv,?_,?_,oJ _,hc,zo,zo,jK _ 256⟩
 ·rw[l7];exact pg hwT (oD _) ht
 ·rw[l7];exact Dg hwT (oD _) ht hc (ac:=fun s=>dP (dE R lv) s) (fun s _=>rfl) h0T zo
theorem IX {R:Table} (hw:WF R) {lv:Nat→Bool} (hlv:∀s:Nat,s<R.length→(lv s=true↔Lv R s)) :
 Bg (dE R lv) (dE R lv).length (loOf (aK (pOf (dE R lv)))) (hiOf (aK (pOf (dE R lv)))) (bC (dE R lv) 256).length (fun s i=>aV (dE R lv) s (loOf (aK (pOf (dE R lv))) i)):=by
 rw[l7];exact pg (BA hw lv) (oD _) (yM hw hlv)
theorem uN (v0:Value) (l:Table) (m:Mem) (w:World) (hm:m.inn w) (hl:aQ m v0 l) (hlen:l.length≤1000000) :
 Calls Tryz.prog 97 #[v0] w fun e w'=>∃r C,e=.returned (.tuple #[.agg #[r],.int .i64 (if tf (WF l)=true then 0 else 11)])∧Below w.heap.size w w'∧aQ (m.grow w w') r C∧C.length≤l.length+1 ∧
  (WF l→Nw l C)∧(¬ WF l→C=[]):=by
 have hl0:=hl;have hby:=rA hl;obtain⟨a,c,rfl,h1,h2,h3⟩:=hl;unfold maxLen at h2;have HW:=zh (fun w (hw:m.inn w)=>uU (.slice a l.length c) l m w hw hl0);refine av fun R hR=>?_;have hO:=(Own.start hm).al #[.slice none 0 0] 27;have HO:=zh hO;clear hO
 go_enter Tryz.func97,Tryz.ntmps97
 go_wp2_with fail
 refine (HW.out _ (Mem.dm HO.out.ext.le HO.out.inn)).mono ?_;rintro e w1 ⟨rfl,hb1⟩;have hO1:=HO.out.move hb1;have g1:=hO1.obj.cell (i:=0) rfl;have g2:=hO1.obj.frozen 0;have g3:=hO1.obj.lt;clear HO hb1;by_cases hwf:WF l
 ·rw[aH hwf];by_cases h0:l.length=0
  ·have hln:l=[]:=List.eq_nil_of_length_eq_zero h0;have hO2:=hO1.set 0 (.slice none 0 0);have g4:=hO2.obj.cell (i:=0) rfl;have Hk:=zh (zi hO2 hln);have hdec:((l.length:Int)==0)=true:=by simp[h0]
   clear hO1 hO2 hln h0;go_wp2;refine bodyPost_ret (v:=.tuple #[.agg #[.slice none 0 0],.int .i64 0]) (by simp[results,Tryz.results97,go_sem,g1]) rfl ?_;refine hR.out _ _ ⟨_,[],by rw[aH hwf];rfl,Hk.out.1.below,fB _,zS,fun _=>⟨iq,fun x=>?_⟩,fun _=>rfl⟩;rw[Hk.out.2]
  ·have hdec:((l.length:Int)==0)=false:=beq_eq_false_iff_ne.2 zo;have HA:=zh (Bb (.slice a l.length c) l m w1 (Mem.dm hO1.ext.le hO1.inn) hl0 hwf hlen);have HO1:=zh hO1;clear hO1
   go_wp2_with fail
   refine HA.out.mono ?_;rintro e w2 ⟨rv,lv0,rfl,hb2,hr2,hlv0,hiff0⟩;have hO2:=HO1.out.call hb2;have hle2:=Mem.dJ (w:=w2) (Mem.dm HO1.out.ext.le HO1.out.inn);obtain⟨la,lc,rfl,l1,l2,l3⟩:=hr2;have hlv1:l.length≤lv0.length:=zo;clear hlv0;obtain⟨lb,lo',rfl,l4⟩:=l3 (by intro h;simp[h] at hlv1;simp[hlv1] at h0);have z0:=l4 0 zo;rw[Nat.add_zero] at z0;have z1:w2.cell? ⟨lb,lo',none⟩=some (.bool lv0[0]):=Mem.aj (Mem.Eh (Mem.dm HO1.out.ext.le HO1.out.inn) hb2) z0;have hb0:bt lv0 0=lv0[0]:=kD zo;have HF:=zh (zi (hiff0 0 zo) hb0);have g1:=hO2.obj.cell (i:=0) rfl;have g2:=hO2.obj.frozen 0;have g3:=hO2.obj.lt;clear hb0 hiff0 HA HO1;have hlvp:0<lv0.length:=zo;generalize lv0[0]=b0 at *
   cases b0 with
   | false=>
    have hO3:=hO2.set 0 (.slice none 0 0);have g4:=hO3.obj.cell (i:=0) rfl;have Hk:=zh hO3;clear hO2 hO3;go_wp2;refine bodyPost_ret (v:=.tuple #[.agg #[.slice none 0 0],.int .i64 0]) (by simp[results,Tryz.results97,go_sem,g1]) rfl ?_;refine hR.out _ _ ⟨_,[],by rw[aH hwf];rfl,Hk.out.below,fB _,zS,fun _=>⟨iq,fun x=>?_⟩,fun h=>absurd hwf h⟩;rw[gZ]
    cases hx:aF l 0 x with
    | false=>rfl
    | true=>
     have:=HF.out.1.2 ⟨x,hx⟩
     rw[HF.out.2] at this;cases this
   | true=>
    have hm2:=hO2.inn;have HRe:=zh (BN (.slice a l.length c) l _ w2 hm2 (aZ hO2.ext.le hl0) hwf hlen zo (fun s hs=>by have:=yA hwf hby s hs;omega));have HO2:=zh hO2;clear hO2 hm2
    go_wp2_with fail
    refine HRe.out.mono ?_;rintro e w3 ⟨r3,o,rfl,hb3,hst3,hri⟩;have hO3:=HO2.out.call hb3;obtain⟨q1,q2,q3,q4⟩:=II hwf hby hri;have hoN:=sQ hri.nodup hri.lt;have hRp:1≤(fE l o o.length).length:=by
     have hf:=hri.first;rw[q3]
     cases o with
     | nil=>simp at hf
     | cons _ _=>simp
    have hlvR:Lv (fE l o o.length) 0:=by
     obtain⟨x,hx⟩:=HF.out.1.1 HF.out.2;exact⟨x,by rw[q4];exact hx⟩
    have HTr:=zh (Bz r3 (fE l o o.length) _ w3 hO3.inn hst3 q1 zo (fun s hs=>by have:=yA q1 q2 s hs;omega));have HO3:=zh hO3;have HR0:=zh (zi q4 hlvR);have hRl:(fE l o o.length).length≤l.length:=zo;obtain⟨r3a,r3c,rfl⟩:∃ra rc,r3=.slice ra (fE l o o.length).length rc:=by obtain⟨x,y,e,-⟩:=hst3;exact⟨x,y,e⟩
    clear hO3 HRe HO2 hst3 hb3 q3 q4 hlvR hri hoN;generalize fE l o o.length=R at *
    go_wp2_with fail
    refine HTr.out.mono ?_;rintro e w4 ⟨r4,lv,rfl,hb4,hst4,hlv⟩;have hO4:=HO3.out.call hb4;have hTl:(dE R lv).length=R.length:=by simp[dE]
    have hTw:=BA q1 lv;have HSt:=zh (GN r4 (dE R lv) _ w4 hO4.inn hst4 hTw);obtain⟨r4a,r4c,rfl⟩:∃ra rc,r4=.slice ra (dE R lv).length rc:=by obtain⟨x,y,e,-⟩:=hst4;exact⟨x,y,e⟩
    have HO4:=zh (zi hO4 (zi hst4 (zi hTw (zi hlv (zi q1 q2)))));have hTl2:(dE R lv).length≤R.length:=zo;have hTl3:R.length≤(dE R lv).length:=zo;clear hO4 HO3 HTr hst4 hb4 hTl hTw hlv q1 q2
    go_wp2_with fail
    refine HSt.out.mono ?_;rintro e w5 ⟨r5,rfl,hb5,hst5⟩;have hO5:=HO4.out.1.call hb5;have hTw:=HO4.out.2.2.1;have hlv:=HO4.out.2.2.2.1;have q1:=HO4.out.2.2.2.2.1;have q2:=HO4.out.2.2.2.2.2;have hle5:=Mem.dJ (w:=w5) HO4.out.1.inn;have HCl:=zh (Df _ r5 (dE R lv) (bC (dE R lv) 256) _ _ _ w5 hO5.inn (aZ hle5 HO4.out.2.1) hst5 hTw zo zo (IX q1 hlv) (Cg (dE R lv)) (jK _ 256));have HN0:=zh (fun cls (hc:qh (dE R lv) (dE R lv).length cls)=>IY q1 q2 hlv zo hRp HR0.out.2 hc);have HL:=zh (fun x=>rT q1 hlv x 0);have hst4:=aZ hle5 HO4.out.2.1;obtain⟨r5a,r5c,rfl⟩:∃ra rc,r5=.slice ra (bC (dE R lv) 256).length rc:=by obtain⟨x,y,e,-⟩:=hst5;exact⟨x,y,e⟩
    have HO5:=zh (zi hO5 (zi hst4 hst5));have hTl4:(dE R lv).length≤l.length:=zo;have hTl5:1≤(dE R lv).length:=zo;have HR0:=zh HR0;clear hO5 HO4 HSt hst4 hst5 hb5 hle5 hTw hlv q1 q2 hTl2 hTl3;generalize dE R lv=T at *
    generalize loOf (aK (pOf T))=lo at *
    generalize hiOf (aK (pOf T))=hi at *
    generalize bC T 256=cuts at *
    go_wp2_with fail
    refine HCl.out.mono ?_;rintro e w6 ⟨r6,cls,rfl,hb6,hst6,hcls⟩;have hO6:=HO5.out.1.call hb6;have hle6:=Mem.dJ (w:=w6) HO5.out.1.inn;have hN:=HN0.out cls hcls;have hT6:=aZ hle6 HO5.out.2.1;have hc6:=dh hle6 HO5.out.2.2;have HN:=zh hN;have hclen:=hN.clen;obtain⟨r6a,r6c,rfl⟩:∃ra rc,r6=.slice ra cls.length rc:=by obtain⟨x,y,e,-⟩:=hst6;exact⟨x,y,e⟩
    have hO7:=(((hO6.al #[.int .i64 0] 3).LM).al #[.slice none 0 0] 27).dC 80 2;have hsz:(w6.alloc (.cells #[.int .i64 0] 3)).heap.size=w6.heap.size+1:=by simp
    rw[hsz] at hO7;have HO7:=zh hO7;have hTl4:=hN.len;have hcll:=hcls.len;obtain⟨cf,hcf⟩:∃cf:Nat→Int,cf=fun s=>cls.getD s 0:=⟨_,rfl⟩;obtain⟨dl,hdl⟩:∃dl:Nat→Nat→Option Nat,dl=dlT T lo:=⟨_,rfl⟩;obtain⟨ah,hah⟩:∃ah:Nat→Bool,ah=fun (s:Nat)=>dP T (s:Int):=⟨_,rfl⟩;have HB:Hid (mR T T.length cf dl lo hi ah cuts.length):=zh (by rw[hcf,hdl,hah];exact hN.bfs);have HI:=zh (fun k hk=>Di (cf:=cf) (ac:=ah) HB.out.iv HB.out.pos (fun s i t h1 h2 h3=>(HB.out.some s i t h1 h2 h3).1) k hk);have Hfun:=zh (zi hcf (zi hdl hah));have Hdat:=zh (zi hT6 (zi hc6 hst6));obtain⟨_,_,e4,t2,t3,t4⟩:=hT6;injection e4 with e4a e4b e4c;subst e4a;subst e4c;obtain⟨_,_,e5,u2,u3,u4⟩:=hc6;injection e5 with e5a e5b e5c;subst e5a;subst e5c;obtain⟨_,_,e6,v2,v3,v4⟩:=hst6;injection e6 with e6a e6b e6c;subst e6a;subst e6c;obtain⟨tb,to',rfl,t5⟩:=t4 (by intro h;simp[h] at hTl5);have hclsp:1≤cls.length:=zo;obtain⟨kb,ko,rfl,v5⟩:=v4 (by intro h;simp[h] at hclsp);unfold maxLen at t3 u3 v3;have hcl1:T.length≤cls.length:=zo;have hcl2:cls.length≤T.length:=zo;generalize hmk0:Mem.grow _ w5 w6=mk0 at *
    generalize hB6:w6.heap.size=B6 at *
    clear hcf hdl hah HCl HO5 HN0 hb6 hle6 hN hO7 hO6 hsz hcls hmk0 e4b e5b e6b t4 v4 hcll;go_wp2;refine au [2,4,5,6,7,8,9] (fun n vs wr=>∃(k:Nat) (vo vst:Value) (xs:List Value) (mk:Mem),
     (∀j,j<k→j<(bY cf dl lo hi ah cuts.length j).1.length)∧k≤(bY cf dl lo hi ah cuts.length k).1.length∧n=T.length - k ∧
     vs=[.pointer (some ⟨w.heap.size,0,none⟩),.slice (some ⟨tb,to',none⟩) T.length r4c,.slice r5a cuts.length r5c,.slice (some ⟨kb,ko,none⟩) cls.length r6c,vo,.pointer (some ⟨B6+1,0,none⟩),.int .i64 k] ∧
     Own w m wr mk [.row vst 80 2 k xs,.obj (B6+1) 27 #[vst],.row vo 3 1 (bY cf dl lo hi ah cuts.length k).1.length (bG (bY cf dl lo hi ah cuts.length k).1),.obj w.heap.size 27 #[.slice none 0 0]] ∧
     kw mk xs (bY cf dl lo hi ah cuts.length k).2∧mk0.le mk) ?_ ?_
    ·exact⟨_,0,.slice (some ⟨B6,0,none⟩) 1 1,.slice none 0 0,[],_,fun j hj=>zo,Nat.zero_le _,rfl,rfl,HO7.out,kw.nil _,Mem.le_refl _⟩
    clear HO7;rintro X z n vs wr hX - ⟨k,vo,vst,xs,mk,hk1,hk2,rfl,rfl,hO,hrow,hmk⟩;simp[litL,lk];have hBI:=HI.out k hk1;obtain⟨voa,voc,rfl⟩:=aO hO.third.row;by_cases hlt:k<(bY cf dl lo hi ah cuts.length k).1.length
    ·have hsN:=hBI.lt _ (List.getElem_mem hlt);have hoN:=jw hBI.dif hBI.lt;obtain⟨vob,rfl⟩:=iD hO.third.row zo;have hr1s:=kY hlt;have r1:=aN hO.third.row hr1s;have rl:=(World.ownsRow.lt hO.third.row _ rfl).2;have hgd:(bY cf dl lo hi ah cuts.length k).1.getD k 0=(bY cf dl lo hi ah cuts.length k).1[k]:=by simp[hlt]
     have hok:(bY cf dl lo hi ah cuts.length k).1[k]?=some (bY cf dl lo hi ah cuts.length k).1[k]:=by simp[hlt]
     have hE:=wF cf dl lo hi ah cuts.length k;rw[hgd] at hE;have HBI:=zh hBI;have Hob:=zh (show ∀j,j<k+1→j<(bY cf dl lo hi ah cuts.length j).1.length from fun j hj=>by
      by_cases c:j<k
      ·exact hk1 j c
      ·have:j=k:=zo;subst this;exact hlt)
     clear hBI hgd hk1 hk2;generalize (bY cf dl lo hi ah cuts.length k).1[k]=s at *
     obtain⟨a1,-⟩:=t5 s hsN;have a1w:=Mem.aj hO.inn (Mem.aA hmk a1);have a1l:=Mem.ay hO.inn (Mem.aA hmk a1);have hahs:ah s=(T[s]).accept:=by
      have h1:=congrFun Hfun.out.2.2 s;rw[h1,dG T s hsN]
     rw[← hahs] at a1w;clear hahs a1;generalize bY cf dl lo hi ah cuts.length k=r at *
     obtain⟨o,out⟩:=r;simp only at *
     have hO2:=(hO.al #[.bool (ah s),.slice none 0 0] 80).dC 104 3;have HO2:=zh hO2;have HE:=zh hE;have Hok:=zh hok;clear hO2 hO hr1s hE hok;generalize hS:wr.heap.size=S at *
     go_wp2;have HRI:=zh (show ∀i,i≤cuts.length→EC cf dl lo hi cuts.length T.length s o i (bD cf dl lo hi s o i) from
      BM HB.out.iv HBI.out.dif HBI.out.lt (fun i t hi' ht=>(HB.out.some s i t hsN hi' ht).1))
     refine au [2,4,5,6,7,8,9,10,56,57,58] (fun n vs wr2=>∃(i:Nat) (vo ve:Value),i≤cuts.length∧n=cuts.length - i ∧
      vs=[.pointer (some ⟨w.heap.size,0,none⟩),.slice (some ⟨tb,to',none⟩) T.length r4c,.slice r5a cuts.length r5c,.slice (some ⟨kb,ko,none⟩) cls.length r6c,vo,.pointer (some ⟨B6+1,0,none⟩),.int .i64 k,.pointer (some ⟨S,0,none⟩),.slice r5a cuts.length r5c,.int .i64 cuts.length,.int .i64 i] ∧
      Own w m wr2 mk [.row ve 104 3 (bD cf dl lo hi s o i).2.length (cK (bD cf dl lo hi s o i).2),.obj S 80 #[.bool (ah s),ve],.row vst 80 2 k xs,.obj (B6+1) 27 #[vst],
       .row vo 3 1 (bD cf dl lo hi s o i).1.length (bG (bD cf dl lo hi s o i).1),.obj w.heap.size 27 #[.slice none 0 0]]) ?_ ?_
     ·exact⟨_,0,.slice (some ⟨vob,0,none⟩) o.length voc,.slice none 0 0,Nat.zero_le _,rfl,rfl,HO2.out⟩
     clear HO2 r1 rl a1w a1l;rintro Y z2 n vs wr2 hY - ⟨i,vo,ve,hi1,rfl,rfl,hO⟩;simp[litL,lk];have hri:=HRI.out i hi1;have hol:=hri.pre.length_le;obtain⟨voa',voc',rfl⟩:=aO (hO.jM (v:=vo) (t:=3) (size:=1) (n:=(bD cf dl lo hi s o i).1.length) (xs:=bG (bD cf dl lo hi s o i).1) zS);obtain⟨vea,vec,rfl⟩:=aO hO.row;have hqN:=jw hri.dif hri.lt;have hqe:=zf cf dl lo hi s o i;by_cases hlt3:i<cuts.length
     ·obtain⟨cb,co,rfl,u5⟩:=u4 (by intro h;simp[h] at hlt3);have hle:=HB.out.iv.le i hlt3;have c1:=u5 i hlt3;have hcl3:=HN.out.cut.lo i hlt3;rw[hcl3] at c1;have c1w:=Mem.aj hO.inn (Mem.aA hmk c1.1);have c1l:=Mem.ay hO.inn (Mem.aA hmk c1.1);have hok2:(bD cf dl lo hi s o i).1[k]?=some s:=by
       obtain⟨x,hx⟩:=hri.pre;rw[← hx,List.getElem?_append_left hlt];exact Hok.out
      have hrow0:=hO.jM (v:=.slice voa' (bD cf dl lo hi s o i).1.length voc') (t:=3) (size:=1) (n:=(bD cf dl lo hi s o i).1.length) (xs:=bG (bD cf dl lo hi s o i).1) zS;obtain⟨vob',rfl⟩:=iD hrow0 zo;have hoc:(bG (bD cf dl lo hi s o i).1)[k]?=some (.int .i64 s):=by
       unfold bG;rw[List.getElem?_map,hok2];rfl
      have r1:=aN hrow0 hoc;have rl:=(World.ownsRow.lt hrow0 _ rfl).2;have hwu:IntKind.u8.wrap (lo i:Int)=(lo i:Int):=IntWalk.u8_in _ zo;have hst:=yh (.slice (some ⟨tb,to',none⟩) T.length r4c) T s (lo i) mk wr2 hO.inn (aZ hmk Hdat.out.1) zo zo;have hdlx:dl s i=if aV T s (lo i)<0 then none else some (aV T s (lo i)).toNat:=congrFun (congrFun Hfun.out.2.1 s) i;have hkl:k<(bD cf dl lo hi s o i).1.length:=zo;clear hcl3 hok2 hrow0 hoc c1;rcases dX HN.out.wf s (lo i) with ht | ⟨ht1,ht2⟩
      ·rw[ht] at hst;rw[if_pos zo] at hdlx;have hN:=vI (cf:=cf) (lo:=lo) (hi:=hi) (o:=o) hdlx;have HN2:=zh hN;have HST:=zh hst;have HO:=zh hO;clear hN hdlx ht hst hri hO
       go_wp2_with fail
       refine HST.out.mono ?_;rintro e w7 ⟨rfl,hb7⟩;have hO2:=HO.out.move hb7;clear HO hb7 c1w r1;go_wp2;refine hY.out _ _ _ zo rfl ⟨i+1,.slice (some ⟨vob',0,none⟩) (bD cf dl lo hi s o i).1.length voc',.slice vea (bD cf dl lo hi s o i).2.length vec,zo,rfl,rfl,?_⟩;rw[HN2.out];exact hO2
      ·obtain⟨tn,htn⟩:=Int.eq_ofNat_of_zero_le ht1;rw[htn] at hst ht2 hdlx;rw[if_neg zo,Int.toNat_natCast] at hdlx;have hN:=vH (cf:=cf) (lo:=lo) (hi:=hi) (o:=o) hdlx;have hri2:=HRI.out (i+1) zo;have HN2:=zh (zi hN (zi hri2 hri));have HST:=zh hst;have HO:=zh hO;have hhi:=HN.out.cut.hi i hlt3;unfold Aw at hhi;clear hN hdlx hst hri hri2 hO ht1 htn;generalize bD cf dl lo hi s o i=q at *
       obtain⟨o',es⟩:=q;simp only at hqN hqe hol hkl
       go_wp2_with fail
       refine HST.out.mono ?_;rintro e w7 ⟨rfl,hb7⟩;have hO2:=HO.out.move hb7;have c1w:=Mem.aj hO2.inn (Mem.aA hmk (u5 i hlt3).1);clear HO hb7 c1w r1
       go_upto_if 77 with (fail)
       refine aR [2,4,5,6,7,8,9,10,56,57,58,12,13,14] (fun vs w'=>vs=[.pointer (some ⟨w.heap.size,0,none⟩),.slice (some ⟨tb,to',none⟩) T.length r4c,.slice (some ⟨cb,co,none⟩) cuts.length r5c,.slice (some ⟨kb,ko,none⟩) cls.length r6c,.slice (some ⟨vob',0,none⟩) o'.length voc',.pointer (some ⟨B6+1,0,none⟩),.int .i64 k,.pointer (some ⟨S,0,none⟩),.slice (some ⟨cb,co,none⟩) cuts.length r5c,.int .i64 cuts.length,.int .i64 i,.int .i64 (lo i),.int .i64 tn,.int .i64 (hi i)]∧w'=w7) ?_ ?_
       ·intro V hV;by_cases hnx:i+1<cuts.length
        ·rw[dif_pos hnx] at hhi;have d1:=u5 (i+1) hnx;have hcl4:=HN.out.cut.lo (i+1) hnx;rw[hcl4] at hhi d1;have d1w:=Mem.aj hO2.inn (Mem.aA hmk d1.1);have d1l:=Mem.ay hO2.inn (Mem.aA hmk d1.1);have hsep:=HB.out.iv.sep i (i+1) zo hnx;have hle5:=HB.out.iv.le (i+1) hnx;have hdec:decide (i+1<cuts.length)=true:=decide_eq_true hnx;have Hhi:=zh hhi;clear hhi hcl4 d1;go_wp2;refine hV.out _ _ rfl ⟨?_,rfl⟩;rw[← Hhi.out];rfl
        ·rw[dif_neg hnx] at hhi;have hdec:decide (i+1<cuts.length)=false:=decide_eq_false hnx;have Hhi:=zh hhi;clear hhi;go_wp2;refine hV.out _ _ rfl ⟨?_,rfl⟩;rw[← Hhi.out];rfl
       rintro z3 vs w8 - ⟨rfl,rfl⟩;simp[litL,lk];clear hhi;have hq1:=(hO2.pull (l₁:=[_,_,_,_]));have hq2:=hq1.aY;have hcn:∀y∈o'.map Int.ofNat,0≤y∧y<cls.length:=fun y hy=>by
        obtain⟨x,hx,rfl⟩:=List.mem_map.1 hy;have:=HN2.out.2.2.lt x hx;simp only[Int.ofNat_eq_natCast];omega
       have hin:=bI (l:=o'.map Int.ofNat) (m:=mk) (by rw[List.length_map,← xw];exact hq1.row) (fun y hy=>by have:=hcn y hy;omega);have hnum:=zH _ (.slice (some ⟨kb,ko,none⟩) cls.length r6c) (o'.map Int.ofNat) cls tn _ _ hq2.inn hin (dh (Mem.le_trans hmk (Mem.cu hq1.free)) Hdat.out.2.2) zo hcn;rw[zG zo] at hnum;have hcf0:(fun s=>cls.getD s 0)=cf:=Hfun.out.1.symm;rw[hcf0] at hnum;have hap:=lS cf o' tn;have hpo:=lQ cf o' tn;have hap2:=hap.2;have hap1:=hap.1;have HNum:=zh (zi hnum (zi hO2 hap));have hrd:(bN cf o' tn).length=o'.length∨(bN cf o' tn).length=o'.length+1∧bZ cf o' tn=o'.length:=vQ;have Hpq:=zh (show bN cf o' tn=if bZ cf o' tn<o'.length then o' else o' ++ [tn] from rfl);clear hnum hin hcn hq1 hq2 hO2 hap hcf0 hap1 hrd c1w;generalize hp:bZ cf o' tn=p at *
       have Hp:=zh hp;clear hp
       go_wp2_with fail
       refine HNum.out.1.mono ?_;rintro e w9 ⟨rfl,hb9⟩;have hO2:=HNum.out.2.1.move hb9;clear hb9
       go_upto_if 91 with (fail)
       refine aR [2,4,5,6,7,8,9,10,56,57,58,12,13,14,15] (fun vs w'=>∃vo2:Value,vs=[.pointer (some ⟨w.heap.size,0,none⟩),.slice (some ⟨tb,to',none⟩) T.length r4c,.slice (some ⟨cb,co,none⟩) cuts.length r5c,.slice (some ⟨kb,ko,none⟩) cls.length r6c,vo2,.pointer (some ⟨B6+1,0,none⟩),.int .i64 k,.pointer (some ⟨S,0,none⟩),.slice (some ⟨cb,co,none⟩) cuts.length r5c,.int .i64 cuts.length,.int .i64 i,.int .i64 (lo i),.int .i64 tn,.int .i64 (hi i),.int .i64 p] ∧
        Own w m w' mk [.row (.slice vea es.length vec) 104 3 es.length (cK es),.obj S 80 #[.bool (ah s),.slice vea es.length vec],.row vst 80 2 k xs,.obj (B6+1) 27 #[vst],
         .row vo2 3 1 (bN cf o' tn).length (bG (bN cf o' tn)),.obj w.heap.size 27 #[.slice none 0 0]]) ?_ ?_
       ·intro V hV;by_cases hf:p<o'.length
        ·have hdec:((p:Int)==(o'.length:Int))=false:=beq_eq_false_iff_ne.2 zo;have hpq:=Hpq.out;rw[if_pos hf] at hpq;have Hpq2:=zh hpq;clear hpq;go_wp2;refine hV.out _ _ rfl ⟨.slice (some ⟨vob',0,none⟩) o'.length voc',rfl,?_⟩;rw[Hpq2.out];exact hO2
        ·have hdec:((p:Int)==(o'.length:Int))=true:=beq_iff_eq.2 zo;have hpq:=Hpq.out;rw[if_neg hf] at hpq;have Hpq2:=zh hpq;have hO3:=hO2.al #[.int .i64 tn] 3;have hnews:=hO3.obj.news rfl;clear hpq
         go_wp2_with (at_builtin;refine aC nU rfl (.tmp 92) (.tmp 94) rfl (.slice (some ⟨vob',0,none⟩) o'.length voc') o'.length (bG o') rfl (hO3.jM zS) ⟨w9.heap.size,0,none⟩ 1 1 [.int .i64 tn] rfl rfl hnews (by simp[Value.oneCell']) (by unfold maxLen;omega) zo ?_)
         intro va vc w7' hown7 hgrow7 hrow7;have hO4:=(hO3.pull (l₁:=[_,_,_,_,_])).app hown7 hgrow7 hrow7 zS;have hO5:=(hO4.Dr (l₁:=[_,_,_,_,_])).tail;have HO5:=zh hO5;clear hO5 hO4 hO3 hown7 hgrow7 hrow7 hnews;go_wp2;refine hV.out _ _ rfl ⟨.slice va (o'.length+1) vc,rfl,?_⟩;rw[Hpq2.out];have:=HO5.out;simpa [bG] using this
       rintro z4 vs w10 - ⟨vo2,rfl,hO3⟩;simp[litL,lk];clear hO2;obtain⟨voa2,voc2,rfl⟩:=aO (hO3.jM (v:=vo2) (t:=3) (size:=1) (n:=(bN cf o' tn).length) (xs:=bG (bN cf o' tn)) zS);have hpN:p≤2000000:=by
        have h2:=jw HN2.out.2.1.dif HN2.out.2.1.lt;rw[HN2.out.1] at h2;simp only at h2;omega
       have hedok:=q9 (N:=T.length) HN2.out.2.2 zo;simp only at hedok;have hes0:es=[]∨∃fs e,es=fs ++ [e]:=by
        rcases List.eq_nil_or_concat es with h | ⟨fs,e,h⟩
        ·exact .inl h
        ·exact .inr ⟨fs,e,by rw[h,List.concat_eq_append]⟩
       obtain⟨q,hq⟩:∃q,es.length=q:=⟨_,rfl⟩;rw[hq] at hO3 hqe;have Hq:=zh (zi hq (zi hedok hes0));have s1:=hO3.swap.obj.cell (i:=1) rfl;have s2:=hO3.swap.obj.lt;clear hq hedok hes0
       go_upto_region 26 with (fail)
       refine aR [2,4,5,6,7,8,9,10,56,57,58,12,14,15,16,123] (fun vs w'=>∃bb:Bool,vs=[.pointer (some ⟨w.heap.size,0,none⟩),.slice (some ⟨tb,to',none⟩) T.length r4c,.slice (some ⟨cb,co,none⟩) cuts.length r5c,.slice (some ⟨kb,ko,none⟩) cls.length r6c,.slice voa2 (bN cf o' tn).length voc2,.pointer (some ⟨B6+1,0,none⟩),.int .i64 k,.pointer (some ⟨S,0,none⟩),.slice (some ⟨cb,co,none⟩) cuts.length r5c,.int .i64 cuts.length,.int .i64 i,.int .i64 (lo i),.int .i64 (hi i),.int .i64 p,.int .i64 ((q:Int) - 1),.bool bb] ∧
        w'=w10∧(bb=true↔∃(fs:List Ed) (e:Ed),es=fs ++ [e]∧e.to=(p:Int)∧e.hi+1=lo i)) ?_ ?_
       ·intro V hV;rcases Hq.out.2.2 with hnil | ⟨fs,e,hfe⟩
        ·have hq0:q=0:=by rw[← Hq.out.1,hnil];rfl
         have Hn:=zh hnil;subst hq0;clear hnil;go_wp2;exact hV.out _ _ rfl ⟨false,rfl,rfl,by rw[Hn.out];simp⟩
        ·have hq1:q=fs.length+1:=by rw[← Hq.out.1,hfe];simp
         have hed:=Hq.out.2.1 e (by rw[hfe];simp);have hec:=iW es fs.length (by rw[hfe];simp);have hel:es[fs.length]'(by rw[hfe];simp)=e:=by simp[hfe]
         rw[hel] at hec;have HL:=zh (zi hfe (D7 fs e (p:Int) (lo i)));subst hq1;obtain⟨eb,rfl⟩:=iD hO3.row zo;have y1:=aN hO3.row hec.2.1;have y2:=aN hO3.row hec.2.2;have hbl:=(World.ownsRow.lt hO3.row _ rfl).2;have hlt5:fs.length<fs.length+1:=zo;clear hel hec hfe;by_cases hc1:e.to=(p:Int)
         ·by_cases hc2:e.hi+1=lo i
          ·have Hc:=zh (zi hc1 hc2);have hdec1:((e.to:Int)==(p:Int))=true:=beq_iff_eq.2 hc1;have hdec2:((e.hi:Int)+1==(lo i:Int))=true:=beq_iff_eq.2 zo;have hed1:=hed.2.1;clear hc1 hc2;go_wp2;exact hV.out _ _ rfl ⟨true,zS,rfl,by rw[HL.out.1,HL.out.2];simp[Hc.out.1,Hc.out.2]⟩
          ·have Hc:=zh (zi hc1 hc2);have hdec1:((e.to:Int)==(p:Int))=true:=beq_iff_eq.2 hc1;have hdec2:((e.hi:Int)+1==(lo i:Int))=false:=beq_eq_false_iff_ne.2 zo;have hed1:=hed.2.1;clear hc1 hc2;go_wp2;exact hV.out _ _ rfl ⟨false,zS,rfl,by rw[HL.out.1,HL.out.2];simp[Hc.out.2]⟩
         ·have Hc:=zh hc1;have hdec1:((e.to:Int)==(p:Int))=false:=beq_eq_false_iff_ne.2 hc1;clear hc1;go_wp2;exact hV.out _ _ rfl ⟨false,zS,rfl,by rw[HL.out.1,HL.out.2];simp[Hc.out]⟩
       rintro z5 vs w11 - ⟨bb,rfl,rfl,hbb⟩;simp[litL,lk];have Hbb:=zh hbb;clear hbb;have hwh:IntKind.u8.wrap (hi i:Int)=(hi i:Int):=IntWalk.u8_in _ zo;have hwl:IntKind.u8.wrap (lo i:Int)=(lo i:Int):=IntWalk.u8_in _ zo
       cases bb with
       | true=>
        obtain⟨fs,e,hfe,he1,he2⟩:=Hbb.out.1 rfl;have hq1:q=fs.length+1:=by rw[← Hq.out.1,hfe];simp
        have hpe:=vK (lo:=lo i) (hi:=hi i) (fs:=fs) (zi he1 he2);subst hfe;subst hq1;obtain⟨eb,rfl⟩:=iD hO3.row zo;have hec:=iW (fs ++ [e]) fs.length zS;have y1:=aN hO3.row hec.2.1;have y2:=bO hO3.row (fs.length*3+1);have hbl:=(World.ownsRow.lt hO3.row _ rfl).2;have hlt5:fs.length<fs.length+1:=zo;have hO6:=hO3.setRow (fs.length*3+1) (.int .u8 (hi i));rw[tY] at hO6;have Hfin:=zh (zi hO6 hpe);clear hO6 hO3 hpe he1 he2 hec;go_wp2;refine hY.out _ _ _ zo rfl ⟨i+1,.slice voa2 (bN cf o' tn).length voc2,.slice (some ⟨eb,0,none⟩) (fs.length+1) vec,zo,rfl,rfl,?_⟩;rw[HN2.out.1,Hfin.out.2];have:=Hfin.out.1
        simpa using this
       | false=>
        have hpe:gQ es (lo i) (hi i) p=es ++ [⟨lo i,hi i,(p:Int)⟩]:=by
         rcases Hq.out.2.2 with rfl | ⟨fs,e,rfl⟩
         ·rfl
         ·exact vL fun h=>by have:=Hbb.out.2 ⟨fs,e,rfl,h.1,h.2⟩;cases this
        have hO5:=hO3.al #[.int .u8 (lo i),.int .u8 (hi i),.int .i64 p] 104;have hnews:=hO5.obj.news rfl;have Hpe:=zh hpe;clear hpe hO3
        go_wp2_with (at_builtin;refine aC wT rfl (.tmp 132) (.tmp 139) rfl (.slice vea q vec) q (cK es) rfl hO5.swap.row ⟨w11.heap.size,0,none⟩ 1 1 [.int .u8 (lo i),.int .u8 (hi i),.int .i64 p] rfl rfl hnews (by simp[Value.oneCell']) (by unfold maxLen;omega) zo ?_)
        intro xa xc w12 hown7 hgrow7 hrow7;have hO6:=(hO5.swap.app hown7 hgrow7 hrow7 zS).drop2.swap;have s1:=hO6.obj.cell (i:=1) rfl;have s2:=hO6.obj.lt;have s3:=hO6.obj.frozen 1;have hO7:=(hO6.set 1 (.slice xa (q+1) xc)).swap;have Hfin:=zh hO7;clear hO7 hO6 hO5 hown7 hgrow7 hrow7 hnews;go_wp2;refine hY.out _ _ _ zo rfl ⟨i+1,.slice voa2 (bN cf o' tn).length voc2,.slice xa (q+1) xc,zo,rfl,rfl,?_⟩;rw[HN2.out.1,Hpe.out];have:=Hfin.out;simpa [eY,Hq.out.1] using this
     ·obtain rfl:i=cuts.length:=zo;have s0:=hO.swap.obj.cell (i:=0) rfl;have s1:=hO.swap.obj.cell (i:=1) rfl;have sl:=hO.swap.obj.lt;have u0:=(hO.uz (g:=B6+1) (t:=27) (arr:=#[vst]) zS).cell (i:=0) rfl;have u1:=(hO.uz (g:=B6+1) (t:=27) (arr:=#[vst]) zS).lt;have hes:=ik (l:=(bD cf dl lo hi s o cuts.length).2) (m:=mk) hO.row (q9 (N:=T.length) hri zo);have hO2:=hO.aY;have hmk2:=Mem.cu (w:=wr2) hO.free;have hrow2:=(hrow.mono hmk2).push (s:=⟨ah s,(bD cf dl lo hi s o cuts.length).2⟩) hes;obtain⟨vsta,vstc,rfl⟩:=aO hO2.swap.row;have hO3:=hO2.al #[.bool (ah s),.slice vea (bD cf dl lo hi s o cuts.length).2.length vec] 80;have Hk:=zh (zi hrow2 (Mem.le_trans hmk hmk2));clear hrow2 hes hmk2;generalize mk.addv wr2 (.slice vea (bD cf dl lo hi s o cuts.length).2.length vec)=mk2 at *
      have hnews:=hO3.obj.news rfl;have hvr:=hO3.third.row;clear hO hO2
      go_wp2_with (at_builtin;refine aC lM rfl (.tmp 144) (.tmp 146) rfl (.slice vsta k vstc) k xs rfl hvr ⟨wr2.heap.size,0,none⟩ 1 1 [.bool (ah s),.slice vea (bD cf dl lo hi s o cuts.length).2.length vec] rfl rfl hnews (by simp[Value.oneCell']) (by unfold maxLen;omega) zo ?_)
      intro va vc w7 hown7 hgrow7 hrow7;have hO4:=(hO3.third.app hown7 hgrow7 hrow7 zS).fourth;clear hown7 hgrow7 hrow7 hO3 hvr hnews;have u2:=hO4.obj.cell (i:=0) rfl;have u3:=hO4.obj.frozen 0;have u4:=hO4.obj.lt;have hO5:=((hO4.set 0 (.slice va (k+1) vc)).swap).jJ.jJ;have HO5:=zh hO5;clear hO5 hO4;go_wp2;have hpre:=hri.pre.length_le;refine hX.out _ _ _ zo rfl ⟨k+1,.slice voa' (bD cf dl lo hi s o cuts.length).1.length voc',.slice va (k+1) vc,xs ++ [.bool (ah s),.slice vea (bD cf dl lo hi s o cuts.length).2.length vec],mk2,?_,?_,rfl,rfl,?_,?_,Hk.out.2⟩
      ·exact Hob.out
      ·rw[HE.out];show k+1≤(bD cf dl lo hi s o cuts.length).1.length;omega
      ·rw[HE.out];exact HO5.out
      ·rw[HE.out];exact Hk.out.1
    ·have hkl2:(bY cf dl lo hi ah cuts.length k).1.length=k:=zo;have hcan:=Ba HB.out hk1 hkl2;have hNl:=jw hBI.dif hBI.lt;rw[hkl2] at hNl;have hclen2:=hBI.len;generalize bY cf dl lo hi ah cuts.length k=r at *
     obtain⟨vsta,vstc,rfl⟩:=aO hO.row;have u1:=hO.swap.obj.cell (i:=0) rfl;have hO2:=(hO.pull (l₁:=[_,_,_]));have u2:=hO2.obj.cell (i:=0) rfl;have u3:=hO2.obj.frozen 0;have u4:=hO2.obj.lt;have hO3:=(hO2.set 0 (.slice vsta k vstc)).swap;have hst:=fA (l:=r.2) (m:=mk) (by rw[hclen2];exact hO3.row) hrow hO3.free;have hst2:=aZ hO3.aY.done hst;have hbel:=hO3.below;have g4:=hO3.swap.obj.cell (i:=0) rfl;have Hk:=zh (zi hcan (zi hst2 (zi hbel (zi hNl hclen2))));clear hcan hst hst2 hbel hNl hclen2 hO3 hO2 hO hBI hrow hkl2;go_wp2;refine bodyPost_ret (v:=.tuple #[.agg #[.slice vsta k vstc],.int .i64 0]) (by simp[results,Tryz.results97,go_sem,g4]) rfl ?_;refine hR.out _ _ ⟨_,r.2,by rw[aH hwf];rfl,Hk.out.2.2.1,Hk.out.2.1,?_,fun _=>⟨Hk.out.1.1,fun x=>?_⟩,fun h=>absurd hwf h⟩
     ·have h1:=Hk.out.2.2.2.1;have h2:=Hk.out.2.2.2.2;omega
     ·rw[Hk.out.1.2,HL.out,HR0.out.out.1]
 ·rw[az hwf];have hO2:=hO1.set 0 (.slice none 0 0);have g4:=hO2.obj.cell (i:=0) rfl;have Hk:=zh (zi hO2 hwf);clear hO1 hO2 hwf;go_wp2;refine bodyPost_ret (v:=.tuple #[.agg #[.slice none 0 0],.int .i64 11]) (by simp[results,Tryz.results97,go_sem,g1]) rfl ?_;exact hR.out _ _ ⟨_,[],by rw[az Hk.out.2];rfl,Hk.out.1.below,fB _,zS,fun h=>absurd h Hk.out.2,fun _=>rfl⟩
theorem qA (v0:Value) (l:Table) (m:Mem) (w:World) (hm:m.inn w) (hl:aQ m v0 l) (hlen:l.length≤1000000) :
 Calls Tryz.prog 64 #[.agg #[v0]] w fun e w'=>e=.returned (.bool (tf (Canon l)))∧Below w.heap.size w w':=by
 have hl0:=hl;obtain⟨a,c,rfl,h1,h2,h3⟩:=hl;refine av fun R hR=>?_;have hO:=(Own.start hm).al #[.slice a l.length c] 27;have HM:=zh (uN (.slice a l.length c) l m _ hO.inn hl0 hlen);have HO:=zh hO;clear hO
 go_enter Tryz.func64,Tryz.ntmps64
 go_wp2_with fail
 refine HM.out.mono ?_;rintro e w1 ⟨r,C,rfl,hb1,hst,hClen,hmin,hnot⟩;have hO1:=HO.out.call hb1;have hle:=hO1.ext.le;obtain⟨ra,rc,rfl⟩:∃ra rc,r=.slice ra C.length rc:=by obtain⟨x,y,e,-⟩:=hst;exact⟨x,y,e⟩
 have hO2:=hO1.al #[.slice ra C.length rc] 27;have g1:=hO2.swap.obj.cell (i:=0) rfl;have g2:=hO2.swap.obj.lt;have HS:=zh (BZ (.slice a l.length c) (.slice ra C.length rc) l C _ _ hO2.inn (aZ hle hl0) hst);have HO2:=zh hO2;clear hO1 hO2 HM HO;by_cases hwf:WF l
 ·rw[aH hwf];have hci:=oM hmin hwf;have Hk:=zh (zi hci (zi hmin hnot));clear hmin hnot hci
  go_wp2_with fail
  refine HS.out.mono ?_;rintro e w3 ⟨rfl,hb3⟩;have hb4:=(HO2.out.move hb3).below;go_wp2;exact hR.out _ _ ⟨aJ (by rw[bg Hk.out.1]),hb4⟩
 ·rw[az hwf];have Hk:=zh (zi hwf (zi hmin hnot));clear hmin hnot hwf;go_wp2;exact hR.out _ _ ⟨aJ (by rw[az (fun h=>Hk.out.1 h.wf)]),HO2.out.below⟩
def fZ (l:Table):Prop:=(∀s∈l,s.edges.length≤10)∧l.length≤8
theorem Bh (v0:Value) (l:Table) (m:Mem) (w:World) (hm:m.inn w) (hl:aQ m v0 l) :
 Calls Tryz.prog 69 #[.agg #[v0]] w fun e w'=>e=.returned (.bool (tf (fZ l)))∧Below w.heap.size w w':=by
 obtain⟨a,c,rfl,h1,h2,h3⟩:=hl;unfold maxLen at h2;refine av fun R hR=>?_
 go_enter Tryz.func69,Tryz.ntmps69
 go_wp2;refine au [1,6,7,8] (fun n vs wr=>∃k:Nat,k≤l.length∧n=l.length - k∧vs=[.pointer (some ⟨w.heap.size,0,none⟩),.slice a l.length c,.int .i64 l.length,.int .i64 k] ∧
  Own w m wr m [.obj w.heap.size 27 #[.slice a l.length c]]∧∀j,(h:j<k)→(h':j<l.length)→(l[j]).edges.length≤10) ?_ ?_
 ·exact⟨_,0,Nat.zero_le _,rfl,rfl,(Own.start hm).al _ _,fun j h=>zo⟩
 rintro X z n vs wr hX - ⟨k,hk,rfl,rfl,hO,hall⟩;simp[litL,lk];have HA:=zh hall;clear hall;by_cases hlt:k<l.length
 ·obtain⟨b,off,rfl,h4⟩:=h3 (by intro h;simp[h] at hlt);obtain⟨g1,ve,g2,ea,ec,rfl,g4,g5,g6⟩:=h4 k hlt;have c1:=Mem.aj hO.inn g1;have c2:=Mem.aj hO.inn g2;have c3:=Mem.ay hO.inn g1;unfold maxLen at g5;have HO:=zh (hO.al' (.cells #[.bool l[k].accept,.slice ea l[k].edges.length ec] 80));clear hO h3 h4;by_cases hbig:10<l[k].edges.length
  ·have hdec:decide ((10:Int)<(l[k].edges.length:Int))=true:=decide_eq_true zo;have Hb:=zh hbig;clear hbig;go_wp2;refine hR.out _ _ ⟨aJ ?_,HO.out.below⟩;rw[az];intro hs;have:=hs.1 l[k] (List.getElem_mem hlt);have:=Hb.out;omega
  ·have hdec:decide ((10:Int)<(l[k].edges.length:Int))=false:=decide_eq_false zo;go_wp2;refine hX.out _ _ _ zo rfl ⟨k+1,zo,rfl,rfl,HO.out,fun j hj hj'=>?_⟩;by_cases e:j=k
   ·subst e;omega
   ·exact HA.out j zo hj'
 ·obtain rfl:k=l.length:=zo;have g1:=hO.obj.cell (i:=0) rfl;have g2:=hO.obj.lt;have HO:=zh hO;clear hO;go_wp2;refine hR.out _ _ ⟨aJ ?_,HO.out.below⟩;by_cases h8:l.length≤8
  ·rw[decide_eq_true zo,aH];exact⟨fun s hs=>by obtain⟨i,hi,rfl⟩:=List.mem_iff_getElem.1 hs;exact HA.out i hi hi,h8⟩
  ·rw[decide_eq_false zo,az];exact fun h=>h8 h.2
end Cl
