/- Lemmas for the proofs of chapter 11. -/
import Derived.Test.YtajbfioncdnkcaaGreatDoorProg
import Derived.BigQuiet
import Derived.Deep.Cut
import Derived.Deep.QuietTactic
import Derived.Laws.StructEq
import Derived.Lib.AppendStr
import Derived.Lib.Builder
import Derived.Lib.Hide
import Derived.Lib.ItoaLen
import Derived.Maps.OwnOps
import Derived.Maps.OwnSet
import Derived.OrdersHeld
import Derived.Outline
import Derived.StillTailTactics
import Derived.StringKeys
import Derived.WalkKit
import Derived.WalkLawsBesides
import Derived.WalkSpells
import Derived.Deep.RegionHeld
import Derived.Shelf.Strings.Builder1
import Derived.Shelf.Small.Wraps
import Derived.Shelf.LaysM
import Derived.Shelf.Strconv.Itoa3
import Derived.Test.YtajbfioncdnkcaaGreatDoorZz
import Derived.Test.YtajbfioncdnkcaaGreatDoorPkM3
import Derived.Test.YtajbfioncdnkcaaGreatDoorPkM32
import Derived.Test.YtajbfioncdnkcaaGreatDoorPkM1
import Derived.Test.YtajbfioncdnkcaaGreatDoorPkM34
import Derived.Test.YtajbfioncdnkcaaGreatDoorPkM2
import Derived.Test.YtajbfioncdnkcaaGreatDoorPkM6
import Derived.Test.YtajbfioncdnkcaaGreatDoorPkM33
import Derived.Test.YtajbfioncdnkcaaGreatDoorPkM4
import Derived.Test.YtajbfioncdnkcaaGreatDoorPkM7
import Derived.Test.YtajbfioncdnkcaaGreatDoorPkM9
import Derived.Test.YtajbfioncdnkcaaGreatDoorPkM8
import Derived.Test.YtajbfioncdnkcaaGreatDoorPkM20
set_option maxRecDepth 100000
set_option maxHeartbeats 16000000
namespace Cl
open Go Go.RowKit Go.Proofs
theorem xZ {m:Mem} {v:Value} {l:Table} (h:aI m v l):Bytes l:=by
 obtain⟨a,c,-,-,-,h4⟩:=h;intro s hs;obtain⟨b,off,-,h5⟩:=h4 (List.ne_nil_of_mem hs);obtain⟨i,hi,rfl⟩:=List.mem_iff_getElem.1 hs;obtain⟨-,ve,-,h6⟩:=h5 i hi;obtain⟨a',c',-,-,-,h7⟩:=h6;intro e he;obtain⟨b',off',-,h8⟩:=h7 (List.ne_nil_of_mem he);obtain⟨j,hj,rfl⟩:=List.mem_iff_getElem.1 he;exact⟨(h8 j hj).2.2.2.1,(h8 j hj).2.2.2.2.1⟩
theorem F9 (v0:Value) (l:Table) (m:Mem) (w:World) (hm:m.inn w) (hl:aI m v0 l) (hwf:WF l) (hlen:l.length≤1000000) :
 Calls Tryz.prog 179 #[v0] w fun e w'=>∃r out,e=.returned r∧Below w.heap.size w w'∧jh (m.grow w w') r out∧out.length=l.length∧∀s:Nat,s<l.length→(bt out s=true↔Lv l s):=by
 have hby:=xZ hl;obtain⟨a,c,rfl,h1,h2,h3⟩:=hl;unfold maxLen at h2;refine aj fun R hR=>?_
 go_enter Tryz.func179,Tryz.ntmps179
 go_wp2_with (refine wpList_make_row CY rfl (.tmp 9) (.tmp 9) rfl l.length rfl rfl zo (by unfold maxLen;omega) ?_)
 intro w5 hown hgrow;have hO:=(Own.start hm).make hown hgrow;clear hown hgrow;have hrep:List.replicate l.length (Value.bool false)=(List.replicate l.length false).map Value.bool:=by simp
 rw[hrep] at hO;clear hrep;have hR0:=Qt l;generalize hB:w.heap.size=B at *
 generalize List.replicate l.length false=out0 at *
 go_wp2;refine ay [0,3,12,13] (fun n vs wr=>∃(r:Nat) (out:List Bool),r≤l.length∧n=l.length - r∧vs=[.slice a l.length c,.slice (some ⟨B,0,none⟩) l.length l.length,.int .i64 l.length,.int .i64 r] ∧
  Own w m wr m [.row (.slice (some ⟨B,0,none⟩) l.length l.length) 4 1 l.length (out.map Value.bool)]∧vG l out r) ?_ ?_
 ·exact⟨_,0,out0,Nat.zero_le _,rfl,rfl,hO,hR0⟩
 clear hO hR0;rintro X z n vs wr hX - ⟨r,out,hr,rfl,rfl,hO,hAR⟩;simp[litL,lk];by_cases hlt:r<l.length
 ·have hst:=O4 hAR.len hAR.sound;have HAR:=zh hAR;clear hAR;go_wp2;refine ay [0,3,12,13,15,16,17] (fun n vs wr=>∃(i:Nat) (o:List Bool),i≤l.length∧n=l.length - i∧vs=[.slice a l.length c,.slice (some ⟨B,0,none⟩) l.length l.length,.int .i64 l.length,.int .i64 r,.slice a l.length c,.int .i64 l.length,.int .i64 i] ∧
   Own w m wr m [.row (.slice (some ⟨B,0,none⟩) l.length l.length) 4 1 l.length (o.map Value.bool)]∧xE l out o i (fun _=>False)) ?_ ?_
  ·exact⟨_,0,out,Nat.zero_le _,rfl,rfl,hO,hst⟩
  clear hO hst;rintro Y z2 n vs wr2 hY - ⟨i,o,hi,rfl,rfl,hO,hI⟩;simp[litL,lk];by_cases hlt2:i<l.length
  ·obtain⟨b,off,rfl,h4⟩:=h3 (by intro h;simp[h] at hlt2);obtain⟨g1,ve,g2,ea,ec,rfl,g4,g5,g6⟩:=h4 i hlt2;have hgl:=Mem.ak hO.inn g1;have g1w:=Mem.av hO.inn g1;have g2w:=Mem.av hO.inn g2;have hol:=hI.len;have hil:i<o.length:=zo;have d3:=aX (j:=i) (u:=.bool o[i]) hO.row (by simp[hil]);rw[← pQ hil] at d3;have d4:=dP hO.row i;have hrl:=(World.ownsRow.lt hO.row _ rfl).2;have hwfl:=hwf l[i] (List.getElem_mem hlt2);have hbyl:=hby l[i] (List.getElem_mem hlt2);have hgl2:l[i]?=some l[i]:=by simp[hlt2]
   have hacc:=gG l i hlt2;generalize l[i]=st at *
   have hs1:=JD (C':=fun o'=>bG l i=true∨∃e∈st.edges.take 0,bt o' e.to.toNat=true) hI hlt2 st.accept (fun h=>.inl (hacc.trans h)) (fun h=>⟨[],by simp only[aJ];exact hacc.trans h⟩) (fun h=>by
    rcases h with h | ⟨e,he,-⟩
    ·exact .inr (hacc.symm.trans h)
    ·simp at he)
   have hO1:=(hO.setRow i (.bool (bt o i || st.accept))).al #[.bool st.accept,.slice ea st.edges.length ec] 66;have hset:(o.map Value.bool).set i (.bool (bt o i || st.accept))=(o.set i (bt o i || st.accept)).map Value.bool:=by rw[List.map_set]
   rw[hset,World.size_setCell] at hO1;have Hk:=zh (zi hs1 (zi hO1 (zi hwfl (zi hbyl (zi hgl2 hacc)))));clear hs1 hO1 hset hwfl hbyl hgl2 hacc hI hO;generalize hbo:bt o i=bo at *
   unfold maxLen at g5;have Hbo:=zh hbo;clear hbo;generalize hS:wr2.heap.size=S at *
   cases bo
   all_goals
    go_wp2;refine ay [0,3,4,5,12,13,15,16,17,34,35,36] (fun n vs wr=>∃(j:Nat) (o':List Bool),j≤st.edges.length∧n=st.edges.length - j ∧
     vs=[.slice (some ⟨b,off,none⟩) l.length c,.slice (some ⟨B,0,none⟩) l.length l.length,.int .i64 i,.pointer (some ⟨S,0,none⟩),.int .i64 l.length,.int .i64 r,.slice (some ⟨b,off,none⟩) l.length c,.int .i64 l.length,.int .i64 i,.slice ea st.edges.length ec,.int .i64 st.edges.length,.int .i64 j] ∧
     Own w m wr m [.row (.slice (some ⟨B,0,none⟩) l.length l.length) 4 1 l.length (o'.map Value.bool)]∧xE l out o' i (fun o''=>bG l i=true∨∃e∈st.edges.take j,bt o'' e.to.toNat=true)) ?_ ?_
    ·exact⟨_,0,_,Nat.zero_le _,rfl,rfl,Hk.out.2.1.tail,Hk.out.1⟩
    clear g1w g2w hgl d3 d4 hrl;rintro Z z3 n vs wr3 hZ - ⟨j,o',hj,rfl,rfl,hO,hI⟩;simp[litL,lk];by_cases hlt3:j<st.edges.length
    ·obtain⟨b',off',rfl,h10⟩:=g6 (by intro h;simp[h] at hlt3);obtain⟨e1,e2,e3,e4,e5,-⟩:=h10 j hlt3;have e1w:=Mem.av hO.inn e1;have e2w:=Mem.av hO.inn e2;have e3w:=Mem.av hO.inn e3;have ebl:=Mem.ak hO.inn e1;have hte:=fV Hk.out.2.2.1 st.edges[j] (List.getElem_mem hlt3);obtain⟨en,hen⟩:=Int.eq_ofNat_of_zero_le hte.2.1;have hol2:=hI.len;have hst2:=JD (C':=fun o''=>bG l i=true∨∃e∈st.edges.take (j+1),bt o'' e.to.toNat=true) hI hlt2 (bt o' en) (fun h=>.inr ⟨st,Hk.out.2.2.2.2.1,st.edges[j],List.getElem_mem hlt3,by rw[hen];exact h⟩)
      (fun h=>Rq hwf hby Hk.out.2.2.2.2.1 (List.getElem_mem hlt3) (by rw[hen];exact hI.sound en h)) (fun h=>by
       rcases h with h | ⟨e,he,h⟩
       ·exact .inl (.inl h)
       ·rw[List.take_succ_eq_append_getElem hlt3] at he;rcases List.mem_append.1 he with h1 | h1
        ·exact .inl (.inr ⟨e,h1,h⟩)
        ·simp only[List.mem_singleton] at h1;subst h1;rw[hen] at h;exact .inr h)
     have hil2:i<o'.length:=zo;have hte2:=hte.2.2;rw[hen] at e3w hte2;have henl:en<o'.length:=zo;have d5:=aX (j:=i) (u:=.bool o'[i]) hO.row (by simp[hil2]);have d6:=aX (j:=en) (u:=.bool o'[en]) hO.row (by simp[henl]);rw[← pQ hil2] at d5;rw[← pQ henl] at d6;have d7:=dP hO.row i;have drl:=(World.ownsRow.lt hO.row _ rfl).2;have hO1:=(hO.setRow i (.bool (bt o' i || bt o' en)));have hset:(o'.map Value.bool).set i (.bool (bt o' i || bt o' en))=(o'.set i (bt o' i || bt o' en)).map Value.bool:=by rw[List.map_set]
     rw[hset] at hO1;have Hk2:=zh (zi hst2 hO1);clear hst2 hO1 hset hI hO hen;generalize bt o' en=be at *
     generalize hbo2:bt o' i=bo2 at *
     have Hbo2:=zh hbo2;clear hbo2;cases bo2
     all_goals
      go_wp2;exact hZ.out _ _ _ zo rfl ⟨j+1,_,zo,rfl,rfl,Hk2.out.2.al' _,Hk2.out.1⟩
    ·obtain rfl:j=st.edges.length:=zo;have hnx:=Qu hI hlt2 (fun h=>by
      rw[List.take_length];rcases h with h | ⟨st',h1,h2⟩
      ·exact .inl h
      ·rw[Hk.out.2.2.2.2.1] at h1;cases h1;exact .inr h2)
     have Hk2:=zh hnx;clear hnx hI;go_wp2;exact hY.out _ _ _ zo rfl ⟨i+1,o',zo,rfl,rfl,hO,Hk2.out⟩
  ·obtain rfl:i=l.length:=zo;have h1:=zh (O5 HAR.out hI);go_wp2;exact hX.out _ _ _ zo rfl ⟨r+1,o,zo,rfl,rfl,hO,h1.out⟩
 ·obtain rfl:r=l.length:=zo;have h1:=R3 hwf hAR;have hb:=jS (l:=out) (m:=m) (w:=wr) (v:=.slice (some ⟨B,0,none⟩) l.length l.length) (by rw[hAR.len];exact hO.row);have Hk:=zh (zi h1 (zi (j5 hO.bD.done hb) (zi hO.below hAR.len)));clear h1 hb hO hAR;go_wp2;exact hR.out _ _ ⟨_,out,rfl,hB ▸ Hk.out.2.2.1,Hk.out.2.1,Hk.out.2.2.2,Hk.out.1⟩
theorem Ig {es:List Ed} {lv:Nat→Bool} {j:Nat} (h:j<es.length):(es.take (j+1)).filter (fun e=>lv e.to.toNat)=(es.take j).filter (fun e=>lv e.to.toNat) ++ if lv (es[j]).to.toNat=true then [es[j]] else []:=by
 rw[List.take_succ_eq_append_getElem h,List.filter_append];simp[List.filter_cons]
theorem Gj (v0:Value) (l:Table) (m:Mem) (w:World) (hm:m.inn w) (hl:aI m v0 l) (hwf:WF l) (hlen:l.length≤1000000) (hel:∀s∈l,s.edges.length≤1000000) :
 Calls Tryz.prog 180 #[v0] w fun e w'=>∃r lv,e=.returned r∧Below w.heap.size w w'∧aI (m.grow w w') r (gq l lv)∧∀s:Nat,s<l.length→(lv s=true↔Lv l s):=by
 have hA:=F9 v0 l m w hm hl hwf hlen;have hby:=xZ hl;have hl0:=hl;obtain⟨a,c,rfl,h1,h2,h3⟩:=hl;unfold maxLen at h2;have HA:=zh hA;clear hA;refine aj fun R hR=>?_
 go_enter Tryz.func180,Tryz.ntmps180
 go_wp2_with fail
 refine HA.out.mono ?_;rintro e w1 ⟨r,out,rfl,hb1,hr1,hol,hiff⟩;have hO1:=((Own.start hm).call hb1).eH 66 2;obtain⟨la,lc,rfl,l1,l2,l3⟩:=hr1;have HF:=zh hiff;have hol1:l.length≤out.length:=zo;clear hol;have HO1:=zh hO1;clear hiff hO1 HA hb1;go_wp2;refine ay [0,3,4,12,13,14] (fun n vs wr=>∃(k:Nat) (vst:Value) (xs:List Value) (mk:Mem),k≤l.length∧n=l.length - k∧vs=[.slice a l.length c,.slice la out.length lc,vst,.slice a l.length c,.int .i64 l.length,.int .i64 k] ∧
  Own w m wr mk [.row vst 66 2 k xs]∧jX mk xs (gq (l.take k) (bt out))∧(m.grow w w1).le mk) ?_ ?_
 ·exact⟨_,0,.slice none 0 0,[],_,Nat.zero_le _,rfl,rfl,HO1.out,jX.nil _,Mem.le_refl _⟩
 clear HO1;rintro X z n vs wr hX - ⟨k,vst,xs,mk,hk,rfl,rfl,hO,hrow,hmk⟩;simp[litL,lk];obtain⟨vsta,vstc,rfl⟩:=aO hO.row;by_cases hlt:k<l.length
 ·obtain⟨b,off,rfl,h4⟩:=h3 (by intro h;simp[h] at hlt);obtain⟨g1,ve,g2,ea,ec,rfl,g4,g5,g6⟩:=h4 k hlt;obtain⟨lb,lo',rfl,l4⟩:=l3 (by intro h;simp[h] at hol1;simp[hol1] at hlt);have hmr:=Mem.dK hO.ext.le hO.inn;have g1w:=Mem.av hmr g1;have g2w:=Mem.av hmr g2;have hgl:=Mem.ak hmr g1;have hwfl:=hwf l[k] (List.getElem_mem hlt);have hell:=hel l[k] (List.getElem_mem hlt);have hbyl:=hby l[k] (List.getElem_mem hlt);have htk:gq (l.take (k+1)) (bt out)=gq (l.take k) (bt out) ++ [⟨(l[k]).accept,(l[k]).edges.filter fun e=>bt out e.to.toNat⟩]:=by
   unfold gq;rw[List.take_succ_eq_append_getElem hlt,List.map_append];rfl
  generalize l[k]=st at *
  unfold maxLen at g5;have hO2:=((hO.al #[.bool st.accept,.slice ea st.edges.length ec] 66).tail.al #[.bool st.accept,.slice none 0 0] 66).eH 106 3;have hsz:(wr.alloc (.cells #[.bool st.accept,.slice ea st.edges.length ec] 66)).heap.size=wr.heap.size+1:=by simp
  rw[hsz] at hO2;have Hk:=zh (zi hO2 (zi htk (zi hwfl hbyl)));clear hO2 htk hwfl hbyl hsz hO;generalize hS:wr.heap.size=S at *
  go_wp2;refine ay [0,3,4,7,12,13,14,22,23,24] (fun n vs w2=>∃(j:Nat) (vx:Value),j≤st.edges.length∧n=st.edges.length - j ∧
   vs=[.slice (some ⟨b,off,none⟩) l.length c,.slice (some ⟨lb,lo',none⟩) out.length lc,.slice vsta k vstc,.pointer (some ⟨S+1,0,none⟩),.slice (some ⟨b,off,none⟩) l.length c,.int .i64 l.length,.int .i64 k,.slice ea st.edges.length ec,.int .i64 st.edges.length,.int .i64 j] ∧
   Own w m w2 mk [.row vx 106 3 ((st.edges.take j).filter fun e=>bt out e.to.toNat).length (dh ((st.edges.take j).filter fun e=>bt out e.to.toNat)),.obj (S+1) 66 #[.bool st.accept,vx],.row (.slice vsta k vstc) 66 2 k xs]) ?_ ?_
  ·exact⟨_,0,.slice none 0 0,Nat.zero_le _,rfl,rfl,Hk.out.1⟩
  clear g1w g2w hgl hmr;rintro Y z2 n vs w2 hY - ⟨j,vx,hj,rfl,rfl,hO⟩;simp[litL,lk];obtain⟨vxa,vxc,rfl⟩:=aO hO.row;by_cases hlt2:j<st.edges.length
  ·obtain⟨b',off',rfl,h10⟩:=g6 (by intro h;simp[h] at hlt2);obtain⟨e1,e2,e3,e4,e5,e6⟩:=h10 j hlt2;have hmr:=Mem.dK hO.ext.le hO.inn;have e1w:=Mem.av hmr e1;have e2w:=Mem.av hmr e2;have e3w:=Mem.av hmr e3;have ebl:=Mem.ak hmr e1;have hte:=fV Hk.out.2.2.1 st.edges[j] (List.getElem_mem hlt2);have hft:=Ig (lv:=bt out) hlt2;obtain⟨en,hen⟩:=Int.eq_ofNat_of_zero_le hte.2.1;have hte2:=hte.2.2;rw[hen] at e3w hte2 hft;have henl:en<out.length:=zo;have x1:=Mem.av hO.inn (Mem.aF hmk (l4 en henl));have xl:=Mem.ak hO.inn (Mem.aF hmk (l4 en henl));rw[← pQ henl] at x1;have hec:dh [st.edges[j]]=[.int .u8 (st.edges[j]).lo,.int .u8 (st.edges[j]).hi,.int .i64 en]:=by simp[dh,hen]
   have hfl:=List.length_filter_le (fun e=>bt out e.to.toNat) (st.edges.take j);have htl:(st.edges.take j).length≤j:=List.length_take_le _ _;generalize st.edges[j]=e at *
   generalize (st.edges.take j).filter (fun e=>bt out e.to.toNat)=es1 at *
   have s1:=hO.swap.obj.cell (i:=1) rfl;have s2:=hO.swap.obj.lt;have Hft:=zh (zi hft hec);clear hft hec hte hen
   cases hbf:bt out en with
   | false=>
    rw[hbf] at x1;have Hbf:=zh hbf;clear hbf;go_wp2;refine hY.out _ _ _ zo rfl ⟨j+1,.slice vxa es1.length vxc,zo,rfl,rfl,?_⟩;have e1:=Hft.out.1;simp only[Int.toNat_natCast,Hbf.out,Bool.false_eq_true,if_false,List.append_nil] at e1;rw[e1]
    exact hO.al' _
   | true=>
    rw[hbf] at x1;have Hbf:=zh hbf;clear hbf;have hO2:=(hO.al #[.int .u8 e.lo,.int .u8 e.hi,.int .i64 en] 106).tail;have hO3:=hO2.al #[.int .u8 e.lo,.int .u8 e.hi,.int .i64 en] 106;have hsz:(w2.alloc (.cells #[.int .u8 e.lo,.int .u8 e.hi,.int .i64 en] 106)).heap.size=w2.heap.size+1:=by simp
    rw[hsz] at hO3;have hnews:=hO3.obj.news rfl;clear hO2 hO
    go_wp2_with (at_builtin;refine aC mO rfl (.tmp 34) (.tmp 36) rfl (.slice vxa es1.length vxc) es1.length (dh es1) rfl hO3.swap.row ⟨w2.heap.size+1,0,none⟩ 1 1 [.int .u8 e.lo,.int .u8 e.hi,.int .i64 en] rfl rfl hnews (by simp[Value.oneCell']) (by unfold maxLen;omega) zo ?_)
    intro va vc w7 hown7 hgrow7 hrow7;have hO4:=(hO3.swap.app hown7 hgrow7 hrow7 zS).third;clear hown7 hgrow7 hrow7 hO3 hnews;have u2:=hO4.obj.cell (i:=1) rfl;have u3:=hO4.obj.frozen 1;have u4:=hO4.obj.lt;have hO5:=((hO4.set 1 (.slice va (es1.length+1) vc)).swap).nG;have HO5:=zh hO5;clear hO5 hO4;go_wp2;refine hY.out _ _ _ zo rfl ⟨j+1,.slice va (es1.length+1) vc,zo,rfl,rfl,?_⟩;have e1:=Hft.out.1;simp only[Int.toNat_natCast,Hbf.out,if_true] at e1;rw[e1,fq];have e2:=Hft.out.2;simp only[dh,List.flatMap_cons,List.flatMap_nil,List.append_nil] at e2;rw[e2];have:=HO5.out;simpa using this
  ·obtain rfl:j=st.edges.length:=zo;rw[List.take_length] at hO;have hfl:=List.length_filter_le (fun e=>bt out e.to.toNat) st.edges;have hok:∀e∈st.edges.filter (fun e=>bt out e.to.toNat),edOk e:=fun e he=>by
    have he':=(List.mem_filter.1 he).1;have q1:=Hk.out.2.2.2 e he';have q2:=fV Hk.out.2.2.1 e he';exact⟨q1.1,q1.2,zo,zo⟩
   have hes:=fU (m:=mk) hO.row hok;have hmk2:=Mem.eD (w:=w2) hO.free;have hrow2:=(hrow.mono hmk2).push (s:=⟨st.accept,st.edges.filter fun e=>bt out e.to.toNat⟩) hes;rw[← Hk.out.2.1] at hrow2;have hO2:=hO.bD;have x0:=hO2.obj.cell (i:=0) rfl;have x1:=hO2.obj.cell (i:=1) rfl;have xl:=hO2.obj.lt;have hO3:=hO2.al #[.bool st.accept,.slice vxa (st.edges.filter fun e=>bt out e.to.toNat).length vxc] 66;have Hk2:=zh (zi hrow2 (Mem.le_trans hmk hmk2));clear hrow2 hes hmk2 hok;generalize mk.addv w2 (.slice vxa (st.edges.filter fun e=>bt out e.to.toNat).length vxc)=mk2 at *
   generalize st.edges.filter (fun e=>bt out e.to.toNat)=es1 at *
   have hnews:=hO3.obj.news rfl;clear hO hO2
   go_wp2_with (at_builtin;refine aC iH rfl (.tmp 40) (.tmp 42) rfl (.slice vsta k vstc) k xs rfl hO3.third.row ⟨w2.heap.size,0,none⟩ 1 1 [.bool st.accept,.slice vxa es1.length vxc] rfl rfl hnews (by simp[Value.oneCell']) (by unfold maxLen;omega) zo ?_)
   intro va vc w7 hown7 hgrow7 hrow7;have hO4:=((hO3.third.app hown7 hgrow7 hrow7 zS)).drop2.drop2;clear hown7 hgrow7 hrow7 hO3 hnews;go_wp2;exact hX.out _ _ _ zo rfl ⟨k+1,.slice va (k+1) vc,_,mk2,zo,rfl,rfl,hO4,Hk2.out.1,Hk2.out.2⟩
 ·obtain rfl:k=l.length:=zo;rw[List.take_length] at hrow;have htl:(gq l (bt out)).length=l.length:=by simp[gq]
  have hst:=dZ (l:=gq l (bt out)) (m:=mk) (by rw[htl];exact hO.row) hrow hO.free;have hst2:=aK hO.bD.done hst;have Hk:=zh (zi hst2 (zi hO.below HF.out));clear hst hst2 hO hrow htl;go_wp2;exact hR.out _ _ ⟨_,bt out,rfl,Hk.out.2.1,Hk.out.1,Hk.out.2.2⟩
theorem qy {o:List Nat} {k:Nat} (h:k<o.length):(dM o)[k]?=some (.int .i64 (o[k]:Nat)):=by simp[dM,h]
theorem xJ (o:List Nat) (es:List Ed) (e:Ed) (q:Nat):dh (renE o es ++ [⟨e.lo,e.hi,(q:Int)⟩])=dh (renE o es) ++ [.int .u8 e.lo,.int .u8 e.hi,.int .i64 q]:=by rw[fq]
theorem GG (v0:Value) (l:Table) (m:Mem) (w:World) (hm:m.inn w) (hl:aI m v0 l) (hwf:WF l) (hlen:l.length≤1000000) (hpos:0<l.length) (hel:∀s∈l,s.edges.length≤1000000) :
 Calls Tryz.prog 181 #[v0] w fun e w'=>∃r o,e=.returned r∧Below w.heap.size w w'∧aI (m.grow w w') r (jo l o o.length)∧pK l o o.length:=by
 have hby:=xZ hl;obtain⟨a,c,rfl,h1,h2,h3⟩:=hl;unfold maxLen at h2;obtain⟨b,off,rfl,h4⟩:=h3 (by intro h;simp[h] at hpos);clear h3;refine aj fun R hR=>?_;have hO:=(((Own.start hm).al #[.int .i64 0] 3).Qs).eH 66 2;have HO:=zh (zi hO (GH hpos));clear hO
 go_enter Tryz.func181,Tryz.ntmps181
 go_wp2;refine ay [0,3,4,5] (fun n vs wr=>∃(k:Nat) (o:List Nat) (vo vst:Value) (xs:List Value) (mk:Mem),n=l.length - k∧vs=[.slice (some ⟨b,off,none⟩) l.length c,vo,vst,.int .i64 k] ∧
  Own w m wr mk [.row vst 66 2 k xs,.row vo 3 1 o.length (dM o)]∧jX mk xs (jo l o k)∧pK l o k) ?_ ?_
 ·exact⟨_,0,[0],.slice (some ⟨w.heap.size,0,none⟩) 1 1,.slice none 0 0,[],_,rfl,rfl,HO.out.1,jX.nil _,HO.out.2⟩
 clear HO;rintro X z n vs wr hX - ⟨k,o,vo,vst,xs,mk,rfl,rfl,hO,hrow,hRI⟩;simp[litL,lk];obtain⟨vsta,vstc,rfl⟩:=aO hO.row;obtain⟨voa,voc,rfl⟩:=aO hO.swap.row;have hoN:=zq hRI.nodup hRI.lt;have hkle:=hRI.le;by_cases hlt:k<o.length
 ·obtain⟨vob,rfl⟩:=jH hO.swap.row zo;have hsN:=hRI.lt _ (List.getElem_mem hlt);have r1:=aX hO.swap.row (qy hlt);obtain⟨g1,ve,g2,ea,ec,rfl,g4,g5,g6⟩:=h4 o[k] hsN;have hmr:=Mem.dK hO.ext.le hO.inn;have g1w:=Mem.av hmr g1;have g2w:=Mem.av hmr g2;have hgl:=Mem.ak hmr g1;have rl:=(World.ownsRow.lt hO.swap.row _ rfl).2;have hwfl:=hwf l[o[k]] (List.getElem_mem hsN);have hell:=hel l[o[k]] (List.getElem_mem hsN);have hbyl:=hby l[o[k]] (List.getElem_mem hsN);have hgs:l[o[k]]?=some l[o[k]]:=by simp[hsN]
  have hst0:=NP hRI (l[o[k]]).edges;have hnext:=fun o'=>Kj hRI hlt hgs (o':=o');have HX:=zh (zi hnext (zi hst0 (zi hwfl hbyl)));clear hnext hst0 hgs hwfl hbyl;generalize l[o[k]]=st at *
  generalize o[k]=s at *
  unfold maxLen at g5;have hO2:=(hO.al #[.bool st.accept,.slice none 0 0] 66).eH 106 3;have HO2:=zh hO2;clear hO2 hO;generalize hS:wr.heap.size=S at *
  go_wp2;refine ay [0,4,5,6,3,33,34,35] (fun n vs w2=>∃(j:Nat) (o':List Nat) (vo' vx:Value),j≤st.edges.length∧n=st.edges.length - j ∧
   vs=[.slice (some ⟨b,off,none⟩) l.length c,.slice vsta k vstc,.int .i64 k,.pointer (some ⟨S,0,none⟩),vo',.slice ea st.edges.length ec,.int .i64 st.edges.length,.int .i64 j] ∧
   Own w m w2 mk [.row vx 106 3 j (dh (renE o' (st.edges.take j))),.obj S 66 #[.bool st.accept,vx],.row (.slice vsta k vstc) 66 2 k xs,.row vo' 3 1 o'.length (dM o')] ∧
   InR l o st.edges j o') ?_ ?_
  ·exact⟨_,0,o,.slice (some ⟨vob,0,none⟩) o.length voc,.slice none 0 0,Nat.zero_le _,rfl,rfl,HO2.out,HX.out.2.1⟩
  clear HO2 g1w g2w hgl hmr r1 rl;rintro Y z2 n vs w2 hY - ⟨j,o',vo',vx,hj,rfl,rfl,hO,hI⟩;simp[litL,lk];obtain⟨vxa,vxc,rfl⟩:=aO hO.row;obtain⟨voa',voc',rfl⟩:=aO hO.fourth.row;have hoN':=zq hI.nodup hI.lt;have hol':=hI.pre.length_le;by_cases hlt2:j<st.edges.length
  ·obtain⟨b',off',rfl,h10⟩:=g6 (by intro h;simp[h] at hlt2);obtain⟨e1,e2,e3,e4,e5,e6⟩:=h10 j hlt2;have hmr:=Mem.dK hO.ext.le hO.inn;have e1w:=Mem.av hmr e1;have e2w:=Mem.av hmr e2;have e3w:=Mem.av hmr e3;have ebl:=Mem.ak hmr e1;have hte:=fV HX.out.2.2.1 st.edges[j] (List.getElem_mem hlt2);have hstep:=PW hI hlt2 zo;obtain⟨en,hen⟩:=Int.eq_ofNat_of_zero_le hte.2.1;have hte2:=hte.2.2;rw[hen] at e3w hte2 hstep;rw[Int.toNat_natCast] at hstep;obtain⟨vob',rfl⟩:=jH hO.fourth.row zo;have HST:=zh hstep;clear hstep hte hen;generalize st.edges[j]=e at *
   have hO2:=hO.al #[.int .u8 e.lo,.int .u8 e.hi,.int .i64 en] 106;have HO2:=zh hO2;have hne:S<w2.heap.size:=hO.swap.obj.lt;clear hO2 hO;generalize hE:w2.heap.size=E at *
   go_wp2;refine ay [0,4,5,6,3,33,34,35,8,9] (fun n vs w3=>∃(q:Nat),q≤iN o' en∧n=o'.length - q ∧
    vs=[.slice (some ⟨b,off,none⟩) l.length c,.slice vsta k vstc,.int .i64 k,.pointer (some ⟨S,0,none⟩),.slice (some ⟨vob',0,none⟩) o'.length voc',.slice (some ⟨b',off',none⟩) st.edges.length ec,.int .i64 st.edges.length,.int .i64 j,.pointer (some ⟨E,0,none⟩),.int .i64 q] ∧
    Own w m w3 mk [.obj E 106 #[.int .u8 e.lo,.int .u8 e.hi,.int .i64 en],.row (.slice vxa j vxc) 106 3 j (dh (renE o' (st.edges.take j))),.obj S 66 #[.bool st.accept,.slice vxa j vxc],.row (.slice vsta k vstc) 66 2 k xs,.row (.slice (some ⟨vob',0,none⟩) o'.length voc') 3 1 o'.length (dM o')]) ?_ ?_
   ·exact⟨_,0,Nat.zero_le _,rfl,rfl,HO2.out⟩
   clear HO2 e1w e2w e3w ebl hmr;rintro Z z3 n vs w3 hZ - ⟨q,hq,rfl,rfl,hO⟩;simp[litL,lk];have hip:=Jo o' en;have f2:=hO.obj.cell (i:=2) rfl;have fl:=hO.obj.lt;go_wp2;refine aA [0,4,5,6,3,33,34,35,8,9,51] (fun vs w'=>∃(bb:Bool) (nq:Nat),vs=[.slice (some ⟨b,off,none⟩) l.length c,.slice vsta k vstc,.int .i64 k,.pointer (some ⟨S,0,none⟩),.slice (some ⟨vob',0,none⟩) o'.length voc',.slice (some ⟨b',off',none⟩) st.edges.length ec,.int .i64 st.edges.length,.int .i64 j,.pointer (some ⟨E,0,none⟩),.int .i64 q,.bool bb] ∧
    w'=w3.drewN nq∧(bb=true→q<o'.length∧q+1≤iN o' en)∧(bb=false→q=iN o' en)) ?_ ?_
   ·intro V hV;by_cases hq2:q<o'.length
    ·have hnx:=K3 hq hq2;have r2:=aX hO.fifth.row (qy hq2);have HN:=zh hnx;clear hnx;generalize o'[q]=y at *
     by_cases hy:y=en
     ·have hne2:((y:Int) != (en:Int))=false:=by simp[hy]
      have HY:=zh hy;clear hy;refine wp_region_quiet_lit zk zk ?_
      repeat (any_goals (first | go_big_quiet_step (fail) | quiet_step (fail) | (refine wpQuiet_step (fun K hK=>?_);go_simp;split <;> (refine hK _ ?_;clear hK K))))
      all_goals (refine wpQuiet_nil ?_;intro _ hw';obtain⟨nq,hw''⟩:=hw';subst hw'')
      all_goals go_wp2
      all_goals refine hV.out _ _ rfl ⟨false,nq,rfl,rfl,(fun h=>by cases h),fun _=>?_⟩
      all_goals
       have:=HN.out;rw[if_pos HY.out] at this;exact this
     ·have hne2:((y:Int) != (en:Int))=true:=by simp;omega
      have HY:=zh hy;clear hy;refine wp_region_quiet_lit zk zk ?_
      repeat (any_goals (first | go_big_quiet_step (fail) | quiet_step (fail) | (refine wpQuiet_step (fun K hK=>?_);go_simp;split <;> (refine hK _ ?_;clear hK K))))
      all_goals (refine wpQuiet_nil ?_;intro _ hw';obtain⟨nq,hw''⟩:=hw';subst hw'')
      all_goals go_wp2
      all_goals refine hV.out _ _ rfl ⟨true,nq,rfl,rfl,(fun _=>⟨hq2,?_⟩),(fun h=>by cases h)⟩
      all_goals
       have:=HN.out;rw[if_neg HY.out] at this;exact this
    ·refine wp_region_quiet_lit zk zk ?_
     repeat (any_goals (first | go_big_quiet_step (fail) | quiet_step (fail) | (refine wpQuiet_step (fun K hK=>?_);go_simp;split <;> (refine hK _ ?_;clear hK K))))
     all_goals (refine wpQuiet_nil ?_;intro _ hw';obtain⟨nq,hw''⟩:=hw';subst hw'')
     all_goals go_wp2
     all_goals exact hV.out _ _ rfl ⟨false,nq,rfl,rfl,(fun h=>by cases h),fun _=>zo⟩
   rintro z4 vs w4 - ⟨bb,nq,rfl,rfl,hb1,hb2⟩;simp[litL,lk];have hO2:=hO.drN nq;clear hO f2 fl
   cases bb with
   | true=>
    obtain⟨hq3,hq4⟩:=hb1 rfl;clear hb1 hb2;go_wp2
    exact hZ.out _ _ _ zo rfl ⟨q+1,hq4,rfl,rfl,hO2⟩
   | false=>
    obtain rfl:=hb2 rfl;clear hb1 hb2;have f2:=hO2.obj.cell (i:=2) rfl;have fl:=hO2.obj.lt
    go_upto_if 57 with (fail)
    refine aA [0,4,5,6,3,33,34,35,8,9] (fun vs w5=>∃vo2:Value,vs=[.slice (some ⟨b,off,none⟩) l.length c,.slice vsta k vstc,.int .i64 k,.pointer (some ⟨S,0,none⟩),vo2,.slice (some ⟨b',off',none⟩) st.edges.length ec,.int .i64 st.edges.length,.int .i64 j,.pointer (some ⟨E,0,none⟩),.int .i64 (iN o' en)] ∧
     Own w m w5 mk [.obj E 106 #[.int .u8 e.lo,.int .u8 e.hi,.int .i64 en],.row (.slice vxa j vxc) 106 3 j (dh (renE o' (st.edges.take j))),.obj S 66 #[.bool st.accept,.slice vxa j vxc],.row (.slice vsta k vstc) 66 2 k xs,.row vo2 3 1 (pR o' en).length (dM (pR o' en))]) ?_ ?_
    ·intro V hV;by_cases hfull:iN o' en<o'.length
     ·have hdec:(((iN o' en:Nat):Int)==(o'.length:Int))=false:=beq_eq_false_iff_ne.2 zo;have hia:pR o' en=o':=by unfold pR;rw[if_pos hfull]
      have Hia:=zh hia;clear hia;go_wp2;refine hV.out _ _ rfl ⟨.slice (some ⟨vob',0,none⟩) o'.length voc',rfl,?_⟩;rw[Hia.out];exact hO2
     ·have hdec:(((iN o' en:Nat):Int)==(o'.length:Int))=true:=beq_iff_eq.2 zo;have hia:pR o' en=o' ++ [en]:=by unfold pR;rw[if_neg hfull]
      have Hia:=zh hia;have hO3:=hO2.al #[.int .i64 en] 3;clear hia;have hwsz:(w3.drewN nq).heap.size=w3.heap.size:=rfl;rw[hwsz] at hO3;have hnews:=hO3.obj.news rfl
      go_wp2_with (at_builtin;refine aC yo rfl (.tmp 58) (.tmp 61) rfl (.slice (some ⟨vob',0,none⟩) o'.length voc') o'.length (dM o') rfl (hO3.lW zS) ⟨w3.heap.size,0,none⟩ 1 1 [.int .i64 en] rfl rfl hnews (by simp[Value.oneCell']) (by unfold maxLen;omega) zo ?_)
      intro va vc w7 hown7 hgrow7 hrow7;have hO4:=(hO3.pull (l₁:=[_,_,_,_,_])).app hown7 hgrow7 hrow7 zS;have hO5:=(hO4.ym (l₁:=[_,_,_,_,_])).tail;have HO5:=zh hO5;clear hO5 hO4 hO3 hown7 hgrow7 hrow7 hnews;go_wp2;refine hV.out _ _ rfl ⟨.slice va (o'.length+1) vc,rfl,?_⟩;rw[Hia.out];have:=HO5.out;simpa [dM] using this
    rintro z5 vs w5 - ⟨vo2,rfl,hO3⟩;simp[litL,lk];have f0:=hO3.obj.cell (i:=0) rfl;have f1:=hO3.obj.cell (i:=1) rfl;have fl:=hO3.obj.lt;have x1:=hO3.third.obj.cell (i:=1) rfl;have xl:=hO3.third.obj.lt;obtain⟨vo2a,vo2c,rfl⟩:=aO (hO3.lW (v:=vo2) (t:=3) (size:=1) (n:=(pR o' en).length) (xs:=dM (pR o' en)) zS);have hO4:=hO3.tail.al #[.int .u8 e.lo,.int .u8 e.hi,.int .i64 (iN o' en)] 106;have hnews:=hO4.obj.news rfl;clear hO3 hO2
    go_wp2_with (at_builtin;refine aC mO rfl (.tmp 64) (.tmp 71) rfl (.slice vxa j vxc) j (dh (renE o' (st.edges.take j))) rfl hO4.swap.row ⟨w5.heap.size,0,none⟩ 1 1 [.int .u8 e.lo,.int .u8 e.hi,.int .i64 (iN o' en)] rfl rfl hnews (by simp[Value.oneCell']) (by unfold maxLen;omega) zo ?_)
    intro va vc w7 hown7 hgrow7 hrow7;have hO5:=(hO4.swap.app hown7 hgrow7 hrow7 zS).third;clear hown7 hgrow7 hrow7 hO4 hnews;have u2:=hO5.obj.cell (i:=1) rfl;have u3:=hO5.obj.frozen 1;have u4:=hO5.obj.lt;have hO6:=((hO5.set 1 (.slice va (j+1) vc)).swap).nG;have HO6:=zh hO6;clear hO6 hO5;go_wp2;refine hY.out _ _ _ zo rfl ⟨j+1,pR o' en,.slice vo2a (pR o' en).length vo2c,.slice va (j+1) vc,zo,rfl,rfl,?_,HST.out.1⟩;rw[HST.out.2,xJ];exact HO6.out
  ·obtain rfl:j=st.edges.length:=zo;rw[List.take_length] at hO;have hn:=HX.out.1 o' hI;have hok:∀e∈renE o' st.edges,edOk e:=fun e he=>by
    obtain⟨e0,he0,rfl⟩:=List.mem_map.1 he;have q1:=HX.out.2.2.2 e0 he0;have q2:=Jo o' e0.to.toNat;exact⟨q1.1,q1.2,by show _≤((iN o' e0.to.toNat:Nat):Int);omega,by show ((iN o' e0.to.toNat:Nat):Int)≤_;omega⟩
   have hrl:(renE o' st.edges).length=st.edges.length:=by simp[renE]
   have hes:=fU (m:=mk) (l:=renE o' st.edges) (by rw[hrl];exact hO.row) hok;have hmk2:=Mem.eD (w:=w2) hO.free;have hrow2:=(hrow.mono hmk2).push (s:=⟨st.accept,renE o' st.edges⟩) hes;have hO2:=hO.bD;have x0:=hO2.obj.cell (i:=0) rfl;have x1:=hO2.obj.cell (i:=1) rfl;have xl:=hO2.obj.lt;have hO3:=hO2.al #[.bool st.accept,.slice vxa st.edges.length vxc] 66;have Hk2:=zh (zi hrow2 hn);clear hrow2 hes hmk2 hok hrl hn hI;generalize mk.addv w2 (.slice vxa st.edges.length vxc)=mk2 at *
   have hnews:=hO3.obj.news rfl;clear hO hO2
   go_wp2_with (at_builtin;refine aC iH rfl (.tmp 75) (.tmp 77) rfl (.slice vsta k vstc) k xs rfl hO3.third.row ⟨w2.heap.size,0,none⟩ 1 1 [.bool st.accept,.slice vxa st.edges.length vxc] rfl rfl hnews (by simp[Value.oneCell']) (by unfold maxLen;omega) zo ?_)
   intro va vc w7 hown7 hgrow7 hrow7;have hO4:=((hO3.third.app hown7 hgrow7 hrow7 zS)).drop2.drop2;clear hown7 hgrow7 hrow7 hO3 hnews;go_wp2;refine hX.out _ _ _ zo rfl ⟨k+1,o',.slice voa' o'.length voc',.slice va (k+1) vc,_,mk2,rfl,rfl,hO4,?_,Hk2.out.2.1⟩;rw[Hk2.out.2.2];exact Hk2.out.1
 ·obtain rfl:k=o.length:=zo;have htl:(jo l o o.length).length=o.length:=by simp[jo]
  have hst:=dZ (l:=jo l o o.length) (m:=mk) (by rw[htl];exact hO.row) hrow hO.free;have hst2:=aK hO.bD.done hst;have Hk:=zh (zi hst2 (zi hO.below hRI));clear hst hst2 hO hrow htl hRI;go_wp2;exact hR.out _ _ ⟨_,o,rfl,Hk.out.2.1,Hk.out.1,Hk.out.2.2⟩
theorem Eo (v v':Value) (l l':List Int) (m:Mem) (w:World) (hm:m.inn w) (hl:jl m v l) (hl':jl m v' l') :
 Calls Tryz.prog 230 #[v,v'] w fun e w'=>e=.returned (.bool (tf (l=l')))∧Below w.heap.size w w':=by
 obtain⟨a,c,rfl,h1,h2,h3⟩:=hl;obtain⟨a',c',rfl,h1',h2',h3'⟩:=hl';unfold maxLen at h2 h2';refine aj fun R hR=>?_;by_cases hlen:l.length=l'.length
 ·have hne:((l.length:Int) != (l'.length:Int))=false:=by simp[hlen]
  have Hlen:=zh hlen;clear hlen
  go_enter Tryz.func230,Tryz.ntmps230
  go_wp2;refine ay [0,1,12,13] (fun n vs wr=>∃k:Nat,k≤l.length∧n=l.length - k∧vs=[.slice a l.length c,.slice a' l'.length c',.int .i64 l.length,.int .i64 k]∧(l=l'↔l.drop k=l'.drop k)∧Below w.heap.size w wr) ?_ ?_
  ·exact⟨_,0,Nat.zero_le _,rfl,rfl,Iff.rfl,Below.refl _ _⟩
  rintro X z n vs wr hX - ⟨k,hk,rfl,rfl,hrel,hbel⟩;have Hrel:=zh hrel;clear hrel;simp[litL,lk];have hmr:=Mem.bX hm hbel;by_cases hlt:k<l.length
  ·have hlt':k<l'.length:=by rw[← Hlen.out];exact hlt
   obtain⟨b,off,rfl,h4⟩:=h3 (by intro h;simp[h] at hlt);obtain⟨b',off',rfl,h4'⟩:=h3' (by intro h;simp[h] at hlt');have c1:=Mem.av hmr (h4 k hlt).1;have c1':=Mem.av hmr (h4' k hlt').1;have HD:=zh (mY l l' k hlt hlt');by_cases heq:l[k]=l'[k]
   ·have hb1:(l[k] != l'[k])=false:=by simp[heq]
    have Heq:=zh heq;clear heq;go_wp2
    go_quiet (fail)
    go_wp2;exact hX.out _ _ _ zo rfl ⟨k+1,zo,rfl,rfl,Hrel.out.trans (HD.out.trans ⟨fun h=>h.2,fun h=>⟨Heq.out,h⟩⟩),below_drewN hbel _⟩
   ·have hb1:(l[k] != l'[k])=true:=by simp[heq]
    have Heq:=zh heq;clear heq;go_wp2
    go_quiet (fail)
    go_wp2;exact hR.out _ _ ⟨aQ (by rw[aL];intro h;exact Heq.out (HD.out.1 (Hrel.out.1 h)).1),below_drewN hbel _⟩
  ·go_wp2;refine hR.out _ _ ⟨aQ ?_,hbel⟩;rw[aN (Hrel.out.2 ?_)];rw[List.drop_eq_nil_of_le zo,List.drop_eq_nil_of_le (by rw[← Hlen.out];omega)]
 ·have hne:((l.length:Int) != (l'.length:Int))=true:=by simp;omega
  go_enter Tryz.func230,Tryz.ntmps230
  go_wp2;exact hR.out _ _ ⟨aQ (by rw[aL (fun h=>hlen (by rw[h]))]),Below.refl _ _⟩
theorem P7 (v v':Value) (l:List (List Int)) (x:List Int) (m:Mem) (w:World) (hm:m.inn w) (hl:o8 m v l) (hx:jl m v' x) :
 Calls Tryz.prog 218 #[v,v'] w fun e w'=>e=.returned (.int .i64 (firstIdx (fun y=>y=x) l 0))∧Below w.heap.size w w':=by
 have hcall:=fun u y hu w1 hm1=>Eo u v' y x m w1 hm1 hu hx;have Hc:=zh hcall;clear hcall;obtain⟨a,c,rfl,h1,h2,h3⟩:=hl;obtain⟨ax,cx,rfl,-⟩:=hx;unfold maxLen at h2;refine aj fun R hR=>?_
 go_enter Tryz.func218,Tryz.ntmps218
 go_wp2;refine ay [0,1,7,8] (fun n vs wr=>∃k:Nat,k≤l.length∧n=l.length - k∧vs=[.slice a l.length c,.slice ax x.length cx,.int .i64 l.length,.int .i64 k]∧firstIdx (fun y=>y=x) l 0=firstIdx (fun y=>y=x) (l.drop k) k∧Below w.heap.size w wr) ?_ ?_
 ·exact⟨_,0,Nat.zero_le _,rfl,rfl,rfl,Below.refl _ _⟩
 rintro X z n vs wr hX - ⟨k,hk,rfl,rfl,hrel,hbel⟩;have Hrel:=zh hrel;clear hrel;simp[litL,lk];have hmr:=Mem.bX hm hbel;by_cases hlt:k<l.length
 ·obtain⟨b,off,rfl,h4⟩:=h3 (by intro h;simp[h] at hlt);obtain⟨u,hu1,hu2⟩:=h4 k hlt;have hc:=Hc.out u l[k] hu2 _ hmr;obtain⟨ua,uc,rfl,-⟩:=hu2;have c1:=Mem.av hmr hu1;have HD:=zh (jK (fun y=>y=x) l k hlt);have Hcc:=zh hc;clear hc
  go_wp2_with fail
  refine Hcc.out.mono ?_;rintro e w' ⟨rfl,hbel2⟩;by_cases hx:l[k]=x
  ·rw[aN hx];have Hx:=zh hx;clear hx;go_wp2;exact hR.out _ _ ⟨dL (by rw[Hrel.out,HD.out,if_pos (aN Hx.out)]),dE hbel hbel2⟩
  ·rw[aL hx];go_wp2;exact hX.out _ _ _ zo rfl ⟨k+1,zo,rfl,rfl,by rw[Hrel.out,HD.out,if_neg (by rw[aL hx];simp)],dE hbel hbel2⟩
 ·go_wp2;exact hR.out _ _ ⟨dL (by rw[Hrel.out,List.drop_eq_nil_of_le zo];rfl),hbel⟩
theorem EP (v v':Value) (l cl:List Int) (x:Nat) (m:Mem) (w:World) (hm:m.inn w) (hl:jl m v l) (hc:jl m v' cl) (hx:x<cl.length) (hlc:∀y∈l,0≤y∧y<cl.length) :
 Calls Tryz.prog 184 #[v,v',.int .i64 x] w fun e w'=>e=.returned (.int .i64 (let r:=firstIdx (fun y=>cl.getD y.toNat 0=cl[x]) l 0;if r<0 then l.length else r))∧Below w.heap.size w w':=by
 obtain⟨a,c,rfl,h1,h2,h3⟩:=hl;obtain⟨a',c',rfl,h1',h2',h3'⟩:=hc;obtain⟨b',off',rfl,h4'⟩:=h3' (by intro h;simp[h] at hx);unfold maxLen at h2 h2';refine aj fun R hR=>?_
 go_enter Tryz.func184,Tryz.ntmps184
 go_wp2;refine ay [0,1,2,9,10,11] (fun n vs wr=>∃k:Nat,k≤l.length∧n=l.length - k∧vs=[.slice a l.length c,.slice (some ⟨b',off',none⟩) cl.length c',.int .i64 x,.slice a l.length c,.int .i64 l.length,.int .i64 k]∧firstIdx (fun y=>cl.getD y.toNat 0=cl[x]) l 0=firstIdx (fun y=>cl.getD y.toNat 0=cl[x]) (l.drop k) k∧Below w.heap.size w wr) ?_ ?_
 ·exact⟨_,0,Nat.zero_le _,rfl,rfl,rfl,Below.refl _ _⟩
 rintro X z n vs wr hX - ⟨k,hk,rfl,rfl,hrel,hbel⟩;have Hrel:=zh hrel;clear hrel;simp[litL,lk];have hmr:=Mem.bX hm hbel;by_cases hlt:k<l.length
 ·obtain⟨b,off,rfl,h4⟩:=h3 (by intro h;simp[h] at hlt);have c1:=Mem.av hmr (h4 k hlt).1;obtain⟨y,hy⟩:=Int.eq_ofNat_of_zero_le (hlc l[k] (List.getElem_mem hlt)).1;have hy2:y<cl.length:=by have:=(hlc l[k] (List.getElem_mem hlt)).2;omega
  have hgd:cl.getD (l[k]).toNat 0=cl[y]:=by rw[hy];simp[hy2]
  rw[hy] at c1;have Hgd:=zh hgd;clear hgd hy;have c2:=Mem.av hmr (h4' y hy2).1;have c3:=Mem.av hmr (h4' x hx).1;have HD:=zh (jK (fun y=>cl.getD y.toNat 0=cl[x]) l k hlt);by_cases heq:cl[y]=cl[x]
  ·have hb1:(cl[y]==cl[x])=true:=by simp[heq]
   have Heq:=zh heq;clear heq;go_wp2
   go_quiet (fail)
   go_wp2;refine hR.out _ _ ⟨dL ?_,below_drewN hbel _⟩;rw[Hrel.out,HD.out,if_pos (aN (by rw[Hgd.out];exact Heq.out))];rw[if_neg zo]
  ·have hb1:(cl[y]==cl[x])=false:=by simp[heq]
   have Heq:=zh heq;clear heq;go_wp2
   go_quiet (fail)
   go_wp2;exact hX.out _ _ _ zo rfl ⟨k+1,zo,rfl,rfl,by rw[Hrel.out,HD.out,if_neg (by rw[aL (by rw[Hgd.out];exact Heq.out)];simp)],below_drewN hbel _⟩
 ·go_wp2;exact hR.out _ _ ⟨dL (by rw[Hrel.out,List.drop_eq_nil_of_le zo];rfl),hbel⟩
def sigP (cls:List Int) (ta:Nat→Nat→Int) (s i:Nat):List Int:=cls.getD s 0::(List.range i).map fun i=>uX cls (ta s i)
theorem MJ (cls:List Int) (ta:Nat→Nat→Int) (s i:Nat):sigP cls ta s (i+1)=sigP cls ta s i ++ [uX cls (ta s i)]:=by
 unfold sigP;rw[List.range_succ,List.map_append];rfl
theorem Dg (l:List (List Int)) (x:List Int):firstIdx (fun y=>y=x) l 0=if l.findIdx (·==x)<l.length then ((l.findIdx (·==x):Nat):Int) else -1:=by
 rcases mr (fun y=>y=x) l 0 with ⟨h1,h2⟩ | ⟨i,h1,h2,h3,h4⟩
 ·rw[h1,if_neg];intro h;obtain⟨y,hy,hp⟩:=List.findIdx_lt_length.1 h;exact h2 y hy (by simpa using hp)
 ·have:l.findIdx (·==x)=i:=by
   rw[List.findIdx_eq h1];exact⟨by simpa using h3,fun j hj=>by simpa using h4 j zo hj⟩
  rw[h2,this,if_pos h1];simp
theorem Iy {cls:List Int} {n:Nat} (_:cls.length=n) (hr:∀s,s<n→0≤cls.getD s 0∧cls.getD s 0≤n) {x:Int} (hx : -1≤x∧x<n) : -1≤uX cls x∧uX cls x≤n:=by
 unfold uX
 split
 ·omega
 ·have:=hr x.toNat zo;omega
theorem Iz (v0 v1:Value) (l:Table) (cuts:List Int) (lo hi:Nat→Nat) (m:Mem) (w:World) (hm:m.inn w) (hl:aI m v0 l) (hc:jl m v1 cuts) (hwf:WF l) (hlen:l.length≤1000000) (hpos:1≤l.length)
 (H:Gb l l.length lo hi cuts.length (fun s i=>bL l s (lo i))) (hlo:∀i,(h:i<cuts.length)→cuts[i]=lo i) (hclen:cuts.length≤256) :
 Calls Tryz.prog 183 #[v0,v1] w fun e w'=>∃r cls,e=.returned r∧Below w.heap.size w w'∧jl (m.grow w w') r cls∧wJ l l.length cls:=by
 have hl0:=hl;obtain⟨a,c,rfl,h1,h2,h3⟩:=hl;obtain⟨ca,cc,rfl,c1,c2,c3⟩:=hc;unfold maxLen at h2 c2;obtain⟨b,off,rfl,h4⟩:=h3 (by intro h;simp[h] at hpos);clear h3;refine aj fun R hR=>?_
 go_enter Tryz.func183,Tryz.ntmps183
 go_wp2_with (refine wpList_make_row BQ rfl (.tmp 18) (.tmp 18) rfl l.length rfl rfl zo (by unfold maxLen;omega) ?_)
 intro w1 hown1 hgrow1;have hO:=((Own.start hm).make hown1 hgrow1);rw[nO] at hO;clear hown1 hgrow1;generalize w.heap.size=B at hO ⊢;go_wp2;refine ay [0,1,5,20,21,22] (fun n vs wr=>∃k:Nat,k≤l.length∧n=l.length - k∧vs=[.slice (some ⟨b,off,none⟩) l.length c,.slice ca cuts.length cc,.slice (some ⟨B,0,none⟩) l.length l.length,.slice (some ⟨b,off,none⟩) l.length c,.int .i64 l.length,.int .i64 k] ∧
  Own w m wr m [.row (.slice (some ⟨B,0,none⟩) l.length l.length) 3 1 l.length (jC (((l.take k).map (·.accept)).map b2i) (l.length - k))]) ?_ ?_
 ·exact⟨_,0,Nat.zero_le _,rfl,rfl,by simpa using hO⟩
 clear hO;rintro X z n vs wr hX - ⟨k,hk,rfl,rfl,hO⟩;simp[litL,lk];by_cases hlt:k<l.length
 ·obtain⟨g1,ve,g2,ea,ec,rfl,g4,g5,g6⟩:=h4 k hlt;have g1w:=Mem.av hO.inn g1;have g2w:=Mem.av hO.inn g2;have hgl:=Mem.ak hO.inn g1;have hst:=zO (acc:=l.map (·.accept)) (k:=k) (N:=l.length) (by simpa using hlt) zS;rw[← List.map_take,← List.map_take,List.getElem_map] at hst;have r1:=aX (j:=k) (u:=.int .i64 0) hO.row (jB (by simp;omega) zo);have r2:=dP hO.row k;have r3:=(World.ownsRow.lt hO.row _ rfl).2;have hO2:=hO.setRow k (.int .i64 1);have HS:=zh (zi hst (zi hO hO2));clear hst hO hO2
  cases hb:(l[k]).accept with
  | true=>
   rw[hb] at g1w HS;go_wp2;refine hX.out _ _ _ zo rfl ⟨k+1,zo,rfl,rfl,?_⟩;rw[HS.out.1]
   exact HS.out.2.2.al' _
  | false=>
   rw[hb] at g1w HS;go_wp2;refine hX.out _ _ _ zo rfl ⟨k+1,zo,rfl,rfl,?_⟩;rw[HS.out.1,show Value.int .i64 (b2i false)=.int .i64 0 from rfl];have:∀{xs:List Value},xs[k]?=some (.int .i64 0)→xs.set k (.int .i64 0)=xs:=fun {xs} h=>by
    obtain⟨h1,h2⟩:=List.getElem?_eq_some_iff.1 h;rw[← h2,List.set_getElem_self]
   rw[this (jB (by simp;omega) zo)];exact HS.out.2.1.al' _
 ·obtain rfl:k=l.length:=zo;rw[List.take_length,Nat.sub_self,pu] at hO;have hstart:xD l l.length ((l.map (·.accept)).map b2i) 0:=Es hpos zS fun s hs=>by
   rw[gG l s hs];simp[hs,b2i]
  have hin:=fH (l:=(l.map (·.accept)).map b2i) (m:=m) (by simpa using hO.row) (fun x hx=>by
   obtain⟨b,-,rfl⟩:=List.mem_map.1 hx;unfold b2i;split <;> omega)
  have hO4:=hO.bD;have hle:=Mem.eD (w:=wr) hO.free;generalize m.addv wr (.slice (some ⟨B,0,none⟩) l.length l.length)=mk1 at *
  generalize Value.slice (some ⟨B,0,none⟩) l.length l.length=vk at *
  generalize (l.map (·.accept)).map b2i=cls0 at *
  have Hk:=zh (zi hstart (zi hin (zi hO4 hle)));clear hstart hin hO4 hle hO;go_wp2;refine ay [0,1,5,8,34,35] (fun n vs wr=>∃(r many:Nat) (cls:List Int) (vk:Value) (mk':Mem),n=l.length - r∧r≤l.length∧r≤many∧many≤l.length ∧
   vs=[.slice (some ⟨b,off,none⟩) l.length c,.slice ca cuts.length cc,vk,.int .i64 many,.int .i64 l.length,.int .i64 r] ∧
   xD l l.length cls many∧jl mk' vk cls∧Own w m wr mk' []∧m.le mk') ?_ ?_
  ·exact⟨_,0,0,cls0,vk,mk1,rfl,Nat.zero_le _,Nat.zero_le _,Nat.zero_le _,rfl,Hk.out.1,Hk.out.2.1,Hk.out.2.2.1,Hk.out.2.2.2⟩
  clear Hk;rintro Y z n vs wr2 hY - ⟨r,many,cls,vk,mk1,rfl,hr,hrm,hmany,rfl,hri,hin,hO,hle⟩;simp[litL,lk];have hclen2:=hri.len;have hrng:=hri.rng;have hin0:=hin;obtain⟨ka,kc,rfl,k1,k2,k3⟩:=hin;have hkpos:0<cls.length:=zo;obtain⟨kb,ko,rfl,k4⟩:=k3 (by intro h;simp[h] at hkpos);unfold maxLen at k2;have HRI:=zh (zi hri (zi hclen2 hrng));have hcl1:l.length≤cls.length:=zo;have hcl2:cls.length≤l.length:=zo;clear hri hclen2 hrng;by_cases hlt2:r<l.length
  ·go_wp2_with (refine wpList_make_row BQ rfl (.tmp 38) (.tmp 38) rfl l.length rfl rfl zo (by unfold maxLen;omega) ?_)
   intro w3 hown3 hgrow3;have hO2:=(hO.make hown3 hgrow3).eH 100 1;rw[nO] at hO2;have HO2:=zh hO2;clear hO2 hO hown3 hgrow3;generalize wr2.heap.size=M at *
   go_wp2;refine ay [0,1,5,8,34,35,9,10,41,42] (fun n vs w4=>∃(s:Nat) (vs':Value) (xs:List Value) (mk:Mem),s≤l.length∧n=l.length - s ∧
    vs=[.slice (some ⟨b,off,none⟩) l.length c,.slice ca cuts.length cc,.slice (some ⟨kb,ko,none⟩) cls.length kc,.int .i64 many,.int .i64 l.length,.int .i64 r,vs',.slice (some ⟨M,0,none⟩) l.length l.length,.int .i64 l.length,.int .i64 s] ∧
    Own w m w4 mk [.row vs' 100 1 (gF (sig cls (fun s i=>bL l s (lo i)) cuts.length) s).1.length xs,.row (.slice (some ⟨M,0,none⟩) l.length l.length) 3 1 l.length (jC (gF (sig cls (fun s i=>bL l s (lo i)) cuts.length) s).2 (l.length - s))] ∧
    nQ mk xs (gF (sig cls (fun s i=>bL l s (lo i)) cuts.length) s).1∧mk1.le mk) ?_ ?_
   ·exact⟨_,0,.slice none 0 0,[],_,Nat.zero_le _,rfl,rfl,HO2.out,nQ.nil _,Mem.le_refl _⟩
   clear HO2;rintro Z z3 n vs w4 hZ - ⟨s,vs',xs,mk,hs,rfl,rfl,hO,hrow,hmk⟩;simp[litL,lk];have hnum:=GQ (sig cls (fun s i=>bL l s (lo i)) cuts.length) s;have hsn:=BK (sig cls (fun s i=>bL l s (lo i)) cuts.length) s;obtain⟨vsa,vsc,rfl⟩:=aO hO.row;by_cases hlt3:s<l.length
   ·have hO':=hO;have d1:=k4 s zo;have hcs:cls.getD s 0=cls[s]'zo:=by simp[show s<cls.length by omega]
    have d1w:=Mem.av hO.inn (Mem.aF hmk d1.1);have d1l:=Mem.ak hO.inn (Mem.aF hmk d1.1);have hcsr:=(HRI.out.2.2 s hlt3);rw[← hcs] at d1w;have hO2:=(hO.al #[.int .i64 (cls.getD s 0)] 3).Qs;have HO2:=zh hO2;clear hO2 hO hO' hcs;generalize hN:w4.heap.size=N at *
    go_wp2;refine ay [0,1,5,8,34,35,9,10,41,42,11,12,50,51,52] (fun n vs w5=>∃(i:Nat) (vr:Value),i≤cuts.length∧n=cuts.length - i ∧
     vs=[.slice (some ⟨b,off,none⟩) l.length c,.slice ca cuts.length cc,.slice (some ⟨kb,ko,none⟩) cls.length kc,.int .i64 many,.int .i64 l.length,.int .i64 r,.slice vsa (gF (sig cls (fun s i=>bL l s (lo i)) cuts.length) s).1.length vsc,.slice (some ⟨M,0,none⟩) l.length l.length,.int .i64 l.length,.int .i64 s,.int .i64 s,vr,.slice ca cuts.length cc,.int .i64 cuts.length,.int .i64 i] ∧
     Own w m w5 mk [.row vr 3 1 (i+1) ((sigP cls (fun s i=>bL l s (lo i)) s i).map (Value.int .i64)),.row (.slice vsa (gF (sig cls (fun s i=>bL l s (lo i)) cuts.length) s).1.length vsc) 100 1 (gF (sig cls (fun s i=>bL l s (lo i)) cuts.length) s).1.length xs,.row (.slice (some ⟨M,0,none⟩) l.length l.length) 3 1 l.length (jC (gF (sig cls (fun s i=>bL l s (lo i)) cuts.length) s).2 (l.length - s))]) ?_ ?_
    ·exact⟨_,0,.slice (some ⟨N,0,none⟩) 1 1,Nat.zero_le _,rfl,rfl,HO2.out⟩
    clear HO2 d1w;rintro V z4 n vs w5 hV - ⟨i,vr,hi1,rfl,rfl,hO⟩;simp[litL,lk];obtain⟨vra,vrc,rfl⟩:=aO hO.row;by_cases hlt4:i<cuts.length
    ·obtain⟨cb,co,rfl,c4⟩:=c3 (by intro h;simp[h] at hlt4);have q1:=c4 i hlt4;rw[hlo i hlt4] at q1;have hmr:=Mem.dK hO.ext.le hO.inn;have q1w:=Mem.av hmr q1.1;have hle5:=H.iv.le i hlt4;have hcall:=JG (.slice (some ⟨b,off,none⟩) l.length c) l s (lo i) m _ hmr hl0 zo zo;have hsg:=MJ cls (fun s i=>bL l s (lo i)) s i;have hwu:IntKind.u8.wrap (lo i:Int)=(lo i:Int):=IntWalk.u8_in _ zo;rcases fQ hwf s (lo i) with ht | ⟨ht1,ht2⟩
     ·have hcl3:uX cls (bL l s (lo i)) = -1:=by rw[ht];rfl
      rw[ht] at hcall;rw[hcl3] at hsg;have HS:=zh (zi hcall hsg);clear hcall hsg ht hcl3
      go_wp2_with fail
      refine HS.out.1.mono ?_;rintro e w6 ⟨rfl,hb6⟩;have hO3:=(hO.move hb6).al #[.int .i64 (-1)] 3;have hnews:=hO3.obj.news rfl;have hb6s:=hb6.size;clear hO hb6
      go_wp2_with (at_builtin;refine aC yo rfl (.tmp 67) (.tmp 69) rfl (.slice vra (i+1) vrc) (i+1) _ rfl hO3.swap.row ⟨w6.heap.size,0,none⟩ 1 1 [.int .i64 (-1)] rfl rfl hnews (by simp[Value.oneCell']) (by unfold maxLen;omega) zo ?_)
      intro va vc w7 hown7 hgrow7 hrow7;have hO4:=(hO3.swap.app hown7 hgrow7 hrow7 zS).drop2;have HO4:=zh hO4;clear hown7 hgrow7 hrow7 hO3 hnews hO4;go_wp2;refine hV.out _ _ _ zo rfl ⟨i+1,.slice va (i+1+1) vc,zo,rfl,rfl,?_⟩;rw[HS.out.2,List.map_append];exact HO4.out
     ·obtain⟨tn,htn⟩:=Int.eq_ofNat_of_zero_le ht1;rw[htn] at hcall ht2;have htl:tn<cls.length:=zo;have hcl3:uX cls (bL l s (lo i))=cls[tn]:=by
       rw[htn];unfold uX;rw[if_neg zo];simp[htl]
      rw[hcl3] at hsg;have k5:=k4 tn htl;generalize cls[tn]=y at *
      have HS:=zh (zi hcall hsg);clear hcall hsg ht1 hcl3 htn
      go_wp2_with fail
      refine HS.out.1.mono ?_;rintro e w6 ⟨rfl,hb6⟩;have hOm:=hO.move hb6;have k5w:=Mem.av hOm.inn (Mem.aF hmk k5.1);have k5l:=Mem.ak hOm.inn (Mem.aF hmk k5.1);have hO3:=hOm.al #[.int .i64 y] 3;have hnews:=hO3.obj.news rfl;have hb6s:=hb6.size;clear hO hb6 hOm
      go_wp2_with (at_builtin;refine aC yo rfl (.tmp 67) (.tmp 69) rfl (.slice vra (i+1) vrc) (i+1) _ rfl hO3.swap.row ⟨w6.heap.size,0,none⟩ 1 1 [.int .i64 y] rfl rfl hnews (by simp[Value.oneCell']) (by unfold maxLen;omega) zo ?_)
      intro va vc w7 hown7 hgrow7 hrow7;have hO4:=(hO3.swap.app hown7 hgrow7 hrow7 zS).drop2;have HO4:=zh hO4;clear hown7 hgrow7 hrow7 hO3 hnews hO4;go_wp2;refine hV.out _ _ _ zo rfl ⟨i+1,.slice va (i+1+1) vc,zo,rfl,rfl,?_⟩;rw[HS.out.2,List.map_append];exact HO4.out
    ·obtain rfl:i=cuts.length:=zo;have esg:sigP cls (fun s i=>bL l s (lo i)) s cuts.length=sig cls (fun s i=>bL l s (lo i)) cuts.length s:=rfl;rw[esg] at hO;have hsl:(sig cls (fun s i=>bL l s (lo i)) cuts.length s).length=cuts.length+1:=by simp[sig]
     have hsr:∀x∈sig cls (fun s i=>bL l s (lo i)) cuts.length s,-9223372036854775808≤x∧x≤9223372036854775807:=by
      intro x hx;unfold sig at hx;rcases List.mem_cons.1 hx with rfl | hx
      ·omega
      ·obtain⟨j,hj,rfl⟩:=List.mem_map.1 hx;have:=Iy HRI.out.2.1 HRI.out.2.2 (H.rng s j hlt3 (List.mem_range.1 hj));simp only at this ⊢;omega
     have hs1:=hO.swap.bD;have hiss:=rR hO.swap.row hrow hO.swap.free;have hs2:=hs1.bD;have hint:=fH (m:=mk.addv w5 (.slice vsa (gF (sig cls (fun s i=>bL l s (lo i)) cuts.length) s).1.length vsc)) (l:=sig cls (fun s i=>bL l s (lo i)) cuts.length s) (by rw[hsl];exact hO.row) hsr;have hfind:=P7 _ _ _ _ _ w5 hs2.inn (ru (Mem.eD hs1.free) hiss) hint;rw[Dg] at hfind;have hint2:=fH (m:=mk) (l:=sig cls (fun s i=>bL l s (lo i)) cuts.length s) (by rw[hsl];exact hO.row) hsr;have hle6:=hnum.le;have hl6:=hnum.len;have hfl:(gF (sig cls (fun s i=>bL l s (lo i)) cuts.length) s).1.findIdx (·==sig cls (fun s i=>bL l s (lo i)) cuts.length s)≤(gF (sig cls (fun s i=>bL l s (lo i)) cuts.length) s).1.length:=List.findIdx_le_length;clear hs1 hiss hs2 hint esg hnum;generalize sig cls (fun s i=>bL l s (lo i)) cuts.length s=x at *
     generalize gF (sig cls (fun s i=>bL l s (lo i)) cuts.length) s=rr at *
     obtain⟨sn,nxl⟩:=rr;simp only at *
     by_cases hf:sn.findIdx (·==x)<sn.length
     ·rw[if_pos hf] at hfind;rw[if_pos hf] at hsn;generalize sn.findIdx (·==x)=idx at *
      have HF:=zh (zi hfind (zi hsn hl6));clear hfind hsn hl6 hsl
      go_wp2_with fail
      refine HF.out.1.mono ?_;rintro e w6 ⟨rfl,hb6⟩;have hO4:=(hO.move hb6).tail.swap;have r1:=aX (j:=s) (u:=.int .i64 0) hO4.row (jB HF.out.2.2 zo);have r2:=dP hO4.row s;have r3:=(World.ownsRow.lt hO4.row _ rfl).2;have hO5:=hO4.setRow s (.int .i64 idx);rw[ng HF.out.2.2 zo] at hO5;have HO5:=zh hO5.swap;clear hO5 hO4 hO hb6;go_wp2;refine hZ.out _ _ _ zo rfl ⟨s+1,.slice vsa sn.length vsc,xs,mk,zo,rfl,?_,?_,?_,hmk⟩
      ·rw[List.map];rfl
      ·rw[HF.out.2.1];exact HO5.out
      ·rw[HF.out.2.1];exact hrow
     ·rw[if_neg hf] at hfind;rw[if_neg hf] at hsn;have hidx:sn.findIdx (·==x)=sn.length:=zo;rw[hidx] at hsn;have hmk2:=Mem.eD (w:=w5) hO.free;have hrow2:=(hrow.mono hmk2).push hint2;have hOs:=hO.bD;have HF:=zh (zi hfind (zi hsn (zi hl6 (zi hrow2 (Mem.le_trans hmk hmk2)))));clear hfind hsn hl6 hsl hidx hf hfl hrow2 hmk2 hint2 hO;generalize mk.addv w5 (.slice vra (cuts.length+1) vrc)=mk2 at *
      go_wp2_with fail
      refine HF.out.1.mono ?_;rintro e w6 ⟨rfl,hb6⟩;have hO4:=(hOs.move hb6).al #[.slice vra (cuts.length+1) vrc] 100;have hnews:=hO4.obj.news rfl;clear hOs hb6
      go_wp2_with (at_builtin;refine aC Gh rfl (.tmp 79) (.tmp 81) rfl (.slice vsa sn.length vsc) sn.length xs rfl hO4.swap.row ⟨w6.heap.size,0,none⟩ 1 1 [.slice vra (cuts.length+1) vrc] rfl rfl hnews (by simp[Value.oneCell']) (by unfold maxLen;omega) zo ?_)
      intro va vc w7 hown7 hgrow7 hrow7;have hO5:=(hO4.swap.app hown7 hgrow7 hrow7 zS).drop2.swap;clear hown7 hgrow7 hrow7 hO4 hnews;have r1:=aX (j:=s) (u:=.int .i64 0) hO5.row (jB HF.out.2.2.1 zo);have r2:=dP hO5.row s;have r3:=(World.ownsRow.lt hO5.row _ rfl).2;have hO6:=hO5.setRow s (.int .i64 sn.length);rw[ng HF.out.2.2.1 zo] at hO6;have HO6:=zh hO6.swap;clear hO6 hO5;go_wp2;refine hZ.out _ _ _ zo rfl ⟨s+1,.slice va (sn.length+1) vc,xs ++ [.slice vra (cuts.length+1) vrc],mk2,zo,rfl,?_,?_,?_,HF.out.2.2.2.2⟩
      ·rfl
      ·rw[HF.out.2.1];show Own w m _ mk2 [.row _ _ _ (sn ++ [x]).length _,.row _ _ _ _ _];rw[show (sn ++ [x]).length=sn.length+1 by simp];exact HO6.out
      ·rw[HF.out.2.1];exact HF.out.2.2.2.1
   ·obtain rfl:s=l.length:=zo;rw[Nat.sub_self,pu] at hO;have hrd:=Et H hpos HRI.out.1;generalize gF (sig cls (fun s i=>bL l s (lo i)) cuts.length) l.length=rr at *
    obtain⟨sn,nxl⟩:=rr;simp only at hO hrd hnum hrow;have hin2:=fH (l:=nxl) (m:=mk) (by rw[hnum.len];exact hO.swap.row) (fun y hy=>by
     obtain⟨i,hi,rfl⟩:=List.mem_iff_getElem.1 hy;have:=hnum.rng (s:=i) (by rw[← hnum.len];exact hi);simp only[List.getD_eq_getElem?_getD,hi,List.getElem?_eq_getElem,Option.getD_some] at this;have:=hnum.le;simp only at this;omega)
    have hle2:=Mem.eD (w:=w4) hO.swap.free;have hO5:=hO.swap.bD.tail;have hnl:=hnum.len;generalize mk.addv w4 (.slice (some ⟨M,0,none⟩) l.length l.length)=mk2 at *
    have Hk:=zh (zi hin2 (zi (Mem.le_trans (Mem.le_trans hle hmk) hle2) (zi hO5 (zi hrd hnl))));have hs1:=hrd.2.1;have hs2:=hrd.2.2.1;clear hin2 hle2 hO5 hO hrd hnum hsn hnl;by_cases hstop:sn.length=many
    ·have hdec:((sn.length:Int)==(many:Int))=true:=by simp[hstop]
     have HT:=zh hstop;clear hstop;go_wp2;refine hR.out _ _ ⟨_,nxl,rfl,Hk.out.2.2.1.below,?_,Hk.out.2.2.2.1.2.2.2.2 HT.out⟩;have:=gU Hk.out.2.2.1.done Hk.out.1;exact this
    ·have hdec:((sn.length:Int)==(many:Int))=false:=by simp;omega
     go_wp2;exact hY.out _ _ _ zo rfl ⟨r+1,sn.length,nxl,.slice (some ⟨M,0,none⟩) l.length l.length,mk2,rfl,zo,zo,hs2,rfl,Hk.out.2.2.2.1.1,Hk.out.1,Hk.out.2.2.1,Hk.out.2.1⟩
  ·obtain rfl:r=l.length:=zo;have hfull:=PD HRI.out.1 hrm hpos;have Hk:=zh (zi hfull (zi hO.below (gU hO.done hin0)));clear hfull hin0 hO;go_wp2;exact hR.out _ _ ⟨_,cls,rfl,Hk.out.2.1,Hk.out.2.2,Hk.out.1⟩
theorem GR (T:Table):∀i,(h:i<(dF T 256).length)→(dF T 256)[i]=(loOf (aT (pOf T)) i:Nat):=(uT T).lo
structure Tg (T:Table) (cuts:List Int) (cls:List Int) (lo hi:Nat→Nat):Prop where
 wf:WF T
 by_:Bytes T
 ta:Gb T T.length lo hi cuts.length (fun s i=>bL T s (lo i))
 bfs:rY T T.length (fun s=>cls.getD s 0) (dlT T lo) lo hi (fun s=>bG T s) cuts.length
 cut:Pj cuts lo hi
 cls:wJ T T.length cls
 len:T.length≤1000000
 pos:1≤T.length
 clen:cuts.length≤256
theorem Ns {R:Table} (hw:WF R) (hb:Bytes R) {lv:Nat→Bool} (hlv:∀s:Nat,s<R.length→(lv s=true↔Lv R s)) (hlen:R.length≤1000000) (hpos:1≤R.length) (h0:Lv R 0) {cls:List Int}
 (hc:wJ (gq R lv) (gq R lv).length cls):Tg (gq R lv) (dF (gq R lv) 256) cls (loOf (aT (pOf (gq R lv)))) (hiOf (aT (pOf (gq R lv)))):=by
 have hl:(gq R lv).length=R.length:=by simp[gq]
 have hwT:=Gl hw lv;have ht:=D7 hw hlv;have h0T:Lv (gq R lv) 0:=by obtain⟨w,hx⟩:=h0;exact⟨w,by rw[yu hw hlv];exact hx⟩
 refine ⟨hwT,JW hb lv,?_,?_,uT _,hc,zo,zo,oH _ 256⟩
 ·rw[rC];exact vK hwT (uJ _) ht
 ·rw[rC];exact IA hwT (uJ _) ht hc (ac:=fun s=>bG (gq R lv) s) (fun s _=>rfl) h0T zo
theorem Nr {R:Table} (hw:WF R) {lv:Nat→Bool} (hlv:∀s:Nat,s<R.length→(lv s=true↔Lv R s)) :
 Gb (gq R lv) (gq R lv).length (loOf (aT (pOf (gq R lv)))) (hiOf (aT (pOf (gq R lv)))) (dF (gq R lv) 256).length (fun s i=>bL (gq R lv) s (loOf (aT (pOf (gq R lv))) i)):=by
 rw[rC];exact vK (Gl hw lv) (uJ _) (D7 hw hlv)
theorem nS (v0:Value) (l:Table) (m:Mem) (w:World) (hm:m.inn w) (hl:aI m v0 l) (hlen:l.length≤1000000) :
 Calls Tryz.prog 120 #[v0] w fun e w'=>∃r C,e=.returned (.tuple #[.agg #[r],.int .i64 (if tf (WF l)=true then 0 else 11)])∧Below w.heap.size w w'∧aI (m.grow w w') r C∧C.length≤l.length+1 ∧
  (WF l→R8 l C)∧(¬ WF l→C=[]):=by
 have hl0:=hl;have hby:=xZ hl;obtain⟨a,c,rfl,h1,h2,h3⟩:=hl;unfold maxLen at h2;have HW:=zh (fun w (hw:m.inn w)=>Bb (.slice a l.length c) l m w hw hl0);refine aj fun R hR=>?_;have hO:=(Own.start hm).al #[.slice none 0 0] 27;have HO:=zh hO;clear hO
 go_enter Tryz.func120,Tryz.ntmps120
 go_wp2_with fail
 refine (HW.out _ (Mem.dK HO.out.ext.le HO.out.inn)).mono ?_;rintro e w1 ⟨rfl,hb1⟩;have hO1:=HO.out.move hb1;have g1:=hO1.obj.cell (i:=0) rfl;have g2:=hO1.obj.frozen 0;have g3:=hO1.obj.lt;clear HO hb1;by_cases hwf:WF l
 ·rw[aN hwf];by_cases h0:l.length=0
  ·have hln:l=[]:=List.eq_nil_of_length_eq_zero h0;have hO2:=hO1.set 0 (.slice none 0 0);have g4:=hO2.obj.cell (i:=0) rfl;have Hk:=zh (zi hO2 hln);have hdec:((l.length:Int)==0)=true:=by simp[h0]
   clear hO1 hO2 hln h0;go_wp2;refine bodyPost_ret (v:=.tuple #[.agg #[.slice none 0 0],.int .i64 0]) (by simp[results,Tryz.results120,go_sem,g1]) rfl ?_;refine hR.out _ _ ⟨_,[],by rw[aN hwf];rfl,Hk.out.1.below,aZ _,zS,fun _=>⟨eu,fun x=>?_⟩,fun _=>rfl⟩;rw[Hk.out.2]
  ·have hdec:((l.length:Int)==0)=false:=beq_eq_false_iff_ne.2 zo;have HA:=zh (F9 (.slice a l.length c) l m w1 (Mem.dK hO1.ext.le hO1.inn) hl0 hwf hlen);have HO1:=zh hO1;clear hO1
   go_wp2_with fail
   refine HA.out.mono ?_;rintro e w2 ⟨rv,lv0,rfl,hb2,hr2,hlv0,hiff0⟩;have hO2:=HO1.out.call hb2;have hle2:=Mem.eO (w:=w2) (Mem.dK HO1.out.ext.le HO1.out.inn);obtain⟨la,lc,rfl,l1,l2,l3⟩:=hr2;have hlv1:l.length≤lv0.length:=zo;clear hlv0;obtain⟨lb,lo',rfl,l4⟩:=l3 (by intro h;simp[h] at hlv1;simp[hlv1] at h0);have z0:=l4 0 zo;rw[Nat.add_zero] at z0;have z1:w2.cell? ⟨lb,lo',none⟩=some (.bool lv0[0]):=Mem.av (Mem.Jq (Mem.dK HO1.out.ext.le HO1.out.inn) hb2) z0;have hb0:bt lv0 0=lv0[0]:=pQ zo;have HF:=zh (zi (hiff0 0 zo) hb0);have g1:=hO2.obj.cell (i:=0) rfl;have g2:=hO2.obj.frozen 0;have g3:=hO2.obj.lt;clear hb0 hiff0 HA HO1;have hlvp:0<lv0.length:=zo;generalize lv0[0]=b0 at *
   cases b0 with
   | false=>
    have hO3:=hO2.set 0 (.slice none 0 0);have g4:=hO3.obj.cell (i:=0) rfl;have Hk:=zh hO3;clear hO2 hO3;go_wp2;refine bodyPost_ret (v:=.tuple #[.agg #[.slice none 0 0],.int .i64 0]) (by simp[results,Tryz.results120,go_sem,g1]) rfl ?_;refine hR.out _ _ ⟨_,[],by rw[aN hwf];rfl,Hk.out.below,aZ _,zS,fun _=>⟨eu,fun x=>?_⟩,fun h=>absurd hwf h⟩;rw[dC]
    cases hx:aJ l 0 x with
    | false=>rfl
    | true=>
     have:=HF.out.1.2 ⟨x,hx⟩
     rw[HF.out.2] at this;cases this
   | true=>
    have hm2:=hO2.inn;have HRe:=zh (GG (.slice a l.length c) l _ w2 hm2 (aK hO2.ext.le hl0) hwf hlen zo (fun s hs=>by have:=yh hwf hby s hs;omega));have HO2:=zh hO2;clear hO2 hm2
    go_wp2_with fail
    refine HRe.out.mono ?_;rintro e w3 ⟨r3,o,rfl,hb3,hst3,hri⟩;have hO3:=HO2.out.call hb3;obtain⟨q1,q2,q3,q4⟩:=MX hwf hby hri;have hoN:=zq hri.nodup hri.lt;have hRp:1≤(jo l o o.length).length:=by
     have hf:=hri.first;rw[q3]
     cases o with
     | nil=>simp at hf
     | cons _ _=>simp
    have hlvR:Lv (jo l o o.length) 0:=by
     obtain⟨x,hx⟩:=HF.out.1.1 HF.out.2;exact⟨x,by rw[q4];exact hx⟩
    have HTr:=zh (Gj r3 (jo l o o.length) _ w3 hO3.inn hst3 q1 zo (fun s hs=>by have:=yh q1 q2 s hs;omega));have HO3:=zh hO3;have HR0:=zh (zi q4 hlvR);have hRl:(jo l o o.length).length≤l.length:=zo;obtain⟨r3a,r3c,rfl⟩:∃ra rc,r3=.slice ra (jo l o o.length).length rc:=by obtain⟨x,y,e,-⟩:=hst3;exact⟨x,y,e⟩
    clear hO3 HRe HO2 hst3 hb3 q3 q4 hlvR hri hoN;generalize jo l o o.length=R at *
    go_wp2_with fail
    refine HTr.out.mono ?_;rintro e w4 ⟨r4,lv,rfl,hb4,hst4,hlv⟩;have hO4:=HO3.out.call hb4;have hTl:(gq R lv).length=R.length:=by simp[gq]
    have hTw:=Gl q1 lv;have HSt:=zh (LW r4 (gq R lv) _ w4 hO4.inn hst4 hTw);obtain⟨r4a,r4c,rfl⟩:∃ra rc,r4=.slice ra (gq R lv).length rc:=by obtain⟨x,y,e,-⟩:=hst4;exact⟨x,y,e⟩
    have HO4:=zh (zi hO4 (zi hst4 (zi hTw (zi hlv (zi q1 q2)))));have hTl2:(gq R lv).length≤R.length:=zo;have hTl3:R.length≤(gq R lv).length:=zo;clear hO4 HO3 HTr hst4 hb4 hTl hTw hlv q1 q2
    go_wp2_with fail
    refine HSt.out.mono ?_;rintro e w5 ⟨r5,rfl,hb5,hst5⟩;have hO5:=HO4.out.1.call hb5;have hTw:=HO4.out.2.2.1;have hlv:=HO4.out.2.2.2.1;have q1:=HO4.out.2.2.2.2.1;have q2:=HO4.out.2.2.2.2.2;have hle5:=Mem.eO (w:=w5) HO4.out.1.inn;have HCl:=zh (Iz _ r5 (gq R lv) (dF (gq R lv) 256) _ _ _ w5 hO5.inn (aK hle5 HO4.out.2.1) hst5 hTw zo zo (Nr q1 hlv) (GR (gq R lv)) (oH _ 256));have HN0:=zh (fun cls (hc:wJ (gq R lv) (gq R lv).length cls)=>Ns q1 q2 hlv zo hRp HR0.out.2 hc);have HL:=zh (fun x=>yu q1 hlv x 0);have hst4:=aK hle5 HO4.out.2.1;obtain⟨r5a,r5c,rfl⟩:∃ra rc,r5=.slice ra (dF (gq R lv) 256).length rc:=by obtain⟨x,y,e,-⟩:=hst5;exact⟨x,y,e⟩
    have HO5:=zh (zi hO5 (zi hst4 hst5));have hTl4:(gq R lv).length≤l.length:=zo;have hTl5:1≤(gq R lv).length:=zo;have HR0:=zh HR0;clear hO5 HO4 HSt hst4 hst5 hb5 hle5 hTw hlv q1 q2 hTl2 hTl3;generalize gq R lv=T at *
    generalize loOf (aT (pOf T))=lo at *
    generalize hiOf (aT (pOf T))=hi at *
    generalize dF T 256=cuts at *
    go_wp2_with fail
    refine HCl.out.mono ?_;rintro e w6 ⟨r6,cls,rfl,hb6,hst6,hcls⟩;have hO6:=HO5.out.1.call hb6;have hle6:=Mem.eO (w:=w6) HO5.out.1.inn;have hN:=HN0.out cls hcls;have hT6:=aK hle6 HO5.out.2.1;have hc6:=gU hle6 HO5.out.2.2;have HN:=zh hN;have hclen:=hN.clen;obtain⟨r6a,r6c,rfl⟩:∃ra rc,r6=.slice ra cls.length rc:=by obtain⟨x,y,e,-⟩:=hst6;exact⟨x,y,e⟩
    have hO7:=(((hO6.al #[.int .i64 0] 3).Qs).al #[.slice none 0 0] 27).eH 66 2;have hsz:(w6.alloc (.cells #[.int .i64 0] 3)).heap.size=w6.heap.size+1:=by simp
    rw[hsz] at hO7;have HO7:=zh hO7;have hTl4:=hN.len;have hcll:=hcls.len;obtain⟨cf,hcf⟩:∃cf:Nat→Int,cf=fun s=>cls.getD s 0:=⟨_,rfl⟩;obtain⟨dl,hdl⟩:∃dl:Nat→Nat→Option Nat,dl=dlT T lo:=⟨_,rfl⟩;obtain⟨ah,hah⟩:∃ah:Nat→Bool,ah=fun (s:Nat)=>bG T (s:Int):=⟨_,rfl⟩;have HB:Hid (rY T T.length cf dl lo hi ah cuts.length):=zh (by rw[hcf,hdl,hah];exact hN.bfs);have HI:=zh (fun k hk=>IC (cf:=cf) (ac:=ah) HB.out.iv HB.out.pos (fun s i t h1 h2 h3=>(HB.out.some s i t h1 h2 h3).1) k hk);have Hfun:=zh (zi hcf (zi hdl hah));have Hdat:=zh (zi hT6 (zi hc6 hst6));obtain⟨_,_,e4,t2,t3,t4⟩:=hT6;injection e4 with e4a e4b e4c;subst e4a;subst e4c;obtain⟨_,_,e5,u2,u3,u4⟩:=hc6;injection e5 with e5a e5b e5c;subst e5a;subst e5c;obtain⟨_,_,e6,v2,v3,v4⟩:=hst6;injection e6 with e6a e6b e6c;subst e6a;subst e6c;obtain⟨tb,to',rfl,t5⟩:=t4 (by intro h;simp[h] at hTl5);have hclsp:1≤cls.length:=zo;obtain⟨kb,ko,rfl,v5⟩:=v4 (by intro h;simp[h] at hclsp);unfold maxLen at t3 u3 v3;have hcl1:T.length≤cls.length:=zo;have hcl2:cls.length≤T.length:=zo;generalize hmk0:Mem.grow _ w5 w6=mk0 at *
    generalize hB6:w6.heap.size=B6 at *
    clear hcf hdl hah HCl HO5 HN0 hb6 hle6 hN hO7 hO6 hsz hcls hmk0 e4b e5b e6b t4 v4 hcll;go_wp2;refine ay [2,4,5,6,7,8,9] (fun n vs wr=>∃(k:Nat) (vo vst:Value) (xs:List Value) (mk:Mem),
     (∀j,j<k→j<(eQ cf dl lo hi ah cuts.length j).1.length)∧k≤(eQ cf dl lo hi ah cuts.length k).1.length∧n=T.length - k ∧
     vs=[.pointer (some ⟨w.heap.size,0,none⟩),.slice (some ⟨tb,to',none⟩) T.length r4c,.slice r5a cuts.length r5c,.slice (some ⟨kb,ko,none⟩) cls.length r6c,vo,.pointer (some ⟨B6+1,0,none⟩),.int .i64 k] ∧
     Own w m wr mk [.row vst 66 2 k xs,.obj (B6+1) 27 #[vst],.row vo 3 1 (eQ cf dl lo hi ah cuts.length k).1.length (dM (eQ cf dl lo hi ah cuts.length k).1),.obj w.heap.size 27 #[.slice none 0 0]] ∧
     jX mk xs (eQ cf dl lo hi ah cuts.length k).2∧mk0.le mk) ?_ ?_
    ·exact⟨_,0,.slice (some ⟨B6,0,none⟩) 1 1,.slice none 0 0,[],_,fun j hj=>zo,Nat.zero_le _,rfl,rfl,HO7.out,jX.nil _,Mem.le_refl _⟩
    clear HO7;rintro X z n vs wr hX - ⟨k,vo,vst,xs,mk,hk1,hk2,rfl,rfl,hO,hrow,hmk⟩;simp[litL,lk];have hBI:=HI.out k hk1;obtain⟨voa,voc,rfl⟩:=aO hO.third.row;by_cases hlt:k<(eQ cf dl lo hi ah cuts.length k).1.length
    ·have hsN:=hBI.lt _ (List.getElem_mem hlt);have hoN:=nV hBI.dif hBI.lt;obtain⟨vob,rfl⟩:=jH hO.third.row zo;have hr1s:=qy hlt;have r1:=aX hO.third.row hr1s;have rl:=(World.ownsRow.lt hO.third.row _ rfl).2;have hgd:(eQ cf dl lo hi ah cuts.length k).1.getD k 0=(eQ cf dl lo hi ah cuts.length k).1[k]:=by simp[hlt]
     have hok:(eQ cf dl lo hi ah cuts.length k).1[k]?=some (eQ cf dl lo hi ah cuts.length k).1[k]:=by simp[hlt]
     have hE:=Cm cf dl lo hi ah cuts.length k;rw[hgd] at hE;have HBI:=zh hBI;have Hob:=zh (show ∀j,j<k+1→j<(eQ cf dl lo hi ah cuts.length j).1.length from fun j hj=>by
      by_cases c:j<k
      ·exact hk1 j c
      ·have:j=k:=zo;subst this;exact hlt)
     clear hBI hgd hk1 hk2;generalize (eQ cf dl lo hi ah cuts.length k).1[k]=s at *
     obtain⟨a1,-⟩:=t5 s hsN;have a1w:=Mem.av hO.inn (Mem.aF hmk a1);have a1l:=Mem.ak hO.inn (Mem.aF hmk a1);have hahs:ah s=(T[s]).accept:=by
      have h1:=congrFun Hfun.out.2.2 s;rw[h1,gG T s hsN]
     rw[← hahs] at a1w;clear hahs a1;generalize eQ cf dl lo hi ah cuts.length k=r at *
     obtain⟨o,out⟩:=r;simp only at *
     have hO2:=(hO.al #[.bool (ah s),.slice none 0 0] 66).eH 106 3;have HO2:=zh hO2;have HE:=zh hE;have Hok:=zh hok;clear hO2 hO hr1s hE hok;generalize hS:wr.heap.size=S at *
     go_wp2;have HRI:=zh (show ∀i,i≤cuts.length→JI cf dl lo hi cuts.length T.length s o i (dG cf dl lo hi s o i) from
      Gz HB.out.iv HBI.out.dif HBI.out.lt (fun i t hi' ht=>(HB.out.some s i t hsN hi' ht).1))
     refine ay [2,4,5,6,7,8,9,10,56,57,58] (fun n vs wr2=>∃(i:Nat) (vo ve:Value),i≤cuts.length∧n=cuts.length - i ∧
      vs=[.pointer (some ⟨w.heap.size,0,none⟩),.slice (some ⟨tb,to',none⟩) T.length r4c,.slice r5a cuts.length r5c,.slice (some ⟨kb,ko,none⟩) cls.length r6c,vo,.pointer (some ⟨B6+1,0,none⟩),.int .i64 k,.pointer (some ⟨S,0,none⟩),.slice r5a cuts.length r5c,.int .i64 cuts.length,.int .i64 i] ∧
      Own w m wr2 mk [.row ve 106 3 (dG cf dl lo hi s o i).2.length (dh (dG cf dl lo hi s o i).2),.obj S 66 #[.bool (ah s),ve],.row vst 66 2 k xs,.obj (B6+1) 27 #[vst],
       .row vo 3 1 (dG cf dl lo hi s o i).1.length (dM (dG cf dl lo hi s o i).1),.obj w.heap.size 27 #[.slice none 0 0]]) ?_ ?_
     ·exact⟨_,0,.slice (some ⟨vob,0,none⟩) o.length voc,.slice none 0 0,Nat.zero_le _,rfl,rfl,HO2.out⟩
     clear HO2 r1 rl a1w a1l;rintro Y z2 n vs wr2 hY - ⟨i,vo,ve,hi1,rfl,rfl,hO⟩;simp[litL,lk];have hri:=HRI.out i hi1;have hol:=hri.pre.length_le;obtain⟨voa',voc',rfl⟩:=aO (hO.lW (v:=vo) (t:=3) (size:=1) (n:=(dG cf dl lo hi s o i).1.length) (xs:=dM (dG cf dl lo hi s o i).1) zS);obtain⟨vea,vec,rfl⟩:=aO hO.row;have hqN:=nV hri.dif hri.lt;have hqe:=Er cf dl lo hi s o i;by_cases hlt3:i<cuts.length
     ·obtain⟨cb,co,rfl,u5⟩:=u4 (by intro h;simp[h] at hlt3);have hle:=HB.out.iv.le i hlt3;have c1:=u5 i hlt3;have hcl3:=HN.out.cut.lo i hlt3;rw[hcl3] at c1;have c1w:=Mem.av hO.inn (Mem.aF hmk c1.1);have c1l:=Mem.ak hO.inn (Mem.aF hmk c1.1);have hok2:(dG cf dl lo hi s o i).1[k]?=some s:=by
       obtain⟨x,hx⟩:=hri.pre;rw[← hx,List.getElem?_append_left hlt];exact Hok.out
      have hrow0:=hO.lW (v:=.slice voa' (dG cf dl lo hi s o i).1.length voc') (t:=3) (size:=1) (n:=(dG cf dl lo hi s o i).1.length) (xs:=dM (dG cf dl lo hi s o i).1) zS;obtain⟨vob',rfl⟩:=jH hrow0 zo;have hoc:(dM (dG cf dl lo hi s o i).1)[k]?=some (.int .i64 s):=by
       unfold dM;rw[List.getElem?_map,hok2];rfl
      have r1:=aX hrow0 hoc;have rl:=(World.ownsRow.lt hrow0 _ rfl).2;have hwu:IntKind.u8.wrap (lo i:Int)=(lo i:Int):=IntWalk.u8_in _ zo;have hst:=JG (.slice (some ⟨tb,to',none⟩) T.length r4c) T s (lo i) mk wr2 hO.inn (aK hmk Hdat.out.1) zo zo;have hdlx:dl s i=if bL T s (lo i)<0 then none else some (bL T s (lo i)).toNat:=congrFun (congrFun Hfun.out.2.1 s) i;have hkl:k<(dG cf dl lo hi s o i).1.length:=zo;clear hcl3 hok2 hrow0 hoc c1;rcases fQ HN.out.wf s (lo i) with ht | ⟨ht1,ht2⟩
      ·rw[ht] at hst;rw[if_pos zo] at hdlx;have hN:=Br (cf:=cf) (lo:=lo) (hi:=hi) (o:=o) hdlx;have HN2:=zh hN;have HST:=zh hst;have HO:=zh hO;clear hN hdlx ht hst hri hO
       go_wp2_with fail
       refine HST.out.mono ?_;rintro e w7 ⟨rfl,hb7⟩;have hO2:=HO.out.move hb7;clear HO hb7 c1w r1;go_wp2;refine hY.out _ _ _ zo rfl ⟨i+1,.slice (some ⟨vob',0,none⟩) (dG cf dl lo hi s o i).1.length voc',.slice vea (dG cf dl lo hi s o i).2.length vec,zo,rfl,rfl,?_⟩;rw[HN2.out];exact hO2
      ·obtain⟨tn,htn⟩:=Int.eq_ofNat_of_zero_le ht1;rw[htn] at hst ht2 hdlx;rw[if_neg zo,Int.toNat_natCast] at hdlx;have hN:=Bq (cf:=cf) (lo:=lo) (hi:=hi) (o:=o) hdlx;have hri2:=HRI.out (i+1) zo;have HN2:=zh (zi hN (zi hri2 hri));have HST:=zh hst;have HO:=zh hO;have hhi:=HN.out.cut.hi i hlt3;unfold FH at hhi;clear hN hdlx hst hri hri2 hO ht1 htn;generalize dG cf dl lo hi s o i=q at *
       obtain⟨o',es⟩:=q;simp only at hqN hqe hol hkl
       go_wp2_with fail
       refine HST.out.mono ?_;rintro e w7 ⟨rfl,hb7⟩;have hO2:=HO.out.move hb7;have c1w:=Mem.av hO2.inn (Mem.aF hmk (u5 i hlt3).1);clear HO hb7 c1w r1
       go_upto_if 77 with (fail)
       refine aA [2,4,5,6,7,8,9,10,56,57,58,12,13,14] (fun vs w'=>vs=[.pointer (some ⟨w.heap.size,0,none⟩),.slice (some ⟨tb,to',none⟩) T.length r4c,.slice (some ⟨cb,co,none⟩) cuts.length r5c,.slice (some ⟨kb,ko,none⟩) cls.length r6c,.slice (some ⟨vob',0,none⟩) o'.length voc',.pointer (some ⟨B6+1,0,none⟩),.int .i64 k,.pointer (some ⟨S,0,none⟩),.slice (some ⟨cb,co,none⟩) cuts.length r5c,.int .i64 cuts.length,.int .i64 i,.int .i64 (lo i),.int .i64 tn,.int .i64 (hi i)]∧w'=w7) ?_ ?_
       ·intro V hV;by_cases hnx:i+1<cuts.length
        ·rw[dif_pos hnx] at hhi;have d1:=u5 (i+1) hnx;have hcl4:=HN.out.cut.lo (i+1) hnx;rw[hcl4] at hhi d1;have d1w:=Mem.av hO2.inn (Mem.aF hmk d1.1);have d1l:=Mem.ak hO2.inn (Mem.aF hmk d1.1);have hsep:=HB.out.iv.sep i (i+1) zo hnx;have hle5:=HB.out.iv.le (i+1) hnx;have hdec:decide (i+1<cuts.length)=true:=decide_eq_true hnx;have Hhi:=zh hhi;clear hhi hcl4 d1;go_wp2;refine hV.out _ _ rfl ⟨?_,rfl⟩;rw[← Hhi.out];rfl
        ·rw[dif_neg hnx] at hhi;have hdec:decide (i+1<cuts.length)=false:=decide_eq_false hnx;have Hhi:=zh hhi;clear hhi;go_wp2;refine hV.out _ _ rfl ⟨?_,rfl⟩;rw[← Hhi.out];rfl
       rintro z3 vs w8 - ⟨rfl,rfl⟩;simp[litL,lk];clear hhi;have hq1:=(hO2.pull (l₁:=[_,_,_,_]));have hq2:=hq1.bD;have hcn:∀y∈o'.map Int.ofNat,0≤y∧y<cls.length:=fun y hy=>by
        obtain⟨x,hx,rfl⟩:=List.mem_map.1 hy;have:=HN2.out.2.2.lt x hx;simp only[Int.ofNat_eq_natCast];omega
       have hin:=fH (l:=o'.map Int.ofNat) (m:=mk) (by rw[List.length_map,← CO];exact hq1.row) (fun y hy=>by have:=hcn y hy;omega);have hnum:=EP _ (.slice (some ⟨kb,ko,none⟩) cls.length r6c) (o'.map Int.ofNat) cls tn _ _ hq2.inn hin (gU (Mem.le_trans hmk (Mem.eD hq1.free)) Hdat.out.2.2) zo hcn;rw[EO zo] at hnum;have hcf0:(fun s=>cls.getD s 0)=cf:=Hfun.out.1.symm;rw[hcf0] at hnum;have hap:=qX cf o' tn;have hpo:=qV cf o' tn;have hap2:=hap.2;have hap1:=hap.1;have HNum:=zh (zi hnum (zi hO2 hap));have hrd:(dQ cf o' tn).length=o'.length∨(dQ cf o' tn).length=o'.length+1∧eX cf o' tn=o'.length:=BI;have Hpq:=zh (show dQ cf o' tn=if eX cf o' tn<o'.length then o' else o' ++ [tn] from rfl);clear hnum hin hcn hq1 hq2 hO2 hap hcf0 hap1 hrd c1w;generalize hp:eX cf o' tn=p at *
       have Hp:=zh hp;clear hp
       go_wp2_with fail
       refine HNum.out.1.mono ?_;rintro e w9 ⟨rfl,hb9⟩;have hO2:=HNum.out.2.1.move hb9;clear hb9
       go_upto_if 91 with (fail)
       refine aA [2,4,5,6,7,8,9,10,56,57,58,12,13,14,15] (fun vs w'=>∃vo2:Value,vs=[.pointer (some ⟨w.heap.size,0,none⟩),.slice (some ⟨tb,to',none⟩) T.length r4c,.slice (some ⟨cb,co,none⟩) cuts.length r5c,.slice (some ⟨kb,ko,none⟩) cls.length r6c,vo2,.pointer (some ⟨B6+1,0,none⟩),.int .i64 k,.pointer (some ⟨S,0,none⟩),.slice (some ⟨cb,co,none⟩) cuts.length r5c,.int .i64 cuts.length,.int .i64 i,.int .i64 (lo i),.int .i64 tn,.int .i64 (hi i),.int .i64 p] ∧
        Own w m w' mk [.row (.slice vea es.length vec) 106 3 es.length (dh es),.obj S 66 #[.bool (ah s),.slice vea es.length vec],.row vst 66 2 k xs,.obj (B6+1) 27 #[vst],
         .row vo2 3 1 (dQ cf o' tn).length (dM (dQ cf o' tn)),.obj w.heap.size 27 #[.slice none 0 0]]) ?_ ?_
       ·intro V hV;by_cases hf:p<o'.length
        ·have hdec:((p:Int)==(o'.length:Int))=false:=beq_eq_false_iff_ne.2 zo;have hpq:=Hpq.out;rw[if_pos hf] at hpq;have Hpq2:=zh hpq;clear hpq;go_wp2;refine hV.out _ _ rfl ⟨.slice (some ⟨vob',0,none⟩) o'.length voc',rfl,?_⟩;rw[Hpq2.out];exact hO2
        ·have hdec:((p:Int)==(o'.length:Int))=true:=beq_iff_eq.2 zo;have hpq:=Hpq.out;rw[if_neg hf] at hpq;have Hpq2:=zh hpq;have hO3:=hO2.al #[.int .i64 tn] 3;have hnews:=hO3.obj.news rfl;clear hpq
         go_wp2_with (at_builtin;refine aC yo rfl (.tmp 92) (.tmp 94) rfl (.slice (some ⟨vob',0,none⟩) o'.length voc') o'.length (dM o') rfl (hO3.lW zS) ⟨w9.heap.size,0,none⟩ 1 1 [.int .i64 tn] rfl rfl hnews (by simp[Value.oneCell']) (by unfold maxLen;omega) zo ?_)
         intro va vc w7' hown7 hgrow7 hrow7;have hO4:=(hO3.pull (l₁:=[_,_,_,_,_])).app hown7 hgrow7 hrow7 zS;have hO5:=(hO4.ym (l₁:=[_,_,_,_,_])).tail;have HO5:=zh hO5;clear hO5 hO4 hO3 hown7 hgrow7 hrow7 hnews;go_wp2;refine hV.out _ _ rfl ⟨.slice va (o'.length+1) vc,rfl,?_⟩;rw[Hpq2.out];have:=HO5.out;simpa [dM] using this
       rintro z4 vs w10 - ⟨vo2,rfl,hO3⟩;simp[litL,lk];clear hO2;obtain⟨voa2,voc2,rfl⟩:=aO (hO3.lW (v:=vo2) (t:=3) (size:=1) (n:=(dQ cf o' tn).length) (xs:=dM (dQ cf o' tn)) zS);have hpN:p≤2000000:=by
        have h2:=nV HN2.out.2.1.dif HN2.out.2.1.lt;rw[HN2.out.1] at h2;simp only at h2;omega
       have hedok:=xS (N:=T.length) HN2.out.2.2 zo;simp only at hedok;have hes0:es=[]∨∃fs e,es=fs ++ [e]:=by
        rcases List.eq_nil_or_concat es with h | ⟨fs,e,h⟩
        ·exact .inl h
        ·exact .inr ⟨fs,e,by rw[h,List.concat_eq_append]⟩
       obtain⟨q,hq⟩:∃q,es.length=q:=⟨_,rfl⟩;rw[hq] at hO3 hqe;have Hq:=zh (zi hq (zi hedok hes0));have s1:=hO3.swap.obj.cell (i:=1) rfl;have s2:=hO3.swap.obj.lt;clear hq hedok hes0
       go_upto_region 26 with (fail)
       refine aA [2,4,5,6,7,8,9,10,56,57,58,12,14,15,16,123] (fun vs w'=>∃bb:Bool,vs=[.pointer (some ⟨w.heap.size,0,none⟩),.slice (some ⟨tb,to',none⟩) T.length r4c,.slice (some ⟨cb,co,none⟩) cuts.length r5c,.slice (some ⟨kb,ko,none⟩) cls.length r6c,.slice voa2 (dQ cf o' tn).length voc2,.pointer (some ⟨B6+1,0,none⟩),.int .i64 k,.pointer (some ⟨S,0,none⟩),.slice (some ⟨cb,co,none⟩) cuts.length r5c,.int .i64 cuts.length,.int .i64 i,.int .i64 (lo i),.int .i64 (hi i),.int .i64 p,.int .i64 ((q:Int) - 1),.bool bb] ∧
        w'=w10∧(bb=true↔∃(fs:List Ed) (e:Ed),es=fs ++ [e]∧e.to=(p:Int)∧e.hi+1=lo i)) ?_ ?_
       ·intro V hV;rcases Hq.out.2.2 with hnil | ⟨fs,e,hfe⟩
        ·have hq0:q=0:=by rw[← Hq.out.1,hnil];rfl
         have Hn:=zh hnil;subst hq0;clear hnil;go_wp2;exact hV.out _ _ rfl ⟨false,rfl,rfl,by rw[Hn.out];simp⟩
        ·have hq1:q=fs.length+1:=by rw[← Hq.out.1,hfe];simp
         have hed:=Hq.out.2.1 e (by rw[hfe];simp);have hec:=jW es fs.length (by rw[hfe];simp);have hel:es[fs.length]'(by rw[hfe];simp)=e:=by simp[hfe]
         rw[hel] at hec;have HL:=zh (zi hfe (Ji fs e (p:Int) (lo i)));subst hq1;obtain⟨eb,rfl⟩:=jH hO3.row zo;have y1:=aX hO3.row hec.2.1;have y2:=aX hO3.row hec.2.2;have hbl:=(World.ownsRow.lt hO3.row _ rfl).2;have hlt5:fs.length<fs.length+1:=zo;clear hel hec hfe;by_cases hc1:e.to=(p:Int)
         ·by_cases hc2:e.hi+1=lo i
          ·have Hc:=zh (zi hc1 hc2);have hdec1:((e.to:Int)==(p:Int))=true:=beq_iff_eq.2 hc1;have hdec2:((e.hi:Int)+1==(lo i:Int))=true:=beq_iff_eq.2 zo;have hed1:=hed.2.1;clear hc1 hc2;go_wp2;exact hV.out _ _ rfl ⟨true,zS,rfl,by rw[HL.out.1,HL.out.2];simp[Hc.out.1,Hc.out.2]⟩
          ·have Hc:=zh (zi hc1 hc2);have hdec1:((e.to:Int)==(p:Int))=true:=beq_iff_eq.2 hc1;have hdec2:((e.hi:Int)+1==(lo i:Int))=false:=beq_eq_false_iff_ne.2 zo;have hed1:=hed.2.1;clear hc1 hc2;go_wp2;exact hV.out _ _ rfl ⟨false,zS,rfl,by rw[HL.out.1,HL.out.2];simp[Hc.out.2]⟩
         ·have Hc:=zh hc1;have hdec1:((e.to:Int)==(p:Int))=false:=beq_eq_false_iff_ne.2 hc1;clear hc1;go_wp2;exact hV.out _ _ rfl ⟨false,zS,rfl,by rw[HL.out.1,HL.out.2];simp[Hc.out]⟩
       rintro z5 vs w11 - ⟨bb,rfl,rfl,hbb⟩;simp[litL,lk];have Hbb:=zh hbb;clear hbb;have hwh:IntKind.u8.wrap (hi i:Int)=(hi i:Int):=IntWalk.u8_in _ zo;have hwl:IntKind.u8.wrap (lo i:Int)=(lo i:Int):=IntWalk.u8_in _ zo
       cases bb with
       | true=>
        obtain⟨fs,e,hfe,he1,he2⟩:=Hbb.out.1 rfl;have hq1:q=fs.length+1:=by rw[← Hq.out.1,hfe];simp
        have hpe:=BA (lo:=lo i) (hi:=hi i) (fs:=fs) (zi he1 he2);subst hfe;subst hq1;obtain⟨eb,rfl⟩:=jH hO3.row zo;have hec:=jW (fs ++ [e]) fs.length zS;have y1:=aX hO3.row hec.2.1;have y2:=dP hO3.row (fs.length*3+1);have hbl:=(World.ownsRow.lt hO3.row _ rfl).2;have hlt5:fs.length<fs.length+1:=zo;have hO6:=hO3.setRow (fs.length*3+1) (.int .u8 (hi i));rw[tu] at hO6;have Hfin:=zh (zi hO6 hpe);clear hO6 hO3 hpe he1 he2 hec;go_wp2;refine hY.out _ _ _ zo rfl ⟨i+1,.slice voa2 (dQ cf o' tn).length voc2,.slice (some ⟨eb,0,none⟩) (fs.length+1) vec,zo,rfl,rfl,?_⟩;rw[HN2.out.1,Hfin.out.2];have:=Hfin.out.1
        simpa using this
       | false=>
        have hpe:kN es (lo i) (hi i) p=es ++ [⟨lo i,hi i,(p:Int)⟩]:=by
         rcases Hq.out.2.2 with rfl | ⟨fs,e,rfl⟩
         ·rfl
         ·exact BB fun h=>by have:=Hbb.out.2 ⟨fs,e,rfl,h.1,h.2⟩;cases this
        have hO5:=hO3.al #[.int .u8 (lo i),.int .u8 (hi i),.int .i64 p] 106;have hnews:=hO5.obj.news rfl;have Hpe:=zh hpe;clear hpe hO3
        go_wp2_with (at_builtin;refine aC mO rfl (.tmp 132) (.tmp 139) rfl (.slice vea q vec) q (dh es) rfl hO5.swap.row ⟨w11.heap.size,0,none⟩ 1 1 [.int .u8 (lo i),.int .u8 (hi i),.int .i64 p] rfl rfl hnews (by simp[Value.oneCell']) (by unfold maxLen;omega) zo ?_)
        intro xa xc w12 hown7 hgrow7 hrow7;have hO6:=(hO5.swap.app hown7 hgrow7 hrow7 zS).drop2.swap;have s1:=hO6.obj.cell (i:=1) rfl;have s2:=hO6.obj.lt;have s3:=hO6.obj.frozen 1;have hO7:=(hO6.set 1 (.slice xa (q+1) xc)).swap;have Hfin:=zh hO7;clear hO7 hO6 hO5 hown7 hgrow7 hrow7 hnews;go_wp2;refine hY.out _ _ _ zo rfl ⟨i+1,.slice voa2 (dQ cf o' tn).length voc2,.slice xa (q+1) xc,zo,rfl,rfl,?_⟩;rw[HN2.out.1,Hpe.out];have:=Hfin.out;simpa [fq,Hq.out.1] using this
     ·obtain rfl:i=cuts.length:=zo;have s0:=hO.swap.obj.cell (i:=0) rfl;have s1:=hO.swap.obj.cell (i:=1) rfl;have sl:=hO.swap.obj.lt;have u0:=(hO.fI (g:=B6+1) (t:=27) (arr:=#[vst]) zS).cell (i:=0) rfl;have u1:=(hO.fI (g:=B6+1) (t:=27) (arr:=#[vst]) zS).lt;have hes:=fU (l:=(dG cf dl lo hi s o cuts.length).2) (m:=mk) hO.row (xS (N:=T.length) hri zo);have hO2:=hO.bD;have hmk2:=Mem.eD (w:=wr2) hO.free;have hrow2:=(hrow.mono hmk2).push (s:=⟨ah s,(dG cf dl lo hi s o cuts.length).2⟩) hes;obtain⟨vsta,vstc,rfl⟩:=aO hO2.swap.row;have hO3:=hO2.al #[.bool (ah s),.slice vea (dG cf dl lo hi s o cuts.length).2.length vec] 66;have Hk:=zh (zi hrow2 (Mem.le_trans hmk hmk2));clear hrow2 hes hmk2;generalize mk.addv wr2 (.slice vea (dG cf dl lo hi s o cuts.length).2.length vec)=mk2 at *
      have hnews:=hO3.obj.news rfl;have hvr:=hO3.third.row;clear hO hO2
      go_wp2_with (at_builtin;refine aC iH rfl (.tmp 144) (.tmp 146) rfl (.slice vsta k vstc) k xs rfl hvr ⟨wr2.heap.size,0,none⟩ 1 1 [.bool (ah s),.slice vea (dG cf dl lo hi s o cuts.length).2.length vec] rfl rfl hnews (by simp[Value.oneCell']) (by unfold maxLen;omega) zo ?_)
      intro va vc w7 hown7 hgrow7 hrow7;have hO4:=(hO3.third.app hown7 hgrow7 hrow7 zS).fourth;clear hown7 hgrow7 hrow7 hO3 hvr hnews;have u2:=hO4.obj.cell (i:=0) rfl;have u3:=hO4.obj.frozen 0;have u4:=hO4.obj.lt;have hO5:=((hO4.set 0 (.slice va (k+1) vc)).swap).nG.nG;have HO5:=zh hO5;clear hO5 hO4;go_wp2;have hpre:=hri.pre.length_le;refine hX.out _ _ _ zo rfl ⟨k+1,.slice voa' (dG cf dl lo hi s o cuts.length).1.length voc',.slice va (k+1) vc,xs ++ [.bool (ah s),.slice vea (dG cf dl lo hi s o cuts.length).2.length vec],mk2,?_,?_,rfl,rfl,?_,?_,Hk.out.2⟩
      ·exact Hob.out
      ·rw[HE.out];show k+1≤(dG cf dl lo hi s o cuts.length).1.length;omega
      ·rw[HE.out];exact HO5.out
      ·rw[HE.out];exact Hk.out.1
    ·have hkl2:(eQ cf dl lo hi ah cuts.length k).1.length=k:=zo;have hcan:=F7 HB.out hk1 hkl2;have hNl:=nV hBI.dif hBI.lt;rw[hkl2] at hNl;have hclen2:=hBI.len;generalize eQ cf dl lo hi ah cuts.length k=r at *
     obtain⟨vsta,vstc,rfl⟩:=aO hO.row;have u1:=hO.swap.obj.cell (i:=0) rfl;have hO2:=(hO.pull (l₁:=[_,_,_]));have u2:=hO2.obj.cell (i:=0) rfl;have u3:=hO2.obj.frozen 0;have u4:=hO2.obj.lt;have hO3:=(hO2.set 0 (.slice vsta k vstc)).swap;have hst:=dZ (l:=r.2) (m:=mk) (by rw[hclen2];exact hO3.row) hrow hO3.free;have hst2:=aK hO3.bD.done hst;have hbel:=hO3.below;have g4:=hO3.swap.obj.cell (i:=0) rfl;have Hk:=zh (zi hcan (zi hst2 (zi hbel (zi hNl hclen2))));clear hcan hst hst2 hbel hNl hclen2 hO3 hO2 hO hBI hrow hkl2;go_wp2;refine bodyPost_ret (v:=.tuple #[.agg #[.slice vsta k vstc],.int .i64 0]) (by simp[results,Tryz.results120,go_sem,g4]) rfl ?_;refine hR.out _ _ ⟨_,r.2,by rw[aN hwf];rfl,Hk.out.2.2.1,Hk.out.2.1,?_,fun _=>⟨Hk.out.1.1,fun x=>?_⟩,fun h=>absurd hwf h⟩
     ·have h1:=Hk.out.2.2.2.1;have h2:=Hk.out.2.2.2.2;omega
     ·rw[Hk.out.1.2,HL.out,HR0.out.out.1]
 ·rw[aL hwf];have hO2:=hO1.set 0 (.slice none 0 0);have g4:=hO2.obj.cell (i:=0) rfl;have Hk:=zh (zi hO2 hwf);clear hO1 hO2 hwf;go_wp2;refine bodyPost_ret (v:=.tuple #[.agg #[.slice none 0 0],.int .i64 11]) (by simp[results,Tryz.results120,go_sem,g1]) rfl ?_;exact hR.out _ _ ⟨_,[],by rw[aL Hk.out.2];rfl,Hk.out.1.below,aZ _,zS,fun h=>absurd h Hk.out.2,fun _=>rfl⟩
theorem xh (v0:Value) (l:Table) (m:Mem) (w:World) (hm:m.inn w) (hl:aI m v0 l) (hlen:l.length≤1000000) :
 Calls Tryz.prog 67 #[.agg #[v0]] w fun e w'=>e=.returned (.bool (tf (Canon l)))∧Below w.heap.size w w':=by
 have hl0:=hl;obtain⟨a,c,rfl,h1,h2,h3⟩:=hl;refine aj fun R hR=>?_;have hO:=(Own.start hm).al #[.slice a l.length c] 27;have HM:=zh (nS (.slice a l.length c) l m _ hO.inn hl0 hlen);have HO:=zh hO;clear hO
 go_enter Tryz.func67,Tryz.ntmps67
 go_wp2_with fail
 refine HM.out.mono ?_;rintro e w1 ⟨r,C,rfl,hb1,hst,hClen,hmin,hnot⟩;have hO1:=HO.out.call hb1;have hle:=hO1.ext.le;obtain⟨ra,rc,rfl⟩:∃ra rc,r=.slice ra C.length rc:=by obtain⟨x,y,e,-⟩:=hst;exact⟨x,y,e⟩
 have hO2:=hO1.al #[.slice ra C.length rc] 27;have g1:=hO2.swap.obj.cell (i:=0) rfl;have g2:=hO2.swap.obj.lt;have HS:=zh (yQ (.slice a l.length c) (.slice ra C.length rc) l C _ _ hO2.inn (aK hle hl0) hst);have HO2:=zh hO2;clear hO1 hO2 HM HO;by_cases hwf:WF l
 ·rw[aN hwf];have hci:=uY hmin hwf;have Hk:=zh (zi hci (zi hmin hnot));clear hmin hnot hci
  go_wp2_with fail
  refine HS.out.mono ?_;rintro e w3 ⟨rfl,hb3⟩;have hb4:=(HO2.out.move hb3).below;go_wp2;exact hR.out _ _ ⟨aQ (by rw[fT Hk.out.1]),hb4⟩
 ·rw[aL hwf];have Hk:=zh (zi hwf (zi hmin hnot));clear hmin hnot hwf;go_wp2;exact hR.out _ _ ⟨aQ (by rw[aL (fun h=>Hk.out.1 h.wf)]),HO2.out.below⟩
end Cl
