/- Lemmas for the proofs of chapter 11. -/
import Derived.Test.YtajbfioncdnkcaaGreatDoorProg
import Derived.BigQuiet
import Derived.Deep.Cut
import Derived.Deep.QuietTactic
import Derived.Laws.StructEq
import Derived.Lib.AppendStr
import Derived.Lib.Builder
import Derived.Lib.Hide
import Derived.Lib.ItoaLen
import Derived.Maps.OwnOps
import Derived.Maps.OwnSet
import Derived.OrdersHeld
import Derived.Outline
import Derived.StillTailTactics
import Derived.StringKeys
import Derived.WalkKit
import Derived.WalkLawsBesides
import Derived.WalkSpells
import Derived.Deep.RegionHeld
import Derived.Test.YtajbfioncdnkcaaGreatDoorZz
import Derived.Test.YtajbfioncdnkcaaGreatDoorPkM3
import Derived.Test.YtajbfioncdnkcaaGreatDoorPkM32
import Derived.Test.YtajbfioncdnkcaaGreatDoorPkM1
import Derived.Test.YtajbfioncdnkcaaGreatDoorPkM6
import Derived.Test.YtajbfioncdnkcaaGreatDoorPkM7
set_option maxRecDepth 100000
set_option maxHeartbeats 16000000
namespace Cl
open Go Go.RowKit Go.Proofs
theorem LW (v0:Value) (l:Table) (m:Mem) (w:World) (hm:m.inn w) (hl:aI m v0 l) (hwf:WF l) :
 Calls Tryz.prog 182 #[v0] w fun e w'=>∃r,e=.returned r∧Below w.heap.size w w'∧jl (m.grow w w') r (dF l 256):=by
 obtain⟨a,c,rfl,h1,h2,h3⟩:=hl;unfold maxLen at h2;refine aj fun R hR=>?_
 go_enter Tryz.func182,Tryz.ntmps182
 go_wp2;refine ay [3,11,12,13] (fun n vs wr=>∃(k:Nat),k≤l.length∧n=l.length - k∧vs=[.pointer (some ⟨w.heap.size,0,none⟩),.slice a l.length c,.int .i64 l.length,.int .i64 k] ∧
  Own w m wr m [.obj w.heap.size 192 (marr (cutP (l.take k)) 257)]) ?_ ?_
 ·refine ⟨_,0,Nat.zero_le _,rfl,rfl,?_⟩;have:=(Own.start hm).al (Tryz.zeroCells192.setIfInBounds 0 (.bool true)) 192;rw[Ct,oC,kz,fJ (P':=cutP (l.take 0)) (by intro b _;simp[cutP])] at this;rw[Ct,oC,kz,fJ (P':=cutP (l.take 0)) (by intro b _;simp[cutP])];exact this
 rintro X z n vs wr hX - ⟨k,hk,rfl,rfl,hO⟩;simp[litL,lk];by_cases hlt:k<l.length
 ·obtain⟨b,off,rfl,h4⟩:=h3 (by intro h;simp[h] at hlt);have hmr:=hO.inn;obtain⟨g1,ve,g2,ea,ec,rfl,g4,g5,g6⟩:=h4 k hlt;have hc1:=Mem.av hmr g1;have hc2:=Mem.av hmr g2;have hb:=Mem.ak hmr g1;have hlo:=fV (hwf l[k] (List.getElem_mem hlt));have Hcut:=zh (fun b=>FR hlt b);generalize l[k]=s at *
  unfold maxLen at g5;have hg0:=hO.obj.lt;have hO':=hO.al' (.cells #[.bool s.accept,.slice ea s.edges.length ec] 66);go_wp2;refine ay [3,11,12,13,18,19,20] (fun n vs w2=>∃(j:Nat),j≤s.edges.length∧n=s.edges.length - j∧vs=[.pointer (some ⟨w.heap.size,0,none⟩),.slice (some ⟨b,off,none⟩) l.length c,.int .i64 l.length,.int .i64 k,.slice ea s.edges.length ec,.int .i64 s.edges.length,.int .i64 j] ∧
   Own w m w2 m [.obj w.heap.size 192 (marr (fun b=>cutP (l.take k) b∨∃e∈s.edges.take j,lN e b) 257)]) ?_ ?_
  ·refine ⟨_,0,Nat.zero_le _,rfl,rfl,?_⟩;rw[fJ (P':=cutP (l.take k)) (by intro b _;simp)];exact hO'
  rintro Y z2 n vs w2 hY - ⟨j,hj,rfl,rfl,hO2⟩;simp[litL,lk];by_cases hlt2:j<s.edges.length
  ·obtain⟨b',off',rfl,h10⟩:=g6 (by intro h;simp[h] at hlt2);obtain⟨e1,e2,e3,e4,e5,-⟩:=h10 j hlt2;have hle:=(hlo s.edges[j] (List.getElem_mem hlt2)).1;have d1:=Mem.av hO2.inn e1;have d2:=Mem.av hO2.inn e2;have d3:=Mem.av hO2.inn e3;have hb1:=Mem.ak hO2.inn e1;have hg1:=hO2.obj.lt;have k1:=hO2.obj.cell (jT (i:=s.edges[j].lo) zo);have k2:=hO2.obj.cell (jT (i:=s.edges[j].hi+1) zo);have k3:=hO2.obj.frozen s.edges[j].lo;have k4:=hO2.obj.frozen (s.edges[j].hi+1);have hne:s.edges[j].lo≠s.edges[j].hi+1:=zo;have hne':s.edges[j].hi+1≠s.edges[j].lo:=zo;have hO3:=(((hO2.set s.edges[j].lo (.bool true)).set (s.edges[j].hi+1) (.bool true))).al' (.cells #[.int .u8 s.edges[j].lo,.int .u8 s.edges[j].hi,.int .i64 s.edges[j].to] 106);rw[kz,kz,fJ (P':=fun b=>cutP (l.take k) b∨∃e∈s.edges.take (j+1),lN e b) (by
    intro b _;rw[tq hlt2];unfold lN;constructor
    ·rintro ((h | h) | h)
     ·exact h.elim .inl (fun h=>.inr (.inl h))
     ·exact .inr (.inr (.inl h.symm))
     ·exact .inr (.inr (.inr h.symm))
    ·rintro (h | h | h | h)
     ·exact .inl (.inl (.inl h))
     ·exact .inl (.inl (.inr h))
     ·exact .inl (.inr h.symm)
     ·exact .inr h.symm)] at hO3
   have HO3:=zh hO3;clear hO3;go_wp2;exact hY.out _ _ _ zo rfl ⟨j+1,zo,rfl,rfl,HO3.out⟩
  ·go_wp2;refine hX.out _ _ _ zo rfl ⟨k+1,zo,rfl,rfl,?_⟩;rw[fJ (P':=fun b=>cutP (l.take k) b∨∃e∈s.edges.take j,lN e b) (by
    intro b _;rw[Hcut.out,List.take_of_length_le (l:=s.edges) (i:=j) zo])]
   exact hO2
 ·rw[List.take_of_length_le zo] at hO;go_wp2;refine ay [3,8,9] (fun n vs w2=>∃(q:Nat) (v:Value),q≤256∧n=256 - q∧vs=[.pointer (some ⟨w.heap.size,0,none⟩),v,.int .i64 q] ∧
   Own w m w2 m [.row v 3 1 (dF l q).length ((dF l q).map (Value.int .i64)),.obj w.heap.size 192 (marr (cutP l) 257)]) ?_ ?_
  ·exact⟨_,0,.slice none 0 0,zo,rfl,rfl,hO.eH _ _⟩
  rintro Y z2 n vs w2 hY - ⟨q,v,hq,rfl,rfl,hO2⟩;simp[litL,lk];by_cases hlt2:q<256
  ·have k1:=hO2.swap.obj.cell (jT (i:=q) zo);have hg:=hO2.swap.obj.lt;have hcl:=oH l q;have hsu:=zY l q;by_cases hc:cutP l q
   ·have ht:=aN hc;rw[ht] at k1;rw[ht,if_pos rfl] at hsu;have Hsu:=zh hsu;clear hsu ht;have hO3:=hO2.al #[.int .i64 q] 3
    go_wp2_with (at_builtin;refine aC yo rfl (.tmp 42) (.tmp 44) rfl v (dF l q).length ((dF l q).map (Value.int .i64)) rfl hO3.swap.row ⟨w2.heap.size,0,none⟩ 1 1 [.int .i64 q] rfl rfl (hO3.obj.news rfl) (by simp[Value.oneCell']) (by unfold maxLen;omega) zo ?_)
    intro va vc w3 hown3 hgrow hrow3;have hO4:=(hO3.swap.app hown3 hgrow hrow3 zS).drop2;have Hfin:=zh hO4;clear hO4 hown3 hgrow hrow3 hO3;go_wp2;refine hY.out _ _ _ zo rfl ⟨q+1,_,zo,rfl,rfl,?_⟩;rw[Hsu.out];simpa using Hfin.out
   ·have ht:=aL hc;rw[ht] at k1;rw[ht,if_neg zS,List.append_nil] at hsu;have Hsu:=zh hsu;clear hsu ht;go_wp2;refine hY.out _ _ _ zo rfl ⟨q+1,v,zo,rfl,rfl,?_⟩;rw[Hsu.out];exact hO2
  ·obtain rfl:q=256:=zo;have hres:=gU hO2.bD.done (fH (m:=m) hO2.row (fun x hx=>by have:=qD l 256 x hx;omega));have Hfin:=zh (zi hO2.below hres);clear hres hO2;go_wp2;exact hR.out _ _ ⟨_,rfl,Hfin.out.1,Hfin.out.2⟩
theorem Bb (v:Value) (l:Table) (m:Mem) (w:World) (hm:m.inn w) (hl:aI m v l) :
 Calls Tryz.prog 153 #[v] w fun e w'=>e=.returned (.bool (tf (WF l)))∧Below w.heap.size w w':=by
 obtain⟨a,c,rfl,h1,h2,h3⟩:=hl;unfold maxLen at h2;refine aj fun R hR=>?_
 go_enter Tryz.func153,Tryz.ntmps153
 go_wp2;refine ay [0,7,8,9] (fun n vs wr=>∃k:Nat,k≤l.length∧n=l.length - k∧vs=[.slice a l.length c,.slice a l.length c,.int .i64 l.length,.int .i64 k]∧(WF l↔∀s∈l.drop k,bQ l.length (-1) s.edges)∧Below w.heap.size w wr) ?_ ?_
 ·exact⟨_,0,Nat.zero_le _,rfl,rfl,Iff.rfl,Below.refl _ _⟩
 rintro X z n vs wr hX - ⟨k,hk,rfl,rfl,hrel,hbel⟩;simp[litL,lk];have hmr:=Mem.bX hm hbel;by_cases hlt:k<l.length
 ·obtain⟨b,off,rfl,h4⟩:=h3 (by intro h;simp[h] at hlt);obtain⟨h5,ve,h6,a',c',rfl,h7,h8,h9⟩:=h4 k hlt;have hb:=Mem.ak hmr h6;have c1:=Mem.av hmr h5;have c2:=Mem.av hmr h6;have Hs:=zh (Mf (n:=l.length) hlt);generalize l[k]=s at *
  unfold maxLen at h8;clear h4 h3;go_wp2;refine ay [0,4,7,8,9,14,15,16] (fun n vs w2=>∃j:Nat,j≤s.edges.length∧n=s.edges.length - j∧vs=[.slice (some ⟨b,off,none⟩) l.length c,.pointer (some ⟨wr.heap.size,0,none⟩),.slice (some ⟨b,off,none⟩) l.length c,.int .i64 l.length,.int .i64 k,.slice a' s.edges.length c',.int .i64 s.edges.length,.int .i64 j]∧(bQ l.length (-1) s.edges↔bQ l.length (oo s.edges j) (s.edges.drop j))∧w2.cell? ⟨wr.heap.size,1,none⟩=some (.slice a' s.edges.length c')∧wr.heap.size<w2.heap.size∧Below w.heap.size w w2) ?_ ?_
  ·exact⟨_,0,Nat.zero_le _,rfl,rfl,Iff.rfl,zS,zS,aP hbel _⟩
  rintro Y z2 n vs w2 hY - ⟨j,hj,rfl,rfl,hrel2,hc2,hsz,hbel2⟩;simp[litL,lk];have hmr2:=Mem.bX hm hbel2;by_cases hlt2:j<s.edges.length
  ·obtain⟨b',off',rfl,h10⟩:=h9 (by intro h;simp[h] at hlt2);obtain⟨g1,g2,g3,g4,g5,g6,g7⟩:=h10 j hlt2;have hb1:=Mem.ak hmr2 g1;have d1:=Mem.av hmr2 g1;have d2:=Mem.av hmr2 g2;have d3:=Mem.av hmr2 g3;have Hw:=zh (wM (n:=l.length) hlt2);have hprev:0<j→w2.cell? ⟨b',off'+(j - 1)*3+1,none⟩=some (.int .u8 (s.edges[j - 1]).hi)∧oo s.edges j=(s.edges[j - 1]).hi:=by
    intro hj0;refine ⟨Mem.av hmr2 (h10 (j - 1) zo).2.1,?_⟩;simp[oo,show 0<j∧j≤s.edges.length from ⟨hj0,zo⟩]
   go_wp2;refine wp_region_quiet_lit zk zk ?_
   repeat (any_goals (first | go_big_quiet_step (fail) | quiet_step (fail) | (refine wpQuiet_step (fun K hK=>?_);go_simp;split <;> (refine hK _ ?_;clear hK K))))
   all_goals (refine wpQuiet_nil ?_;intro _ hw';obtain⟨nq,hw''⟩:=hw';subst hw'')
   all_goals go_wp2
   all_goals first
    | exact hR.out _ _ ⟨aQ (by
     rw[aL];intro hwf;obtain⟨q1,q2,q3,q4,-⟩:=Hw.out.1 (hrel2.1 (Hs.out.1 (hrel.1 hwf)).1)
     first
      | omega
      | (have:=(hprev (by assumption)).2;omega)),below_drewN (aP hbel2 _) _⟩
    | exact hY.out _ _ _ zo rfl ⟨j+1,zo,rfl,rfl,hrel2.trans (Hw.out.trans ⟨fun h=>h.2.2.2.2,fun h=>⟨zo,zo,zo,by
     first
      | (have:=(hprev (by assumption)).2;omega)
      | (have:=yS s.edges j zo;omega),h⟩⟩),
     by rw[World.cell?_drewN,World.cell?_alloc_past _ _ _ hsz];exact hc2,by simp;omega,below_drewN (aP hbel2 _) _⟩
  ·go_wp2;refine hX.out _ _ _ zo rfl ⟨k+1,zo,rfl,rfl,hrel.trans (Hs.out.trans ⟨fun h=>h.2,fun h=>⟨hrel2.2 ?_,h⟩⟩),hbel2⟩;rw[List.drop_eq_nil_of_le zo];trivial
 ·go_wp2;refine hR.out _ _ ⟨aQ ?_,hbel⟩;rw[aN (hrel.2 (by rw[List.drop_eq_nil_of_le zo];simp))]
theorem JG (v:Value) (l:Table) (s:Int) (x:Nat) (m:Mem) (w:World) (hm:m.inn w) (hl:aI m v l) (hs1 : -9223372036854775808≤s) (hs2:s<l.length) :
 Calls Tryz.prog 154 #[v,.int .i64 s,.int .u8 x] w fun e w'=>e=.returned (.int .i64 (bL l s x))∧Below w.heap.size w w':=by
 by_cases h0:s<0
 ·rw[kg h0];refine aj fun R hR=>?_
  go_enter Tryz.func154,Tryz.ntmps154
  go_wp2;exact hR.out _ _ ⟨rfl,Below.refl _ _⟩
 obtain⟨s,rfl⟩:=Int.eq_ofNat_of_zero_le (by omega:0≤s);have hs:s<l.length:=zo;rw[dY l s x hs];obtain⟨a,c,rfl,h1,h2,h3⟩:=hl;obtain⟨b,off,rfl,h4⟩:=h3 (by intro h;simp[h] at hs);obtain⟨-,ve,h6,a',c',rfl,h7,h8,h9⟩:=h4 s hs;have hb:=Mem.ak hm h6;have hc:=Mem.av hm h6;generalize l[s].edges=es at *
 clear h4 h3;unfold maxLen at h2 h8;refine aj fun R hR=>?_
 go_enter Tryz.func154,Tryz.ntmps154
 go_wp2;refine ay [2,15,16,17] (fun n vs wr=>∃k:Nat,k≤es.length∧n=es.length - k∧vs=[.int .u8 x,.slice a' es.length c',.int .i64 es.length,.int .i64 k]∧bu es x=bu (es.drop k) x∧Below w.heap.size w wr) ?_ ?_
 ·exact⟨_,0,Nat.zero_le _,rfl,rfl,rfl,Below.refl _ _⟩
 rintro X z n vs wr hX - ⟨k,hk,rfl,rfl,hrel,hbel⟩;simp[litL,lk];have hmr:=Mem.bX hm hbel;by_cases hlt:k<es.length
 ·obtain⟨b',off',rfl,h10⟩:=h9 (by intro h;simp[h] at hlt);obtain⟨g1,g2,g3,g4,g5,g6,g7⟩:=h10 k hlt;have hb1:=Mem.ak hmr g1;have c1:=Mem.av hmr g1;have c2:=Mem.av hmr g2;have c3:=Mem.av hmr g3;have HD:=zh (wm es x k hlt);go_wp2
  ·exact hR.out _ _ ⟨dL (by rw[hrel,HD.out,if_pos ⟨by assumption,by assumption⟩]),aP hbel _⟩
  ·exact hX.out _ _ _ zo rfl ⟨k+1,zo,rfl,rfl,by rw[hrel,HD.out,if_neg zo],aP hbel _⟩
  ·exact hX.out _ _ _ zo rfl ⟨k+1,zo,rfl,rfl,by rw[hrel,HD.out,if_neg zo],aP hbel _⟩
 ·go_wp2;exact hR.out _ _ ⟨dL (by rw[hrel,List.drop_eq_nil_of_le zo];rfl),hbel⟩
end Cl
