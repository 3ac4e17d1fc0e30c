/- Lemmas for the proofs of chapter 11. -/
import Derived.Test.YtdgjplfcpcphoaaGreatDoorProg
import Derived.BigQuiet
import Derived.Deep.Cut
import Derived.Deep.QuietTactic
import Derived.Laws.StructEq
import Derived.Lib.AppendStr
import Derived.Lib.Builder
import Derived.Lib.Hide
import Derived.Lib.ItoaLen
import Derived.Maps.OwnOps
import Derived.Maps.OwnSet
import Derived.OrdersHeld
import Derived.Outline
import Derived.StillTailTactics
import Derived.StringKeys
import Derived.WalkKit
import Derived.WalkLawsBesides
import Derived.WalkSpells
import Derived.Deep.RegionHeld
import Derived.Test.YtdgjplfcpcphoaaGreatDoorZz
import Derived.Test.YtdgjplfcpcphoaaGreatDoorPkX3
import Derived.Test.YtdgjplfcpcphoaaGreatDoorPkX1
import Derived.Test.YtdgjplfcpcphoaaGreatDoorPkX9
set_option maxRecDepth 100000
set_option maxHeartbeats 16000000
namespace Cl
open Go Go.RowKit Go.Proofs
theorem ny (v:Value) (l:Table) (m:Mem) (w:World) (hm:m.inn w) (hl:aR m v l) :
 Calls Tryz.prog 59 #[v] w fun e w'=>e=.returned (.bool (tf (WF l)))∧Below w.heap.size w w':=by
 obtain⟨a,c,rfl,h1,h2,h3⟩:=hl;unfold maxLen at h2;refine ay fun R hR=>?_
 go_enter Tryz.func59,Tryz.ntmps59
 go_wp2;refine au [0,7,8,9] (fun n vs wr=>∃k:Nat,k≤l.length∧n=l.length - k∧vs=[.slice a l.length c,.slice a l.length c,.int .i64 l.length,.int .i64 k]∧(WF l↔∀s∈l.drop k,aV l.length (-1) s.edges)∧Below w.heap.size w wr) ?_ ?_
 ·exact⟨_,0,Nat.zero_le _,rfl,rfl,Iff.rfl,Below.refl _ _⟩
 rintro X z n vs wr hX - ⟨k,hk,rfl,rfl,hrel,hbel⟩;simp[litL,lk];have hmr:=Mem.bE hm hbel;by_cases hlt:k<l.length
 ·obtain⟨b,off,rfl,h4⟩:=h3 (by intro h;simp[h] at hlt);obtain⟨h5,ve,h6,a',c',rfl,h7,h8,h9⟩:=h4 k hlt;have hb:=Mem.av hmr h6;have c1:=Mem.aj hmr h5;have c2:=Mem.aj hmr h6;have Hs:=zh (Ip (n:=l.length) hlt);generalize l[k]=s at *
  unfold maxLen at h8;clear h4 h3;go_wp2;refine au [0,4,7,8,9,14,15,16] (fun n vs w2=>∃j:Nat,j≤s.edges.length∧n=s.edges.length - j∧vs=[.slice (some ⟨b,off,none⟩) l.length c,.pointer (some ⟨wr.heap.size,0,none⟩),.slice (some ⟨b,off,none⟩) l.length c,.int .i64 l.length,.int .i64 k,.slice a' s.edges.length c',.int .i64 s.edges.length,.int .i64 j]∧(aV l.length (-1) s.edges↔aV l.length (jG s.edges j) (s.edges.drop j))∧w2.cell? ⟨wr.heap.size,1,none⟩=some (.slice a' s.edges.length c')∧wr.heap.size<w2.heap.size∧Below w.heap.size w w2) ?_ ?_
  ·exact⟨_,0,Nat.zero_le _,rfl,rfl,Iff.rfl,zS,zS,bO hbel _⟩
  rintro Y z2 n vs w2 hY - ⟨j,hj,rfl,rfl,hrel2,hc2,hsz,hbel2⟩;simp[litL,lk];have hmr2:=Mem.bE hm hbel2;by_cases hlt2:j<s.edges.length
  ·obtain⟨b',off',rfl,h10⟩:=h9 (by intro h;simp[h] at hlt2);obtain⟨g1,g2,g3,g4,g5,g6,g7⟩:=h10 j hlt2;have hb1:=Mem.av hmr2 g1;have d1:=Mem.aj hmr2 g1;have d2:=Mem.aj hmr2 g2;have d3:=Mem.aj hmr2 g3;have Hw:=zh (qV (n:=l.length) hlt2);have hprev:0<j→w2.cell? ⟨b',off'+(j - 1)*3+1,none⟩=some (.int .u8 (s.edges[j - 1]).hi)∧jG s.edges j=(s.edges[j - 1]).hi:=by
    intro hj0;refine ⟨Mem.aj hmr2 (h10 (j - 1) zo).2.1,?_⟩;simp[jG,show 0<j∧j≤s.edges.length from ⟨hj0,zo⟩]
   go_wp2;refine wp_region_quiet_lit zk zk ?_
   repeat (any_goals (first | go_big_quiet_step (fail) | quiet_step (fail) | (refine wpQuiet_step (fun K hK=>?_);go_simp;split <;> (refine hK _ ?_;clear hK K))))
   all_goals (refine wpQuiet_nil ?_;intro _ hw';obtain⟨nq,hw''⟩:=hw';subst hw'')
   all_goals go_wp2
   all_goals first
    | exact hR.out _ _ ⟨aJ (by
     rw[az];intro hwf;obtain⟨q1,q2,q3,q4,-⟩:=Hw.out.1 (hrel2.1 (Hs.out.1 (hrel.1 hwf)).1)
     first
      | omega
      | (have:=(hprev (by assumption)).2;omega)),below_drewN (bO hbel2 _) _⟩
    | exact hY.out _ _ _ zo rfl ⟨j+1,zo,rfl,rfl,hrel2.trans (Hw.out.trans ⟨fun h=>h.2.2.2.2,fun h=>⟨zo,zo,zo,by
     first
      | (have:=(hprev (by assumption)).2;omega)
      | (have:=tY s.edges j zo;omega),h⟩⟩),
     by rw[World.cell?_drewN,World.cell?_alloc_past _ _ _ hsz];exact hc2,by simp;omega,below_drewN (bO hbel2 _) _⟩
  ·go_wp2;refine hX.out _ _ _ zo rfl ⟨k+1,zo,rfl,rfl,hrel.trans (Hs.out.trans ⟨fun h=>h.2,fun h=>⟨hrel2.2 ?_,h⟩⟩),hbel2⟩;rw[List.drop_eq_nil_of_le zo];trivial
 ·go_wp2;refine hR.out _ _ ⟨aJ ?_,hbel⟩;rw[aI (hrel.2 (by rw[List.drop_eq_nil_of_le zo];simp))]
theorem sH (v:Value) (l:Table) (s:Int) (x:Nat) (m:Mem) (w:World) (hm:m.inn w) (hl:aR m v l) (hs1 : -9223372036854775808≤s) (hs2:s<l.length) :
 Calls Tryz.prog 60 #[v,.int .i64 s,.int .u8 x] w fun e w'=>e=.returned (.int .i64 (aW l s x))∧Below w.heap.size w w':=by
 by_cases h0:s<0
 ·rw[gP h0];refine ay fun R hR=>?_
  go_enter Tryz.func60,Tryz.ntmps60
  go_wp2;exact hR.out _ _ ⟨rfl,Below.refl _ _⟩
 obtain⟨s,rfl⟩:=Int.eq_ofNat_of_zero_le (by omega:0≤s);have hs:s<l.length:=zo;rw[bV l s x hs];obtain⟨a,c,rfl,h1,h2,h3⟩:=hl;obtain⟨b,off,rfl,h4⟩:=h3 (by intro h;simp[h] at hs);obtain⟨-,ve,h6,a',c',rfl,h7,h8,h9⟩:=h4 s hs;have hb:=Mem.av hm h6;have hc:=Mem.aj hm h6;generalize l[s].edges=es at *
 clear h4 h3;unfold maxLen at h2 h8;refine ay fun R hR=>?_
 go_enter Tryz.func60,Tryz.ntmps60
 go_wp2;refine au [2,15,16,17] (fun n vs wr=>∃k:Nat,k≤es.length∧n=es.length - k∧vs=[.int .u8 x,.slice a' es.length c',.int .i64 es.length,.int .i64 k]∧aS es x=aS (es.drop k) x∧Below w.heap.size w wr) ?_ ?_
 ·exact⟨_,0,Nat.zero_le _,rfl,rfl,rfl,Below.refl _ _⟩
 rintro X z n vs wr hX - ⟨k,hk,rfl,rfl,hrel,hbel⟩;simp[litL,lk];have hmr:=Mem.bE hm hbel;by_cases hlt:k<es.length
 ·obtain⟨b',off',rfl,h10⟩:=h9 (by intro h;simp[h] at hlt);obtain⟨g1,g2,g3,g4,g5,g6,g7⟩:=h10 k hlt;have hb1:=Mem.av hmr g1;have c1:=Mem.aj hmr g1;have c2:=Mem.aj hmr g2;have c3:=Mem.aj hmr g3;have HD:=zh (wZ es x k hlt);go_wp2
  ·exact hR.out _ _ ⟨fF (by rw[hrel,HD.out,if_pos ⟨by assumption,by assumption⟩]),bO hbel _⟩
  ·exact hX.out _ _ _ zo rfl ⟨k+1,zo,rfl,rfl,by rw[hrel,HD.out,if_neg zo],bO hbel _⟩
  ·exact hX.out _ _ _ zo rfl ⟨k+1,zo,rfl,rfl,by rw[hrel,HD.out,if_neg zo],bO hbel _⟩
 ·go_wp2;exact hR.out _ _ ⟨fF (by rw[hrel,List.drop_eq_nil_of_le zo];rfl),hbel⟩
end Cl
