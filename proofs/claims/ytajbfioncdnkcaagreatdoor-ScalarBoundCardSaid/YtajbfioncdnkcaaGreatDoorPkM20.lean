/- Lemmas for the proofs of chapter 11. -/
import Derived.Test.YtajbfioncdnkcaaGreatDoorProg
import Derived.BigQuiet
import Derived.Deep.Cut
import Derived.Deep.QuietTactic
import Derived.Laws.StructEq
import Derived.Lib.AppendStr
import Derived.Lib.Builder
import Derived.Lib.Hide
import Derived.Lib.ItoaLen
import Derived.Maps.OwnOps
import Derived.Maps.OwnSet
import Derived.OrdersHeld
import Derived.Outline
import Derived.StillTailTactics
import Derived.StringKeys
import Derived.WalkKit
import Derived.WalkLawsBesides
import Derived.WalkSpells
import Derived.Deep.RegionHeld
import Derived.Test.YtajbfioncdnkcaaGreatDoorZz
import Derived.Test.YtajbfioncdnkcaaGreatDoorPkM3
import Derived.Test.YtajbfioncdnkcaaGreatDoorPkM1
import Derived.Test.YtajbfioncdnkcaaGreatDoorPkM6
set_option maxRecDepth 100000
set_option maxHeartbeats 16000000
namespace Cl
open Go Go.RowKit Go.Proofs
theorem Te (e f:Sn):e=f↔(e.accept=f.accept∧e.edges=f.edges):=by
 cases e;cases f;simp
theorem yQ (v v':Value) (l l':Table) (m:Mem) (w:World) (hm:m.inn w) (hl:aI m v l) (hl':aI m v' l') :
 Calls Tryz.prog 69 #[.agg #[v],.agg #[v']] w fun e w'=>e=.returned (.bool (tf (l=l')))∧Below w.heap.size w w':=by
 refine aj fun R hR=>?_;have hb0:Below w.heap.size w ((w.alloc (.cells #[v] 27)).alloc (.cells #[v'] 27)):=aP (aP (Below.refl _ _) _) _;obtain⟨a,c,rfl,h1,h2,h3⟩:=hl;obtain⟨a',c',rfl,h1',h2',h3'⟩:=hl';unfold maxLen at h2 h2';by_cases hlen:l.length=l'.length
 ·have hne:((l.length:Int) != (l'.length:Int))=false:=by simp[hlen]
  have Hlen:=zh hlen;clear hlen
  go_enter Tryz.func69,Tryz.ntmps69
  go_wp2;have d1:((w.alloc (.cells #[.slice a l.length c] 27)).alloc (.cells #[.slice a' l'.length c'] 27)).cell? ⟨w.heap.size,0,none⟩=some (.slice a l.length c):=by simp
  have d2:((w.alloc (.cells #[.slice a l.length c] 27)).alloc (.cells #[.slice a' l'.length c'] 27)).cell? ⟨w.heap.size+1,0,none⟩=some (.slice a' l'.length c'):=by go_simp
  have d3:w.heap.size+1<((w.alloc (.cells #[.slice a l.length c] 27)).alloc (.cells #[.slice a' l'.length c'] 27)).heap.size:=by simp
  have hm0:=Mem.bX hm hb0;generalize ((w.alloc (.cells #[.slice a l.length c] 27)).alloc (.cells #[.slice a' l'.length c'] 27))=w0 at *
  refine ay [2,3,18,19] (fun n vs wr=>∃k:Nat,k≤l.length∧n=l.length - k∧vs=[.pointer (some ⟨w.heap.size,0,none⟩),.pointer (some ⟨w.heap.size+1,0,none⟩),.int .i64 l.length,.int .i64 k]∧(l=l'↔l.drop k=l'.drop k)∧Below w0.heap.size w0 wr) ?_ ?_
  ·exact⟨_,0,Nat.zero_le _,rfl,rfl,Iff.rfl,Below.refl _ _⟩
  rintro X z n vs wr hX - ⟨k,hk,rfl,rfl,hrel,hbel⟩;have Hrel:=zh hrel;clear hrel;simp[litL,lk];have hmr:=Mem.bX hm0 hbel;have e1:=(hbel.cell (p:=⟨w.heap.size,0,none⟩) (by simp;omega)).trans d1;have e2:=(hbel.cell (p:=⟨w.heap.size+1,0,none⟩) (by simp;omega)).trans d2;have e3:w.heap.size+1<wr.heap.size:=Nat.lt_of_lt_of_le d3 hbel.size;by_cases hlt:k<l.length
  ·have hlt':k<l'.length:=by rw[← Hlen.out];exact hlt
   obtain⟨b,off,rfl,h4⟩:=h3 (by intro h;simp[h] at hlt);obtain⟨b',off',rfl,h4'⟩:=h3' (by intro h;simp[h] at hlt');obtain⟨g1,ve,g2,ua,uc,rfl,u1,u2,u3⟩:=h4 k hlt;obtain⟨g1',ve',g2',ua',uc',rfl,u1',u2',u3'⟩:=h4' k hlt';have HD:=zh (mY l l' k hlt hlt');have He:=zh (Te l[k] l'[k]);have c1:=Mem.av hmr g1;have c2:=Mem.av hmr g2;have c1':=Mem.av hmr g1';have c2':=Mem.av hmr g2';have hb1:=Mem.ak hmr g1;have hb1':=Mem.ak hmr g1';unfold maxLen at u2 u2';generalize l[k]=s at *
   generalize l'[k]=s' at *
   have e4:w.heap.size<wr.heap.size:=zo;have e5:b<wr.heap.size+1:=zo;have e6:b'<wr.heap.size+1:=zo;have hbelw:=dE hb0 hbel;go_wp2;refine aA [2,3,5,6,7,18,19] (fun vs w1=>∃p q,vs=[.pointer (some ⟨w.heap.size,0,none⟩),.pointer (some ⟨w.heap.size+1,0,none⟩),.int .i64 k,.pointer (some ⟨p,0,none⟩),.pointer (some ⟨q,0,none⟩),.int .i64 l.length,.int .i64 k] ∧
    w1.cell? ⟨p,0,none⟩=some (.bool s.accept)∧w1.cell? ⟨p,1,none⟩=some (.slice ua s.edges.length uc)∧w1.cell? ⟨q,0,none⟩=some (.bool s'.accept)∧w1.cell? ⟨q,1,none⟩=some (.slice ua' s'.edges.length uc') ∧
    p<w1.heap.size∧q<w1.heap.size∧Below wr.heap.size wr w1) ?_ ?_
   ·intro Y hY
    go_region
    ·exact hY.out _ _ rfl ⟨_,_,rfl,by go_simp,by go_simp,by go_simp,by go_simp,(by simp <;> omega),(by simp <;> omega),(aP (aP (Below.refl _ _) _) _).drew⟩
    ·exact hY.out _ _ rfl ⟨_,_,rfl,by go_simp,by go_simp,by go_simp,by go_simp,(by simp <;> omega),(by simp <;> omega),(aP (aP (Below.refl _ _) _) _).drew⟩
   rintro z1 vs w1 - ⟨p,q,rfl,f1,f2,f3,f4,f5,f6,hb1w⟩;simp[litL,lk];have hm1:=Mem.bX hmr hb1w;have hbw1:=dE hbel hb1w;clear hb1 hb1' c1 c2 c1' c2' e1 e2 e3 e4 e5 e6;by_cases ha:s.accept=s'.accept
   ·have hae:(s.accept==s'.accept)=true:=by simp[ha]
    have hae':(s.accept != s'.accept)=false:=by simp[ha]
    have Ha:=zh ha;clear ha;by_cases hel:s.edges.length=s'.edges.length
    ·have hee:((s.edges.length:Int) != (s'.edges.length:Int))=false:=by simp[hel]
     have Hel:=zh hel;clear hel;go_wp2;refine ay [2,3,6,7,18,19,48,49] (fun n vs w2=>∃j:Nat,j≤s.edges.length∧n=s.edges.length - j∧vs=[.pointer (some ⟨w.heap.size,0,none⟩),.pointer (some ⟨w.heap.size+1,0,none⟩),.pointer (some ⟨p,0,none⟩),.pointer (some ⟨q,0,none⟩),.int .i64 l.length,.int .i64 k,.int .i64 s.edges.length,.int .i64 j] ∧
      (s.edges=s'.edges↔s.edges.drop j=s'.edges.drop j)∧Below w1.heap.size w1 w2) ?_ ?_
     ·exact⟨_,0,Nat.zero_le _,rfl,rfl,Iff.rfl,Below.refl _ _⟩
     rintro X2 z2 n2 vs2 w2 hX2 - ⟨j,hj,rfl,rfl,hrel2,hbel2⟩;have Hrel2:=zh hrel2;clear hrel2;simp[litL,lk];have hm2:=Mem.bX hm1 hbel2;have k2:=iw hbel2 f5 f2;have k4:=iw hbel2 f6 f4;have hf5:p<w2.heap.size:=Nat.lt_of_lt_of_le f5 hbel2.size;have hf6:q<w2.heap.size:=Nat.lt_of_lt_of_le f6 hbel2.size;by_cases hj2:j<s.edges.length
     ·have hj2':j<s'.edges.length:=by rw[← Hel.out];exact hj2
      obtain⟨vb,vo,rfl,u4⟩:=u3 (by intro h;simp[h] at hj2);obtain⟨vb',vo',rfl,u4'⟩:=u3' (by intro h;simp[h] at hj2');obtain⟨y1,y2,y3,-⟩:=u4 j hj2;obtain⟨y1',y2',y3',-⟩:=u4' j hj2';have x1:=Mem.av hm2 y1;have x2:=Mem.av hm2 y2;have x3:=Mem.av hm2 y3;have x1':=Mem.av hm2 y1';have x2':=Mem.av hm2 y2';have x3':=Mem.av hm2 y3';have HD2:=zh (mY s.edges s'.edges j hj2 hj2');have He2:=zh (QT s.edges[j] s'.edges[j]);have hq:=fun w=>FK (s.edges[j].lo) (s.edges[j].hi) (s.edges[j].to) (s'.edges[j].lo) (s'.edges[j].hi) (s'.edges[j].to) w;have hgd:=Fu;go_wp2
      go_quiet (fail)
      go_wp2
      ·refine hR.out _ _ ⟨aQ ?_,dE hb0 (below_drewN (dE hbw1 hbel2) _)⟩;rw[aL];intro h;have h5:=He2.out.1 (HD2.out.1 (Hrel2.out.1 (He.out.1 (HD.out.1 (Hrel.out.1 h)).1).2)).1;have h6:=‹(!(s.edges[j].lo:Int)==(s'.edges[j].lo:Int))=true∨_›;simp[h5] at h6
      ·refine hX2.out _ _ _ zo rfl ⟨j+1,zo,rfl,rfl,?_,below_drewN hbel2 _⟩;have h6:=‹(!(s.edges[j].lo:Int)==(s'.edges[j].lo:Int))=false∧_›;simp at h6;exact Hrel2.out.trans (HD2.out.trans ⟨fun h=>h.2,fun h=>⟨He2.out.2 zo,h⟩⟩)
     ·go_wp2;refine hX.out _ _ _ zo rfl ⟨k+1,zo,rfl,rfl,Hrel.out.trans (HD.out.trans ⟨fun h=>h.2,fun h=>⟨He.out.2 ⟨Ha.out,Hrel2.out.2 ?_⟩,h⟩⟩),dE hbw1 hbel2⟩;rw[List.drop_eq_nil_of_le zo,List.drop_eq_nil_of_le (by rw[← Hel.out];omega)]
    ·have hee:((s.edges.length:Int) != (s'.edges.length:Int))=true:=by simp;omega
     go_wp2;exact hR.out _ _ ⟨aQ (by rw[aL];intro h;exact hel (by rw[(He.out.1 (HD.out.1 (Hrel.out.1 h)).1).2])),dE hb0 hbw1⟩
   ·have hae:(s.accept==s'.accept)=false:=by simp[ha]
    have hae':(s.accept != s'.accept)=true:=by simp[ha]
    go_wp2;exact hR.out _ _ ⟨aQ (by rw[aL];intro h;exact ha (He.out.1 (HD.out.1 (Hrel.out.1 h)).1).1),dE hb0 hbw1⟩
  ·go_wp2;refine hR.out _ _ ⟨aQ ?_,dE hb0 hbel⟩;rw[aN (Hrel.out.2 ?_)];rw[List.drop_eq_nil_of_le zo,List.drop_eq_nil_of_le (by rw[← Hlen.out];omega)]
 ·have hne:((l.length:Int) != (l'.length:Int))=true:=by simp;omega
  go_enter Tryz.func69,Tryz.ntmps69
  go_wp2;exact hR.out _ _ ⟨aQ (by rw[aL (fun h=>hlen (by rw[h]))]),hb0⟩
end Cl
