/- Lemmas for the proofs of chapter 11. -/
import Derived.Test.YtdgjplfcpcphoaaGreatDoorProg
import Derived.BigQuiet
import Derived.Deep.Cut
import Derived.Deep.QuietTactic
import Derived.Laws.StructEq
import Derived.Lib.AppendStr
import Derived.Lib.Builder
import Derived.Lib.Hide
import Derived.Lib.ItoaLen
import Derived.Maps.OwnOps
import Derived.Maps.OwnSet
import Derived.OrdersHeld
import Derived.Outline
import Derived.StillTailTactics
import Derived.StringKeys
import Derived.WalkKit
import Derived.WalkLawsBesides
import Derived.WalkSpells
import Derived.Deep.RegionHeld
import Derived.Shelf.Strings.Builder1
import Derived.Shelf.Small.Wraps
import Derived.Shelf.LaysM
import Derived.Shelf.Strconv.Itoa3
import Derived.Test.YtdgjplfcpcphoaaGreatDoorZz
import Derived.Test.YtdgjplfcpcphoaaGreatDoorPkX3
import Derived.Test.YtdgjplfcpcphoaaGreatDoorPkX1
import Derived.Test.YtdgjplfcpcphoaaGreatDoorPkX5
set_option maxRecDepth 100000
set_option maxHeartbeats 16000000
namespace Cl
open Go Go.RowKit Go.Proofs
theorem M5 (e f:Ed):e=f↔(e.lo=f.lo∧e.hi=f.hi∧e.to=f.to):=by
 cases e;cases f;simp
theorem G9 : (Tryz.prog.fieldsOf 104).toList = [⟨"Lo", 5, 0, false, "", "", 0⟩, ⟨"Hi", 5, 1, false, "", "", 1⟩, ⟨"To", 3, 2, false, "", "", 8⟩] := by
 kernel_rfl
theorem IR:Tryz.prog.stoodInHeld 104=false:=by kernel_rfl
theorem AU:Tryz.prog.eqGuardType Tryz.prog.depth 104=false:=by kernel_rfl
theorem Nf:Tryz.prog.underlying 104=some (.struct (Tryz.prog.fieldsOf 104)):=by kernel_rfl
theorem Be (a b c a' b' c':Int) (w:World):(Op.equalIn 10000 104 (.agg #[.int .u8 a,.int .u8 b,.int .i64 c]) (.agg #[.int .u8 a',.int .u8 b',.int .i64 c'])).run Tryz.prog w=.ok (a==a'&&(b==b'&&c==c')) w:=by
 rw[run_equalIn_agg w 9999 104 _ _ Nf IR,G9];have e1:=fun (d:Nat) (a b:Int) (w:World)=>run_equalIn_int (P:=Tryz.prog) w d 5 .u8 .u8 a b Tryz.underlying5;have e2:=fun (d:Nat) (a b:Int) (w:World)=>run_equalIn_int (P:=Tryz.prog) w d 3 .i64 .i64 a b Tryz.underlying3;simp only[Op.eqFields];simp[part,isAgg,go_sem,e1,e2];by_cases h1:a=a' <;> by_cases h2:b=b' <;> by_cases h3:c=c' <;> simp[h1,h2,h3]
theorem vP (v:Value) (l:List Bool) (x:Bool) (m:Mem) (w:World) (hm:m.inn w) (hl:fP m v l) :
 Calls Tryz.prog 251 #[v,.bool x] w fun e w'=>e=.returned (.int .i64 (firstIdx (fun y=>x=y) l 0))∧Below w.heap.size w w':=by
 obtain⟨a,c,rfl,h1,h2,h3⟩:=hl;unfold maxLen at h2;refine ay fun R hR=>?_
 go_enter Tryz.func251,Tryz.ntmps251
 go_wp2;refine au [0,1,7,8] (fun n vs wr=>∃k:Nat,k≤l.length∧n=l.length - k∧vs=[.slice a l.length c,.bool x,.int .i64 l.length,.int .i64 k]∧firstIdx (fun y=>x=y) l 0=firstIdx (fun y=>x=y) (l.drop k) k∧Below w.heap.size w wr) ?_ ?_
 ·exact⟨_,0,Nat.zero_le _,rfl,rfl,rfl,Below.refl _ _⟩
 rintro X z n vs wr hX - ⟨k,hk,rfl,rfl,hrel,hbel⟩;simp[litL,lk];have hmr:=Mem.bE hm hbel;by_cases hlt:k<l.length
 ·obtain⟨b,off,rfl,h4⟩:=h3 (by intro h;simp[h] at hlt);have c1:=Mem.aj hmr (h4 k hlt);have HD:=zh (ku (fun y=>x=y) l k hlt);go_wp2
  all_goals first
   | exact hR.out _ _ ⟨fF (by rw[hrel,HD.out,if_pos (aI (by simp_all))]),hbel⟩
   | exact hX.out _ _ _ zo rfl ⟨k+1,zo,rfl,rfl,by rw[hrel,HD.out,if_neg (by rw[az (by simp_all)];simp)],hbel⟩
 ·go_wp2;exact hR.out _ _ ⟨fF (by rw[hrel,List.drop_eq_nil_of_le zo];rfl),hbel⟩
theorem qQ (v:Value) (l:List Bool) (x:Bool) (m:Mem) (w:World) (hm:m.inn w) (hl:fP m v l) :
 Calls Tryz.prog 218 #[v,.bool x] w fun e w'=>e=.returned (.bool (tf (x∈l)))∧Below w.heap.size w w':=by
 have hc:=vP v l x m w hm hl;have hs:=kr (fun y=>x=y) l 0;refine ay fun R hR=>?_;generalize hr:firstIdx (fun y=>x=y) l 0=r at *
 have Hs:=zh hs;clear hs
 go_enter Tryz.func218,Tryz.ntmps218
 go_wp2_with fail
 refine hc.mono ?_;rintro e w' ⟨rfl,hbel⟩;go_wp2;refine hR.out _ _ ⟨aJ ?_,hbel⟩;rcases Hs.out with ⟨h1,h2⟩ | ⟨i,h1,h2,h3,-⟩
 ·rw[az (fun h=>h2 x h rfl)];simp[h1]
 ·rw[aI (by rw[h3];exact List.getElem_mem h1)];simp[h2]
theorem uZ (v v':Value) (l l':List Ed) (m:Mem) (w:World) (hm:m.inn w) (hl:iG m v l) (hl':iG m v' l') :
 Calls Tryz.prog 212 #[v,v'] w fun e w'=>e=.returned (.bool (tf (l=l')))∧Below w.heap.size w w':=by
 obtain⟨a,c,rfl,h1,h2,h3⟩:=hl;obtain⟨a',c',rfl,h1',h2',h3'⟩:=hl';unfold maxLen at h2 h2';refine ay fun R hR=>?_;by_cases hlen:l.length=l'.length
 ·have hne:((l.length:Int) != (l'.length:Int))=false:=by simp[hlen]
  have Hlen:=zh hlen;clear hlen
  go_enter Tryz.func212,Tryz.ntmps212
  go_wp2;refine au [0,1,12,13] (fun n vs wr=>∃k:Nat,k≤l.length∧n=l.length - k∧vs=[.slice a l.length c,.slice a' l'.length c',.int .i64 l.length,.int .i64 k]∧(l=l'↔l.drop k=l'.drop k)∧Below w.heap.size w wr) ?_ ?_
  ·exact⟨_,0,Nat.zero_le _,rfl,rfl,Iff.rfl,Below.refl _ _⟩
  rintro X z n vs wr hX - ⟨k,hk,rfl,rfl,hrel,hbel⟩;have Hrel:=zh hrel;clear hrel;simp[litL,lk];have hmr:=Mem.bE hm hbel;by_cases hlt:k<l.length
  ·have hlt':k<l'.length:=by rw[← Hlen.out];exact hlt
   obtain⟨b,off,rfl,h4⟩:=h3 (by intro h;simp[h] at hlt);obtain⟨b',off',rfl,h4'⟩:=h3' (by intro h;simp[h] at hlt');obtain⟨g1,g2,g3,-⟩:=h4 k hlt;obtain⟨g1',g2',g3',-⟩:=h4' k hlt';have c1:=Mem.aj hmr g1;have c2:=Mem.aj hmr g2;have c3:=Mem.aj hmr g3;have c1':=Mem.aj hmr g1';have c2':=Mem.aj hmr g2';have c3':=Mem.aj hmr g3';have HD:=zh (dM l l' k hlt hlt');have hq:=fun w=>Be (l[k].lo) (l[k].hi) (l[k].to) (l'[k].lo) (l'[k].hi) (l'[k].to) w;have hgd:=AU;have He:=zh (M5 l[k] l'[k]);go_wp2
   go_quiet (fail)
   go_wp2
   ·refine hR.out _ _ ⟨aJ ?_,below_drewN hbel _⟩;rw[az];intro h;have h5:=He.out.1 (HD.out.1 (Hrel.out.1 h)).1;have h6:=‹(!(l[k].lo:Int)==(l'[k].lo:Int))=true∨_›;simp[h5] at h6
   ·refine hX.out _ _ _ zo rfl ⟨k+1,zo,rfl,rfl,?_,below_drewN hbel _⟩;have h6:=‹(!(l[k].lo:Int)==(l'[k].lo:Int))=false∧_›;simp at h6;exact Hrel.out.trans (HD.out.trans ⟨fun h=>h.2,fun h=>⟨He.out.2 zo,h⟩⟩)
  ·go_wp2;refine hR.out _ _ ⟨aJ ?_,hbel⟩;rw[aI (Hrel.out.2 ?_)];rw[List.drop_eq_nil_of_le zo,List.drop_eq_nil_of_le (by rw[← Hlen.out];omega)]
 ·have hne:((l.length:Int) != (l'.length:Int))=true:=by simp;omega
  go_enter Tryz.func212,Tryz.ntmps212
  go_wp2;exact hR.out _ _ ⟨aJ (by rw[az (fun h=>hlen (by rw[h]))]),Below.refl _ _⟩
theorem OJ (e f:Sn):e=f↔(e.accept=f.accept∧e.edges=f.edges):=by
 cases e;cases f;simp
theorem KS (p p':Bool) (v v':Value) (l l':List Ed) (m:Mem) (w:World) (hm:m.inn w) (hl:iG m v l) (hl':iG m v' l') :
 Calls Tryz.prog 211 #[.agg #[.bool p,v],.agg #[.bool p',v']] w fun e w'=>e=.returned (.bool (tf ((⟨p,l⟩:Sn)=⟨p',l'⟩)))∧Below w.heap.size w w':=by
 refine ay fun R hR=>?_;have hb0:Below w.heap.size w ((w.alloc (.cells #[.bool p,v] 80)).alloc (.cells #[.bool p',v'] 80)):=bO (bO (Below.refl _ _) _) _;have hc:=uZ v v' l l' m _ (Mem.bE hm hb0) hl hl';obtain⟨a,c,rfl,-⟩:=hl;obtain⟨a',c',rfl,-⟩:=hl';by_cases hp:p=p'
 ·have hd:(p==p')=true:=by simp[hp]
  have Hp:=zh hp;clear hp
  go_enter Tryz.func211,Tryz.ntmps211
  go_wp2_with fail
  refine hc.mono ?_;rintro e w' ⟨rfl,hbel⟩;go_wp2;refine hR.out _ _ ⟨aJ (aZ ?_),bZ hb0 hbel⟩;simp[Hp.out]
 ·have hd:(p==p')=false:=by simp[hp]
  go_enter Tryz.func211,Tryz.ntmps211
  go_wp2;refine hR.out _ _ ⟨aJ ?_,hb0⟩;rw[az];simp[hp]
theorem nS (v v':Value) (l l':Table) (m:Mem) (w:World) (hm:m.inn w) (hl:aR m v l) (hl':aR m v' l') :
 Calls Tryz.prog 89 #[.agg #[v],.agg #[v']] w fun e w'=>e=.returned (.bool (tf (l=l')))∧Below w.heap.size w w':=by
 refine ay fun R hR=>?_;have hb0:Below w.heap.size w ((w.alloc (.cells #[v] 27)).alloc (.cells #[v'] 27)):=bO (bO (Below.refl _ _) _) _;obtain⟨a,c,rfl,h1,h2,h3⟩:=hl;obtain⟨a',c',rfl,h1',h2',h3'⟩:=hl';unfold maxLen at h2 h2';by_cases hlen:l.length=l'.length
 ·have hne:((l.length:Int) != (l'.length:Int))=false:=by simp[hlen]
  have Hlen:=zh hlen;clear hlen
  go_enter Tryz.func89,Tryz.ntmps89
  go_wp2;have d1:((w.alloc (.cells #[.slice a l.length c] 27)).alloc (.cells #[.slice a' l'.length c'] 27)).cell? ⟨w.heap.size,0,none⟩=some (.slice a l.length c):=by simp
  have d2:((w.alloc (.cells #[.slice a l.length c] 27)).alloc (.cells #[.slice a' l'.length c'] 27)).cell? ⟨w.heap.size+1,0,none⟩=some (.slice a' l'.length c'):=by go_simp
  have d3:w.heap.size+1<((w.alloc (.cells #[.slice a l.length c] 27)).alloc (.cells #[.slice a' l'.length c'] 27)).heap.size:=by simp
  have hm0:=Mem.bE hm hb0;generalize ((w.alloc (.cells #[.slice a l.length c] 27)).alloc (.cells #[.slice a' l'.length c'] 27))=w0 at *
  refine au [2,3,18,19] (fun n vs wr=>∃k:Nat,k≤l.length∧n=l.length - k∧vs=[.pointer (some ⟨w.heap.size,0,none⟩),.pointer (some ⟨w.heap.size+1,0,none⟩),.int .i64 l.length,.int .i64 k]∧(l=l'↔l.drop k=l'.drop k)∧Below w0.heap.size w0 wr) ?_ ?_
  ·exact⟨_,0,Nat.zero_le _,rfl,rfl,Iff.rfl,Below.refl _ _⟩
  rintro X z n vs wr hX - ⟨k,hk,rfl,rfl,hrel,hbel⟩;have Hrel:=zh hrel;clear hrel;simp[litL,lk];have hmr:=Mem.bE hm0 hbel;have e1:=(hbel.cell (p:=⟨w.heap.size,0,none⟩) (by simp;omega)).trans d1;have e2:=(hbel.cell (p:=⟨w.heap.size+1,0,none⟩) (by simp;omega)).trans d2;have e3:w.heap.size+1<wr.heap.size:=Nat.lt_of_lt_of_le d3 hbel.size;by_cases hlt:k<l.length
  ·have hlt':k<l'.length:=by rw[← Hlen.out];exact hlt
   obtain⟨b,off,rfl,h4⟩:=h3 (by intro h;simp[h] at hlt);obtain⟨b',off',rfl,h4'⟩:=h3' (by intro h;simp[h] at hlt');obtain⟨g1,ve,g2,ua,uc,rfl,u1,u2,u3⟩:=h4 k hlt;obtain⟨g1',ve',g2',ua',uc',rfl,u1',u2',u3'⟩:=h4' k hlt';have HD:=zh (dM l l' k hlt hlt');have He:=zh (OJ l[k] l'[k]);have c1:=Mem.aj hmr g1;have c2:=Mem.aj hmr g2;have c1':=Mem.aj hmr g1';have c2':=Mem.aj hmr g2';have hb1:=Mem.av hmr g1;have hb1':=Mem.av hmr g1';unfold maxLen at u2 u2';generalize l[k]=s at *
   generalize l'[k]=s' at *
   have e4:w.heap.size<wr.heap.size:=zo;have e5:b<wr.heap.size+1:=zo;have e6:b'<wr.heap.size+1:=zo;have hbelw:=bZ hb0 hbel;go_wp2;refine aN [2,3,5,6,7,18,19] (fun vs w1=>∃p q,vs=[.pointer (some ⟨w.heap.size,0,none⟩),.pointer (some ⟨w.heap.size+1,0,none⟩),.int .i64 k,.pointer (some ⟨p,0,none⟩),.pointer (some ⟨q,0,none⟩),.int .i64 l.length,.int .i64 k] ∧
    w1.cell? ⟨p,0,none⟩=some (.bool s.accept)∧w1.cell? ⟨p,1,none⟩=some (.slice ua s.edges.length uc)∧w1.cell? ⟨q,0,none⟩=some (.bool s'.accept)∧w1.cell? ⟨q,1,none⟩=some (.slice ua' s'.edges.length uc') ∧
    p<w1.heap.size∧q<w1.heap.size∧Below wr.heap.size wr w1) ?_ ?_
   ·intro Y hY
    go_region
    ·exact hY.out _ _ rfl ⟨_,_,rfl,by go_simp,by go_simp,by go_simp,by go_simp,(by simp <;> omega),(by simp <;> omega),(bO (bO (Below.refl _ _) _) _).drew⟩
    ·exact hY.out _ _ rfl ⟨_,_,rfl,by go_simp,by go_simp,by go_simp,by go_simp,(by simp <;> omega),(by simp <;> omega),(bO (bO (Below.refl _ _) _) _).drew⟩
   rintro z1 vs w1 - ⟨p,q,rfl,f1,f2,f3,f4,f5,f6,hb1w⟩;simp[litL,lk];have hm1:=Mem.bE hmr hb1w;have hbw1:=bZ hbel hb1w;clear hb1 hb1' c1 c2 c1' c2' e1 e2 e3 e4 e5 e6;by_cases ha:s.accept=s'.accept
   ·have hae:(s.accept==s'.accept)=true:=by simp[ha]
    have hae':(s.accept != s'.accept)=false:=by simp[ha]
    have Ha:=zh ha;clear ha;by_cases hel:s.edges.length=s'.edges.length
    ·have hee:((s.edges.length:Int) != (s'.edges.length:Int))=false:=by simp[hel]
     have Hel:=zh hel;clear hel;go_wp2;refine au [2,3,6,7,18,19,48,49] (fun n vs w2=>∃j:Nat,j≤s.edges.length∧n=s.edges.length - j∧vs=[.pointer (some ⟨w.heap.size,0,none⟩),.pointer (some ⟨w.heap.size+1,0,none⟩),.pointer (some ⟨p,0,none⟩),.pointer (some ⟨q,0,none⟩),.int .i64 l.length,.int .i64 k,.int .i64 s.edges.length,.int .i64 j] ∧
      (s.edges=s'.edges↔s.edges.drop j=s'.edges.drop j)∧Below w1.heap.size w1 w2) ?_ ?_
     ·exact⟨_,0,Nat.zero_le _,rfl,rfl,Iff.rfl,Below.refl _ _⟩
     rintro X2 z2 n2 vs2 w2 hX2 - ⟨j,hj,rfl,rfl,hrel2,hbel2⟩;have Hrel2:=zh hrel2;clear hrel2;simp[litL,lk];have hm2:=Mem.bE hm1 hbel2;have k2:=kE hbel2 f5 f2;have k4:=kE hbel2 f6 f4;have hf5:p<w2.heap.size:=Nat.lt_of_lt_of_le f5 hbel2.size;have hf6:q<w2.heap.size:=Nat.lt_of_lt_of_le f6 hbel2.size;by_cases hj2:j<s.edges.length
     ·have hj2':j<s'.edges.length:=by rw[← Hel.out];exact hj2
      obtain⟨vb,vo,rfl,u4⟩:=u3 (by intro h;simp[h] at hj2);obtain⟨vb',vo',rfl,u4'⟩:=u3' (by intro h;simp[h] at hj2');obtain⟨y1,y2,y3,-⟩:=u4 j hj2;obtain⟨y1',y2',y3',-⟩:=u4' j hj2';have x1:=Mem.aj hm2 y1;have x2:=Mem.aj hm2 y2;have x3:=Mem.aj hm2 y3;have x1':=Mem.aj hm2 y1';have x2':=Mem.aj hm2 y2';have x3':=Mem.aj hm2 y3';have HD2:=zh (dM s.edges s'.edges j hj2 hj2');have He2:=zh (M5 s.edges[j] s'.edges[j]);have hq:=fun w=>Be (s.edges[j].lo) (s.edges[j].hi) (s.edges[j].to) (s'.edges[j].lo) (s'.edges[j].hi) (s'.edges[j].to) w;have hgd:=AU;go_wp2
      go_quiet (fail)
      go_wp2
      ·refine hR.out _ _ ⟨aJ ?_,bZ hb0 (below_drewN (bZ hbw1 hbel2) _)⟩;rw[az];intro h;have h5:=He2.out.1 (HD2.out.1 (Hrel2.out.1 (He.out.1 (HD.out.1 (Hrel.out.1 h)).1).2)).1;have h6:=‹(!(s.edges[j].lo:Int)==(s'.edges[j].lo:Int))=true∨_›;simp[h5] at h6
      ·refine hX2.out _ _ _ zo rfl ⟨j+1,zo,rfl,rfl,?_,below_drewN hbel2 _⟩;have h6:=‹(!(s.edges[j].lo:Int)==(s'.edges[j].lo:Int))=false∧_›;simp at h6;exact Hrel2.out.trans (HD2.out.trans ⟨fun h=>h.2,fun h=>⟨He2.out.2 zo,h⟩⟩)
     ·go_wp2;refine hX.out _ _ _ zo rfl ⟨k+1,zo,rfl,rfl,Hrel.out.trans (HD.out.trans ⟨fun h=>h.2,fun h=>⟨He.out.2 ⟨Ha.out,Hrel2.out.2 ?_⟩,h⟩⟩),bZ hbw1 hbel2⟩;rw[List.drop_eq_nil_of_le zo,List.drop_eq_nil_of_le (by rw[← Hel.out];omega)]
    ·have hee:((s.edges.length:Int) != (s'.edges.length:Int))=true:=by simp;omega
     go_wp2;exact hR.out _ _ ⟨aJ (by rw[az];intro h;exact hel (by rw[(He.out.1 (HD.out.1 (Hrel.out.1 h)).1).2])),bZ hb0 hbw1⟩
   ·have hae:(s.accept==s'.accept)=false:=by simp[ha]
    have hae':(s.accept != s'.accept)=true:=by simp[ha]
    go_wp2;exact hR.out _ _ ⟨aJ (by rw[az];intro h;exact ha (He.out.1 (HD.out.1 (Hrel.out.1 h)).1).1),bZ hb0 hbw1⟩
  ·go_wp2;refine hR.out _ _ ⟨aJ ?_,bZ hb0 hbel⟩;rw[aI (Hrel.out.2 ?_)];rw[List.drop_eq_nil_of_le zo,List.drop_eq_nil_of_le (by rw[← Hlen.out];omega)]
 ·have hne:((l.length:Int) != (l'.length:Int))=true:=by simp;omega
  go_enter Tryz.func89,Tryz.ntmps89
  go_wp2;exact hR.out _ _ ⟨aJ (by rw[az (fun h=>hlen (by rw[h]))]),hb0⟩
def allT:Table:=[⟨true,[⟨0,255,0⟩]⟩]
theorem F6 (w:World) :
 Calls Tryz.prog 61 #[] w fun e w'=>∃g1 g2,e=.returned (.agg #[.slice (some ⟨g2,0,none⟩) 1 1])∧Below w.heap.size w w'∧w.heap.size≤g1∧w.heap.size≤g2∧g1≠g2 ∧
  bD w' g1 104 #[.int .u8 0,.int .u8 255,.int .i64 0]∧bD w' g2 80 #[.bool true,.slice (some ⟨g1,0,none⟩) 1 1]:=by
 refine ay fun R hR=>?_
 go_enter Tryz.func61,Tryz.ntmps61
 go_wp2;refine bodyPost_ret (v:=.agg #[.slice (some ⟨w.heap.size+1+1,0,none⟩) 1 1]) (by simp[results,Tryz.results61,go_sem]) rfl ?_;refine hR.out _ _ ⟨_,_,rfl,bO (bO (bO (Below.refl _ _) _) _) _,?_,?_,?_,(bD.new _ _ _).al _,?_⟩
 ·simp <;> omega
 ·omega
 ·simp <;> omega
 ·have:=bD.new ((w.alloc (Obj.cells #[Value.slice (some { block:=w.heap.size+1+1,off:=0 }) 1 1] 27)).alloc (Obj.cells #[Value.int IntKind.u8 0,Value.int IntKind.u8 255,Value.int IntKind.i64 0] 104)) 80 #[Value.bool true,Value.slice (some { block:=w.heap.size+1,off:=0 }) 1 1];simpa using this
theorem yO (v v':Value) (l l':Table) (m:Mem) (w:World) (hm:m.inn w) (hl:aR m v l) (hl':aR m v' l') :
 Calls Tryz.prog 210 #[v,v',.func (.func 211) #[] #[]] w fun e w'=>e=.returned (.bool (tf (l=l')))∧Below w.heap.size w w':=by
 obtain⟨a,c,rfl,h1,h2,h3⟩:=hl;obtain⟨a',c',rfl,h1',h2',h3'⟩:=hl';unfold maxLen at h2 h2';refine ay fun R hR=>?_;by_cases hlen:l.length=l'.length
 ·have hne:((l.length:Int) != (l'.length:Int))=false:=by simp[hlen]
  have Hlen:=zh hlen;clear hlen
  go_enter Tryz.func210,Tryz.ntmps210
  go_wp2;refine au [0,1,2,15,16,17] (fun n vs wr=>∃k:Nat,k≤l.length∧n=l.length - k∧vs=[.slice a l.length c,.slice a' l'.length c',.func (.func 211) #[] #[],.slice a l.length c,.int .i64 l.length,.int .i64 k]∧(l=l'↔l.drop k=l'.drop k)∧Below w.heap.size w wr) ?_ ?_
  ·exact⟨_,0,Nat.zero_le _,rfl,rfl,Iff.rfl,Below.refl _ _⟩
  rintro X z n vs wr hX - ⟨k,hk,rfl,rfl,hrel,hbel⟩;have Hrel:=zh hrel;clear hrel;simp[litL,lk];have hmr:=Mem.bE hm hbel;by_cases hlt:k<l.length
  ·have hlt':k<l'.length:=by rw[← Hlen.out];exact hlt
   obtain⟨b,off,rfl,h4⟩:=h3 (by intro h;simp[h] at hlt);obtain⟨b',off',rfl,h4'⟩:=h3' (by intro h;simp[h] at hlt');obtain⟨g1,ve,g2,g3⟩:=h4 k hlt;obtain⟨g1',ve',g2',g3'⟩:=h4' k hlt';have HD:=zh (dM l l' k hlt hlt');have hcall:=fun w1 hm1=>KS l[k].accept l'[k].accept ve ve' l[k].edges l'[k].edges m w1 hm1 g3 g3';have Hc:=zh hcall;clear hcall;obtain⟨ua,uc,rfl,-⟩:=g3;obtain⟨ua',uc',rfl,-⟩:=g3';have c1:=Mem.aj hmr g1;have c2:=Mem.aj hmr g2;have c1':=Mem.aj hmr g1';have c2':=Mem.aj hmr g2';have hb1:=Mem.av hmr g1;have hb1':=Mem.av hmr g1'
   go_wp2_with fail
   refine (Hc.out _ (Mem.bE hmr (bO (bO (Below.refl _ _) _) _))).mono ?_;rintro e w' ⟨rfl,hbel2⟩;have hbel3:=bZ (bO (bO hbel _) _) hbel2;clear hbel2;by_cases heq:(⟨l[k].accept,l[k].edges⟩:Sn)=⟨l'[k].accept,l'[k].edges⟩
   ·rw[aI heq];have Heq:=zh heq;clear heq;go_wp2;exact hX.out _ _ _ zo rfl ⟨k+1,zo,rfl,rfl,Hrel.out.trans (HD.out.trans ⟨fun h=>h.2,fun h=>⟨Heq.out,h⟩⟩),hbel3⟩
   ·rw[az heq];go_wp2;exact hR.out _ _ ⟨aJ (by rw[az];intro h;exact heq (HD.out.1 (Hrel.out.1 h)).1),hbel3⟩
  ·go_wp2;refine hR.out _ _ ⟨aJ ?_,hbel⟩;rw[aI (Hrel.out.2 ?_)];rw[List.drop_eq_nil_of_le zo,List.drop_eq_nil_of_le (by rw[← Hlen.out];omega)]
 ·have hne:((l.length:Int) != (l'.length:Int))=true:=by simp;omega
  go_enter Tryz.func210,Tryz.ntmps210
  go_wp2;exact hR.out _ _ ⟨aJ (by rw[az (fun h=>hlen (by rw[h]))]),Below.refl _ _⟩
theorem qM (v v':Value) (l l':Table) (m:Mem) (w:World) (hm:m.inn w) (hl:aR m v l) (hl':aR m v' l') :
 Calls Tryz.prog 176 #[.agg #[v],.agg #[v']] w fun e w'=>e=.returned (.bool (tf (l=l')))∧Below w.heap.size w w':=by
 refine ay fun R hR=>?_;have hb0:Below w.heap.size w ((w.alloc (.cells #[v] 27)).alloc (.cells #[v'] 27)):=bO (bO (Below.refl _ _) _) _;have hc:=yO v v' l l' m _ (Mem.bE hm hb0) hl hl';obtain⟨a,c,rfl,-⟩:=hl;obtain⟨a',c',rfl,-⟩:=hl'
 go_enter Tryz.func176,Tryz.ntmps176
 go_wp2_with fail
 refine hc.mono ?_;rintro e w' ⟨rfl,hbel⟩;go_wp2;exact hR.out _ _ ⟨rfl,bZ hb0 hbel⟩
noncomputable def marr (P:Nat→Prop) (n:Nat):Array Value:=((List.range n).map fun b=>Value.bool (tf (P b))).toArray
theorem fo {P:Nat→Prop} {n i:Nat} (h:i<n):(marr P n)[i]?=some (.bool (tf (P i))):=by simp[marr,h]
theorem bY {P P':Nat→Prop} {n:Nat} (h:∀b,b<n→(P b↔P' b)):marr P n=marr P' n:=by
 unfold marr
 congr 1
 apply List.map_congr_left;intro b hb;rw[aZ (h b (List.mem_range.1 hb))]
theorem Am {P:Nat→Prop} {n i:Nat} (h:¬ i<n):(marr P n)[i]?=none:=by simp[marr];omega
theorem fe (P:Nat→Prop) (n i:Nat):(marr P n).setIfInBounds i (.bool true)=marr (fun b=>P b∨b=i) n:=by
 apply Array.ext_getElem?;intro j;rw[Array.getElem?_setIfInBounds];by_cases hj:j<n
 ·by_cases hji:i=j
  ·subst hji;rw[if_pos rfl,if_pos (by simpa [marr] using hj),fo hj,aI (Or.inr rfl)]
  ·rw[if_neg hji,fo hj,fo hj,aZ (show P j↔(P j∨j=i) from ⟨.inl,fun h=>h.elim id (fun e=>absurd e.symm hji)⟩)]
 ·rw[Am hj,Am hj];by_cases hji:i=j
  ·rw[if_pos hji,if_neg (by simp[marr];omega)]
  ·rw[if_neg hji]
theorem iN (n:Nat):Array.replicate n (Value.bool false)=marr (fun _=>False) n:=by
 apply Array.ext
 ·simp[marr]
 ·intro j h1 h2;simp[marr,az (p:=False) id]
theorem nG:Tryz.zeroCells175=Array.replicate 257 (Value.bool false):=by kernel_rfl
def ja (e:Ed) (b:Nat):Prop:=e.lo=b∨e.hi+1=b
def cutP (l:Table) (b:Nat):Prop:=b=0∨∃s∈l,∃e∈s.edges,ja e b
noncomputable def bG (l:Table) (n:Nat):List Int:=((List.range n).filter fun b=>tf (cutP l b)).map Int.ofNat
theorem uN (l:Table) (n:Nat):bG l (n+1)=bG l n ++ if tf (cutP l n) then [(n:Int)] else []:=by
 unfold bG;rw[List.range_succ,List.filter_append,List.map_append]
 congr 1
 cases h:tf (cutP l n) <;> simp[h]
theorem lM (l:Table) (n:Nat):∀x∈bG l n,0≤x∧x<n:=by
 intro x hx;simp only[bG,List.mem_map,List.mem_filter,List.mem_range] at hx;obtain⟨b,⟨h1,-⟩,rfl⟩:=hx;simp;exact h1
theorem jP (l:Table) (n:Nat):(bG l n).length≤n:=by
 unfold bG;rw[List.length_map];exact Nat.le_trans (List.length_filter_le _ _) zS
theorem oh {es:List Ed} {j:Nat} (h:j<es.length) (b:Nat):(∃e∈es.take (j+1),ja e b)↔(∃e∈es.take j,ja e b)∨ja es[j] b:=by
 rw[List.take_succ_eq_append_getElem h];constructor
 ·rintro ⟨e,he,hm⟩;rcases List.mem_append.1 he with h1 | h1
  ·exact .inl ⟨e,h1,hm⟩
  ·rw[List.mem_singleton.1 h1] at hm;exact .inr hm
 ·rintro (⟨e,he,hm⟩ | hm)
  ·exact⟨e,List.mem_append_left _ he,hm⟩
  ·exact⟨_,List.mem_append_right _ (List.mem_singleton.2 rfl),hm⟩
theorem Bh {l:Table} {k:Nat} (h:k<l.length) (b:Nat):cutP (l.take (k+1)) b↔cutP (l.take k) b∨∃e∈(l[k]).edges,ja e b:=by
 unfold cutP;rw[List.take_succ_eq_append_getElem h];constructor
 ·rintro (h0 | ⟨s,hs,hm⟩)
  ·exact .inl (.inl h0)
  ·rcases List.mem_append.1 hs with h1 | h1
   ·exact .inl (.inr ⟨s,h1,hm⟩)
   ·rw[List.mem_singleton.1 h1] at hm;exact .inr hm
 ·rintro ((h0 | ⟨s,hs,hm⟩) | hm)
  ·exact .inl h0
  ·exact .inr ⟨s,List.mem_append_left _ hs,hm⟩
  ·exact .inr ⟨_,List.mem_append_right _ (List.mem_singleton.2 rfl),hm⟩
theorem dD {n:Nat} {p:Int} {es:List Ed} (h:aV n p es):∀e∈es,e.lo≤e.hi∧0≤e.to∧e.to<n:=by
 induction es generalizing p with
 | nil=>simp
 | cons e es ih=>
  obtain⟨h1,h2,h3,-,h5⟩:=h;intro x hx;rcases List.mem_cons.1 hx with rfl | hx
  ·exact⟨h1,h2,h3⟩
  ·exact ih h5 x hx
theorem oJ:eT Tryz.prog 135 3 1 8:=⟨Tryz.underlying135,zo,by
 obtain⟨i,h1,h2,h3,h4⟩:=info_parts (P:=Tryz.prog) (e:=3) (z:=.int .i64 0) (size:=1) (bytes:=8) zk;exact⟨i,_,h1,h2,h3,h4,rfl⟩⟩
theorem NL (v0:Value) (l:Table) (m:Mem) (w:World) (hm:m.inn w) (hl:aR m v0 l) (hwf:WF l) :
 Calls Tryz.prog 254 #[v0] w fun e w'=>∃r,e=.returned r∧Below w.heap.size w w'∧dA (m.grow w w') r (bG l 256):=by
 obtain⟨a,c,rfl,h1,h2,h3⟩:=hl;unfold maxLen at h2;refine ay fun R hR=>?_
 go_enter Tryz.func254,Tryz.ntmps254
 go_wp2;refine au [3,11,12,13] (fun n vs wr=>∃(k:Nat),k≤l.length∧n=l.length - k∧vs=[.pointer (some ⟨w.heap.size,0,none⟩),.slice a l.length c,.int .i64 l.length,.int .i64 k] ∧
  Own w m wr m [.obj w.heap.size 175 (marr (cutP (l.take k)) 257)]) ?_ ?_
 ·refine ⟨_,0,Nat.zero_le _,rfl,rfl,?_⟩;have:=(Own.start hm).al (Tryz.zeroCells175.setIfInBounds 0 (.bool true)) 175;rw[nG,iN,fe,bY (P':=cutP (l.take 0)) (by intro b _;simp[cutP])] at this;rw[nG,iN,fe,bY (P':=cutP (l.take 0)) (by intro b _;simp[cutP])];exact this
 rintro X z n vs wr hX - ⟨k,hk,rfl,rfl,hO⟩;simp[litL,lk];by_cases hlt:k<l.length
 ·obtain⟨b,off,rfl,h4⟩:=h3 (by intro h;simp[h] at hlt);have hmr:=hO.inn;obtain⟨g1,ve,g2,ea,ec,rfl,g4,g5,g6⟩:=h4 k hlt;have hc1:=Mem.aj hmr g1;have hc2:=Mem.aj hmr g2;have hb:=Mem.av hmr g1;have hlo:=dD (hwf l[k] (List.getElem_mem hlt));have Hcut:=zh (fun b=>Bh hlt b);generalize l[k]=s at *
  unfold maxLen at g5;have hg0:=hO.obj.lt;have hO':=hO.al' (.cells #[.bool s.accept,.slice ea s.edges.length ec] 80);go_wp2;refine au [3,11,12,13,18,19,20] (fun n vs w2=>∃(j:Nat),j≤s.edges.length∧n=s.edges.length - j∧vs=[.pointer (some ⟨w.heap.size,0,none⟩),.slice (some ⟨b,off,none⟩) l.length c,.int .i64 l.length,.int .i64 k,.slice ea s.edges.length ec,.int .i64 s.edges.length,.int .i64 j] ∧
   Own w m w2 m [.obj w.heap.size 175 (marr (fun b=>cutP (l.take k) b∨∃e∈s.edges.take j,ja e b) 257)]) ?_ ?_
  ·refine ⟨_,0,Nat.zero_le _,rfl,rfl,?_⟩;rw[bY (P':=cutP (l.take k)) (by intro b _;simp)];exact hO'
  rintro Y z2 n vs w2 hY - ⟨j,hj,rfl,rfl,hO2⟩;simp[litL,lk];by_cases hlt2:j<s.edges.length
  ·obtain⟨b',off',rfl,h10⟩:=g6 (by intro h;simp[h] at hlt2);obtain⟨e1,e2,e3,e4,e5,-⟩:=h10 j hlt2;have hle:=(hlo s.edges[j] (List.getElem_mem hlt2)).1;have d1:=Mem.aj hO2.inn e1;have d2:=Mem.aj hO2.inn e2;have d3:=Mem.aj hO2.inn e3;have hb1:=Mem.av hO2.inn e1;have hg1:=hO2.obj.lt;have k1:=hO2.obj.cell (fo (i:=s.edges[j].lo) zo);have k2:=hO2.obj.cell (fo (i:=s.edges[j].hi+1) zo);have k3:=hO2.obj.frozen s.edges[j].lo;have k4:=hO2.obj.frozen (s.edges[j].hi+1);have hne:s.edges[j].lo≠s.edges[j].hi+1:=zo;have hne':s.edges[j].hi+1≠s.edges[j].lo:=zo;have hO3:=(((hO2.set s.edges[j].lo (.bool true)).set (s.edges[j].hi+1) (.bool true))).al' (.cells #[.int .u8 s.edges[j].lo,.int .u8 s.edges[j].hi,.int .i64 s.edges[j].to] 104);rw[fe,fe,bY (P':=fun b=>cutP (l.take k) b∨∃e∈s.edges.take (j+1),ja e b) (by
    intro b _;rw[oh hlt2];unfold ja;constructor
    ·rintro ((h | h) | h)
     ·exact h.elim .inl (fun h=>.inr (.inl h))
     ·exact .inr (.inr (.inl h.symm))
     ·exact .inr (.inr (.inr h.symm))
    ·rintro (h | h | h | h)
     ·exact .inl (.inl (.inl h))
     ·exact .inl (.inl (.inr h))
     ·exact .inl (.inr h.symm)
     ·exact .inr h.symm)] at hO3
   have HO3:=zh hO3;clear hO3;go_wp2;exact hY.out _ _ _ zo rfl ⟨j+1,zo,rfl,rfl,HO3.out⟩
  ·go_wp2;refine hX.out _ _ _ zo rfl ⟨k+1,zo,rfl,rfl,?_⟩;rw[bY (P':=fun b=>cutP (l.take k) b∨∃e∈s.edges.take j,ja e b) (by
    intro b _;rw[Hcut.out,List.take_of_length_le (l:=s.edges) (i:=j) zo])]
   exact hO2
 ·rw[List.take_of_length_le zo] at hO;go_wp2;refine au [3,8,34] (fun n vs w2=>∃(q:Nat) (v:Value),q≤256∧n=256 - q∧vs=[.pointer (some ⟨w.heap.size,0,none⟩),v,.int .i64 q] ∧
   Own w m w2 m [.row v 3 1 (bG l q).length ((bG l q).map (Value.int .i64)),.obj w.heap.size 175 (marr (cutP l) 257)]) ?_ ?_
  ·exact⟨_,0,.slice none 0 0,zo,rfl,rfl,hO.dI _ _⟩
  rintro Y z2 n vs w2 hY - ⟨q,v,hq,rfl,rfl,hO2⟩;simp[litL,lk];by_cases hlt2:q<256
  ·have k1:=hO2.swap.obj.cell (fo (i:=q) zo);have hg:=hO2.swap.obj.lt;have hcl:=jP l q;have hsu:=uN l q;by_cases hc:cutP l q
   ·have ht:=aI hc;rw[ht] at k1;rw[ht,if_pos rfl] at hsu;have Hsu:=zh hsu;clear hsu ht;have hO3:=hO2.al #[.int .i64 q] 3
    go_wp2_with (at_builtin;refine aC oJ rfl (.tmp 40) (.tmp 42) rfl v (bG l q).length ((bG l q).map (Value.int .i64)) rfl hO3.swap.row ⟨w2.heap.size,0,none⟩ 1 1 [.int .i64 q] rfl rfl (hO3.obj.news rfl) (by simp[Value.oneCell']) (by unfold maxLen;omega) zo ?_)
    intro va vc w3 hown3 hgrow hrow3;have hO4:=(hO3.swap.app hown3 hgrow hrow3 zS).drop2;have Hfin:=zh hO4;clear hO4 hown3 hgrow hrow3 hO3;go_wp2;refine hY.out _ _ _ zo rfl ⟨q+1,_,zo,rfl,rfl,?_⟩;rw[Hsu.out];simpa using Hfin.out
   ·have ht:=az hc;rw[ht] at k1;rw[ht,if_neg zS,List.append_nil] at hsu;have Hsu:=zh hsu;clear hsu ht;go_wp2;refine hY.out _ _ _ zo rfl ⟨q+1,v,zo,rfl,rfl,?_⟩;rw[Hsu.out];exact hO2
  ·obtain rfl:q=256:=zo;have hres:=dC hO2.bg.done (bN (m:=m) hO2.row (fun x hx=>by have:=lM l 256 x hx;omega));have Hfin:=zh (zi hO2.below hres);clear hres hO2;go_wp2;exact hR.out _ _ ⟨_,rfl,Hfin.out.1,Hfin.out.2⟩
def goTo (n:Nat) (es:List Ed) (c:Int):Int:=if aS es c.toNat<0 then (n:Int) else aS es c.toNat
def kD (n:Nat) (cuts:List Int) (es:List Ed):List Int:=cuts.map (goTo n es)
theorem Hf (es:List Ed) (e:Ed) (b:Nat) (h:∀x∈es,x.hi<e.lo):aS (es ++ [e]) b=if e.lo≤b∧b≤e.hi then e.to else aS es b:=by
 induction es with
 | nil=>rfl
 | cons x es ih=>
  have hx:=h x zS;have:=ih (fun y hy=>h y (by simp[hy]));simp only[List.cons_append,aS];by_cases hc:x.lo≤b∧b≤x.hi
  ·rw[if_pos hc,if_pos hc,if_neg zo]
  ·rw[if_neg hc,if_neg hc,this]
theorem u7 {n:Nat} {es:List Ed}:∀{p:Int},aV n p es→∀j,(h:j<es.length)→∀x∈es.take j,x.hi<(es[j]).lo:=by
 induction es with
 | nil=>intro p _ j h;simp at h
 | cons e es ih=>
  intro p hw j h x hx;obtain⟨-,-,-,-,h5⟩:=hw
  cases j with
  | zero=>simp at hx
  | succ j=>
   simp only[List.take_succ_cons,List.mem_cons] at hx;have hj:j<es.length:=by simpa using h
   have hlo:∀{q:Int} {fs:List Ed},aV n q fs→∀y∈fs,q<y.lo:=by
    intro q fs
    induction fs generalizing q with
    | nil=>simp
    | cons f fs ihf=>
     intro hq y hy;obtain⟨q1,-,-,q4,q5⟩:=hq;rcases List.mem_cons.1 hy with rfl | hy
     ·exact q4
     ·have:=ihf q5 y hy;omega
   rcases hx with rfl | hx
   ·have:=hlo h5 es[j] (List.getElem_mem hj);simp only[List.getElem_cons_succ];omega
   ·simpa using ih h5 j hj x hx
theorem J8 {n:Nat} {es:List Ed} {p:Int} (hw:aV n p es) {j:Nat} (hj:j<es.length) (c:Int) :
 goTo n (es.take (j+1)) c=if (es[j]).lo≤c.toNat∧c.toNat≤(es[j]).hi then (es[j]).to else goTo n (es.take j) c:=by
 have h2:=(dD hw es[j] (List.getElem_mem hj)).2;unfold goTo;rw[List.take_succ_eq_append_getElem hj,Hf _ _ _ (u7 hw j hj)];by_cases hc:(es[j]).lo≤c.toNat∧c.toNat≤(es[j]).hi
 ·rw[if_pos hc,if_pos hc,if_neg zo]
 ·rw[if_neg hc,if_neg hc]
def mG (l:Table) (cuts:List Int):List (List Int):=l.map (fun s=>kD l.length cuts s.edges)
theorem xI:eT Tryz.prog 176 135 1 24:=⟨Tryz.underlying176,zo,by
 obtain⟨i,h1,h2,h3,h4⟩:=info_parts (P:=Tryz.prog) (e:=135) (z:=.slice none 0 0) (size:=1) (bytes:=24) zk;exact⟨i,_,h1,h2,h3,h4,rfl⟩⟩
theorem wQ:Ff Tryz.prog 135 3 8 (.int .i64 0):=⟨Tryz.underlying135,zk,rfl⟩
theorem CV:Ff Tryz.prog 147 4 1 (.bool false):=⟨Tryz.underlying147,zk,rfl⟩
theorem BU:eT Tryz.prog 147 4 1 1:=⟨Tryz.underlying147,zo,by
 obtain⟨i,h1,h2,h3,h4⟩:=info_parts (P:=Tryz.prog) (e:=4) (z:=.bool false) (size:=1) (bytes:=1) zk;exact⟨i,_,h1,h2,h3,h4,rfl⟩⟩
structure jo (m:Mem) (xs:List Value) (l:List (List Int)):Prop where
 len:xs.length=l.length
 get:∀i (h:i<l.length),∃v,xs[i]?=some v∧dA m v l[i]
theorem jo.nil (m:Mem):jo m [] []:=⟨rfl,fun i h=>by simp at h⟩
theorem jo.mono {m m':Mem} {xs:List Value} {l:List (List Int)} (h:jo m xs l) (hl:m.le m'):jo m' xs l:=
 ⟨h.len,fun i hi=>let ⟨v,h1,h2⟩:=h.get i hi;⟨v,h1,dC hl h2⟩⟩
theorem jo.push {m:Mem} {xs:List Value} {l:List (List Int)} (h:jo m xs l) {x:List Int} {v:Value} (hx:dA m v x):jo m (xs ++ [v]) (l ++ [x]):=by
 refine ⟨by simp[h.len],fun i hi=>?_⟩;by_cases c:i<l.length
 ·obtain⟨u,h1,h2⟩:=h.get i c;exact⟨u,by rw[List.getElem?_append_left (by rw[h.len];omega)];exact h1,by rw[List.getElem_append_left c];exact h2⟩
 ·have:i=l.length:=by simp at hi;omega
  subst this;refine ⟨v,?_,by simpa using hx⟩;rw[List.getElem?_append_right (by rw[h.len];omega)];simp[h.len]
theorem mZ {w:World} {t:TypeId} {v:Value} {l:List (List Int)} {xs:List Value} {m:Mem} (hown:w.ownsRow 0 t 1 v l.length xs) (hr:jo m xs l) (hf:m.free v):j5 (m.addv w v) v l:=
 gT hown fun _ hg i h=>let ⟨u,h1,h2⟩:=hr.get i h;⟨u,eQ hown hg m h1,dC (Mem.dh hf) h2⟩
def part (f:Int→Int) (cuts:List Int) (i:Nat):List Value:=((cuts.take i).map f ++ List.replicate (cuts.length - i) 0).map (Value.int .i64)
def ug (f:Int→Int) (cuts:List Int) (i:Nat) (x:Int):List Value:=((cuts.take i).map f ++ x::List.replicate (cuts.length - i - 1) 0).map (Value.int .i64)
theorem Em {f:Int→Int} {cuts:List Int} {i:Nat} (h:i<cuts.length):part f cuts i=ug f cuts i 0:=by
 unfold part ug;rw[show cuts.length - i=(cuts.length - i - 1)+1 by omega,List.replicate_succ]
 rfl
theorem Ac {f:Int→Int} {cuts:List Int} {i:Nat} (h:i<cuts.length) (x:Int):(ug f cuts i x)[i]?=some (.int .i64 x):=by
 unfold ug;rw[List.getElem?_map,List.getElem?_append_right (by simp;omega)];simp[Nat.min_eq_left (Nat.le_of_lt h)]
theorem Ab {f:Int→Int} {cuts:List Int} {i:Nat} (h:i<cuts.length) (x y:Int):(ug f cuts i x).set i (.int .i64 y)=ug f cuts i y:=by
 unfold ug;rw[List.map_append,List.map_append,List.set_append_right _ _ (by simp;omega)];simp[Nat.min_eq_left (Nat.le_of_lt h)]
theorem wE {f:Int→Int} {cuts:List Int} {i:Nat} (h:i<cuts.length):ug f cuts i (f cuts[i])=part f cuts (i+1):=by
 unfold part ug;rw[List.take_succ_eq_append_getElem h,show cuts.length - i - 1=cuts.length - (i+1) by omega];simp only[List.map_append,List.map_cons,List.append_assoc,List.cons_append,List.nil_append,List.map_nil]
theorem Aa (f:Int→Int) (cuts:List Int):List.replicate cuts.length (Value.int .i64 0)=part f cuts 0:=by simp[part]
theorem En (f:Int→Int) (cuts:List Int):part f cuts cuts.length=(cuts.map f).map (Value.int .i64):=by simp[part]
theorem Ej {f:Int→Int} {cuts:List Int} {i:Nat} (h:i<cuts.length):(part f cuts i)[i]?=some (.int .i64 0):=by rw[Em h];exact Ac h 0
theorem Ei {f:Int→Int} {cuts:List Int} {i:Nat} (h:i<cuts.length) (y:Int):(part f cuts i).set i (.int .i64 y)=ug f cuts i y:=by rw[Em h];exact Ab h 0 y
theorem G5 {n:Nat} {p:Int} {es:List Ed} (hw:aV n p es) (c:Int):0≤goTo n es c∧goTo n es c≤n:=by
 unfold goTo;rcases og hw c.toNat with h | h
 ·rw[h,if_pos zo];omega
 ·rw[if_neg zo];omega
theorem pO {n:Nat} {p:Int} {es:List Ed} (hw:aV n p es) (cuts:List Int):∀x∈kD n cuts es,0≤x∧x≤n:=by
 intro x hx;obtain⟨c,-,rfl⟩:=List.mem_map.1 hx;exact G5 hw c
structure TabAt (m:Mem) (g:Nat) (cuts:List Int) (next:List (List Int)) (acc:List Bool) (cls:List Int):Prop where
 ex:∃vc vn va vk,m.cell g 0=some vc∧m.cell g 1=some vn∧m.cell g 2=some va∧m.cell g 3=some vk ∧
  dA m vc cuts∧j5 m vn next∧fP m va acc∧dA m vk cls
theorem TabAt.mono {m m':Mem} {g:Nat} {cuts:List Int} {next:List (List Int)} {acc:List Bool} {cls:List Int} (h:TabAt m g cuts next acc cls) (hl:m.le m'):TabAt m' g cuts next acc cls:=by
 obtain⟨vc,vn,va,vk,h1,h2,h3,h4,h5,h6,h7,h8⟩:=h.ex;exact⟨vc,vn,va,vk,Mem.aA hl h1,Mem.aA hl h2,Mem.aA hl h3,Mem.aA hl h4,dC hl h5,mr hl h6,gM hl h7,dC hl h8⟩
def Bb (cuts:List Int) (i:Nat):Int:=if h:i+1<cuts.length then cuts[i+1] - 1 else 255
theorem NJ (g:Nat) (cuts:List Int) (next:List (List Int)) (acc:List Bool) (cls:List Int) (i:Nat) (m:Mem) (w:World) (hm:m.inn w) (ht:TabAt m g cuts next acc cls)
 (hi:i<cuts.length) (hc:∀h:i+1<cuts.length,1≤cuts[i+1]∧cuts[i+1]≤255) :
 Calls Tryz.prog 257 #[.pointer (some ⟨g,0,none⟩),.int .i64 i] w fun e w'=>e=.returned (.int .u8 (Bb cuts i))∧w'=w:=by
 obtain⟨vc,vn,va,vk,h1,-,-,-,⟨a,c,rfl,h5,h6,h7⟩,-,-,-⟩:=ht.ex;have hg:=Mem.av hm h1;have hw:=Mem.aj hm h1;unfold maxLen at h6;refine ay fun R hR=>?_
 go_enter Tryz.func257,Tryz.ntmps257
 by_cases hlt:i+1<cuts.length
 ·obtain⟨b,off,rfl,h8⟩:=h7 (by intro h;simp[h] at hlt);obtain⟨k1,k2,k3⟩:=h8 (i+1) hlt;have k4:=Mem.aj hm k1;have hcc:=hc hlt;have hend:Bb cuts i=cuts[i+1] - 1:=by simp[Bb,hlt]
  generalize cuts[i+1]=x at *
  go_wp2;refine hR.out _ _ ⟨?_,rfl⟩;rw[hend]
  rfl
 ·have hend:Bb cuts i=255:=by simp[Bb,hlt]
  go_wp2;refine hR.out _ _ ⟨?_,rfl⟩;rw[hend]
  rfl
def cl (cls:List Int) (s:Nat):Nat:=(cls.getD s 0).toNat
def bt (out:List Bool) (c:Nat):Bool:=out.getD c false
def nx (next:List (List Int)) (s:Nat):List Int:=next.getD s []
def okTo (out:List Bool) (cls l:List Int) (b:Bool):Bool:=b || l.any fun x=>bt out (cl cls x.toNat)
theorem kM {out:List Bool} {c:Nat} (h:c<out.length):bt out c=out[c]:=by simp[bt,h]
theorem Js {out:List Bool} {cls l:List Int} {b:Bool} {j:Nat} (h:j<l.length):okTo out cls (l.take (j+1)) b=(okTo out cls (l.take j) b || bt out (cl cls (l[j]).toNat)):=by
 unfold okTo;rw[List.take_succ_eq_append_getElem h,List.any_append];simp[Bool.or_assoc]
inductive rQ (next:List (List Int)) (acc:List Bool) (cls:List Int):Nat→Prop
 | acc (s:Nat) (hs:s<next.length) (h:bt acc s=true):rQ next acc cls (cl cls s)
 | step (s:Nat) (hs:s<next.length) (x:Int) (hx:x∈nx next s) (h:rQ next acc cls (cl cls x.toNat)):rQ next acc cls (cl cls s)
def qP (next:List (List Int)) (acc:List Bool) (cls:List Int) (out:List Bool):Prop:=∀c,bt out c=true→rQ next acc cls c
def mH (next:List (List Int)) (acc:List Bool) (cls:List Int) (out:List Bool) (k:Nat):Prop:=
 ∀s,s<k→okTo out cls (nx next s) (bt acc s)=true→bt out (cl cls s)=true
theorem JF {next:List (List Int)} {acc:List Bool} {cls:List Int} {out:List Bool} (h1:qP next acc cls out) (h2:mH next acc cls out next.length) (c:Nat) :
 bt out c=true↔rQ next acc cls c:=by
 refine ⟨h1 c,fun h=>?_⟩
 induction h with
 | acc s hs h=>exact h2 s hs (by simp[okTo,h])
 | step s hs x hx _ ih=>exact h2 s hs (by simp only[okTo,Bool.or_eq_true,List.any_eq_true];exact .inr ⟨x,hx,ih⟩)
theorem vE {next:List (List Int)} {acc:List Bool} {cls:List Int} {out:List Bool} {k:Nat} (h:mH next acc cls out k) (hk:okTo out cls (nx next k) (bt acc k)=true→bt out (cl cls k)=true) :
 mH next acc cls out (k+1):=fun s hs hok=>by
 by_cases e:s=k
 ·subst e;exact hk hok
 ·exact h s zo hok
theorem Ap {next:List (List Int)} {acc:List Bool} {cls:List Int} {out:List Bool} (h1:qP next acc cls out) {s:Nat} (hs:s<next.length) (hok:okTo out cls (nx next s) (bt acc s)=true) :
 qP next acc cls (out.set (cl cls s) true):=by
 intro c hc;by_cases e:cl cls s=c
 ·subst e;simp only[okTo,Bool.or_eq_true,List.any_eq_true] at hok;rcases hok with h | ⟨x,hx,h⟩
  ·exact .acc s hs h
  ·exact .step s hs x hx (h1 _ h)
 ·refine h1 c ?_;simpa [bt,List.getElem?_set,e] using hc
theorem Kw {out:List Bool}:∀{c:Nat},c<out.length→bt out c=false→(out.set c true).count false+1=out.count false:=by
 induction out with
 | nil=>intro c h;simp at h
 | cons b out ih=>
  intro c h hb
  cases c with
  | zero=>
   simp[bt] at hb;subst hb
   simp
  | succ c=>
   have:=@ih c (by simpa using h) (by simpa [bt] using hb);simp only[List.set_cons_succ,List.count_cons];omega
theorem LC (g:Nat) (cuts:List Int) (next:List (List Int)) (acc:List Bool) (cls:List Int) (m:Mem) (w:World) (hm:m.inn w) (ht:TabAt m g cuts next acc cls)
 (ha:acc.length=next.length) (hk:cls.length=next.length) (hn:∀r∈next,∀x∈r,0≤x∧x<next.length) (hkr:∀x∈cls,0≤x∧x<next.length) (hlen:next.length≤1000001) :
 Calls Tryz.prog 256 #[.pointer (some ⟨g,0,none⟩)] w fun e w'=>∃r out,e=.returned r∧Below w.heap.size w w'∧fP (m.grow w w') r out∧out.length=next.length ∧
  ∀c,bt out c=true↔rQ next acc cls c:=by
 obtain⟨vc,vn,va,vk,e1,e2,e3,e4,-,⟨na,nc,rfl,n1,n2,n3⟩,⟨aa,ac,rfl,a1,a2,a3⟩,⟨ka,kc,rfl,k1,k2,k3⟩⟩:=ht.ex;have hg:=Mem.av hm e1;have w2:=Mem.aj hm e2;have w3:=Mem.aj hm e3;have w4:=Mem.aj hm e4;unfold maxLen at n2 a2 k2;refine ay fun R hR=>?_
 go_enter Tryz.func256,Tryz.ntmps256
 go_wp2_with (refine wpList_make_row CV rfl (.tmp 13) (.tmp 13) rfl next.length rfl rfl zo (by unfold maxLen;omega) ?_)
 intro w5 hown hgrow;have hO:=(Own.start hm).make hown hgrow;clear hown hgrow;have hrep:List.replicate next.length (Value.bool false)=(List.replicate next.length false).map Value.bool:=by simp
 rw[hrep] at hO;clear hrep;have hs0:qP next acc cls (List.replicate next.length false):=by
  intro c hc;simp[bt,List.getElem?_replicate] at hc
  split at hc <;> simp at hc
 generalize hB:w.heap.size=B at *
 have hl0:(List.replicate next.length false).length=next.length:=by simp
 generalize List.replicate next.length false=out0 at *
 go_wp2;refine au [0,3,4] (fun n vs wr=>∃(out:List Bool) (again:Bool),out.length=next.length∧n=(if again=true then out.count false+1 else 0) ∧
  vs=[.pointer (some ⟨g,0,none⟩),.slice (some ⟨B,0,none⟩) next.length next.length,.bool again]∧Own w m wr m [.row (.slice (some ⟨B,0,none⟩) next.length next.length) 4 1 next.length (out.map Value.bool)] ∧
  qP next acc cls out∧(again=false→mH next acc cls out next.length)) ?_ ?_
 ·exact⟨_,out0,true,hl0,rfl,rfl,hO,hs0,zS⟩
 clear hO hs0 hl0;rintro X z n vs wr hX - ⟨out,again,hlo,rfl,rfl,hO,hs,hcl⟩;simp[litL,lk];have q2:=Mem.aj hO.inn e2;have hgl:=Mem.av hO.inn e1
 cases again with
 | false=>
  go_wp2;have hb:=gG (l:=out) (m:=m) (w:=wr) (v:=.slice (some ⟨B,0,none⟩) next.length next.length) (by rw[hlo];exact hO.row)
  exact hR.out _ _ ⟨_,out,rfl,hB ▸ hO.below,gM hO.bg.done hb,hlo,JF hs (hcl zS)⟩
 | true=>
  clear hcl;go_wp2;refine au [0,3,4,20,21] (fun n vs wr=>∃(ou:List Bool) (ag:Bool) (k:Nat),k≤next.length∧n=next.length - k∧ou.length=next.length ∧
   vs=[.pointer (some ⟨g,0,none⟩),.slice (some ⟨B,0,none⟩) next.length next.length,.bool ag,.int .i64 next.length,.int .i64 k]∧Own w m wr m [.row (.slice (some ⟨B,0,none⟩) next.length next.length) 4 1 next.length (ou.map Value.bool)] ∧
   qP next acc cls ou∧(ag=true→ou.count false<out.count false)∧(ag=false→ou=out∧mH next acc cls ou k)) ?_ ?_
  ·exact⟨_,out,false,0,Nat.zero_le _,rfl,hlo,rfl,hO,hs,zS,fun _=>⟨rfl,fun s h=>absurd h zo⟩⟩
  clear hO q2 hgl;rintro Y z2 n vs wr2 hY - ⟨ou,ag,k,hk2,rfl,hlu,rfl,hO,hs2,hag,hcl⟩;simp[litL,lk];have q2:=Mem.aj hO.inn e2;have q3:=Mem.aj hO.inn e3;have q4:=Mem.aj hO.inn e4;have hgl:=Mem.av hO.inn e1;by_cases hlt:k<next.length
  ·obtain⟨nb,no,rfl,n4⟩:=n3 (by intro h;simp[h] at hlt);obtain⟨ab,ao,rfl,a4⟩:=a3 (by intro h;simp[h] at ha;omega);obtain⟨kb,ko,rfl,k4⟩:=k3 (by intro h;simp[h] at hk;omega);obtain⟨u,c1,ra,rc,rfl,r1,r2,r3⟩:=n4 k hlt;have c1w:=Mem.aj hO.inn c1;have c2:=a4 k zo;have c2w:=Mem.aj hO.inn c2;have c3:=k4 k zo;have c3w:=Mem.aj hO.inn c3.1;have hrow:=hn next[k] (List.getElem_mem hlt);have hnx:nx next k=next[k]:=by simp[nx,hlt]
   have hba:bt acc k=acc[k]:=kM zo;rw[← hba] at c2w;have hkk:=hkr cls[k] (List.getElem_mem zo);obtain⟨kn,hkn⟩:=Int.eq_ofNat_of_zero_le hkk.1;have hcl1:cl cls k=kn:=by simp[cl,show k<cls.length by omega,hkn]
   rw[hkn] at c3w;unfold maxLen at r2;generalize next[k]=row at *
   go_wp2;refine au [0,3,4,20,21,5,6,37,38,39] (fun n vs wr3=>∃j:Nat,j≤row.length∧n=row.length - j ∧
    vs=[.pointer (some ⟨g,0,none⟩),.slice (some ⟨B,0,none⟩) next.length next.length,.bool ag,.int .i64 next.length,.int .i64 k,.int .i64 k,.bool (okTo ou cls (row.take j) (bt acc k)),.slice ra row.length rc,.int .i64 row.length,.int .i64 j] ∧
    Own w m wr3 m [.row (.slice (some ⟨B,0,none⟩) next.length next.length) 4 1 next.length (ou.map Value.bool)]) ?_ ?_
   ·exact⟨_,0,Nat.zero_le _,rfl,by simp[okTo,hba],hO⟩
   clear hO q2 q3 q4 hgl c1w c2w c3w;rintro Z z3 n vs wr3 hZ - ⟨j,hj,rfl,rfl,hO⟩;simp[litL,lk];have q4:=Mem.aj hO.inn e4;have hgl:=Mem.av hO.inn e1;by_cases hlt2:j<row.length
   ·obtain⟨rb,ro,rfl,r4⟩:=r3 (by intro h;simp[h] at hlt2);have d1:=Mem.aj hO.inn (r4 j hlt2).1;have hx:=hrow row[j] (List.getElem_mem hlt2);obtain⟨xn,hxn⟩:=Int.eq_ofNat_of_zero_le hx.1;have hstep:=Js (out:=ou) (cls:=cls) (b:=bt acc k) hlt2;rw[hxn] at d1 hx hstep;have hxl:xn<next.length:=zo;have hy:=hkr cls[xn] (List.getElem_mem zo);obtain⟨yn,hyn⟩:=Int.eq_ofNat_of_zero_le hy.1;have d2:=Mem.aj hO.inn (k4 xn zo).1;rw[hyn] at d2 hy;have hcx:cl cls ((xn:Int).toNat)=yn:=by simp[cl,show xn<cls.length by omega,hyn]
    rw[hcx] at hstep;have hyl:yn<ou.length:=zo;have d3:=aP (j:=yn) (u:=.bool ou[yn]) hO.row (by simp[hyl]);rw[← kM hyl] at d3;generalize bt ou yn=y at *
    have Hst:=zh hstep;clear hstep;generalize okTo ou cls (row.take j) (bt acc k)=ok at *
    go_wp2
    all_goals refine hZ.out _ _ _ zo rfl ⟨j+1,zo,rfl,?_,hO⟩
    all_goals rw[Hst.out]
    all_goals first
     | rfl
     | simp_all
   ·obtain rfl:j=row.length:=zo;rw[List.take_length];have c3w:=Mem.aj hO.inn c3.1;rw[hkn] at c3w;have hkl:kn<ou.length:=zo;have d3:=aP (j:=kn) (u:=.bool ou[kn]) hO.row (by simp[hkl]);have d4:=bU hO.row kn;rw[← kM hkl] at d3;have hO2:=hO.setRow kn (.bool true);have hset:(ou.map Value.bool).set kn (.bool true)=(ou.set kn true).map Value.bool:=by rw[List.map_set]
    rw[hset] at hO2;have hcnt:=Kw (out:=ou) (c:=kn) hkl;have hsnd:=Ap (s:=k) hs2 hlt;rw[hcl1,hnx] at hsnd;generalize hok:okTo ou cls row (bt acc k)=ok at *
    generalize hy:bt ou kn=y at *
    have hclk:∀(_:ok=true→y=true) (_:ag=false),mH next acc cls ou (k+1):=fun h1 h2=>
     vE (hcl h2).2 (by rw[hnx,hok,hcl1,hy];exact h1)
    have HO2:=zh hO2;have Hkeep:=zh (zi hag (zi hcl (zi hcnt (zi hsnd hclk))));clear hO2 hset hag hcl hcnt hsnd hclk hok hy
    cases ok with
    | false=>
     go_wp2;obtain⟨hag,hcl,hcnt,hsnd,hclk⟩:=Hkeep.out
     exact hY.out _ _ _ zo rfl ⟨ou,ag,k+1,zo,rfl,hlu,rfl,hO,hs2,hag,fun h=>⟨(hcl h).1,hclk zS h⟩⟩
    | true=>
     cases y with
     | true=>
      go_wp2;obtain⟨hag,hcl,hcnt,hsnd,hclk⟩:=Hkeep.out
      exact hY.out _ _ _ zo rfl ⟨ou,ag,k+1,zo,rfl,hlu,rfl,hO,hs2,hag,fun h=>⟨(hcl h).1,hclk zS h⟩⟩
     | false=>
      go_wp2;obtain⟨hag,hcl,hcnt,hsnd,hclk⟩:=Hkeep.out;refine hY.out _ _ _ zo rfl ⟨ou.set kn true,true,k+1,zo,rfl,by simp[hlu],rfl,HO2.out,hsnd zS,fun _=>?_,zS⟩;have:=hcnt zS
      cases ag with
      | true=>have:=hag rfl;omega
      | false=>have:=(hcl rfl).1;subst this;omega
  ·obtain rfl:k=next.length:=zo;have hmeas:(if ag=true then ou.count false+1 else 0)<out.count false+1:=by
    split
    ·exact Nat.add_lt_add_right (hag (by assumption)) 1
    ·omega
   go_wp2;exact hX.out _ _ _ (by simpa using hmeas) rfl ⟨ou,ag,hlu,rfl,rfl,hO,hs2,fun h=>(hcl h).2⟩
def txt (l:List Int):List UInt8:=l.flatMap fun x=>44::Lib.itoa x
def eG (l:List Int):List UInt8:=(txt l).tail
def uL (l:List UInt8):Nat:=l.foldl (fun a c=>a*10+(c.toNat - 48)) 0
theorem kz (u:Nat):uL (Lib.decDigits u)=u∧∀c∈Lib.decDigits u,c≠44:=by
 induction u using Nat.strongRecOn with
 | _ u ih=>
  by_cases h:u<10
  ·rw[Lib.decDigits,dif_pos h];have:(UInt8.ofNat (48+u)).toNat=48+u:=by simp;omega
   refine ⟨by simp only[uL,List.foldl];omega,fun c hc e=>?_⟩;simp only[List.mem_singleton] at hc;subst hc;rw[e] at this;have h44:(44:UInt8).toNat=44:=rfl;omega
  ·rw[Lib.decDigits,dif_neg h];have hv:=ih (u / 10) zo;have:(UInt8.ofNat (48+u % 10)).toNat=48+u % 10:=by simp;omega
   refine ⟨?_,fun c hc e=>?_⟩
   ·unfold uL at hv ⊢;rw[List.foldl_append,hv.1];simp only[List.foldl];omega
   ·rcases List.mem_append.1 hc with h1 | h1
    ·exact hv.2 c h1 e
    ·simp only[List.mem_singleton] at h1;subst h1;rw[e] at this;have h44:(44:UInt8).toNat=44:=rfl;omega
theorem AO {x:Int} (h:0≤x):uL (Lib.itoa x)=x.toNat∧∀c∈Lib.itoa x,c≠44:=by
 unfold Lib.itoa;rw[if_neg zo];exact kz x.toNat
theorem I6:∀(a a' r r':List UInt8),(∀c∈a,c≠44)→(∀c∈a',c≠44)→(r=[]∨∃t,r=44::t)→(r'=[]∨∃t,r'=44::t)→a ++ r=a' ++ r'→a=a'∧r=r':=by
 intro a
 induction a with
 | nil=>
  intro a' r r' _ h2 h3 h4 e
  cases a' with
  | nil=>exact⟨rfl,by simpa using e⟩
  | cons c a'=>
   exfalso;rcases h3 with rfl | ⟨t,rfl⟩
   ·simp at e
   ·simp at e;exact h2 c zS e.1.symm
 | cons c a ih=>
  intro a' r r' h1 h2 h3 h4 e
  cases a' with
  | nil=>
   exfalso;rcases h4 with rfl | ⟨t,rfl⟩
   ·simp at e
   ·simp at e;exact h1 c zS e.1
  | cons d a'=>
   simp only[List.cons_append,List.cons.injEq] at e;obtain⟨e1,e2⟩:=ih a' r r' (fun x hx=>h1 x (by simp[hx])) (fun x hx=>h2 x (by simp[hx])) h3 h4 e.2;exact⟨by rw[e.1,e1],e2⟩
theorem rX (l:List Int):txt l=[]∨∃t,txt l=44::t:=by
 cases l with
 | nil=>exact .inl rfl
 | cons x l=>exact .inr ⟨Lib.itoa x ++ txt l,by simp[txt]⟩
theorem Nh:∀(l l':List Int),(∀x∈l,0≤x)→(∀x∈l',0≤x)→txt l=txt l'→l=l':=by
 intro l
 induction l with
 | nil=>
  intro l' _ _ e
  cases l' with
  | nil=>rfl
  | cons x l'=>simp[txt] at e
 | cons x l ih=>
  intro l' h1 h2 e
  cases l' with
  | nil=>simp[txt] at e
  | cons y l'=>
   have e:44::(Lib.itoa x ++ txt l)=44::(Lib.itoa y ++ txt l'):=by simpa [txt] using e
   simp only[List.cons.injEq,true_and] at e;have hx:=AO (h1 x zS);have hy:=AO (h2 y zS);obtain⟨e1,e2⟩:=I6 _ _ _ _ hx.2 hy.2 (rX l) (rX l') e;have hxy:x=y:=by
    have a:=h1 x zS;have b:=h2 y zS;have:=hx.1.symm.trans ((congrArg uL e1).trans hy.1);omega
   rw[hxy,ih l' (fun z hz=>h1 z (by simp[hz])) (fun z hz=>h2 z (by simp[hz])) e2]
theorem FP {l l':List Int} (hl:l≠[]) (hl':l'≠[]) (h1:∀x∈l,0≤x) (h2:∀x∈l',0≤x) (e:eG l=eG l'):l=l':=by
 apply Nh l l' h1 h2
 cases l with
 | nil=>exact absurd rfl hl
 | cons x l=>
  cases l' with
  | nil=>exact absurd rfl hl'
  | cons y l'=>
   have a:txt (x::l)=44::eG (x::l):=by simp[eG,txt]
   have b:txt (y::l')=44::eG (y::l'):=by simp[eG,txt]
   rw[a,b,e]
theorem Cf (x y:Int) (l:List Int):eG (x::(l ++ [y]))=eG (x::l) ++ 44::Lib.itoa y:=by simp[eG,txt]
theorem FN (x:Int):eG [x]=Lib.itoa x:=by simp[eG,txt]
theorem Ca (l:List UInt8):Lib.strCells ⟨l.toArray⟩=Lib.byteCells l:=by simp[Lib.strCells,Lib.byteCells]
theorem pW (a b:List UInt8):Lib.byteCells (a ++ b)=Lib.byteCells a ++ Lib.byteCells b:=by simp[Lib.byteCells]
theorem GY (w:World) (k:Nat) (os:Array Obj):Below w.heap.size w (Sort.grow (w.drewN k) os):=by
 refine (below_drewN (Below.refl _ w) k).trans ⟨rfl,rfl,rfl,?_,fun j hj=>?_⟩
 ·simp[Sort.grow]
 ·show (w.heap ++ os)[j]?=w.heap[j]?;exact Array.getElem?_append_left hj
theorem wm (l:List Int) (h:∀x∈l,0≤x∧x≤9223372036854775807):(eG l).length≤22*l.length:=by
 have:(txt l).length≤22*l.length:=by
  induction l with
  | nil=>simp[txt]
  | cons x l ih=>
   have h1:=Lib.itoa_length_le x (by have:=h x zS;omega) (h x zS).2;have h2:=ih fun y hy=>h y (by simp[hy]);simp only[txt,List.flatMap_cons,List.length_append,List.length_cons] at h2 ⊢;omega
 unfold eG;rw[List.length_tail];omega
theorem Ee {B:Nat} {w w':World} {e:TypeId} {v:Value} {n:Nat} {xs:List Value} (h:w.ownsRow B e 1 v n xs) (hb:Below w.heap.size w w'):w'.ownsRow B e 1 v n xs:=by
 obtain⟨h1,h2⟩:=h;refine ⟨h1,?_⟩;rcases h2 with h2 | ⟨g,cap,cur,hv,hg,hh,r⟩
 ·exact .inl h2
 ·exact .inr ⟨g,cap,cur,hv,hg,by rw[hb.block g (Array.getElem?_eq_some_iff.1 hh).1];exact hh,r⟩
theorem rE {T e:TypeId} {B b:Nat} {p:Value} {bs:List Value} {w w':World} (h:Lib.BuilderAt T e B b p bs w) (hb:Below w.heap.size w w'):Lib.BuilderAt T e B b p bs w':=by
 obtain⟨h1,v,h2,h3,h4⟩:=h;exact⟨h1,v,by rw[hb.block b (Array.getElem?_eq_some_iff.1 h2).1];exact h2,Ee h3 hb,h4⟩
theorem Fg (n:Int) (h : -9223372036854775808≤n∧n≤9223372036854775807) (m:Mem) (w:World) (hm:m.inn w) (htab:TabM m) :
 Calls Tryz.prog 273 #[.int .i64 n] w fun e w'=>e=.returned (.string ⟨(Lib.itoa n).toArray⟩)∧Below w.heap.size w w':=by
 refine (Tryz.strconv_Itoa n h.1 h.2 w (htab.get w hm)).mono ?_;rintro e w' ⟨rfl,k,os,rfl⟩;exact⟨rfl,GY w k os⟩
theorem xR (g s:Nat) (vc vn va vk:Value) (next:List (List Int)) (cls:List Int) (m:Mem) (w:World) (hm:m.inn w) (htab:TabM m) (hg:bD w g 238 #[vc,vn,va,vk])
 (hn:j5 m vn next) (hk:dA m vk cls) (hs:s<next.length) (hsk:s<cls.length) (hkr:∀x∈cls,0≤x) (hnr:∀x∈next[s],0≤x∧x<cls.length) (hlen:next[s].length≤1000) :
 Calls Tryz.prog 255 #[.pointer (some ⟨g,0,none⟩),.int .i64 s] w fun e w'=>e=.returned (.string ⟨(eG (cls.getD s 0::next[s].map fun x=>cls.getD x.toNat 0)).toArray⟩)∧Below w.heap.size w w':=by
 have ecs:cls.getD s 0=cls[s]:=by simp[hsk]
 rw[ecs];clear ecs;obtain⟨na,nc,rfl,n1,n2,n3⟩:=hn;obtain⟨ka,kc,rfl,k1,k2,k3⟩:=hk;obtain⟨nb,no,rfl,n4⟩:=n3 (by intro h;simp[h] at hs);obtain⟨kb,ko,rfl,k4⟩:=k3 (by intro h;simp[h] at hsk);obtain⟨u,c1,ra,rc,rfl,r1,r2,r3⟩:=n4 s hs;have c2:=k4 s hsk;have hcs:=hkr cls[s] (List.getElem_mem hsk);unfold maxLen at n2 k2 r2;have hgl:=hg.lt;have Hrow:∀i (h:i<next[s].length),∃xn:Nat,next[s][i]=xn∧xn<cls.length:=fun i h=>by
  have:=hnr next[s][i] (List.getElem_mem h);exact⟨next[s][i].toNat,zo,zo⟩
 generalize next[s]=row at *
 generalize hx0:cls[s]=x0 at *
 have hbnd:∀x∈x0::row.map (fun x=>cls.getD x.toNat 0),0≤x∧x≤9223372036854775807:=by
  intro x hx;rcases List.mem_cons.1 hx with rfl | hx
  ·exact⟨hcs,c2.2.2⟩
  ·obtain⟨y,hy,rfl⟩:=List.mem_map.1 hx;have:=hnr y hy;have hl:y.toNat<cls.length:=zo;simp only[List.getD_eq_getElem?_getD,hl,List.getElem?_eq_getElem,Option.getD_some];exact⟨hkr _ (List.getElem_mem hl),(k4 _ hl).2.2⟩
 refine ay fun R hR=>?_;have hB0:Lib.BuilderAt 262 5 w.heap.size w.heap.size (.pointer none) (Lib.byteCells []) (w.alloc (.cells #[.pointer none,.slice none 0 0] 262)):=by
  refine ⟨Nat.le_refl _,.slice none 0 0,(bD.new _ _ _).get,?_,by simp[Value.ownBlock]⟩;exact World.ownsRow_nil _ _ _ _
 have hbel0:=(Below.refl _ w).alloc (Nat.le_refl _) (.cells #[.pointer none,.slice none 0 0] 262);have h0:=hg.al (.cells #[.pointer none,.slice none 0 0] 262);have p3:=h0.cell (i:=3) rfl;have p1:=h0.cell (i:=1) rfl;have hm1:=Mem.bE hm hbel0;have p4:=Mem.aj hm1 c2.1;have Hb:=zh (zi hB0 (zi hbel0 hm1));clear hB0 hbel0 h0 hm1
 go_enter Tryz.func255,Tryz.ntmps255
 go_wp2_with fail
 refine (Fg _ c2.2 m _ Hb.out.2.2 htab).mono ?_;rintro e w2 ⟨rfl,hb2⟩;have hB1:Lib.IsBuilder 262 5 w.heap.size w.heap.size (Lib.byteCells []) w2:=.inl (rE Hb.out.1 hb2);have hb3:=Hb.out.2.1.trans (hb2.mono zS);have hl1:=Lib.itoa_length_le x0 zo c2.2.2
 go_wp2_with fail
 refine (lQ w.heap.size w.heap.size _ _ _ hB1 (by simp[Lib.byteCells,ByteArray.size];omega) hb3.size).mono ?_;rintro e w4 ⟨rfl,hB4,hb4⟩;have hb5:=hb3.trans hb4;rw[Ca,← pW,List.nil_append,← FN] at hB4;have hc3:=(hg.below hb5 hgl).cell (i:=3) rfl;have hc1:=(hg.below hb5 hgl).cell (i:=1) rfl;have hc5:=Mem.aj (Mem.bE hm hb5) c1;have Hk:=zh (zi hB4 (zi hb5 hbnd));clear Hb hb2 hB1 hb3 hl1 hB4 hb4 hb5 p3 p1 p4 hbnd;go_wp2;refine au [0,1,5,23,24,25] (fun n vs wr=>∃j:Nat,j≤row.length∧n=row.length - j ∧
  vs=[.pointer (some ⟨g,0,none⟩),.int .i64 s,.pointer (some ⟨w.heap.size,0,none⟩),.slice ra row.length rc,.int .i64 row.length,.int .i64 j] ∧
  Lib.BuilderAt 262 5 w.heap.size w.heap.size (.pointer (some ⟨w.heap.size,0,none⟩)) (Lib.byteCells (eG (x0::(row.take j).map fun x=>cls.getD x.toNat 0))) wr∧Below w.heap.size w wr) ?_ ?_
 ·exact⟨_,0,Nat.zero_le _,rfl,rfl,by simpa using Hk.out.1,Hk.out.2.1⟩
 clear hc3 hc1 hc5;rintro X z n vs wr hX - ⟨j,hj,rfl,rfl,hB,hbel⟩;simp[litL,lk];have hbnd:=Hk.out.2.2;by_cases hlt:j<row.length
 ·obtain⟨rb,ro,rfl,r4⟩:=r3 (by intro h;simp[h] at hlt);have hmr:=Mem.bE hm hbel;have d1:=Mem.aj hmr (r4 j hlt).1;obtain⟨xn,hxn,hxl⟩:=Hrow j hlt;have d2:=k4 xn hxl;have d2w:=Mem.aj hmr d2.1;have hc3:=(hg.below hbel hgl).cell (i:=3) rfl;have htk:=List.take_succ_eq_append_getElem hlt;have hst:eG (x0::(row.take (j+1)).map fun x=>cls.getD x.toNat 0)=eG (x0::(row.take j).map fun x=>cls.getD x.toNat 0) ++ 44::Lib.itoa cls[xn]:=by
   rw[htk,List.map_append,hxn];have:cls.getD ((xn:Int).toNat) 0=cls[xn]:=by simp[hxl]
   rw[List.map_cons,this,List.map_nil,Cf]
  have hlen2:(eG (x0::(row.take j).map fun x=>cls.getD x.toNat 0)).length≤22*1001:=by
   refine Nat.le_trans (wm _ fun x hx=>hbnd x ?_) ?_
   ·rcases List.mem_cons.1 hx with rfl | hx
    ·simp
    ·obtain⟨y,hy,rfl⟩:=List.mem_map.1 hx;exact List.mem_cons_of_mem _ (List.mem_map.2 ⟨y,List.mem_of_mem_take hy,rfl⟩)
   ·simp;omega
  rw[hxn] at d1;have hl1:=Lib.itoa_length_le cls[xn] d2.2.1 d2.2.2;have HS:=zh hst;clear hst htk hxn;generalize eG (x0::(row.take j).map fun x=>cls.getD x.toNat 0)=tx at *
  have Hk2:=zh (zi hB (zi hbel hmr));clear hB hmr;generalize cls[xn]=y at *
  go_wp2_with fail
  refine (Fg _ d2.2 m _ Hk2.out.2.2 htab).mono ?_;rintro e w2 ⟨rfl,hb2⟩;have hB1:Lib.IsBuilder 262 5 w.heap.size w.heap.size (Lib.byteCells tx) w2:=.inr (rE Hk2.out.1 hb2);have hb3:=hbel.trans (hb2.mono hbel.size)
  go_wp2_with fail
  refine (lQ w.heap.size w.heap.size _ _ _ hB1 (by simp[Lib.byteCells,ByteArray.size];omega) hb3.size).mono ?_;rintro e w4 ⟨rfl,hB4,hb4⟩;have e4:∀l:List UInt8,Lib.strCells ((⟨#[44]⟩:ByteArray) ++ (⟨l.toArray⟩:ByteArray))=Lib.byteCells (44::l):=fun l=>by
   simp[Lib.strCells,Lib.byteCells]
  rw[e4,← pW,← HS.out] at hB4;have hb5:=hb3.trans hb4;have Hk3:=zh (zi hB4 hb5);clear hB4 hb4 hb5 hb3 hb2 hB1 hlen2 hl1 e4 hc3 d1 d2w;go_wp2;exact hX.out _ _ _ zo rfl ⟨j+1,zo,rfl,rfl,Hk3.out.1,Hk3.out.2⟩
 ·obtain rfl:j=row.length:=zo;rw[List.take_length] at hB;have Hk2:=zh (zi hB hbel);clear hB hbel hbnd
  go_wp2_with fail
  refine (Tryz.Builder_String_any w.heap.size w.heap.size _ _ (.inr Hk2.out.1) Hk2.out.2.size).mono ?_;rintro e w5 ⟨rfl,hb⟩;go_wp2;exact hR.out _ _ ⟨rfl,Hk2.out.2.trans hb⟩
def taN (next:List (List Int)) (s i:Nat):Int:=(nx next s).getD i 0
theorem Om {next:List (List Int)} {cls:List Int} {K s:Nat} (hs:s<next.length) (hK:next[s].length=K) (hr:∀x∈next[s],0≤x) (_:s<cls.length) :
 sig cls (taN next) K s=cls.getD s 0::next[s].map fun x=>cls.getD x.toNat 0:=by
 unfold sig taN nx;have e1:next.getD s []=next[s]:=by simp[hs]
 rw[e1]
 congr 1
 apply List.ext_getElem
 ·simp[hK]
 ·intro i h1 h2;have hi:i<next[s].length:=by simpa using h2
  have h0:=hr _ (List.getElem_mem hi);simp only[List.getElem_map,List.getElem_range];have e3:next[s].getD i 0=next[s][i]:=by simp[hi]
  rw[e3];unfold pR;rw[if_neg zo]
def Fe (f:Lit→Option Int) (sn:List (List Int)):Prop:=
 ∀l,l≠[]→(∀x∈l,0≤x)→f (.string (eG l))=if sn.findIdx (·==l)<sn.length then some ((sn.findIdx (·==l):Nat):Int) else none
theorem Gs:Fe (fun _=>none) []:=fun l _ _=>by simp
theorem Gr {f:Lit→Option Int} {sn:List (List Int)} (h:Fe f sn) {x:List Int} (hx:x≠[]) (hx0:∀y∈x,0≤y) (hn:¬ sn.findIdx (·==x)<sn.length) :
 Fe (fput f (.string (eG x)) sn.length) (sn ++ [x]):=by
 intro l hl hl0;by_cases c:l=x
 ·subst c;rw[pJ,List.findIdx_append,if_neg hn];simp[List.findIdx_cons]
 ·have hne:Lit.string (eG l)≠Lit.string (eG x):=fun e=>c (FP hl hx hl0 hx0 (by simpa using e));rw[mD f _ hne,h l hl hl0,List.findIdx_append];by_cases d:sn.findIdx (·==l)<sn.length
  ·rw[if_pos d,if_pos d,if_pos (by simp;omega)]
  ·have hxl:¬ (x==l)=true:=by simpa using fun e=>c (Eq.symm e)
   rw[if_neg d,if_neg d,if_neg];simp[List.findIdx_cons,hxl];omega
theorem wL (f:Nat→List Int) (k:Nat):dO f (k+1)=(if (dO f k).1.findIdx (·==f k)<(dO f k).1.length then (dO f k).1 else (dO f k).1 ++ [f k],(dO f k).2 ++ [((dO f k).1.findIdx (·==f k):Int)]):=rfl
def fM (nx:List Int) (r:Nat):List Value:=(nx ++ List.replicate r 0).map (Value.int .i64)
theorem fK {nx:List Int} {r k:Nat} (h:nx.length=k) (hr:0<r):(fM nx r)[k]?=some (.int .i64 0):=by
 unfold fM;rw[List.getElem?_map,List.getElem?_append_right zo];simp[h,hr]
theorem iZ {nx:List Int} {r k:Nat} (h:nx.length=k) (hr:0<r) (x:Int):(fM nx r).set k (.int .i64 x)=fM (nx ++ [x]) (r - 1):=by
 unfold fM;obtain⟨q,rfl⟩:∃q,r=q+1:=⟨r - 1,zo⟩;rw[List.map_append,List.set_append_right _ _ (by simp;omega),List.map_append,List.map_append];simp[h,List.replicate_succ]
theorem kw (nx:List Int):fM nx 0=nx.map (Value.int .i64):=by simp[fM]
theorem jk (n:Nat):List.replicate n (Value.int .i64 0)=fM [] n:=by simp[fM]
def b2i (b:Bool):Int:=if b=true then 1 else 0
theorem uH {acc:List Bool} {k N:Nat} (h:k<acc.length) (hN:acc.length=N) :
 fM ((acc.take (k+1)).map b2i) (N - (k+1))=(fM ((acc.take k).map b2i) (N - k)).set k (.int .i64 (b2i acc[k])):=by
 rw[iZ (by simp;omega) zo,List.take_succ_eq_append_getElem h,List.map_append]
 rfl
structure yP (T:Table) (cuts:List Int) (next:List (List Int)) (acc:List Bool) (lo hi:Nat→Nat):Prop where
 ta:BH T next.length lo hi cuts.length (taN next)
 accs:∀s,s<next.length→acc.getD s false=dS T s
 alen:acc.length=next.length
 rows:∀r∈next,r.length=cuts.length∧∀x∈r,0≤x∧x<next.length
 pos:1≤next.length
 clen:cuts.length≤256
 nlen:next.length≤1000001
theorem Fh (w:World):(zeroValue 3).run Tryz.prog w=.ok (.int .i64 0) w:=by kernel_rfl
theorem tu:Tryz.prog.underlying 240=some (.map 9 3):=Tryz.underlying240
theorem JM (l:List UInt8) (h:l.length≤maxLen):keyOf Tryz.prog 9 (.string ⟨l.toArray⟩)=some (.string l):=by
 simpa using WideMaps.keyOf_string_mk (P:=Tryz.prog) Tryz.underlying9 (s:=⟨l.toArray⟩) (by simpa [ByteArray.size] using h)
theorem KZ {n:Nat} (h:n≤2000000):(Lit.int .i64 (n:Int)).wf=true:=by
 have h1:IntKind.i64.min = -9223372036854775808:=by decide
 have h2:IntKind.i64.max=9223372036854775807:=by decide
 simp only[Lit.wf,h1,h2,Bool.and_eq_true,decide_eq_true_eq];omega
theorem FX (g:Nat) (vc vn va:Value) (T:Table) (cuts:List Int) (next:List (List Int)) (acc:List Bool) (lo hi:Nat→Nat) (H:yP T cuts next acc lo hi) (m mk:Mem) (w0 w:World) (L:List Cl.Item) (htab:TabM mk)
 (hO:Own w0 m w mk (.obj g 238 #[vc,vn,va,.slice none 0 0]::L)) (hn:j5 mk vn next) (ha:fP mk va acc) :
 Calls Tryz.prog 225 #[.pointer (some ⟨g,0,none⟩)] w fun e w'=>∃mk' vk cls,e=.returned (.tuple #[])∧Own w0 m w' mk' (.obj g 238 #[vc,vn,va,vk]::L)∧mk.le mk'∧dA mk' vk cls∧qR T next.length cls:=by
 obtain⟨na,nc,rfl,n1,n2,n3⟩:=hn;obtain⟨aa,ac,rfl,a1,a2,a3⟩:=ha;unfold maxLen at n2 a2;have hpos:=H.pos;have hnlen:=H.nlen;have halen:=H.alen.symm ▸ hnlen;have hclen:=H.clen;refine ay fun R hR=>?_;have q1:=hO.obj.cell (i:=1) rfl;have q2:=hO.obj.cell (i:=2) rfl;have ql:=hO.obj.lt
 go_enter Tryz.func225,Tryz.ntmps225
 go_step3
 go_wp2_with (refine wpList_make_row wQ rfl (.tmp 17) (.tmp 17) rfl next.length rfl rfl zo (by unfold maxLen;omega) ?_)
 intro w1 hown1 hgrow1;have hO1:=(hO.make hown1 hgrow1).swap;have f3:=hO1.obj.frozen 3;have c3:=hO1.obj.cell (i:=3) rfl;have c2:=hO1.obj.cell (i:=2) rfl;have cl:=hO1.obj.lt;have hO2:Own w0 m (w1.setCell ⟨g,3,none⟩ (.slice (some ⟨w.heap.size,0,none⟩) next.length next.length)) mk
  (.obj g 238 #[vc,.slice na next.length nc,.slice aa acc.length ac,.slice (some ⟨w.heap.size,0,none⟩) next.length next.length]::.row (.slice (some ⟨w.heap.size,0,none⟩) next.length next.length) 3 1 next.length (List.replicate next.length (Value.int .i64 0))::L):=
  hO1.set 3 (.slice (some ⟨w.heap.size,0,none⟩) next.length next.length)
 rw[jk] at hO2;clear hown1 hgrow1 hO1 q1 q2 ql;have HO2:=zh hO2;clear hO2;generalize w.heap.size=B at *
 go_wp2;refine au [0,24,25,26] (fun n vs wr=>∃k:Nat,k≤acc.length∧n=acc.length - k∧vs=[.pointer (some ⟨g,0,none⟩),.slice aa acc.length ac,.int .i64 acc.length,.int .i64 k] ∧
  Own w0 m wr mk (.obj g 238 #[vc,.slice na next.length nc,.slice aa acc.length ac,.slice (some ⟨B,0,none⟩) next.length next.length]::.row (.slice (some ⟨B,0,none⟩) next.length next.length) 3 1 next.length (fM ((acc.take k).map b2i) (next.length - k))::L)) ?_ ?_
 ·exact⟨_,0,Nat.zero_le _,rfl,rfl,by simpa using HO2.out⟩
 clear HO2 f3 c3 c2 cl;rintro X z n vs wr hX - ⟨k,hk,rfl,rfl,hO3⟩;simp[litL,lk];by_cases hlt:k<acc.length
 ·obtain⟨ab,ao,rfl,a4⟩:=a3 (by intro h;simp[h] at hlt);have d1:=Mem.aj hO3.inn (a4 k hlt);have c3:=hO3.obj.cell (i:=3) rfl;have cl:=hO3.obj.lt;have Hlen:=zh H.alen;have Hst:=zh (uH hlt H.alen);have r1:=aP (j:=k) (u:=.int .i64 0) hO3.swap.row (fK (by simp;omega) (by have:=H.alen;omega));have r2:=bU hO3.swap.row k;have r3:k<next.length:=by have:=H.alen;omega
  have hO4:=(hO3.swap.setRow k (.int .i64 1)).swap;have HO:=zh (zi hO3 hO4);clear hO3 hO4
  cases hb:acc[k] with
  | true=>
   rw[hb] at d1 Hst;go_wp2;refine hX.out _ _ _ zo rfl ⟨k+1,zo,rfl,rfl,?_⟩;rw[Hst.out]
   exact HO.out.2
  | false=>
   rw[hb] at d1 Hst;go_wp2;refine hX.out _ _ _ zo rfl ⟨k+1,zo,rfl,rfl,?_⟩;rw[Hst.out,show Value.int .i64 (b2i false)=.int .i64 0 from rfl];have:∀{xs:List Value},xs[k]?=some (.int .i64 0)→xs.set k (.int .i64 0)=xs:=fun {xs} h=>by
    obtain⟨h1,h2⟩:=List.getElem?_eq_some_iff.1 h;rw[← h2,List.set_getElem_self]
   rw[this (fK (by simp;omega) (by have:=H.alen;omega))];exact HO.out.1
 ·obtain rfl:k=acc.length:=zo;have efr:fM (acc.map b2i) (next.length - acc.length)=(acc.map b2i).map (Value.int .i64):=by rw[H.alen,Nat.sub_self,kw]
  rw[List.take_length,efr] at hO3;clear efr;have hstart:rF T next.length (acc.map b2i) 0:=zU H.pos (by simp[H.alen]) fun s hs=>by
   rw[← H.accs s hs];have:s<acc.length:=by have:=H.alen;omega
   simp[this,b2i]
  have hS:=hO3.swap;have hin:=bN (l:=acc.map b2i) (m:=mk) (by simpa [H.alen] using hS.row) (fun x hx=>by
   obtain⟨b,-,rfl⟩:=List.mem_map.1 hx;unfold b2i;split <;> omega)
  have hO4:=hS.bg;have hle:=Mem.dh (w:=wr) hS.free;generalize mk.addv wr (.slice (some ⟨B,0,none⟩) next.length next.length)=mk1 at *
  generalize Value.slice (some ⟨B,0,none⟩) next.length next.length=vk at *
  generalize acc.map b2i=cls0 at *
  have Hk:=zh (zi hstart (zi hin (zi hO4 hle)));clear hstart hin hO4 hle hO3 hS;go_wp2
  go_step3
  go_wp2;refine au [0,4,5] (fun n vs wr=>∃(many:Nat) (cls:List Int) (vk:Value) (mk':Mem),n=next.length - many∧many≤next.length ∧
   vs=[.pointer (some ⟨g,0,none⟩),.int .i64 many,.func (.func 255) #[.pointer (some ⟨g,0,none⟩)] #[]] ∧
   rF T next.length cls many∧dA mk' vk cls∧Own w0 m wr mk' (.obj g 238 #[vc,.slice na next.length nc,.slice aa acc.length ac,vk]::L)∧mk.le mk') ?_ ?_
  ·exact⟨_,0,cls0,vk,mk1,rfl,Nat.zero_le _,rfl,Hk.out.1,Hk.out.2.1,Hk.out.2.2.1,Hk.out.2.2.2⟩
  clear Hk a3;rintro Y z n vs wr hY - ⟨many,cls,vk,mk1,rfl,hmany,rfl,hri,hin,hO,hle⟩;simp[litL,lk];have Hmm:=@run_makeMap Tryz.prog;have hO1:=hO.BB (.map #[] 0);have p1:=hO1.swap.obj.cell (i:=1) rfl;have pl:=hO1.swap.obj.lt;have HO1:=zh hO1;clear hO1
  go_wp2_with (refine wpList_make_row wQ rfl (.tmp 46) (.tmp 46) rfl next.length rfl rfl zo (by unfold maxLen;omega) ?_)
  intro w1 hown1 hgrow1;have hO2:=(HO1.out.make (by simpa using hown1) hgrow1);have hsz:(wr.alloc (.map #[] 0)).heap.size=wr.heap.size+1:=by simp
  rw[jk,hsz] at hO2;have p1:=hO2.third.obj.cell (i:=1) rfl;have pl:=hO2.third.obj.lt;have HO2:=zh hO2;clear hO2 hown1 hgrow1 HO1 hsz Hmm;generalize hM:wr.heap.size=M at *
  go_wp2;have hclen2:cls.length=next.length:=hri.len;have Hrd:=zh (zV H.ta H.pos hri);have hS:∀s (h:s<next.length),sig cls (taN next) cuts.length s=cls.getD s 0::next[s].map fun x=>cls.getD x.toNat 0:=fun s h=>
   Om h (H.rows _ (List.getElem_mem h)).1 (fun x hx=>((H.rows _ (List.getElem_mem h)).2 x hx).1) zo
  have hcr:∀x∈cls,0≤x:=fun x hx=>by
   obtain⟨i,hi,rfl⟩:=List.mem_iff_getElem.1 hx;have:=(hri.rng i zo).1;simpa [hi] using this
  have HS:=zh (zi hS (zi hclen2 (zi hcr hri)));clear hS hclen2 hcr hri;have hNum:=CE (sig cls (taN next) cuts.length);have HN:=zh hNum;clear hNum;refine au [0,4,5,6,7,52,53] (fun n vs w3=>∃(k:Nat) (ob:Obj) (f:Lit→Option Int),k≤next.length∧n=next.length - k ∧
   vs=[.pointer (some ⟨g,0,none⟩),.int .i64 many,.func (.func 255) #[.pointer (some ⟨g,0,none⟩)] #[],.map (some M),.slice (some ⟨M+1,0,none⟩) next.length next.length,.int .i64 next.length,.int .i64 k] ∧
   Own w0 m w3 mk1 (.row (.slice (some ⟨M+1,0,none⟩) next.length next.length) 3 1 next.length (fM (dO (sig cls (taN next) cuts.length) k).2 (next.length - k))::.blob M ob ::
    .obj g 238 #[vc,.slice na next.length nc,.slice aa acc.length ac,vk]::L) ∧
   IMap Tryz.prog 9 3 ob k (dO (sig cls (taN next) cuts.length) k).1.length f∧Fe f (dO (sig cls (taN next) cuts.length) k).1) ?_ ?_
  ·exact⟨_,0,_,_,Nat.zero_le _,rfl,rfl,HO2.out,IMap.made _ _ _,Gs⟩
  clear HO2 p1 pl;rintro Z z n vs w3 hZ - ⟨k,ob,f,hk,rfl,rfl,hO3,hI,hMN⟩;simp[litL,lk];by_cases hlt:k<next.length
  ·obtain⟨hS,hcl,hcr,hri⟩:=HS.out;have hrows:=H.rows _ (List.getElem_mem hlt);have hcall:=xR g k vc (.slice na next.length nc) (.slice aa acc.length ac) vk next cls mk1 w3 hO3.inn (htab.le hle) hO3.third.obj (mr hle ⟨na,nc,rfl,n1,by unfold maxLen;exact n2,n3⟩) hin hlt zo hcr (fun x hx=>by have:=hrows.2 x hx;omega) zo;rw[← hS k hlt] at hcall;have hxne:sig cls (taN next) cuts.length k≠[]:=by rw[hS k hlt];simp
   have hx0:∀y∈sig cls (taN next) cuts.length k,0≤y:=by
    rw[hS k hlt];intro y hy;rcases List.mem_cons.1 hy with rfl | hy
    ·exact (hri.rng k hlt).1
    ·obtain⟨u,hu,rfl⟩:=List.mem_map.1 hy;have:=hrows.2 u hu;have hl:u.toNat<cls.length:=zo;simp only[List.getD_eq_getElem?_getD,hl,List.getElem?_eq_getElem,Option.getD_some];exact hcr _ (List.getElem_mem hl)
   have hcbnd:(eG (sig cls (taN next) cuts.length k)).length≤22*300:=by
    refine Nat.le_trans (wm _ fun x hx=>⟨hx0 x hx,?_⟩) ?_
    ·rw[hS k hlt] at hx;have hcb:∀i (h:i<cls.length),cls[i]≤9223372036854775807:=fun i h=>by
      have:=(hri.rng i zo).2;simp only[List.getD_eq_getElem?_getD,h,List.getElem?_eq_getElem,Option.getD_some] at this;omega
     rcases List.mem_cons.1 hx with rfl | hx
     ·have:=(hri.rng k hlt).2;omega
     ·obtain⟨u,hu,rfl⟩:=List.mem_map.1 hx;have:=hrows.2 u hu;have hl:u.toNat<cls.length:=zo;simp only[List.getD_eq_getElem?_getD,hl,List.getElem?_eq_getElem,Option.getD_some];exact hcb _ _
    ·simp[sig];omega
   have hfx:=hMN _ hxne hx0;have hput:=Gr hMN hxne hx0;have hnum:=HN.out k;have hsn:=wL (sig cls (taN next) cuts.length) k;generalize dO (sig cls (taN next) cuts.length) k=r at *
   generalize sig cls (taN next) cuts.length k=x at *
   clear hS hcl hcr hri hrows;have hkey:=JM (eG x) (by unfold maxLen;omega);have hle2:=hnum.le;have hfl:r.1.findIdx (·==x)≤r.1.length:=List.findIdx_le_length;have hl2:=hnum.len;have hmw:=hO3.swap.blob;have Hk:=zh (zi hput (zi hsn (zi hl2 hMN)));clear hput hsn hnum hl2 hMN;generalize eG x=tx at *
   obtain⟨sn,nx⟩:=r;simp only at hfx hle2 hfl hI hO3 Hk;by_cases hf:sn.findIdx (·==x)<sn.length
   ·rw[if_pos hf] at hfx;generalize sn.findIdx (·==x)=idx at *
    have HF:=zh (zi hfx hkey);clear hfx hkey hxne hx0
    go_wp2_with (go_at_call 255;refine hcall.mono ?_;rintro e w4 ⟨rfl,hb4⟩)
    have hO4:=hO3.move hb4;have hrun:=hI.Jd (Maps.string_keyed Tryz.underlying9) tu Tryz.underlying3 Fh hO4.swap.blob HF.out.2;rw[HF.out.1] at hrun;simp only[Option.getD_some,Option.isSome_some] at hrun;have r1:=aP (j:=k) (u:=.int .i64 0) hO4.row (fK Hk.out.2.2.1 zo);have r2:=bU hO4.row k;have r3:=(World.ownsRow.lt hO4.row _ rfl).2;have hO5:=hO4.setRow k (.int .i64 idx);rw[iZ Hk.out.2.2.1 zo] at hO5;have HO5:=zh hO5;clear hO5 hO4;go_wp2;refine hZ.out _ _ _ zo rfl ⟨k+1,ob,f,zo,rfl,rfl,?_,?_,?_⟩
    ·rw[Hk.out.2.1,if_pos hf];exact HO5.out
    ·rw[Hk.out.2.1,if_pos hf];exact hI.mono zo
    ·rw[Hk.out.2.1,if_pos hf];exact Hk.out.2.2.2
   ·rw[if_neg hf] at hfx;have hidx:sn.findIdx (·==x)=sn.length:=zo;have hput:=Hk.out.1 hf;have hnx:=Hk.out.2.2.1;have hsn:=Hk.out.2.1;rw[if_neg hf,hidx] at hsn;clear hidx Hk hf hfl;have HF:=zh (zi hfx (zi hkey (zi hput hsn)));clear hfx hkey hxne hx0 hput hsn
    go_wp2_with (go_at_call 255;refine hcall.mono ?_;rintro e w4 ⟨rfl,hb4⟩)
    have hO4:=hO3.move hb4;have hmb:=hO4.swap.blob;have hrun:=hI.Jd (Maps.string_keyed Tryz.underlying9) tu Tryz.underlying3 Fh hmb HF.out.2.1;rw[HF.out.1] at hrun;simp only[Option.getD_none,Option.isSome_none] at hrun;have hln:=fun ty=>hI.Je tu hmb ty;obtain⟨w5,ob5,hr5,hb5,hI5,hg5⟩:=hI.run_put (Maps.string_keyed Tryz.underlying9) tu Tryz.underlying3 hmb (by unfold maxLen;omega) HF.out.2.1 (KZ (n:=sn.length) zo);rw[HF.out.1] at hI5;simp only[Option.isSome_none] at hI5;have hO5:=(hO4.swap.iW hb5 hg5).swap;have r1:=aP (j:=k) (u:=.int .i64 0) hO5.row (fK hnx zo);have r2:=bU hO5.row k;have r3:=(World.ownsRow.lt hO5.row _ rfl).2;have hO6:=hO5.setRow k (.int .i64 sn.length);rw[iZ hnx zo] at hO6;have HO5:=zh (zi hO6 hI5);clear hO6 hO5 hO4 hI5 hnx hb5 hg5 hmb hmw;go_wp2;refine hZ.out _ _ _ zo rfl ⟨k+1,ob5,fput f (.string tx) sn.length,zo,rfl,rfl,?_,?_,?_⟩
    ·rw[HF.out.2.2.2];exact HO5.out.1
    ·rw[HF.out.2.2.2];simpa using HO5.out.2
    ·rw[HF.out.2.2.2];exact HF.out.2.2.1
  ·obtain rfl:k=next.length:=zo;rw[Nat.sub_self,kw] at hO3;have hnum:=HN.out next.length;have hrd:=Hrd.out;generalize dO (sig cls (taN next) cuts.length) next.length=r at *
   obtain⟨sn,nx⟩:=r;simp only at hO3 hI hrd hnum;have hin2:=bN (l:=nx) (m:=mk1) (by rw[hnum.len];exact hO3.row) (fun y hy=>by
    obtain⟨i,hi,rfl⟩:=List.mem_iff_getElem.1 hy;have:=hnum.rng (s:=i) (by rw[← hnum.len];exact hi);simp only[List.getD_eq_getElem?_getD,hi,List.getElem?_eq_getElem,Option.getD_some] at this;have:=hnum.le;simp only at this;omega)
   have hle2:=Mem.dh (w:=w3) hO3.free;have hO4:=hO3.bg.swap;have f3:=hO4.obj.frozen 3;have c3:=hO4.obj.cell (i:=3) rfl;have cl:=hO4.obj.lt;have hO6:Own w0 m (w3.setCell ⟨g,3,none⟩ (.slice (some ⟨M+1,0,none⟩) next.length next.length)) (mk1.addv w3 (.slice (some ⟨M+1,0,none⟩) next.length next.length))
    (.obj g 238 #[vc,.slice na next.length nc,.slice aa acc.length ac,.slice (some ⟨M+1,0,none⟩) next.length next.length]::.blob M ob::L):=hO4.set 3 (.slice (some ⟨M+1,0,none⟩) next.length next.length)
   have hmb:=hO6.swap.blob;have hln:=fun ty=>hI.Je tu hmb ty;have hO5:=hO6.swap.tail;clear hO6 hmb;generalize mk1.addv w3 (.slice (some ⟨M+1,0,none⟩) next.length next.length)=mk2 at *
   have Hk:=zh (zi hin2 (zi hle2 (zi hO5 hrd)));clear hin2 hle2 hO5 hO4 hO3 hrd hI hMN;by_cases hstop:sn.length=many
   ·have hdec:((sn.length:Int)==(many:Int))=true:=by simp[hstop]
    have HT:=zh hstop;clear hstop;go_wp2
    go_end0
    exact hR.out _ _ ⟨mk2,_,nx,rfl,Hk.out.2.2.1,Mem.le_trans hle Hk.out.2.1,Hk.out.1,Hk.out.2.2.2.2.2.2.2 HT.out⟩
   ·have hdec:((sn.length:Int)==(many:Int))=false:=by simp;omega
    have hq1:=Hk.out.2.2.2.2.1;have hq2:=Hk.out.2.2.2.2.2.1;go_wp2;exact hY.out _ _ _ zo rfl ⟨sn.length,nx,_,mk2,rfl,zo,rfl,Hk.out.2.2.2.1,Hk.out.1,Hk.out.2.2.1,Mem.le_trans hle Hk.out.2.1⟩
theorem xJ:eT Tryz.prog 78 104 3 16:=⟨Tryz.underlying78,zo,by
 obtain⟨i,h1,h2,h3,h4⟩:=info_parts (P:=Tryz.prog) (e:=104) (z:=.agg #[.int .u8 0,.int .u8 0,.int .i64 0]) (size:=3) (bytes:=16) zk;exact⟨i,_,h1,h2,h3,h4,rfl⟩⟩
theorem lY:eT Tryz.prog 25 80 2 32:=⟨Tryz.underlying25,zo,by
 obtain⟨i,h1,h2,h3,h4⟩:=info_parts (P:=Tryz.prog) (e:=80) (z:=.agg #[.bool false,.slice none 0 0]) (size:=2) (bytes:=32) zk;exact⟨i,_,h1,h2,h3,h4,rfl⟩⟩
end Cl
