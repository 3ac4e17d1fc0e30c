/- Lemmas for the proofs of chapter 11. -/
import Derived.Test.YtajbfioncdnkcaaGreatDoorProg
import Derived.BigQuiet
import Derived.Deep.Cut
import Derived.Deep.QuietTactic
import Derived.Laws.StructEq
import Derived.Lib.AppendStr
import Derived.Lib.Builder
import Derived.Lib.Hide
import Derived.Lib.ItoaLen
import Derived.Maps.OwnOps
import Derived.Maps.OwnSet
import Derived.OrdersHeld
import Derived.Outline
import Derived.StillTailTactics
import Derived.StringKeys
import Derived.WalkKit
import Derived.WalkLawsBesides
import Derived.WalkSpells
import Derived.Deep.RegionHeld
import Derived.Shelf.Strings.Builder1
import Derived.Shelf.Small.Wraps
import Derived.Shelf.LaysM
import Derived.Shelf.Strconv.Itoa3
import Derived.Test.YtajbfioncdnkcaaGreatDoorZz
import Derived.Test.YtajbfioncdnkcaaGreatDoorPkM3
import Derived.Test.YtajbfioncdnkcaaGreatDoorPkM1
import Derived.Test.YtajbfioncdnkcaaGreatDoorPkM7
import Derived.Test.YtajbfioncdnkcaaGreatDoorPkM33
import Derived.Test.YtajbfioncdnkcaaGreatDoorPkM9
import Derived.Test.YtajbfioncdnkcaaGreatDoorPkM35
import Derived.Test.YtajbfioncdnkcaaGreatDoorPkM4
import Derived.Test.YtajbfioncdnkcaaGreatDoorPkM32
import Derived.Test.YtajbfioncdnkcaaGreatDoorPkM34
import Derived.Test.YtajbfioncdnkcaaGreatDoorPkM2
import Derived.Test.YtajbfioncdnkcaaGreatDoorPkM8
import Derived.Test.YtajbfioncdnkcaaGreatDoorPkM6
import Derived.Test.YtajbfioncdnkcaaGreatDoorPkM20
import Derived.Test.YtajbfioncdnkcaaGreatDoorPkM45
set_option maxRecDepth 100000
set_option maxHeartbeats 16000000
namespace Cl
open Go Go.RowKit Go.Proofs
theorem Jc (v:Value) (l:Table) (s:Int) (x:Nat) (m:Mem) (w:World) (hm:m.inn w) (hl:aI m v l) (hs1 : -9223372036854775808≤s) (hs2:s<l.length) :
 Calls Tryz.prog 201 #[.agg #[v],.int .i64 s,.int .i64 x] w fun e w'=>e=.returned (.int .i64 (bL l s x))∧Below w.heap.size w w':=by
 by_cases h0:s<0
 ·rw[kg h0];refine aj fun R hR=>?_
  go_enter Tryz.func201,Tryz.ntmps201
  go_wp2;exact hR.out _ _ ⟨rfl,aP (Below.refl _ _) _⟩
 obtain⟨s,rfl⟩:=Int.eq_ofNat_of_zero_le (by omega:0≤s);have hs:s<l.length:=zo;rw[dY l s x hs];obtain⟨a,c,rfl,h1,h2,h3⟩:=hl;obtain⟨b,off,rfl,h4⟩:=h3 (by intro h;simp[h] at hs);obtain⟨-,ve,h6,a',c',rfl,h7,h8,h9⟩:=h4 s hs;have hb:=Mem.ak hm h6;generalize l[s].edges=es at *
 clear h4 h3;unfold maxLen at h2 h8;refine aj fun R hR=>?_
 go_enter Tryz.func201,Tryz.ntmps201
 go_wp2;have hbel0:Below w.heap.size w (w.alloc (Obj.cells #[.slice (some ⟨b,off,none⟩) l.length c] 27)):=aP (Below.refl _ _) _;have hm1:=Mem.bX hm hbel0;have d1:(w.alloc (Obj.cells #[.slice (some ⟨b,off,none⟩) l.length c] 27)).cell? ⟨w.heap.size,0,none⟩=some (.slice (some ⟨b,off,none⟩) l.length c):=by simp
 have d2:w.heap.size<(w.alloc (Obj.cells #[.slice (some ⟨b,off,none⟩) l.length c] 27)).heap.size:=by simp
 generalize hw1:w.alloc (Obj.cells #[.slice (some ⟨b,off,none⟩) l.length c] 27)=w1 at *
 clear hw1;refine ay [1,2,3,7] (fun n vs wr=>∃k:Nat,k≤es.length∧n=es.length - k∧vs=[.int .i64 s,.int .i64 x,.pointer (some ⟨w.heap.size,0,none⟩),.int .i64 k]∧bu es x=bu (es.drop k) x∧Below w1.heap.size w1 wr) ?_ ?_
 ·exact⟨_,0,Nat.zero_le _,rfl,rfl,rfl,Below.refl _ _⟩
 rintro X z n vs wr hX - ⟨k,hk,rfl,rfl,hrel,hbel⟩;simp[litL,lk];have hmr:=Mem.bX hm1 hbel;have hc:=Mem.av hmr h6;have hbr:=Mem.ak hmr h6;have d3:=(hbel.cell (p:=⟨w.heap.size,0,none⟩) d2).trans d1;have d4:w.heap.size<wr.heap.size:=Nat.lt_of_lt_of_le d2 hbel.size;by_cases hlt:k<es.length
 ·obtain⟨b',off',rfl,h10⟩:=h9 (by intro h;simp[h] at hlt);obtain⟨g1,g2,g3,g4,g5,g6,g7⟩:=h10 k hlt;have hb1:=Mem.ak hmr g1;have c1:=Mem.av hmr g1;have c2:=Mem.av hmr g2;have c3:=Mem.av hmr g3;have HD:=zh (wm es x k hlt);go_wp2
  ·exact hR.out _ _ ⟨dL (by rw[hrel,HD.out,if_pos ⟨by assumption,by assumption⟩]),dE hbel0 (aP hbel _)⟩
  ·exact hX.out _ _ _ zo rfl ⟨k+1,zo,rfl,rfl,by rw[hrel,HD.out,if_neg zo],aP hbel _⟩
  ·exact hX.out _ _ _ zo rfl ⟨k+1,zo,rfl,rfl,by rw[hrel,HD.out,if_neg zo],aP hbel _⟩
 ·go_wp2;exact hR.out _ _ ⟨dL (by rw[hrel,List.drop_eq_nil_of_le zo];rfl),dE hbel0 hbel⟩
theorem qw (v:Value) (l:Table) (s:Int) (m:Mem) (w:World) (hm:m.inn w) (hl:aI m v l) (hs1 : -9223372036854775808≤s) (hs2:s<l.length) :
 Calls Tryz.prog 199 #[.agg #[v],.int .i64 s] w fun e w'=>e=.returned (.bool (bG l s))∧Below w.heap.size w w':=by
 by_cases h0:s<0
 ·have:bG l s=false:=by simp[bG,h0]
  rw[this];refine aj fun R hR=>?_
  go_enter Tryz.func199,Tryz.ntmps199
  go_wp2;exact hR.out _ _ ⟨rfl,aP (Below.refl _ _) _⟩
 obtain⟨s,rfl⟩:=Int.eq_ofNat_of_zero_le (by omega:0≤s);have hs:s<l.length:=zo;rw[gG l s hs];obtain⟨a,c,rfl,h1,h2,h3⟩:=hl;obtain⟨b,off,rfl,h4⟩:=h3 (by intro h;simp[h] at hs);obtain⟨h5,-⟩:=h4 s hs;have hb:=Mem.ak hm h5;have hc:=Mem.av hm h5;clear h4 h3;unfold maxLen at h2;refine aj fun R hR=>?_
 go_enter Tryz.func199,Tryz.ntmps199
 go_wp2;exact hR.out _ _ ⟨rfl,aP (Below.refl _ _) _⟩
theorem Ec (v:Value) (l:Table) (m:Mem) (w:World) (hl:aI m v l) :
 Calls Tryz.prog 197 #[.agg #[v]] w fun e w'=>e=.returned (.int .i64 (if l.length=0 then -1 else 0))∧Below w.heap.size w w':=by
 obtain⟨a,c,rfl,h1,h2,h3⟩:=hl;unfold maxLen at h2;refine aj fun R hR=>?_
 go_enter Tryz.func197,Tryz.ntmps197
 go_wp2
 ·exact hR.out _ _ ⟨dL (by rw[if_pos (by have:=‹((l.length:Int)==0)=true›;simp at this;simp[this])]),aP (Below.refl _ _) _⟩
 ·exact hR.out _ _ ⟨dL (by rw[if_neg (by have:=‹((l.length:Int)==0)=false›;simp at this;simp[this])]),aP (Below.refl _ _) _⟩
theorem Q0:Tryz.prog.underlying 166=some (.array 2 3):=by kernel_rfl
theorem NY:Tryz.prog.eqGuardType Tryz.prog.depth 166=false:=by kernel_rfl
theorem O3 (a b a' b':Int) (w:World):(Op.equalIn 10000 166 (.agg #[.int .i64 a,.int .i64 b]) (.agg #[.int .i64 a',.int .i64 b'])).run Tryz.prog w=.ok (a==a'&&b==b') w:=by
 have e2:=fun (d:Nat) (a b:Int) (w:World)=>run_equalIn_int (P:=Tryz.prog) w d 3 .i64 .i64 a b Tryz.underlying3;have e3:(Tryz.t3).size=1:=by kernel_rfl
 show (Op.equalIn (9999+1) 166 _ _).run _ _=_;rw[Op.equalIn];simp only[Sem.run_bind,run_underlying Q0,Result.andThen_ok];simp only[Std.Legacy.Range.forIn_eq_forIn_range',Std.Legacy.Range.size];simp[isAgg,Go.sizeOf,go_sem,e2,e3,List.range'];by_cases h1:a=a' <;> by_cases h2:b=b' <;> simp[h1,h2]
theorem M7 (v:Value) (l:List (Int × Int)) (x:Int × Int) (m:Mem) (w:World) (hm:m.inn w) (hl:bW m v l) :
 Calls Tryz.prog 202 #[v,.agg #[.int .i64 x.1,.int .i64 x.2]] w fun e w'=>e=.returned (.int .i64 (firstIdx (fun y=>y=x) l 0))∧Below w.heap.size w w':=by
 obtain⟨a,c,rfl,h1,h2,h3⟩:=hl;unfold maxLen at h2;refine aj fun R hR=>?_
 go_enter Tryz.func202,Tryz.ntmps202
 go_wp2;have hb0:Below w.heap.size w (w.alloc (.cells #[.int .i64 x.1,.int .i64 x.2] 166)):=aP (Below.refl _ _) _;have d1:(w.alloc (.cells #[.int .i64 x.1,.int .i64 x.2] 166)).cell? ⟨w.heap.size,0,none⟩=some (.int .i64 x.1):=by simp
 have d2:(w.alloc (.cells #[.int .i64 x.1,.int .i64 x.2] 166)).cell? ⟨w.heap.size,1,none⟩=some (.int .i64 x.2):=by simp
 have d3:w.heap.size<(w.alloc (.cells #[.int .i64 x.1,.int .i64 x.2] 166)).heap.size:=by simp
 have hm0:=Mem.bX hm hb0;generalize w.alloc (.cells #[.int .i64 x.1,.int .i64 x.2] 166)=w0 at *
 refine ay [0,3,5] (fun n vs wr=>∃k:Nat,k≤l.length∧n=l.length - k∧vs=[.slice a l.length c,.pointer (some ⟨w.heap.size,0,none⟩),.int .i64 k]∧firstIdx (fun y=>y=x) l 0=firstIdx (fun y=>y=x) (l.drop k) k∧Below w0.heap.size w0 wr) ?_ ?_
 ·exact⟨_,0,Nat.zero_le _,rfl,rfl,rfl,Below.refl _ _⟩
 rintro X z n vs wr hX - ⟨k,hk,rfl,rfl,hrel,hbel⟩;have Hrel:=zh hrel;clear hrel;simp[litL,lk];have hmr:=Mem.bX hm0 hbel;have e1:=iw hbel d3 d1;have e2:=iw hbel d3 d2;by_cases hlt:k<l.length
 ·obtain⟨b,off,rfl,h4⟩:=h3 (by intro h;simp[h] at hlt);obtain⟨g1,g2,-⟩:=h4 k hlt;have c1:=Mem.av hmr g1;have c2:=Mem.av hmr g2;have HD:=zh (jK (fun y=>y=x) l k hlt);have hq:=fun w=>O3 (l[k].1) (l[k].2) x.1 x.2 w;have hgd:=NY;by_cases hx:l[k]=x
  ·have hb1:(l[k].1==x.1)=true:=by simp[← hx]
   have hb2:(l[k].2==x.2)=true:=by simp[← hx]
   have Hx:=zh hx;clear hx;go_wp2
   go_quiet (fail)
   go_wp2;exact hR.out _ _ ⟨dL (by rw[Hrel.out,HD.out,if_pos (aN Hx.out)]),dE hb0 (below_drewN hbel _)⟩
  ·have hb1:(l[k].1==x.1&&l[k].2==x.2)=false:=by
    by_cases h:l[k].1=x.1
    ·by_cases h':l[k].2=x.2
     ·exact absurd (Prod.ext h h') hx
     ·simp[h']
    ·simp[h]
   have Hx:=zh hx;clear hx;go_wp2
   go_quiet (fail)
   go_wp2;exact hX.out _ _ _ zo rfl ⟨k+1,zo,rfl,rfl,by rw[Hrel.out,HD.out,if_neg (by rw[aL Hx.out];simp)],below_drewN hbel _⟩
 ·go_wp2;exact hR.out _ _ ⟨dL (by rw[Hrel.out,List.drop_eq_nil_of_le zo];rfl),dE hb0 hbel⟩
theorem Pq (op:Nat) (x y:Bool) (w:World) (f:Bool→Bool→Bool) (h:op=38∧f=(fun x y=>x&&y)∨op=124∧f=(fun x y=>x || y)∨op=45∧f=(fun x y=>x && !y)) :
 Calls Tryz.prog 198 #[.int .u8 op,.bool x,.bool y] w fun e w'=>e=.returned (.bool (f x y))∧Below w.heap.size w w':=by
 refine aj fun R hR=>?_;rcases h with ⟨rfl,rfl⟩ | ⟨rfl,rfl⟩ | ⟨rfl,rfl⟩
 all_goals
  cases x <;> cases y
  all_goals
   go_enter Tryz.func198,Tryz.ntmps198
   go_wp2;exact hR.out _ _ ⟨rfl,Below.refl _ _⟩
end Cl
