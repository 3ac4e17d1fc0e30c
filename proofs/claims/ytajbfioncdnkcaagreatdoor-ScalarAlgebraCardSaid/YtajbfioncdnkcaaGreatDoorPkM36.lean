/- Lemmas for the proofs of chapter 11. -/
import Derived.Test.YtajbfioncdnkcaaGreatDoorProg
import Derived.BigQuiet
import Derived.Deep.Cut
import Derived.Deep.QuietTactic
import Derived.Laws.StructEq
import Derived.Lib.AppendStr
import Derived.Lib.Builder
import Derived.Lib.Hide
import Derived.Lib.ItoaLen
import Derived.Maps.OwnOps
import Derived.Maps.OwnSet
import Derived.OrdersHeld
import Derived.Outline
import Derived.StillTailTactics
import Derived.StringKeys
import Derived.WalkKit
import Derived.WalkLawsBesides
import Derived.WalkSpells
import Derived.Deep.RegionHeld
import Derived.Shelf.Strings.Builder1
import Derived.Shelf.Small.Wraps
import Derived.Shelf.LaysM
import Derived.Shelf.Strconv.Itoa3
import Derived.RegionTactic
import Derived.ChangeAlike
import Derived.Test.YtajbfioncdnkcaaGreatDoorZz
import Derived.Test.YtajbfioncdnkcaaGreatDoorPkM3
import Derived.Test.YtajbfioncdnkcaaGreatDoorPkM1
import Derived.Test.YtajbfioncdnkcaaGreatDoorPkM7
import Derived.Test.YtajbfioncdnkcaaGreatDoorPkM4
import Derived.Test.YtajbfioncdnkcaaGreatDoorPkM2
import Derived.Test.YtajbfioncdnkcaaGreatDoorPkM8
import Derived.Test.YtajbfioncdnkcaaGreatDoorPkM12
import Derived.Test.YtajbfioncdnkcaaGreatDoorPkM6
import Derived.Test.YtajbfioncdnkcaaGreatDoorPkM9
set_option maxRecDepth 100000
set_option maxHeartbeats 16000000
namespace Cl
open Go Go.RowKit Go.Proofs
theorem R7 (x y:Bool) (w:World) :
 Calls Tryz.prog 135 #[.bool x,.bool y] w fun e w'=>e=.returned (.bool (x || y))∧Below w.heap.size w w':=by
 refine aj fun R hR=>?_;cases x <;> cases y
 all_goals
  go_enter Tryz.func135,Tryz.ntmps135
  go_wp2;exact hR.out _ _ ⟨rfl,Below.refl _ _⟩
theorem KU (v0 v1:Value) (A B:Table) (m:Mem) (w:World) (hm:m.inn w) (htab:TabM m) (hA:aI m v0 A) (hB:aI m v1 B) (hF:Fits A B) :
 Calls Tryz.prog 84 #[.agg #[v0],.agg #[v1]] w fun e w'=>∃r C,e=.returned (.agg #[r])∧Below w.heap.size w w'∧aI (m.grow w w') r C ∧
  dX (fun x=>(Sem A x || Sem B x)) C∧C.length≤(A.length+2)*(B.length+2)+1:=by
 have hO:=(((Own.start hm).al #[v0] 27).al #[v1] 27).al #[.slice none 0 0] 27;have hsz1:(w.alloc (.cells #[v0] 27)).heap.size=w.heap.size+1:=by simp
 have hsz2:((w.alloc (.cells #[v0] 27)).alloc (.cells #[v1] 27)).heap.size=w.heap.size+2:=by simp
 rw[hsz2,hsz1] at hO;have HP:=zh (sG 135 (fun x y=>(x || y)) R7 rfl (zh fun x y w=>by go_simp) v0 v1 A B m _ hO.inn htab hA hB hF.mul hF.a hF.b);have HGA:=zh (mi v0 A m _ hO.inn htab hA hF.a);have HGB:=zh (mi v1 B m _ hO.inn htab hB hF.b);have HC:=zh (fun l r mk w (h:mk.inn w) (hl:l.length≤1000000) (hst:aI mk r (cZ l))=>Cf r (cZ l) mk w h hst (by have:=iq l;omega) (zJ l));have HO:=zh hO;have hFm:=hF.mul;have hFa:=hF.a;have hFb:=hF.b;have hgA:=iq A;have hgB:=iq B;have hmA:A.length+2≤(A.length+2)*(B.length+2):=Nat.le_mul_of_pos_right _ zo;have hmB:B.length+2≤(A.length+2)*(B.length+2):=Nat.le_mul_of_pos_left _ zo;obtain⟨va,vc,rfl,a1,a2,a3⟩:=hA;obtain⟨vb,vd,rfl,b1,b2,b3⟩:=hB;unfold maxLen at a2 b2;clear hO hsz1 hsz2 a3 b3 hF;refine aj fun R hR=>?_;by_cases hA0:A.length=0
 ·have hl:dX (fun x=>(Sem A x || Sem B x)) (cZ B):=(uM B).congr fun x=>by
   rw[List.eq_nil_of_length_eq_zero hA0,vN];cases Sem B x <;> rfl
  have Hl:=zh hl;have hdec:((A.length:Int)==0)=true:=by simp[hA0]
  clear hl hA0
  go_enter Tryz.func84,Tryz.ntmps84
  go_wp2_with fail
  refine HGB.out.mono ?_;rintro e w1 ⟨r,rfl,hb1,hst⟩;have hO1:=HO.out.call hb1;obtain⟨ra,rc,rfl⟩:∃ra rc,r=.slice ra (cZ B).length rc:=by obtain⟨x,y,e,-⟩:=hst;exact⟨x,y,e⟩
  have HC2:=zh (HC.out B _ _ _ hO1.inn zo hst);have HO1:=zh hO1;clear hO1 HC HGA HGB HO hb1 hst
  go_wp2_with fail
  refine HC2.out.mono ?_;rintro e w2 ⟨r,rfl,hb2,hst⟩;have hO1:=HO1.out.call hb2;obtain⟨ra,rc,rfl⟩:∃ra rc,r=.slice ra (cZ B).length rc:=by obtain⟨x,y,e,-⟩:=hst;exact⟨x,y,e⟩
  have g1:=hO1.obj.cell (i:=0) rfl;have g2:=hO1.obj.frozen 0;have g3:=hO1.obj.lt;have hO2:=hO1.set 0 (.slice ra (cZ B).length rc);have g4:=hO2.obj.cell (i:=0) rfl;have Hk:=zh (zi hO2.below (aK hO2.done hst));clear hO2 hO1 hst HP HO1 hb2;go_wp2;refine bodyPost_ret (v:=.agg #[.slice ra (cZ B).length rc]) (by simp[results,Tryz.results84,go_sem,g4]) rfl ?_;exact hR.out _ _ ⟨_,cZ B,rfl,Hk.out.1,Hk.out.2,Hl.out,zo⟩
 ·have hdec:((A.length:Int)==0)=false:=beq_eq_false_iff_ne.2 zo;by_cases hB0:B.length=0
  ·have hl:dX (fun x=>(Sem A x || Sem B x)) (cZ A):=(uM A).congr fun x=>by
    rw[List.eq_nil_of_length_eq_zero hB0,vN];cases Sem A x <;> rfl
   have Hl:=zh hl;have hdec2:((B.length:Int)==0)=true:=by simp[hB0]
   clear hl hA0 hB0
   go_enter Tryz.func84,Tryz.ntmps84
   go_wp2_with fail
   refine HGA.out.mono ?_;rintro e w1 ⟨r,rfl,hb1,hst⟩;have hO1:=HO.out.call hb1;obtain⟨ra,rc,rfl⟩:∃ra rc,r=.slice ra (cZ A).length rc:=by obtain⟨x,y,e,-⟩:=hst;exact⟨x,y,e⟩
   have HC2:=zh (HC.out A _ _ _ hO1.inn zo hst);have HO1:=zh hO1;clear hO1 HC HGA HGB HO hb1 hst
   go_wp2_with fail
   refine HC2.out.mono ?_;rintro e w2 ⟨r,rfl,hb2,hst⟩;have hO1:=HO1.out.call hb2;obtain⟨ra,rc,rfl⟩:∃ra rc,r=.slice ra (cZ A).length rc:=by obtain⟨x,y,e,-⟩:=hst;exact⟨x,y,e⟩
   have g1:=hO1.obj.cell (i:=0) rfl;have g2:=hO1.obj.frozen 0;have g3:=hO1.obj.lt;have hO2:=hO1.set 0 (.slice ra (cZ A).length rc);have g4:=hO2.obj.cell (i:=0) rfl;have Hk:=zh (zi hO2.below (aK hO2.done hst));clear hO2 hO1 hst HP HO1 hb2;go_wp2;refine bodyPost_ret (v:=.agg #[.slice ra (cZ A).length rc]) (by simp[results,Tryz.results84,go_sem,g4]) rfl ?_;exact hR.out _ _ ⟨_,cZ A,rfl,Hk.out.1,Hk.out.2,Hl.out,zo⟩
  ·have hdec2:((B.length:Int)==0)=false:=beq_eq_false_iff_ne.2 zo;clear hA0 hB0 HC HGA HGB
   go_enter Tryz.func84,Tryz.ntmps84
   go_wp2_with fail
   refine HP.out.mono ?_;rintro e w1 ⟨r,C,rfl,hb1,hst,hlang,hClen⟩;have hO1:=HO.out.call hb1;obtain⟨ra,rc,rfl⟩:∃ra rc,r=.slice ra C.length rc:=by obtain⟨x,y,e,-⟩:=hst;exact⟨x,y,e⟩
   have g1:=hO1.obj.cell (i:=0) rfl;have g2:=hO1.obj.frozen 0;have g3:=hO1.obj.lt;have hO2:=hO1.set 0 (.slice ra C.length rc);have g4:=hO2.obj.cell (i:=0) rfl;have Hk:=zh (zi hO2.below (zi (aK hO2.done hst) (zi hlang hClen)));clear hO2 hO1 hst hlang hClen HP HO hb1;go_wp2;refine bodyPost_ret (v:=.agg #[.slice ra C.length rc]) (by simp[results,Tryz.results84,go_sem,g4]) rfl ?_;exact hR.out _ _ ⟨_,C,rfl,Hk.out.1,Hk.out.2.1,Hk.out.2.2.1,Hk.out.2.2.2⟩
end Cl
