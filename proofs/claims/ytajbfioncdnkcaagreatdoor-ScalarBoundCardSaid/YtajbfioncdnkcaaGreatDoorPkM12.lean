/- Lemmas for the proofs of chapter 11. -/
import Derived.Test.YtajbfioncdnkcaaGreatDoorProg
import Derived.BigQuiet
import Derived.Deep.Cut
import Derived.Deep.QuietTactic
import Derived.Laws.StructEq
import Derived.Lib.AppendStr
import Derived.Lib.Builder
import Derived.Lib.Hide
import Derived.Lib.ItoaLen
import Derived.Maps.OwnOps
import Derived.Maps.OwnSet
import Derived.OrdersHeld
import Derived.Outline
import Derived.StillTailTactics
import Derived.StringKeys
import Derived.WalkKit
import Derived.WalkLawsBesides
import Derived.WalkSpells
import Derived.Deep.RegionHeld
import Derived.Shelf.Strings.Builder1
import Derived.Shelf.Small.Wraps
import Derived.Shelf.LaysM
import Derived.Shelf.Strconv.Itoa3
import Derived.RegionTactic
import Derived.ChangeAlike
import Derived.RangeFuncNested
import Derived.RangeFuncBound
import Derived.RangeFuncCalls
import Derived.RangeFuncLeaves
import Derived.OwnWalkIn
import Derived.TacticsInMore
import Derived.LoopNIn
import Derived.LoopIn
import Derived.Laws.BytesArg
import Derived.Laws.EntriesVeiled
import Derived.Test.YtajbfioncdnkcaaGreatDoorZz
import Derived.Test.YtajbfioncdnkcaaGreatDoorPkM3
import Derived.Test.YtajbfioncdnkcaaGreatDoorPkM4
import Derived.Test.YtajbfioncdnkcaaGreatDoorPkM1
import Derived.Test.YtajbfioncdnkcaaGreatDoorPkM2
import Derived.Test.YtajbfioncdnkcaaGreatDoorPkM8
import Derived.Test.YtajbfioncdnkcaaGreatDoorPkM7
import Derived.Test.YtajbfioncdnkcaaGreatDoorPkM6
import Derived.Test.YtajbfioncdnkcaaGreatDoorPkM9
set_option maxRecDepth 100000
set_option maxHeartbeats 16000000
namespace Cl
open Go Go.RowKit Go.Proofs
theorem uM (l:Table):dX (Sem l) (cZ l):=by
 refine ⟨iV l,fun x=>?_⟩;unfold cZ Sem;by_cases h:Canon l
 ·simp[aN h]
 ·simp[aL h];exact dC x
theorem vN (x:List UInt8):Sem [] x=false:=by rw[gD eu];exact dC x
theorem zJ (l:Table):∀s∈cZ l,s.edges.length≤1000000:=fun s hs=>by
 have:=yh (iV l).wf (iV l).bytes s hs;omega
structure Fits (A B:Table):Prop where
 mul:(A.length+2)*(B.length+2)≤1000000
 a:A.length≤1000000
 b:B.length≤1000000
theorem Fits.of {A B:Table} {x y:Nat} (hx:A.length≤x) (hy:B.length≤y) (h:(x+2)*(y+2)≤1000000):Fits A B:=by
 have h1:(A.length+2)*(B.length+2)≤(x+2)*(y+2):=Nat.mul_le_mul zo zo;have h2:A.length+2≤(A.length+2)*(B.length+2):=Nat.le_mul_of_pos_right _ zo;have h3:B.length+2≤(A.length+2)*(B.length+2):=Nat.le_mul_of_pos_left _ zo;exact⟨zo,zo,zo⟩
theorem H7 (v0 v1:Value) (A B:Table) (m:Mem) (w:World) (hm:m.inn w) (htab:TabM m) (hA:aI m v0 A) (hB:aI m v1 B) (hF:Fits A B) :
 Calls Tryz.prog 78 #[.agg #[v0],.agg #[v1]] w fun e w'=>∃r C,e=.returned (.agg #[r])∧Below w.heap.size w w'∧aI (m.grow w w') r C ∧
  dX (fun x=>Sem A x&&Sem B x) C∧C.length≤(A.length+2)*(B.length+2)+1:=by
 have hO:=(((Own.start hm).al #[v0] 27).al #[v1] 27).al #[.slice none 0 0] 27;have hsz1:(w.alloc (.cells #[v0] 27)).heap.size=w.heap.size+1:=by simp
 have hsz2:((w.alloc (.cells #[v0] 27)).alloc (.cells #[v1] 27)).heap.size=w.heap.size+2:=by simp
 rw[hsz2,hsz1] at hO;have HP:=zh (sG 132 (fun x y=>x&&y) QD rfl (zh fun x y w=>by go_simp) v0 v1 A B m _ hO.inn htab hA hB hF.mul hF.a hF.b);have HO:=zh hO;obtain⟨va,vc,rfl,a1,a2,a3⟩:=hA;obtain⟨vb,vd,rfl,b1,b2,b3⟩:=hB;unfold maxLen at a2 b2;clear hO hsz1 hsz2 a3 b3;refine aj fun R hR=>?_;by_cases hA0:A.length=0∨B.length=0
 ·have hl:dX (fun x=>Sem A x&&Sem B x) []:=Jj.congr fun x=>by
   rcases hA0 with h | h
   ·rw[List.eq_nil_of_length_eq_zero h,vN];rfl
   ·rw[List.eq_nil_of_length_eq_zero h,vN];cases Sem A x <;> rfl
  have Hl:=zh hl;by_cases h1:A.length=0
  ·have hdec:((A.length:Int)==0)=true:=by simp[h1]
   have g1:=HO.out.obj.cell (i:=0) rfl;clear hl hA0 h1
   go_enter Tryz.func78,Tryz.ntmps78
   go_wp2;refine bodyPost_ret (v:=.agg #[.slice none 0 0]) (by simp[results,Tryz.results78,go_sem]) rfl ?_;exact hR.out _ _ ⟨_,[],rfl,HO.out.below,aZ _,Hl.out,zS⟩
  ·have h2:B.length=0:=zo;have hdec:((A.length:Int)==0)=false:=beq_eq_false_iff_ne.2 zo;have hdec2:((B.length:Int)==0)=true:=by simp[h2]
   clear hl hA0 h1 h2
   go_enter Tryz.func78,Tryz.ntmps78
   go_wp2;refine bodyPost_ret (v:=.agg #[.slice none 0 0]) (by simp[results,Tryz.results78,go_sem]) rfl ?_;exact hR.out _ _ ⟨_,[],rfl,HO.out.below,aZ _,Hl.out,zS⟩
 ·have hdec:((A.length:Int)==0)=false:=beq_eq_false_iff_ne.2 zo;have hdec2:((B.length:Int)==0)=false:=beq_eq_false_iff_ne.2 zo;clear hA0
  go_enter Tryz.func78,Tryz.ntmps78
  go_wp2_with fail
  refine HP.out.mono ?_;rintro e w1 ⟨r,C,rfl,hb1,hst,hlang,hClen⟩;have hO1:=HO.out.call hb1;obtain⟨ra,rc,rfl⟩:∃ra rc,r=.slice ra C.length rc:=by obtain⟨x,y,e,-⟩:=hst;exact⟨x,y,e⟩
  have g1:=hO1.obj.cell (i:=0) rfl;have g2:=hO1.obj.frozen 0;have g3:=hO1.obj.lt;have hO2:=hO1.set 0 (.slice ra C.length rc);have g4:=hO2.obj.cell (i:=0) rfl;have Hk:=zh (zi hO2.below (zi (aK hO2.done hst) (zi hlang hClen)));clear hO2 hO1 hst hlang hClen HP HO hb1;go_wp2;refine bodyPost_ret (v:=.agg #[.slice ra C.length rc]) (by simp[results,Tryz.results78,go_sem,g4]) rfl ?_;exact hR.out _ _ ⟨_,C,rfl,Hk.out.1,Hk.out.2.1,Hk.out.2.2.1,Hk.out.2.2.2⟩
theorem mh (v0 v1:Value) (A B:Table) (m:Mem) (w:World) (hm:m.inn w) (htab:TabM m) (hA:aI m v0 A) (hB:aI m v1 B) (hF:Fits A B) :
 Calls Tryz.prog 74 #[.agg #[v0],.agg #[v1]] w fun e w'=>∃r C,e=.returned (.agg #[r])∧Below w.heap.size w w'∧aI (m.grow w w') r C ∧
  dX (fun x=>(Sem A x && !Sem B x)) C∧C.length≤(A.length+2)*(B.length+2)+1:=by
 have hO:=(((Own.start hm).al #[v0] 27).al #[v1] 27).al #[.slice none 0 0] 27;have hsz1:(w.alloc (.cells #[v0] 27)).heap.size=w.heap.size+1:=by simp
 have hsz2:((w.alloc (.cells #[v0] 27)).alloc (.cells #[v1] 27)).heap.size=w.heap.size+2:=by simp
 rw[hsz2,hsz1] at hO;have HP:=zh (sG 128 (fun x y=>(x && !y)) LX rfl (zh fun x y w=>by go_simp) v0 v1 A B m _ hO.inn htab hA hB hF.mul hF.a hF.b);have HGA:=zh (mi v0 A m _ hO.inn htab hA hF.a);have HGB:=zh (mi v1 B m _ hO.inn htab hB hF.b);have HC:=zh (fun l r mk w (h:mk.inn w) (hl:l.length≤1000000) (hst:aI mk r (cZ l))=>Cf r (cZ l) mk w h hst (by have:=iq l;omega) (zJ l));have HO:=zh hO;have hFm:=hF.mul;have hFa:=hF.a;have hFb:=hF.b;have hgA:=iq A;have hgB:=iq B;have hmA:A.length+2≤(A.length+2)*(B.length+2):=Nat.le_mul_of_pos_right _ zo;have hmB:B.length+2≤(A.length+2)*(B.length+2):=Nat.le_mul_of_pos_left _ zo;obtain⟨va,vc,rfl,a1,a2,a3⟩:=hA;obtain⟨vb,vd,rfl,b1,b2,b3⟩:=hB;unfold maxLen at a2 b2;clear hO hsz1 hsz2 a3 b3 hF;refine aj fun R hR=>?_;by_cases hA0:A.length=0
 ·have hl:dX (fun x=>(Sem A x && !Sem B x)) []:=Jj.congr fun x=>by
   rw[List.eq_nil_of_length_eq_zero hA0,vN];rfl
  have Hl:=zh hl;have hdec:((A.length:Int)==0)=true:=by simp[hA0]
  have g1:=HO.out.obj.cell (i:=0) rfl;clear hl hA0
  go_enter Tryz.func74,Tryz.ntmps74
  go_wp2;refine bodyPost_ret (v:=.agg #[.slice none 0 0]) (by simp[results,Tryz.results74,go_sem]) rfl ?_;exact hR.out _ _ ⟨_,[],rfl,HO.out.below,aZ _,Hl.out,zS⟩
 ·have hdec:((A.length:Int)==0)=false:=beq_eq_false_iff_ne.2 zo;by_cases hB0:B.length=0
  ·have hl:dX (fun x=>(Sem A x && !Sem B x)) (cZ A):=(uM A).congr fun x=>by
    rw[List.eq_nil_of_length_eq_zero hB0,vN];cases Sem A x <;> rfl
   have Hl:=zh hl;have hdec2:((B.length:Int)==0)=true:=by simp[hB0]
   clear hl hA0 hB0
   go_enter Tryz.func74,Tryz.ntmps74
   go_wp2_with fail
   refine HGA.out.mono ?_;rintro e w1 ⟨r,rfl,hb1,hst⟩;have hO1:=HO.out.call hb1;obtain⟨ra,rc,rfl⟩:∃ra rc,r=.slice ra (cZ A).length rc:=by obtain⟨x,y,e,-⟩:=hst;exact⟨x,y,e⟩
   have HC2:=zh (HC.out A _ _ _ hO1.inn zo hst);have HO1:=zh hO1;clear hO1 HC HGA HGB HO hb1 hst
   go_wp2_with fail
   refine HC2.out.mono ?_;rintro e w2 ⟨r,rfl,hb2,hst⟩;have hO1:=HO1.out.call hb2;obtain⟨ra,rc,rfl⟩:∃ra rc,r=.slice ra (cZ A).length rc:=by obtain⟨x,y,e,-⟩:=hst;exact⟨x,y,e⟩
   have g1:=hO1.obj.cell (i:=0) rfl;have g2:=hO1.obj.frozen 0;have g3:=hO1.obj.lt;have hO2:=hO1.set 0 (.slice ra (cZ A).length rc);have g4:=hO2.obj.cell (i:=0) rfl;have Hk:=zh (zi hO2.below (aK hO2.done hst));clear hO2 hO1 hst HP HO1 hb2;go_wp2;refine bodyPost_ret (v:=.agg #[.slice ra (cZ A).length rc]) (by simp[results,Tryz.results74,go_sem,g4]) rfl ?_;exact hR.out _ _ ⟨_,cZ A,rfl,Hk.out.1,Hk.out.2,Hl.out,zo⟩
  ·have hdec2:((B.length:Int)==0)=false:=beq_eq_false_iff_ne.2 zo;clear hA0 hB0 HC HGA HGB
   go_enter Tryz.func74,Tryz.ntmps74
   go_wp2_with fail
   refine HP.out.mono ?_;rintro e w1 ⟨r,C,rfl,hb1,hst,hlang,hClen⟩;have hO1:=HO.out.call hb1;obtain⟨ra,rc,rfl⟩:∃ra rc,r=.slice ra C.length rc:=by obtain⟨x,y,e,-⟩:=hst;exact⟨x,y,e⟩
   have g1:=hO1.obj.cell (i:=0) rfl;have g2:=hO1.obj.frozen 0;have g3:=hO1.obj.lt;have hO2:=hO1.set 0 (.slice ra C.length rc);have g4:=hO2.obj.cell (i:=0) rfl;have Hk:=zh (zi hO2.below (zi (aK hO2.done hst) (zi hlang hClen)));clear hO2 hO1 hst hlang hClen HP HO hb1;go_wp2;refine bodyPost_ret (v:=.agg #[.slice ra C.length rc]) (by simp[results,Tryz.results74,go_sem,g4]) rfl ?_;exact hR.out _ _ ⟨_,C,rfl,Hk.out.1,Hk.out.2.1,Hk.out.2.2.1,Hk.out.2.2.2⟩
theorem O6:dX (fun _=>true) allT:=by
 have h0:∀w,aJ allT 0 w=true:=by
  intro w
  induction w with
  | nil=>rfl
  | cons b w ih=>
   have hb:=b.toNat_lt;have:bL allT 0 b.toNat=0:=by
    show bu [(⟨0,255,0⟩:Ed)] b.toNat=0;simp only[bu];rw[if_pos ⟨Nat.zero_le _,zo⟩]
   simp only[aJ,this,ih]
 have ht:∀(k b t:Nat),bL allT k b=t→t=0:=by
  intro k b t h;by_cases hk:k<1
  ·obtain rfl:k=0:=zo;have h1:bu [(⟨0,255,0⟩:Ed)] b=t:=h;simp only[bu] at h1
   split at h1 <;> omega
  ·rw[fB allT k b (by simp[allT];omega)] at h;omega
 refine ⟨⟨?_,?_,?_,?_,?_,?_,?_⟩,h0⟩
 ·intro s hs;simp only[allT,List.mem_singleton] at hs;subst hs;exact⟨Nat.zero_le _,zS,by simp[allT],zS,trivial⟩
 ·intro s hs e he;simp only[allT,List.mem_singleton] at hs;subst hs;simp only[List.mem_singleton] at he;subst he;exact⟨zS,zS⟩
 ·intro s hs;simp only[allT,List.mem_singleton] at hs;subst hs;trivial
 ·intro k hk;obtain rfl:k=0:=by simp[allT] at hk;exact hk
  exact⟨[],h0 []⟩
 ·intro i j hi hj _;simp[allT] at hi hj;omega
 ·intro k b t _ h t' h1 h2;have:=ht k b t h;omega
 ·intro t h1 h2;simp[allT] at h2;omega
theorem Dz (x:List UInt8):Sem allT x=true:=O6.sem x
theorem O1 (m:Mem) (w:World) :
 Calls Tryz.prog 56 #[] w fun e w'=>∃r,e=.returned (.agg #[r])∧Below w.heap.size w w'∧aI (m.grow w w') r allT:=by
 refine (Aq w).mono ?_;rintro e w' ⟨g1,g2,rfl,hb,h1,h2,h3,o1,o2⟩;have gc:∀{g t arr i v},w.heap.size≤g→bI w' g t arr→arr[i]?=some v→(m.grow w w').cell g i=some v:=by
  intro g t arr i v hg ho hv;unfold Mem.cell Mem.grow;rw[if_neg zo,ho.get];exact hv
 refine ⟨_,rfl,hb,some ⟨g2,0,none⟩,1,rfl,Nat.le_refl _,by simp[maxLen],fun _=>⟨g2,0,rfl,fun i hi=>?_⟩⟩;obtain rfl:i=0:=by simp[allT] at hi;exact hi
 refine ⟨gc h2 o2 rfl,_,gc h2 o2 rfl,some ⟨g1,0,none⟩,1,rfl,Nat.le_refl _,by simp[maxLen],fun _=>⟨g1,0,rfl,fun j hj=>?_⟩⟩;obtain rfl:j=0:=by simp[allT] at hj;exact hj
 exact⟨gc h1 o1 rfl,gc h1 o1 rfl,gc h1 o1 rfl,by simp[allT],by simp[allT],by simp[allT],by simp[allT]⟩
theorem sO (v0:Value) (A:Table) (m:Mem) (w:World) (hm:m.inn w) (htab:TabM m) (hA:aI m v0 A) (hF:A.length≤300000) :
 Calls Tryz.prog 160 #[.agg #[v0]] w fun e w'=>∃r C,e=.returned (.agg #[r])∧Below w.heap.size w w'∧aI (m.grow w w') r C ∧
  dX (fun x => !Sem A x) C∧C.length≤3*(A.length+2)+1:=by
 have hO:=((Own.start hm).al #[v0] 27).al #[.slice none 0 0] 27;have hsz1:(w.alloc (.cells #[v0] 27)).heap.size=w.heap.size+1:=by simp
 rw[hsz1] at hO;have HO:=zh hO;have HM:=zh (fun r mk w (h:mk.inn w) (hle:m.le mk) (hst:aI mk r allT)=>mh r v0 allT A mk w h (htab.le hle) hst (aK hle hA) (Fits.of (x:=1) (y:=A.length) (Nat.le_refl _) (Nat.le_refl _) zo));have hA':=hA;obtain⟨va,vc,rfl,-⟩:=hA;clear hO hsz1;refine aj fun R hR=>?_
 go_enter Tryz.func160,Tryz.ntmps160
 go_wp2;refine aA [2] (fun vs w'=>∃(r:Value) (C:Table) (mk:Mem),vs=[.pointer (some ⟨w.heap.size+1,0,none⟩)]∧Own w m w' mk [.obj (w.heap.size+1) 27 #[r],.obj w.heap.size 27 #[.slice va A.length vc]]∧aI mk r C ∧
  dX (fun x => !Sem A x) C∧C.length≤3*(A.length+2)+1) ?_ ?_
 ·intro X hX;refine fw (fun w'=>bI w' w.heap.size 27 #[.slice va A.length vc]) 3 zk ?_;have hO:=HO.out.dr;have hS:=hO.swap.obj;refine az 1 rfl zk (fun _ _ _ h=>h) hS (au rfl fun w' hS'=>by have q:=hS'.cell (i:=0) rfl;go_simp;rfl) ?_;refine aG 0 zk (aB rfl rfl (dI (by go_simp;rfl) (O1 m _) ?_));rintro e w1 ⟨r,rfl,hb1,hst⟩;have hO2:=hO.call hb1;have hle:=Mem.eO (w:=w1) hO.inn;refine ⟨_,rfl,andS hO2.swap.obj fun _=>?_⟩;go_simp;refine aG 2 zk (aB rfl rfl (dI (by go_simp) (HM.out _ _ _ hO2.inn hle hst) ?_));rintro e w2 ⟨r2,C,rfl,hb2,hst2,hlang,hClen⟩;have hO3:=hO2.call hb2;refine ⟨_,rfl,andS hO3.swap.obj fun _=>?_⟩;obtain⟨ra,rc,rfl⟩:∃ra rc,r2=.slice ra C.length rc:=by obtain⟨x,y,e,-⟩:=hst2;exact⟨x,y,e⟩
  go_simp;have g1:=hO3.obj.cell (i:=0) rfl;have g2:=hO3.obj.frozen 0;refine aG 3 zk (aB rfl rfl (aS zg (ji rfl ?_)));refine dS zk ?_ _;refine hX.out _ _ rfl ⟨_,C,_,rfl,hO3.set 0 _,hst2,hlang.congr fun x=>?_,?_⟩
  ·rw[Dz];rfl
  ·have:allT.length=1:=rfl;rw[this] at hClen;exact hClen
 rintro z vs w1 - ⟨r,C,mk,rfl,hO,hst,hlang,hClen⟩;simp[litL,lk];obtain⟨ra,rc,rfl⟩:∃ra rc,r=.slice ra C.length rc:=by obtain⟨x,y,e,-⟩:=hst;exact⟨x,y,e⟩
 have g4:=hO.obj.cell (i:=0) rfl;have Hk:=zh (zi hO.below (zi (aK hO.done hst) (zi hlang hClen)));clear hO hst hlang hClen HO HM;go_wp2;refine bodyPost_ret (v:=.agg #[.slice ra C.length rc]) (by simp[results,Tryz.results160,go_sem,g4]) rfl ?_;exact hR.out _ _ ⟨_,C,rfl,Hk.out.1,Hk.out.2.1,Hk.out.2.2.1,Hk.out.2.2.2⟩
attribute [local go_sem] Oper.semAt_some
def rV (mk:Mem) (v:Value) (u:List UInt8):Prop:=
 (u=[]∧v=.slice none 0 0)∨(u≠[]∧∃g c,v=.slice (some ⟨g,0,none⟩) u.length c∧u.length≤c∧c≤maxLen∧∀i,(h:i<u.length)→mk.cell g i=some (.int .u8 (u[i]).toNat))
theorem rV.le {mk mk':Mem} {v:Value} {u:List UInt8} (h:rV mk v u) (hl:mk.le mk'):rV mk' v u:=by
 rcases h with h | ⟨h1,g,c,h2,h3,h4,h5⟩
 ·exact .inl h
 ·exact .inr ⟨h1,g,c,h2,h3,h4,fun i hi=>Mem.aF hl (h5 i hi)⟩
theorem strOfNums_bytes (u:List UInt8):strOfNums (u.map fun b=>(b.toNat:Int))=⟨u.toArray⟩:=by
 unfold strOfNums
 congr 1
 rw[List.map_map]
 congr 1
 conv=>rhs;rw[← List.map_id u]
 apply List.map_congr_left;intro b _;simp
theorem yE {mk:Mem} {w:World} {v:Value} {u:List UInt8} (h:rV mk v u) (hm:mk.inn w):(convert 129 9 v).run Tryz.prog w=.ok (.string ⟨u.toArray⟩) w:=by
 rcases h with ⟨rfl,rfl⟩ | ⟨h1,g,c,rfl,h3,h4,h5⟩
 ·exact run_convert_bytes_nil w 129 5 Tryz.underlying129 Tryz.underlying5 0 0 _ Tryz.underlying9
 ·have:=run_convert_bytes_arg w 129 5 Tryz.underlying129 Tryz.underlying5 g 0 u.length c (u.map fun b=>(b.toNat:Int)) zS (fun i hi=>by
   rw[Nat.zero_add,Mem.av hm (h5 i hi)];simp[List.getD,hi]) _ Tryz.underlying9
  rw[this,strOfNums_bytes]
structure Ga (T:Table) (l:Nat) (w0:World) (m mk0:Mem) (B Bx:List (List UInt8)→List Item→Prop) (Lr:List Item) (gy ga gt gv tb ntab ctab:Nat) (va:Value):Prop where
 yield:Au Tryz.prog l (fun x:List UInt8=>#[Value.string ⟨x.toArray⟩]) w0 m mk0 B Bx
 cy:mk0.cell gy 0=some (.func (.yield l) #[] #[])
 ca:mk0.cell ga 0=some va
 ct:mk0.cell gt 0=some (.slice (some ⟨tb,0,none⟩) ntab ctab)
 cv:mk0.cell gv 0=some (.func (.func 232) #[] #[.pointer (some ⟨gy,0,none⟩),.pointer (some ⟨ga,0,none⟩),.pointer (some ⟨gt,0,none⟩),.pointer (some ⟨gv,0,none⟩)])
 tab:aI mk0 va T
 rows:∀W mk Lt,Own w0 m W mk (Lt ++ Lr)→∀i,i<ntab→∃u,W.cell? ⟨tb,i,none⟩=some u∧jh mk0 u (canN T i)
 ntab:ntab≤maxLen
def Pf (w0:World) (m mk:Mem) (B Bx:List (List UInt8)→List Item→Prop) (Lr:List Item) (pre ws:List (List UInt8)) (e:Ending) (W':World):Prop:=
 (e=.returned (.bool true)∧∃mk' Lt,B (pre ++ ws) Lt∧Own w0 m W' mk' (Lt ++ Lr)∧mk.le mk') ∨
 (e=.returned (.bool false)∧∃q mk' Lt,q≠[]∧q <+: ws∧Bx (pre ++ q) Lt∧Own w0 m W' mk' (Lt ++ Lr)∧mk.le mk')
theorem JS {T:Table} {l:Nat} {w0:World} {m mk0:Mem} {B Bx:List (List UInt8)→List Item→Prop} {Lr:List Item} {gy ga gt gv tb ntab ctab:Nat} {va:Value} (hE:Ga T l w0 m mk0 B Bx Lr gy ga gt gv tb ntab ctab va)
 (s:Nat) (u:List UInt8) (vp:Value) (pre:List (List UInt8)) (mk:Mem) (W:World) (Lt:List Item) (hle:mk0.le mk) (hp:rV mk vp u) (hB:B pre Lt) (hO:Own w0 m W mk (Lt ++ Lr)) :
 Calls Tryz.prog 232 #[.int .i64 s,.int .i64 0,vp,.pointer (some ⟨gy,0,none⟩),.pointer (some ⟨ga,0,none⟩),.pointer (some ⟨gt,0,none⟩),.pointer (some ⟨gv,0,none⟩)] W (Pf w0 m mk B Bx Lr pre [u]):=by
 have hcy:=Mem.av hO.inn (Mem.aF hle hE.cy);have hcyl:=Mem.ak hO.inn (Mem.aF hle hE.cy);have hcv:=yE hp hO.inn;obtain⟨fn,tmps,assign,body,hy,hR⟩:=hE.yield pre u W mk Lt Lr hB hO hle;refine aj fun R hR'=>?_;clear hO hB hp hE hle
 go_enter Tryz.func232,Tryz.ntmps232
 refine (wpIn_wide (n:=0)).1 ?_
 gi_wp2
 refine ⟨rfl,hR.mono ?_⟩;rintro e W' (⟨rfl,mk',Lt',h1,h2,h3⟩ | ⟨rfl,mk',Lt',h1,h2,h3⟩)
 ·have Hk:=zh (zi h1 (zi h2 h3));clear h1 h2 h3
  gi_wp2
  exact hR'.out _ _ (.inl ⟨rfl,mk',Lt',Hk.out.1,Hk.out.2.1,Hk.out.2.2⟩)
 ·have Hk:=zh (zi h1 (zi h2 h3));clear h1 h2 h3
  gi_wp2
  exact hR'.out _ _ (.inr ⟨rfl,[u],mk',Lt',zS,List.prefix_refl _,Hk.out.1,Hk.out.2.1,Hk.out.2.2⟩)
theorem Q5:iX Tryz.prog 129 5 1 1:=⟨Tryz.underlying129,zo,by
 obtain⟨i,h1,h2,h3,h4⟩:=info_parts (P:=Tryz.prog) (e:=5) (z:=.int .u8 0) (size:=1) (bytes:=1) zk;exact⟨i,_,h1,h2,h3,h4,rfl⟩⟩
def cutV (v:Value) (u:List UInt8):Value:=match v with
 | .slice a _ _=>.slice a u.length u.length
 | v=>v
theorem uu {w0 w:World} {m mk:Mem} {L:List Cl.Item} {v:Value} {u:List UInt8} {c:Nat} (h:rV mk v u) (hc:c<256) (hO:Own w0 m w mk L) (ga:Nat) (hga:w.cell? ⟨ga,0,none⟩=some (.int .u8 c)) (hu:u.length≤1000000) :
 ∃v' w' mk',(Builtin.append_ #[129,129] 129 #[cutV v u,.slice (some ⟨ga,0,none⟩) 1 1]).run Tryz.prog w=.ok v' w'∧Own w0 m w' mk' L∧mk.le mk'∧rV mk' v' (u ++ [UInt8.ofNat c]):=by
 have hnews:∀j x,[Value.int .u8 c][j]?=some x→w.cell? ((⟨ga,0,none⟩:Addr).add j)=some x:=by
  intro j x hj;rw[Addr.add_lit,Nat.zero_add]
  cases j with
  | zero=>simp at hj;rw[← hj];exact hga
  | succ j=>simp at hj
 have hof:((UInt8.ofNat c).toNat:Int)=(c:Int):=by
  rw[UInt8.toNat_ofNat'];omega
 rcases h with ⟨rfl,rfl⟩ | ⟨hne,g,cc,rfl,h3,h4,h5⟩
 ·have hO1:=hO.eH 5 1;obtain⟨v',w',hr,hown,hg,hrow⟩:=jP Q5 w 129 (.slice none 0 0) 0 [] hO1.row ⟨ga,0,none⟩ 1 1 [.int .u8 c] rfl hnews (by simp[Value.oneCell']) (by simp[maxLen]) zS;have hO2:=hO1.app hown hg hrow (Nat.le_refl _);obtain⟨va,vc,rfl⟩:=aO hO2.row;obtain⟨gb,rfl⟩:=jH hO2.row zo;refine ⟨_,w',mk.addv w' (.slice (some ⟨gb,0,none⟩) (0+1) vc),hr,hO2.bD,Mem.eD hO2.free,.inr ⟨zS,gb,vc,rfl,?_,?_,fun i hi=>?_⟩⟩
  ·rcases hO2.row.2 with ⟨h,-⟩ | ⟨g',cap,cur,h,-,-,hnc,-⟩
   ·cases h
   ·injection h with h1 h2 h3;subst h3;simpa using hnc
  ·rcases hO2.row.2 with ⟨h,-⟩ | ⟨g',cap,cur,h,-,-,-,hcm,-⟩
   ·cases h
   ·injection h with h1 h2 h3;subst h3;exact hcm
  ·obtain rfl:i=0:=by simp at hi;exact hi
   have:=gI hO2.row (g:=gb) rfl mk (j:=0) (u:=.int .u8 c) rfl;rw[this];simp only[List.nil_append,List.getElem_cons_zero];rw[hof]
 ·obtain⟨i,hi,hz,hs,hb⟩:=info_parts (P:=Tryz.prog) (e:=5) (z:=.int .u8 0) (size:=1) (bytes:=1) zk;have holds:∀j x,(u.map fun b=>Value.int .u8 b.toNat)[j]?=some x→w.cell? ((⟨g,0,none⟩:Addr).add j)=some x:=by
   intro j x hj;rw[Addr.add_lit,Nat.zero_add];have hjl:j<u.length:=by
    have:=(List.getElem?_eq_some_iff.1 hj).1;simpa using this
   rw[Mem.av hO.inn (h5 j hjl)];simp[hjl] at hj;rw[← hj]
  have hr:=run_append_grow (P:=Tryz.prog) (w:=w) 129 129 5 i (.int .u8 0) Tryz.underlying129 hi hz ⟨g,0,none⟩ u.length u.length (u.map fun b=>Value.int .u8 b.toNat) (by simp[hs]) holds ⟨ga,0,none⟩ 1 1 [.int .u8 c] (by simp[hs]) hnews zo zo (growslice_fits zo (by rw[hb];omega));have hO1:=hO.dr.al ((u.map fun b=>Value.int .u8 b.toNat).toArray ++ [Value.int .u8 c].toArray ++ Builtin.zeroCells (Value.int .u8 0).cells (grownCap w (u.length+1) u.length 5 - (u.length+1))) 5;have hO2:=hO1.ib;refine ⟨_,_,mk.add _ w.heap.size,hr,hO2,Mem.jw hO1.iC,.inr ⟨zS,w.heap.size,grownCap w (u.length+1) u.length 5,?_,?_,?_,fun j hj=>?_⟩⟩
  ·simp
  ·simpa using grownCap_ge w _ _ _
  ·exact grownCap_le_maxLen w _ _ _ (by unfold maxLen;omega)
  ·refine Mem.cz hO1.obj ?_;simp only[List.length_append,List.length_cons,List.length_nil] at hj;by_cases hju:j<u.length
   ·rw[Array.getElem?_append_left (by simp;omega),Array.getElem?_append_left (by simpa using hju)];simp[hju,List.getElem_append_left hju]
   ·obtain rfl:j=u.length:=zo;rw[Array.getElem?_append_left zS,Array.getElem?_append_right zS];simp;rw[← hof];simp
theorem wp_append_run {P:Program} {w w':World} {o:Oper} {a:Act} {K:Act→World→Prop} {Q:Exit→Act→World→Prop} (s x:Operand) (t:TypeId)
 (ho:o.op=.call { callee:=.builtin .append,args:=#[s,x],argTypes:=#[t,t] }) {v v2 v':Value} (hs:a.eval s=v) (hx:a.eval x=v2)
 (hr:(Builtin.append_ #[t,t] o.type #[v,v2]).run P w=.ok v' w') (h:K (a.put o.dst v') w'):o.wp P a w K Q:=by
 unfold Oper.wp execOp;simp only[ho,resolve,invoke,builtin,Sem.run_bind,Sem.run_pure,Result.andThen_ok,List.map_toArray,List.map_cons,List.map_nil,hs,hx,hr];exact h
def Qz (T:Table) (w0:World) (m mk0:Mem) (B Bx:List (List UInt8)→List Item→Prop) (Lr:List Item) (gy ga gt gv n:Nat):Prop:=
 ∀(s:Nat) (u:List UInt8) (vp:Value) (pre:List (List UInt8)) (mk:Mem) (W:World) (Lt:List Item),s<T.length→wex T n s≠[]→u.length+n≤1000000→mk0.le mk→rV mk vp u→B pre Lt→Own w0 m W mk (Lt ++ Lr) →
  Calls Tryz.prog 232 #[.int .i64 s,.int .i64 n,vp,.pointer (some ⟨gy,0,none⟩),.pointer (some ⟨ga,0,none⟩),.pointer (some ⟨gt,0,none⟩),.pointer (some ⟨gv,0,none⟩)] W (Pf w0 m mk B Bx Lr pre ((wex T n s).map (u ++ ·)))
theorem JQ {T:Table} {l:Nat} {w0:World} {m mk0:Mem} {B Bx:List (List UInt8)→List Item→Prop} {Lr:List Item} {gy ga gt gv tb ntab ctab:Nat} {va:Value} (hE:Ga T l w0 m mk0 B Bx Lr gy ga gt gv tb ntab ctab va) :
 Qz T w0 m mk0 B Bx Lr gy ga gt gv 0:=by
 intro s u vp pre mk W Lt hs hne _ hle hp hB hO;have:wex T 0 (s:Int)=[[]]:=by
  unfold wex at hne ⊢
  split
  ·rfl
  ·rename_i h;rw[if_neg h] at hne;exact absurd rfl hne
 rw[this];simpa using JS hE s u vp pre mk W Lt hle hp hB hO
def A7 (T:Table) (n:Nat) (u:List UInt8) (es:List Ed) (i:Nat) (e:Ed) (b:Nat):List (List UInt8):=(esW T n (es.take i) ++ edW T n e.to e.lo (b - e.lo)).map (u ++ ·)
theorem Lh (T:Table) (n:Nat) (u:List UInt8) (es:List Ed) (i:Nat) (e:Ed) (b:Nat) (h:e.lo≤b) :
 A7 T n u es i e (b+1)=A7 T n u es i e b ++ (wex T n e.to).map ((u ++ [UInt8.ofNat b]) ++ ·):=by
 unfold A7;rw[show b+1 - e.lo=(b - e.lo)+1 by omega,Di,← List.append_assoc,List.map_append,show e.lo+(b - e.lo)=b by omega]
 congr 1
 unfold xM;rw[List.map_map];apply List.map_congr_left;intro x _;simp
theorem Ov {T:Table} {n:Nat} {u:List UInt8} {es:List Ed} {i:Nat} (h:i<es.length) {b:Nat} (h2:b≤(es[i]).hi):A7 T n u es i es[i] (b+1) <+: (esW T n es).map (u ++ ·):=by
 unfold A7;have h1:esW T n (es.take i) ++ edW T n (es[i]).to (es[i]).lo (b+1 - (es[i]).lo) <+: esW T n es:=by
  have a1:edW T n (es[i]).to (es[i]).lo (b+1 - (es[i]).lo) <+: edW T n (es[i]).to (es[i]).lo ((es[i]).hi+1 - (es[i]).lo):=by
   unfold edW;have:=List.range'_append_1 (s:=(es[i]).lo) (m:=b+1 - (es[i]).lo) (n:=((es[i]).hi+1 - (es[i]).lo) - (b+1 - (es[i]).lo));rw[show (b+1 - (es[i]).lo)+(((es[i]).hi+1 - (es[i]).lo) - (b+1 - (es[i]).lo))=(es[i]).hi+1 - (es[i]).lo by omega] at this;rw[← this,List.flatMap_append];exact List.prefix_append _ _
  have a2:esW T n (es.take (i+1)) <+: esW T n es:=by
   unfold esW
   conv=>rhs;rw[← List.take_append_drop (i+1) es,List.flatMap_append]
   exact List.prefix_append _ _
  rw[uR T n es h] at a2;exact ((List.prefix_append_right_inj _).2 a1).trans a2
 exact h1.map _
theorem Li {T:Table} {n:Nat} {u:List UInt8} {es:List Ed} {i:Nat} (h:i<es.length) {b:Nat} (hx:b=(es[i]).hi+1∨wex T n (es[i]).to=[]):A7 T n u es i es[i] b=(esW T n (es.take (i+1))).map (u ++ ·):=by
 unfold A7;rw[uR T n es h];rcases hx with rfl | hx
 ·rfl
 ·rw[Il hx,Il hx]
theorem JR {T:Table} {l:Nat} {w0:World} {m mk0:Mem} {B Bx:List (List UInt8)→List Item→Prop} {Lr:List Item} {gy ga gt gv tb ntab ctab:Nat} {va:Value} (hE:Ga T l w0 m mk0 B Bx Lr gy ga gt gv tb ntab ctab va)
 (hwf:WF T) (hby:Bytes T) (n:Nat) (hn:n<ntab) (ih:Qz T w0 m mk0 B Bx Lr gy ga gt gv n):Qz T w0 m mk0 B Bx Lr gy ga gt gv (n+1):=by
 intro s u vp pre mk W Lt hs _ hun hle hp hB hO;have hE0:=hE;have hm0:=Mem.dK hle hO.inn;have ha:=Mem.av hm0 hE.ca;have hal:=Mem.ak hm0 hE.ca;obtain⟨aa,ac,rfl,a1,a2,a3⟩:=hE.tab;obtain⟨ab,ao,rfl,a4⟩:=a3 (by intro h;simp[h] at hs);obtain⟨-,ve,s2,ea,ec,rfl,g4,g5,g6⟩:=a4 s hs;have s2w:=Mem.av hm0 s2;have s2l:=Mem.ak hm0 s2;have Hex:=zh (Gg hwf hby hs n);have hwfs:=hwf T[s] (List.getElem_mem hs);have hbys:=hby T[s] (List.getElem_mem hs);generalize T[s].edges=es at *
 have HW:=zh (zi hwfs hbys);have HE:=zh hE0;have HIH:=zh ih;have HO:=zh (zi hO hB);have Hle:=zh hle;have Hp:=zh hp;unfold maxLen at a2 g5;have hdec:((n:Int)+1==0)=false:=beq_eq_false_iff_ne.2 zo;rw[Hex.out];refine aj fun R hR=>?_;clear hE hE0 ih hO hB hle a3 a4 hwfs hbys hm0 s2 hp hwf hby;rw[show ((n+1:Nat):Int)=(n:Int)+1 by omega]
 go_enter Tryz.func232,Tryz.ntmps232
 go_wp2;refine ay [0,1,2,3,4,5,6,25,26,27] (fun q vs W1=>∃(i:Nat) (mk1:Mem) (Lt1:List Item),i≤es.length∧q=es.length - i ∧
  vs=[.int .i64 s,.int .i64 ((n:Int)+1),vp,.pointer (some ⟨gy,0,none⟩),.pointer (some ⟨ga,0,none⟩),.pointer (some ⟨gt,0,none⟩),.pointer (some ⟨gv,0,none⟩),.slice ea es.length ec,.int .i64 es.length,.int .i64 i] ∧
  mk.le mk1∧B (pre ++ (esW T n (es.take i)).map (u ++ ·)) Lt1∧Own w0 m W1 mk1 (Lt1 ++ Lr)) ?_ ?_
 ·exact⟨_,0,mk,Lt,Nat.zero_le _,rfl,rfl,Mem.le_refl _,by simpa [esW] using HO.out.2,HO.out.1⟩
 clear HO s2w s2l ha hal;rintro X z q vs W1 hX - ⟨i,mk1,Lt1,hi,rfl,rfl,hle1,hB1,hO1⟩;simp[litL,lk];have hm1:=Mem.dK (Mem.le_trans Hle.out hle1) hO1.inn;by_cases hlt:i<es.length
 ·obtain⟨eb,eo,rfl,g7⟩:=g6 (by intro h;simp[h] at hlt);obtain⟨e1,e2,e3,e4,e5,e6⟩:=g7 i hlt;have e1w:=Mem.av hm1 e1;have e2w:=Mem.av hm1 e2;have e3w:=Mem.av hm1 e3;have el:=Mem.ak hm1 e1;have hlh:=fV HW.out.1 es[i] (List.getElem_mem hlt);have HDp:=zh (fun b (hb:b≤(es[i]).hi)=>Ov (T:=T) (n:=n) (u:=u) hlt hb);have HDl:=zh (fun b (hx:b=(es[i]).hi+1∨wex T n (es[i]).to=[])=>Li (T:=T) (n:=n) (u:=u) hlt (b:=b) hx);have HDn:=zh (fun b (hb:(es[i]).lo≤b)=>Lh T n u es i es[i] b hb);have hD0:A7 T n u es i es[i] (es[i]).lo=(esW T n (es.take i)).map (u ++ ·):=by
   unfold A7;rw[Nat.sub_self,Jy,List.append_nil]
  rw[← hD0] at hB1;clear hD0;generalize es[i]=e at *
  generalize hDD:A7 T n u es i e=DD at *
  clear hDD;have hO2:=(hO1.al #[.int .u8 e.lo,.int .u8 e.hi,.int .i64 e.to] 106);have hO3:=hO2.ib;have hle2:=Mem.le_trans hle1 (Mem.jw (w:=W1.alloc (.cells #[.int .u8 e.lo,.int .u8 e.hi,.int .i64 e.to] 106)) hO2.iC);have x1:=Mem.cz (m:=mk1) hO2.obj (i:=0) rfl;have x2:=Mem.cz (m:=mk1) hO2.obj (i:=1) rfl;have x3:=Mem.cz (m:=mk1) hO2.obj (i:=2) rfl;have Hk:=zh (zi hO3 (zi hle2 hB1));obtain⟨t,ht⟩:=Int.eq_ofNat_of_zero_le hlh.2.1;have htl:t<T.length:=zo;have Ht:=zh ht;clear hO2 hO3 hO1 hB1 hle2 ht hm1;go_wp2;generalize W1.heap.size=E at *
  generalize mk1.add (W1.alloc (.cells #[.int .u8 e.lo,.int .u8 e.hi,.int .i64 e.to] 106)) E=mk2 at *
  refine ay [0,1,2,3,4,5,6,12,13,25,26,27] (fun q vs W2=>∃(b:Nat) (mk3:Mem) (Lt3:List Item),e.lo≤b∧b≤e.hi+1∧q=e.hi+1 - b ∧
   vs=[.int .i64 s,.int .i64 ((n:Int)+1),vp,.pointer (some ⟨gy,0,none⟩),.pointer (some ⟨ga,0,none⟩),.pointer (some ⟨gt,0,none⟩),.pointer (some ⟨gv,0,none⟩),.pointer (some ⟨E,0,none⟩),.int .i64 b,.slice (some ⟨eb,eo,none⟩) es.length ec,.int .i64 es.length,.int .i64 i] ∧
   mk2.le mk3∧B (pre ++ DD b) Lt3∧Own w0 m W2 mk3 (Lt3 ++ Lr)) ?_ ?_
  ·exact⟨_,e.lo,mk2,Lt1,Nat.le_refl _,zo,rfl,rfl,Mem.le_refl _,Hk.out.2.2,Hk.out.1⟩
  clear e1w e2w e3w el;rintro Y z2 q vs W2 hY - ⟨b,mk3,Lt3,hb1,hb2,rfl,rfl,hle3,hB3,hO3⟩;simp[litL,lk];have hm3:=hO3.inn;have y1:=Mem.av hm3 (Mem.aF hle3 x1);have y2:=Mem.av hm3 (Mem.aF hle3 x2);have y3:=Mem.av hm3 (Mem.aF hle3 x3);simp only[List.getElem_toArray,List.getElem_cons_succ,List.getElem_cons_zero] at y3;rw[Ht.out] at y3;have yl:=Mem.ak hm3 (Mem.aF hle3 x1);have hle03:=Mem.le_trans (Mem.le_trans Hle.out Hk.out.2.1) hle3;have hct:=Mem.av hm3 (Mem.aF hle03 HE.out.ct);have hctl:=Mem.ak hm3 (Mem.aF hle03 HE.out.ct);obtain⟨ur,hur,ra,rc,rfl,r2,r3,r4⟩:=HE.out.rows _ _ _ hO3 n hn;have hcl:=uZ T n;obtain⟨rb,ro,rfl,r5⟩:=r4 (by intro h;rw[h] at hcl;simp at hcl;omega);have hcn:t<(canN T n).length:=zo;have z1:=r5 t hcn;have z1w:=Mem.av hm3 (Mem.aF hle03 z1);have z1l:=Mem.ak hm3 (Mem.aF hle03 z1);have hurl:tb<W2.heap.size:=by
   simp only[World.cell?] at hur
   split at hur
   ·rename_i hb;exact (Array.getElem?_eq_some_iff.1 hb).1
   ·cases hur
  have hcv:(canN T n)[t]=true↔wex T n (t:Int)≠[]:=by
   have h1:=pG T n htl;rw[List.getElem?_eq_getElem hcn] at h1;rw[Option.some.inj h1];simp
  have Hcv:=zh hcv;obtain⟨cb,hcb⟩:∃cb,(canN T n)[t]=cb:=⟨_,rfl⟩;rw[hcb] at z1w;have Hcb:=zh hcb;have hw1:IntKind.i64.wrap ((n:Int)+1 - 1)=(n:Int):=by rw[IntWalk.i64_in _ zo];omega
  have hcl2:T.length≤(canN T n).length:=zo;have Hst:=zh (zi hB3 (zi hO3 (zi hle3 hle03)));have hnt:=HE.out.ntab;unfold maxLen at r3 hnt;generalize canN T n=cl at *
  clear hcl hcv hcb z1 r4 r5 hB3 hO3 hle03;go_wp2;refine aA [0,1,2,3,4,5,6,12,13,25,26,27,49] (fun vs w'=>∃(bb:Bool) (nq:Nat),vs=[.int .i64 s,.int .i64 ((n:Int)+1),vp,.pointer (some ⟨gy,0,none⟩),.pointer (some ⟨ga,0,none⟩),.pointer (some ⟨gt,0,none⟩),.pointer (some ⟨gv,0,none⟩),.pointer (some ⟨E,0,none⟩),.int .i64 b,.slice (some ⟨eb,eo,none⟩) es.length ec,.int .i64 es.length,.int .i64 i,.bool bb] ∧
   w'=W2.drewN nq∧(bb=true→b≤e.hi∧wex T n (t:Int)≠[])∧(bb=false→b=e.hi+1∨wex T n (t:Int)=[])) ?_ ?_
  ·intro V hV;by_cases hbh:b≤e.hi
   ·have hdb:decide ((b:Int)≤(e.hi:Int))=true:=decide_eq_true zo;refine wp_region_quiet_lit zk zk ?_
    repeat (any_goals (first | go_big_quiet_step (fail) | quiet_step (fail) | (refine wpQuiet_step (fun K hK=>?_);go_simp;split <;> (refine hK _ ?_;clear hK K))))
    all_goals (refine wpQuiet_nil ?_;intro _ hw';obtain⟨nq,hw''⟩:=hw';subst hw'')
    all_goals go_wp2
    all_goals
     refine hV.out _ _ rfl ⟨cb,nq,rfl,rfl,fun h=>⟨hbh,Hcv.out.1 (Hcb.out.trans h)⟩,fun h=>.inr (Classical.byContradiction fun hx=>?_)⟩;have:=Hcv.out.2 hx;rw[Hcb.out,h] at this;cases this
   ·have hdb:decide ((b:Int)≤(e.hi:Int))=false:=decide_eq_false zo;refine wp_region_quiet_lit zk zk ?_
    repeat (any_goals (first | go_big_quiet_step (fail) | quiet_step (fail) | (refine wpQuiet_step (fun K hK=>?_);go_simp;split <;> (refine hK _ ?_;clear hK K))))
    all_goals (refine wpQuiet_nil ?_;intro _ hw';obtain⟨nq,hw''⟩:=hw';subst hw'')
    all_goals go_wp2
    all_goals exact hV.out _ _ rfl ⟨false,nq,rfl,rfl,(fun h=>by cases h),fun _=>.inl zo⟩
  rintro z3 vs w3 - ⟨bb,nq,rfl,rfl,hbt,hbf⟩;simp[litL,lk]
  cases bb with
  | false=>
   have Hbf:=zh (hbf rfl);clear hbt hbf;go_wp2;refine hX.out _ _ _ zo rfl ⟨i+1,mk3,Lt3,zo,rfl,rfl,Mem.le_trans Hk.out.2.1 Hst.out.2.2.1,?_,Hst.out.2.1.drN nq⟩;rw[← HDl.out b (by rw[Ht.out];exact Hbf.out)]
   exact Hst.out.1
  | true=>
   have Hbt:=zh (hbt rfl);clear hbt hbf;go_wp2;refine aA [0,1,2,3,4,5,6,12,13,25,26,27,68] (fun vs w'=>∃(bb:Bool) (mk4:Mem) (Lt4:List Item),vs=[.int .i64 s,.int .i64 ((n:Int)+1),vp,.pointer (some ⟨gy,0,none⟩),.pointer (some ⟨ga,0,none⟩),.pointer (some ⟨gt,0,none⟩),.pointer (some ⟨gv,0,none⟩),.pointer (some ⟨E,0,none⟩),.int .i64 b,.slice (some ⟨eb,eo,none⟩) es.length ec,.int .i64 es.length,.int .i64 i,.bool bb] ∧
    mk3.le mk4∧Own w0 m w' mk4 (Lt4 ++ Lr)∧(bb=false→B (pre ++ DD (b+1)) Lt4)∧(bb=true→∃qq,qq≠[]∧qq <+: (wex T n e.to).map ((u ++ [UInt8.ofNat b]) ++ ·)∧Bx ((pre ++ DD b) ++ qq) Lt4)) ?_ ?_
   ·intro V hV;have hpp:=Hp.out.le (Mem.le_trans Hk.out.2.1 Hst.out.2.2.1);obtain⟨hbh,hne⟩:=Hbt.out;have hwu:IntKind.u8.wrap (b:Int)=(b:Int):=IntWalk.u8_in _ zo;have hcvf:=fun w' (h:mk3.inn w')=>Mem.av h (Mem.aF Hst.out.2.2.2 HE.out.cv);have hx3:=fun w' (h:mk3.inn w')=>Mem.av h (Mem.aF hle3 x3);simp only[List.getElem_toArray,List.getElem_cons_succ,List.getElem_cons_zero] at hx3;rw[Ht.out] at hx3;have hw2:IntKind.i64.wrap (n:Int)=(n:Int):=IntWalk.i64_in _ zo;have Hcvf:=zh hcvf;have Hx3:=zh hx3;clear hcvf hx3;have hul:u.length≤1000000:=zo;refine mJ (fun _ w'=>mk3.inn w') zk ?_;have hO:=(Hst.out.2.1.drN nq).dr;have hS:mk3.inn (W2.drewN nq).drew:=hO.inn;have hxl:=Mem.ak hS (Mem.aF hle3 x3);generalize (W2.drewN nq).drew=w4 at *
    rcases hpp with ⟨hu,hv⟩ | ⟨hu,g,c,hv,hp3,hp4,hp5⟩
    ·subst hv;have hpf:rV mk3 (.slice none 0 0) u:=.inl ⟨hu,rfl⟩;have hcut:cutV (.slice none 0 0) u=.slice none 0 0:=by simp[cutV,hu]
     clear hu;refine bV 0 rfl zk (fun _ _ _ h=>h) hS (au rfl fun w' hS'=>by have q:=Hcvf.out _ hS';have q1:=Hx3.out _ hS';have q2:=Mem.ak hS' (Mem.aF hle3 x3);have q3:=Mem.ak hS' (Mem.aF Hst.out.2.2.2 HE.out.cv);go_simp;rfl) ?_;refine bV 1 rfl zk (fun _ _ _ h=>h) hS (au rfl fun w' hS'=>by have q:=Hcvf.out _ hS';have q1:=Hx3.out _ hS';have q2:=Mem.ak hS' (Mem.aF hle3 x3);have q3:=Mem.ak hS' (Mem.aF Hst.out.2.2.2 HE.out.cv);go_simp;rfl) ?_;refine bV 2 rfl zk (fun _ _ _ h=>h) hS (au rfl fun w' hS'=>by have q:=Hcvf.out _ hS';have q1:=Hx3.out _ hS';have q2:=Mem.ak hS' (Mem.aF hle3 x3);have q3:=Mem.ak hS' (Mem.aF Hst.out.2.2.2 HE.out.cv);go_simp;rfl) ?_;refine bV 3 rfl zk (fun _ _ _ h=>h) hS (au rfl fun w' hS'=>by have q:=Hcvf.out _ hS';have q1:=Hx3.out _ hS';have q2:=Mem.ak hS' (Mem.aF hle3 x3);have q3:=Mem.ak hS' (Mem.aF Hst.out.2.2.2 HE.out.cv);go_simp;rfl) ?_;refine bV 4 rfl zk (fun _ _ _ h=>h) hS (au rfl fun w' hS'=>by have q:=Hcvf.out _ hS';have q1:=Hx3.out _ hS';have q2:=Mem.ak hS' (Mem.aF hle3 x3);have q3:=Mem.ak hS' (Mem.aF Hst.out.2.2.2 HE.out.cv);go_simp;rfl) ?_;refine bV 5 rfl zk (fun _ _ _ h=>h) hS (au rfl fun w' hS'=>by have q:=Hcvf.out _ hS';have q1:=Hx3.out _ hS';have q2:=Mem.ak hS' (Mem.aF hle3 x3);have q3:=Mem.ak hS' (Mem.aF Hst.out.2.2.2 HE.out.cv);go_simp;rfl) ?_;refine bV 6 rfl zk (fun _ _ _ h=>h) hS (au rfl fun w' hS'=>by have q:=Hcvf.out _ hS';have q1:=Hx3.out _ hS';have q2:=Mem.ak hS' (Mem.aF hle3 x3);have q3:=Mem.ak hS' (Mem.aF Hst.out.2.2.2 HE.out.cv);go_simp;rfl) ?_;refine bV 7 rfl zk (fun _ _ _ h=>h) hS (au rfl fun w' hS'=>by have q:=Hcvf.out _ hS';have q1:=Hx3.out _ hS';have q2:=Mem.ak hS' (Mem.aF hle3 x3);have q3:=Mem.ak hS' (Mem.aF Hst.out.2.2.2 HE.out.cv);go_simp;rfl) ?_;refine bV 8 rfl zk (fun _ _ _ h=>h) hS (au rfl fun w' hS'=>by have q:=Hcvf.out _ hS';have q1:=Hx3.out _ hS';have q2:=Mem.ak hS' (Mem.aF hle3 x3);have q3:=Mem.ak hS' (Mem.aF Hst.out.2.2.2 HE.out.cv);go_simp;rfl) ?_;refine bV 9 rfl zk (fun _ _ _ h=>h) hS (au rfl fun w' hS'=>by have q:=Hcvf.out _ hS';have q1:=Hx3.out _ hS';have q2:=Mem.ak hS' (Mem.aF hle3 x3);have q3:=Mem.ak hS' (Mem.aF Hst.out.2.2.2 HE.out.cv);go_simp;rfl) ?_;refine bV 10 rfl zk (fun _ _ _ h=>h) hS (au rfl fun w' hS'=>by have q:=Hcvf.out _ hS';have q1:=Hx3.out _ hS';have q2:=Mem.ak hS' (Mem.aF hle3 x3);have q3:=Mem.ak hS' (Mem.aF Hst.out.2.2.2 HE.out.cv);go_simp;rfl) ?_;refine bV 11 rfl zk (fun _ _ _ h=>h) hS (au rfl fun w' hS'=>by have q:=Hcvf.out _ hS';have q1:=Hx3.out _ hS';have q2:=Mem.ak hS' (Mem.aF hle3 x3);have q3:=Mem.ak hS' (Mem.aF Hst.out.2.2.2 HE.out.cv);go_simp;rfl) ?_;refine bV 12 rfl zk (fun _ _ _ h=>h) hS (au rfl fun w' hS'=>by have q:=Hcvf.out _ hS';have q1:=Hx3.out _ hS';have q2:=Mem.ak hS' (Mem.aF hle3 x3);have q3:=Mem.ak hS' (Mem.aF Hst.out.2.2.2 HE.out.cv);go_simp;rfl) ?_;refine bz 13 zk (aB rfl rfl (aD (by go_simp;first | exact⟨rfl,rfl⟩ | rfl) ⟨.inr (hO.al #[.int .u8 b] 5).inn,?_⟩));go_simp;have hO6:=hO.al #[.int .u8 b] 5;obtain⟨v',w6,mk4,hr,hO7,hle7,hpf7⟩:=uu hpf (by omega:b<256) hO6 w4.heap.size (hO6.obj.cell (i:=0) rfl) hul;rw[hcut] at hr;refine bz 14 zk (aB rfl rfl (wp_append_run (.tmp 62) (.tmp 65) 129 rfl rfl rfl hr ⟨.inr (Mem.dK hle7 hO7.inn),?_⟩));go_simp;have hIH:=HIH.out t (u ++ [UInt8.ofNat b]) v' (pre ++ DD b) mk4 w6 Lt3 htl hne (by simp;omega) (Mem.le_trans Hst.out.2.2.2 hle7) hpf7 Hst.out.1 (hO7.perm (List.Perm.refl _)).tail;refine bz 15 zk (aB rfl rfl (dI (by go_simp) hIH ?_));rintro e' w7 (⟨rfl,mk5,Lt5,k1,k2,k3⟩ | ⟨rfl,qq,mk5,Lt5,k0,k1,k2,k3,k4⟩)
     ·refine ⟨_,rfl,.inr (Mem.dK (Mem.le_trans hle7 k3) k2.inn),?_⟩;go_simp;refine bz 16 zk (aB rfl rfl (aD (by go_simp;first | done | exact⟨rfl,rfl⟩ | rfl) ⟨.inl rfl,?_⟩));refine iA zk ?_ _;refine hV.out _ _ rfl ⟨false,mk5,Lt5,rfl,Mem.le_trans hle7 k3,k2,fun _=>?_,fun h=>by cases h⟩;rw[HDn.out b hb1,← List.append_assoc,Ht.out];exact k1
     ·refine ⟨_,rfl,.inr (Mem.dK (Mem.le_trans hle7 k4) k3.inn),?_⟩;go_simp;refine bz 16 zk (aB rfl rfl (aD (by go_simp;first | done | exact⟨rfl,rfl⟩ | rfl) ⟨.inl rfl,?_⟩));refine iA zk ?_ _;exact hV.out _ _ rfl ⟨true,mk5,Lt5,rfl,Mem.le_trans hle7 k4,k3,(fun h=>by cases h),fun _=>⟨qq,k0,by rw[Ht.out];exact k1,k2⟩⟩
    ·subst hv;have hpf:rV mk3 (.slice (some ⟨g,0,none⟩) u.length c) u:=.inr ⟨hu,g,c,rfl,hp3,hp4,hp5⟩;have hcut:cutV (.slice (some ⟨g,0,none⟩) u.length c) u=.slice (some ⟨g,0,none⟩) u.length u.length:=rfl;have hu2:0<u.length:=List.length_pos_iff.2 hu;unfold maxLen at hp4;clear hu hp5;refine bV 0 rfl zk (fun _ _ _ h=>h) hS (au rfl fun w' hS'=>by have q:=Hcvf.out _ hS';have q1:=Hx3.out _ hS';have q2:=Mem.ak hS' (Mem.aF hle3 x3);have q3:=Mem.ak hS' (Mem.aF Hst.out.2.2.2 HE.out.cv);go_simp;rfl) ?_;refine bV 1 rfl zk (fun _ _ _ h=>h) hS (au rfl fun w' hS'=>by have q:=Hcvf.out _ hS';have q1:=Hx3.out _ hS';have q2:=Mem.ak hS' (Mem.aF hle3 x3);have q3:=Mem.ak hS' (Mem.aF Hst.out.2.2.2 HE.out.cv);go_simp;rfl) ?_;refine bV 2 rfl zk (fun _ _ _ h=>h) hS (au rfl fun w' hS'=>by have q:=Hcvf.out _ hS';have q1:=Hx3.out _ hS';have q2:=Mem.ak hS' (Mem.aF hle3 x3);have q3:=Mem.ak hS' (Mem.aF Hst.out.2.2.2 HE.out.cv);go_simp;rfl) ?_;refine bV 3 rfl zk (fun _ _ _ h=>h) hS (au rfl fun w' hS'=>by have q:=Hcvf.out _ hS';have q1:=Hx3.out _ hS';have q2:=Mem.ak hS' (Mem.aF hle3 x3);have q3:=Mem.ak hS' (Mem.aF Hst.out.2.2.2 HE.out.cv);go_simp;rfl) ?_;refine bV 4 rfl zk (fun _ _ _ h=>h) hS (au rfl fun w' hS'=>by have q:=Hcvf.out _ hS';have q1:=Hx3.out _ hS';have q2:=Mem.ak hS' (Mem.aF hle3 x3);have q3:=Mem.ak hS' (Mem.aF Hst.out.2.2.2 HE.out.cv);go_simp;rfl) ?_;refine bV 5 rfl zk (fun _ _ _ h=>h) hS (au rfl fun w' hS'=>by have q:=Hcvf.out _ hS';have q1:=Hx3.out _ hS';have q2:=Mem.ak hS' (Mem.aF hle3 x3);have q3:=Mem.ak hS' (Mem.aF Hst.out.2.2.2 HE.out.cv);go_simp;rfl) ?_;refine bV 6 rfl zk (fun _ _ _ h=>h) hS (au rfl fun w' hS'=>by have q:=Hcvf.out _ hS';have q1:=Hx3.out _ hS';have q2:=Mem.ak hS' (Mem.aF hle3 x3);have q3:=Mem.ak hS' (Mem.aF Hst.out.2.2.2 HE.out.cv);go_simp;rfl) ?_;refine bV 7 rfl zk (fun _ _ _ h=>h) hS (au rfl fun w' hS'=>by have q:=Hcvf.out _ hS';have q1:=Hx3.out _ hS';have q2:=Mem.ak hS' (Mem.aF hle3 x3);have q3:=Mem.ak hS' (Mem.aF Hst.out.2.2.2 HE.out.cv);go_simp;rfl) ?_;refine bV 8 rfl zk (fun _ _ _ h=>h) hS (au rfl fun w' hS'=>by have q:=Hcvf.out _ hS';have q1:=Hx3.out _ hS';have q2:=Mem.ak hS' (Mem.aF hle3 x3);have q3:=Mem.ak hS' (Mem.aF Hst.out.2.2.2 HE.out.cv);go_simp;rfl) ?_;refine bV 9 rfl zk (fun _ _ _ h=>h) hS (au rfl fun w' hS'=>by have q:=Hcvf.out _ hS';have q1:=Hx3.out _ hS';have q2:=Mem.ak hS' (Mem.aF hle3 x3);have q3:=Mem.ak hS' (Mem.aF Hst.out.2.2.2 HE.out.cv);go_simp;rfl) ?_;refine bV 10 rfl zk (fun _ _ _ h=>h) hS (au rfl fun w' hS'=>by have q:=Hcvf.out _ hS';have q1:=Hx3.out _ hS';have q2:=Mem.ak hS' (Mem.aF hle3 x3);have q3:=Mem.ak hS' (Mem.aF Hst.out.2.2.2 HE.out.cv);go_simp;rfl) ?_;refine bV 11 rfl zk (fun _ _ _ h=>h) hS (au rfl fun w' hS'=>by have q:=Hcvf.out _ hS';have q1:=Hx3.out _ hS';have q2:=Mem.ak hS' (Mem.aF hle3 x3);have q3:=Mem.ak hS' (Mem.aF Hst.out.2.2.2 HE.out.cv);go_simp;rfl) ?_;refine bV 12 rfl zk (fun _ _ _ h=>h) hS (au rfl fun w' hS'=>by have q:=Hcvf.out _ hS';have q1:=Hx3.out _ hS';have q2:=Mem.ak hS' (Mem.aF hle3 x3);have q3:=Mem.ak hS' (Mem.aF Hst.out.2.2.2 HE.out.cv);go_simp;rfl) ?_;refine bz 13 zk (aB rfl rfl (aD (by go_simp;first | exact⟨rfl,rfl⟩ | rfl) ⟨.inr (hO.al #[.int .u8 b] 5).inn,?_⟩));go_simp;have hO6:=hO.al #[.int .u8 b] 5;obtain⟨v',w6,mk4,hr,hO7,hle7,hpf7⟩:=uu hpf (by omega:b<256) hO6 w4.heap.size (hO6.obj.cell (i:=0) rfl) hul;rw[hcut] at hr;refine bz 14 zk (aB rfl rfl (wp_append_run (.tmp 62) (.tmp 65) 129 rfl rfl rfl hr ⟨.inr (Mem.dK hle7 hO7.inn),?_⟩));go_simp;have hIH:=HIH.out t (u ++ [UInt8.ofNat b]) v' (pre ++ DD b) mk4 w6 Lt3 htl hne (by simp;omega) (Mem.le_trans Hst.out.2.2.2 hle7) hpf7 Hst.out.1 (hO7.perm (List.Perm.refl _)).tail;refine bz 15 zk (aB rfl rfl (dI (by go_simp) hIH ?_));rintro e' w7 (⟨rfl,mk5,Lt5,k1,k2,k3⟩ | ⟨rfl,qq,mk5,Lt5,k0,k1,k2,k3,k4⟩)
     ·refine ⟨_,rfl,.inr (Mem.dK (Mem.le_trans hle7 k3) k2.inn),?_⟩;go_simp;refine bz 16 zk (aB rfl rfl (aD (by go_simp;first | done | exact⟨rfl,rfl⟩ | rfl) ⟨.inl rfl,?_⟩));refine iA zk ?_ _;refine hV.out _ _ rfl ⟨false,mk5,Lt5,rfl,Mem.le_trans hle7 k3,k2,fun _=>?_,fun h=>by cases h⟩;rw[HDn.out b hb1,← List.append_assoc,Ht.out];exact k1
     ·refine ⟨_,rfl,.inr (Mem.dK (Mem.le_trans hle7 k4) k3.inn),?_⟩;go_simp;refine bz 16 zk (aB rfl rfl (aD (by go_simp;first | done | exact⟨rfl,rfl⟩ | rfl) ⟨.inl rfl,?_⟩));refine iA zk ?_ _;exact hV.out _ _ rfl ⟨true,mk5,Lt5,rfl,Mem.le_trans hle7 k4,k3,(fun h=>by cases h),fun _=>⟨qq,k0,by rw[Ht.out];exact k1,k2⟩⟩
   rintro z5 vs w5 - ⟨bb,mk4,Lt4,rfl,hle4,hO4,hB4,hX4⟩;simp[litL,lk]
   cases bb with
   | true=>
    obtain⟨qq,hq1,hq2,hq3⟩:=hX4 rfl;have Hq:=zh (zi hq1 (zi hq2 (zi hq3 (zi hO4 hle4))));clear hX4 hB4 hq1 hq2 hq3 hO4 hle4 y1 y2 y3 hct z1w hur;go_wp2;refine hR.out _ _ (.inr ⟨rfl,DD b ++ qq,mk4,Lt4,?_,?_,?_,Hq.out.2.2.2.1,Mem.le_trans (Mem.le_trans Hk.out.2.1 Hst.out.2.2.1) Hq.out.2.2.2.2⟩)
    ·intro h;exact Hq.out.1 (List.append_eq_nil_iff.1 h).2
    ·have h1:=HDp.out b Hbt.out.1;rw[HDn.out b hb1] at h1;exact ((List.prefix_append_right_inj _).2 Hq.out.2.1).trans h1
    ·rw[← List.append_assoc];exact Hq.out.2.2.1
   | false=>
    have hB5:=hB4 rfl;have Hq:=zh (zi hB5 (zi hO4 hle4));clear hX4 hB4 hB5 hO4 hle4 y1 y2 y3 hct z1w hur;go_wp2;exact hY.out _ _ _ (by have:=Hbt.out.1;omega) rfl ⟨b+1,mk4,Lt4,zo,by have:=Hbt.out.1;omega,rfl,rfl,Mem.le_trans Hst.out.2.2.1 Hq.out.2.2,Hq.out.1,Hq.out.2.1⟩
 ·obtain rfl:i=es.length:=zo;rw[List.take_length] at hB1;have Hq:=zh (zi hB1 (zi hO1 hle1));clear hB1 hO1 hle1;go_wp2;exact hR.out _ _ (.inl ⟨rfl,mk1,Lt1,Hq.out.1,Hq.out.2.1,Hq.out.2.2⟩)
theorem DY {T:Table} {l:Nat} {w0:World} {m mk0:Mem} {B Bx:List (List UInt8)→List Item→Prop} {Lr:List Item} {gy ga gt gv tb ntab ctab:Nat} {va:Value} (hE:Ga T l w0 m mk0 B Bx Lr gy ga gt gv tb ntab ctab va)
 (hwf:WF T) (hby:Bytes T):∀n,n≤ntab→Qz T w0 m mk0 B Bx Lr gy ga gt gv n
 | 0,_=>JQ hE
 | n+1,h=>JR hE hwf hby n h (DY hE hwf hby n zo)
theorem Own.Kb {w0 w:World} {m mk:Mem} {L:List Cl.Item} {g:Nat} {t:TypeId} {v:Value} (h:Own w0 m w mk (.obj g t #[v]::L)):∃mk',Own w0 m w mk' L∧mk.le mk'∧mk'.cell g 0=some v:=
 ⟨_,h.ib,Mem.jw h.iC,Mem.cz h.obj rfl⟩
theorem Pw {T:Table} {l:Nat} {w0:World} {m mk0:Mem} {B Bx:List (List UInt8)→List Item→Prop} {Lr:List Item} {tb n ctab clast ntab:Nat} {va:Value} (hwf:WF T) (hby:Bytes T)
 (hY:Au Tryz.prog l (fun x:List UInt8=>#[Value.string ⟨x.toArray⟩]) w0 m mk0 B Bx) (htab:aI mk0 va T) (hpos:0<T.length) (hnt:ntab≤maxLen) (hn:n<ntab) (hn2:n≤1000000) (_:clast≤maxLen)
 (rows:∀W mk Lt,Own w0 m W mk (Lt ++ Lr)→∀i,i<ntab→∃u,W.cell? ⟨tb,i,none⟩=some u∧jh mk0 u (canN T i))
 (pre:List (List UInt8)) (mk:Mem) (W:World) (Lt:List Item) (hle:mk0.le mk) (hB:B pre Lt) (hO:Own w0 m W mk (Lt ++ Lr)) :
 Calls Tryz.prog 224 #[.agg #[va],.slice (some ⟨tb,n,none⟩) 1 clast,.int .i64 n,.func (.yield l) #[] #[],.slice (some ⟨tb,0,none⟩) ntab ctab] W (Pf w0 m mk B Bx Lr pre (wex T n 0)):=by
 have hO1:=((hO.al #[va] 27).al #[.func (.yield l) #[] #[]] 178).al #[.slice (some ⟨tb,0,none⟩) ntab ctab] 90;have hsz1:(W.alloc (.cells #[va] 27)).heap.size=W.heap.size+1:=by simp
 have hsz2:((W.alloc (.cells #[va] 27)).alloc (.cells #[.func (.yield l) #[] #[]] 178)).heap.size=W.heap.size+1+1:=by simp
 rw[hsz2,hsz1] at hO1;obtain⟨ur,hur,hb⟩:=rows W mk Lt hO n hn;obtain⟨ra,rc,rfl,r2,r3,r4⟩:=hb;have hcl0:=uZ T n;obtain⟨rb,ro,rfl,r5⟩:=r4 (by intro h;rw[h] at hcl0;simp at hcl0;omega);have h0:0<(canN T n).length:=zo;have z1:=r5 0 h0;rw[Nat.add_zero] at z1;have z1w:=Mem.av hO.inn (Mem.aF hle z1);have z1l:=Mem.ak hO.inn (Mem.aF hle z1);have hurl:tb<W.heap.size:=by
  simp only[World.cell?] at hur
  split at hur
  ·rename_i hb;exact (Array.getElem?_eq_some_iff.1 hb).1
  ·cases hur
 have hcv:(canN T n)[0]=true↔wex T n ((0:Nat):Int)≠[]:=by
  have h1:=pG T n hpos;rw[List.getElem?_eq_getElem h0] at h1;rw[Option.some.inj h1];simp
 obtain⟨cb,hcb⟩:∃cb,(canN T n)[0]=cb:=⟨_,rfl⟩;rw[hcb] at z1w hcv;have hcl2:0<(canN T n).length:=h0;have hta:=htab;obtain⟨aa,ac,rfl,-⟩:=htab;have HO1:=zh (zi hO1 (zi hB (zi hle (zi rows (zi hY (zi hta (zi hwf hby)))))));have Hcv:=zh hcv;unfold maxLen at r3 hnt;generalize canN T n=cl at *
 clear hO1 hO hB hle hcl0 hcv hcb z1 r4 r5 hsz1 hsz2 rows hY hta hwf hby;have hurl1:tb<W.heap.size+1:=zo;have hurl2:tb<W.heap.size+1+1:=zo;have hurl3:tb<W.heap.size+1+1+1:=zo;have z1l1:rb<W.heap.size+1:=zo;have z1l2:rb<W.heap.size+1+1:=zo;have z1l3:rb<W.heap.size+1+1+1:=zo;refine aj fun R hR=>?_
 cases cb with
 | false=>
  go_enter Tryz.func224,Tryz.ntmps224
  go_wp2;have hw0:wex T n 0=[]:=Classical.byContradiction fun h=>by have:=Hcv.out.2 h;cases this
  refine hR.out _ _ (.inl ⟨rfl,mk,Lt,by rw[hw0,List.append_nil];exact HO1.out.2.1,?_,Mem.le_refl _⟩)
  exact HO1.out.1.tail.tail.tail
 | true=>
  have hO2:=(HO1.out.1.al #[.func (.func 232) #[] #[.pointer (some ⟨W.heap.size+1,0,none⟩),.pointer (some ⟨W.heap.size,0,none⟩),.pointer (some ⟨W.heap.size+1+1,0,none⟩),.pointer (some ⟨W.heap.size+1+1+1,0,none⟩)]] 213);have hsz3:(((W.alloc (.cells #[.slice aa T.length ac] 27)).alloc (.cells #[.func (.yield l) #[] #[]] 178)).alloc (.cells #[.slice (some ⟨tb,0,none⟩) ntab ctab] 90)).heap.size=W.heap.size+1+1+1:=by simp
  rw[hsz3] at hO2;obtain⟨m1,hO3,l1,c1⟩:=hO2.Kb;obtain⟨m2,hO4,l2,c2⟩:=hO3.Kb;obtain⟨m3,hO5,l3,c3⟩:=hO4.Kb;obtain⟨m4,hO6,l4,c4⟩:=hO5.Kb;have hle:=HO1.out.2.2.1;have hle4:=Mem.le_trans (Mem.le_trans (Mem.le_trans l1 l2) l3) l4;have hE:Ga T l w0 m m4 B Bx Lr (W.heap.size+1) W.heap.size (W.heap.size+1+1) (W.heap.size+1+1+1) tb ntab ctab (.slice aa T.length ac):=by
   refine ⟨fun pre x W' mk' Lt' Lr' h1 h2 h3=>HO1.out.2.2.2.2.1 pre x W' mk' Lt' Lr' h1 h2 (Mem.le_trans (Mem.le_trans hle hle4) h3),Mem.aF l4 c3,c4,Mem.aF (Mem.le_trans l3 l4) c2,
    Mem.aF (Mem.le_trans (Mem.le_trans l2 l3) l4) c1,aK (Mem.le_trans hle hle4) HO1.out.2.2.2.2.2.1,fun W' mk' Lt' h i hi=>?_,by unfold maxLen;exact hnt⟩
   obtain⟨u,h1,h2⟩:=HO1.out.2.2.2.1 W' mk' Lt' h i hi;exact⟨u,h1,j5 (Mem.le_trans hle hle4) h2⟩
  have hV:=DY hE HO1.out.2.2.2.2.2.2.1 HO1.out.2.2.2.2.2.2.2 n zo 0 [] (.slice none 0 0) pre m4 _ Lt hpos (Hcv.out.1 rfl) (by simp;omega) (Mem.le_refl _) (.inl ⟨rfl,rfl⟩) HO1.out.2.1 hO6;rw[show ((0:Nat):Int)=(0:Int) from rfl] at hV;have HV:=zh (zi hV hle4);clear hV hE hO6 hO5 hO4 hO3 hO2 c1 c2 c3 c4 l1 l2 l3 l4 hle hle4 hsz3 m1 m2 m3
  go_enter Tryz.func224,Tryz.ntmps224
  go_wp2_with fail
  refine HV.out.1.mono ?_;rintro e' w7 (⟨rfl,mk5,Lt5,k1,k2,k3⟩ | ⟨rfl,qq,mk5,Lt5,k0,k1,k2,k3,k4⟩)
  ·have Hq:=zh (zi k1 (zi k2 k3));clear k1 k2 k3;go_wp2;exact hR.out _ _ (.inl ⟨rfl,mk5,Lt5,by simpa using Hq.out.1,Hq.out.2.1,Mem.le_trans HV.out.2 Hq.out.2.2⟩)
  ·have Hq:=zh (zi k0 (zi k1 (zi k2 (zi k3 k4))));clear k0 k1 k2 k3 k4;go_wp2;exact hR.out _ _ (.inr ⟨rfl,qq,mk5,Lt5,Hq.out.1,by simpa using Hq.out.2.1,Hq.out.2.2.1,Hq.out.2.2.2.1,Mem.le_trans HV.out.2 Hq.out.2.2.2.2⟩)
theorem set_mid {α:Type} (A C:List α) (x y:α) {k:Nat} (h:A.length=k):(A ++ x::C).set k y=A ++ y::C:=by
 subst h;simp
theorem RB {α:Type} (A C:List α) (x:α) {k:Nat} (h:A.length=k):(A ++ x::C)[k]?=some x:=by
 subst h;simp
def canF (less:List Bool) (s:Sn):Bool:=s.edges.any fun e=>less.getD e.to.toNat false
theorem RY (v0 v1:Value) (l:Table) (less:List Bool) (m:Mem) (w:World) (hm:m.inn w) (hl:aI m v0 l) (hb:jh m v1 less) (hwf:WF l) (hlen:l.length≤1000000) (hle:less.length=l.length) :
 Calls Tryz.prog 222 #[.agg #[v0],v1] w fun e w'=>∃r,e=.returned r∧Below w.heap.size w w'∧jh (m.grow w w') r (l.map (canF less)):=by
 obtain⟨a,c,rfl,h1,h2,h3⟩:=hl;obtain⟨ba,bc,rfl,b1,b2,b3⟩:=hb;unfold maxLen at h2 b2;have hO:=(Own.start hm).al #[.slice a l.length c] 27;have HO:=zh hO;have hle1:l.length≤less.length:=zo;have hle2:less.length≤l.length:=zo;have g1:=hO.obj.cell (i:=0) rfl;have g2:=hO.obj.lt;clear hO hle;refine aj fun R hR=>?_
 go_enter Tryz.func222,Tryz.ntmps222
 go_wp2_with (refine wpList_make_row CY rfl (.tmp 11) (.tmp 11) rfl l.length rfl rfl zo (by unfold maxLen;omega) ?_)
 intro w5 hown hgrow;have hszz:(w.alloc (.cells #[.slice a l.length c] 27)).heap.size=w.heap.size+1:=by simp
 have hO:=HO.out.make (by rw[hszz];exact hown) hgrow;rw[hszz] at hO;have hrep:List.replicate l.length (Value.bool false)=((l.take 0).map (canF less) ++ List.replicate (l.length - 0) false).map Value.bool:=by simp
 rw[hrep] at hO;have hg1:=hO.swap.obj.cell (i:=0) rfl;have hg2:=hO.swap.obj.lt;clear hszz;generalize w.heap.size+1=B at *
 have HO2:=zh hO;clear hown hgrow hrep HO g1 g2 hO;go_wp2;refine ay [1,2,5,15,16] (fun n vs wr=>∃(k:Nat),k≤l.length∧n=l.length - k∧vs=[.slice ba less.length bc,.pointer (some ⟨w.heap.size,0,none⟩),.slice (some ⟨B,0,none⟩) l.length l.length,.int .i64 l.length,.int .i64 k] ∧
  Own w m wr m [.row (.slice (some ⟨B,0,none⟩) l.length l.length) 4 1 l.length (((l.take k).map (canF less) ++ List.replicate (l.length - k) false).map Value.bool),.obj w.heap.size 27 #[.slice a l.length c]]) ?_ ?_
 ·exact⟨_,0,Nat.zero_le _,rfl,rfl,HO2.out⟩
 clear HO2 hg1 hg2;rintro X z n vs wr hX - ⟨k,hk,rfl,rfl,hO⟩;simp[litL,lk];have g1:=hO.swap.obj.cell (i:=0) rfl;have g2:=hO.swap.obj.lt;by_cases hlt:k<l.length
 ·obtain⟨b,off,rfl,h4⟩:=h3 (by intro h;simp[h] at hlt);obtain⟨-,ve,s2,ea,ec,rfl,g4,g5,g6⟩:=h4 k hlt;have s2w:=Mem.av hO.inn s2;have s2l:=Mem.ak hO.inn s2;have htk:(l.take (k+1)).map (canF less)=(l.take k).map (canF less) ++ [canF less l[k]]:=by
   rw[List.take_succ_eq_append_getElem hlt,List.map_append];rfl
  have hrp:List.replicate (l.length - k) false=false::List.replicate (l.length - (k+1)) false:=by
   rw[show l.length - k=(l.length - (k+1))+1 by omega];rfl
  have hAl:((l.take k).map (canF less)).length=k:=by simp;omega
  have hcf:canF less l[k]=(l[k]).edges.any fun e=>less.getD e.to.toNat false:=rfl;have hlh:=fV (hwf l[k] (List.getElem_mem hlt));rw[hrp] at hO;have Htk:=zh (zi htk hcf);generalize (l[k]).edges=es at *
  have HO:=zh hO;unfold maxLen at g5;generalize hAA:(l.take k).map (canF less)=AA at *
  clear htk hrp hcf hAA h4 hO;go_wp2;refine ay [1,2,5,15,16,6,24,25,26] (fun n vs w2=>∃(j:Nat),j≤es.length∧n=es.length - j∧vs=[.slice ba less.length bc,.pointer (some ⟨w.heap.size,0,none⟩),.slice (some ⟨B,0,none⟩) l.length l.length,.int .i64 l.length,.int .i64 k,.int .i64 k,.slice ea es.length ec,.int .i64 es.length,.int .i64 j] ∧
   Own w m w2 m [.row (.slice (some ⟨B,0,none⟩) l.length l.length) 4 1 l.length ((AA ++ ((es.take j).any fun e=>less.getD e.to.toNat false)::List.replicate (l.length - (k+1)) false).map Value.bool),.obj w.heap.size 27 #[.slice (some ⟨b,off,none⟩) l.length c]]) ?_ ?_
  ·exact⟨_,0,Nat.zero_le _,rfl,rfl,HO.out⟩
  clear HO;rintro Y z2 n vs w2 hY - ⟨j,hj,rfl,rfl,hO⟩;simp[litL,lk];by_cases hlt2:j<es.length
  ·obtain⟨eb,eo,rfl,g7⟩:=g6 (by intro h;simp[h] at hlt2);obtain⟨e1,e2,e3,e4,e5,-⟩:=g7 j hlt2;have e1w:=Mem.av hO.inn e1;have e2w:=Mem.av hO.inn e2;have e3w:=Mem.av hO.inn e3;have el:=Mem.ak hO.inn e1;have hte:=hlh es[j] (List.getElem_mem hlt2);have han:((es.take (j+1)).any fun e=>less.getD e.to.toNat false)=(((es.take j).any fun e=>less.getD e.to.toNat false) || less.getD (es[j]).to.toNat false):=by
    rw[List.take_succ_eq_append_getElem hlt2,List.any_append];simp
   obtain⟨t,ht⟩:=Int.eq_ofNat_of_zero_le hte.2.1;have htl:t<less.length:=zo;rw[ht,Int.toNat_natCast] at han;have hlg:less.getD t false=less[t]:=by simp[htl]
   rw[hlg] at han;obtain⟨bb,bo,rfl,b4⟩:=b3 (by intro h;simp[h] at htl);have hbt:=b4 t htl;have hbw:=Mem.av hO.inn hbt;have hbl:=Mem.ak hO.inn hbt;generalize less[t]=y at *
   rw[ht] at e3w;obtain⟨cur,hcur⟩:∃cur,((es.take j).any fun e=>less.getD e.to.toNat false)=cur:=⟨_,rfl⟩;rw[hcur] at hO han;have Han:=zh han;generalize es[j]=e at *
   have r1:=aX (j:=k) (u:=.bool cur) hO.row (by rw[List.getElem?_map,RB _ _ _ hAl];rfl);have r2:=dP hO.row k;have r3:=(World.ownsRow.lt hO.row _ rfl).2;have hO2:=(hO.setRow k (.bool (cur || y))).al' (.cells #[.int .u8 e.lo,.int .u8 e.hi,.int .i64 t] 106);rw[← List.map_set,set_mid _ _ _ _ hAl] at hO2;have HO2:=zh hO2;clear han hcur hO2 hO hlg ht hbt
   cases cur with
   | true=>
    go_wp2;refine hY.out _ _ _ zo rfl ⟨j+1,zo,rfl,rfl,?_⟩;rw[Han.out]
    exact HO2.out
   | false=>
    go_wp2;refine hY.out _ _ _ zo rfl ⟨j+1,zo,rfl,rfl,?_⟩;rw[Han.out];exact HO2.out
  ·obtain rfl:j=es.length:=zo;rw[List.take_length] at hO;have HO:=zh hO;clear hO;go_wp2;refine hX.out _ _ _ zo rfl ⟨k+1,zo,rfl,rfl,?_⟩;rw[Htk.out.1,Htk.out.2,List.append_assoc];exact HO.out
 ·obtain rfl:k=l.length:=zo;rw[List.take_length,Nat.sub_self,List.replicate_zero,List.append_nil] at hO;have hbs:=jS (l:=l.map (canF less)) (m:=m) (by rw[List.length_map];exact hO.row);have hfin:=j5 hO.bD.done hbs;have Hk:=zh (zi hO.below hfin);clear hO hbs hfin;go_wp2;exact hR.out _ _ ⟨_,rfl,Hk.out.1,Hk.out.2⟩
end Cl
