/- Lemmas for the proofs of chapter 11. -/
import Derived.Test.YtdgjplfcpcphoaaGreatDoorProg
import Derived.BigQuiet
import Derived.Deep.Cut
import Derived.Deep.QuietTactic
import Derived.Laws.StructEq
import Derived.Lib.AppendStr
import Derived.Lib.Builder
import Derived.Lib.Hide
import Derived.Lib.ItoaLen
import Derived.Maps.OwnOps
import Derived.Maps.OwnSet
import Derived.OrdersHeld
import Derived.Outline
import Derived.StillTailTactics
import Derived.StringKeys
import Derived.WalkKit
import Derived.WalkLawsBesides
import Derived.WalkSpells
import Derived.Deep.RegionHeld
import Derived.Laws.CopyRow
import Derived.Laws.Tables
import Derived.BigFrame
import Derived.RangeFuncNested
import Derived.RangeFuncBound
import Derived.RangeFuncCalls
import Derived.RangeFuncLeaves
import Derived.OwnWalkIn
import Derived.TacticsInMore
import Derived.LoopNIn
import Derived.LoopIn
import Derived.Shelf.Strings.Builder1
import Derived.Shelf.Small.Wraps
import Derived.Shelf.LaysM
import Derived.Shelf.Strconv.Itoa3
import Derived.Shelf.Strconv.AppendIntPublic10
import Derived.Shelf.Spec.SlicesGrow
import Derived.Shelf.SlSortCmp.WholeK
import Derived.RegionTactic
import Derived.ChangeAlike
import Derived.Laws.BytesArg
import Derived.Laws.EntriesVeiled
import Derived.Laws.CopyOwn
import Derived.Test.YtdgjplfcpcphoaaGreatDoorZz
import Derived.Test.YtdgjplfcpcphoaaGreatDoorPkX14
import Derived.Test.YtdgjplfcpcphoaaGreatDoorPkX3
import Derived.Test.YtdgjplfcpcphoaaGreatDoorPkX4
import Derived.Test.YtdgjplfcpcphoaaGreatDoorPkX5
import Derived.Test.YtdgjplfcpcphoaaGreatDoorPkX1
import Derived.Test.YtdgjplfcpcphoaaGreatDoorPkX2
import Derived.Test.YtdgjplfcpcphoaaGreatDoorPkX10
import Derived.Test.YtdgjplfcpcphoaaGreatDoorPkX13
import Derived.Test.YtdgjplfcpcphoaaGreatDoorPkX18
import Derived.Test.YtdgjplfcpcphoaaGreatDoorPkX9
import Derived.Test.YtdgjplfcpcphoaaGreatDoorPkX16
import Derived.Test.YtdgjplfcpcphoaaGreatDoorPkX6
import Derived.Test.YtdgjplfcpcphoaaGreatDoorPkX15
import Derived.Test.YtdgjplfcpcphoaaGreatDoorPkX7
import Derived.Test.YtdgjplfcpcphoaaGreatDoorPkX11
import Derived.Test.YtdgjplfcpcphoaaGreatDoorPkX8
import Derived.Test.YtdgjplfcpcphoaaGreatDoorPkX12
import Derived.Test.YtdgjplfcpcphoaaGreatDoorPkX17
import Derived.Test.YtdgjplfcpcphoaaGreatDoorPkX19
import Derived.Test.YtdgjplfcpcphoaaGreatDoorPkX20
import Derived.Test.YtdgjplfcpcphoaaGreatDoorPkX21
set_option maxRecDepth 100000
set_option maxHeartbeats 16000000
namespace Cl
open Go Go.RowKit Go.Proofs
theorem qZ (v v':Value) (l l':List Spn) (m:Mem) (w:World) (hm:m.inn w) (hl:dx m v l) (hl':dx m v' l') :
 Calls Tryz.prog 88 #[v,v'] w fun e w'=>e=.returned (.bool (tf (l=l')))∧Below w.heap.size w w':=by
 obtain⟨a,c,rfl,h1,h2,h3⟩:=hl;obtain⟨a',c',rfl,h1',h2',h3'⟩:=hl';unfold maxLen at h2 h2';refine ay fun R hR=>?_;by_cases hlen:l.length=l'.length
 case neg=>
  have hne:((l.length:Int) != (l'.length:Int))=true:=by simp;omega
  go_enter Tryz.func88,Tryz.ntmps88
  go_wp2;exact hR.out _ _ ⟨aJ (by rw[az (fun h=>hlen (by rw[h]))]),Below.refl _ _⟩
 have hne:((l.length:Int) != (l'.length:Int))=false:=by simp[hlen]
 have Hlen:=zh hlen;clear hlen
 go_enter Tryz.func88,Tryz.ntmps88
 go_wp2;refine au [0,1,5] (fun n vs wr=>∃k:Nat,k≤l.length∧n=l.length - k∧vs=[.slice a l.length c,.slice a' l'.length c',.int .i64 k]∧(l=l'↔l.drop k=l'.drop k)∧Below w.heap.size w wr) ?_ ?_
 ·exact⟨_,0,Nat.zero_le _,rfl,rfl,Iff.rfl,Below.refl _ _⟩
 rintro X z n vs wr hX - ⟨k,hk,rfl,rfl,hrel,hbel⟩;have Hrel:=zh hrel;clear hrel;simp[litL,lk];have hmr:=Mem.bE hm hbel;by_cases hlt:k<l.length
 case neg=>
  have HL:=zh (show l=l' from Hrel.out.2 (by rw[List.drop_eq_nil_of_le zo,List.drop_eq_nil_of_le (by rw[← Hlen.out];omega)]));go_wp2;exact hR.out _ _ ⟨aJ (by rw[aI HL.out]),hbel⟩
 have hlt':k<l'.length:=by rw[← Hlen.out];exact hlt
 obtain⟨b,off,rfl,h4⟩:=h3 (by intro h;simp[h] at hlt);obtain⟨b',off',rfl,h4'⟩:=h3' (by intro h;simp[h] at hlt');obtain⟨g1,g2,-⟩:=h4 k hlt;obtain⟨g1',g2',-⟩:=h4' k hlt';have c1:=Mem.aj hmr g1;have c2:=Mem.aj hmr g2;have c1':=Mem.aj hmr g1';have c2':=Mem.aj hmr g2';have HD:=zh (dM l l' k hlt hlt');have hq:=fun w=>tq (l[k].1) (l[k].2) (l'[k].1) (l'[k].2) w;have hgd:=uD;have He:=zh (KO l[k] l'[k]);go_wp2
 go_quiet (fail)
 go_wp2
 ·refine hR.out _ _ ⟨aJ ?_,below_drewN hbel _⟩;rw[az];intro h;have h5:=He.out.1 (HD.out.1 (Hrel.out.1 h)).1;have h6:=‹(!l[k].1==l'[k].1)=true∨_›;simp[h5] at h6
 ·refine hX.out _ _ _ zo rfl ⟨k+1,zo,rfl,rfl,?_,below_drewN hbel _⟩;have h6:=‹(!l[k].1==l'[k].1)=false∧_›;simp at h6;exact Hrel.out.trans (HD.out.trans ⟨fun h=>h.2,fun h=>⟨He.out.2 zo,h⟩⟩)
def Ij (n:Nat):Prop:=∀(v v':Vl) (s s':Sl) (m:Mem) (w:World),m.inn w→VAt m n s v→VAt m n s' v'→vcnt n v≤1048576→vcnt n v'≤1048576→Calls Tryz.prog 58 #[v.val s,v'.val s'] w fun e w'=>e=.returned (.bool (tf (v=v')))∧Below w.heap.size w w'
theorem wB {n:Nat} (H:Ij n) (d d':Vd) (x y x' y':Sl) (m:Mem) (w:World) (hm:m.inn w) (h1:VAt m n x d.1) (h2:VAt m n y d.2) (h1':VAt m n x' d'.1) (h2':VAt m n y' d'.2) (kd:dG n d) (kd':dG n d') :
 Calls Tryz.prog 31 #[bz d x y,bz d' x' y'] w fun e w'=>e=.returned (.bool (tf (d=d')))∧Below w.heap.size w w':=by
 have hO:=((Own.start hm).al (dcs d x y).toArray 35).al (dcs d' x' y').toArray 35;simp only[bB] at hO;have HC:=zh (H d.1 d'.1 x x' m _ hO.inn h1 h1' kd.1 kd'.1);have HF:=zh (fun w' (h:m.inn w')=>H d.2 d'.2 y y' m w' h h2 h2' kd.2 kd'.2);have hN:(nine d.1 x).length=9:=rfl;have hN2:(nine d.2 y).length=9:=rfl;have hN':(nine d'.1 x').length=9:=rfl;have hN2':(nine d'.2 y').length=9:=rfl;have HD:=zh (zi (fun j u=>@lK d x y j u) (fun j u=>@lJ d x y j u));have HD':=zh (zi (fun j u=>@lK d' x' y' j u) (fun j u=>@lJ d' x' y' j u));have HE:=zh (show d=d'↔d.1=d'.1∧d.2=d'.2 from Prod.ext_iff);have HO:=zh hO;unfold Vl.val bz at *
 generalize nine d.1 x=N at *
 generalize nine d.2 y=N2 at *
 generalize dcs d x y=D at *
 generalize nine d'.1 x'=N' at *
 generalize nine d'.2 y'=N2' at *
 generalize dcs d' x' y'=D' at *
 clear hO h1 h2 h1' h2';have q0:=HO.out.swap.obj.sub (o:=0) (cs:=N) fun j u hj=>by simpa using HD.out.1 j u hj
 have q0':=HO.out.obj.sub (o:=0) (cs:=N') fun j u hj=>by simpa using HD'.out.1 j u hj
 refine ay fun R hR=>?_
 go_enter Tryz.func31,Tryz.ntmps31
 by_cases e1:d.1=d'.1
 case neg=>
  have hh:=HC.out;rw[az e1] at hh;have HC:=zh hh;have HX:=zh (show ¬ d=d' from fun h=>e1 (HE.out.1 h).1);clear hh HF e1 HE
  go_wp2_with (first | refine ae tyV rfl (.tmp 5) rfl rfl N hN q0 ?_ | refine ae tyV rfl (.tmp 7) rfl rfl N' hN' q0' ?_ | (go_at_call 58;refine HC.out.mono ?_;rintro e w1 ⟨rfl,hb1⟩))
  exact hR.out _ _ ⟨aJ (by rw[az HX.out]),(HO.out.move hb1).below⟩
 have hh:=HC.out;rw[aI e1] at hh;have HC1:=zh hh;have HX:=zh (aZ (show d.2=d'.2↔d=d' from ⟨fun h=>HE.out.2 ⟨e1,h⟩,fun h=>(HE.out.1 h).2⟩));clear hh HC e1 HE;generalize tf (d.2=d'.2)=ts at *
 go_wp2_with (first
  | refine ae tyV rfl (.tmp 5) rfl rfl N hN q0 ?_
  | refine ae tyV rfl (.tmp 7) rfl rfl N' hN' q0' ?_
  | refine ae tyV rfl (.tmp 11) rfl rfl N2 hN2 q1 ?_
  | refine ae tyV rfl (.tmp 13) rfl rfl N2' hN2' q1' ?_
  | (go_at_call 58;first
   | (refine (HF.out _ hO1.inn).mono ?_;rintro e w2 ⟨rfl,hb2⟩)
   | (refine HC1.out.mono ?_;rintro e w1 ⟨rfl,hb1⟩;have hO1:=HO.out.move hb1;have q1:=hO1.swap.obj.sub (o:=9) (cs:=N2) (fun j u hj=>by simpa using HD.out.2 j u hj);have q1':=hO1.obj.sub (o:=9) (cs:=N2') (fun j u hj=>by simpa using HD'.out.2 j u hj))))
 exact hR.out _ _ ⟨aJ (by rw[HX.out]),(hO1.move hb2).below⟩
theorem jv {n:Nat} (H:Ij n) (v v':Value) (l l':List Vd) (m:Mem) (w:World) (hm:m.inn w) (hl:bP (VAt m n) m v l) (hl':bP (VAt m n) m v' l') (kl:∀d∈l,dG n d) (kl':∀d∈l',dG n d) :
 Calls Tryz.prog 90 #[v,v'] w fun e w'=>e=.returned (.bool (tf (l=l')))∧Below w.heap.size w w':=by
 obtain⟨a,c,rfl,h1,h2,h3⟩:=hl;obtain⟨a',c',rfl,h1',h2',h3'⟩:=hl';unfold maxLen at h2 h2';have HK:=zh (zi h3 h3');have HKL:=zh (zi kl kl');have HO:=zh (Own.start hm);clear h3 h3' kl kl';refine ay fun R hR=>?_;by_cases hlen:l.length=l'.length
 case neg=>
  have hne:((l.length:Int) != (l'.length:Int))=true:=by simp;omega
  have HL:=zh (show ¬ l=l' from fun h=>hlen (by rw[h]));clear hlen
  go_enter Tryz.func90,Tryz.ntmps90
  go_wp2;exact hR.out _ _ ⟨aJ (by rw[az HL.out]),HO.out.below⟩
 have hne:((l.length:Int) != (l'.length:Int))=false:=by simp[hlen]
 have Hlen:=zh hlen;clear hlen
 go_enter Tryz.func90,Tryz.ntmps90
 go_wp2;refine au [0,1,5] (fun n vs wr=>∃k:Nat,k≤l.length∧n=l.length - k∧vs=[.slice a l.length c,.slice a' l'.length c',.int .i64 k]∧(l=l'↔l.drop k=l'.drop k)∧Own w m wr m []) ?_ ?_
 ·exact⟨_,0,Nat.zero_le _,rfl,rfl,Iff.rfl,HO.out⟩
 clear HO;rintro X z q vs wr hX - ⟨k,hk,rfl,rfl,hrel,hO⟩;have Hrel:=zh hrel;clear hrel;simp[litL,lk];by_cases hlt:k<l.length
 case neg=>
  have HL:=zh (show l=l' from Hrel.out.2 (by rw[List.drop_eq_nil_of_le zo,List.drop_eq_nil_of_le (by rw[← Hlen.out];omega)]));have HB:=zh hO.below;clear hO hX;go_wp2;exact hR.out _ _ ⟨aJ (by rw[aI HL.out]),HB.out⟩
 have hlt':k<l'.length:=by rw[← Hlen.out];exact hlt
 obtain⟨b,off,rfl,h4⟩:=HK.out.1 (by intro h;simp[h] at hlt);obtain⟨b',off',rfl,h4'⟩:=HK.out.2 (by intro h;simp[h] at hlt');obtain⟨x,y,hc1,k1,k2⟩:=(h4 k hlt).cells;obtain⟨x',y',hc2,k1',k2'⟩:=(h4' k hlt').cells;have HD:=zh (dM l l' k hlt hlt');have HC:=zh (fun w' (h:m.inn w')=>wB H l[k] l'[k] x y x' y' m w' h k1 k2 k1' k2' (HKL.out.1 _ (List.getElem_mem hlt)) (HKL.out.2 _ (List.getElem_mem hlt')));have HC1:=zh (fun (w':World) (h:m.inn w') j u hj=>Mem.aj h (hc1 j u hj));have HC2:=zh (fun (w':World) (h:m.inn w') j u hj=>Mem.aj h (hc2 j u hj));have hx1:=hc1 0 _ rfl;have hx2:=hc2 0 _ rfl;have hn1:(dcs l[k] x y).length=18:=rfl;have hn2:(dcs l'[k] x' y').length=18:=rfl;have HO:=zh hO;unfold bz at HC;generalize dcs l[k] x y=D at *
 generalize dcs l'[k] x' y'=D' at *
 clear hO h4 h4' hc1 hc2 k1 k2 k1' k2';generalize l[k]=dd at *
 generalize l'[k]=dd' at *
 go_upto_region 6 with (fail)
 refine aN [0,1,5,26] (fun vs w'=>vs=[.slice (some ⟨b,off,none⟩) l.length c,.slice (some ⟨b',off',none⟩) l'.length c',.int .i64 k,.bool (!tf (dd=dd'))]∧Own w m w' m []) ?_ ?_
 ·intro Y hY;refine aX 10 6 (fun j=>[Fact.is (·=.slice (some ⟨b,off,none⟩) l.length c),Fact.is (·=.int .i64 (k:Int)),Fact.is (·=.pointer (some ⟨b,off+k*18,none⟩)),Fact.is (·=.agg D.toArray),Fact.is (·=.slice (some ⟨b',off',none⟩) l'.length c'),Fact.is (·=.int .i64 (k:Int)),Fact.is (·=.pointer (some ⟨b',off'+k*18,none⟩)),Fact.is (·=.agg D'.toArray),Fact.is (·=.bool (tf (dd=dd'))),Fact.is (·=.bool (!tf (dd=dd')))].getD j Fact.any) zk zk ?_ ?_
  ·intro i hi o win a wr ho RA;have HO2:=HO.out.dr.move RA.below;have y1:=Mem.av HO2.inn hx1;have y2:=Mem.av HO2.inn hx2;rcases (show i=0∨i=1∨i=2∨i=3∨i=4∨i=5∨i=6∨i=7∨i=8∨i=9 by omega) with rfl | rfl | rfl | rfl | rfl | rfl | rfl | rfl | rfl | rfl
   ·have e0:=RA.k 0;cases ho;exact wv rfl rfl rfl
   ·have e5:=RA.k 5;cases ho;exact wv rfl rfl rfl
   ·have e17:a.tmps.getD 17 undef=_:=RA.d 0 rfl;have e18:a.tmps.getD 18 undef=_:=RA.d 1 rfl;cases ho;refine aO rfl rfl (aK (by go_simp;try (intro hh;omega)) ⟨_,rfl,Below.refl _ _,rfl⟩)
   ·have e19:a.tmps.getD 19 undef=_:=RA.d 2 rfl;cases ho;refine aO rfl rfl (aK (tyD.exec (b:=b) (off:=off+k*18) rfl zg hn1 (HC1.out _ HO2.inn)) ⟨_,rfl,Below.refl _ _,rfl⟩)
   ·have e1:=RA.k 1;cases ho;exact wv rfl rfl rfl
   ·have e5:=RA.k 5;cases ho;exact wv rfl rfl rfl
   ·have e21:a.tmps.getD 21 undef=_:=RA.d 4 rfl;have e22:a.tmps.getD 22 undef=_:=RA.d 5 rfl;cases ho;refine aO rfl rfl (aK (by go_simp;try (intro hh;omega)) ⟨_,rfl,Below.refl _ _,rfl⟩)
   ·have e23:a.tmps.getD 23 undef=_:=RA.d 6 rfl;cases ho;refine aO rfl rfl (aK (tyD.exec (b:=b') (off:=off'+k*18) rfl zg hn2 (HC2.out _ HO2.inn)) ⟨_,rfl,Below.refl _ _,rfl⟩)
   ·have e20:a.tmps.getD 20 undef=_:=RA.d 3 rfl;have e24:a.tmps.getD 24 undef=_:=RA.d 7 rfl;cases ho;refine we rfl rfl (HC.out _ HO2.inn) ?_;rintro e w' ⟨rfl,hb⟩;exact⟨_,rfl,_,rfl,hb,rfl⟩
   ·have e25:a.tmps.getD 25 undef=_:=RA.d 8 rfl;cases ho;exact wv rfl rfl rfl
  ·intro win a wr E;have e0:=E.keep 0 zk;have e1:=E.keep 1 zk;have e5:=E.keep 5 zk;have e26:a.tmps.getD 26 undef=.bool (!tf (dd=dd')):=E.fact 9 _ zo rfl;have hZ:=HO.out.dr.move E.below;obtain⟨t1,d⟩:=a;obtain rfl:d=[]:=E.defers;refine di zk (hY.out _ _ E.size ⟨?_,hZ⟩) _;simp only[List.map_cons,List.map_nil,e0,e1,e5,e26]
   rfl
 clear HO HC HC1 HC2 hx1 hx2;rintro z2 vs w2 - ⟨rfl,hO⟩;simp[litL,lk];have HO:=zh hO;clear hO;by_cases he:dd=dd'
 ·have HX2:=zh (Hrel.out.trans (HD.out.trans ⟨fun h=>h.2,fun h=>⟨he,h⟩⟩));rw[aI he];clear Hrel HD he;go_wp2;exact hX.out _ _ _ zo rfl ⟨k+1,zo,rfl,rfl,HX2.out,HO.out⟩
 ·have HX2:=zh (show ¬ l=l' from fun h=>he (HD.out.1 (Hrel.out.1 h)).1);rw[az he];clear Hrel HD he hX;go_wp2;exact hR.out _ _ ⟨aJ (by rw[az HX2.out]),HO.out.below⟩
theorem Ew {α β:Type} (f:α→β) (l l':List α) (k:Nat) (h:k<l.length) (h':k<l'.length):(l.map f).drop k=(l'.map f).drop k↔f l[k]=f l'[k]∧(l.map f).drop (k+1)=(l'.map f).drop (k+1):=by
 have:=dM (l.map f) (l'.map f) k (by simpa using h) (by simpa using h');rw[List.getElem_map,List.getElem_map] at this;exact this
theorem ES {α β:Type} (f:α→β) {l l':List α} {k:Nat} (h:l.length≤k) (h':l'.length≤k):(l.map f).drop k=(l'.map f).drop k:=by
 rw[List.drop_eq_nil_of_le (by simpa using h),List.drop_eq_nil_of_le (by simpa using h')]
theorem rM {n:Nat} (H:Ij n) (c c':St) (u u2 v v2:Value) (m:Mem) (w:World) (hm:m.inn w) (h1:gI (VAt m n) m u c.1) (h2:fV (VAt m n) m u2 c.2) (h1':gI (VAt m n) m v c'.1) (h2':fV (VAt m n) m v2 c'.2) (kd:∀d∈bH c,dG n d) (kd':∀d∈bH c',dG n d) (hl:c.1.length+c.2.length≤1048576) (hl':c'.1.length+c'.2.length≤1048576) :
 Calls Tryz.prog 91 #[.agg #[u,u2],.agg #[v,v2]] w fun e w'=>e=.returned (.bool (tf (c=c')))∧Below w.heap.size w w':=by
 have hO:=((Own.start hm).al #[u,u2] 45).al #[v,v2] 45;simp only[bB] at hO;have HV:=zh (fun w' (h:m.inn w')=>ik u u2 c m n w' h h1 h2 hl);have HV':=zh (fun w' (h:m.inn w')=>ik v v2 c' m n w' h h1' h2' hl');have HE:=zh (IV c c');have HKC:=zh (zi kd kd');have HO:=zh hO;obtain⟨a1,b1,rfl,p1,q1,k1⟩:=h1;obtain⟨a2,b2,rfl,p2,q2,k2⟩:=h2;obtain⟨a3,b3,rfl,p3,q3,k3⟩:=h1';obtain⟨a4,b4,rfl,p4,q4,k4⟩:=h2';unfold maxLen at q1 q2 q3 q4;have HK:=zh (zi k1 (zi k2 (zi k3 k4)));have g0:=hO.swap.obj.cell (i:=0) rfl;have g1:=hO.swap.obj.cell (i:=1) rfl;have g0':=hO.obj.cell (i:=0) rfl;have g1':=hO.obj.cell (i:=1) rfl;have gl:=hO.swap.obj.lt;have gl':=hO.obj.lt;clear hO k1 k2 k3 k4 kd kd';refine ay fun R hR=>?_
 go_enter Tryz.func91,Tryz.ntmps91
 by_cases e1:c.1.length=c'.1.length
 case neg=>
  have hne:((c.1.length:Int) != (c'.1.length:Int))=true:=by simp;omega
  have HX:=zh (show ¬ c=c' from fun h=>e1 (HE.out.1 h).1);clear e1 hl hl';go_wp2;exact hR.out _ _ ⟨aJ (by rw[az HX.out]),HO.out.below⟩
 have hne:((c.1.length:Int) != (c'.1.length:Int))=false:=by simp[e1]
 have HL1:=zh e1;clear e1;by_cases e2:c.2.length=c'.2.length
 case neg=>
  have hne2:((c.2.length:Int) != (c'.2.length:Int))=true:=by simp;omega
  have HX:=zh (show ¬ c=c' from fun h=>e2 (HE.out.1 h).2.1);clear e2 hl hl';go_wp2;exact hR.out _ _ ⟨aJ (by rw[az HX.out]),HO.out.below⟩
 have hne2:((c.2.length:Int) != (c'.2.length:Int))=false:=by simp[e2]
 have HL2:=zh e2;have HX:=zh (show c=c'↔c.1.map (·.1)=c'.1.map (·.1)∧c.2.map (·.1)=c'.2.map (·.1)∧bH c=bH c' from HE.out.trans ⟨fun h=>h.2.2,fun h=>⟨HL1.out,e2,h⟩⟩);clear e2 HE hl hl';go_wp2;refine au [2,3,5] (fun q vs wr=>∃(i:Nat),i≤c.1.length∧q=c.1.length - i∧vs=[.pointer (some ⟨w.heap.size,0,none⟩),.pointer (some ⟨w.heap.size+1,0,none⟩),.int .i64 (i:Int)]∧(c=c'↔(c.1.map (·.1)).drop i=(c'.1.map (·.1)).drop i∧c.2.map (·.1)=c'.2.map (·.1)∧bH c=bH c') ∧
  Own w m wr m [.obj (w.heap.size+1) 45 #[.slice a3 c'.1.length b3,.slice a4 c'.2.length b4],.obj w.heap.size 45 #[.slice a1 c.1.length b1,.slice a2 c.2.length b2]]) ?_ ?_
 ·exact⟨_,0,Nat.zero_le _,rfl,rfl,HX.out,HO.out⟩
 clear HO HX g0 g1 g0' g1' gl gl' hne hne2;rintro X z q vs wr hX - ⟨i,hi,rfl,rfl,hE,hO⟩;simp[litL,lk];have HE:=zh hE;clear hE;have g0:=hO.swap.obj.cell (i:=0) rfl;have g0':=hO.obj.cell (i:=0) rfl;have gl:=hO.swap.obj.lt;have gl':=hO.obj.lt;by_cases hlt:i<c.1.length
 ·have hlt':i<c'.1.length:=by rw[← HL1.out];exact hlt
  obtain⟨b,off,rfl,h4⟩:=HK.out.1 (by intro h;simp[h] at hlt);obtain⟨b',off',rfl,h4'⟩:=HK.out.2.2.1 (by intro h;simp[h] at hlt');have x0:=Mem.aj hO.inn (h4 i hlt).s;have x1:=Mem.aj hO.inn (h4 i hlt).p;have xl:=Mem.av hO.inn (h4 i hlt).s;have x0':=Mem.aj hO.inn (h4' i hlt').s;have x1':=Mem.aj hO.inn (h4' i hlt').p;have xl':=Mem.av hO.inn (h4' i hlt').s;have HMS:=zh (Ew (fun f:Fd=>f.1) c.1 c'.1 i hlt hlt');have HPE:=zh (show c.1[i].1=c'.1[i].1↔c.1[i].1.1=c'.1[i].1.1∧c.1[i].1.2=c'.1[i].1.2 from Prod.ext_iff);have HO:=zh hO;clear hO h4 h4';generalize c.1[i].1.1=la at *
  generalize c.1[i].1.2=pa at *
  generalize c'.1[i].1.1=lb at *
  generalize c'.1[i].1.2=pb at *
  by_cases e1:la=lb
  case neg=>
   have hd:(la.toList==lb.toList)=false:=pY e1;have hd2:(la.toList != lb.toList)=true:=by simp[bne,hd]
   have HX:=zh (show ¬ c=c' from fun h=>e1 (HPE.out.1 (HMS.out.1 (HE.out.1 h).1).1).1);clear e1 HPE HMS HE hX;go_wp2
   go_quiet (fail)
   go_wp2;exact hR.out _ _ ⟨aJ (by rw[az HX.out]),(HO.out.drN _).below⟩
  have hd:(la.toList==lb.toList)=true:=pX e1;have hd2:(la.toList != lb.toList)=false:=by simp[bne,hd]
  by_cases e2:pa=pb
  case neg=>
   have hp:(pa != pb)=true:=bne_iff_ne.2 e2;have hp2:(pa==pb)=false:=beq_eq_false_iff_ne.2 e2;have HX:=zh (show ¬ c=c' from fun h=>e2 (HPE.out.1 (HMS.out.1 (HE.out.1 h).1).1).2);clear e1 e2 HPE HMS HE hX;go_wp2
   go_quiet (fail)
   go_wp2;exact hR.out _ _ ⟨aJ (by rw[az HX.out]),(HO.out.drN _).below⟩
  have HX:=zh (HE.out.trans (and_congr_left fun _=>HMS.out.trans ⟨fun h=>h.2,fun h=>⟨HPE.out.2 ⟨e1,e2⟩,h⟩⟩));subst e2;clear e1 HPE HMS HE;go_wp2
  go_quiet (fail)
  go_wp2;exact hX.out _ _ _ zo rfl ⟨i+1,zo,rfl,rfl,HX.out,HO.out.drN _⟩
 obtain rfl:i=c.1.length:=zo;have HX:=zh (show c=c'↔c.2.map (·.1)=c'.2.map (·.1)∧bH c=bH c' from HE.out.trans ⟨fun h=>h.2,fun h=>⟨ES _ (Nat.le_refl _) (by rw[HL1.out];omega),h⟩⟩);have HO:=zh hO;clear hO hX HE;go_wp2;refine au [2,3,6] (fun q vs wr=>∃(i:Nat),i≤c.2.length∧q=c.2.length - i∧vs=[.pointer (some ⟨w.heap.size,0,none⟩),.pointer (some ⟨w.heap.size+1,0,none⟩),.int .i64 (i:Int)]∧(c=c'↔(c.2.map (·.1)).drop i=(c'.2.map (·.1)).drop i∧bH c=bH c') ∧
  Own w m wr m [.obj (w.heap.size+1) 45 #[.slice a3 c'.1.length b3,.slice a4 c'.2.length b4],.obj w.heap.size 45 #[.slice a1 c.1.length b1,.slice a2 c.2.length b2]]) ?_ ?_
 ·exact⟨_,0,Nat.zero_le _,rfl,rfl,HX.out,HO.out⟩
 clear HO HX g0 g0' gl gl';rintro X z q vs wr hX - ⟨i,hi,rfl,rfl,hE,hO⟩;simp[litL,lk];have HE:=zh hE;clear hE;have g1:=hO.swap.obj.cell (i:=1) rfl;have gl:=hO.swap.obj.lt;by_cases hlt:i<c.2.length
 ·have hlt':i<c'.2.length:=by rw[← HL2.out];exact hlt
  obtain⟨b,off,rfl,h4⟩:=HK.out.2.1 (by intro h;simp[h] at hlt);obtain⟨b',off',rfl,h4'⟩:=HK.out.2.2.2 (by intro h;simp[h] at hlt');obtain⟨ka,hka,hsa⟩:=(h4 i hlt).s;obtain⟨kb,hkb,hsb⟩:=(h4' i hlt').s;have HMS:=zh (Ew (fun f:Kl=>f.1) c.2 c'.2 i hlt hlt');have HSM:=zh (fun w' (h:m.inn w')=>nS ka kb c.2[i].1 c'.2[i].1 m w' h hsa hsb);obtain⟨ta,tc,rfl,-⟩:=hsa;obtain⟨tb,td,rfl,-⟩:=hsb;have HO:=zh hO;clear hO h4 h4';generalize c.2[i].1=TA at *
  generalize c'.2[i].1=TB at *
  go_upto_region 11 with (fail)
  refine aN [2,3,6,78] (fun vs w'=>vs=[.pointer (some ⟨w.heap.size,0,none⟩),.pointer (some ⟨w.heap.size+1,0,none⟩),.int .i64 (i:Int),.bool (!tf (TA=TB))]∧Own w m w' m [.obj (w.heap.size+1) 45 #[.slice a3 c'.1.length b3,.slice (some ⟨b',off',none⟩) c'.2.length b4],.obj w.heap.size 45 #[.slice a1 c.1.length b1,.slice (some ⟨b,off,none⟩) c.2.length b2]]) ?_ ?_
  ·intro Y hY;refine aX 14 8 (fun j=>[Fact.is (·=.pointer (some ⟨w.heap.size,1,none⟩)),Fact.is (·=.slice (some ⟨b,off,none⟩) c.2.length b2),Fact.is (·=.int .i64 (i:Int)),Fact.is (·=.pointer (some ⟨b,off+i*19,none⟩)),Fact.is (·=.pointer (some ⟨b,off+i*19,none⟩)),Fact.is (·=.agg #[.slice ta TA.length tc]),Fact.is (·=.pointer (some ⟨w.heap.size+1,1,none⟩)),Fact.is (·=.slice (some ⟨b',off',none⟩) c'.2.length b4),Fact.is (·=.int .i64 (i:Int)),Fact.is (·=.pointer (some ⟨b',off'+i*19,none⟩)),Fact.is (·=.pointer (some ⟨b',off'+i*19,none⟩)),Fact.is (·=.agg #[.slice tb TB.length td]),Fact.is (·=.bool (tf (TA=TB))),Fact.is (·=.bool (!tf (TA=TB)))].getD j Fact.any) zk zk ?_ ?_
   ·intro i hi o win a wr ho RA;have HO2:=HO.out.dr.move RA.below;have y1:=HO2.swap.obj.cell (i:=1) rfl;have y2:=HO2.obj.cell (i:=1) rfl;have y3:=HO2.swap.obj.lt;have y4:=HO2.obj.lt;have y5:=Mem.aj HO2.inn hka;have y6:=Mem.aj HO2.inn hkb;have y7:=Mem.av HO2.inn hka;have y8:=Mem.av HO2.inn hkb;rcases (show i=0∨i=1∨i=2∨i=3∨i=4∨i=5∨i=6∨i=7∨i=8∨i=9∨i=10∨i=11∨i=12∨i=13 by omega) with rfl | rfl | rfl | rfl | rfl | rfl | rfl | rfl | rfl | rfl | rfl | rfl | rfl | rfl
    ·have e2:=RA.k 2;cases ho;exact wv rfl rfl rfl
    ·have e65:a.tmps.getD 65 undef=_:=RA.d 0 rfl;cases ho;exact wv rfl rfl rfl
    ·have e6:=RA.k 6;cases ho;exact wv rfl rfl rfl
    ·have e66:a.tmps.getD 66 undef=_:=RA.d 1 rfl;have e67:a.tmps.getD 67 undef=_:=RA.d 2 rfl;cases ho;refine aO rfl rfl (aK (by go_simp;try (intro hh;omega)) ⟨_,rfl,Below.refl _ _,rfl⟩)
    ·have e68:a.tmps.getD 68 undef=_:=RA.d 3 rfl;cases ho;exact wv rfl rfl rfl
    ·have e69:a.tmps.getD 69 undef=_:=RA.d 4 rfl;cases ho;exact wv rfl rfl rfl
    ·have e3:=RA.k 3;cases ho;exact wv rfl rfl rfl
    ·have e71:a.tmps.getD 71 undef=_:=RA.d 6 rfl;cases ho;exact wv rfl rfl rfl
    ·have e6:=RA.k 6;cases ho;exact wv rfl rfl rfl
    ·have e72:a.tmps.getD 72 undef=_:=RA.d 7 rfl;have e73:a.tmps.getD 73 undef=_:=RA.d 8 rfl;cases ho;refine aO rfl rfl (aK (by go_simp;try (intro hh;omega)) ⟨_,rfl,Below.refl _ _,rfl⟩)
    ·have e74:a.tmps.getD 74 undef=_:=RA.d 9 rfl;cases ho;exact wv rfl rfl rfl
    ·have e75:a.tmps.getD 75 undef=_:=RA.d 10 rfl;cases ho;exact wv rfl rfl rfl
    ·have e70:a.tmps.getD 70 undef=_:=RA.d 5 rfl;have e76:a.tmps.getD 76 undef=_:=RA.d 11 rfl;cases ho;refine we rfl rfl (HSM.out _ HO2.inn) ?_;rintro e w' ⟨rfl,hb⟩;exact⟨_,rfl,_,rfl,hb,rfl⟩
    ·have e77:a.tmps.getD 77 undef=_:=RA.d 12 rfl;cases ho;exact wv rfl rfl rfl
   ·intro win a wr E;have e2:=E.keep 2 zk;have e3:=E.keep 3 zk;have e6:=E.keep 6 zk;have e78:a.tmps.getD 78 undef=.bool (!tf (TA=TB)):=E.fact 13 _ zo rfl;have hZ:=HO.out.dr.move E.below;obtain⟨t1,d⟩:=a;obtain rfl:d=[]:=E.defers;refine di zk (hY.out _ _ E.size ⟨?_,hZ⟩) _;simp only[List.map_cons,List.map_nil,e2,e3,e6,e78]
    rfl
  clear HO HSM hka hkb;rintro z2 vs w2 - ⟨rfl,hO⟩;simp[litL,lk];have HO:=zh hO;clear hO;by_cases he:TA=TB
  ·have HX2:=zh (HE.out.trans (and_congr_left fun _=>HMS.out.trans ⟨fun h=>h.2,fun h=>⟨he,h⟩⟩));rw[aI he];clear HE HMS he;go_wp2;exact hX.out _ _ _ zo rfl ⟨i+1,zo,rfl,rfl,HX2.out,HO.out⟩
  ·have HX2:=zh (show ¬ c=c' from fun h=>he (HMS.out.1 (HE.out.1 h).1).1);rw[az he];clear HE HMS he hX;go_wp2;exact hR.out _ _ ⟨aJ (by rw[az HX2.out]),HO.out.below⟩
 obtain rfl:i=c.2.length:=zo;have HX:=zh (aZ (show c=c'↔bH c=bH c' from HE.out.trans ⟨fun h=>h.2,fun h=>⟨ES _ (Nat.le_refl _) (by rw[HL2.out];omega),h⟩⟩));have HO:=zh hO;clear hO hX HE;generalize tf (c=c')=FF at *
 generalize bH c=L1 at *
 generalize bH c'=L2 at *
 go_upto_region 13 with (fail)
 refine aN [4] (fun vs w'=>vs=[.bool FF]∧Own w m w' m []) ?_ ?_
 ·intro Y hY;refine aX 5 6 (fun j=>[Fact.is (·=.agg #[.slice a1 c.1.length b1,.slice a2 c.2.length b2]),Fact.mem m [1] (fun M u=>bP (VAt M n) M u L1),Fact.is (·=.agg #[.slice a3 c'.1.length b3,.slice a4 c'.2.length b4]),Fact.mem m [3] (fun M u=>bP (VAt M n) M u L2),Fact.is (·=.bool FF)].getD j Fact.any) zk zk ?_ ?_
  ·intro i hi o win a wr ho RA;have HO2:=HO.out.dr.move RA.below;have y1:=HO2.swap.obj.cell (i:=0) rfl;have y2:=HO2.swap.obj.cell (i:=1) rfl;have y3:=HO2.swap.obj.lt;have y5:=HO2.obj.cell (i:=0) rfl;have y6:=HO2.obj.cell (i:=1) rfl;have y7:=HO2.obj.lt;rcases (show i=0∨i=1∨i=2∨i=3∨i=4 by omega) with rfl | rfl | rfl | rfl | rfl
   ·have e2:=RA.k 2;cases ho;exact wv rfl rfl rfl
   ·have e79:a.tmps.getD 79 undef=_:=RA.d 0 rfl;cases ho;refine we rfl rfl (HV.out _ HO2.inn) ?_;rintro e w' ⟨r,rfl,hb,hr⟩;exact⟨_,rfl,_,rfl,hb,lC (R:=fun M u=>bP (VAt M n) M u L1) (fun k _ h=>bP.lF k h) HO2.inn hb hr⟩
   ·have e3:=RA.k 3;cases ho;exact wv rfl rfl rfl
   ·have e81:a.tmps.getD 81 undef=_:=RA.d 2 rfl;cases ho;refine we rfl rfl (HV'.out _ HO2.inn) ?_;rintro e w' ⟨r,rfl,hb,hr⟩;exact⟨_,rfl,_,rfl,hb,lC (R:=fun M u=>bP (VAt M n) M u L2) (fun k _ h=>bP.lF k h) HO2.inn hb hr⟩
   ·have e80:(Fact.mem m [1] (fun M u=>bP (VAt M n) M u L1)).holds (a.tmps.getD 80 undef) win wr:=RA.d 1 rfl;have e82:(Fact.mem m [3] (fun M u=>bP (VAt M n) M u L2)).holds (a.tmps.getD 82 undef) win wr:=RA.d 3 rfl;cases ho;have f1:bP (VAt (m.wins wr win [1]) n) (m.wins wr win [1]) _ L1:=e80;have f2:bP (VAt (m.wins wr win [3]) n) (m.wins wr win [3]) _ L2:=e82;have M1:=Mem.nK (m:=m) (es:=[1,3]) HO2.inn win (ds:=[1]) zS;have M2:=Mem.nK (m:=m) (es:=[1,3]) HO2.inn win (ds:=[3]) zS;refine we rfl rfl (jv H _ _ L1 L2 (m.wins wr win [1,3]) wr (Mem.jV HO2.inn win [1,3]) (f1.lF M1) (f2.lF M2) HKC.out.1 HKC.out.2) ?_;rintro e w' ⟨rfl,hb⟩;exact⟨_,rfl,_,rfl,hb,by rw[HX.out];rfl⟩
  ·intro win a wr E;have e83:a.tmps.getD 83 undef=.bool FF:=E.fact 4 _ zo rfl;have hZ:=HO.out.dr.move E.below;obtain⟨t1,dd⟩:=a;obtain rfl:dd=[]:=E.defers;refine jB 5 zk (aO rfl rfl (aK (by go_simp;first | done | exact⟨rfl,rfl⟩ | rfl) ?_));refine di zk (hY.out _ _ (by simpa using E.size) ⟨?_,hZ.tail.tail⟩) _;have hsz:t1.size=84:=E.size;simp[hsz] at e83;simp[hsz]
 clear HO;rintro z2 vs w2 - ⟨rfl,hO⟩;simp[litL,lk];have HB:=zh hO.below;clear hO;go_wp2;exact hR.out _ _ ⟨rfl,HB.out⟩
theorem vY {n:Nat} {v:Vl} {c:St} (h:Ht (n+1) v) (hv:vcnt (n+1) v≤1048576) (hc:c∈v.structs):c.1.length+c.2.length≤1048576:=by
 have h1:=ma h;have h2:(bH c).length≤(v.structs.flatMap bH).length:=by
  rw[List.length_flatMap];exact Ea (f:=fun c=>(bH c).length) hc
 have h3:v.kids.length=(v.lists.flatMap bT).length+(v.structs.flatMap bH).length:=by rw[Vl.kids,List.length_append]
 rw[bH,List.length_append,List.length_map,List.length_map] at h2;omega
theorem Ld {n:Nat} (H:Ij n):Ij (n+1):=fun v v' s s' m w hm hv hv' hct hct'=>by
 have hO:=((Own.start hm).al (nine v s).toArray 33).al (nine v' s').toArray 33;simp only[bB] at hO;have HCN:=zh (zi (fun d (hd:d∈v.kids)=>show dG n d by have:=jW (n:=n) hd;exact⟨zo,zo⟩) (fun d (hd:d∈v'.kids)=>show dG n d by have:=jW (n:=n) hd;exact⟨zo,zo⟩));have HSL:=zh (zi (fun c (hc:c∈v.structs)=>vY hv.ht hct hc) (fun c (hc:c∈v'.structs)=>vY hv'.ht hct' hc));have HI:=zh (fun w' (h:m.inn w')=>qZ _ _ v.s.i v'.s.i m w' h hv.sc.i hv'.sc.i);have HF:=zh (fun w' (h:m.inn w')=>qZ _ _ v.s.f v'.s.f m w' h hv.sc.f hv'.sc.f);have HT:=zh (fun w' (h:m.inn w')=>nS _ _ v.s.t v'.s.t m w' h hv.sc.t hv'.sc.t);have HE:=zh (zm v v');have HRS:=zh (RS.eq_iff v.s v'.s);have q0:=hO.swap.obj.sub (jZ v s);have q0':=hO.obj.sub (jZ v' s');have H0:(nine v s).toArray[0]?=some (.bool v.any):=rfl;have H7:(nine v s).toArray[7]?=some s.l:=rfl;have H8:(nine v s).toArray[8]?=some s.s:=rfl;have H0':(nine v' s').toArray[0]?=some (.bool v'.any):=rfl;have H7':(nine v' s').toArray[7]?=some s'.l:=rfl;have H8':(nine v' s').toArray[8]?=some s'.s:=rfl;have hv2:=hv.2;have hv2':=hv'.2;obtain⟨a1,b1,a2,b2,a3,b3,a4,b4,a5,b5,rfl,q1,q2,q3,q4,q5⟩:=hv.spell;obtain⟨⟨z1,y1,e1,-,-,k1⟩,⟨z2,y2,e2,-,-,k2⟩⟩:=hv2;simp only[Value.slice.injEq] at e1 e2;obtain⟨rfl,-,rfl⟩:=e1;obtain⟨rfl,-,rfl⟩:=e2;obtain⟨a1',b1',a2',b2',a3',b3',a4',b4',a5',b5',rfl,q1',q2',q3',q4',q5'⟩:=hv'.spell;obtain⟨⟨z1,y1,e1,-,-,k1'⟩,⟨z2,y2,e2,-,-,k2'⟩⟩:=hv2';simp only[Value.slice.injEq] at e1 e2;obtain⟨rfl,-,rfl⟩:=e1;obtain⟨rfl,-,rfl⟩:=e2;simp only at H7 H8 H7' H8';have HH:=zh (zi H7 (zi H8 (zi H7' (zi H8' (zi H0 H0')))));unfold maxLen at q4 q5 q4' q5';have HK:=zh (zi k1 (zi k2 (zi k1' k2')));have HO:=zh hO;obtain⟨P1,hP1⟩:∃P1:Prop,P1=(v.any=v'.any∧v.s=v'.s):=⟨_,rfl⟩;have HP1:=zh hP1;clear hO hP1 k1 k2 k1' k2' hv hv' hct hct' q1 q2 q3 q1' q2' q3' H7 H8 H7' H8' H0 H0';unfold Vl.val at *
 generalize nine v _=N at *
 generalize nine v' _=N' at *
 refine ay fun R hR=>?_
 go_enter Tryz.func58,Tryz.ntmps58
 have c1:World.cell? _ ⟨w.heap.size,1,none⟩=some (.bool v.s.nul):=q0 0 _ rfl;have c2:World.cell? _ ⟨w.heap.size,2,none⟩=some (.bool v.s.fal):=q0 1 _ rfl;have c3:World.cell? _ ⟨w.heap.size,3,none⟩=some (.bool v.s.tru):=q0 2 _ rfl;have c4:World.cell? _ ⟨w.heap.size,4,none⟩=some (.slice a1 v.s.i.length b1):=q0 3 _ rfl;have c5:World.cell? _ ⟨w.heap.size,5,none⟩=some (.slice a2 v.s.f.length b2):=q0 4 _ rfl;have c6:World.cell? _ ⟨w.heap.size,6,none⟩=some (.slice a3 v.s.t.length b3):=q0 5 _ rfl;have d1:World.cell? _ ⟨w.heap.size+1,1,none⟩=some (.bool v'.s.nul):=q0' 0 _ rfl;have d2:World.cell? _ ⟨w.heap.size+1,2,none⟩=some (.bool v'.s.fal):=q0' 1 _ rfl;have d3:World.cell? _ ⟨w.heap.size+1,3,none⟩=some (.bool v'.s.tru):=q0' 2 _ rfl;have d4:World.cell? _ ⟨w.heap.size+1,4,none⟩=some (.slice a1' v'.s.i.length b1'):=q0' 3 _ rfl;have d5:World.cell? _ ⟨w.heap.size+1,5,none⟩=some (.slice a2' v'.s.f.length b2'):=q0' 4 _ rfl;have d6:World.cell? _ ⟨w.heap.size+1,6,none⟩=some (.slice a3' v'.s.t.length b3'):=q0' 5 _ rfl;have hl:=HO.out.obj.lt;have hl0:=HO.out.swap.obj.lt;clear q0 q0'
 go_upto_region 1 with (fail)
 generalize hW:(w.alloc (.cells N.toArray 33)).alloc (.cells N'.toArray 33)=w0 at *
 clear hW;refine aN [2,3,5,6] (fun vs w'=>∃p q,vs=[.pointer (some ⟨w.heap.size,0,none⟩),.pointer (some ⟨w.heap.size+1,0,none⟩),.pointer (some ⟨p,0,none⟩),.pointer (some ⟨q,0,none⟩)] ∧
  Own w m w' m [.obj p 29 #[.bool v.s.nul,.bool v.s.fal,.bool v.s.tru,.slice a1 v.s.i.length b1,.slice a2 v.s.f.length b2,.slice a3 v.s.t.length b3],.obj q 29 #[.bool v'.s.nul,.bool v'.s.fal,.bool v'.s.tru,.slice a1' v'.s.i.length b1',.slice a2' v'.s.f.length b2',.slice a3' v'.s.t.length b3'],.obj (w.heap.size+1) 33 N'.toArray,.obj w.heap.size 33 N.toArray]) ?_ ?_
 ·intro Y hY;clear HK HCN HSL HE HRS HP1 HI HF HT
  go_region
  ·exact hY.out _ _ rfl ⟨w0.heap.size,w0.heap.size+1,rfl,by simpa only[bB] using ((HO.out.al #[.bool v.s.nul,.bool v.s.fal,.bool v.s.tru,.slice a1 v.s.i.length b1,.slice a2 v.s.f.length b2,.slice a3 v.s.t.length b3] 29).al #[.bool v'.s.nul,.bool v'.s.fal,.bool v'.s.tru,.slice a1' v'.s.i.length b1',.slice a2' v'.s.f.length b2',.slice a3' v'.s.t.length b3'] 29).dr.swap⟩
  ·exact hY.out _ _ rfl ⟨w0.heap.size+1,w0.heap.size,rfl,by simpa only[bB] using ((HO.out.al #[.bool v'.s.nul,.bool v'.s.fal,.bool v'.s.tru,.slice a1' v'.s.i.length b1',.slice a2' v'.s.f.length b2',.slice a3' v'.s.t.length b3'] 29).al #[.bool v.s.nul,.bool v.s.fal,.bool v.s.tru,.slice a1 v.s.i.length b1,.slice a2 v.s.f.length b2,.slice a3 v.s.t.length b3] 29).dr⟩
 clear HO c1 c2 c3 c4 c5 c6 d1 d2 d3 d4 d5 d6 hl hl0;rintro z vs w1 - ⟨p,q,rfl,hO⟩;simp[litL,lk];have HO:=zh hO;clear hO;have HB:=zh (zi (fun (w':World) (L:List Item) (h:Own w m w' m L) (hi:Item.obj w.heap.size 33 N.toArray∈L)=>(h.p8 hi)) (fun (w':World) (L:List Item) (h:Own w m w' m L) (hi:Item.obj (w.heap.size+1) 33 N'.toArray∈L)=>(h.p8 hi)))
 go_upto_region 2 with (fail)
 refine aN [2,3,66] (fun vs w'=>vs=[.pointer (some ⟨w.heap.size,0,none⟩),.pointer (some ⟨w.heap.size+1,0,none⟩),.bool (!tf P1)]∧Own w m w' m [.obj (w.heap.size+1) 33 N'.toArray,.obj w.heap.size 33 N.toArray]) ?_ ?_
 ·intro X hX;have o0:=(HB.out.1 _ _ HO.out zS).cell HH.out.2.2.2.2.1;have o1:=(HB.out.2 _ _ HO.out zS).cell HH.out.2.2.2.2.2;have ol:=(HB.out.1 _ _ HO.out zS).lt;have ol':=(HB.out.2 _ _ HO.out zS).lt;have pl:=HO.out.obj.lt;have ql:=HO.out.swap.obj.lt;have x0:=HO.out.obj.cell (i:=0) rfl;have x1:=HO.out.obj.cell (i:=1) rfl;have x2:=HO.out.obj.cell (i:=2) rfl;have x3:=HO.out.obj.cell (i:=3) rfl;have y0:=HO.out.swap.obj.cell (i:=0) rfl;have y1:=HO.out.swap.obj.cell (i:=1) rfl;have y2:=HO.out.swap.obj.cell (i:=2) rfl;have y3:=HO.out.swap.obj.cell (i:=3) rfl;have HPE:=zh (show P1↔v.any=v'.any∧v.s.nul=v'.s.nul∧v.s.fal=v'.s.fal∧v.s.tru=v'.s.tru∧(v.s.i=v'.s.i∧v.s.f=v'.s.f)∧v.s.t=v'.s.t by rw[HP1.out];exact and_congr_right fun _=>HRS.out);clear HK HCN HSL HE HRS HP1 HB;by_cases h0:v.any=v'.any
  case neg=>
   have HP:=zh (show tf P1=false from az fun h=>h0 (HPE.out.1 h).1);have hd0:(v.any==v'.any)=false:=by simp[h0]
   have hc0:(v.any != v'.any)=true:=by simp[h0]
   clear h0 HPE;go_wp2;exact hX.out _ _ rfl ⟨by rw[HP.out] <;> rfl,HO.out.tail.tail⟩
  have hd0:(v.any==v'.any)=true:=by simp[h0]
  have hc0:(v.any != v'.any)=false:=by simp[h0]
  by_cases h1:v.s.nul=v'.s.nul
  case neg=>
   have HP:=zh (show tf P1=false from az fun h=>h1 (HPE.out.1 h).2.1);have hd1:(v.s.nul==v'.s.nul)=false:=by simp[h1]
   have hc1:(v.s.nul != v'.s.nul)=true:=by simp[h1]
   clear h1 HPE h0;go_wp2;exact hX.out _ _ rfl ⟨by rw[HP.out] <;> rfl,HO.out.tail.tail⟩
  have hd1:(v.s.nul==v'.s.nul)=true:=by simp[h1]
  have hc1:(v.s.nul != v'.s.nul)=false:=by simp[h1]
  by_cases h2:v.s.fal=v'.s.fal
  case neg=>
   have HP:=zh (show tf P1=false from az fun h=>h2 (HPE.out.1 h).2.2.1);have hd2:(v.s.fal==v'.s.fal)=false:=by simp[h2]
   have hc2:(v.s.fal != v'.s.fal)=true:=by simp[h2]
   clear h2 HPE h0 h1;go_wp2;exact hX.out _ _ rfl ⟨by rw[HP.out] <;> rfl,HO.out.tail.tail⟩
  have hd2:(v.s.fal==v'.s.fal)=true:=by simp[h2]
  have hc2:(v.s.fal != v'.s.fal)=false:=by simp[h2]
  by_cases h3:v.s.tru=v'.s.tru
  case neg=>
   have HP:=zh (show tf P1=false from az fun h=>h3 (HPE.out.1 h).2.2.2.1);have hd3:(v.s.tru==v'.s.tru)=false:=by simp[h3]
   have hc3:(v.s.tru != v'.s.tru)=true:=by simp[h3]
   clear h3 HPE h0 h1 h2;go_wp2;exact hX.out _ _ rfl ⟨by rw[HP.out] <;> rfl,HO.out.tail.tail⟩
  have hd3:(v.s.tru==v'.s.tru)=true:=by simp[h3]
  have hc3:(v.s.tru != v'.s.tru)=false:=by simp[h3]
  have HPF:=zh (show P1↔(v.s.i=v'.s.i∧v.s.f=v'.s.f)∧v.s.t=v'.s.t from HPE.out.trans ⟨fun h=>h.2.2.2.2,fun h=>⟨h0,h1,h2,h3,h⟩⟩);clear HPE h0 h1 h2 h3;generalize v.any=va at *
  generalize v'.any=vb at *
  generalize v.s.nul=na at *
  generalize v'.s.nul=nb at *
  generalize v.s.fal=fa at *
  generalize v'.s.fal=fb at *
  generalize v.s.tru=ta at *
  generalize v'.s.tru=tb at *
  have hh:=HI.out _ HO.out.inn
  go_wp2_with fail
  refine hh.mono ?_;rintro e w2 ⟨rfl,hb2⟩;have hO2:=HO.out.move hb2;clear hh hb2 HO HI x0 x1 x2 x3 y0 y1 y2 y3 o0 o1 ol ol' pl ql;by_cases h4:v.s.i=v'.s.i
  case neg=>
   have HP:=zh (show tf P1=false from az fun h=>h4 (HPF.out.1 h).1.1);rw[az h4];have HO2:=zh hO2;clear h4 HPF hO2;go_wp2;exact hX.out _ _ rfl ⟨by rw[HP.out] <;> rfl,HO2.out.tail.tail⟩
  rw[aI h4];have x4:=hO2.obj.cell (i:=4) rfl;have y4:=hO2.swap.obj.cell (i:=4) rfl;have pl:=hO2.obj.lt;have ql:=hO2.swap.obj.lt;have hh:=HF.out _ hO2.inn;have HO2:=zh hO2;clear hO2
  go_wp2_with fail
  refine hh.mono ?_;rintro e w3 ⟨rfl,hb3⟩;have hO3:=HO2.out.move hb3;clear hh hb3 HO2 HF x4 y4 pl ql;by_cases h5:v.s.f=v'.s.f
  case neg=>
   have HP:=zh (show tf P1=false from az fun h=>h5 (HPF.out.1 h).1.2);rw[az h5];have HO3:=zh hO3;clear h4 h5 HPF hO3;go_wp2;exact hX.out _ _ rfl ⟨by rw[HP.out] <;> rfl,HO3.out.tail.tail⟩
  rw[aI h5];have x5:=hO3.obj.cell (i:=5) rfl;have y5:=hO3.swap.obj.cell (i:=5) rfl;have pl:=hO3.obj.lt;have ql:=hO3.swap.obj.lt;have hh:=HT.out _ hO3.inn;have HP:=zh (aZ (show P1↔v.s.t=v'.s.t from HPF.out.trans ⟨fun h=>h.2,fun h=>⟨⟨h4,h5⟩,h⟩⟩));have HO3:=zh hO3;clear hO3 h4 h5 HPF
  go_wp2_with fail
  refine hh.mono ?_;rintro e w4 ⟨rfl,hb4⟩;have HO4:=zh (HO3.out.move hb4);clear hh hb4 HO3 HT x5 y5 pl ql;generalize tf (v.s.t=v'.s.t)=ts at *
  go_wp2;exact hX.out _ _ rfl ⟨by rw[HP.out] <;> rfl,HO4.out.tail.tail⟩
 clear HO HI HF HT HRS;rintro z vs w2 - ⟨rfl,hO⟩;simp[litL,lk];have HO:=zh hO;by_cases hp1:P1
 case neg=>
  have HX:=zh (show ¬ v=v' from fun h=>hp1 (by rw[HP1.out,h];exact⟨rfl,rfl⟩));rw[az hp1];have HB:=zh hO.below;clear hO HO HE hp1 HP1;go_wp2;exact hR.out _ _ ⟨aJ (by rw[az HX.out]),HB.out⟩
 have hp:=HP1.out ▸ hp1;rw[aI hp1];have HX:=zh (show v=v'↔v.lists=v'.lists∧v.structs=v'.structs from HE.out.trans ⟨fun h=>h.2.2,fun h=>⟨hp.1,hp.2,h⟩⟩);clear hO HE hp1 HP1 hp;have c7:=HO.out.swap.obj.cell HH.out.1;have c8:=HO.out.swap.obj.cell HH.out.2.1;have c7':=HO.out.obj.cell HH.out.2.2.1;have c8':=HO.out.obj.cell HH.out.2.2.2.1;have g1:=HO.out.swap.obj.lt;have g2:=HO.out.obj.lt;by_cases e1:v.lists.length=v'.lists.length
 case neg=>
  have hne:((v.lists.length:Int) != (v'.lists.length:Int))=true:=by simp;omega
  have HN:=zh (show ¬ v=v' from fun h=>e1 (by rw[h]));clear e1 HX HK HCN HSL;go_wp2;exact hR.out _ _ ⟨aJ (by rw[az HN.out]),HO.out.below⟩
 have hne:((v.lists.length:Int) != (v'.lists.length:Int))=false:=by simp[e1]
 have HL1:=zh e1;clear e1;by_cases e2:v.structs.length=v'.structs.length
 case neg=>
  have hne2:((v.structs.length:Int) != (v'.structs.length:Int))=true:=by simp;omega
  have HN:=zh (show ¬ v=v' from fun h=>e2 (by rw[h]));clear e2 HX HK HCN HSL;go_wp2;exact hR.out _ _ ⟨aJ (by rw[az HN.out]),HO.out.below⟩
 have hne2:((v.structs.length:Int) != (v'.structs.length:Int))=false:=by simp[e2]
 have HL2:=zh e2;clear e2;go_wp2;refine au [2,3,7] (fun q vs wr=>∃(i:Nat),i≤v.lists.length∧q=v.lists.length - i∧vs=[.pointer (some ⟨w.heap.size,0,none⟩),.pointer (some ⟨w.heap.size+1,0,none⟩),.int .i64 (i:Int)]∧(v=v'↔v.lists.drop i=v'.lists.drop i∧v.structs=v'.structs) ∧
  Own w m wr m [.obj (w.heap.size+1) 33 N'.toArray,.obj w.heap.size 33 N.toArray]) ?_ ?_
 ·exact⟨_,0,Nat.zero_le _,rfl,rfl,HX.out,HO.out⟩
 clear HO HX c7 c8 c7' c8' g1 g2 hne hne2;rintro X z q vs wr hX - ⟨i,hi,rfl,rfl,hE,hO⟩;simp[litL,lk];have HE:=zh hE;clear hE;have c7:=hO.swap.obj.cell HH.out.1;have g1:=hO.swap.obj.lt;by_cases hlt:i<v.lists.length
 ·have hlt':i<v'.lists.length:=by rw[← HL1.out];exact hlt
  obtain⟨b,off,rfl,h4⟩:=HK.out.1 (by intro h;simp[h] at hlt);obtain⟨b',off',rfl,h4'⟩:=HK.out.2.2.1 (by intro h;simp[h] at hlt');obtain⟨u,u2,s1,s2,s3,s4⟩:=h4 i hlt;obtain⟨u',u2',s1',s2',s3',s4'⟩:=h4' i hlt';have HLS:=zh (dM v.lists v'.lists i hlt hlt');have HKA:=zh (fun d (hd:d∈bT v.lists[i])=>HCN.out.1 d (jK (List.getElem_mem hlt) hd));have HKB:=zh (fun d (hd:d∈bT v'.lists[i])=>HCN.out.2 d (jK (List.getElem_mem hlt') hd));have HLC:=zh (show v.lists[i]=v'.lists[i]↔v.lists[i].1=v'.lists[i].1∧v.lists[i].2=v'.lists[i].2 from Prod.ext_iff);generalize v.lists[i]=cl at *
  generalize v'.lists[i]=cl' at *
  have HS1:=zh (fun (w':World) (h:m.inn w')=>jv H u u' cl.1 cl'.1 m w' h s3 s3' (fun d hd=>HKA.out d (List.mem_append_left _ hd)) (fun d hd=>HKB.out d (List.mem_append_left _ hd)));have HS2:=zh (fun (w':World) (h:m.inn w')=>jv H u2 u2' cl.2 cl'.2 m w' h s4 s4' (fun d hd=>HKA.out d (List.mem_append_right _ hd)) (fun d hd=>HKB.out d (List.mem_append_right _ hd)));obtain⟨ua,uc,rfl,-⟩:=s3;obtain⟨ua2,uc2,rfl,-⟩:=s4;obtain⟨ub,ud,rfl,-⟩:=s3';obtain⟨ub2,ud2,rfl,-⟩:=s4';have HO:=zh hO;clear hO h4 h4'
  go_upto_region 9 with (fail)
  clear c7 g1;refine aN [2,3,7,119] (fun vs w'=>vs=[.pointer (some ⟨w.heap.size,0,none⟩),.pointer (some ⟨w.heap.size+1,0,none⟩),.int .i64 (i:Int),.bool (!tf (cl=cl'))]∧Own w m w' m [.obj (w.heap.size+1) 33 N'.toArray,.obj w.heap.size 33 N.toArray]) ?_ ?_
  ·intro Y hY;by_cases e1:cl.1=cl'.1
   ·
    refine aX 30 6 (fun j=>[Fact.is (·=.pointer (some ⟨w.heap.size,7,none⟩)),Fact.is (·=.slice (some ⟨b,off,none⟩) v.lists.length b4),Fact.is (·=.int .i64 (i:Int)),Fact.is (·=.pointer (some ⟨b,off+i*2,none⟩)),Fact.is (·=.pointer (some ⟨b,off+i*2,none⟩)),Fact.is (·=.slice ua cl.1.length uc),Fact.is (·=.pointer (some ⟨w.heap.size+1,7,none⟩)),Fact.is (·=.slice (some ⟨b',off',none⟩) v'.lists.length b4'),Fact.is (·=.int .i64 (i:Int)),Fact.is (·=.pointer (some ⟨b',off'+i*2,none⟩)),Fact.is (·=.pointer (some ⟨b',off'+i*2,none⟩)),Fact.is (·=.slice ub cl'.1.length ud),Fact.is (·=.bool true),Fact.is (·=.bool false),Fact.is (·=.bool false),Fact.is (·=.pointer (some ⟨w.heap.size,7,none⟩)),Fact.is (·=.slice (some ⟨b,off,none⟩) v.lists.length b4),Fact.is (·=.int .i64 (i:Int)),Fact.is (·=.pointer (some ⟨b,off+i*2,none⟩)),Fact.is (·=.pointer (some ⟨b,off+i*2+1,none⟩)),Fact.is (·=.slice ua2 cl.2.length uc2),Fact.is (·=.pointer (some ⟨w.heap.size+1,7,none⟩)),Fact.is (·=.slice (some ⟨b',off',none⟩) v'.lists.length b4'),Fact.is (·=.int .i64 (i:Int)),Fact.is (·=.pointer (some ⟨b',off'+i*2,none⟩)),Fact.is (·=.pointer (some ⟨b',off'+i*2+1,none⟩)),Fact.is (·=.slice ub2 cl'.2.length ud2),Fact.is (·=.bool (tf (cl.2=cl'.2))),Fact.is (·=.bool (!tf (cl.2=cl'.2))),Fact.is (·=.bool (!tf (cl.2=cl'.2)))].getD j Fact.any) zk zk ?_ ?_
    ·intro i hi o win a wr ho RA;have HO2:=HO.out.dr.move RA.below;have c7:=HO2.swap.obj.cell HH.out.1;have c7':=HO2.obj.cell HH.out.2.2.1;have g1:=HO2.swap.obj.lt;have g2:=HO2.obj.lt;have x1:=Mem.aj HO2.inn s1;have x2:=Mem.aj HO2.inn s2;have xl:=Mem.av HO2.inn s1;have x1':=Mem.aj HO2.inn s1';have x2':=Mem.aj HO2.inn s2';have xl':=Mem.av HO2.inn s1';rcases (show i=0∨i=1∨i=2∨i=3∨i=4∨i=5∨i=6∨i=7∨i=8∨i=9∨i=10∨i=11∨i=12∨i=13∨i=14∨i=15∨i=16∨i=17∨i=18∨i=19∨i=20∨i=21∨i=22∨i=23∨i=24∨i=25∨i=26∨i=27∨i=28∨i=29 by omega) with rfl | rfl | rfl | rfl | rfl | rfl | rfl | rfl | rfl | rfl | rfl | rfl | rfl | rfl | rfl | rfl | rfl | rfl | rfl | rfl | rfl | rfl | rfl | rfl | rfl | rfl | rfl | rfl | rfl | rfl
     ·have e2:=RA.k 2;cases ho;exact wv rfl rfl rfl
     ·have e90:a.tmps.getD 90 undef=_:=RA.d 0 rfl;cases ho;exact wv rfl rfl rfl
     ·have e7:=RA.k 7;cases ho;exact wv rfl rfl rfl
     ·have e91:a.tmps.getD 91 undef=_:=RA.d 1 rfl;have e92:a.tmps.getD 92 undef=_:=RA.d 2 rfl;cases ho;refine aO rfl rfl (aK (by go_simp;try (intro hh;omega)) ⟨_,rfl,Below.refl _ _,rfl⟩)
     ·have e93:a.tmps.getD 93 undef=_:=RA.d 3 rfl;cases ho;exact wv rfl rfl rfl
     ·have e94:a.tmps.getD 94 undef=_:=RA.d 4 rfl;cases ho;exact wv rfl rfl rfl
     ·have e3:=RA.k 3;cases ho;exact wv rfl rfl rfl
     ·have e96:a.tmps.getD 96 undef=_:=RA.d 6 rfl;cases ho;exact wv rfl rfl rfl
     ·have e7:=RA.k 7;cases ho;exact wv rfl rfl rfl
     ·have e97:a.tmps.getD 97 undef=_:=RA.d 7 rfl;have e98:a.tmps.getD 98 undef=_:=RA.d 8 rfl;cases ho;refine aO rfl rfl (aK (by go_simp;try (intro hh;omega)) ⟨_,rfl,Below.refl _ _,rfl⟩)
     ·have e99:a.tmps.getD 99 undef=_:=RA.d 9 rfl;cases ho;exact wv rfl rfl rfl
     ·have e100:a.tmps.getD 100 undef=_:=RA.d 10 rfl;cases ho;exact wv rfl rfl rfl
     ·have e95:a.tmps.getD 95 undef=_:=RA.d 5 rfl;have e101:a.tmps.getD 101 undef=_:=RA.d 11 rfl;cases ho;refine we rfl rfl (HS1.out _ HO2.inn) ?_;rintro e w' ⟨rfl,hb⟩;exact⟨_,rfl,_,rfl,hb,by rw[aI e1];rfl⟩
     ·have e102:a.tmps.getD 102 undef=_:=RA.d 12 rfl;cases ho;exact wv rfl rfl rfl
     ·have e103:a.tmps.getD 103 undef=_:=RA.d 13 rfl;cases ho;exact wv rfl rfl rfl
     ·have e2:=RA.k 2;have e104:a.tmps.getD 104 undef=_:=RA.d 14 rfl;cases ho;exact wy rfl rfl rfl e104 rfl
     ·have e105:a.tmps.getD 105 undef=_:=RA.d 15 rfl;have e104:a.tmps.getD 104 undef=_:=RA.d 14 rfl;cases ho;exact wy rfl rfl rfl e104 rfl
     ·have e7:=RA.k 7;have e104:a.tmps.getD 104 undef=_:=RA.d 14 rfl;cases ho;exact wy rfl rfl rfl e104 rfl
     ·have e106:a.tmps.getD 106 undef=_:=RA.d 16 rfl;have e107:a.tmps.getD 107 undef=_:=RA.d 17 rfl;have e104:a.tmps.getD 104 undef=_:=RA.d 14 rfl;cases ho;refine dn rfl (bQ rfl rfl e104) (aK (by go_simp;try (intro hh;omega)) ⟨_,rfl,Below.refl _ _,rfl⟩)
     ·have e108:a.tmps.getD 108 undef=_:=RA.d 18 rfl;have e104:a.tmps.getD 104 undef=_:=RA.d 14 rfl;cases ho;exact wy rfl rfl rfl e104 rfl
     ·have e109:a.tmps.getD 109 undef=_:=RA.d 19 rfl;have e104:a.tmps.getD 104 undef=_:=RA.d 14 rfl;cases ho;exact wy rfl rfl rfl e104 rfl
     ·have e3:=RA.k 3;have e104:a.tmps.getD 104 undef=_:=RA.d 14 rfl;cases ho;exact wy rfl rfl rfl e104 rfl
     ·have e111:a.tmps.getD 111 undef=_:=RA.d 21 rfl;have e104:a.tmps.getD 104 undef=_:=RA.d 14 rfl;cases ho;exact wy rfl rfl rfl e104 rfl
     ·have e7:=RA.k 7;have e104:a.tmps.getD 104 undef=_:=RA.d 14 rfl;cases ho;exact wy rfl rfl rfl e104 rfl
     ·have e112:a.tmps.getD 112 undef=_:=RA.d 22 rfl;have e113:a.tmps.getD 113 undef=_:=RA.d 23 rfl;have e104:a.tmps.getD 104 undef=_:=RA.d 14 rfl;cases ho;refine dn rfl (bQ rfl rfl e104) (aK (by go_simp;try (intro hh;omega)) ⟨_,rfl,Below.refl _ _,rfl⟩)
     ·have e114:a.tmps.getD 114 undef=_:=RA.d 24 rfl;have e104:a.tmps.getD 104 undef=_:=RA.d 14 rfl;cases ho;exact wy rfl rfl rfl e104 rfl
     ·have e115:a.tmps.getD 115 undef=_:=RA.d 25 rfl;have e104:a.tmps.getD 104 undef=_:=RA.d 14 rfl;cases ho;exact wy rfl rfl rfl e104 rfl
     ·have e110:a.tmps.getD 110 undef=_:=RA.d 20 rfl;have e116:a.tmps.getD 116 undef=_:=RA.d 26 rfl;have e104:a.tmps.getD 104 undef=_:=RA.d 14 rfl;cases ho;refine we2 rfl rfl rfl e104 (HS2.out _ HO2.inn) ?_;rintro e w' ⟨rfl,hb⟩;exact⟨_,rfl,_,rfl,hb,rfl⟩
     ·have e117:a.tmps.getD 117 undef=_:=RA.d 27 rfl;have e104:a.tmps.getD 104 undef=_:=RA.d 14 rfl;cases ho;exact wy rfl rfl rfl e104 rfl
     ·have e104:a.tmps.getD 104 undef=_:=RA.d 14 rfl;have e118:a.tmps.getD 118 undef=_:=RA.d 28 rfl;cases ho;exact wv rfl rfl rfl
    ·intro win a wr E;have e2:=E.keep 2 zk;have e3:=E.keep 3 zk;have e7:=E.keep 7 zk;have e119:a.tmps.getD 119 undef=.bool (!tf (cl.2=cl'.2)):=E.fact 29 _ zo rfl;have hZ:=HO.out.dr.move E.below;obtain⟨t1,d⟩:=a;obtain rfl:d=[]:=E.defers;refine di zk (hY.out _ _ E.size ⟨?_,hZ⟩) _;rw[show tf (cl=cl')=tf (cl.2=cl'.2) from aZ (HLC.out.trans ⟨fun h=>h.2,fun h=>⟨e1,h⟩⟩)];simp only[List.map_cons,List.map_nil,e2,e3,e7,e119]
     rfl
   ·
    refine aX 30 6 (fun j=>[Fact.is (·=.pointer (some ⟨w.heap.size,7,none⟩)),Fact.is (·=.slice (some ⟨b,off,none⟩) v.lists.length b4),Fact.is (·=.int .i64 (i:Int)),Fact.is (·=.pointer (some ⟨b,off+i*2,none⟩)),Fact.is (·=.pointer (some ⟨b,off+i*2,none⟩)),Fact.is (·=.slice ua cl.1.length uc),Fact.is (·=.pointer (some ⟨w.heap.size+1,7,none⟩)),Fact.is (·=.slice (some ⟨b',off',none⟩) v'.lists.length b4'),Fact.is (·=.int .i64 (i:Int)),Fact.is (·=.pointer (some ⟨b',off'+i*2,none⟩)),Fact.is (·=.pointer (some ⟨b',off'+i*2,none⟩)),Fact.is (·=.slice ub cl'.1.length ud),Fact.is (·=.bool false),Fact.is (·=.bool true),Fact.is (·=.bool true),Fact.is (·=Go.undef),Fact.is (·=Go.undef),Fact.is (·=Go.undef),Fact.is (·=Go.undef),Fact.is (·=Go.undef),Fact.is (·=Go.undef),Fact.is (·=Go.undef),Fact.is (·=Go.undef),Fact.is (·=Go.undef),Fact.is (·=Go.undef),Fact.is (·=Go.undef),Fact.is (·=Go.undef),Fact.is (·=Go.undef),Fact.is (·=Go.undef),Fact.is (·=.bool true)].getD j Fact.any) zk zk ?_ ?_
    ·intro i hi o win a wr ho RA;have HO2:=HO.out.dr.move RA.below;have c7:=HO2.swap.obj.cell HH.out.1;have c7':=HO2.obj.cell HH.out.2.2.1;have g1:=HO2.swap.obj.lt;have g2:=HO2.obj.lt;have x1:=Mem.aj HO2.inn s1;have x2:=Mem.aj HO2.inn s2;have xl:=Mem.av HO2.inn s1;have x1':=Mem.aj HO2.inn s1';have x2':=Mem.aj HO2.inn s2';have xl':=Mem.av HO2.inn s1';rcases (show i=0∨i=1∨i=2∨i=3∨i=4∨i=5∨i=6∨i=7∨i=8∨i=9∨i=10∨i=11∨i=12∨i=13∨i=14∨i=15∨i=16∨i=17∨i=18∨i=19∨i=20∨i=21∨i=22∨i=23∨i=24∨i=25∨i=26∨i=27∨i=28∨i=29 by omega) with rfl | rfl | rfl | rfl | rfl | rfl | rfl | rfl | rfl | rfl | rfl | rfl | rfl | rfl | rfl | rfl | rfl | rfl | rfl | rfl | rfl | rfl | rfl | rfl | rfl | rfl | rfl | rfl | rfl | rfl
     ·have e2:=RA.k 2;cases ho;exact wv rfl rfl rfl
     ·have e90:a.tmps.getD 90 undef=_:=RA.d 0 rfl;cases ho;exact wv rfl rfl rfl
     ·have e7:=RA.k 7;cases ho;exact wv rfl rfl rfl
     ·have e91:a.tmps.getD 91 undef=_:=RA.d 1 rfl;have e92:a.tmps.getD 92 undef=_:=RA.d 2 rfl;cases ho;refine aO rfl rfl (aK (by go_simp;try (intro hh;omega)) ⟨_,rfl,Below.refl _ _,rfl⟩)
     ·have e93:a.tmps.getD 93 undef=_:=RA.d 3 rfl;cases ho;exact wv rfl rfl rfl
     ·have e94:a.tmps.getD 94 undef=_:=RA.d 4 rfl;cases ho;exact wv rfl rfl rfl
     ·have e3:=RA.k 3;cases ho;exact wv rfl rfl rfl
     ·have e96:a.tmps.getD 96 undef=_:=RA.d 6 rfl;cases ho;exact wv rfl rfl rfl
     ·have e7:=RA.k 7;cases ho;exact wv rfl rfl rfl
     ·have e97:a.tmps.getD 97 undef=_:=RA.d 7 rfl;have e98:a.tmps.getD 98 undef=_:=RA.d 8 rfl;cases ho;refine aO rfl rfl (aK (by go_simp;try (intro hh;omega)) ⟨_,rfl,Below.refl _ _,rfl⟩)
     ·have e99:a.tmps.getD 99 undef=_:=RA.d 9 rfl;cases ho;exact wv rfl rfl rfl
     ·have e100:a.tmps.getD 100 undef=_:=RA.d 10 rfl;cases ho;exact wv rfl rfl rfl
     ·have e95:a.tmps.getD 95 undef=_:=RA.d 5 rfl;have e101:a.tmps.getD 101 undef=_:=RA.d 11 rfl;cases ho;refine we rfl rfl (HS1.out _ HO2.inn) ?_;rintro e w' ⟨rfl,hb⟩;exact⟨_,rfl,_,rfl,hb,by rw[az e1];rfl⟩
     ·have e102:a.tmps.getD 102 undef=_:=RA.d 12 rfl;cases ho;exact wv rfl rfl rfl
     ·have e103:a.tmps.getD 103 undef=_:=RA.d 13 rfl;cases ho;exact wv rfl rfl rfl
     ·have e2:=RA.k 2;have e104:a.tmps.getD 104 undef=_:=RA.d 14 rfl;cases ho;exact wn rfl rfl rfl e104 rfl rfl
     ·have e105:a.tmps.getD 105 undef=_:=RA.d 15 rfl;have e104:a.tmps.getD 104 undef=_:=RA.d 14 rfl;cases ho;exact wn rfl rfl rfl e104 rfl rfl
     ·have e7:=RA.k 7;have e104:a.tmps.getD 104 undef=_:=RA.d 14 rfl;cases ho;exact wn rfl rfl rfl e104 rfl rfl
     ·have e106:a.tmps.getD 106 undef=_:=RA.d 16 rfl;have e107:a.tmps.getD 107 undef=_:=RA.d 17 rfl;have e104:a.tmps.getD 104 undef=_:=RA.d 14 rfl;cases ho;exact wn rfl rfl rfl e104 rfl rfl
     ·have e108:a.tmps.getD 108 undef=_:=RA.d 18 rfl;have e104:a.tmps.getD 104 undef=_:=RA.d 14 rfl;cases ho;exact wn rfl rfl rfl e104 rfl rfl
     ·have e109:a.tmps.getD 109 undef=_:=RA.d 19 rfl;have e104:a.tmps.getD 104 undef=_:=RA.d 14 rfl;cases ho;exact wn rfl rfl rfl e104 rfl rfl
     ·have e3:=RA.k 3;have e104:a.tmps.getD 104 undef=_:=RA.d 14 rfl;cases ho;exact wn rfl rfl rfl e104 rfl rfl
     ·have e111:a.tmps.getD 111 undef=_:=RA.d 21 rfl;have e104:a.tmps.getD 104 undef=_:=RA.d 14 rfl;cases ho;exact wn rfl rfl rfl e104 rfl rfl
     ·have e7:=RA.k 7;have e104:a.tmps.getD 104 undef=_:=RA.d 14 rfl;cases ho;exact wn rfl rfl rfl e104 rfl rfl
     ·have e112:a.tmps.getD 112 undef=_:=RA.d 22 rfl;have e113:a.tmps.getD 113 undef=_:=RA.d 23 rfl;have e104:a.tmps.getD 104 undef=_:=RA.d 14 rfl;cases ho;exact wn rfl rfl rfl e104 rfl rfl
     ·have e114:a.tmps.getD 114 undef=_:=RA.d 24 rfl;have e104:a.tmps.getD 104 undef=_:=RA.d 14 rfl;cases ho;exact wn rfl rfl rfl e104 rfl rfl
     ·have e115:a.tmps.getD 115 undef=_:=RA.d 25 rfl;have e104:a.tmps.getD 104 undef=_:=RA.d 14 rfl;cases ho;exact wn rfl rfl rfl e104 rfl rfl
     ·have e110:a.tmps.getD 110 undef=_:=RA.d 20 rfl;have e116:a.tmps.getD 116 undef=_:=RA.d 26 rfl;have e104:a.tmps.getD 104 undef=_:=RA.d 14 rfl;cases ho;exact wn rfl rfl rfl e104 rfl rfl
     ·have e117:a.tmps.getD 117 undef=_:=RA.d 27 rfl;have e104:a.tmps.getD 104 undef=_:=RA.d 14 rfl;cases ho;exact wn rfl rfl rfl e104 rfl rfl
     ·have e104:a.tmps.getD 104 undef=_:=RA.d 14 rfl;have e118:a.tmps.getD 118 undef=_:=RA.d 28 rfl;cases ho;exact wv rfl rfl rfl
    ·intro win a wr E;have e2:=E.keep 2 zk;have e3:=E.keep 3 zk;have e7:=E.keep 7 zk;have e119:a.tmps.getD 119 undef=.bool true:=E.fact 29 _ zo rfl;have hZ:=HO.out.dr.move E.below;obtain⟨t1,d⟩:=a;obtain rfl:d=[]:=E.defers;refine di zk (hY.out _ _ E.size ⟨?_,hZ⟩) _;rw[show tf (cl=cl')=false from az fun h=>e1 (HLC.out.1 h).1];simp only[List.map_cons,List.map_nil,e2,e3,e7,e119]
     rfl
  clear HO s1 s2 s1' s2' HS1 HS2 HKA HKB;rintro z2 vs w3 - ⟨rfl,hO⟩;simp[litL,lk];have HO:=zh hO;clear hO;by_cases hL:cl=cl'
  ·have HX2:=zh (HE.out.trans (and_congr_left fun _=>HLS.out.trans ⟨fun h=>h.2,fun h=>⟨hL,h⟩⟩));rw[aI hL];clear HE HLS hL HLC;go_wp2;exact hX.out _ _ _ zo rfl ⟨i+1,zo,rfl,rfl,HX2.out,HO.out⟩
  ·have HX2:=zh (show ¬ v=v' from fun h=>hL (HLS.out.1 (HE.out.1 h).1).1);rw[az hL];clear HE HLS hL hX HLC;go_wp2;exact hR.out _ _ ⟨aJ (by rw[az HX2.out]),HO.out.below⟩
 obtain rfl:i=v.lists.length:=zo;have HX:=zh (show v=v'↔v.structs=v'.structs from HE.out.trans ⟨fun h=>h.2,fun h=>⟨by rw[List.drop_eq_nil_of_le zo,List.drop_eq_nil_of_le (by rw[← HL1.out];omega)],h⟩⟩);have HO:=zh hO;clear hO hX HE;go_wp2;refine au [2,3,8] (fun q vs wr=>∃(i:Nat),i≤v.structs.length∧q=v.structs.length - i∧vs=[.pointer (some ⟨w.heap.size,0,none⟩),.pointer (some ⟨w.heap.size+1,0,none⟩),.int .i64 (i:Int)]∧(v=v'↔v.structs.drop i=v'.structs.drop i) ∧
  Own w m wr m [.obj (w.heap.size+1) 33 N'.toArray,.obj w.heap.size 33 N.toArray]) ?_ ?_
 ·exact⟨_,0,Nat.zero_le _,rfl,rfl,HX.out,HO.out⟩
 clear HO HX c7 g1;rintro X z q vs wr hX - ⟨i,hi,rfl,rfl,hE,hO⟩;simp[litL,lk];have HE:=zh hE;clear hE;have c8:=hO.swap.obj.cell HH.out.2.1;have g1:=hO.swap.obj.lt;by_cases hlt:i<v.structs.length
 case neg=>
  have HX:=zh (show v=v' from HE.out.2 (by rw[List.drop_eq_nil_of_le zo,List.drop_eq_nil_of_le (by rw[← HL2.out];omega)]));have HB:=zh hO.below;clear hO hX HE;go_wp2;exact hR.out _ _ ⟨aJ (by rw[aI HX.out]),HB.out⟩
 have hlt':i<v'.structs.length:=by rw[← HL2.out];exact hlt
 obtain⟨b,off,rfl,h4⟩:=HK.out.2.1 (by intro h;simp[h] at hlt);obtain⟨b',off',rfl,h4'⟩:=HK.out.2.2.2 (by intro h;simp[h] at hlt');obtain⟨u,u2,s1,s2,s3,s4⟩:=h4 i hlt;obtain⟨u',u2',s1',s2',s3',s4'⟩:=h4' i hlt';have HLS:=zh (dM v.structs v'.structs i hlt hlt');have HSX:=zh (fun (w':World) (h:m.inn w')=>rM H v.structs[i] v'.structs[i] u u2 u' u2' m w' h s3 s4 s3' s4' (fun d hd=>HCN.out.1 d (il (List.getElem_mem hlt) hd)) (fun d hd=>HCN.out.2 d (il (List.getElem_mem hlt') hd)) (HSL.out.1 _ (List.getElem_mem hlt)) (HSL.out.2 _ (List.getElem_mem hlt')));generalize v.structs[i]=cl at *
 generalize v'.structs[i]=cl' at *
 obtain⟨ua,uc,rfl,-⟩:=s3;obtain⟨ua2,uc2,rfl,-⟩:=s4;obtain⟨ub,ud,rfl,-⟩:=s3';obtain⟨ub2,ud2,rfl,-⟩:=s4';have HO:=zh hO;clear hO h4 h4'
 go_upto_region 14 with (fail)
 clear c8 g1;refine aN [2,3,8,138] (fun vs w'=>vs=[.pointer (some ⟨w.heap.size,0,none⟩),.pointer (some ⟨w.heap.size+1,0,none⟩),.int .i64 (i:Int),.bool (!tf (cl=cl'))]∧Own w m w' m [.obj (w.heap.size+1) 33 N'.toArray,.obj w.heap.size 33 N.toArray]) ?_ ?_
 ·intro Y hY;refine aX 12 8 (fun j=>[Fact.is (·=.pointer (some ⟨w.heap.size,8,none⟩)),Fact.is (·=.slice (some ⟨b,off,none⟩) v.structs.length b5),Fact.is (·=.int .i64 (i:Int)),Fact.is (·=.pointer (some ⟨b,off+i*2,none⟩)),Fact.is (·=.agg #[.slice ua cl.1.length uc,.slice ua2 cl.2.length uc2]),Fact.is (·=.pointer (some ⟨w.heap.size+1,8,none⟩)),Fact.is (·=.slice (some ⟨b',off',none⟩) v'.structs.length b5'),Fact.is (·=.int .i64 (i:Int)),Fact.is (·=.pointer (some ⟨b',off'+i*2,none⟩)),Fact.is (·=.agg #[.slice ub cl'.1.length ud,.slice ub2 cl'.2.length ud2]),Fact.is (·=.bool (tf (cl=cl'))),Fact.is (·=.bool (!tf (cl=cl')))].getD j Fact.any) zk zk ?_ ?_
  ·intro i hi o win a wr ho RA;have HO2:=HO.out.dr.move RA.below;have c8:=HO2.swap.obj.cell HH.out.2.1;have c8':=HO2.obj.cell HH.out.2.2.2.1;have g1:=HO2.swap.obj.lt;have g2:=HO2.obj.lt;have x1:=Mem.aj HO2.inn s1;have x2:=Mem.aj HO2.inn s2;have xl:=Mem.av HO2.inn s1;have x1':=Mem.aj HO2.inn s1';have x2':=Mem.aj HO2.inn s2';have xl':=Mem.av HO2.inn s1';rcases (show i=0∨i=1∨i=2∨i=3∨i=4∨i=5∨i=6∨i=7∨i=8∨i=9∨i=10∨i=11 by omega) with rfl | rfl | rfl | rfl | rfl | rfl | rfl | rfl | rfl | rfl | rfl | rfl
   ·have e2:=RA.k 2;cases ho;exact wv rfl rfl rfl
   ·have e127:a.tmps.getD 127 undef=_:=RA.d 0 rfl;cases ho;exact wv rfl rfl rfl
   ·have e8:=RA.k 8;cases ho;exact wv rfl rfl rfl
   ·have e128:a.tmps.getD 128 undef=_:=RA.d 1 rfl;have e129:a.tmps.getD 129 undef=_:=RA.d 2 rfl;cases ho;refine aO rfl rfl (aK (by go_simp;try (intro hh;omega)) ⟨_,rfl,Below.refl _ _,rfl⟩)
   ·have e130:a.tmps.getD 130 undef=_:=RA.d 3 rfl;cases ho;exact wv rfl rfl rfl
   ·have e3:=RA.k 3;cases ho;exact wv rfl rfl rfl
   ·have e132:a.tmps.getD 132 undef=_:=RA.d 5 rfl;cases ho;exact wv rfl rfl rfl
   ·have e8:=RA.k 8;cases ho;exact wv rfl rfl rfl
   ·have e133:a.tmps.getD 133 undef=_:=RA.d 6 rfl;have e134:a.tmps.getD 134 undef=_:=RA.d 7 rfl;cases ho;refine aO rfl rfl (aK (by go_simp;try (intro hh;omega)) ⟨_,rfl,Below.refl _ _,rfl⟩)
   ·have e135:a.tmps.getD 135 undef=_:=RA.d 8 rfl;cases ho;exact wv rfl rfl rfl
   ·have e131:a.tmps.getD 131 undef=_:=RA.d 4 rfl;have e136:a.tmps.getD 136 undef=_:=RA.d 9 rfl;cases ho;refine we rfl rfl (HSX.out _ HO2.inn) ?_;rintro e w' ⟨rfl,hb⟩;exact⟨_,rfl,_,rfl,hb,rfl⟩
   ·have e137:a.tmps.getD 137 undef=_:=RA.d 10 rfl;cases ho;exact wv rfl rfl rfl
  ·intro win a wr E;have e2:=E.keep 2 zk;have e3:=E.keep 3 zk;have e8:=E.keep 8 zk;have e138:a.tmps.getD 138 undef=.bool (!tf (cl=cl')):=E.fact 11 _ zo rfl;have hZ:=HO.out.dr.move E.below;obtain⟨t1,d⟩:=a;obtain rfl:d=[]:=E.defers;refine di zk (hY.out _ _ E.size ⟨?_,hZ⟩) _;simp only[List.map_cons,List.map_nil,e2,e3,e8,e138]
   rfl
 clear HO s1 s2 s1' s2' HSX;rintro z2 vs w3 - ⟨rfl,hO⟩;simp[litL,lk];have HO:=zh hO;clear hO;by_cases hL:cl=cl'
 ·have HX2:=zh (HE.out.trans (HLS.out.trans ⟨fun h=>h.2,fun h=>⟨hL,h⟩⟩));rw[aI hL];clear HE HLS hL;go_wp2;exact hX.out _ _ _ zo rfl ⟨i+1,zo,rfl,rfl,HX2.out,HO.out⟩
 ·have HX2:=zh (show ¬ v=v' from fun h=>hL (HLS.out.1 (HE.out.1 h)).1);rw[az hL];clear HE HLS hL hX;go_wp2;exact hR.out _ _ ⟨aJ (by rw[az HX2.out]),HO.out.below⟩
theorem kK:∀n,Ij n
 | 0=>fun _ _ _ _ _ _ _ h _ _ _=>h.elim
 | n+1=>Ld (kK n)
theorem fI {n:Nat} (d d':Vd) (x y x' y':Sl) (m:Mem) (w:World) (hm:m.inn w) (h1:VAt m n x d.1) (h2:VAt m n y d.2) (h1':VAt m n x' d'.1) (h2':VAt m n y' d'.2) (kd:dG n d) (kd':dG n d') :
 Calls Tryz.prog 31 #[bz d x y,bz d' x' y'] w fun e w'=>e=.returned (.bool (tf (d=d')))∧Below w.heap.size w w':=wB (kK n) d d' x y x' y' m w hm h1 h2 h1' h2' kd kd'
end Cl
