/- The law's walk. -/
import Derived.WalkKit
import Derived.Deep.QuietTactic
import Derived.Test.YtdgjplfcpcphoaaGreatDoorProg
import Derived.Deep.Slices
import Derived.Lib.SmallJoins
import Derived.ChangeMaps5
import Derived.Carry
import Derived.KernelRfl
import Derived.ChangeArms
import Derived.BigQuiet
import Derived.Deep.Cut
import Derived.Laws.StructEq
import Derived.Lib.AppendStr
import Derived.Lib.Builder
import Derived.Lib.Hide
import Derived.Lib.ItoaLen
import Derived.Maps.OwnOps
import Derived.Maps.OwnSet
import Derived.OrdersHeld
import Derived.Outline
import Derived.StillTailTactics
import Derived.StringKeys
import Derived.WalkLawsBesides
import Derived.WalkSpells
import Derived.Deep.RegionHeld
import Derived.Laws.CopyRow
import Derived.Laws.Tables
import Derived.BigFrame
import Derived.RangeFuncNested
import Derived.RangeFuncBound
import Derived.RangeFuncCalls
import Derived.RangeFuncLeaves
import Derived.OwnWalkIn
import Derived.TacticsInMore
import Derived.LoopNIn
import Derived.LoopIn
import Derived.Shelf.Strings.Builder1
import Derived.Shelf.Small.Wraps
import Derived.Shelf.LaysM
import Derived.Shelf.Strconv.Itoa3
import Derived.Shelf.Strconv.AppendIntPublic10
import Derived.Shelf.Spec.SlicesGrow
import Derived.Shelf.SlSortCmp.WholeK
import Derived.RegionTactic
import Derived.ChangeAlike
import Derived.Laws.BytesArg
import Derived.Laws.EntriesVeiled
import Derived.Laws.CopyOwn
import Derived.WalkMore
import Derived.Test.YtdgjplfcpcphoaaGreatDoorRows
import Derived.Test.YtdgjplfcpcphoaaGreatDoorCards
import Derived.Test.YtdgjplfcpcphoaaGreatDoorTie
import Derived.ProofKit
import Derived.OpenShut
import Derived.Deep.DeepHandedRow
import Derived.Lib.LaidTab
import Derived.Stop.LaidErr
import Derived.Test.YtdgjplfcpcphoaaGreatDoorZz
import Derived.Test.YtdgjplfcpcphoaaGreatDoorPkV3
import Derived.Test.YtdgjplfcpcphoaaGreatDoorPkV4
import Derived.Test.YtdgjplfcpcphoaaGreatDoorPkV1
import Derived.Test.YtdgjplfcpcphoaaGreatDoorPkV2
import Derived.Test.YtdgjplfcpcphoaaGreatDoorPkV24
import Derived.Test.YtdgjplfcpcphoaaGreatDoorPkV15
import Derived.Test.YtdgjplfcpcphoaaGreatDoorPkV5
import Derived.Test.YtdgjplfcpcphoaaGreatDoorPkV10
import Derived.Test.YtdgjplfcpcphoaaGreatDoorPkV14
import Derived.Test.YtdgjplfcpcphoaaGreatDoorPkV20
import Derived.Test.YtdgjplfcpcphoaaGreatDoorPkV27
import Derived.Test.YtdgjplfcpcphoaaGreatDoorPkV9
import Derived.Test.YtdgjplfcpcphoaaGreatDoorPkV17
import Derived.Test.YtdgjplfcpcphoaaGreatDoorPkV6
import Derived.Test.YtdgjplfcpcphoaaGreatDoorPkV16
import Derived.Test.YtdgjplfcpcphoaaGreatDoorPkV25
import Derived.Test.YtdgjplfcpcphoaaGreatDoorPkV11
import Derived.Test.YtdgjplfcpcphoaaGreatDoorPkV26
import Derived.Test.YtdgjplfcpcphoaaGreatDoorPkV7
import Derived.Test.YtdgjplfcpcphoaaGreatDoorPkV8
import Derived.Test.YtdgjplfcpcphoaaGreatDoorPkV13
import Derived.Test.YtdgjplfcpcphoaaGreatDoorPkV18
import Derived.Test.YtdgjplfcpcphoaaGreatDoorPkV19
import Derived.Test.YtdgjplfcpcphoaaGreatDoorPkV21
import Derived.Test.YtdgjplfcpcphoaaGreatDoorPkV22
import Derived.Test.YtdgjplfcpcphoaaGreatDoorPkV28
import Derived.Test.YtdgjplfcpcphoaaGreatDoorPkV12
import Derived.Test.YtdgjplfcpcphoaaGreatDoorPkV23
set_option maxRecDepth 100000
set_option maxHeartbeats 16000000
namespace Cl
open Go Go.RowKit Go.Proofs Go.WideShapes Go.ChangeShapes Go.Deep Go.Joins
section
variable {H:Type} {enc:TypeId × Value→H} {w:World} {spare:Nat→Bool} {held:Bool} {B:DataW H→Nat}
theorem ER (hB:oU B) {r:Reach} {b0:Nat} {v:Value} {d:DataW H} {p:List MemPlace} (hv:Value.okWide Tryz.prog w r b0 33 v) (h:DataW.Trod enc Tryz.prog w 0 spare held 33 v d p) :
 ∃n s x,v=Vl.val x s∧VAt (Mem.of w) n s x∧vcnt n x≤B d:=by
 obtain⟨cs,rfl,hsz⟩:=okWide_struct Tryz.underlying33 hv;obtain⟨fuel,hf⟩:=h;obtain⟨x,s,e,hs,hb⟩:=vB hB fuel _ _ hf;refine ⟨_,s,x,?_,hs,hb⟩;have:cs=(nine x s).toArray:=by
  have e':cs.toList=nine x s:=e;obtain⟨l⟩:=cs;exact congrArg Array.mk e'
 rw[this];rfl
end
end Cl
namespace Cl
theorem M7 {l:List Nat} {k:Nat}:maxL l≤k↔∀x∈l,x≤k:=by
 induction l with
 | nil=>simp[maxL]
 | cons x l ih=>simp only[maxL,List.mem_cons,forall_eq_or_imp,← ih];omega
theorem xP:∀{n:Nat} {v:Vl},Ht n v→dep (n+1) v=dep n v
 | 0,_,h=>h.elim
 | n+1,v,h=>by
  rw[dep,dep]
  congr 2
  exact List.map_congr_left fun x hx=>by rw[xP (h x hx).1,xP (h x hx).2]
theorem Eo {n m:Nat} {v:Vl} (h:Ht n v) (k:n≤m):dep m v=dep n v:=by
 induction k with
 | refl=>rfl
 | step k ih=>rw[xP (h.mono k),ih]
theorem Mf {v:Vl} (h:SndV v):Ht 16 v:=Snd.ht h
end Cl
namespace Cl
open Go Go.RowKit Go.Proofs
theorem zP:∀(l:List Nat) (x:Nat),maxL (l ++ [x])=max (maxL l) x
 | [],x=>by simp[maxL]
 | a::l,x=>by
  have:=zP l x;simp only[List.cons_append,maxL];omega
def maxK (n:Nat) (l:List Vd) (i:Nat):Nat:=maxL ((l.take i).map fun x=>max (dep n x.1) (dep n x.2))
theorem I8 (n:Nat) (l:List Vd) (i:Nat) (h:i<l.length):maxK n l (i+1)=max (maxK n l i) (max (dep n l[i].1) (dep n l[i].2)):=by
 unfold maxK;rw[List.take_succ_eq_append_getElem h,List.map_append];exact zP _ _
theorem CZ:∀{n:Nat} {v:Vl},Ht n v→dep n v≤vcnt n v
 | 0,_,h=>h.elim
 | n+1,v,h=>by
  have:maxL (v.kids.map fun x=>max (dep n x.1) (dep n x.2))≤(v.kids.map fun x=>vcnt n x.1+vcnt n x.2).sum:=M7.2 fun y hy=>by
   obtain⟨x,hx,rfl⟩:=List.mem_map.1 hy;have h1:=CZ (h x hx).1;have h2:=CZ (h x hx).2;have h3:=Dw (f:=fun x:Vd=>vcnt n x.1+vcnt n x.2) hx;omega
  rw[dep,vcnt];omega
theorem N9 {n k:Nat} {v:Vl} (h1:Ht n v) (h2:Ht k v):dep n v=dep k v:=(Eo h1 (Nat.le_max_left n k)).symm.trans (Eo h2 (Nat.le_max_right n k))
theorem MH {n k:Nat} {v:Vl} (h1:Ht n v) (h2:Ht k v):vcnt n v=vcnt k v:=(nS h1 (Nat.le_max_left n k)).symm.trans (nS h2 (Nat.le_max_right n k))
theorem pI:∀(n:Nat) (v:Vl) (s:Sl) (m:Mem) (w:World),m.inn w→VAt m n s v→vcnt n v≤1048576 →
 Calls Tryz.prog 52 #[v.val s] w fun e w'=>e=.returned (.int .i64 (dep n v))∧Below w.heap.size w w'
 | 0,_,_,_,_,_,h,_=>h.elim
 | n+1,v,s,m,w,hm,hv,hc=>by
  have hO:=(Own.start hm).al (nine v s).toArray 33;have hk:=lU hv.ht;have HV:=zh (jQ v s m n _ hO.inn hv zo);have HN:=zh hO.obj.all;have hN:(nine v s).length=9:=rfl;have HO:=zh hO;have hcnt:∀d∈v.kids,vcnt n d.1≤1048576∧vcnt n d.2≤1048576:=fun d hd=>by have:=nT (n:=n) hd;omega
  have hdc:=CZ hv.ht;have hall:dep (n+1) v=maxK n v.kids v.kids.length+1:=by rw[dep,maxK,List.take_length]
  have HT:=zh (zi hcnt hall);have hd1:maxK n v.kids v.kids.length≤1048576:=zo;unfold Vl.val at *
  generalize nine v s=N at *
  generalize v.kids=KD at *
  generalize dep (n+1) v=TOT at *
  clear hO hv hk hcnt hall hc hdc;refine av fun R hR=>?_
  go_enter Tryz.func52,Tryz.ntmps52
  go_wp2_with (refine ae tyV rfl (.tmp 1) rfl rfl N hN HN.out ?_)
  refine HV.out.mono ?_;rintro e w1 ⟨r,rfl,hb1,hr⟩;have hO1:=HO.out.call hb1;obtain⟨a,c,rfl,p1,q1,hk⟩:=hr;have HK:=zh hk;have HO1:=zh hO1.tail;unfold maxLen at q1;clear HO HV HN hb1 hk hO1;generalize m.grow (w.alloc (.cells N.toArray 33)) w1=M at *
  go_wp2;refine au [3,4,5] (fun q vs wr=>∃(i:Nat),i≤KD.length∧q=KD.length - i∧vs=[.int .i64 (maxK n KD i:Int),.slice a KD.length c,.int .i64 (i:Int)]∧Own w m wr M []) ?_ ?_
  ·exact⟨_,0,Nat.zero_le _,rfl,rfl,HO1.out⟩
  clear HO1;rintro X z q vs wr hX - ⟨i,hi,rfl,rfl,hO⟩;simp[litL,lk];by_cases hlt:i<KD.length
  case neg=>
   obtain rfl:i=KD.length:=zo;have HF:=zh hO.below;have HA:=zh HT.out.2;clear hO hX HT;go_wp2;exact hR.out _ _ ⟨by rw[HA.out] <;> rfl,HF.out⟩
  obtain⟨b,off,rfl,h4⟩:=HK.out (by intro h;simp[h] at hlt);obtain⟨x1,x2,c1,r1,c2,r2⟩:=h4 i hlt;have hcl:=Mem.ay hO.inn c1.a;have HC1:=zh (fun (w':World) (h:M.inn w') j u hj=>Mem.aj h (c1.get (j:=j) (u:=u) hj));have HC2:=zh (fun (w':World) (h:M.inn w') j u hj=>Mem.aj h (c2.get (j:=j) (u:=u) hj));have hcc:=HT.out.1 _ (List.getElem_mem hlt);have HX1:=zh (fun w' (h:M.inn w')=>pI n KD[i].1 x1 M w' h r1 hcc.1);have HX2:=zh (fun w' (h:M.inn w')=>pI n KD[i].2 x2 M w' h r2 hcc.2);have hN1:(nine KD[i].1 x1).length=9:=rfl;have hN2:(nine KD[i].2 x2).length=9:=rfl;have HS:=zh (I8 n KD i hlt);have HO:=zh hO;unfold Vl.val at HX1 HX2;generalize nine KD[i].1 x1=N1 at *
  generalize nine KD[i].2 x2=N2 at *
  generalize dep n KD[i].1=d1 at *
  generalize dep n KD[i].2=d2 at *
  generalize hmx':maxK n KD (i+1)=mx' at *
  have HM:=zh hmx';clear hmx';generalize maxK n KD i=mx at *
  clear hO c1 c2 r1 r2 h4 hcc
  go_upto_region 6 with (fail)
  refine aR [3,4,5] (fun vs w'=>vs=[.int .i64 (mx':Int),.slice (some ⟨b,off,none⟩) KD.length c,.int .i64 (i:Int)]∧Own w m w' M []) ?_ ?_
  ·intro Y hY;refine bv 14 6 (fun j=>[Fact.is (·=.int .i64 (mx:Int)),Fact.is (·=.slice (some ⟨b,off,none⟩) KD.length c),Fact.is (·=.int .i64 (i:Int)),Fact.is (·=.pointer (some ⟨b,off+i*18,none⟩)),Fact.is (·=.pointer (some ⟨b,off+i*18,none⟩)),Fact.is (·=.agg N1.toArray),Fact.is (·=.int .i64 (d1:Int)),Fact.is (·=.slice (some ⟨b,off,none⟩) KD.length c),Fact.is (·=.int .i64 (i:Int)),Fact.is (·=.pointer (some ⟨b,off+i*18,none⟩)),Fact.is (·=.pointer (some ⟨b,off+i*18+9,none⟩)),Fact.is (·=.agg N2.toArray),Fact.is (·=.int .i64 (d2:Int)),Fact.is (·=.int .i64 (max (mx:Int) (max (d1:Int) (d2:Int))))].getD j Fact.any) zk zk ?_ ?_
   ·intro i hi o win a wr ho RA;have HO2:=HO.out.dr.move RA.below;have hcl2:=Nat.lt_of_lt_of_le hcl RA.below.size;rcases (show i=0∨i=1∨i=2∨i=3∨i=4∨i=5∨i=6∨i=7∨i=8∨i=9∨i=10∨i=11∨i=12∨i=13 by omega) with rfl | rfl | rfl | rfl | rfl | rfl | rfl | rfl | rfl | rfl | rfl | rfl | rfl | rfl
    ·have e3:=RA.k 3;cases ho;exact wv rfl rfl rfl
    ·have e4:=RA.k 4;cases ho;exact wv rfl rfl rfl
    ·have e5:=RA.k 5;cases ho;exact wv rfl rfl rfl
    ·have e15:a.tmps.getD 15 undef=_:=RA.d 1 rfl;have e16:a.tmps.getD 16 undef=_:=RA.d 2 rfl;cases ho;refine aP rfl rfl (aM (by go_simp;try (intro hh;omega)) ⟨_,rfl,Below.refl _ _,rfl⟩)
    ·have e17:a.tmps.getD 17 undef=_:=RA.d 3 rfl;cases ho;exact wv rfl rfl rfl
    ·have e18:a.tmps.getD 18 undef=_:=RA.d 4 rfl;cases ho;refine aP rfl rfl (aM (tyV.exec rfl zg hN1 (HC1.out _ HO2.inn)) ⟨_,rfl,Below.refl _ _,rfl⟩)
    ·have e19:a.tmps.getD 19 undef=_:=RA.d 5 rfl;cases ho;refine we rfl rfl (HX1.out _ HO2.inn) ?_;rintro e w' ⟨rfl,hb⟩;exact⟨_,rfl,_,rfl,hb,rfl⟩
    ·have e4:=RA.k 4;cases ho;exact wv rfl rfl rfl
    ·have e5:=RA.k 5;cases ho;exact wv rfl rfl rfl
    ·have e21:a.tmps.getD 21 undef=_:=RA.d 7 rfl;have e22:a.tmps.getD 22 undef=_:=RA.d 8 rfl;cases ho;refine aP rfl rfl (aM (by go_simp;try (intro hh;omega)) ⟨_,rfl,Below.refl _ _,rfl⟩)
    ·have e23:a.tmps.getD 23 undef=_:=RA.d 9 rfl;cases ho;exact wv rfl rfl rfl
    ·have e24:a.tmps.getD 24 undef=_:=RA.d 10 rfl;cases ho;refine aP rfl rfl (aM (tyV.exec rfl zg hN2 (HC2.out _ HO2.inn)) ⟨_,rfl,Below.refl _ _,rfl⟩)
    ·have e25:a.tmps.getD 25 undef=_:=RA.d 11 rfl;cases ho;refine we rfl rfl (HX2.out _ HO2.inn) ?_;rintro e w' ⟨rfl,hb⟩;exact⟨_,rfl,_,rfl,hb,rfl⟩
    ·have e14:a.tmps.getD 14 undef=_:=RA.d 0 rfl;have e20:a.tmps.getD 20 undef=_:=RA.d 6 rfl;have e26:a.tmps.getD 26 undef=_:=RA.d 12 rfl;cases ho;refine aP rfl rfl (aM (by go_simp;(repeat' split) <;> omega) ⟨_,rfl,Below.refl _ _,rfl⟩)
   ·intro win a wr E;have e4:=E.keep 4 zk;have e5:=E.keep 5 zk;have e27:a.tmps.getD 27 undef=.int .i64 (max (mx:Int) (max (d1:Int) (d2:Int))):=E.fact 13 _ zo rfl;have hZ:=HO.out.dr.move E.below;obtain⟨t1,d⟩:=a;obtain rfl:d=[]:=E.defers;refine il 14 zk (aP rfl rfl (aM (by go_simp;first | done | exact⟨rfl,rfl⟩ | rfl) ?_));refine dH zk (hY.out _ _ (by simpa using E.size) ⟨?_,hZ⟩) _;have hs:=HS.out;have hs2:(mx':Int)=max (mx:Int) (max (d1:Int) (d2:Int)):=zo;have hsz:t1.size=30:=E.size;simp[hsz] at e4 e5;simp[e4,e5,hs2,hsz]
  rintro z vs w2 - ⟨rfl,hO⟩;simp[litL,lk];have HO:=zh hO;clear hO HX1 HX2 HC1 HC2 HS;go_wp2;exact hX.out _ _ _ zo rfl ⟨i+1,zo,rfl,by rw[HM.out] <;> rfl,HO.out⟩
theorem zt (v:Vl) (x:Sl) (m:Mem) (n:Nat) (w:World) (hm:m.inn w) (htab:TabM m) (hv:VAt m n x v) (hf:FewV n v) (hct:vcnt n v≤1048576) :
 Calls Tryz.prog 22 #[v.val x] w fun e w'=>e=.returned (.int .i64 (depV v))∧Below w.heap.size w w':=by
 have hO:=(Own.start hm).al (nine v x).toArray 33;have HW:=zh (fO v x m n _ hO.inn htab hv hf hct);have HC:=zh (fun w' (h:m.inn w')=>pI n v x m w' h hv hct);have HD:=zh (show SndV v→depV v=dep n v from fun h=>by unfold depV;rw[if_pos (aH h),N9 (Mf h) hv.ht]);have HE:=zh (show ¬ SndV v→depV v=0 from fun h=>by unfold depV;rw[if_neg (by rw[az h];simp)]);have hN:(nine v x).length=9:=rfl;have HO:=zh hO;have q0:=hO.obj.all;unfold Vl.val at *
 generalize nine v x=N at *
 clear hO hv hf;refine av fun R hR=>?_
 go_enter Tryz.func22,Tryz.ntmps22
 by_cases hs:SndV v
 ·have HD2:=zh (HD.out hs);have hh:=HW.out;rw[aH hs] at hh;have HW:=zh hh;clear hh HD HE hs;generalize dep n v=dn at *
  go_wp2_with (first
   | refine ae tyV rfl (.tmp 1) rfl rfl N hN q0 ?_
   | (go_at_call 48;refine HW.out.mono ?_;rintro e w2 ⟨rfl,hb2⟩;have hO2:=HO.out.move hb2;have q1:=hO2.obj.all)
   | refine ae tyV rfl (.tmp 1) rfl rfl N hN q1 ?_
   | (go_at_call 52;refine (HC.out _ hO2.inn).mono ?_;rintro e w3 ⟨rfl,hb3⟩))
  exact hR.out _ _ ⟨by rw[HD2.out] <;> rfl,(hO2.move hb3).below⟩
 ·have HE2:=zh (HE.out hs);have hh:=HW.out;rw[az hs] at hh;have HW:=zh hh;clear hh HD HE hs HC
  go_wp2_with (first
   | refine ae tyV rfl (.tmp 1) rfl rfl N hN q0 ?_
   | (go_at_call 48;refine HW.out.mono ?_;rintro e w2 ⟨rfl,hb2⟩))
  exact hR.out _ _ ⟨by rw[HE2.out] <;> rfl,(HO.out.move hb2).below⟩
theorem BS (v:Vl) (x:Sl) (m:Mem) (n:Nat) (w:World) (hm:m.inn w) (htab:TabM m) (hv:VAt m n x v) (hf:FewV n v) (hct:vcnt n v≤1048576) :
 Calls Tryz.prog 24 #[v.val x] w fun e w'=>e=.returned (.int .i64 (sizV v))∧Below w.heap.size w w':=by
 have hO:=(Own.start hm).al (nine v x).toArray 33;have HW:=zh (fO v x m n _ hO.inn htab hv hf hct);have HC:=zh (fun w' (h:m.inn w')=>jf n v x 1073741824 m w' h hv hct zo zo);have HD:=zh (show SndV v→∀r,Bi (vcnt n v) 1073741824 r→sizV v=r from fun h r hr=>by unfold sizV;rw[if_pos (aH h),← MH hv.ht (Mf h),hr.le zo]);have HE:=zh (show ¬ SndV v→sizV v=0 from fun h=>by unfold sizV;rw[if_neg (by rw[az h];simp)]);have hN:(nine v x).length=9:=rfl;have HO:=zh hO;have q0:=hO.obj.all;unfold Vl.val at *
 generalize nine v x=N at *
 clear hO hv hf;refine av fun R hR=>?_
 go_enter Tryz.func24,Tryz.ntmps24
 by_cases hs:SndV v
 ·have HD2:=zh (HD.out hs);have hh:=HW.out;rw[aH hs] at hh;have HW:=zh hh;clear hh HD HE hs
  go_wp2_with (first
   | refine ae tyV rfl (.tmp 1) rfl rfl N hN q0 ?_
   | (go_at_call 48;refine HW.out.mono ?_;rintro e w2 ⟨rfl,hb2⟩;have hO2:=HO.out.move hb2;have q1:=hO2.obj.all)
   | refine ae tyV rfl (.tmp 1) rfl rfl N hN q1 ?_
   | (go_at_call 49;refine (HC.out _ hO2.inn).mono ?_;rintro e w3 ⟨r,rfl,hb3,hr⟩))
  exact hR.out _ _ ⟨by rw[HD2.out r hr] <;> rfl,(hO2.move hb3).below⟩
 ·have HE2:=zh (HE.out hs);have hh:=HW.out;rw[az hs] at hh;have HW:=zh hh;clear hh HD HE hs HC
  go_wp2_with (first
   | refine ae tyV rfl (.tmp 1) rfl rfl N hN q0 ?_
   | (go_at_call 48;refine HW.out.mono ?_;rintro e w2 ⟨rfl,hb2⟩))
  exact hR.out _ _ ⟨by rw[HE2.out] <;> rfl,(HO.out.move hb2).below⟩
theorem uD (v:Vl) (x:Sl) (m:Mem) (n:Nat) (w:World) (hm:m.inn w) (htab:TabM m) (h1:VAt m n x v) (t1:vcnt n v≤1048576) :
 Calls Tryz.prog 5 #[v.val x] w fun e w'=>e=.returned (.bool true)∧Below w.heap.size w w':=by
 obtain⟨m1,l1,c1,hO⟩:=kg 33 (nine v x).toArray (Own.start hm);have HT:=zh (htab.le l1);have HS:=zh (kU n v x m1 _ hO.inn (h1.le l1) t1);have HC:=zh (fun (w':World) (h:m1.inn w') j u (hj:(nine v x)[j]?=some u)=>Mem.aj h (c1 j u (by simpa using hj)));have C0:m1.cell w.heap.size 0=some (.bool v.any):=c1 0 _ rfl;have hl:(nine v x).length=9:=rfl;have HV1:=zh (h1.le l1);have HB1:=zh (fun (w':World) (h:m1.inn w') (f:FewV n v)=>qw v x m1 n w' h HT.out HV1.out f t1);have HB2:=zh (fun (w':World) (h:m1.inn w') (f:FewV n v)=>zt v x m1 n w' h HT.out HV1.out f t1);have HB3:=zh (fun (w':World) (h:m1.inn w') (f:FewV n v)=>rJ v x m1 n w' h HT.out HV1.out f t1);have HB4:=zh (fun (w':World) (h:m1.inn w') (f:FewV n v)=>BS v x m1 n w' h HT.out HV1.out f t1);have HO:=zh hO;unfold Vl.val at *
 generalize nine v x=D at *
 clear hO htab h1 l1 c1;refine av fun R hR=>?_
 go_enter Tryz.func5,Tryz.ntmps5
 have q0:∀j u,D[j]?=some u→World.cell? _ ⟨w.heap.size,0+j,none⟩=some u:=fun j u hj=>by rw[Nat.zero_add];exact HC.out _ HO.out.inn j u hj
 have HQ:=zh q0;clear q0
 go_wp2_with (refine ae tyV rfl (.tmp 1) rfl rfl D hl HQ.out ?_)
 refine HS.out.mono ?_;rintro e w1 ⟨rfl,hb1⟩;have HO1:=zh (HO.out.move hb1);clear HO HS HQ hb1;by_cases hsm:fP n v=true
 case neg=>
  rw[Bool.eq_false_iff.2 hsm];clear hsm
  go_wp2_with fail
  refine (dZ m1 _ HO1.out.inn HT.out).mono ?_;rintro e w2 ⟨rfl,hb2⟩;have HB:=zh (HO1.out.move hb2).below;clear HO1 hb2;go_wp2;exact hR.out _ _ ⟨rfl,HB.out⟩
 rw[hsm];have HF:=zh (kQ hsm).few;clear hsm
 go_upto_region 3 with (fail)
 refine aR [2] (fun vs w'=>vs=[.bool true]∧Own w m w' m1 []) ?_ ?_
 ·intro Y hY;generalize depV v=dv at *
  generalize sizV v=zv at *
  refine bv 15 6 (fun j=>[Fact.is (·=.agg D.toArray),Fact.is (·=.int .i64 dv),Fact.is (·=.agg D.toArray),Fact.is (·=.int .i64 dv),Fact.is (·=.bool true),Fact.is (·=.bool true),Fact.is (·=.agg D.toArray),Fact.is (·=.int .i64 zv),Fact.is (·=.agg D.toArray),Fact.is (·=.int .i64 zv),Fact.is (·=.bool true),Fact.is (·=.bool true),Fact.is (·=.bool true),Fact.is (·=.bool true),Fact.is (·=.bool true)].getD j Fact.any) zk zk ?_ ?_
  ·intro i hi o win a wr ho RA;have HO2:=HO1.out.dr.move RA.below;have y3:=Mem.ay HO2.inn C0;rcases (show i=0∨i=1∨i=2∨i=3∨i=4∨i=5∨i=6∨i=7∨i=8∨i=9∨i=10∨i=11∨i=12∨i=13∨i=14 by omega) with rfl | rfl | rfl | rfl | rfl | rfl | rfl | rfl | rfl | rfl | rfl | rfl | rfl | rfl | rfl
   ·have e1:=RA.k 1;cases ho;refine aP rfl rfl (aM (tyV.exec (b:=w.heap.size) (off:=0) rfl zg hl (fun j u hj=>by rw[Nat.zero_add];exact HC.out _ HO2.inn j u hj)) ⟨_,rfl,Below.refl _ _,rfl⟩)
   ·have e7:a.tmps.getD 7 undef=_:=RA.d 0 rfl;cases ho;refine we rfl rfl (HB1.out wr HO2.inn HF.out) ?_;rintro e w' ⟨rfl,hb⟩;exact⟨_,rfl,_,rfl,hb,rfl⟩
   ·have e1:=RA.k 1;cases ho;refine aP rfl rfl (aM (tyV.exec (b:=w.heap.size) (off:=0) rfl zg hl (fun j u hj=>by rw[Nat.zero_add];exact HC.out _ HO2.inn j u hj)) ⟨_,rfl,Below.refl _ _,rfl⟩)
   ·have e9:a.tmps.getD 9 undef=_:=RA.d 2 rfl;cases ho;refine we rfl rfl (HB2.out wr HO2.inn HF.out) ?_;rintro e w' ⟨rfl,hb⟩;exact⟨_,rfl,_,rfl,hb,rfl⟩
   ·have e8:a.tmps.getD 8 undef=_:=RA.d 1 rfl;have e10:a.tmps.getD 10 undef=_:=RA.d 3 rfl;cases ho;exact wv rfl rfl rfl
   ·have e11:a.tmps.getD 11 undef=_:=RA.d 4 rfl;cases ho;exact wv rfl rfl rfl
   ·have e1:=RA.k 1;have e12:a.tmps.getD 12 undef=_:=RA.d 5 rfl;cases ho;refine dx rfl (bS rfl rfl e12) (aM (tyV.exec (b:=w.heap.size) (off:=0) rfl zg hl (fun j u hj=>by rw[Nat.zero_add];exact HC.out _ HO2.inn j u hj)) ⟨_,rfl,Below.refl _ _,rfl⟩)
   ·have e13:a.tmps.getD 13 undef=_:=RA.d 6 rfl;have e12:a.tmps.getD 12 undef=_:=RA.d 5 rfl;cases ho;refine we2 rfl rfl rfl e12 (HB3.out wr HO2.inn HF.out) ?_;rintro e w' ⟨rfl,hb⟩;exact⟨_,rfl,_,rfl,hb,rfl⟩
   ·have e1:=RA.k 1;have e12:a.tmps.getD 12 undef=_:=RA.d 5 rfl;cases ho;refine dx rfl (bS rfl rfl e12) (aM (tyV.exec (b:=w.heap.size) (off:=0) rfl zg hl (fun j u hj=>by rw[Nat.zero_add];exact HC.out _ HO2.inn j u hj)) ⟨_,rfl,Below.refl _ _,rfl⟩)
   ·have e15:a.tmps.getD 15 undef=_:=RA.d 8 rfl;have e12:a.tmps.getD 12 undef=_:=RA.d 5 rfl;cases ho;refine we2 rfl rfl rfl e12 (HB4.out wr HO2.inn HF.out) ?_;rintro e w' ⟨rfl,hb⟩;exact⟨_,rfl,_,rfl,hb,rfl⟩
   ·have e14:a.tmps.getD 14 undef=_:=RA.d 7 rfl;have e16:a.tmps.getD 16 undef=_:=RA.d 9 rfl;have e12:a.tmps.getD 12 undef=_:=RA.d 5 rfl;cases ho;exact wy rfl rfl rfl e12 rfl
   ·have e12:a.tmps.getD 12 undef=_:=RA.d 5 rfl;have e17:a.tmps.getD 17 undef=_:=RA.d 10 rfl;cases ho;exact wv rfl rfl rfl
   ·have e18:a.tmps.getD 18 undef=_:=RA.d 11 rfl;cases ho;exact wv rfl rfl rfl
   ·have e19:a.tmps.getD 19 undef=_:=RA.d 12 rfl;cases ho;refine we2 rfl rfl rfl e19 (dZ m1 wr HO2.inn HT.out) ?_;rintro e w' ⟨rfl,hb⟩;exact⟨_,rfl,_,rfl,hb,rfl⟩
   ·have e19:a.tmps.getD 19 undef=_:=RA.d 12 rfl;have e20:a.tmps.getD 20 undef=_:=RA.d 13 rfl;cases ho;exact wv rfl rfl rfl
  ·intro win a wr E;have e21:a.tmps.getD 21 undef=.bool true:=E.fact 14 _ zo rfl;have hZ:=HO1.out.dr.move E.below;obtain⟨t1,dd⟩:=a;obtain rfl:dd=[]:=E.defers;refine il 15 zk (aP rfl rfl (aM (by go_simp;first | done | exact⟨rfl,rfl⟩ | rfl) ?_));refine dH zk (hY.out _ _ (by simpa using E.size) ⟨?_,hZ⟩) _;have hsz:t1.size=22:=E.size;simp[hsz] at e21;simp[hsz]
 rintro z vs w2 - ⟨rfl,hO⟩;simp[litL,lk];have HB:=zh hO.below;clear hO HO1 HT HC HB1 HB2 HB3 HB4 HF HV1;go_wp2;exact hR.out _ _ ⟨rfl,HB.out⟩
end Cl
