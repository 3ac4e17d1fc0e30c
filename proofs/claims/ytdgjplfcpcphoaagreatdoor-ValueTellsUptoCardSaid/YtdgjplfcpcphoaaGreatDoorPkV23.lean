/- Lemmas for the proofs of chapter 11. -/
import Derived.Test.YtdgjplfcpcphoaaGreatDoorProg
import Derived.BigQuiet
import Derived.Deep.Cut
import Derived.Deep.QuietTactic
import Derived.Laws.StructEq
import Derived.Lib.AppendStr
import Derived.Lib.Builder
import Derived.Lib.Hide
import Derived.Lib.ItoaLen
import Derived.Maps.OwnOps
import Derived.Maps.OwnSet
import Derived.OrdersHeld
import Derived.Outline
import Derived.StillTailTactics
import Derived.StringKeys
import Derived.WalkKit
import Derived.WalkLawsBesides
import Derived.WalkSpells
import Derived.Deep.RegionHeld
import Derived.Laws.CopyRow
import Derived.Laws.Tables
import Derived.BigFrame
import Derived.RangeFuncNested
import Derived.RangeFuncBound
import Derived.RangeFuncCalls
import Derived.RangeFuncLeaves
import Derived.OwnWalkIn
import Derived.TacticsInMore
import Derived.LoopNIn
import Derived.LoopIn
import Derived.Shelf.Strings.Builder1
import Derived.Shelf.Small.Wraps
import Derived.Shelf.LaysM
import Derived.Shelf.Strconv.Itoa3
import Derived.Shelf.Strconv.AppendIntPublic10
import Derived.Shelf.Spec.SlicesGrow
import Derived.Shelf.SlSortCmp.WholeK
import Derived.RegionTactic
import Derived.ChangeAlike
import Derived.Laws.BytesArg
import Derived.Laws.EntriesVeiled
import Derived.Laws.CopyOwn
import Derived.WalkMore
import Derived.Test.YtdgjplfcpcphoaaGreatDoorZz
import Derived.Test.YtdgjplfcpcphoaaGreatDoorPkV15
import Derived.Test.YtdgjplfcpcphoaaGreatDoorPkV3
import Derived.Test.YtdgjplfcpcphoaaGreatDoorPkV4
import Derived.Test.YtdgjplfcpcphoaaGreatDoorPkV5
import Derived.Test.YtdgjplfcpcphoaaGreatDoorPkV1
import Derived.Test.YtdgjplfcpcphoaaGreatDoorPkV2
import Derived.Test.YtdgjplfcpcphoaaGreatDoorPkV10
import Derived.Test.YtdgjplfcpcphoaaGreatDoorPkV14
import Derived.Test.YtdgjplfcpcphoaaGreatDoorPkV20
import Derived.Test.YtdgjplfcpcphoaaGreatDoorPkV9
import Derived.Test.YtdgjplfcpcphoaaGreatDoorPkV17
import Derived.Test.YtdgjplfcpcphoaaGreatDoorPkV6
import Derived.Test.YtdgjplfcpcphoaaGreatDoorPkV16
import Derived.Test.YtdgjplfcpcphoaaGreatDoorPkV11
import Derived.Test.YtdgjplfcpcphoaaGreatDoorPkV7
import Derived.Test.YtdgjplfcpcphoaaGreatDoorPkV8
import Derived.Test.YtdgjplfcpcphoaaGreatDoorPkV13
import Derived.Test.YtdgjplfcpcphoaaGreatDoorPkV18
import Derived.Test.YtdgjplfcpcphoaaGreatDoorPkV19
import Derived.Test.YtdgjplfcpcphoaaGreatDoorPkV21
import Derived.Test.YtdgjplfcpcphoaaGreatDoorPkV22
import Derived.Test.YtdgjplfcpcphoaaGreatDoorPkV12
set_option maxRecDepth 100000
set_option maxHeartbeats 16000000
namespace Cl
open Go Go.RowKit Go.Proofs
theorem dB.xI {m m':Mem} {n:Nat} {v:Value} {l:List Vd} (k:m.le m') (h:dB (VAt m n) m v l):dB (VAt m' n) m' v l:=dB.le k (fun _ _=>VAt.le k) h
theorem D5 {n:Nat} {v:Vl} {c:Lc} (h:Ht (n+1) v) (hv:vcnt (n+1) v≤1048576) (hc:c∈v.lists):c.1.length+c.2.length≤1048576:=by
 have h1:=lU h;have h2:(bR c).length≤(v.lists.flatMap bR).length:=by
  rw[List.length_flatMap];exact Dw (f:=fun c=>(bR c).length) hc
 have h3:v.kids.length=(v.lists.flatMap bR).length+(v.structs.flatMap dF).length:=by rw[Vl.kids,List.length_append]
 rw[bR,List.length_append] at h2;omega
theorem MP {n:Nat} (H:uW n):uW (n+1):=fun v v' s s' m w hm hv hv' hct hct'=>by
 have hO:=((Own.start hm).al (nine v s).toArray 33).al (nine v' s').toArray 33;simp only[cz] at hO;have HL:=zh (zi (fun c (hc:c∈v.lists)=>D5 hv.ht hct hc) (fun c (hc:c∈v'.lists)=>D5 hv'.ht hct' hc));have HCN:=zh (zi (fun d (hd:d∈v.kids)=>show gN n d by have:=nT (n:=n) hd;exact⟨zo,zo⟩) (fun d (hd:d∈v'.kids)=>show gN n d by have:=nT (n:=n) hd;exact⟨zo,zo⟩));have HS:=zh (r9 s.i s.f s.t s'.i s'.f s'.t v.s v'.s m _ hO.inn hv.sc hv'.sc);have HE:=zh (Hf v v');have c0:=hO.swap.obj.cell (i:=0) (v:=.bool v.any) rfl;have c0':=hO.obj.cell (i:=0) (v:=.bool v'.any) rfl;have q0:=hO.swap.obj.sub (kZ v s);have q0':=hO.obj.sub (kZ v' s');have H7:(nine v s).toArray[7]?=some s.l:=rfl;have H8:(nine v s).toArray[8]?=some s.s:=rfl;have H7':(nine v' s').toArray[7]?=some s'.l:=rfl;have H8':(nine v' s').toArray[8]?=some s'.s:=rfl;have hv2:=hv.2;have hv2':=hv'.2;obtain⟨a1,b1,a2,b2,a3,b3,a4,b4,a5,b5,rfl,q1,q2,q3,q4,q5⟩:=hv.spell;obtain⟨⟨z1,y1,e1,-,-,k1⟩,⟨z2,y2,e2,-,-,k2⟩⟩:=hv2;simp only[Value.slice.injEq] at e1 e2;obtain⟨rfl,-,rfl⟩:=e1;obtain⟨rfl,-,rfl⟩:=e2;obtain⟨a1',b1',a2',b2',a3',b3',a4',b4',a5',b5',rfl,q1',q2',q3',q4',q5'⟩:=hv'.spell;obtain⟨⟨z1,y1,e1,-,-,k1'⟩,⟨z2,y2,e2,-,-,k2'⟩⟩:=hv2';simp only[Value.slice.injEq] at e1 e2;obtain⟨rfl,-,rfl⟩:=e1;obtain⟨rfl,-,rfl⟩:=e2;simp only at H7 H8 H7' H8';have HH:=zh (zi H7 (zi H8 (zi H7' H8')));unfold maxLen at q4 q5 q4' q5';have HK:=zh (zi k1 (zi k2 (zi k1' k2')));have HO:=zh hO;obtain⟨P1,hP1⟩:∃P1:Prop,P1=(v.any=v'.any∧v.s=v'.s∧v.lists.length=v'.lists.length∧v.structs.length=v'.structs.length):=⟨_,rfl⟩;have HP1:=zh hP1;have c7:=hO.swap.obj.cell H7;have c7':=hO.obj.cell H7';have c8:=hO.swap.obj.cell H8;have c8':=hO.obj.cell H8';have g1:=hO.swap.obj.lt;have g2:=hO.obj.lt;clear hO hP1 k1 k2 k1' k2' hv hv' hct hct' q1 q2 q3 q1' q2' q3' H7 H8 H7' H8';unfold Vl.val RS.val at *
 generalize nine v _=N at *
 generalize nine v' _=N' at *
 refine av fun R hR=>?_
 go_enter Tryz.func86,Tryz.ntmps86
 go_upto_region 1 with (fail)
 generalize hW:(w.alloc (.cells N.toArray 33)).alloc (.cells N'.toArray 33)=w0 at *
 clear hW;refine aR [2,3,39] (fun vs w'=>vs=[.pointer (some ⟨w.heap.size,0,none⟩),.pointer (some ⟨w.heap.size+1,0,none⟩),.bool (!tf P1)]∧Own w m w' m [.obj (w.heap.size+1) 33 N'.toArray,.obj w.heap.size 33 N.toArray]) ?_ ?_
 ·intro X hX;clear HK HL HCN HE;by_cases h1:v.any=v'.any
  case neg=>
   have HP:=zh (show tf P1=false by rw[HP1.out];exact az fun h=>h1 h.1);have hd:(v.any==v'.any)=false:=by simp[h1]
   have hd2:(v.any != v'.any)=true:=by simp[h1]
   clear h1 HS;go_wp2;exact hX.out _ _ rfl ⟨by rw[HP.out] <;> rfl,HO.out⟩
  have hd:(v.any==v'.any)=true:=by simp[h1]
  have hd2:(v.any != v'.any)=false:=by simp[h1]
  by_cases h2:v.s=v'.s
  case neg=>
   have HP:=zh (show tf P1=false by rw[HP1.out];exact az fun h=>h2 h.2.1);have hh:=HS.out;rw[az h2] at hh;have HS:=zh hh;clear h1 h2 hh
   go_wp2_with (first | refine ae tyS rfl (.tmp 15) rfl rfl _ rfl q0 ?_ | refine ae tyS rfl (.tmp 17) rfl rfl _ rfl q0' ?_ | (go_at_call 133;refine HS.out.mono ?_;rintro e w1 ⟨rfl,hb1⟩))
   exact hX.out _ _ rfl ⟨by rw[HP.out] <;> rfl,HO.out.move hb1⟩
  have hh:=HS.out;rw[aH h2] at hh;have HS1:=zh hh;clear hh HS;by_cases h3:v.lists.length=v'.lists.length
  case neg=>
   have HP:=zh (show tf P1=false by rw[HP1.out];exact az fun h=>h3 h.2.2.1);have hd3:((v.lists.length:Int) != (v'.lists.length:Int))=true:=by simp;omega
   clear h1 h2 h3 HP1;generalize v.lists.length=n4 at *
   generalize v'.lists.length=n4' at *
   go_wp2_with (first | refine ae tyS rfl (.tmp 15) rfl rfl _ rfl q0 ?_ | refine ae tyS rfl (.tmp 17) rfl rfl _ rfl q0' ?_ | (go_at_call 133;refine HS1.out.mono ?_;rintro e w1 ⟨rfl,hb1⟩;have hO1:=HO.out.move hb1;have c7:=hO1.swap.obj.cell HH.out.1;have c7':=hO1.obj.cell HH.out.2.2.1;have g1:=hO1.swap.obj.lt;have g2:=hO1.obj.lt))
   exact hX.out _ _ rfl ⟨by rw[HP.out] <;> rfl,HO.out.move hb1⟩
  have hd3:((v.lists.length:Int) != (v'.lists.length:Int))=false:=by simp[h3]
  by_cases h4:v.structs.length=v'.structs.length
  case neg=>
   have HP:=zh (show tf P1=false by rw[HP1.out];exact az fun h=>h4 h.2.2.2);have hd4:((v.structs.length:Int) != (v'.structs.length:Int))=true:=by simp;omega
   clear h1 h2 h3 h4 HP1;generalize v.lists.length=n4 at *
   generalize v'.lists.length=n4' at *
   generalize v.structs.length=n5 at *
   generalize v'.structs.length=n5' at *
   go_wp2_with (first | refine ae tyS rfl (.tmp 15) rfl rfl _ rfl q0 ?_ | refine ae tyS rfl (.tmp 17) rfl rfl _ rfl q0' ?_ | (go_at_call 133;refine HS1.out.mono ?_;rintro e w1 ⟨rfl,hb1⟩;have hO1:=HO.out.move hb1;have c7:=hO1.swap.obj.cell HH.out.1;have c7':=hO1.obj.cell HH.out.2.2.1;have c8:=hO1.swap.obj.cell HH.out.2.1;have c8':=hO1.obj.cell HH.out.2.2.2;have g1:=hO1.swap.obj.lt;have g2:=hO1.obj.lt))
   exact hX.out _ _ rfl ⟨by rw[HP.out] <;> rfl,HO.out.move hb1⟩
  have hd4:((v.structs.length:Int) != (v'.structs.length:Int))=false:=by simp[h4]
  have HP:=zh (show tf P1=true by rw[HP1.out];exact aH ⟨h1,h2,h3,h4⟩);clear h1 h2 h3 h4 HP1;generalize v.lists.length=n4 at *
  generalize v'.lists.length=n4' at *
  generalize v.structs.length=n5 at *
  generalize v'.structs.length=n5' at *
  go_wp2_with (first | refine ae tyS rfl (.tmp 15) rfl rfl _ rfl q0 ?_ | refine ae tyS rfl (.tmp 17) rfl rfl _ rfl q0' ?_ | (go_at_call 133;refine HS1.out.mono ?_;rintro e w1 ⟨rfl,hb1⟩;have hO1:=HO.out.move hb1;have c7:=hO1.swap.obj.cell HH.out.1;have c7':=hO1.obj.cell HH.out.2.2.1;have c8:=hO1.swap.obj.cell HH.out.2.1;have c8':=hO1.obj.cell HH.out.2.2.2;have g1:=hO1.swap.obj.lt;have g2:=hO1.obj.lt))
  exact hX.out _ _ rfl ⟨by rw[HP.out] <;> rfl,HO.out.move hb1⟩
 clear HO HS c0 c0' q0 q0' c7 c7' c8 c8' g1 g2;rintro z vs w1 - ⟨rfl,hO⟩;simp[litL,lk];have HO:=zh hO;by_cases hp1:P1
 case neg=>
  have HX:=zh (show ¬ v=v' from fun h=>hp1 (by rw[HP1.out,h];exact⟨rfl,rfl,rfl,rfl⟩));rw[az hp1];have HB:=zh hO.below;clear hO HO HE hp1 HP1;go_wp2;exact hR.out _ _ ⟨aJ (by rw[az HX.out]),HB.out⟩
 have hp:=HP1.out ▸ hp1;rw[aH hp1];have HX:=zh (show v=v'↔v.lists=v'.lists∧v.structs=v'.structs from HE.out.trans ⟨fun h=>h.2.2,fun h=>⟨hp.1,hp.2.1,h⟩⟩);have HLL:=zh (zi hp.2.2.1 hp.2.2.2);clear hO HE hp1 HP1 hp;have c7:=HO.out.swap.obj.cell HH.out.1;have g1:=HO.out.swap.obj.lt;go_wp2;refine au [2,3,42,43] (fun q vs wr=>∃(i:Nat),i≤v.lists.length∧q=v.lists.length - i∧vs=[.pointer (some ⟨w.heap.size,0,none⟩),.pointer (some ⟨w.heap.size+1,0,none⟩),.int .i64 (v.lists.length:Int),.int .i64 (i:Int)]∧(v=v'↔v.lists.drop i=v'.lists.drop i∧v.structs=v'.structs) ∧
  Own w m wr m [.obj (w.heap.size+1) 33 N'.toArray,.obj w.heap.size 33 N.toArray]) ?_ ?_
 ·exact⟨_,0,Nat.zero_le _,rfl,rfl,HX.out,HO.out⟩
 clear HO HX c7 g1;rintro X z q vs wr hX - ⟨i,hi,rfl,rfl,hE,hO⟩;simp[litL,lk];have HE:=zh hE;clear hE;by_cases hlt:i<v.lists.length
 ·have hlt':i<v'.lists.length:=by rw[← HLL.out.1];exact hlt
  obtain⟨b,off,rfl,h4⟩:=HK.out.1 (by intro h;simp[h] at hlt);obtain⟨b',off',rfl,h4'⟩:=HK.out.2.2.1 (by intro h;simp[h] at hlt');obtain⟨u,u2,s1,s2,s3,s4⟩:=h4 i hlt;obtain⟨u',u2',s1',s2',s3',s4'⟩:=h4' i hlt';have c7:=hO.swap.obj.cell HH.out.1;have c7':=hO.obj.cell HH.out.2.2.1;have g1:=hO.swap.obj.lt;have g2:=hO.obj.lt;have x1:=Mem.aj hO.inn s1;have x2:=Mem.aj hO.inn s2;have xl:=Mem.ay hO.inn s1;have x1':=Mem.aj hO.inn s1';have x2':=Mem.aj hO.inn s2';have xl':=Mem.ay hO.inn s1';have HLS:=zh (eU v.lists v'.lists i hlt hlt');have HLC:=zh (Je v.lists[i] v'.lists[i]);have HO:=zh hO;clear hO h4 h4' s1 s2 s1' s2';have HLN:=zh (zi (HL.out.1 _ (List.getElem_mem hlt)) (HL.out.2 _ (List.getElem_mem hlt')));have HKC:=zh (zi (fun d (hd:d∈bR v.lists[i])=>HCN.out.1 d (Ac (List.getElem_mem hlt) hd)) (fun d (hd:d∈bR v'.lists[i])=>HCN.out.2 d (Ac (List.getElem_mem hlt') hd)));generalize v.lists[i]=cl at *
  generalize v'.lists[i]=cl' at *
  have HVL:=zh (fun (w':World) (h:m.inn w')=>iK u u2 cl m n w' h s3 s4 HLN.out.1);have HVL':=zh (fun (w':World) (h:m.inn w')=>iK u' u2' cl' m n w' h s3' s4' HLN.out.2);obtain⟨ua,uc,rfl,-,r2,-⟩:=s3;obtain⟨ua2,uc2,rfl,-⟩:=s4;obtain⟨ub,ud,rfl,-,r2',-⟩:=s3';obtain⟨ub2,ud2,rfl,-⟩:=s4';unfold maxLen at r2 r2'
  go_upto_region 6 with (fail)
  refine aR [2,3,6,7,42,43] (fun vs w'=>∃p q,vs=[.pointer (some ⟨w.heap.size,0,none⟩),.pointer (some ⟨w.heap.size+1,0,none⟩),.pointer (some ⟨p,0,none⟩),.pointer (some ⟨q,0,none⟩),.int .i64 (v.lists.length:Int),.int .i64 (i:Int)] ∧
   Own w m w' m [.obj p 51 #[.slice ua cl.1.length uc,.slice ua2 cl.2.length uc2],.obj q 51 #[.slice ub cl'.1.length ud,.slice ub2 cl'.2.length ud2],.obj (w.heap.size+1) 33 N'.toArray,.obj w.heap.size 33 N.toArray]) ?_ ?_
  ·intro Y hY
   go_region
   ·exact hY.out _ _ rfl ⟨wr.heap.size,wr.heap.size+1,rfl,by simpa only[cz] using ((HO.out.al #[.slice ua cl.1.length uc,.slice ua2 cl.2.length uc2] 51).al #[.slice ub cl'.1.length ud,.slice ub2 cl'.2.length ud2] 51).dr.swap⟩
   ·exact hY.out _ _ rfl ⟨wr.heap.size+1,wr.heap.size,rfl,by simpa only[cz] using ((HO.out.al #[.slice ub cl'.1.length ud,.slice ub2 cl'.2.length ud2] 51).al #[.slice ua cl.1.length uc,.slice ua2 cl.2.length uc2] 51).dr⟩
  clear HO c7 c7' g1 g2 x1 x2 xl x1' x2' xl';rintro z1 vs w2 - ⟨p,q,rfl,hO⟩;simp[litL,lk];have y1:=hO.obj.cell (i:=0) rfl;have y2:=hO.swap.obj.cell (i:=0) rfl;have y3:=hO.obj.lt;have y4:=hO.swap.obj.lt;have HO:=zh hO;clear hO;by_cases hln:cl.1.length=cl'.1.length
  case neg=>
   have hd:((cl.1.length:Int) != (cl'.1.length:Int))=true:=by simp;omega
   have HX:=zh (show ¬ v=v' from fun h=>hln (HLC.out.1 (HLS.out.1 (HE.out.1 h).1).1).1);clear HLC HLS HE hln HVL HVL' HLN HKC hX;generalize cl.1.length=n1 at *
   generalize cl'.1.length=n2 at *
   go_wp2
   go_quiet (fail)
   go_wp2;exact hR.out _ _ ⟨aJ (by rw[az HX.out]),(HO.out.drN _).below⟩
  have HX:=zh (show v=v'↔bR cl=bR cl'∧v.lists.drop (i+1)=v'.lists.drop (i+1)∧v.structs=v'.structs from
   ⟨fun h=>⟨(HLC.out.1 (HLS.out.1 (HE.out.1 h).1).1).2,(HLS.out.1 (HE.out.1 h).1).2,(HE.out.1 h).2⟩,fun h=>HE.out.2 ⟨HLS.out.2 ⟨HLC.out.2 ⟨hln,h.1⟩,h.2.1⟩,h.2.2⟩⟩)
  clear HLC HLS HE HLN;generalize cl.1.length=n1 at *
  generalize cl.2.length=n3 at *
  generalize cl'.2.length=n4 at *
  generalize cl'.1.length=n2 at *
  subst hln;generalize bR cl=L1 at *
  generalize bR cl'=L2 at *
  have hin0:=HO.out.inn
  go_upto_region 7 with (fail)
  refine aR [2,3,42,43,70] (fun vs w'=>vs=[.pointer (some ⟨w.heap.size,0,none⟩),.pointer (some ⟨w.heap.size+1,0,none⟩),.int .i64 (v.lists.length:Int),.int .i64 (i:Int),.bool (!tf (L1=L2))] ∧
   Own w m w' m [.obj (w.heap.size+1) 33 N'.toArray,.obj w.heap.size 33 N.toArray]) ?_ ?_
  ·intro Y hY;refine bv 15 8 (fun j=>[Fact.is (·=.pointer (some ⟨p,0,none⟩)),Fact.is (·=.slice ua n1 uc),Fact.is (·=.int .i64 (n1:Nat)),Fact.is (·=.pointer (some ⟨q,0,none⟩)),Fact.is (·=.slice ub n1 ud),Fact.is (·=.int .i64 (n1:Nat)),Fact.is (·=.bool false),Fact.is (·=.bool false),Fact.is (·=.agg #[.slice ua n1 uc,.slice ua2 n3 uc2]),Fact.mem m [9] (fun M u=>dB (VAt M n) M u L1),Fact.is (·=.agg #[.slice ub n1 ud,.slice ub2 n4 ud2]),Fact.mem m [11] (fun M u=>dB (VAt M n) M u L2),Fact.is (·=.bool (tf (L1=L2))),Fact.is (·=.bool (!tf (L1=L2))),Fact.is (·=.bool (!tf (L1=L2)))].getD j Fact.any) zk zk ?_ ?_
   ·intro i hi o win a wr ho RA;have HO2:=HO.out.dr.move RA.below;have y1:=HO2.obj.cell (i:=0) rfl;have y2:=HO2.swap.obj.cell (i:=0) rfl;have y5:=HO2.obj.cell (i:=1) rfl;have y6:=HO2.swap.obj.cell (i:=1) rfl;have y3:=HO2.obj.lt;have y4:=HO2.swap.obj.lt;rcases (show i=0∨i=1∨i=2∨i=3∨i=4∨i=5∨i=6∨i=7∨i=8∨i=9∨i=10∨i=11∨i=12∨i=13∨i=14 by omega) with rfl | rfl | rfl | rfl | rfl | rfl | rfl | rfl | rfl | rfl | rfl | rfl | rfl | rfl | rfl
    ·have e6:=RA.k 6;cases ho;exact wv rfl rfl rfl
    ·have e56:a.tmps.getD 56 undef=_:=RA.d 0 rfl;cases ho;exact wv rfl rfl rfl
    ·have e57:a.tmps.getD 57 undef=_:=RA.d 1 rfl;cases ho;exact wv rfl rfl rfl
    ·have e7:=RA.k 7;cases ho;exact wv rfl rfl rfl
    ·have e59:a.tmps.getD 59 undef=_:=RA.d 3 rfl;cases ho;exact wv rfl rfl rfl
    ·have e60:a.tmps.getD 60 undef=_:=RA.d 4 rfl;cases ho;exact wv rfl rfl rfl
    ·have e58:a.tmps.getD 58 undef=_:=RA.d 2 rfl;have e61:a.tmps.getD 61 undef=_:=RA.d 5 rfl;cases ho;exact wv rfl rfl rfl
    ·have e62:a.tmps.getD 62 undef=_:=RA.d 6 rfl;cases ho;exact wv rfl rfl rfl
    ·have e6:=RA.k 6;have e63:a.tmps.getD 63 undef=_:=RA.d 7 rfl;cases ho;exact wy rfl rfl rfl e63 rfl
    ·have e64:a.tmps.getD 64 undef=_:=RA.d 8 rfl;have e63:a.tmps.getD 63 undef=_:=RA.d 7 rfl;cases ho;refine we2 rfl rfl rfl e63 (HVL.out _ HO2.inn) ?_;rintro e w' ⟨r,rfl,hb,hr⟩;exact⟨_,rfl,_,rfl,hb,pO (R:=fun M u=>dB (VAt M n) M u L1) (fun k _ h=>dB.xI k h) HO2.inn hb hr⟩
    ·have e7:=RA.k 7;have e63:a.tmps.getD 63 undef=_:=RA.d 7 rfl;cases ho;exact wy rfl rfl rfl e63 rfl
    ·have e66:a.tmps.getD 66 undef=_:=RA.d 10 rfl;have e63:a.tmps.getD 63 undef=_:=RA.d 7 rfl;cases ho;refine we2 rfl rfl rfl e63 (HVL'.out _ HO2.inn) ?_;rintro e w' ⟨r,rfl,hb,hr⟩;exact⟨_,rfl,_,rfl,hb,pO (R:=fun M u=>dB (VAt M n) M u L2) (fun k _ h=>dB.xI k h) HO2.inn hb hr⟩
    ·have e65:(Fact.mem m [9] (fun M u=>dB (VAt M n) M u L1)).holds (a.tmps.getD 65 undef) win wr:=RA.d 9 rfl;have e67:(Fact.mem m [11] (fun M u=>dB (VAt M n) M u L2)).holds (a.tmps.getD 67 undef) win wr:=RA.d 11 rfl;have e63:a.tmps.getD 63 undef=_:=RA.d 7 rfl;cases ho;have f1:dB (VAt (m.wins wr win [9]) n) (m.wins wr win [9]) _ L1:=e65;have f2:dB (VAt (m.wins wr win [11]) n) (m.wins wr win [11]) _ L2:=e67;have M1:=Mem.rD (m:=m) (es:=[9,11]) HO2.inn win (ds:=[9]) zS;have M2:=Mem.rD (m:=m) (es:=[9,11]) HO2.inn win (ds:=[11]) zS;refine we2 rfl rfl rfl e63 (JK H _ _ L1 L2 (m.wins wr win [9,11]) wr (Mem.lK HO2.inn win [9,11]) (f1.xI M1) (f2.xI M2) HKC.out.1 HKC.out.2) ?_;rintro e w' ⟨rfl,hb⟩;exact⟨_,rfl,_,rfl,hb,rfl⟩
    ·have e68:a.tmps.getD 68 undef=_:=RA.d 12 rfl;have e63:a.tmps.getD 63 undef=_:=RA.d 7 rfl;cases ho;exact wy rfl rfl rfl e63 rfl
    ·have e63:a.tmps.getD 63 undef=_:=RA.d 7 rfl;have e69:a.tmps.getD 69 undef=_:=RA.d 13 rfl;cases ho;exact wv rfl rfl rfl
   ·intro win a wr E;have e2:=E.keep 2 zk;have e3:=E.keep 3 zk;have e42:=E.keep 42 zk;have e43:=E.keep 43 zk;have e70:a.tmps.getD 70 undef=.bool (!tf (L1=L2)):=E.fact 14 _ zo rfl;have hZ:=HO.out.dr.move E.below;obtain⟨t1,d⟩:=a;obtain rfl:d=[]:=E.defers;refine dH zk (hY.out _ _ E.size ⟨?_,hZ.tail.tail⟩) _;simp only[List.map_cons,List.map_nil,e2,e3,e42,e43,e70]
    rfl
  clear HO y1 y2 y3 y4 hin0 HVL HVL' HKC;rintro z2 vs w3 - ⟨rfl,hO⟩;simp[litL,lk];have HO:=zh hO;clear hO;by_cases hL:L1=L2
  ·have HX2:=zh (HX.out.trans ⟨fun h=>h.2,fun h=>⟨hL,h⟩⟩);rw[aH hL];clear HX hL;go_wp2;exact hX.out _ _ _ zo rfl ⟨i+1,zo,rfl,rfl,HX2.out,HO.out⟩
  ·have HX2:=zh (show ¬ v=v' from fun h=>hL (HX.out.1 h).1);rw[az hL];clear HX hL hX;go_wp2;exact hR.out _ _ ⟨aJ (by rw[az HX2.out]),HO.out.below⟩
 obtain rfl:i=v.lists.length:=zo;have HX:=zh (show v=v'↔v.structs=v'.structs from HE.out.trans ⟨fun h=>h.2,fun h=>⟨by rw[List.drop_eq_nil_of_le zo,List.drop_eq_nil_of_le (by rw[← HLL.out.1];omega)],h⟩⟩);have c8:=hO.swap.obj.cell HH.out.2.1;have g1:=hO.swap.obj.lt;have HO:=zh hO;clear hO hX HE;go_wp2;refine au [2,3,74,75] (fun q vs wr=>∃(i:Nat),i≤v.structs.length∧q=v.structs.length - i∧vs=[.pointer (some ⟨w.heap.size,0,none⟩),.pointer (some ⟨w.heap.size+1,0,none⟩),.int .i64 (v.structs.length:Int),.int .i64 (i:Int)]∧(v=v'↔v.structs.drop i=v'.structs.drop i) ∧
  Own w m wr m [.obj (w.heap.size+1) 33 N'.toArray,.obj w.heap.size 33 N.toArray]) ?_ ?_
 ·exact⟨_,0,Nat.zero_le _,rfl,rfl,HX.out,HO.out⟩
 clear HO HX c8 g1;rintro X z q vs wr hX - ⟨i,hi,rfl,rfl,hE,hO⟩;simp[litL,lk];have HE:=zh hE;clear hE;by_cases hlt:i<v.structs.length
 case neg=>
  have HX:=zh (show v=v' from HE.out.2 (by rw[List.drop_eq_nil_of_le zo,List.drop_eq_nil_of_le (by rw[← HLL.out.2];omega)]));have HB:=zh hO.below;clear hO hX HE;go_wp2;exact hR.out _ _ ⟨aJ (by rw[aH HX.out]),HB.out⟩
 have hlt':i<v'.structs.length:=by rw[← HLL.out.2];exact hlt
 obtain⟨b,off,rfl,h4⟩:=HK.out.2.1 (by intro h;simp[h] at hlt);obtain⟨b',off',rfl,h4'⟩:=HK.out.2.2.2 (by intro h;simp[h] at hlt');obtain⟨u,u2,s1,s2,s3,s4⟩:=h4 i hlt;obtain⟨u',u2',s1',s2',s3',s4'⟩:=h4' i hlt';have HLS:=zh (eU v.structs v'.structs i hlt hlt');have HSX:=zh (fun (w':World) (h:m.inn w')=>Fh H v.structs[i] v'.structs[i] u u2 u' u2' m w' h s3 s4 s3' s4' (fun d hd=>HCN.out.1 d (sZ (List.getElem_mem hlt) hd)) (fun d hd=>HCN.out.2 d (sZ (List.getElem_mem hlt') hd)));generalize v.structs[i]=cl at *
 generalize v'.structs[i]=cl' at *
 obtain⟨ua,uc,rfl,-⟩:=s3;obtain⟨ua2,uc2,rfl,-⟩:=s4;obtain⟨ub,ud,rfl,-⟩:=s3';obtain⟨ub2,ud2,rfl,-⟩:=s4';have HO:=zh hO;have y8:=hO.swap.obj.cell HH.out.2.1;have y9:=hO.swap.obj.lt;clear hO h4 h4'
 go_upto_region 13 with (fail)
 clear y8 y9;refine aR [2,3,74,75,89] (fun vs w'=>vs=[.pointer (some ⟨w.heap.size,0,none⟩),.pointer (some ⟨w.heap.size+1,0,none⟩),.int .i64 (v.structs.length:Int),.int .i64 (i:Int),.bool (!tf (cl=cl'))] ∧
  Own w m w' m [.obj (w.heap.size+1) 33 N'.toArray,.obj w.heap.size 33 N.toArray]) ?_ ?_
 ·intro Y hY;refine bv 12 8 (fun j=>[Fact.is (·=.pointer (some ⟨w.heap.size,8,none⟩)),Fact.is (·=.slice (some ⟨b,off,none⟩) v.structs.length b5),Fact.is (·=.int .i64 (i:Int)),Fact.is (·=.pointer (some ⟨b,off+i*2,none⟩)),Fact.is (·=.agg #[.slice ua cl.1.length uc,.slice ua2 cl.2.length uc2]),Fact.is (·=.pointer (some ⟨w.heap.size+1,8,none⟩)),Fact.is (·=.slice (some ⟨b',off',none⟩) v'.structs.length b5'),Fact.is (·=.int .i64 (i:Int)),Fact.is (·=.pointer (some ⟨b',off'+i*2,none⟩)),Fact.is (·=.agg #[.slice ub cl'.1.length ud,.slice ub2 cl'.2.length ud2]),Fact.is (·=.bool (tf (cl=cl'))),Fact.is (·=.bool (!tf (cl=cl')))].getD j Fact.any) zk zk ?_ ?_
  ·intro i hi o win a wr ho RA;have HO2:=HO.out.dr.move RA.below;have c8:=HO2.swap.obj.cell HH.out.2.1;have c8':=HO2.obj.cell HH.out.2.2.2;have g1:=HO2.swap.obj.lt;have g2:=HO2.obj.lt;have x1:=Mem.aj HO2.inn s1;have x2:=Mem.aj HO2.inn s2;have xl:=Mem.ay HO2.inn s1;have x1':=Mem.aj HO2.inn s1';have x2':=Mem.aj HO2.inn s2';have xl':=Mem.ay HO2.inn s1';rcases (show i=0∨i=1∨i=2∨i=3∨i=4∨i=5∨i=6∨i=7∨i=8∨i=9∨i=10∨i=11 by omega) with rfl | rfl | rfl | rfl | rfl | rfl | rfl | rfl | rfl | rfl | rfl | rfl
   ·have e2:=RA.k 2;cases ho;exact wv rfl rfl rfl
   ·have e78:a.tmps.getD 78 undef=_:=RA.d 0 rfl;cases ho;exact wv rfl rfl rfl
   ·have e8:=RA.k 8;cases ho;exact wv rfl rfl rfl
   ·have e79:a.tmps.getD 79 undef=_:=RA.d 1 rfl;have e80:a.tmps.getD 80 undef=_:=RA.d 2 rfl;cases ho;refine aP rfl rfl (aM (by go_simp;try (intro hh;omega)) ⟨_,rfl,Below.refl _ _,rfl⟩)
   ·have e81:a.tmps.getD 81 undef=_:=RA.d 3 rfl;cases ho;exact wv rfl rfl rfl
   ·have e3:=RA.k 3;cases ho;exact wv rfl rfl rfl
   ·have e83:a.tmps.getD 83 undef=_:=RA.d 5 rfl;cases ho;exact wv rfl rfl rfl
   ·have e8:=RA.k 8;cases ho;exact wv rfl rfl rfl
   ·have e84:a.tmps.getD 84 undef=_:=RA.d 6 rfl;have e85:a.tmps.getD 85 undef=_:=RA.d 7 rfl;cases ho;refine aP rfl rfl (aM (by go_simp;try (intro hh;omega)) ⟨_,rfl,Below.refl _ _,rfl⟩)
   ·have e86:a.tmps.getD 86 undef=_:=RA.d 8 rfl;cases ho;exact wv rfl rfl rfl
   ·have e82:a.tmps.getD 82 undef=_:=RA.d 4 rfl;have e87:a.tmps.getD 87 undef=_:=RA.d 9 rfl;cases ho;refine we rfl rfl (HSX.out _ HO2.inn) ?_;rintro e w' ⟨rfl,hb⟩;exact⟨_,rfl,_,rfl,hb,rfl⟩
   ·have e88:a.tmps.getD 88 undef=_:=RA.d 10 rfl;cases ho;exact wv rfl rfl rfl
  ·intro win a wr E;have e2:=E.keep 2 zk;have e3:=E.keep 3 zk;have e74:=E.keep 74 zk;have e75:=E.keep 75 zk;have e89:a.tmps.getD 89 undef=.bool (!tf (cl=cl')):=E.fact 11 _ zo rfl;have hZ:=HO.out.dr.move E.below;obtain⟨t1,d⟩:=a;obtain rfl:d=[]:=E.defers;refine dH zk (hY.out _ _ E.size ⟨?_,hZ⟩) _;simp only[List.map_cons,List.map_nil,e2,e3,e74,e75,e89]
   rfl
 clear HO s1 s2 s1' s2' HSX;rintro z2 vs w3 - ⟨rfl,hO⟩;simp[litL,lk];have HO:=zh hO;clear hO;by_cases hL:cl=cl'
 ·have HX2:=zh (HE.out.trans (HLS.out.trans ⟨fun h=>h.2,fun h=>⟨hL,h⟩⟩));rw[aH hL];clear HE HLS hL;go_wp2;exact hX.out _ _ _ zo rfl ⟨i+1,zo,rfl,rfl,HX2.out,HO.out⟩
 ·have HX2:=zh (show ¬ v=v' from fun h=>hL (HLS.out.1 (HE.out.1 h)).1);rw[az hL];clear HE HLS hL hX;go_wp2;exact hR.out _ _ ⟨aJ (by rw[az HX2.out]),HO.out.below⟩
theorem rM:∀n,uW n
 | 0=>fun _ _ _ _ _ _ _ h _ _ _=>h.elim
 | n+1=>MP (rM n)
theorem K4 {c:Lc} {i:Nat} (h:i<c.1.length):nE c (i:Int)=(c.1[i],true):=by
 unfold nE;rw[dif_pos ⟨zo,by simpa using h⟩];rfl
theorem Gi {c:Lc} {i:Int} (h0:0≤i) (h:¬ i.toNat<c.1.length) (h2:0<c.2.length):nE c i=(c.2[0],true):=by
 unfold nE;rw[dif_neg (fun k=>h k.2),dif_pos ⟨h0,h2⟩]
theorem Ee {c:Lc} {i:Int} (h:i<0∨(¬ i.toNat<c.1.length∧c.2.length=0)):nE c i=((botV,botV),false):=by
 unfold nE;rw[dif_neg (fun k=>by rcases h with h | h <;> omega),dif_neg (fun k=>by rcases h with h | h <;> omega)]
def Kh (m:Mem) (n:Nat) (r:Vd × Bool) (e:Ending):Prop:=∃x y,e=.returned (.tuple #[cZ r.1 x y,.bool r.2])∧VAt m (n+1) x r.1.1∧VAt m (n+1) y r.1.2
theorem rP (u u2:Value) (c:Lc) (i:Int) (m:Mem) (n:Nat) (w:World) (hm:m.inn w) (h1:dB (VAt m n) m u c.1) (h2:dB (VAt m n) m u2 c.2) :
 Calls Tryz.prog 32 #[.agg #[u,u2],.int .i64 i] w fun e w'=>Kh m n (nE c i) e∧Below w.heap.size w w':=by
 obtain⟨a1,c1,rfl,p1,q1,k1⟩:=h1;obtain⟨a2,c2,rfl,p2,q2,k2⟩:=h2;unfold maxLen at q1 q2;have hO:=(((Own.start hm).al #[.slice a1 c.1.length c1,.slice a2 c.2.length c2] 51).al zcD 35);simp only[cz] at hO;have HO:=zh hO;have HK:=zh (zi k1 k2);clear hO k1 k2;refine av fun R hR=>?_;by_cases h0:i<0
 ·have hd:decide (0≤i)=false:=decide_eq_false zo;have hd2:decide (i<0)=true:=decide_eq_true h0;have HR:=zh (show Kh m n (nE c i) (.returned (.tuple #[cZ (botV,botV) bQ bQ,.bool false])) by
   rw[Ee (.inl h0)];exact⟨bQ,bQ,rfl,(VAt.leaf m false).mono zo,(VAt.leaf m false).mono zo⟩)
  clear h0
  go_enter Tryz.func32,Tryz.ntmps32
  go_wp2_with (first | refine aI tyD rfl (.tmp 4) (.tmp 34) rfl (cs:=zcD) rfl rfl rfl rfl zD HO.out.obj ?_ | refine aI tyD rfl (.tmp 4) (.tmp 8) rfl (cs:=zcD) rfl rfl rfl rfl zD HO.out.obj ?_)
  intro w' ho hg;have HF:=zh (HO.out.setObj ho hg);have hr:=tyD.load (cs:=zcD.toList) rfl ho.all;clear HO hg ho;go_wp2;refine bodyPost_ret (v:=.tuple #[.agg zcD,.bool false]) (fD Tryz.results32 rfl hr) rfl ?_;exact hR.out _ _ ⟨HR.out,HF.out.below⟩
 obtain⟨k,rfl⟩:=Int.eq_ofNat_of_zero_le (by omega:0≤i);by_cases h1:k<c.1.length
 ·obtain⟨b,off,rfl,h4⟩:=HK.out.1 (by intro h;simp[h] at h1);obtain⟨x,y,hc,hx,hy⟩:=(h4 k h1).cells;have hl:(dcs c.1[k] x y).length=18:=rfl;have h1d:=eF hx hy;have hcl:=Mem.ay HO.out.inn (hc 0 _ rfl);have HC:=zh (fun j u hj=>Mem.aj HO.out.inn (hc j u hj));have HR:=zh (show Kh m n (nE c (k:Int)) (.returned (.tuple #[cZ c.1[k] x y,.bool true])) by
   rw[K4 h1];exact⟨x,y,rfl,hx.succ,hy.succ⟩)
  unfold cZ at HR;generalize dcs c.1[k] x y=D at *
  clear h4 hc hx hy
  go_enter Tryz.func32,Tryz.ntmps32
  go_wp2_with (first
   | refine ae tyD rfl (.tmp 19) rfl rfl D hl HC.out ?_
   | refine ae tyD rfl (.tmp 17) rfl rfl D hl HC.out ?_
   | refine aI tyD rfl (.tmp 4) (.tmp 20) rfl (cs:=D.toArray) rfl rfl rfl (by simpa using hl) (fun u hu=>h1d u (by simpa using hu)) HO.out.obj ?_)
  intro w' ho hg;have HF:=zh (HO.out.setObj ho hg);have hr:=tyD.load hl ho.all;clear HO hg ho HC;go_wp2;refine bodyPost_ret (v:=.tuple #[.agg D.toArray,.bool true]) (fD Tryz.results32 rfl hr) rfl ?_;exact hR.out _ _ ⟨HR.out,HF.out.below⟩
 by_cases h2:0<c.2.length
 ·obtain⟨b,off,rfl,h4⟩:=HK.out.2 (by intro h;simp[h] at h2);obtain⟨x,y,hc,hx,hy⟩:=(h4 0 h2).cells;simp only[Nat.zero_mul,Nat.add_zero] at hc;have hl:(dcs c.2[0] x y).length=18:=rfl;have h1d:=eF hx hy;have hcl:=Mem.ay HO.out.inn (hc 0 _ rfl);have HC:=zh (fun j u hj=>Mem.aj HO.out.inn (hc j u hj));have HR:=zh (show Kh m n (nE c (k:Int)) (.returned (.tuple #[cZ c.2[0] x y,.bool true])) by
   rw[Gi zo (by simpa using h1) h2];exact⟨x,y,rfl,hx.succ,hy.succ⟩)
  unfold cZ at HR;generalize dcs c.2[0] x y=D at *
  clear h4 hc hx hy
  go_enter Tryz.func32,Tryz.ntmps32
  go_wp2_with (first
   | refine ae tyD rfl (.tmp 32) rfl rfl D hl HC.out ?_
   | refine ae tyD rfl (.tmp 25) rfl rfl D hl HC.out ?_
   | refine aI tyD rfl (.tmp 4) (.tmp 33) rfl (cs:=D.toArray) rfl rfl rfl (by simpa using hl) (fun u hu=>h1d u (by simpa using hu)) HO.out.obj ?_)
  intro w' ho hg;have HF:=zh (HO.out.setObj ho hg);have hr:=tyD.load hl ho.all;clear HO hg ho HC;go_wp2;refine bodyPost_ret (v:=.tuple #[.agg D.toArray,.bool true]) (fD Tryz.results32 rfl hr) rfl ?_;exact hR.out _ _ ⟨HR.out,HF.out.below⟩
 ·have HR:=zh (show Kh m n (nE c (k:Int)) (.returned (.tuple #[cZ (botV,botV) bQ bQ,.bool false])) by
   rw[Ee (.inr ⟨by simpa using h1,zo⟩)];exact⟨bQ,bQ,rfl,(VAt.leaf m false).mono zo,(VAt.leaf m false).mono zo⟩)
  go_enter Tryz.func32,Tryz.ntmps32
  go_wp2_with (refine aI tyD rfl (.tmp 4) (.tmp 34) rfl (cs:=zcD) rfl rfl rfl rfl zD HO.out.obj ?_)
  intro w' ho hg;have HF:=zh (HO.out.setObj ho hg);have hr:=tyD.load (cs:=zcD.toList) rfl ho.all;clear HO hg ho;go_wp2;refine bodyPost_ret (v:=.tuple #[.agg zcD,.bool false]) (fD Tryz.results32 rfl hr) rfl ?_;exact hR.out _ _ ⟨HR.out,HF.out.below⟩
theorem qp (d d':Vd) (x y x' y':Sl) (m:Mem) (n:Nat) (w:World) (hm:m.inn w) (htab:TabM m) (h1:VAt m n x d.1) (h2:VAt m n y d.2) (h1':VAt m n x' d'.1) (h2':VAt m n y' d'.2) (kd:gN n d) (kd':gN n d') (f1:FewV n d.1) (f2:FewV n d.2) :
 Calls Tryz.prog 27 #[cZ d x y,cZ d' x' y'] w fun e w'=>e=.returned (.bool (tf (d=d')&&(tf (SndV d.1)&&tf (SndV d.2))))∧Below w.heap.size w w':=by
 have hO:=((Own.start hm).al (dcs d x y).toArray 35).al (dcs d' x' y').toArray 35;simp only[cz] at hO;have HC:=zh (jP (rM n) d d' x y x' y' m _ hO.inn h1 h2 h1' h2' kd kd');have HF:=zh (fun w' (h:m.inn w')=>kM d x y m n w' h htab h1 h2 f1 f2 kd.1 kd.2);have hN:(dcs d x y).length=18:=rfl;have hN':(dcs d' x' y').length=18:=rfl;have HO:=zh hO;have q0:=hO.swap.obj.all;have q0':=hO.obj.all;unfold cZ at *
 generalize dcs d x y=D at *
 generalize dcs d' x' y'=D' at *
 clear hO h1 h2 h1' h2' f1 f2;generalize (tf (SndV d.1)&&tf (SndV d.2))=s1 at *
 generalize tf (d=d')=s2 at *
 refine av fun R hR=>?_
 go_enter Tryz.func27,Tryz.ntmps27
 cases s2
 ·go_wp2_with (first
   | refine ae tyD rfl (.tmp 2) rfl rfl D hN q0 ?_
   | refine ae tyD rfl (.tmp 3) rfl rfl D' hN' q0' ?_
   | (go_at_call 55;refine HC.out.mono ?_;rintro e w1 ⟨rfl,hb1⟩))
  exact hR.out _ _ ⟨rfl,(HO.out.move hb1).below⟩
 ·go_wp2_with (first
   | refine ae tyD rfl (.tmp 3) rfl rfl D' hN' q0' ?_
   | (go_at_call 55;refine HC.out.mono ?_;rintro e w1 ⟨rfl,hb1⟩;have hO1:=HO.out.move hb1;have q1:=hO1.swap.obj.all)
   | refine ae tyD rfl (.tmp 2) rfl rfl D hN q1 ?_
   | refine ae tyD rfl (.tmp 2) rfl rfl D hN q0 ?_
   | (go_at_call 18;refine (HF.out _ hO1.inn).mono ?_;rintro e w2 ⟨rfl,hb2⟩))
  exact hR.out _ _ ⟨rfl,(hO1.move hb2).below⟩
def ma:St:=([],[(allT,(topV,topV))])
def dV:Vl:=.mk false dI [] [ma]
theorem LV (s:ByteArray):accB s allT=true:=by
 unfold accB;rw[aH x9.canon.wf,x9.lang];rfl
theorem GM:fZ allT:=⟨fun s hs=>by
 simp only[allT,List.mem_singleton] at hs;subst hs;simp,by simp[allT]⟩
theorem KJ:bX ma:=⟨fun k hk=>by
 simp only[ma,List.mem_singleton] at hk;subst hk;exact⟨x9.canon,by simp[allT]⟩,fun w=>by simp[hitN,ma,LU]⟩
theorem JA (a:Bool):lI (.mk a dI [] []) where
 any _:=⟨rfl,rfl,rfl⟩
 rest c hc:=by simp[Vl.lists] at hc
 st c hc:=by simp[Vl.structs] at hc
 sc:=gz
theorem q8 (a:Bool) (n:Nat):Snd (n+1) (.mk a dI [] []):=⟨JA a,fun x hx=>by simp[Vl.kids,Vl.lists,Vl.structs] at hx⟩
theorem vS:dV.kids=[(topV,topV)]:=rfl
theorem ow {c:St} (hc:c∈dV.structs):c=ma:=by simpa [dV,Vl.structs] using hc
theorem FM:lI dV where
 any h:=by simp[dV,Vl.any] at h
 rest c hc:=by simp[dV,Vl.lists] at hc
 st c hc:=by
  rw[ow hc];exact⟨⟨fun f hf=>by simp[ma] at hf,fun i h=>absurd h (Nat.not_lt_zero _)⟩,KJ⟩
 sc:=gz
theorem oz:SndV dV:=⟨FM,fun x hx=>by
 obtain rfl:x=(topV,topV):=by simpa [vS] using hx
 exact⟨q8 true 14,q8 true 14⟩⟩
theorem IV:depV dV=2:=by unfold depV;rw[if_pos (aH oz)];rfl
theorem IU:sizV dV=3:=by unfold sizV;rw[if_pos (aH oz)];rfl
theorem FN:FewP dV where
 sc:=⟨Nat.zero_le _,Nat.zero_le _,fun s hs=>(by simp[dV,Vl.s,dI] at hs),Nat.zero_le _⟩
 l:=Nat.zero_le _
 s:=by simp[dV,Vl.structs]
 f c hc:=by rw[ow hc];exact Nat.zero_le _
 k c hc:=by rw[ow hc];simp[ma]
 lab c hc f hf:=by rw[ow hc] at hf;simp[ma] at hf
 set c hc k hk:=by
  rw[ow hc] at hk;obtain rfl:k=(allT,(topV,topV)):=by simpa [ma] using hk
  exact GM
theorem jD:FewV 2 dV:=⟨FN,fun x hx=>by
 obtain rfl:x=(topV,topV):=by simpa [vS] using hx
 exact⟨pW 0 true,pW 0 true⟩⟩
theorem jE:vcnt 2 dV=3:=rfl
theorem oF (m:Mem) (w:World) (hm:m.inn w) :
 Calls Tryz.prog 42 #[] w fun e w'=>∃u,e=.returned (.agg #[.slice none 0 0,u])∧Below w.heap.size w w'∧iA (VAt (m.grow w w') 1) (m.grow w w') u ma.2:=by
 have hO:=(Own.start hm).al #[.slice none 0 0,.slice none 0 0] 45;have HA:=zh (FB m (w.alloc (.cells #[.slice none 0 0,.slice none 0 0] 45)));have HT:=zh (fun w'=>vJ w');have HO:=zh hO;have hd:cZ (topV,topV) bQ bQ=.agg #[.bool true,.bool false,.bool false,.bool false,.slice none 0 0,.slice none 0 0,.slice none 0 0,.slice none 0 0,.slice none 0 0,.bool true,.bool false,.bool false,.bool false,.slice none 0 0,.slice none 0 0,.slice none 0 0,.slice none 0 0,.slice none 0 0]:=rfl;have HD:=zh hd;clear hO hd;refine av fun R hR=>?_
 go_enter Tryz.func42,Tryz.ntmps42
 go_wp2_with fail
 refine HA.out.mono ?_;rintro e w1 ⟨r,rfl,hb1,hr⟩;have hO1:=HO.out.call hb1;obtain⟨ra,rc,rfl,-⟩:=id hr
 go_wp2_with fail
 refine (HT.out _).mono ?_;rintro e w2 ⟨rfl,hb2⟩;rw[HD.out];have hO2:=hO1.move hb2;obtain⟨m3,l3,c3,hO3⟩:=kg 61 #[.slice ra allT.length rc,.bool true,.bool false,.bool false,.bool false,.slice none 0 0,.slice none 0 0,.slice none 0 0,.slice none 0 0,.slice none 0 0,.bool true,.bool false,.bool false,.bool false,.slice none 0 0,.slice none 0 0,.slice none 0 0,.slice none 0 0,.slice none 0 0] hO2;have f0:=hO3.obj.frozen 0;have f1:=hO3.obj.frozen 1;have g0:=hO3.obj.cell (i:=0) rfl;have g1:=hO3.obj.cell (i:=1) rfl;have gl:=hO3.obj.lt;have hO5:=(hO3.set 0 (.slice none 0 0)).set 1 (.slice (some ⟨w2.heap.size,0,none⟩) 1 1);have g4:=hO5.obj.cell (i:=0) (v:=.slice none 0 0) rfl;have g5:=hO5.obj.cell (i:=1) (v:=.slice (some ⟨w2.heap.size,0,none⟩) 1 1) rfl;have hle:=Mem.le_trans hO3.done (Mem.le_refl _);have HR:=zh (show iA (VAt m3 1) m3 (.slice (some ⟨w2.heap.size,0,none⟩) 1 1) ma.2 from
  ⟨some ⟨w2.heap.size,0,none⟩,1,rfl,by simp[ma],by simp[maxLen],fun _=>⟨_,0,rfl,fun i hi=>by
   obtain rfl:i=0:=by simpa [ma] using hi
   refine ⟨⟨_,c3 0 _ rfl,aZ l3 hr⟩,.of (x:=bQ) (y:=bQ) (fun j u hj=>?_) (VAt.leaf m3 true) (VAt.leaf m3 true)⟩;refine c3 (1+j) u ?_;have hj2:(dcs (topV,topV) bQ bQ)[j]?=some u:=hj;have hlt:=(List.getElem?_eq_some_iff.1 hj2).1;have:(dcs (topV,topV) bQ bQ).length=18:=rfl
   match j,hj2 with
   | 0,h=>exact h
   | 1,h=>exact h
   | 2,h=>exact h
   | 3,h=>exact h
   | 4,h=>exact h
   | 5,h=>exact h
   | 6,h=>exact h
   | 7,h=>exact h
   | 8,h=>exact h
   | 9,h=>exact h
   | 10,h=>exact h
   | 11,h=>exact h
   | 12,h=>exact h
   | 13,h=>exact h
   | 14,h=>exact h
   | 15,h=>exact h
   | 16,h=>exact h
   | 17,h=>exact h
   | k+18,_=>omega⟩⟩)
 have HO3:=zh (zi hO5.below hO5.done);clear hO1 hO2 hO3 hO5 hr l3 c3 HO HA HT hb1 hle HD;go_wp2;refine bodyPost_ret (v:=.agg #[.slice none 0 0,.slice (some ⟨w2.heap.size,0,none⟩) 1 1]) (by simp[results,Tryz.results42,go_sem,g4,g5]) rfl ?_;exact hR.out _ _ ⟨_,rfl,HO3.out.1,iA.le HO3.out.2 (fun _ _=>VAt.le HO3.out.2) HR.out⟩
theorem EP (s:ByteArray):qM (accB s) ma s=((topV,topV),3):=by
 unfold qM ma;simp[LV]
theorem Jo:qO botV=true:=by
 have h:gB botV.s=true:=qF;unfold qO;rw[h];rfl
theorem xK (w:World):(Instr.field 35 (cZ (botV,botV) bQ bQ) 0).run Tryz.prog w=.ok (botV.val bQ) w:=by kernel_rfl
theorem JG (w:World):(Instr.field 35 (cZ (topV,topV) bQ bQ) 0).run Tryz.prog w=.ok (topV.val bQ) w:=by kernel_rfl
theorem MG {m:Mem} {n g:Nat} {d:Vd} {x y:Sl} (hc:∀j u,(dcs d x y).toArray[j]?=some u→m.cell g j=some u) (hx:VAt m n x d.1) (hy:VAt m n y d.2):dB (VAt m n) m (.slice (some ⟨g,0,none⟩) 1 1) [d]:=
 ⟨some ⟨g,0,none⟩,1,rfl,zS,by simp[maxLen],fun _=>⟨g,0,rfl,fun i hi=>by
  obtain rfl:i=0:=by simpa using hi
  exact .of (fun j u hj=>by simpa using hc j u (by simpa using hj)) hx hy⟩⟩
theorem Jl:nE ([],[(topV,topV)]) 4=((topV,topV),true):=by simp[nE]
theorem Jm:nE ([],[]) 0=((botV,botV),false):=by simp[nE]
theorem Nq:gN 1 (topV,topV):=by simp[gN,vcnt,topV,Vl.kids,Vl.lists,Vl.structs]
theorem Nr:gN 1 (botV,botV):=by simp[gN,vcnt,botV,Vl.kids,Vl.lists,Vl.structs]
theorem Er:gN 2 (dV,dV):=⟨by rw[jE];omega,by rw[jE];omega⟩
theorem EW:¬ ((topV,topV):Vd)=(botV,botV):=fun h=>by
 have:=congrArg (fun d:Vd=>d.1.any) h;simp[topV,botV,Vl.any] at this
theorem dZ (m:Mem) (w:World) (hm:m.inn w) (htab:TabM m) :
 Calls Tryz.prog 14 #[] w fun e w'=>e=.returned (.bool true)∧Below w.heap.size w w':=by
 have HO:=zh (Own.start hm);have HA:=zh (oF m w hm);have HOP:=zh (fun (m':Mem) (w':World) (h:m'.inn w')=>oF m' w' h);have HTOP:=zh (fun w'=>vJ w');refine av fun R hR=>?_
 go_enter Tryz.func14,Tryz.ntmps14
 go_wp2_with fail
 refine HA.out.mono ?_;rintro e w1 ⟨u,rfl,hb1,hu⟩;have hO1:=HO.out.call hb1;have HT1:=zh (htab.le (Mem.dJ (w:=w1) hm));have HV:=zh (Bq (.slice none 0 0) u ma ⟨#[97]⟩ _ 1 w1 hO1.inn (dU _ _) hu (by simp[ByteArray.size,maxLen]));have HO1:=zh hO1;generalize m.grow w w1=m1 at *
 clear hO1 HO HA hb1 hu htab
 go_wp2_with fail
 refine HV.out.mono ?_;rintro e w2 ⟨hv,hb2⟩;rw[EP] at hv;obtain⟨x,y,rfl,hx,hy⟩:=hv;have hO2:=(HO1.out.move hb2).al zcD 35;have hl:(dcs (topV,topV) x y).length=18:=rfl;have h1d:=eF (d:=(topV,topV)) hx hy;have HIT:=zh (fun w'=>jd (topV,topV) x y w');have HO2:=zh hO2;unfold cZ at HIT ⊢;generalize dcs (topV,topV) x y=D at *
 clear hO2 HO1 HV hb2 hx hy
 go_wp2_with (refine aI tyD rfl (.tmp 1) (.tmp 11) rfl (cs:=D.toArray) rfl rfl rfl (by simpa using hl) (fun u hu=>h1d u (by simpa using hu)) HO2.out.obj ?_)
 intro w3 ob3 hg3;have hO3:=HO2.out.setObj ob3 hg3;have hl3:=Mem.kC (w:=w3) hO3.jr;have hc3:∀j u,D[j]?=some u→(m1.add w3 w2.heap.size).cell w2.heap.size j=some u:=fun j u hj=>Mem.dR hO3.obj (by simpa using hj);have HO3:=zh hO3.jm;have HT3:=zh (HT1.out.le hl3);generalize m1.add w3 _=m3 at *
 generalize w2.heap.size=g1 at *
 have HC3:=zh hc3;clear HO2 hO3 hl3 hc3 ob3 hg3 h1d HT1
 go_wp2_with fail
 refine (HTOP.out _).mono ?_;rintro e w4 ⟨rfl,hb4⟩;rw[show cZ (topV,topV) bQ bQ=.agg #[.bool true,.bool false,.bool false,.bool false,.slice none 0 0,.slice none 0 0,.slice none 0 0,.slice none 0 0,.slice none 0 0,.bool true,.bool false,.bool false,.bool false,.slice none 0 0,.slice none 0 0,.slice none 0 0,.slice none 0 0,.slice none 0 0] from rfl];obtain⟨m5,l5,c5,hO5⟩:=kg 35 (dcs (topV,topV) bQ bQ).toArray (HO3.out.move hb4);have hO5:Own w m (w4.alloc (.cells #[.bool true,.bool false,.bool false,.bool false,.slice none 0 0,.slice none 0 0,.slice none 0 0,.slice none 0 0,.slice none 0 0,.bool true,.bool false,.bool false,.bool false,.slice none 0 0,.slice none 0 0,.slice none 0 0,.slice none 0 0,.slice none 0 0] 35)) m5 []:=hO5;have HV:=zh (rP (.slice none 0 0) (.slice (some ⟨w4.heap.size,0,none⟩) 1 1) ([],[(topV,topV)]) 4 m5 1 _ hO5.inn (dU _ _) (MG c5 (VAt.leaf m5 true) (VAt.leaf m5 true)));have HO5:=zh hO5;have HT5:=zh (HT3.out.le l5);have HC3:=zh (fun j u hj=>Mem.aA l5 (HC3.out j u hj));clear HO3 HT3 hO5 l5 c5 hb4
 go_wp2_with fail
 refine HV.out.mono ?_;rintro e w6 ⟨hv,hb6⟩;rw[Jl] at hv;obtain⟨x2,y2,rfl,hx,hy⟩:=hv;have hO6:=(HO5.out.move hb6).al zcD 35;have hl2:(dcs (topV,topV) x2 y2).length=18:=rfl;have h1d:=eF (d:=(topV,topV)) hx hy;have HIT2:=zh (fun w'=>jd (topV,topV) x2 y2 w');have HO6:=zh hO6;unfold cZ at HIT2 ⊢;generalize dcs (topV,topV) x2 y2=D2 at *
 clear hO6 HO5 HV hb6 hx hy
 go_wp2_with (refine aI tyD rfl (.tmp 3) (.tmp 18) rfl (cs:=D2.toArray) rfl rfl rfl (by simpa using hl2) (fun u hu=>h1d u (by simpa using hu)) HO6.out.obj ?_)
 intro w7 ob7 hg7;have hO7:=HO6.out.setObj ob7 hg7;have hl7:=Mem.kC (w:=w7) hO7.jr;have hc7:∀j u,D2[j]?=some u→(m5.add w7 w6.heap.size).cell w6.heap.size j=some u:=fun j u hj=>Mem.dR hO7.obj (by simpa using hj);have HO7:=zh hO7.jm;have HT7:=zh (HT5.out.le hl7);have HC3:=zh (fun j u hj=>Mem.aA hl7 (HC3.out j u hj));generalize m5.add w7 _=m7 at *
 generalize w6.heap.size=g2 at *
 have HC7:=zh hc7;have HV:=zh (rP (.slice none 0 0) (.slice none 0 0) ([],[]) 0 m7 0 _ HO7.out.inn (dU _ _) (dU _ _));clear HO6 hO7 hl7 hc7 ob7 hg7 h1d HT5
 go_wp2_with fail
 refine HV.out.mono ?_;rintro e w8 ⟨hv,hb8⟩;rw[Jm] at hv;obtain⟨x3,y3,rfl,hx,hy⟩:=hv;have hO8:=(HO7.out.move hb8).al zcD 35;have hl3:(dcs (botV,botV) x3 y3).length=18:=rfl;have h1d:=eF (d:=(botV,botV)) hx hy;have HO8:=zh hO8;unfold cZ at ⊢;generalize dcs (botV,botV) x3 y3=D3 at *
 clear hO8 HO7 HV hb8 hx hy
 go_wp2_with (refine aI tyD rfl (.tmp 5) (.tmp 23) rfl (cs:=D3.toArray) rfl rfl rfl (by simpa using hl3) (fun u hu=>h1d u (by simpa using hu)) HO8.out.obj ?_)
 intro w9 ob9 hg9;have hO9:=(HO8.out.setObj ob9 hg9).tail;have HA:=zh (HOP.out m7 w9 hO9.inn);have HO9:=zh hO9;clear HO8 hO9 ob9 hg9 h1d
 go_wp2_with fail
 refine HA.out.mono ?_;rintro e w10 ⟨u4,rfl,hb10,hu⟩;have hO10:=HO9.out.call hb10;have hle:=Mem.dJ (w:=w10) HO9.out.inn;obtain⟨m11,l11,c11,hO11⟩:=kg 45 #[.slice none 0 0,u4] hO10;have hle:=Mem.le_trans hle l11;have hO12:=hO11.al zcV 33;have HT11:=zh (HT7.out.le hle);have HC3:=zh (fun j u hj=>Mem.aA hle (HC3.out j u hj));have HC7:=zh (fun j u hj=>Mem.aA hle (HC7.out j u hj));have HSV:=zh (show VAt m11 2 ⟨.slice none 0 0,.slice none 0 0,.slice none 0 0,.slice none 0 0,.slice (some ⟨w10.heap.size,0,none⟩) 1 1⟩ dV from
  ⟨⟨dU _ _,dU _ _,dU _ _⟩,dU _ _,some ⟨w10.heap.size,0,none⟩,1,rfl,by simp[dV,Vl.structs],by simp[maxLen],fun _=>⟨_,0,rfl,fun i hi=>by
   obtain rfl:i=0:=by simpa [dV,Vl.structs] using hi
   exact⟨_,_,c11 0 _ rfl,c11 1 _ rfl,dU _ _,iA.le l11 (fun _ _=>VAt.le l11) hu⟩⟩⟩)
 have HO12:=zh hO12;simp only[cz] at HO12;have gl:=hO12.tail.inn;clear HO9 hO10 hO11 hO12 l11 c11 hu hb10 hle HT7 HA gl
 go_wp2_with (refine aI tyV rfl (.tmp 7) (.tmp 27) rfl (cs:=#[.bool false,.bool false,.bool false,.bool false,.slice none 0 0,.slice none 0 0,.slice none 0 0,.slice none 0 0,.slice (some ⟨w10.heap.size,0,none⟩) 1 1]) rfl rfl rfl rfl (by simp[Value.oneCell']) HO12.out.obj ?_)
 intro w13 ob13 hg13;have hO13:=HO12.out.setObj ob13 hg13;have hl13:=Mem.kC (w:=w13) hO13.jr;obtain⟨sv,hsv⟩:∃sv:Sl,sv=⟨.slice none 0 0,.slice none 0 0,.slice none 0 0,.slice none 0 0,.slice (some ⟨w10.heap.size,0,none⟩) 1 1⟩:=⟨_,rfl⟩;have hc13:∀j u,(nine dV sv)[j]?=some u→(m11.add w13 (w10.heap.size+1)).cell (w10.heap.size+1) j=some u:=fun j u hj=>Mem.dR hO13.obj (by rw[hsv] at hj;have hj2:([.bool false,.bool false,.bool false,.bool false,.slice none 0 0,.slice none 0 0,.slice none 0 0,.slice none 0 0,.slice (some ⟨w10.heap.size,0,none⟩) 1 1]:List Value)[j]?=some u:=hj;simpa using hj2);have HSV:=zh (show VAt (m11.add w13 (w10.heap.size+1)) 2 sv dV by rw[hsv];exact HSV.out.le hl13);have HO13:=zh hO13.jm;have HT:=zh (HT11.out.le hl13);have HC3:=zh (fun j u hj=>Mem.aA hl13 (HC3.out j u hj));have HC7:=zh (fun j u hj=>Mem.aA hl13 (HC7.out j u hj));generalize m11.add w13 _=M at *
 generalize w10.heap.size+1=g3 at *
 have HC13:=zh hc13;have hl9:(nine dV sv).length=9:=rfl;clear HO12 hO13 hl13 hc13 ob13 hg13 HT11 hsv;have HLB:=zh (VAt.leaf M false);have HLT:=zh (VAt.leaf M true)
 go_upto_region 5 with (fail)
 refine aR [0] (fun vs w'=>vs=[.bool true]∧Own w m w' M []) ?_ ?_
 ·intro Y hY;refine bv 62 6 (fun j=>[Fact.is (·=cZ (botV,botV) bQ bQ),Fact.is (·=botV.val bQ),Fact.is (·=.bool true),Fact.is (·=.bool true),Fact.is (·=cZ (topV,topV) bQ bQ),Fact.is (·=.bool true),Fact.is (·=.bool true),Fact.is (·=.bool true),Fact.is (·=.agg D.toArray),Fact.is (·=.bool true),Fact.is (·=.bool true),Fact.is (·=.bool true),Fact.is (·=.int .i64 3),Fact.is (·=.bool true),Fact.is (·=.bool true),Fact.is (·=.bool true),Fact.is (·=.agg D2.toArray),Fact.is (·=.bool true),Fact.is (·=.bool true),Fact.is (·=.bool true),Fact.is (·=.bool true),Fact.is (·=.bool true),Fact.is (·=.bool true),Fact.is (·=.bool false),Fact.is (·=.bool true),Fact.is (·=.bool true),Fact.is (·=.bool true),Fact.is (·=cZ (topV,topV) bQ bQ),Fact.is (·=topV.val bQ),Fact.is (·=cZ (botV,botV) bQ bQ),Fact.is (·=botV.val bQ),Fact.is (·=.int .i64 (-1)),Fact.is (·=.bool true),Fact.is (·=.bool true),Fact.is (·=.bool true),Fact.is (·=.agg (nine dV sv).toArray),Fact.is (·=cZ (dV,dV) sv sv),Fact.is (·=.bool true),Fact.is (·=.bool true),Fact.is (·=.bool true),Fact.is (·=.agg (nine dV sv).toArray),Fact.is (·=.int .i64 2),Fact.is (·=.bool true),Fact.is (·=.bool true),Fact.is (·=.bool true),Fact.is (·=.agg (nine dV sv).toArray),Fact.is (·=.int .i64 3),Fact.is (·=.bool true),Fact.is (·=.bool true),Fact.is (·=.bool true),Fact.is (·=cZ (topV,topV) bQ bQ),Fact.is (·=cZ (botV,botV) bQ bQ),Fact.is (·=.bool false),Fact.is (·=.bool true),Fact.is (·=.bool true),Fact.is (·=.bool true),Fact.is (·=.agg (nine dV sv).toArray),Fact.is (·=cZ (dV,dV) sv sv),Fact.is (·=.agg (nine dV sv).toArray),Fact.is (·=cZ (dV,dV) sv sv),Fact.is (·=.bool true),Fact.is (·=.bool true)].getD j Fact.any) zk zk ?_ ?_
  ·intro i hi o win a wr ho RA;have HO2:=HO13.out.dr.move RA.below;have y1:=Mem.ay HO2.inn (HC3.out 0 (D[0]'zo) (List.getElem?_eq_getElem _));have y2:=Mem.ay HO2.inn (HC7.out 0 (D2[0]'zo) (List.getElem?_eq_getElem _));have y3:=Mem.ay HO2.inn (HC13.out 0 _ rfl);rcases (show i=0∨i=1∨i=2∨i=3∨i=4∨i=5∨i=6∨i=7∨i=8∨i=9∨i=10∨i=11∨i=12∨i=13∨i=14∨i=15∨i=16∨i=17∨i=18∨i=19∨i=20∨i=21∨i=22∨i=23∨i=24∨i=25∨i=26∨i=27∨i=28∨i=29∨i=30∨i=31∨i=32∨i=33∨i=34∨i=35∨i=36∨i=37∨i=38∨i=39∨i=40∨i=41∨i=42∨i=43∨i=44∨i=45∨i=46∨i=47∨i=48∨i=49∨i=50∨i=51∨i=52∨i=53∨i=54∨i=55∨i=56∨i=57∨i=58∨i=59∨i=60∨i=61 by omega) with rfl | rfl | rfl | rfl | rfl | rfl | rfl | rfl | rfl | rfl | rfl | rfl | rfl | rfl | rfl | rfl | rfl | rfl | rfl | rfl | rfl | rfl | rfl | rfl | rfl | rfl | rfl | rfl | rfl | rfl | rfl | rfl | rfl | rfl | rfl | rfl | rfl | rfl | rfl | rfl | rfl | rfl | rfl | rfl | rfl | rfl | rfl | rfl | rfl | rfl | rfl | rfl | rfl | rfl | rfl | rfl | rfl | rfl | rfl | rfl | rfl | rfl
   ·cases ho;refine we rfl rfl (jO wr) ?_;rintro e w' ⟨rfl,hb⟩;exact⟨_,rfl,_,rfl,hb,rfl⟩
   ·have e28:a.tmps.getD 28 undef=_:=RA.d 0 rfl;cases ho;refine aP rfl rfl (aM (by go_simp;first | done | rfl | exact xK _ | simp[xK]) ⟨_,rfl,Below.refl _ _,rfl⟩)
   ·have e29:a.tmps.getD 29 undef=_:=RA.d 1 rfl;cases ho;refine we rfl rfl (kN botV bQ M 1 wr HO2.inn HT.out HLB.out ⟨Nat.zero_le _,Nat.zero_le _,Nat.zero_le _⟩ (Nat.zero_le _) (Nat.zero_le _)) ?_;rintro e w' ⟨rfl,hb⟩;exact⟨_,rfl,_,rfl,hb,congrArg Value.bool Jo⟩
   ·have e30:a.tmps.getD 30 undef=_:=RA.d 2 rfl;cases ho;exact wv rfl rfl rfl
   ·have e31:a.tmps.getD 31 undef=_:=RA.d 3 rfl;cases ho;refine we2 rfl rfl rfl e31 (o8 wr) ?_;rintro e w' ⟨rfl,hb⟩;exact⟨_,rfl,_,rfl,hb,rfl⟩
   ·have e32:a.tmps.getD 32 undef=_:=RA.d 4 rfl;have e31:a.tmps.getD 31 undef=_:=RA.d 3 rfl;cases ho;refine we2 rfl rfl rfl e31 (jd (topV,topV) bQ bQ wr) ?_;rintro e w' ⟨rfl,hb⟩;exact⟨_,rfl,_,rfl,hb,rfl⟩
   ·have e31:a.tmps.getD 31 undef=_:=RA.d 3 rfl;have e33:a.tmps.getD 33 undef=_:=RA.d 5 rfl;cases ho;exact wv rfl rfl rfl
   ·have e34:a.tmps.getD 34 undef=_:=RA.d 6 rfl;cases ho;exact wv rfl rfl rfl
   ·have e1:=RA.k 1;have e35:a.tmps.getD 35 undef=_:=RA.d 7 rfl;cases ho;refine dx rfl (bS rfl rfl e35) (aM (tyD.exec (b:=g1) (off:=0) rfl zg hl (fun j u hj=>by rw[Nat.zero_add];exact Mem.aj HO2.inn (HC3.out j u hj))) ⟨_,rfl,Below.refl _ _,rfl⟩)
   ·have e36:a.tmps.getD 36 undef=_:=RA.d 8 rfl;have e35:a.tmps.getD 35 undef=_:=RA.d 7 rfl;cases ho;refine we2 rfl rfl rfl e35 (HIT.out wr) ?_;rintro e w' ⟨rfl,hb⟩;exact⟨_,rfl,_,rfl,hb,rfl⟩
   ·have e35:a.tmps.getD 35 undef=_:=RA.d 7 rfl;have e37:a.tmps.getD 37 undef=_:=RA.d 9 rfl;cases ho;exact wv rfl rfl rfl
   ·have e38:a.tmps.getD 38 undef=_:=RA.d 10 rfl;cases ho;exact wv rfl rfl rfl
   ·have e2:=RA.k 2;have e39:a.tmps.getD 39 undef=_:=RA.d 11 rfl;cases ho;exact wy rfl rfl rfl e39 rfl
   ·have e40:a.tmps.getD 40 undef=_:=RA.d 12 rfl;have e39:a.tmps.getD 39 undef=_:=RA.d 11 rfl;cases ho;exact wy rfl rfl rfl e39 rfl
   ·have e39:a.tmps.getD 39 undef=_:=RA.d 11 rfl;have e41:a.tmps.getD 41 undef=_:=RA.d 13 rfl;cases ho;exact wv rfl rfl rfl
   ·have e42:a.tmps.getD 42 undef=_:=RA.d 14 rfl;cases ho;exact wv rfl rfl rfl
   ·have e3:=RA.k 3;have e43:a.tmps.getD 43 undef=_:=RA.d 15 rfl;cases ho;refine dx rfl (bS rfl rfl e43) (aM (tyD.exec (b:=g2) (off:=0) rfl zg hl2 (fun j u hj=>by rw[Nat.zero_add];exact Mem.aj HO2.inn (HC7.out j u hj))) ⟨_,rfl,Below.refl _ _,rfl⟩)
   ·have e44:a.tmps.getD 44 undef=_:=RA.d 16 rfl;have e43:a.tmps.getD 43 undef=_:=RA.d 15 rfl;cases ho;refine we2 rfl rfl rfl e43 (HIT2.out wr) ?_;rintro e w' ⟨rfl,hb⟩;exact⟨_,rfl,_,rfl,hb,rfl⟩
   ·have e43:a.tmps.getD 43 undef=_:=RA.d 15 rfl;have e45:a.tmps.getD 45 undef=_:=RA.d 17 rfl;cases ho;exact wv rfl rfl rfl
   ·have e46:a.tmps.getD 46 undef=_:=RA.d 18 rfl;cases ho;exact wv rfl rfl rfl
   ·have e4:=RA.k 4;have e47:a.tmps.getD 47 undef=_:=RA.d 19 rfl;cases ho;exact wy rfl rfl rfl e47 rfl
   ·have e47:a.tmps.getD 47 undef=_:=RA.d 19 rfl;have e48:a.tmps.getD 48 undef=_:=RA.d 20 rfl;cases ho;exact wv rfl rfl rfl
   ·have e49:a.tmps.getD 49 undef=_:=RA.d 21 rfl;cases ho;exact wv rfl rfl rfl
   ·have e6:=RA.k 6;have e50:a.tmps.getD 50 undef=_:=RA.d 22 rfl;cases ho;exact wy rfl rfl rfl e50 rfl
   ·have e51:a.tmps.getD 51 undef=_:=RA.d 23 rfl;have e50:a.tmps.getD 50 undef=_:=RA.d 22 rfl;cases ho;exact wy rfl rfl rfl e50 rfl
   ·have e50:a.tmps.getD 50 undef=_:=RA.d 22 rfl;have e52:a.tmps.getD 52 undef=_:=RA.d 24 rfl;cases ho;exact wv rfl rfl rfl
   ·have e53:a.tmps.getD 53 undef=_:=RA.d 25 rfl;cases ho;exact wv rfl rfl rfl
   ·have e54:a.tmps.getD 54 undef=_:=RA.d 26 rfl;cases ho;refine we2 rfl rfl rfl e54 (o8 wr) ?_;rintro e w' ⟨rfl,hb⟩;exact⟨_,rfl,_,rfl,hb,rfl⟩
   ·have e55:a.tmps.getD 55 undef=_:=RA.d 27 rfl;have e54:a.tmps.getD 54 undef=_:=RA.d 26 rfl;cases ho;refine dx rfl (bS rfl rfl e54) (aM (by go_simp;first | done | rfl | exact JG _ | simp[JG]) ⟨_,rfl,Below.refl _ _,rfl⟩)
   ·have e54:a.tmps.getD 54 undef=_:=RA.d 26 rfl;cases ho;refine we2 rfl rfl rfl e54 (jO wr) ?_;rintro e w' ⟨rfl,hb⟩;exact⟨_,rfl,_,rfl,hb,rfl⟩
   ·have e57:a.tmps.getD 57 undef=_:=RA.d 29 rfl;have e54:a.tmps.getD 54 undef=_:=RA.d 26 rfl;cases ho;refine dx rfl (bS rfl rfl e54) (aM (by go_simp;first | done | rfl | exact xK _ | simp[xK]) ⟨_,rfl,Below.refl _ _,rfl⟩)
   ·have e56:a.tmps.getD 56 undef=_:=RA.d 28 rfl;have e58:a.tmps.getD 58 undef=_:=RA.d 30 rfl;have e54:a.tmps.getD 54 undef=_:=RA.d 26 rfl;cases ho;refine we2 rfl rfl rfl e54 (rQ topV botV bQ bQ M 1 wr HO2.inn HT.out HLT.out HLB.out (pW 0 true) (pW 0 false) (by simp[vcnt,topV,Vl.kids,Vl.lists,Vl.structs]) (by simp[vcnt,botV,Vl.kids,Vl.lists,Vl.structs]) (q8 true 15) (q8 false 15) (by simp[topV,botV,Vl.any])) ?_;rintro e w' ⟨rfl,hb⟩;exact⟨_,rfl,_,rfl,hb,rfl⟩
   ·have e59:a.tmps.getD 59 undef=_:=RA.d 31 rfl;have e54:a.tmps.getD 54 undef=_:=RA.d 26 rfl;cases ho;exact wy rfl rfl rfl e54 rfl
   ·have e54:a.tmps.getD 54 undef=_:=RA.d 26 rfl;have e60:a.tmps.getD 60 undef=_:=RA.d 32 rfl;cases ho;exact wv rfl rfl rfl
   ·have e61:a.tmps.getD 61 undef=_:=RA.d 33 rfl;cases ho;exact wv rfl rfl rfl
   ·have e7:=RA.k 7;have e62:a.tmps.getD 62 undef=_:=RA.d 34 rfl;cases ho;refine dx rfl (bS rfl rfl e62) (aM (tyV.exec (b:=g3) (off:=0) rfl zg hl9 (fun j u hj=>by rw[Nat.zero_add];exact Mem.aj HO2.inn (HC13.out j u hj))) ⟨_,rfl,Below.refl _ _,rfl⟩)
   ·have e63:a.tmps.getD 63 undef=_:=RA.d 35 rfl;have e62:a.tmps.getD 62 undef=_:=RA.d 34 rfl;cases ho;refine we2 rfl rfl rfl e62 (jc dV sv M 2 wr HO2.inn HSV.out) ?_;rintro e w' ⟨rfl,hb⟩;exact⟨_,rfl,_,rfl,hb,rfl⟩
   ·have e64:a.tmps.getD 64 undef=_:=RA.d 36 rfl;have e62:a.tmps.getD 62 undef=_:=RA.d 34 rfl;cases ho;refine we2 rfl rfl rfl e62 (kM (dV,dV) sv sv M 2 wr HO2.inn HT.out HSV.out HSV.out jD jD (by rw[jE];omega) (by rw[jE];omega)) ?_;rintro e w' ⟨rfl,hb⟩;exact⟨_,rfl,_,rfl,hb,by rw[aH oz];rfl⟩
   ·have e62:a.tmps.getD 62 undef=_:=RA.d 34 rfl;have e65:a.tmps.getD 65 undef=_:=RA.d 37 rfl;cases ho;exact wv rfl rfl rfl
   ·have e66:a.tmps.getD 66 undef=_:=RA.d 38 rfl;cases ho;exact wv rfl rfl rfl
   ·have e7:=RA.k 7;have e67:a.tmps.getD 67 undef=_:=RA.d 39 rfl;cases ho;refine dx rfl (bS rfl rfl e67) (aM (tyV.exec (b:=g3) (off:=0) rfl zg hl9 (fun j u hj=>by rw[Nat.zero_add];exact Mem.aj HO2.inn (HC13.out j u hj))) ⟨_,rfl,Below.refl _ _,rfl⟩)
   ·have e68:a.tmps.getD 68 undef=_:=RA.d 40 rfl;have e67:a.tmps.getD 67 undef=_:=RA.d 39 rfl;cases ho;refine we2 rfl rfl rfl e67 (qw dV sv M 2 wr HO2.inn HT.out HSV.out jD (by rw[jE];omega)) ?_;rintro e w' ⟨rfl,hb⟩;exact⟨_,rfl,_,rfl,hb,congrArg (Value.int .i64) IV⟩
   ·have e69:a.tmps.getD 69 undef=_:=RA.d 41 rfl;have e67:a.tmps.getD 67 undef=_:=RA.d 39 rfl;cases ho;exact wy rfl rfl rfl e67 rfl
   ·have e67:a.tmps.getD 67 undef=_:=RA.d 39 rfl;have e70:a.tmps.getD 70 undef=_:=RA.d 42 rfl;cases ho;exact wv rfl rfl rfl
   ·have e71:a.tmps.getD 71 undef=_:=RA.d 43 rfl;cases ho;exact wv rfl rfl rfl
   ·have e7:=RA.k 7;have e72:a.tmps.getD 72 undef=_:=RA.d 44 rfl;cases ho;refine dx rfl (bS rfl rfl e72) (aM (tyV.exec (b:=g3) (off:=0) rfl zg hl9 (fun j u hj=>by rw[Nat.zero_add];exact Mem.aj HO2.inn (HC13.out j u hj))) ⟨_,rfl,Below.refl _ _,rfl⟩)
   ·have e73:a.tmps.getD 73 undef=_:=RA.d 45 rfl;have e72:a.tmps.getD 72 undef=_:=RA.d 44 rfl;cases ho;refine we2 rfl rfl rfl e72 (rJ dV sv M 2 wr HO2.inn HT.out HSV.out jD (by rw[jE];omega)) ?_;rintro e w' ⟨rfl,hb⟩;exact⟨_,rfl,_,rfl,hb,congrArg (Value.int .i64) IU⟩
   ·have e74:a.tmps.getD 74 undef=_:=RA.d 46 rfl;have e72:a.tmps.getD 72 undef=_:=RA.d 44 rfl;cases ho;exact wy rfl rfl rfl e72 rfl
   ·have e72:a.tmps.getD 72 undef=_:=RA.d 44 rfl;have e75:a.tmps.getD 75 undef=_:=RA.d 47 rfl;cases ho;exact wv rfl rfl rfl
   ·have e76:a.tmps.getD 76 undef=_:=RA.d 48 rfl;cases ho;exact wv rfl rfl rfl
   ·have e77:a.tmps.getD 77 undef=_:=RA.d 49 rfl;cases ho;refine we2 rfl rfl rfl e77 (o8 wr) ?_;rintro e w' ⟨rfl,hb⟩;exact⟨_,rfl,_,rfl,hb,rfl⟩
   ·have e77:a.tmps.getD 77 undef=_:=RA.d 49 rfl;cases ho;refine we2 rfl rfl rfl e77 (jO wr) ?_;rintro e w' ⟨rfl,hb⟩;exact⟨_,rfl,_,rfl,hb,rfl⟩
   ·have e78:a.tmps.getD 78 undef=_:=RA.d 50 rfl;have e79:a.tmps.getD 79 undef=_:=RA.d 51 rfl;have e77:a.tmps.getD 77 undef=_:=RA.d 49 rfl;cases ho;refine we2 rfl rfl rfl e77 (qp (topV,topV) (botV,botV) bQ bQ bQ bQ M 1 wr HO2.inn HT.out HLT.out HLT.out HLB.out HLB.out Nq Nr (pW 0 true) (pW 0 true)) ?_;rintro e w' ⟨rfl,hb⟩;exact⟨_,rfl,_,rfl,hb,by rw[az EW];rfl⟩
   ·have e80:a.tmps.getD 80 undef=_:=RA.d 52 rfl;have e77:a.tmps.getD 77 undef=_:=RA.d 49 rfl;cases ho;exact wy rfl rfl rfl e77 rfl
   ·have e77:a.tmps.getD 77 undef=_:=RA.d 49 rfl;have e81:a.tmps.getD 81 undef=_:=RA.d 53 rfl;cases ho;exact wv rfl rfl rfl
   ·have e82:a.tmps.getD 82 undef=_:=RA.d 54 rfl;cases ho;exact wv rfl rfl rfl
   ·have e7:=RA.k 7;have e83:a.tmps.getD 83 undef=_:=RA.d 55 rfl;cases ho;refine dx rfl (bS rfl rfl e83) (aM (tyV.exec (b:=g3) (off:=0) rfl zg hl9 (fun j u hj=>by rw[Nat.zero_add];exact Mem.aj HO2.inn (HC13.out j u hj))) ⟨_,rfl,Below.refl _ _,rfl⟩)
   ·have e84:a.tmps.getD 84 undef=_:=RA.d 56 rfl;have e83:a.tmps.getD 83 undef=_:=RA.d 55 rfl;cases ho;refine we2 rfl rfl rfl e83 (jc dV sv M 2 wr HO2.inn HSV.out) ?_;rintro e w' ⟨rfl,hb⟩;exact⟨_,rfl,_,rfl,hb,rfl⟩
   ·have e7:=RA.k 7;have e83:a.tmps.getD 83 undef=_:=RA.d 55 rfl;cases ho;refine dx rfl (bS rfl rfl e83) (aM (tyV.exec (b:=g3) (off:=0) rfl zg hl9 (fun j u hj=>by rw[Nat.zero_add];exact Mem.aj HO2.inn (HC13.out j u hj))) ⟨_,rfl,Below.refl _ _,rfl⟩)
   ·have e86:a.tmps.getD 86 undef=_:=RA.d 58 rfl;have e83:a.tmps.getD 83 undef=_:=RA.d 55 rfl;cases ho;refine we2 rfl rfl rfl e83 (jc dV sv M 2 wr HO2.inn HSV.out) ?_;rintro e w' ⟨rfl,hb⟩;exact⟨_,rfl,_,rfl,hb,rfl⟩
   ·have e85:a.tmps.getD 85 undef=_:=RA.d 57 rfl;have e87:a.tmps.getD 87 undef=_:=RA.d 59 rfl;have e83:a.tmps.getD 83 undef=_:=RA.d 55 rfl;cases ho;refine we2 rfl rfl rfl e83 (qp (dV,dV) (dV,dV) sv sv sv sv M 2 wr HO2.inn HT.out HSV.out HSV.out HSV.out HSV.out Er Er jD jD) ?_;rintro e w' ⟨rfl,hb⟩;exact⟨_,rfl,_,rfl,hb,by rw[aH rfl,aH oz];rfl⟩
   ·have e83:a.tmps.getD 83 undef=_:=RA.d 55 rfl;have e88:a.tmps.getD 88 undef=_:=RA.d 60 rfl;cases ho;exact wv rfl rfl rfl
  ·intro win a wr E;have e89:a.tmps.getD 89 undef=.bool true:=E.fact 61 _ zo rfl;have hZ:=HO13.out.dr.move E.below;obtain⟨t1,d⟩:=a;obtain rfl:d=[]:=E.defers;refine il 62 zk (aP rfl rfl (aM (by go_simp;first | done | exact⟨rfl,rfl⟩ | rfl) ?_));refine dH zk (hY.out _ _ (by simpa using E.size) ⟨?_,hZ⟩) _;have hsz:t1.size=90:=E.size;simp[hsz] at e89;simp[hsz]
 rintro z vs w2 - ⟨rfl,hO⟩;simp[litL,lk];have HB:=zh hO.below;clear hO HO13 HT HC3 HC7 HC13 HSV HLB HLT HIT HIT2;go_wp2;exact hR.out _ _ ⟨rfl,HB.out⟩
end Cl
