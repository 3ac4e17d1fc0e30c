/- Lemmas for the proofs of chapter 11. -/
import Derived.Test.YtdgjplfcpcphoaaGreatDoorProg
import Derived.BigQuiet
import Derived.Deep.Cut
import Derived.Deep.QuietTactic
import Derived.Laws.StructEq
import Derived.Lib.AppendStr
import Derived.Lib.Builder
import Derived.Lib.Hide
import Derived.Lib.ItoaLen
import Derived.Maps.OwnOps
import Derived.Maps.OwnSet
import Derived.OrdersHeld
import Derived.Outline
import Derived.StillTailTactics
import Derived.StringKeys
import Derived.WalkKit
import Derived.WalkLawsBesides
import Derived.WalkSpells
import Derived.Deep.RegionHeld
import Derived.Laws.CopyRow
import Derived.Laws.Tables
import Derived.BigFrame
import Derived.RangeFuncNested
import Derived.RangeFuncBound
import Derived.RangeFuncCalls
import Derived.RangeFuncLeaves
import Derived.OwnWalkIn
import Derived.TacticsInMore
import Derived.LoopNIn
import Derived.LoopIn
import Derived.Shelf.Strings.Builder1
import Derived.Shelf.Small.Wraps
import Derived.Shelf.LaysM
import Derived.Shelf.Strconv.Itoa3
import Derived.Shelf.Spec.SlicesGrow
import Derived.Shelf.SlSortCmp.WholeK
import Derived.RegionTactic
import Derived.ChangeAlike
import Derived.Laws.BytesArg
import Derived.Laws.EntriesVeiled
import Derived.Laws.CopyOwn
import Derived.Shelf.Strconv.AppendIntPublic10
import Derived.Test.YtdgjplfcpcphoaaGreatDoorZz
import Derived.Test.YtdgjplfcpcphoaaGreatDoorPkV15
import Derived.Test.YtdgjplfcpcphoaaGreatDoorPkV3
import Derived.Test.YtdgjplfcpcphoaaGreatDoorPkV4
import Derived.Test.YtdgjplfcpcphoaaGreatDoorPkV5
import Derived.Test.YtdgjplfcpcphoaaGreatDoorPkV1
import Derived.Test.YtdgjplfcpcphoaaGreatDoorPkV2
import Derived.Test.YtdgjplfcpcphoaaGreatDoorPkV10
import Derived.Test.YtdgjplfcpcphoaaGreatDoorPkV14
import Derived.Test.YtdgjplfcpcphoaaGreatDoorPkV9
import Derived.Test.YtdgjplfcpcphoaaGreatDoorPkV17
import Derived.Test.YtdgjplfcpcphoaaGreatDoorPkV6
import Derived.Test.YtdgjplfcpcphoaaGreatDoorPkV16
import Derived.Test.YtdgjplfcpcphoaaGreatDoorPkV11
import Derived.Test.YtdgjplfcpcphoaaGreatDoorPkV7
import Derived.Test.YtdgjplfcpcphoaaGreatDoorPkV8
import Derived.Test.YtdgjplfcpcphoaaGreatDoorPkV13
import Derived.Test.YtdgjplfcpcphoaaGreatDoorPkV18
import Derived.Test.YtdgjplfcpcphoaaGreatDoorPkV12
set_option maxRecDepth 100000
set_option maxHeartbeats 16000000
namespace Cl
open Go Go.RowKit Go.Proofs
noncomputable def qO (v:Vl):Bool := !v.any&&decide (v.lists.length=0)&&decide (v.structs.length=0)&&gB v.s
theorem kZ (v:Vl) (x:Sl):∀j u,([.bool v.s.nul,.bool v.s.fal,.bool v.s.tru,x.i,x.f,x.t]:List Value)[j]?=some u→(nine v x).toArray[1+j]?=some u:=by
 intro j u hj;have hlt:=(List.getElem?_eq_some_iff.1 hj).1
 match j,hj,hlt with
 | 0,hj,_=>exact hj
 | 1,hj,_=>exact hj
 | 2,hj,_=>exact hj
 | 3,hj,_=>exact hj
 | 4,hj,_=>exact hj
 | 5,hj,_=>exact hj
 | j+6,_,h=>simp at h;omega
theorem qF:gB dI=true:=by unfold gB;rw[xJ gz];exact aH fun e h=>(Ay.mem e).1 h
theorem kN (v:Vl) (x:Sl) (m:Mem) (n:Nat) (w:World) (hm:m.inn w) (htab:TabM m) (hv:VAt m n x v) (hl:ScLe v.s 30000 100000) (h1:v.lists.length≤1000000) (h2:v.structs.length≤1000000) :
 Calls Tryz.prog 16 #[v.val x] w fun e w'=>e=.returned (.bool (qO v))∧Below w.heap.size w w':=by
 have hO:=(Own.start hm).al (nine v x).toArray 33;have hs:=hv.sc;have HN:=zh (rO x.i x.f x.t v.s m (w.alloc (.cells (nine v x).toArray 33)) hs ⟨by have:=hl.i;omega,by have:=hl.f;omega,by have:=hl.t;omega⟩);have HS:=zh (hO.obj.sub (kZ v x));have HE:=zh (fun w' (h:Below (w.alloc (.cells (nine v x).toArray 33)).heap.size (w.alloc (.cells (nine v x).toArray 33)) w')=>BK x.i x.f x.t v.s m w' (hO.move h).inn htab hs hl);have HB:=zh hO.below;have HL:=zh (zi h1 h2);obtain⟨a1,b1,a2,b2,a3,b3,a4,b4,a5,b5,rfl,-⟩:=hv.spell;have c0:=hO.obj.cell (i:=0) (v:=.bool v.any) rfl;have c7:=hO.obj.cell (i:=7) (v:=.slice a4 v.lists.length b4) rfl;have c8:=hO.obj.cell (i:=8) (v:=.slice a5 v.structs.length b5) rfl;have HI:=zh (show qO v=(!v.any&&decide (v.lists.length=0)&&decide (v.structs.length=0)&&gB v.s) from rfl);unfold Vl.val;clear hO hs hv;generalize (nine v _).toArray=N at *
 generalize v.lists.length=l4 at *
 generalize v.structs.length=l5 at *
 generalize v.any=p at *
 generalize qO v=IB at *
 clear h1 h2;refine av fun R hR=>?_
 cases p with
 | true=>
  go_enter Tryz.func16,Tryz.ntmps16
  go_wp2
  exact hR.out _ _ ⟨by rw[HI.out];rfl,HB.out⟩
 | false=>
  by_cases hz:l4=0∧l5=0
  ·obtain⟨rfl,rfl⟩:=hz
   go_enter Tryz.func16,Tryz.ntmps16
   go_wp2_with (refine ae tyS rfl (.tmp 17) rfl rfl _ rfl HS.out ?_)
   refine HN.out.mono ?_;rintro e w1 ⟨rfl,hb1⟩;have HE1:=zh (HE.out w1 hb1);have HS1:=zh (fun j u hj=>(dW hb1 zS (HS.out j u hj):w1.cell? _=_));have HB1:=zh (bM HB.out hb1);by_cases he:v.s=dI
   ·have HI2:=zh (show IB=true by rw[HI.out,he,qF];rfl);rw[aH he];clear HE HN HE1 HS HS1 HI hb1 he;go_wp2;exact hR.out _ _ ⟨by rw[HI2.out];rfl,HB1.out⟩
   ·rw[az he];clear HE HN HS hb1 he
    go_wp2_with (refine ae tyS rfl (.tmp 21) rfl rfl _ rfl HS1.out ?_)
    refine HE1.out.mono ?_;rintro e w2 ⟨rfl,hb2⟩;have HB2:=zh (bM HB1.out hb2);generalize gB v.s=eb at *
    clear HE1 HS1 HB1 hb2;go_wp2;exact hR.out _ _ ⟨by rw[HI.out];cases eb <;> rfl,HB2.out⟩
  ·have HI2:=zh (show IB=false by rw[HI.out];by_cases e4:l4=0 <;> by_cases e5:l5=0 <;> simp[e4,e5] <;> exact absurd ⟨e4,e5⟩ hz);have hw:wrap64 ((l4:Int)+l5)=(l4:Int)+l5:=by have:=HL.out;unfold wrap64;omega
   have hd:((l4:Int)+l5==0)=false:=beq_eq_false_iff_ne.2 zo;clear HE HN HS HI hz
   go_enter Tryz.func16,Tryz.ntmps16
   go_wp2;exact hR.out _ _ ⟨by rw[HI2.out];rfl,HB.out⟩
theorem iN:eT Tryz.prog 49 35 18 272:=⟨Tryz.underlying49,zo,by
 obtain⟨i,h1,h2,h3,h4⟩:=info_parts (P:=Tryz.prog) (e:=35) (z:=.agg zcD) (size:=18) (bytes:=272) zk;exact⟨i,_,h1,h2,h3,h4,rfl⟩⟩
theorem sG (u u':Value) (c:Lc) (m:Mem) (n:Nat) (w:World) (hm:m.inn w) (h1:dB (VAt m n) m u c.1) (h2:dB (VAt m n) m u' c.2) (hlen:c.1.length+c.2.length≤1048576) :
 Calls Tryz.prog 101 #[.agg #[u,u']] w fun e w'=>∃r,e=.returned r∧Below w.heap.size w w'∧dB (VAt (m.grow w w') n) (m.grow w w') r (bR c):=by
 obtain⟨a1,c1,xs,rfl,p1,q1,r1,n1,k1⟩:=h1.seg;obtain⟨a2,c2,ys,rfl,p2,q2,r2,n2,k2⟩:=h2.seg;have hO:=((Own.start hm).al #[.slice a1 c.1.length c1,.slice a2 c.2.length c2] 51).dC 35 18;have HX:=zh (zi r1 r2);have HK:=zh (zi k1 k2);have HO:=zh hO;have lx:=r1.len;have ly:=r2.len;have o1:=r1.one_cell;have o2:=r2.one_cell;clear hO r1 r2 k1 k2 h1 h2;refine av fun R hR=>?_
 go_enter Tryz.func101,Tryz.ntmps101
 go_wp2_with (at_builtin;refine dA iN rfl (.tmp 4) (.tmp 6) rfl (.slice none 0 0) 0 [] rfl HO.out.row a1 c.1.length c1 xs rfl lx n1 (HK.out.1 _ HO.out.inn) o1 (by unfold maxLen;omega) zo ?_)
 intro va vc w1 ho1 hg1 hr1;have hO1:=HO.out.app ho1 hg1 hr1 zS;have g1:=hO1.swap.obj.cell (i:=1) (v:=.slice a2 c.2.length c2) rfl;have g0:=hO1.swap.obj.cell (i:=0) (v:=.slice a1 c.1.length c1) rfl;have HO1:=zh hO1;clear HO hO1 ho1 hg1 hr1
 go_wp2_with (at_builtin;refine dA iN rfl (.tmp 8) (.tmp 10) rfl (.slice va c.1.length vc) c.1.length xs rfl HO1.out.row a2 c.2.length c2 ys rfl ly n2 (HK.out.2 _ HO1.out.inn) o2 (by unfold maxLen;omega) zo ?_)
 intro vb vd w2 ho2 hg2 hr2;have hO2:=HO1.out.app ho2 hg2 hr2 (Nat.le_refl _);have hv:=dB.Fe (m:=m.grow w w2) (l:=bR c) (by rw[bR,List.length_append];exact hO2.row) (HX.out.1.append HX.out.2) hO2.free hO2.aY.done;have HF:=zh (zi hO2.below hv);clear HO1 hO2 ho2 hg2 hr2 hv g0 g1 HK HX;go_wp2;exact hR.out _ _ ⟨_,rfl,HF.out⟩
theorem wJ:∀w,(zeroValue 35).run Tryz.prog w=.ok (.agg zcD) w:=Tryz.zeroValue35
theorem pE (u u':Value) (c:St) (m:Mem) (n:Nat) (w:World) (hm:m.inn w) (h1:ja (VAt m n) m u c.1) (h2:iA (VAt m n) m u' c.2) (hlen:c.1.length+c.2.length≤1048576) :
 Calls Tryz.prog 102 #[.agg #[u,u']] w fun e w'=>∃r,e=.returned r∧Below w.heap.size w w'∧dB (VAt (m.grow w w') n) (m.grow w w') r (dF c):=by
 obtain⟨a1,c1,rfl,p1,q1,k1⟩:=h1;obtain⟨a2,c2,rfl,p2,q2,k2⟩:=h2;unfold maxLen at q1 q2;have hO:=(Own.start hm).al #[.slice a1 c.1.length c1,.slice a2 c.2.length c2] 45;have HK:=zh (zi k1 k2);have HO:=zh (hO.dC 35 18);clear hO k1 k2;have HE:=zh (show dF c=c.1.map (·.2) ++ c.2.map (·.2) from rfl);generalize dF c=SV at *
 generalize c.2=KL at *
 generalize c.1=FL at *
 refine av fun R hR=>?_
 go_enter Tryz.func102,Tryz.ntmps102
 go_wp2;refine au [1,3,4] (fun q vs wr=>∃(i:Nat) (v:Value) (xs:List Value),i≤FL.length∧q=FL.length - i∧vs=[.pointer (some ⟨w.heap.size,0,none⟩),v,.int .i64 (i:Int)]∧VRow (VAt m n) xs ((FL.take i).map (·.2)) ∧
  Own w m wr m [.row v 35 18 i xs,.obj w.heap.size 45 #[.slice a1 FL.length c1,.slice a2 KL.length c2]]) ?_ ?_
 ·exact⟨_,0,_,[],Nat.zero_le _,rfl,rfl,.nil _,HO.out⟩
 clear HO;rintro X z q vs wr hX - ⟨i,v,xs,hi,rfl,rfl,hv,hO⟩;simp[litL,lk];have g0:=hO.swap.obj.cell (i:=0) rfl;have g1:=hO.swap.obj.cell (i:=1) rfl;have gl:=hO.swap.obj.lt;by_cases hlt:i<FL.length
 ·obtain⟨b,off,rfl,h4⟩:=HK.out.1 (by intro h;simp[h] at hlt);obtain⟨x,y,hc,hx,hy⟩:=(h4 i hlt).v.cells;have hcl:=Mem.ay hO.inn (hc 0 _ rfl);have HC:=zh (fun j u hj=>Mem.aj hO.inn (hc j u hj));have h1:=eF hx hy;have hv2:=hv.push hx hy;rw[show (FL.take i).map (·.2) ++ [FL[i].2]=(FL.take (i+1)).map (·.2) by rw[List.take_succ_eq_append_getElem hlt,List.map_append];rfl] at hv2;have hl:(dcs FL[i].2 x y).length=18:=rfl;have HV:=zh hv2;have hO2:=hO.al (dcs FL[i].2 x y).toArray 35;generalize dcs FL[i].2 x y=N at *
  have HO:=zh hO2;clear hO hO2 hv hv2 hx hy hc h4
  go_wp2_with (first
   | refine ae tyD rfl (.tmp 18) rfl rfl N hl HC.out ?_
   | refine ib iN tyD wJ rfl zo rfl (.tmp 19) rfl (cs:=N.toArray) rfl (by simpa using hl) ?_
   | (at_builtin;refine aC iN rfl (.tmp 13) (.tmp 20) rfl v i xs rfl HO.out.swap.row ⟨wr.heap.size,0,none⟩ 1 1 N rfl hl (by intro j u hj;rw[Addr.add_lit,Nat.zero_add];exact HO.out.obj.cell (by simpa using hj)) h1 (by unfold maxLen;omega) zo ?_))
  intro va vc w1 ho1 hg1 hr1;have hO1:=(HO.out.swap.app ho1 hg1 hr1 zS).drop2;have HO1:=zh hO1;clear HO hO1 ho1 hg1 hr1 g0 g1 gl;go_wp2;exact hX.out _ _ _ zo rfl ⟨i+1,_,_,zo,rfl,rfl,HV.out,HO1.out⟩
 ·obtain rfl:i=FL.length:=zo;rw[List.take_length] at hv;have HV:=zh hv;have HO:=zh hO;clear hO hv hX;go_wp2;refine au [1,3,5] (fun q vs wr=>∃(i:Nat) (v:Value) (xs:List Value),i≤KL.length∧q=KL.length - i∧vs=[.pointer (some ⟨w.heap.size,0,none⟩),v,.int .i64 (i:Int)]∧VRow (VAt m n) xs (FL.map (·.2) ++ (KL.take i).map (·.2)) ∧
   Own w m wr m [.row v 35 18 (FL.length+i) xs,.obj w.heap.size 45 #[.slice a1 FL.length c1,.slice a2 KL.length c2]]) ?_ ?_
  ·exact⟨_,0,_,xs,Nat.zero_le _,rfl,rfl,by simpa using HV.out,HO.out⟩
  clear HO HV g0 g1 gl;rintro X z q vs wr hX - ⟨i,v,xs,hi,rfl,rfl,hv,hO⟩;simp[litL,lk];have g0:=hO.swap.obj.cell (i:=0) rfl;have g1:=hO.swap.obj.cell (i:=1) rfl;have gl:=hO.swap.obj.lt;by_cases hlt:i<KL.length
  ·obtain⟨b,off,rfl,h4⟩:=HK.out.2 (by intro h;simp[h] at hlt);obtain⟨x,y,hc,hx,hy⟩:=(h4 i hlt).v.cells;have hcl:=Mem.ay hO.inn (hc 0 _ rfl);have HC:=zh (fun j u hj=>Mem.aj hO.inn (hc j u hj));have h1:=eF hx hy;have hv2:=hv.push hx hy;rw[show FL.map (·.2) ++ (KL.take i).map (·.2) ++ [KL[i].2]=FL.map (·.2) ++ (KL.take (i+1)).map (·.2) by rw[List.take_succ_eq_append_getElem hlt,List.map_append,List.append_assoc];rfl] at hv2;have hl:(dcs KL[i].2 x y).length=18:=rfl;have HV:=zh hv2;have hO2:=hO.al (dcs KL[i].2 x y).toArray 35;generalize dcs KL[i].2 x y=N at *
   have HO:=zh hO2;clear hO hO2 hv hv2 hx hy hc h4
   go_wp2_with (first
    | refine ae tyD rfl (.tmp 34) rfl rfl N hl HC.out ?_
    | refine ib iN tyD wJ rfl zo rfl (.tmp 35) rfl (cs:=N.toArray) rfl (by simpa using hl) ?_
    | (at_builtin;refine aC iN rfl (.tmp 29) (.tmp 36) rfl v (FL.length+i) xs rfl HO.out.swap.row ⟨wr.heap.size,0,none⟩ 1 1 N rfl hl (by intro j u hj;rw[Addr.add_lit,Nat.zero_add];exact HO.out.obj.cell (by simpa using hj)) h1 (by unfold maxLen;omega) zo ?_))
   intro va vc w1 ho1 hg1 hr1;have hO1:=(HO.out.swap.app ho1 hg1 hr1 zS).drop2;have HO1:=zh hO1;clear HO hO1 ho1 hg1 hr1 g0 g1 gl;go_wp2;exact hX.out _ _ _ zo rfl ⟨i+1,_,_,zo,rfl,rfl,HV.out,HO1.out⟩
  ·obtain rfl:i=KL.length:=zo;rw[List.take_length] at hv;have hr:=dB.Fe (m:=m.grow w wr) (l:=SV) (by rw[HE.out,List.length_append,List.length_map,List.length_map];exact hO.row) (by rw[HE.out];exact hv) hO.free hO.aY.done;have HF:=zh (zi hO.below hr);clear hO hv hX hr;go_wp2;exact hR.out _ _ ⟨_,rfl,HF.out⟩
theorem oI {α β:Type} (f:α→List β) {l:List α} {i:Nat} (h:i<l.length):(l.take (i+1)).flatMap f=(l.take i).flatMap f ++ f l[i]:=by
 rw[List.take_succ_eq_append_getElem h,List.flatMap_append];simp
theorem tL {α β:Type} (f:α→List β):∀(l:List α) (i:Nat),((l.take i).flatMap f).length≤(l.flatMap f).length
 | [],i=>by simp
 | x::l,0=>by simp
 | x::l,i+1=>by
  have:=tL f l i;simp only[List.take_succ_cons,List.flatMap_cons,List.length_append];omega
theorem jQ (v:Vl) (s:Sl) (m:Mem) (n:Nat) (w:World) (hm:m.inn w) (hv:VAt m (n+1) s v) (hlen:v.kids.length≤1048576) :
 Calls Tryz.prog 68 #[v.val s] w fun e w'=>∃r,e=.returned r∧Below w.heap.size w w'∧dB (VAt (m.grow w w') n) (m.grow w w') r v.kids:=by
 have hO:=(Own.start hm).al (nine v s).toArray 33;have hv2:=hv.2;have H7:(nine v s).toArray[7]?=some s.l:=rfl;have H8:(nine v s).toArray[8]?=some s.s:=rfl;obtain⟨a1,b1,a2,b2,a3,b3,a4,b4,a5,b5,rfl,-,-,-,q4,q5⟩:=hv.spell;obtain⟨⟨z1,y1,e1,-,-,k1⟩,⟨z2,y2,e2,-,-,k2⟩⟩:=hv2;simp only[Value.slice.injEq] at e1 e2;obtain⟨rfl,-,rfl⟩:=e1;obtain⟨rfl,-,rfl⟩:=e2;simp only at H7 H8;have H7:=zh H7;have H8:=zh H8;unfold maxLen at q4 q5;unfold Vl.val;have HE:=zh (show v.kids=v.lists.flatMap bR ++ v.structs.flatMap dF from rfl);generalize (nine v _).toArray=N at *
 generalize v.kids=KD at *
 generalize v.lists=FL at *
 generalize v.structs=KL at *
 have HK:=zh (zi k1 k2);have HO:=zh (hO.dC 35 18);have HL:=zh (show (FL.flatMap bR).length+(KL.flatMap dF).length≤1048576 by have:=hlen;rw[HE.out,List.length_append] at this;exact this);clear hO k1 k2 hv hlen;refine av fun R hR=>?_
 go_enter Tryz.func68,Tryz.ntmps68
 go_wp2;refine au [1,3,4] (fun q vs wr=>∃(i:Nat) (r:Value) (xs:List Value) (mk:Mem),i≤FL.length∧q=FL.length - i∧vs=[.pointer (some ⟨w.heap.size,0,none⟩),r,.int .i64 (i:Int)]∧VRow (VAt mk n) xs ((FL.take i).flatMap bR) ∧
  Own w m wr mk [.row r 35 18 ((FL.take i).flatMap bR).length xs,.obj w.heap.size 33 N]) ?_ ?_
 ·exact⟨_,0,_,[],m,Nat.zero_le _,rfl,rfl,.nil _,HO.out⟩
 clear HO;rintro X z q vs wr hX - ⟨i,r,xs,mk,hi,rfl,rfl,hr,hO⟩;simp[litL,lk];have g7:=hO.swap.obj.cell H7.out;have gl:=hO.swap.obj.lt;by_cases hlt:i<FL.length
 ·obtain⟨b,off,rfl,h4⟩:=HK.out.1 (by intro h;simp[h] at hlt);obtain⟨u,u',hu,hu',x1,x2⟩:=h4 i hlt;have c1:=Mem.aj hO.inn (Mem.aA hO.ext.le hu);have c2:=Mem.aj hO.inn (Mem.aA hO.ext.le hu');have cl:=Mem.ay hO.inn (Mem.aA hO.ext.le hu);have hfs:=oI bR hlt;have hfl:=tL bR FL (i+1);rw[hfs,List.length_append] at hfl;have hlv:(bR FL[i]).length=FL[i].1.length+FL[i].2.length:=by rw[bR,List.length_append]
  have HF:=zh (sG u u' FL[i] mk n _ hO.inn (x1.le hO.ext.le fun _ _ h=>h.le hO.ext.le) (x2.le hO.ext.le fun _ _ h=>h.le hO.ext.le) (by have:=HL.out;omega));have HR:=zh (zi hr hfs);have HO:=zh hO;clear hO hr h4 hu hu' x1 x2 hfs hlv
  go_wp2_with fail
  refine HF.out.mono ?_;rintro e w1 ⟨r1,rfl,hb1,hv1⟩;have hO1:=HO.out.call hb1;obtain⟨ad,cc,ys,rfl,-,-,hy,hn,hk⟩:=hv1.seg;have hr1:=(HR.out.1.mono fun _ _ h=>h.le (Mem.dJ HO.out.inn)).append hy;rw[← HR.out.2] at hr1;have HR1:=zh hr1;have o1:=hy.one_cell;have ly:=hy.len;have HN:=zh (hk w1 hO1.inn);have HO1:=zh hO1;have HR:=zh (congrArg List.length HR.out.2);clear hO1 HO HF hb1 hv1 hy hk hr1 c1 c2 cl g7 gl;rw[List.length_append] at HR;generalize ((FL.take i).flatMap bR).length=t at *
  go_wp2_with (at_builtin;refine dA iN rfl (.tmp 13) (.tmp 19) rfl r t xs rfl HO1.out.row ad (bR FL[i]).length cc ys rfl ly hn HN.out o1 (by have:=HL.out;unfold maxLen;omega) (by have:=HL.out;omega) ?_)
  intro va vc w2 ho2 hg2 hr2;have hO2:=HO1.out.app ho2 hg2 hr2 (Nat.le_refl _);rw[← HR.out] at hO2;have HO2:=zh hO2;clear HO1 ho2 hg2 hr2 hO2;go_wp2;refine hX.out _ _ _ zo rfl ⟨i+1,_,_,_,zo,rfl,?_,HR1.out,HO2.out⟩;rw[HR.out];rfl
 ·obtain rfl:i=FL.length:=zo;rw[List.take_length] at hr hO;obtain⟨T,hT⟩:∃T,T=(FL.flatMap bR).length:=⟨_,rfl⟩;rw[← hT] at hO;have HT:=zh hT;clear hT;have HV:=zh hr;have HO:=zh hO;clear hO hr hX;go_wp2;refine au [1,3,5] (fun q vs wr=>∃(i:Nat) (r:Value) (xs:List Value) (mk:Mem),i≤KL.length∧q=KL.length - i∧vs=[.pointer (some ⟨w.heap.size,0,none⟩),r,.int .i64 (i:Int)]∧VRow (VAt mk n) xs (FL.flatMap bR ++ (KL.take i).flatMap dF) ∧
   Own w m wr mk [.row r 35 18 (T+((KL.take i).flatMap dF).length) xs,.obj w.heap.size 33 N]) ?_ ?_
  ·exact⟨_,0,_,xs,mk,Nat.zero_le _,rfl,rfl,by simpa using HV.out,HO.out⟩
  clear HO HV g7 gl;rintro X z q vs wr hX - ⟨i,r,xs,mk,hi,rfl,rfl,hr,hO⟩;simp[litL,lk];have g7:=hO.swap.obj.cell H8.out;have gl:=hO.swap.obj.lt;by_cases hlt:i<KL.length
  ·obtain⟨b,off,rfl,h4⟩:=HK.out.2 (by intro h;simp[h] at hlt);obtain⟨u,u',hu,hu',x1,x2⟩:=h4 i hlt;have c1:=Mem.aj hO.inn (Mem.aA hO.ext.le hu);have c2:=Mem.aj hO.inn (Mem.aA hO.ext.le hu');have cl:=Mem.ay hO.inn (Mem.aA hO.ext.le hu);have hfs:=oI dF hlt;have hfl:=tL dF KL (i+1);rw[hfs,List.length_append] at hfl;have hlv:(dF KL[i]).length=KL[i].1.length+KL[i].2.length:=by rw[dF,List.length_append,List.length_map,List.length_map]
   have HF:=zh (pE u u' KL[i] mk n _ hO.inn (x1.le hO.ext.le fun _ _ h=>h.le hO.ext.le) (x2.le hO.ext.le fun _ _ h=>h.le hO.ext.le) (by have:=HL.out;omega));have HR:=zh (zi hr hfs);have HO:=zh hO;clear hO hr h4 hu hu' x1 x2 hfs hlv
   go_wp2_with fail
   refine HF.out.mono ?_;rintro e w1 ⟨r1,rfl,hb1,hv1⟩;have hO1:=HO.out.call hb1;obtain⟨ad,cc,ys,rfl,-,-,hy,hn,hk⟩:=hv1.seg;have hr1:=(HR.out.1.mono fun _ _ h=>h.le (Mem.dJ HO.out.inn)).append hy;rw[List.append_assoc,← HR.out.2] at hr1;have HR1:=zh hr1;have o1:=hy.one_cell;have ly:=hy.len;have HN:=zh (hk w1 hO1.inn);have HO1:=zh hO1;have HR:=zh (congrArg List.length HR.out.2);clear hO1 HO HF hb1 hv1 hy hk hr1 c1 c2 cl g7 gl;rw[List.length_append] at HR;generalize ((KL.take i).flatMap dF).length=t at *
   go_wp2_with (at_builtin;refine dA iN rfl (.tmp 28) (.tmp 34) rfl r (T+t) xs rfl HO1.out.row ad (dF KL[i]).length cc ys rfl ly hn HN.out o1 (by have:=HL.out;have:=HT.out;unfold maxLen;omega) (by have:=HL.out;have:=HT.out;omega) ?_)
   intro va vc w2 ho2 hg2 hr2;have hO2:=HO1.out.app ho2 hg2 hr2 (Nat.le_refl _);rw[Nat.add_assoc,← HR.out] at hO2;have HO2:=zh hO2;clear HO1 ho2 hg2 hr2 hO2;go_wp2;refine hX.out _ _ _ zo rfl ⟨i+1,_,_,_,zo,rfl,?_,HR1.out,HO2.out⟩;rw[HR.out,← Nat.add_assoc];rfl
  ·obtain rfl:i=KL.length:=zo;rw[List.take_length] at hr hO;have hv:=dB.Fe (m:=m.grow w wr) (l:=KD) (by rw[HE.out,List.length_append,← HT.out];exact hO.row) (by rw[HE.out];exact hr) hO.free hO.aY.done;have HF:=zh (zi hO.below hv);clear hO hr hX hv;go_wp2;exact hR.out _ _ ⟨_,rfl,HF.out⟩
theorem qV.all {p:Nat} {most c:Int} (h:qV p most c):Bi p most c:=⟨h.le,h.gt,h.pos,h.top⟩
theorem qV.stop {p t:Nat} {most c:Int} (h:qV p most c) (hp:p≤t) (hc:most<c):Bi t most c:=by
 have h1:=h.le;exact⟨fun k=>zo,fun _=>hc,h.pos,h.top⟩
def cntK (n:Nat) (l:List Vd) (i:Nat):Nat:=1+((l.take i).map fun x=>vcnt n x.1+vcnt n x.2).sum
theorem AU (n:Nat) (l:List Vd) (i:Nat) (h:i<l.length):cntK n l (i+1)=cntK n l i+(vcnt n l[i].1+vcnt n l[i].2):=by
 unfold cntK;rw[List.take_succ_eq_append_getElem h,List.map_append,List.sum_append];simp;omega
theorem Da (n:Nat):∀(l:List Vd) (i:Nat),cntK n l i≤cntK n l l.length
 | [],i=>by simp[cntK]
 | x::l,0=>by simp[cntK]
 | x::l,i+1=>by
  have:=Da n l i;unfold cntK at *
  simp only[List.take_succ_cons,List.length_cons,List.map_cons,List.sum_cons,List.take_length] at *;omega
theorem Es (n:Nat) (v:Vl):cntK n v.kids v.kids.length=vcnt (n+1) v:=by unfold cntK;rw[List.take_length,vcnt]
theorem lU {n:Nat} {v:Vl} (h:Ht (n+1) v):v.kids.length+1≤vcnt (n+1) v:=by
 rw[vcnt];have:∀l:List Vd,(∀x∈l,Ht n x.1∧Ht n x.2)→l.length≤(l.map fun x=>vcnt n x.1+vcnt n x.2).sum:=by
  intro l
  induction l with
  | nil=>intro _;simp
  | cons x l ih=>
   intro hx;have h1:=qY (hx x zS).1;have:=ih fun y hy=>hx y (by simp[hy]);simp only[List.map_cons,List.sum_cons,List.length_cons];omega
 have:=this v.kids h;omega
theorem jf:∀(n:Nat) (v:Vl) (s:Sl) (most:Int) (m:Mem) (w:World),m.inn w→VAt m n s v→vcnt n v≤1048576 → -4294967296≤most→most≤2147483648 →
 Calls Tryz.prog 49 #[v.val s,.int .i64 most] w fun e w'=>∃r,e=.returned (.int .i64 r)∧Below w.heap.size w w'∧Bi (vcnt n v) most r
 | 0,_,_,_,_,_,_,h,_,_,_=>h.elim
 | n+1,v,s,most,m,w,hm,hv,hc,hm1,hm2=>by
  have hO:=(Own.start hm).al (nine v s).toArray 33;have hk:=lU hv.ht;have HV:=zh (jQ v s m n _ hO.inn hv zo);have HN:=zh hO.obj.all;have hN:(nine v s).length=9:=rfl;have HO:=zh hO;have hT:=Es n v;have hT2:=Da n v.kids;rw[hT] at hT2;have HT:=zh (zi hT (zi hT2 hc));unfold Vl.val at *
  generalize nine v s=N at *
  generalize v.kids=KD at *
  generalize vcnt (n+1) v=TOT at *
  clear hO hv hT hT2 hk;refine av fun R hR=>?_
  go_enter Tryz.func49,Tryz.ntmps49
  go_wp2_with (refine ae tyV rfl (.tmp 2) rfl rfl N hN HN.out ?_)
  refine HV.out.mono ?_;rintro e w1 ⟨r,rfl,hb1,hr⟩;have hO1:=HO.out.call hb1;obtain⟨a,c,rfl,p1,q1,hk⟩:=hr;have HK:=zh hk;have HO1:=zh hO1;unfold maxLen at q1;clear HO HV HN hb1 hk hO1;generalize m.grow (w.alloc (.cells N.toArray 33)) w1=M at *
  go_wp2;refine au [1,5,6,7] (fun q vs wr=>∃(i:Nat) (x:Int),i≤KD.length∧q=KD.length - i∧vs=[.int .i64 most,.int .i64 x,.slice a KD.length c,.int .i64 (i:Int)]∧qV (cntK n KD i) most x ∧
   Own w m wr M [.obj w.heap.size 33 N.toArray]) ?_ ?_
  ·exact⟨_,0,1,Nat.zero_le _,rfl,rfl,by simpa [cntK] using qV.start most,HO1.out⟩
  clear HO1;rintro X z q vs wr hX - ⟨i,x,hi,rfl,rfl,hct,hO⟩;simp[litL,lk];have htop:=hct.top;have hpos:=hct.pos;by_cases hlt:i<KD.length
  case neg=>
   obtain rfl:i=KD.length:=zo;have HF:=zh (zi hO.below hct.all);rw[HT.out.1] at HF;clear hO hct hX HT;go_wp2;exact hR.out _ _ ⟨_,rfl,HF.out⟩
  by_cases hle:x≤most
  case neg=>
   have hd:decide (x≤most)=false:=decide_eq_false hle;have HF:=zh (zi hO.below (hct.stop (HT.out.2.1 i) zo));clear hO hct hX HT;go_wp2;exact hR.out _ _ ⟨_,rfl,HF.out⟩
  have hd:decide (x≤most)=true:=decide_eq_true hle;obtain⟨b,off,rfl,h4⟩:=HK.out (by intro h;simp[h] at hlt);obtain⟨x1,x2,c1,r1,c2,r2⟩:=h4 i hlt;have hcl:=Mem.ay hO.inn c1.a;have hcl2:=Mem.ay hO.inn c2.a;have HC1:=zh (fun j u hj=>Mem.aj hO.inn (c1.get (j:=j) (u:=u) hj));have HG2:=zh (fun j u hj=>c2.get (j:=j) (u:=u) hj);have hs:=AU n KD i hlt;have hl:=HT.out.2.1 (i+1);have hc:=HT.out.2.2;have hp1:=qY r1.ht;have hp2:=qY r2.ht;have HX1:=zh (jf n KD[i].1 x1 (most - x) M wr hO.inn r1 zo (by split at htop <;> omega) zo);have HX2:=zh (fun w' (h:M.inn w') mo=>jf n KD[i].2 x2 mo M w' h r2 zo);have hN1:(nine KD[i].1 x1).length=9:=rfl;have hN2:(nine KD[i].2 x2).length=9:=rfl;have HS:=zh (zi hct (zi hs (zi hp1 hp2)));have HO:=zh hO;unfold Vl.val at HX1 HX2;generalize nine KD[i].1 x1=N1 at *
  generalize nine KD[i].2 x2=N2 at *
  clear hO c1 c2 r1 r2 h4 hs hl hc hct
  go_wp2_with (refine ae tyV rfl (.tmp 25) rfl rfl N1 hN1 HC1.out ?_)
  refine HX1.out.mono ?_;rintro e w2 ⟨y1,rfl,hb2,hi1⟩;have hi1t:y1≤2*(most - x)+2:=by have:=hi1.top;split at this <;> omega
  have hi1p:=hi1.pos;have hO2:=HO.out.move hb2;have hcl:=Nat.lt_of_lt_of_le hcl2 hb2.size;have HC2:=zh (fun j u hj=>Mem.aj hO2.inn (HG2.out j u hj));have HY:=zh (HX2.out w2 hO2.inn (most - (x+y1)) zo zo);have HO2:=zh hO2;have HI:=zh hi1;have htop:x≤2*most+2:=by split at htop <;> omega
  clear HO hO2 hb2 hi1 HC1 HG2 HX1 HX2 hcl2
  go_wp2_with (refine ae tyV rfl (.tmp 36) rfl rfl N2 hN2 HC2.out ?_)
  refine HY.out.mono ?_;rintro e w3 ⟨y2,rfl,hb3,hi2⟩;have hi2t:y2≤2*most+4:=by have:=hi2.top;split at this <;> omega
  have hi2p:=hi2.pos;have HO3:=zh (HO2.out.move hb3);have hst:=qV.step HS.out.1 hle HI.out hi2 HS.out.2.2.1 HS.out.2.2.2;rw[← HS.out.2.1] at hst;have HST:=zh hst;clear HO2 HY hb3 hi2 HC2 hst HI HS;go_wp2;exact hX.out _ _ _ zo rfl ⟨i+1,_,zo,rfl,rfl,HST.out,HO3.out⟩
structure FewC (c:St):Prop where
 f:c.1.length≤6
 k:c.2.length≤6
 lab:∀f∈c.1,f.1.1.size≤40
 set:∀k∈c.2,fZ k.1
theorem Ll (v:Vl):FewP v↔(fZ v.s.t∧v.s.i.length≤8∧v.s.f.length≤8∧v.lists.length≤4∧v.structs.length≤4)∧∀c∈v.structs,FewC c:=
 ⟨fun h=>⟨⟨h.sc.2.2,h.sc.1,h.sc.2.1,h.l,h.s⟩,fun c hc=>⟨h.f c hc,h.k c hc,h.lab c hc,h.set c hc⟩⟩,
  fun h=>⟨⟨h.1.2.1,h.1.2.2.1,h.1.1⟩,h.1.2.2.2.1,h.1.2.2.2.2,fun c hc=>(h.2 c hc).f,fun c hc=>(h.2 c hc).k,fun c hc=>(h.2 c hc).lab,fun c hc=>(h.2 c hc).set⟩⟩
theorem kr {α:Type} (P:α→Prop) {l:List α} {i:Nat} (h:i<l.length):(∀x∈l.drop i,P x)↔P l[i]∧∀x∈l.drop (i+1),P x:=by
 rw[List.drop_eq_getElem_cons h];exact List.forall_mem_cons
theorem nN {α:Type} (P:α→Prop) {l:List α} {i:Nat} (h:l.length≤i):∀x∈l.drop i,P x:=by
 rw[List.drop_eq_nil_of_le h];simp
theorem qx {p q:Prop} (hp:p):tf (p∧q)=tf q:=bg ⟨fun h=>h.2,fun h=>⟨hp,h⟩⟩
theorem Lm (c:St):FewC c↔(c.1.length≤6∧c.2.length≤6)∧(∀f∈c.1,f.1.1.size≤40)∧∀k∈c.2,fZ k.1:=⟨fun h=>⟨⟨h.f,h.k⟩,h.lab,h.set⟩,fun h=>⟨h.1.1,h.1.2,h.2.1,h.2.2⟩⟩
theorem NI {p q:Prop} (hp:¬ p):tf (p∧q)=false:=az fun h=>hp h.1
theorem pG:∀(n:Nat) (v:Vl) (s:Sl) (m:Mem) (w:World),m.inn w→VAt m n s v→vcnt n v≤1048576 →
 Calls Tryz.prog 50 #[v.val s] w fun e w'=>e=.returned (.bool (tf (FewV n v)))∧Below w.heap.size w w'
 | 0,_,_,_,_,_,h,_=>h.elim
 | n+1,v,s,m,w,hm,hv,hc=>by
  have hO:=(Own.start hm).al (nine v s).toArray 33;have hk:=lU hv.ht;have HV:=zh (fun w' (h:m.inn w')=>jQ v s m n w' h hv zo);have HT:=zh (Bh s.t v.s.t m _ hO.inn hv.1.t);have hcnt:∀d∈v.kids,vcnt n d.1≤1048576∧vcnt n d.2≤1048576:=fun d hd=>by have:=nT (n:=n) hd;omega
  have HC:=zh hcnt;have hN:(nine v s).length=9:=rfl;have H4:(nine v s).toArray[4]?=some s.i:=rfl;have H5:(nine v s).toArray[5]?=some s.f:=rfl;have H6:(nine v s).toArray[6]?=some s.t:=rfl;have H7:(nine v s).toArray[7]?=some s.l:=rfl;have H8:(nine v s).toArray[8]?=some s.s:=rfl;have hv2:=hv.2.2;obtain⟨a1,b1,a2,b2,a3,b3,a4,b4,a5,b5,rfl,q1,q2,q3,q4,q5⟩:=hv.spell;obtain⟨z2,y2,e2,-,-,k2⟩:=hv2;simp only[Value.slice.injEq] at e2;obtain⟨rfl,-,rfl⟩:=e2;simp only at H4 H5 H6 H7 H8;have HH:=zh (zi H4 (zi H5 (zi H6 (zi H7 H8))));unfold maxLen at q1 q2 q3 q4 q5;have hE:FewV (n+1) v↔(fZ v.s.t∧v.s.i.length≤8∧v.s.f.length≤8∧v.lists.length≤4∧v.structs.length≤4)∧(∀c∈v.structs,FewC c)∧∀x∈v.kids,FewV n x.1∧FewV n x.2:=by
   rw[← and_assoc,← Ll];rfl
  have HE:=zh (bg hE);have HK:=zh k2;have HO:=zh hO;have g6:=hO.obj.cell H6;clear hO hv k2 hk hcnt hc hE H4 H5 H6 H7 H8;unfold Vl.val at *
  obtain⟨KP,hKP⟩:∃KP:Prop,KP=∀x∈v.kids,FewV n x.1∧FewV n x.2:=⟨_,rfl⟩;rw[← hKP] at HE;have HKP:=zh hKP;clear hKP;generalize nine v _=N at *
  generalize v.kids=KD at *
  generalize v.structs=KL at *
  generalize v.lists.length=l4 at *
  generalize v.s.i.length=l1 at *
  generalize v.s.f.length=l2 at *
  generalize v.s.t.length=l3 at *
  generalize tf (FewV (n+1) v)=FF at *
  have HNO:=zh (fun (h:¬ (fZ v.s.t∧l1≤8∧l2≤8∧l4≤4∧KL.length≤4))=>HE.out.trans (NI h));refine av fun R hR=>?_
  go_enter Tryz.func50,Tryz.ntmps50
  go_wp2_with fail
  refine HT.out.mono ?_;rintro e w1 ⟨rfl,hb1⟩;have hO1:=HO.out.move hb1;have g4:=hO1.obj.cell HH.out.1;have g5:=hO1.obj.cell HH.out.2.1;have g7:=hO1.obj.cell HH.out.2.2.2.1;have g8:=hO1.obj.cell HH.out.2.2.2.2;have HO1:=zh hO1;clear HO hO1 HT hb1 g6;by_cases c0:fZ v.s.t
  case neg=>
   have HF:=zh (HNO.out fun h=>c0 h.1);rw[az c0];clear c0 HE HNO;go_wp2;exact hR.out _ _ ⟨by rw[HF.out] <;> rfl,HO1.out.below⟩
  rw[aH c0];by_cases c1:l1≤8
  case neg=>
   have HF:=zh (HNO.out fun h=>c1 h.2.1);clear HE HNO c0;go_wp2;exact hR.out _ _ ⟨by rw[HF.out] <;> rfl,HO1.out.below⟩
  by_cases c2:l2≤8
  case neg=>
   have HF:=zh (HNO.out fun h=>c2 h.2.2.1);clear HE HNO c0;go_wp2;exact hR.out _ _ ⟨by rw[HF.out] <;> rfl,HO1.out.below⟩
  by_cases c3:l4≤4
  case neg=>
   have HF:=zh (HNO.out fun h=>c3 h.2.2.2.1);clear HE HNO c0;go_wp2;exact hR.out _ _ ⟨by rw[HF.out] <;> rfl,HO1.out.below⟩
  by_cases c4:KL.length≤4
  case neg=>
   have HF:=zh (HNO.out fun h=>c4 h.2.2.2.2);clear HE HNO c0;go_wp2;exact hR.out _ _ ⟨by rw[HF.out] <;> rfl,HO1.out.below⟩
  have HE2:=zh (HE.out.trans (qx ⟨c0,c1,c2,c3,c4⟩));clear HE HNO c0;go_wp2;refine au [1,3] (fun q vs wr=>∃(i:Nat),i≤KL.length∧q=KL.length - i∧vs=[.pointer (some ⟨w.heap.size,0,none⟩),.int .i64 (i:Int)]∧FF=tf ((∀c∈KL.drop i,FewC c)∧KP) ∧
   Own w m wr m [.obj w.heap.size 33 N.toArray]) ?_ ?_
  ·exact⟨_,0,Nat.zero_le _,rfl,rfl,HE2.out,HO1.out⟩
  clear HO1 HE2 g4 g5 g7 g8;rintro X z q vs wr hX - ⟨i,hi,rfl,rfl,hE,hO⟩;simp[litL,lk];have g8:=hO.obj.cell HH.out.2.2.2.2;have gl:=hO.obj.lt;by_cases hlt:i<KL.length
  ·obtain⟨b,off,rfl,h4⟩:=HK.out (by intro h;simp[h] at hlt);obtain⟨u,u',d1,d2,kf,kk⟩:=h4 i hlt;obtain⟨af,cf,rfl,pf,qf,kf⟩:=kf;obtain⟨ak,ck,rfl,pk,qk,kk⟩:=kk;have x1:=Mem.aj hO.inn d1;have x2:=Mem.aj hO.inn d2;have xl:=Mem.ay hO.inn d1;rw[bg (and_congr (kr FewC hlt) Iff.rfl),bg (and_assoc (a:=FewC KL[i])),bg (and_congr (Lm KL[i]) Iff.rfl)] at hE;have HE:=zh hE;have HKK:=zh (zi kf kk);have HO:=zh (hO.al #[.slice af KL[i].1.length cf,.slice ak KL[i].2.length ck] 45);unfold maxLen at qf qk;clear hE hO h4 kf kk d1 d2;generalize KL[i].1=FL at *
   generalize KL[i].2=CL at *
   by_cases c5:FL.length≤6∧CL.length≤6
   case neg=>
    have HF:=zh (HE.out.trans (az fun h=>c5 h.1.1));clear HE;by_cases c6:FL.length≤6
    ·have c7:¬ CL.length≤6:=fun h=>c5 ⟨c6,h⟩;clear c5;go_wp2;exact hR.out _ _ ⟨by rw[HF.out] <;> rfl,HO.out.below⟩
    ·clear c5;go_wp2;exact hR.out _ _ ⟨by rw[HF.out] <;> rfl,HO.out.below⟩
   obtain⟨c5,c6⟩:=c5;have hE2:=HE.out.trans (bg (and_congr_left fun _=>(and_iff_right (show FL.length≤6∧CL.length≤6 from ⟨c5,c6⟩))));have HE2:=zh hE2;clear hE2 HE;go_wp2;refine au [1,3,4,5] (fun q vs w2=>∃(j:Nat),j≤FL.length∧q=FL.length - j∧vs=[.pointer (some ⟨w.heap.size,0,none⟩),.int .i64 (i:Int),.pointer (some ⟨wr.heap.size,0,none⟩),.int .i64 (j:Int)]∧FF=tf (((∀f∈FL.drop j,f.1.1.size≤40)∧∀k∈CL,fZ k.1)∧(∀c∈KL.drop (i+1),FewC c)∧KP) ∧
    Own w m w2 m [.obj wr.heap.size 45 #[.slice af FL.length cf,.slice ak CL.length ck],.obj w.heap.size 33 N.toArray]) ?_ ?_
   ·exact⟨_,0,Nat.zero_le _,rfl,rfl,HE2.out,HO.out⟩
   clear HO HE2 x1 x2 xl g8 gl;rintro Y z q vs w2 hY - ⟨j,hj,rfl,rfl,hE,hO⟩;simp[litL,lk];have g0:=hO.obj.cell (i:=0) rfl;have g1:=hO.obj.cell (i:=1) rfl;have gl:=hO.obj.lt;by_cases hlj:j<FL.length
   ·obtain⟨b',off',rfl,h4⟩:=HKK.out.1 (by intro h;simp[h] at hlj);have x1:=Mem.aj hO.inn (h4 j hlj).s;have xl:=Mem.ay hO.inn (h4 j hlj).s;have xs:=(h4 j hlj).sz;unfold maxLen at xs;rw[bg (and_congr_left fun _=>and_congr_left fun _=>kr (fun f:Fd=>f.1.1.size≤40) hlj)] at hE;have HE:=zh hE;have HO:=zh hO;clear hE hO h4;generalize FL[j].1.1=lab at *
    by_cases c7:lab.size≤40
    ·have HE2:=zh (HE.out.trans (bg (and_congr_left fun _=>and_congr_left fun _=>and_iff_right c7)));clear HE;go_wp2;exact hY.out _ _ _ zo rfl ⟨j+1,zo,rfl,rfl,HE2.out,HO.out⟩
    ·have HF:=zh (HE.out.trans (az fun h=>c7 h.1.1.1));clear HE;go_wp2;exact hR.out _ _ ⟨by rw[HF.out] <;> rfl,HO.out.below⟩
   ·have HE:=zh (hE.trans (bg (and_congr_left fun _=>and_iff_right (nN (fun f:Fd=>f.1.1.size≤40) (l:=FL) (i:=j) zo))));have HO:=zh hO;clear hE hO hY;go_wp2;refine au [1,3,4,6] (fun q vs w2=>∃(j:Nat),j≤CL.length∧q=CL.length - j∧vs=[.pointer (some ⟨w.heap.size,0,none⟩),.int .i64 (i:Int),.pointer (some ⟨wr.heap.size,0,none⟩),.int .i64 (j:Int)]∧FF=tf ((∀k∈CL.drop j,fZ k.1)∧(∀c∈KL.drop (i+1),FewC c)∧KP) ∧
     Own w m w2 m [.obj wr.heap.size 45 #[.slice af FL.length cf,.slice ak CL.length ck],.obj w.heap.size 33 N.toArray]) ?_ ?_
    ·exact⟨_,0,Nat.zero_le _,rfl,rfl,HE.out,HO.out⟩
    clear HO HE g0 g1 gl;rintro Y z q vs w2 hY - ⟨j,hj,rfl,rfl,hE,hO⟩;simp[litL,lk];have g1:=hO.obj.cell (i:=1) rfl;have gl:=hO.obj.lt;by_cases hlj:j<CL.length
    ·obtain⟨b',off',rfl,h4⟩:=HKK.out.2 (by intro h;simp[h] at hlj);obtain⟨ut,hu,hst⟩:=(h4 j hlj).s;have x1:=Mem.aj hO.inn hu;have xl:=Mem.ay hO.inn hu;have HT:=zh (Bh ut CL[j].1 m _ hO.inn hst);obtain⟨at',ct',rfl,-⟩:=hst;rw[bg (and_congr_left fun _=>kr (fun k:Kl=>fZ k.1) hlj)] at hE;have HE:=zh hE;have HO:=zh hO;clear hE hO h4 hu
     go_wp2_with fail
     refine HT.out.mono ?_;rintro e w3 ⟨rfl,hb3⟩;have HO3:=zh (HO.out.move hb3);clear HO HT hb3 x1 xl g1 gl;by_cases c7:fZ CL[j].1
     ·have HE2:=zh (HE.out.trans (bg (and_congr_left fun _=>and_iff_right c7)));rw[aH c7];clear HE c7;go_wp2;exact hY.out _ _ _ zo rfl ⟨j+1,zo,rfl,rfl,HE2.out,HO3.out⟩
     ·have HF:=zh (HE.out.trans (az fun h=>c7 h.1.1));rw[az c7];clear HE c7;go_wp2;exact hR.out _ _ ⟨by rw[HF.out] <;> rfl,HO3.out.below⟩
    ·have HE:=zh (hE.trans (qx (nN (fun k:Kl=>fZ k.1) (l:=CL) (i:=j) zo)));have HO:=zh hO.tail;clear hE hO hY;go_wp2;exact hX.out _ _ _ zo rfl ⟨i+1,zo,rfl,rfl,HE.out,HO.out⟩
  ·have HE:=zh (hE.trans (qx (nN FewC (l:=KL) (i:=i) zo)));have HVV:=zh (HV.out wr hO.inn);have HN:=zh hO.obj.all;have HO:=zh hO;clear hE hO hX HV
   go_wp2_with (refine ae tyV rfl (.tmp 1) rfl rfl N hN HN.out ?_)
   refine HVV.out.mono ?_;rintro e w2 ⟨r,rfl,hb2,hr⟩;have hO2:=HO.out.call hb2;obtain⟨a,c,rfl,p1,qq1,hk⟩:=hr;have HK2:=zh hk;have HO2:=zh hO2;unfold maxLen at qq1;clear HO HVV HN hb2 hk hO2 g8 gl;generalize m.grow wr w2=M at *
   go_wp2;refine au [7,8] (fun q vs w3=>∃(i:Nat),i≤KD.length∧q=KD.length - i∧vs=[.slice a KD.length c,.int .i64 (i:Int)]∧FF=tf (∀x∈KD.drop i,FewV n x.1∧FewV n x.2) ∧
    Own w m w3 M [.obj w.heap.size 33 N.toArray]) ?_ ?_
   ·exact⟨_,0,Nat.zero_le _,rfl,rfl,by rw[HE.out,HKP.out];rfl,HO2.out⟩
   clear HO2 HE;rintro Y z q vs w3 hY - ⟨j,hj,rfl,rfl,hE,hO⟩;simp[litL,lk];by_cases hlj:j<KD.length
   ·obtain⟨b,off,rfl,h4⟩:=HK2.out (by intro h;simp[h] at hlj);obtain⟨x1,x2,e1,r1,e2,r2⟩:=h4 j hlj;have hcl:=Mem.ay hO.inn e1.a;have HC1:=zh (fun k u hk=>Mem.aj hO.inn (e1.get (j:=k) (u:=u) hk));have HG2:=zh (fun k u hk=>e2.get (j:=k) (u:=u) hk);have hcc:=HC.out KD[j] (List.getElem_mem hlj);have HX1:=zh (pG n KD[j].1 x1 M w3 hO.inn r1 hcc.1);have HX2:=zh (fun w' (h:M.inn w')=>pG n KD[j].2 x2 M w' h r2 hcc.2);have hN1:(nine KD[j].1 x1).length=9:=rfl;have hN2:(nine KD[j].2 x2).length=9:=rfl;rw[bg (kr (fun x:Vd=>FewV n x.1∧FewV n x.2) hlj)] at hE;have HE:=zh hE;have HO:=zh hO;unfold Vl.val at HX1 HX2;generalize nine KD[j].1 x1=N1 at *
    generalize nine KD[j].2 x2=N2 at *
    clear hO e1 e2 r1 r2 h4 hE hcc
    go_wp2_with (refine ae tyV rfl (.tmp 105) rfl rfl N1 hN1 HC1.out ?_)
    refine HX1.out.mono ?_;rintro e w4 ⟨rfl,hb4⟩;have hO4:=HO.out.move hb4;have hcl:=Nat.lt_of_lt_of_le hcl hb4.size;have HC2:=zh (fun k u hk=>Mem.aj hO4.inn (HG2.out k u hk));have HY:=zh (HX2.out w4 hO4.inn);have HO4:=zh hO4;clear HO hO4 hb4 HC1 HG2 HX1 HX2;by_cases f1:FewV n KD[j].1
    case neg=>
     have HF:=zh (HE.out.trans (az fun h=>f1 h.1.1));rw[az f1];clear HE HY f1;go_wp2;exact hR.out _ _ ⟨by rw[HF.out] <;> rfl,HO4.out.below⟩
    rw[aH f1]
    go_wp2_with (refine ae tyV rfl (.tmp 113) rfl rfl N2 hN2 HC2.out ?_)
    refine HY.out.mono ?_;rintro e w5 ⟨rfl,hb5⟩;have HO5:=zh (HO4.out.move hb5);clear HO4 hb5 HC2 HY;by_cases f2:FewV n KD[j].2
    ·have HE2:=zh (HE.out.trans (qx ⟨f1,f2⟩));rw[aH f2];clear HE f1 f2;go_wp2;exact hY.out _ _ _ zo rfl ⟨j+1,zo,rfl,rfl,HE2.out,HO5.out⟩
    ·have HF:=zh (HE.out.trans (az fun h=>f2 h.1.2));rw[az f2];clear HE f1 f2;go_wp2;exact hR.out _ _ ⟨by rw[HF.out] <;> rfl,HO5.out.below⟩
   ·have HF:=zh (hE.trans (aH (nN (fun x:Vd=>FewV n x.1∧FewV n x.2) (l:=KD) (i:=j) zo)));have HB:=zh hO.below;clear hE hO hY;go_wp2;exact hR.out _ _ ⟨by rw[HF.out] <;> rfl,HB.out⟩
noncomputable def fP (n:Nat) (v:Vl):Bool:=decide (vcnt n v≤80)&&tf (FewV n v)
theorem kQ {n:Nat} {v:Vl} (h:fP n v=true):Kb n v:=by
 unfold fP at h;rw[Bool.and_eq_true,decide_eq_true_eq,vC] at h;exact⟨h.1,h.2⟩
theorem kU (n:Nat) (v:Vl) (s:Sl) (m:Mem) (w:World) (hm:m.inn w) (hv:VAt m n s v) (hc:vcnt n v≤1048576) :
 Calls Tryz.prog 20 #[v.val s] w fun e w'=>e=.returned (.bool (fP n v))∧Below w.heap.size w w':=by
 have hO:=(Own.start hm).al (nine v s).toArray 33;have HC:=zh (jf n v s 80 m _ hO.inn hv hc zo zo);have HF:=zh (fun w' (h:m.inn w')=>pG n v s m w' h hv hc);have hN:(nine v s).length=9:=rfl;have HO:=zh hO;have HS:=zh (show fP n v=(decide (vcnt n v≤80)&&tf (FewV n v)) from rfl);unfold Vl.val at *
 generalize nine v s=N at *
 generalize fP n v=SB at *
 clear hO hv;have q0:=HO.out.obj.all;refine av fun R hR=>?_
 go_enter Tryz.func20,Tryz.ntmps20
 go_wp2_with (refine ae tyV rfl (.tmp 1) rfl rfl N hN q0 ?_)
 refine HC.out.mono ?_;rintro e w1 ⟨r,rfl,hb1,hr⟩;have hsm:=hr.small;have HO1:=zh (HO.out.move hb1);have HF1:=zh (HF.out w1 HO1.out.inn);have HN1:=zh HO1.out.obj.all;clear HO HC HF hb1 hr q0;by_cases h:r≤80
 ·have hd:decide (r≤80)=true:=decide_eq_true h;have HS2:=zh (HS.out.trans (by rw[decide_eq_true (show vcnt n v≤80 by omega),Bool.true_and]));clear HS hsm
  go_wp2_with (first | refine ae tyV rfl (.tmp 1) rfl rfl N hN HN1.out ?_ | (rw[hd];refine ae tyV rfl (.tmp 1) rfl rfl N hN HN1.out ?_))
  refine HF1.out.mono ?_;rintro e w2 ⟨rfl,hb2⟩;have HB:=zh (HO1.out.move hb2).below;generalize tf (FewV n v)=ff at *
  clear HO1 HF1 hb2 HN1;go_wp2;exact hR.out _ _ ⟨by rw[HS2.out] <;> rfl,HB.out⟩
 ·have hd:decide (r≤80)=false:=decide_eq_false h;have HS2:=zh (HS.out.trans (by rw[decide_eq_false (show ¬ vcnt n v≤80 by omega),Bool.false_and]));have HB:=zh HO1.out.below;clear HS HO1 HF1 HN1 hsm;go_wp2;exact hR.out _ _ ⟨by rw[HS2.out] <;> rfl,HB.out⟩
theorem Kt (cs:List Comp) (v:List Int) (k:Nat):jb (cs.take k) (v.take k)≤k:=by
 unfold jb;refine Nat.le_trans List.countP_le_length ?_;simp;omega
theorem wZ (c:St):(stC1 c).length=c.2.length+c.1.length:=by simp[stC1]
def hitK (c:St) (v:List Int) (k:Nat):Nat:=jb ((stC1 c).take k) (v.take k)
structure StV (c:St) (v:List Int):Prop where
 len:v.length=c.2.length+c.1.length
 le:∀k,hitK c v k≤k
 all:jb (stC1 c) v=hitK c v (c.2.length+c.1.length)
 rngT:∀i (h:i<c.2.length) (hv:i<v.length),-1≤v[i]∧v[i]<(c.2[i].1.length:Int)
 hitT:∀i (h:i<c.2.length) (hv:i<v.length),hitK c v (i+1)=hitK c v i+if dP c.2[i].1 v[i] then 1 else 0
 rngF:∀i (h:i<c.1.length) (hv:c.2.length+i<v.length),-1≤v[c.2.length+i]∧v[c.2.length+i]≤(c.1[i].1.1.size:Int)
 hitF:∀i (h:i<c.1.length) (hv:c.2.length+i<v.length),hitK c v (c.2.length+(i+1))=hitK c v (c.2.length+i)+if v[c.2.length+i]=(c.1[i].1.1.size:Int) then 1 else 0
theorem wG (s:ByteArray):s.data.toList.length=s.size:=Array.length_toList
theorem StV.of {c:St} {v:List Int} (h:VIn (stC1 c) v):StV c v:=by
 have hl:=h.len;have hl2:=wZ c;have tT:∀i (hi:i<c.2.length) (h':i<(stC1 c).length),(stC1 c)[i]=tabC (c.2[i]).1:=fun i hi h'=>by
  simp only[stC1];rw[List.getElem_append_left (by simpa using hi)];simp
 have tF:∀i (hi:i<c.1.length) (h':c.2.length+i<(stC1 c).length),(stC1 c)[c.2.length+i]=labC (c.1[i]).1.1.data.toList:=fun i hi h'=>by
  simp only[stC1];rw[List.getElem_append_right zS];simp
 refine ⟨zo,Kt _ _,?_,fun i hi hv=>?_,fun i hi hv=>?_,fun i hi hv=>?_,fun i hi hv=>?_⟩
 ·unfold hitK;rw[← hl2,List.take_length,← hl,List.take_length]
 ·have:=h.get i zo hv;rw[tT i hi] at this;exact this
 ·have:=o7 (cs:=stC1 c) (v:=v) (k:=i) zo hv;rw[tT i hi] at this;exact this
 ·have:=h.get (c.2.length+i) zo hv;rw[tF i hi] at this;have h2:(labC (c.1[i]).1.1.data.toList).n=(c.1[i]).1.1.size+1:=by show _+1=_;rw[wG]
  rw[h2] at this;omega
 ·have:=o7 (cs:=stC1 c) (v:=v) (k:=c.2.length+i) zo hv;rw[tF i hi] at this;rw[← Nat.add_assoc];unfold hitK;rw[this]
  congr 1
  show (if (v[c.2.length+i]==(((c.1[i]).1.1.data.toList).length:Int))=true then 1 else 0)=_;rw[wG];simp
theorem Br (u u' va:Value) (c:St) (v:List Int) (m:Mem) (n:Nat) (w:World) (hm:m.inn w) (h1:ja (VAt m n) m u c.1) (h2:iA (VAt m n) m u' c.2) (hv:cO m va v) (hV:VIn (stC1 c) v) :
 Calls Tryz.prog 193 #[.agg #[u,u'],va] w fun e w'=>e=.returned (.int .i64 (jb (stC1 c) v))∧Below w.heap.size w w':=by
 have hS:=StV.of hV;have HVL:=zh hS.len;obtain⟨a1,c1,rfl,p1,q1,k1⟩:=h1;obtain⟨a2,c2,rfl,p2,q2,k2⟩:=h2;obtain⟨a3,c3,rfl,p3,q3,k3⟩:=hv;unfold maxLen at q1 q2 q3;have HA:=zh hS.all;have HR:=zh (zi hS.rngT hS.rngF);have HH:=zh (zi hS.hitT hS.hitF);have HL:=zh hS.le;have HK:=zh (zi k1 (zi k2 k3));have HO:=zh ((Own.start hm).al #[.slice a1 c.1.length c1,.slice a2 c.2.length c2] 45);have h0:hitK c v 0=0:=by simp[hitK,jb]
 clear hV hS k1 k2 k3;generalize jb (stC1 c) v=VH at *
 generalize hitK c v=hk at *
 generalize c.2=KL at *
 generalize c.1=FL at *
 refine av fun R hR=>?_
 go_enter Tryz.func193,Tryz.ntmps193
 go_wp2;refine au [1,2,5,11,12,13] (fun q vs wr=>∃(i:Nat),i≤KL.length∧q=KL.length - i∧vs=[.slice a3 v.length c3,.pointer (some ⟨w.heap.size,0,none⟩),.int .i64 (hk i:Int),.slice a2 KL.length c2,.int .i64 (KL.length:Int),.int .i64 (i:Int)] ∧
  Own w m wr m [.obj w.heap.size 45 #[.slice a1 FL.length c1,.slice a2 KL.length c2]]) ?_ ?_
 ·exact⟨_,0,Nat.zero_le _,rfl,by rw[h0];rfl,HO.out⟩
 clear HO;rintro X z q vs wr hX - ⟨i,hi,rfl,rfl,hO⟩;simp[litL,lk];have hrl:=HL.out i;have g0:=hO.obj.cell (i:=0) rfl;have g1:=hO.obj.cell (i:=1) rfl;have gl:=hO.obj.lt;by_cases hlt:i<KL.length
 ·obtain⟨b,off,rfl,h4⟩:=HK.out.2.1 (by intro h;simp[h] at hlt);obtain⟨kc,x,y,hks,hc,hx,hy⟩:=(h4 i hlt).cells;obtain⟨b3,off3,rfl,h5⟩:=HK.out.2.2 (by intro h;have:=HVL.out;rw[h] at this;simp at this;omega);have hiv:i<v.length:=by have:=HVL.out;omega
  have e1:=(h5 i hiv).1;have hcl:=Mem.ay hO.inn (hc 0 _ rfl);have HC:=zh (fun j u hj=>Mem.aj hO.inn (hc j u hj));have h2:=nA hks hx hy;have hl2:(kcs KL[i] kc x y).length=19:=rfl;have H0:(kcs KL[i] kc x y).toArray[0]?=some kc:=rfl;have hrg:=HR.out.1 i hlt hiv;have HS:=zh (HH.out.1 i hlt hiv);have hacc:∀k:Nat,k<KL[i].1.length→dP KL[i].1 (k:Int)=((KL[i].1)[k]?.map (·.accept)).getD false:=fun k hk=>by rw[dG _ _ hk];simp[hk]
  have hneg:∀z:Int,z<0→dP KL[i].1 z=false:=fun z hz=>by unfold dP;rw[if_pos hz]
  have HQ:=zh (zi hacc hneg);have HO:=zh (hO.al zcK 61);obtain⟨ta,tc,rfl,t1,t2,t3⟩:=hks;unfold maxLen at t2;have HT:=zh t3;generalize kcs KL[i] _ x y=M at *
  generalize v[i]=vi at *
  generalize KL[i].1=T at *
  generalize hk i=r at *
  clear hO hx hy hc h4 h5 t3 hacc hneg
  go_wp2_with (first
   | refine ae tyK rfl (.tmp 16) rfl rfl M hl2 HC.out ?_
   | refine aI tyK rfl (.tmp 7) (.tmp 17) rfl (cs:=M.toArray) rfl rfl rfl (by simpa using hl2) (fun u hu=>h2 u hu) HO.out.obj ?_)
  intro w1 ho1 hg1;have hO1:=HO.out.setObj ho1 hg1;have gb:=ho1.cell H0;have gbl:=hO1.obj.lt;have x1:=Mem.aj hO1.inn e1;have xl:=Mem.ay hO1.inn e1;have HO1:=zh hO1.tail;by_cases hpos:0≤vi
  ·obtain⟨k,rfl⟩:=Int.eq_ofNat_of_zero_le hpos;have hkt:k<T.length:=zo;obtain⟨tb,to,rfl,t4⟩:=HT.out (by intro h;rw[h] at hkt;simp at hkt);obtain⟨s1,-⟩:=t4 k hkt;have y1:=Mem.aj hO1.inn s1;have yl:=Mem.ay hO1.inn s1;have ha:=HQ.out.1 k hkt;rw[List.getElem?_eq_getElem hkt] at ha;simp only[Option.map_some,Option.getD_some] at ha;rw[ha] at HS;generalize T[k].accept=acc at *
   clear hO1 HO ho1 hg1 HC e1 s1 t4 ha HQ;have hd:decide (0≤(k:Int))=true:=decide_eq_true zo;cases acc
   all_goals
    simp only[if_true,if_false,Bool.false_eq_true] at HS;go_wp2
    go_quiet (fail)
    go_wp2;exact hX.out _ _ _ zo rfl ⟨i+1,zo,rfl,by rw[HS.out] <;> rfl,HO1.out.drN _⟩
  ·have hd:decide (0≤vi)=false:=decide_eq_false hpos;have ha:=HQ.out.2 vi zo;rw[ha] at HS;simp only[if_false,Bool.false_eq_true] at HS;clear hO1 HO ho1 hg1 HC e1 ha HQ;go_wp2
   go_quiet (fail)
   go_wp2;exact hX.out _ _ _ zo rfl ⟨i+1,zo,rfl,by rw[HS.out] <;> rfl,HO1.out.drN _⟩
 ·obtain rfl:i=KL.length:=zo;have HO:=zh hO;clear hO hX;go_wp2;refine au [1,2,5,39,40,41] (fun q vs wr=>∃(i:Nat),i≤FL.length∧q=FL.length - i∧vs=[.slice a3 v.length c3,.pointer (some ⟨w.heap.size,0,none⟩),.int .i64 (hk (KL.length+i):Int),.slice a1 FL.length c1,.int .i64 (FL.length:Int),.int .i64 (i:Int)] ∧
   Own w m wr m [.obj w.heap.size 45 #[.slice a1 FL.length c1,.slice a2 KL.length c2]]) ?_ ?_
  ·exact⟨_,0,Nat.zero_le _,rfl,rfl,HO.out⟩
  clear HO g0 g1 gl hrl;rintro X z q vs wr hX - ⟨i,hi,rfl,rfl,hO⟩;simp[litL,lk];have hrl:=HL.out (KL.length+i);have g0:=hO.obj.cell (i:=0) rfl;have g1:=hO.obj.cell (i:=1) rfl;have gl:=hO.obj.lt;by_cases hlt:i<FL.length
  ·obtain⟨b,off,rfl,h4⟩:=HK.out.1 (by intro h;simp[h] at hlt);obtain⟨x,y,hc,hx,hy⟩:=(h4 i hlt).cells;obtain⟨b3,off3,rfl,h5⟩:=HK.out.2.2 (by intro h;have:=HVL.out;rw[h] at this;simp at this;omega);have hiv:KL.length+i<v.length:=by have:=HVL.out;omega
   have e1:=(h5 (KL.length+i) hiv).1;have hcl:=Mem.ay hO.inn (hc 0 _ rfl);have HC:=zh (fun j u hj=>Mem.aj hO.inn (hc j u hj));have h2:=nH hx hy;have hl2:(fcs FL[i] x y).length=20:=rfl;have H0:(fcs FL[i] x y).toArray[0]?=some (.string FL[i].1.1):=rfl;have hrg:=HR.out.2 i hlt hiv;have hsz:=(h4 i hlt).sz;have HS:=zh (HH.out.2 i hlt hiv);have HO:=zh (hO.al zcF 58);unfold maxLen at hsz;generalize fcs FL[i] x y=M at *
   generalize v[KL.length+i]=vi at *
   generalize FL[i].1.1=lab at *
   generalize hk (KL.length+i)=r at *
   clear hO hx hy hc h4 h5
   go_wp2_with (first
    | refine ae tyF rfl (.tmp 44) rfl rfl M hl2 HC.out ?_
    | refine aI tyF rfl (.tmp 9) (.tmp 45) rfl (cs:=M.toArray) rfl rfl rfl (by simpa using hl2) (fun u hu=>h2 u hu) HO.out.obj ?_)
   intro w1 ho1 hg1;have hO1:=HO.out.setObj ho1 hg1;have g0:=hO1.swap.obj.cell (i:=0) rfl;have g1:=hO1.swap.obj.cell (i:=1) rfl;have gl:=hO1.swap.obj.lt;have gb:=ho1.cell H0;have gbl:=hO1.obj.lt;have x1:=Mem.aj hO1.inn e1;have xl:=Mem.ay hO1.inn e1;have HO1:=zh hO1.tail;clear hO1 HO ho1 hg1 HC e1;by_cases he:vi=(lab.size:Int)
   ·have hd:(vi==(lab.size:Int))=true:=beq_iff_eq.2 he;rw[if_pos he] at HS;clear he;go_wp2
    go_quiet (fail)
    go_wp2;exact hX.out _ _ _ zo rfl ⟨i+1,zo,rfl,by rw[HS.out] <;> rfl,HO1.out.drN _⟩
   ·have hd:(vi==(lab.size:Int))=false:=beq_eq_false_iff_ne.2 he;rw[if_neg he] at HS;clear he;go_wp2
    go_quiet (fail)
    go_wp2;exact hX.out _ _ _ zo rfl ⟨i+1,zo,rfl,by rw[HS.out] <;> rfl,HO1.out.drN _⟩
  ·obtain rfl:i=FL.length:=zo;have HB:=zh hO.below;clear hO hX;go_wp2;exact hR.out _ _ ⟨by rw[HA.out] <;> rfl,HB.out⟩
theorem NZ:(Tryz.prog.info? 5).map (fun i=>(i.zero,i.size,i.bytes))=some (some (.int .u8 0),1,1):=by kernel_rfl
theorem Ky (l:List Int) {i:Nat} (h:i<l.length):txt (l.take (i+1))=txt (l.take i) ++ 44::Lib.itoa l[i]:=by
 unfold txt;rw[List.take_succ_eq_append_getElem h,List.flatMap_append];simp
theorem wU:∀(l:List Int),(∀x∈l,-9223372036854775808≤x∧x≤9223372036854775807)→(txt l).length≤22*l.length
 | [],_=>by simp[txt]
 | x::l,h=>by
  have h1:=Lib.itoa_length_le x (h x zS).1 (h x zS).2;have h2:=wU l fun y hy=>h y (by simp[hy]);have e:txt (x::l)=44::(Lib.itoa x ++ txt l):=by simp[txt]
  rw[e,List.length_cons,List.length_append,List.length_cons];omega
theorem wu {m:Mem} {v:Value} {l:List Int} (h:cO m v l):∀x∈l,-9223372036854775808≤x∧x≤9223372036854775807:=by
 obtain⟨a,c,-,-,-,h4⟩:=h;intro x hx;obtain⟨i,hi,rfl⟩:=List.getElem_of_mem hx;obtain⟨b,off,-,h5⟩:=h4 (fun e=>by rw[e] at hi;simp at hi);exact (h5 i hi).2
theorem vz (v:Value) (l:List Int) (m:Mem) (w:World) (hm:m.inn w) (htab:TabM m) (hl:cO m v l) (hlen:l.length≤1000000) :
 Calls Tryz.prog 192 #[v] w fun e w'=>e=.returned (.string ⟨(txt l).toArray⟩)∧Below w.heap.size w w':=by
 obtain⟨i0,hi,hz0,hz1,hz2⟩:=info_parts NZ;have hT:=Lib.tabBelow_of_tabIs (htab.get w hm);have hrg:=wu hl;obtain⟨a,c,rfl,p1,q1,k1⟩:=hl;unfold maxLen at q1;have HK:=zh (zi k1 (zi hT hrg));have HI:=zh (zi hi (zi hz0 (zi hz1 hz2)));clear k1 hT hi hz0 hz1 hz2 hrg;have hb0:Below w.heap.size w w:=Below.refl _ _;refine av fun R hR=>?_
 go_enter Tryz.func192,Tryz.ntmps192
 go_wp2;refine au [3,6,7,8] (fun q vs wr=>∃(i:Nat) (o:Value),i≤l.length∧q=l.length - i∧vs=[o,.slice a l.length c,.int .i64 (l.length:Int),.int .i64 (i:Int)] ∧
  wr.ownsRow w.heap.size 5 1 o (txt (l.take i)).length (Lib.byteCells (txt (l.take i)))∧Below w.heap.size w wr) ?_ ?_
 ·exact⟨_,0,_,Nat.zero_le _,rfl,rfl,World.ownsRow_nil _ _ _ _,hb0⟩
 clear hb0;rintro X z q vs wr hX - ⟨i,o,hi,rfl,rfl,hown,hb⟩;simp[litL,lk];have hmr:=Mem.bB hm hb;have hbs:=hb.size;have hln:=wU (l.take i) fun x hx=>HK.out.2.2 x (List.mem_of_mem_take hx);rw[List.length_take] at hln;by_cases hlt:i<l.length
 ·obtain⟨b,off,rfl,h4⟩:=HK.out.1 (by intro h;simp[h] at hlt);have hx:=(h4 i hlt).2;have x1:=Mem.aj hmr (h4 i hlt).1;have xl:=Mem.ay hmr (h4 i hlt).1;have hst:=Ky l hlt;have hil:=Lib.itoa_length_le l[i] hx.1 hx.2;have HS:=zh hst;have HB:=zh hb;have HO:=zh hown;generalize txt (l.take i)=T0 at *
  generalize l[i]=xi at *
  clear h4 hst hb hown hmr
  go_wp2_with (at_builtin;refine wpList_append_own _ rfl (.tmp 12) (.tmp 13) 185 rfl w.heap.size 5 i0 (.int .u8 0) 1 1 Tryz.underlying185 HI.out.1 HI.out.2.1 HI.out.2.2.1 HI.out.2.2.2 rfl zD _ _ _ rfl (HO.out.alloc _) ⟨wr.heap.size,0,none⟩ 1 1 [Value.int .u8 44] rfl rfl (by intro j u' hj;match j,hj with | 0,hj=>simp at hj;subst hj;simp[Addr.add]) (by intro u' hu';simp at hu';subst hu';rfl) (by unfold maxLen;omega) zo (by simp;omega) ?_)
  intro v2 w2 hown2 hgrow _;have hnx2:Below w.heap.size w w2:=(HB.out.alloc hbs _).grown hgrow (by simp;omega) (fun k hk=>(HO.out.lt k hk).1);have hbs2:=hnx2.size;have e1:Lib.byteCells T0 ++ [Value.int .u8 44]=Lib.byteCells (T0 ++ [44]):=by simp[Lib.byteCells]
  have e2:T0.length+1=(T0 ++ [44]).length:=by simp
  rw[e1,e2] at hown2;have HA:=zh (Tryz.pq w.heap.size _ xi hx.1 hx.2 v2 _ w2 hown2 hnx2.size (by simp;omega) (HK.out.2.1.on hnx2));have HB2:=zh hnx2;clear HO HB hown2 hgrow hnx2 e1 e2
  go_wp2_with fail
  refine HA.out.mono ?_;rintro e w3 ⟨v3,rfl,hown3,hb3,-⟩;have e1:Lib.byteCells (T0 ++ [44]) ++ Lib.byteCells (Lib.itoa xi)=Lib.byteCells (txt (l.take (i+1))):=by rw[HS.out];simp[Lib.byteCells]
  have e2:(T0 ++ [44]).length+(Lib.itoa xi).length=(txt (l.take (i+1))).length:=by rw[HS.out];simp;omega
  rw[e1,e2] at hown3;have HO3:=zh (zi hown3 (HB2.out.trans hb3));clear HA HB2 hown3 hb3 e1 e2;go_wp2;exact hX.out _ _ _ zo rfl ⟨i+1,_,zo,rfl,rfl,HO3.out.1,HO3.out.2⟩
 ·obtain rfl:i=l.length:=zo;rw[List.take_length] at hown;have HB:=zh hb;obtain⟨t,ht⟩:∃t,t=txt l:=⟨_,rfl⟩;rw[← ht] at hown;have HT:=zh ht;clear ht hb hX;rcases hown.2 with ⟨rfl,h0⟩ | ⟨g,cap,cur,rfl,-,-,-,-,-,-⟩
  ·have h0:t=[]:=List.eq_nil_of_length_eq_zero h0;subst h0;have hcv:(convert 185 9 (.slice none 0 0)).run Tryz.prog wr=.ok (.string ⟨#[]⟩) wr:=by rw[run_convert_bytes_string (P:=Tryz.prog) wr 185 9 5 none 0 0 Tryz.underlying185 Tryz.underlying5 Tryz.underlying9];simp[Conv.bytesToString];try rfl
   clear hown;go_wp2;exact hR.out _ _ ⟨by rw[← HT.out] <;> rfl,HB.out⟩
  ·have hcv:=run_convert_bytes_back (P:=Tryz.prog) wr 185 9 5 ⟨g,0,none⟩ cap t Tryz.underlying185 Tryz.underlying5 Tryz.underlying9 (fun j hj=>hown.cells (g:=g) rfl j _ (by simp[Lib.byteCells,hj]));clear hown;go_wp2;exact hR.out _ _ ⟨by rw[← HT.out] <;> rfl,HB.out⟩
def u8At (m:Mem) (b o:Nat) (x:Nat):Prop:=m.cell b o=some (.int .u8 (x:Int))∧x<256
def Kv (m:Mem) (v:Value) (l:List Nat):Prop:=Mem.mF (u8At m) v l
theorem Ku {m m':Mem} (h:m.le m') {v:Value} {l:List Nat} (k:Kv m v l):Kv m' v l:=Mem.gX k fun _ _ _ k=>⟨Mem.aA h k.1,k.2⟩
theorem yL {w:World} {t:TypeId} {v:Value} {l:List Nat} {m:Mem} (hown:w.ownsRow 0 t 1 v l.length (l.map fun x:Nat=>Value.int .u8 (x:Int))) (hk:∀x∈l,x<256):Kv (m.addv w v) v l:=by
 have h:=gu (R:=fun b o x=>u8At (m.addv w v) b o x) hown fun g hg i h=>⟨eQ hown hg m (by simp[h]),hk _ (List.getElem_mem h)⟩;obtain⟨a,c,h1,h2,h3,h4⟩:=h;exact⟨a,c,h1,h2,h3,fun hne=>by
  obtain⟨b,off,h5,h6⟩:=h4 hne;exact⟨b,off,h5,fun i hi=>by have:=h6 i hi;rwa [Nat.mul_one] at this⟩⟩
def stM1 (c:St) (v:List Int) (k b:Nat):Prop:=b=0∨∃i,∃h:i<c.2.length,i<k∧edMk (lq (c.2[i]).1 (v.getD i (-1))) b
def stM2 (c:St) (v:List Int) (k b:Nat):Prop:=stM1 c v c.2.length b∨∃i,∃h:i<c.1.length,i<k∧lbMk (c.1[i]).1.1.data.toList (v.getD (c.2.length+i) (-1)) b
theorem Il {c:St} {v:List Int} {k:Nat} (h:k<c.2.length) (b:Nat):stM1 c v (k+1) b↔stM1 c v k b∨edMk (lq (c.2[k]).1 (v.getD k (-1))) b:=by
 constructor
 ·rintro (h0 | ⟨i,hi,hk,hm⟩)
  ·exact .inl (.inl h0)
  ·by_cases e:i=k
   ·subst e;exact .inr hm
   ·exact .inl (.inr ⟨i,hi,zo,hm⟩)
 ·rintro ((h0 | ⟨i,hi,hk,hm⟩) | hm)
  ·exact .inl h0
  ·exact .inr ⟨i,hi,zo,hm⟩
  ·exact .inr ⟨k,h,zo,hm⟩
theorem Ik {c:St} {v:List Int} {k:Nat} (h:k<c.1.length) (b:Nat):stM2 c v (k+1) b↔stM2 c v k b∨lbMk (c.1[k]).1.1.data.toList (v.getD (c.2.length+k) (-1)) b:=by
 constructor
 ·rintro (h0 | ⟨i,hi,hk,hm⟩)
  ·exact .inl (.inl h0)
  ·by_cases e:i=k
   ·subst e;exact .inr hm
   ·exact .inl (.inr ⟨i,hi,zo,hm⟩)
 ·rintro ((h0 | ⟨i,hi,hk,hm⟩) | hm)
  ·exact .inl h0
  ·exact .inr ⟨i,hi,zo,hm⟩
  ·exact .inr ⟨k,h,zo,hm⟩
theorem Ij (c:St) (v:List Int) (b:Nat):stM2 c v 0 b↔stM1 c v c.2.length b:=⟨fun h=>h.elim id fun ⟨i,_,hk,_⟩=>absurd hk (Nat.not_lt_zero i),.inl⟩
theorem KA (c:St) (v:List Int) (b:Nat):stM2 c v c.1.length b↔stMk c v b:=by
 constructor
 ·rintro ((h | ⟨i,hi,-,hm⟩) | ⟨i,hi,-,hm⟩)
  ·exact .inl h
  ·exact .inr (.inl ⟨i,hi,hm⟩)
  ·exact .inr (.inr ⟨i,hi,hm⟩)
 ·rintro (h | ⟨i,hi,hm⟩ | ⟨i,hi,hm⟩)
  ·exact .inl (.inl h)
  ·exact .inl (.inr ⟨i,hi,hi,hm⟩)
  ·exact .inr ⟨i,hi,hi,hm⟩
theorem JP {es:List Ed} {j:Nat} (h:j<es.length) (b:Nat):edMk (es.take (j+1)) b↔edMk (es.take j) b∨iV es[j] b:=nJ h b
theorem AB (l:Table) (k:Nat) (h:k<l.length):lq l (k:Int)=(l[k]).edges:=by
 unfold lq;rw[if_neg zo];simp[h]
noncomputable def marked (P:Nat→Prop) (q:Nat):List Nat:=(List.range q).filter fun b=>tf (P b)
theorem Cs (P:Nat→Prop) (n:Nat):marked P (n+1)=marked P n ++ if tf (P n) then [n] else []:=by
 unfold marked;rw[List.range_succ,List.filter_append]
 congr 1
 cases h:tf (P n) <;> simp[h]
theorem zR (P:Nat→Prop) (n:Nat):∀x∈marked P n,x<n:=fun x hx=>by
 simp only[marked,List.mem_filter,List.mem_range] at hx;exact hx.1
theorem Ja (P:Nat→Prop) (n:Nat):(marked P n).length≤n:=Nat.le_trans (List.length_filter_le _ _) zS
theorem FW {P:Nat→Prop} {n x:Nat}:x∈marked P n↔x<n∧P x:=by simp[marked,vC]
theorem Om:eT Tryz.prog 185 5 1 1:=⟨Tryz.underlying185,zo,by
 obtain⟨i,h1,h2,h3,h4⟩:=info_parts (P:=Tryz.prog) (e:=5) (z:=.int .u8 0) (size:=1) (bytes:=1) zk;exact⟨i,_,h1,h2,h3,h4,rfl⟩⟩
theorem getD_at {v:List Int} {i:Nat} (h:i<v.length):v.getD i (-1)=v[i]:=by simp[List.getD_eq_getElem?_getD,h]
theorem tyAr:oV Tryz.prog 175 257:=⟨Tryz.isAgg175,Tryz.sizeOf175⟩
theorem wO (u u' va:Value) (c:St) (v:List Int) (m:Mem) (n:Nat) (w:World) (hm:m.inn w) (h1:ja (VAt m n) m u c.1) (h2:iA (VAt m n) m u' c.2) (hv:cO m va v) (hV:VIn (stC1 c) v) (hwf:∀k∈c.2,WF k.1) :
 Calls Tryz.prog 194 #[.agg #[u,u'],va] w fun e w'=>∃r,e=.returned r∧Below w.heap.size w w'∧Kv (m.grow w w') r (marked (stMk c v) 256):=by
 have hS:=StV.of hV;have HVL:=zh hS.len;obtain⟨a1,c1,rfl,p1,q1,k1⟩:=h1;obtain⟨a2,c2,rfl,p2,q2,k2⟩:=h2;obtain⟨a3,c3,rfl,p3,q3,k3⟩:=hv;unfold maxLen at q1 q2 q3;have HR:=zh (zi hS.rngT hS.rngF);have HK:=zh (zi k1 (zi k2 k3));have HW:=zh (fun i (h:i<c.2.length)=>hwf c.2[i] (List.getElem_mem h));have HM1:=zh (fun k (h:k<c.2.length) b=>Il (v:=v) h b);have HM2:=zh (fun k (h:k<c.1.length) b=>Ik (v:=v) h b);have HZ:=zh (Ij c v);have HA:=zh (KA c v);have h10:∀b,stM1 c v 0 b↔b=0:=fun b=>⟨fun h=>h.elim id fun ⟨i,_,hk,_⟩=>absurd hk (Nat.not_lt_zero i),.inl⟩;have H10:=zh h10;have hO:=(Own.start hm).al #[.slice a1 c.1.length c1,.slice a2 c.2.length c2] 45;clear hV hS k1 k2 k3 hwf h10;generalize stM1 c v=M1 at *
 generalize stM2 c v=M2 at *
 generalize stMk c v=M3 at *
 generalize c.2=KL at *
 generalize c.1=FL at *
 refine av fun R hR=>?_;have hO2:=hO.al Tryz.zeroCells175 175;simp only[cz] at hO2;have z1:Tryz.zeroCells175.size=257:=by rw[mV];simp
 have z2:∀u∈(Tryz.zeroCells175.setIfInBounds 0 (.bool true)).toList,u.oneCell'=true:=fun u hu=>by
  rw[mV,iI,fe] at hu;simp only[marr,List.mem_map,List.mem_range] at hu;obtain⟨b,-,rfl⟩:=hu;rfl
 have HO2:=zh (zi hO2 z2);have z3:(Tryz.zeroCells175.setIfInBounds 0 (.bool true)).size=257:=by simp[z1]
 clear hO hO2 z2
 go_enter Tryz.func194,Tryz.ntmps194
 go_wp2_with (refine aI tyAr rfl (.tmp 5) (.tmp 15) rfl (cs:=Tryz.zeroCells175.setIfInBounds 0 (.bool true)) rfl rfl z1 z3 HO2.out.2 HO2.out.1.obj ?_)
 intro w0 ho0 hg0;have hO:=HO2.out.1.setObj ho0 hg0;rw[mV,iI,fe,bW (P':=M1 0) (by intro b _;rw[H10.out];simp)] at hO;have g0:=hO.swap.obj.cell (i:=0) rfl;have g1:=hO.swap.obj.cell (i:=1) rfl;have gl:=hO.swap.obj.lt;have HO:=zh hO;clear HO2 ho0 hg0 hO z1 z3;go_wp2;refine au [1,2,5,17,18,19] (fun q vs wr=>∃(i:Nat),i≤KL.length∧q=KL.length - i∧vs=[.slice a3 v.length c3,.pointer (some ⟨w.heap.size,0,none⟩),.pointer (some ⟨w.heap.size+1,0,none⟩),.slice a2 KL.length c2,.int .i64 (KL.length:Int),.int .i64 (i:Int)] ∧
  Own w m wr m [.obj (w.heap.size+1) 175 (marr (M1 i) 257),.obj w.heap.size 45 #[.slice a1 FL.length c1,.slice a2 KL.length c2]]) ?_ ?_
 ·exact⟨_,0,Nat.zero_le _,rfl,rfl,HO.out⟩
 clear HO g0 g1 gl;rintro X z q vs wr hX - ⟨i,hi,rfl,rfl,hO⟩;simp[litL,lk];have g0:=hO.swap.obj.cell (i:=0) rfl;have g1:=hO.swap.obj.cell (i:=1) rfl;have gl:=hO.swap.obj.lt;by_cases hlt:i<KL.length
 ·obtain⟨b,off,rfl,h4⟩:=HK.out.2.1 (by intro h;simp[h] at hlt);obtain⟨kc,x,y,hks,hc,hx,hy⟩:=(h4 i hlt).cells;obtain⟨b3,off3,rfl,h5⟩:=HK.out.2.2 (by intro h;have:=HVL.out;rw[h] at this;simp at this;omega);have hiv:i<v.length:=by have:=HVL.out;omega
  have e1:=(h5 i hiv).1;have hcl:=Mem.ay hO.inn (hc 0 _ rfl);have HC:=zh (fun j u hj=>Mem.aj hO.inn (hc j u hj));have h2:=nA hks hx hy;have hl2:(kcs KL[i] kc x y).length=19:=rfl;have H0:(kcs KL[i] kc x y).toArray[0]?=some kc:=rfl;have hrg:=HR.out.1 i hlt hiv;have HS:=zh (HM1.out i hlt);have hneg:∀z:Int,z<0→lq KL[i].1 z=[]:=fun z hz=>by unfold lq;rw[if_pos hz]
  have hwf:=HW.out i hlt;rw[getD_at hiv] at HS;have HQ:=zh (zi hneg hwf);have HO:=zh (hO.al zcK 61);obtain⟨ta,tc,rfl,t1,t2,t3⟩:=hks;unfold maxLen at t2;have HT:=zh t3;generalize kcs KL[i] _ x y=M at *
  generalize v[i]=vi at *
  generalize KL[i].1=T at *
  clear hO hx hy hc h4 h5 t3 hneg hwf
  go_wp2_with (first
   | refine ae tyK rfl (.tmp 22) rfl rfl M hl2 HC.out ?_
   | refine aI tyK rfl (.tmp 7) (.tmp 23) rfl (cs:=M.toArray) rfl rfl rfl (by simpa using hl2) (fun u hu=>h2 u hu) HO.out.obj ?_)
  intro w1 ho1 hg1;have hO1:=HO.out.setObj ho1 hg1;have gb:=ho1.cell H0;have gbl:=hO1.obj.lt;have x1:=Mem.aj hO1.inn e1;have xl:=Mem.ay hO1.inn e1;have HO1:=zh hO1.tail;by_cases hpos:vi<0
  ·have hd:decide (vi<0)=true:=decide_eq_true hpos;have ha:=HQ.out.1 vi hpos;rw[ha] at HS;have HO2:=HO1.out;rw[bW (P':=M1 (i+1)) (by intro b _;rw[HS.out];simp[edMk])] at HO2;have HO2:=zh HO2;clear hO1 HO ho1 hg1 HC e1 ha HQ HS HO1;go_wp2;exact hX.out _ _ _ zo rfl ⟨i+1,zo,rfl,rfl,HO2.out⟩
  ·obtain⟨k,rfl⟩:=Int.eq_ofNat_of_zero_le (by omega:0≤vi);have hkt:k<T.length:=zo;obtain⟨tb,to,rfl,t4⟩:=HT.out (by intro h;rw[h] at hkt;simp at hkt);obtain⟨s1,ve,s2,ea,ec,rfl,e4,e5,e6⟩:=t4 k hkt;have y1:=Mem.aj hO1.inn s2;have yl:=Mem.ay hO1.inn s2;have hlo:=di (HQ.out.2 T[k] (List.getElem_mem hkt));rw[AB T k hkt] at HS;have HLO:=zh hlo;have HE6:=zh e6;unfold maxLen at e5;have hd:decide ((k:Int)<0)=false:=decide_eq_false zo;generalize T[k].edges=es at *
   clear hO1 HO ho1 hg1 HC e1 s1 s2 t4 HQ hlo e6;go_wp2
   go_quiet (fail)
   go_wp2;refine au [1,2,5,17,18,19,38,39,40] (fun q vs w2=>∃(j:Nat),j≤es.length∧q=es.length - j∧vs=[.slice (some ⟨b3,off3,none⟩) v.length c3,.pointer (some ⟨w.heap.size,0,none⟩),.pointer (some ⟨w.heap.size+1,0,none⟩),.slice (some ⟨b,off,none⟩) KL.length c2,.int .i64 (KL.length:Int),.int .i64 (i:Int),.slice ea es.length ec,.int .i64 (es.length:Int),.int .i64 (j:Int)] ∧
    Own w m w2 m [.obj (w.heap.size+1) 175 (marr (fun b=>M1 i b∨edMk (es.take j) b) 257),.obj w.heap.size 45 #[.slice a1 FL.length c1,.slice (some ⟨b,off,none⟩) KL.length c2]]) ?_ ?_
   ·refine ⟨_,0,Nat.zero_le _,rfl,rfl,?_⟩;have:=HO1.out;rw[bW (P':=fun b=>M1 i b∨edMk (es.take 0) b) (by intro b _;simp[edMk])] at this;exact this.drN _
   clear HO1 g0 g1 gl gb gbl x1 xl y1 yl;rintro Y z2 q2 vs w2 hY - ⟨j,hj,rfl,rfl,hO2⟩;simp[litL,lk];by_cases hlt2:j<es.length
   ·obtain⟨b',off',rfl,h10⟩:=HE6.out (by intro h;simp[h] at hlt2);obtain⟨e1,e2,e3,e4',e5',-⟩:=h10 j hlt2;have hle:=(HLO.out es[j] (List.getElem_mem hlt2)).1;have d1:=Mem.aj hO2.inn e1;have d2:=Mem.aj hO2.inn e2;have d3:=Mem.aj hO2.inn e3;have hb1:=Mem.ay hO2.inn e1;have hg1:=hO2.obj.lt;have k1:=hO2.obj.cell (fo (i:=es[j].lo) zo);have k2:=hO2.obj.cell (fo (i:=es[j].hi+1) zo);have k3:=hO2.obj.frozen es[j].lo;have k4:=hO2.obj.frozen (es[j].hi+1);have hne:es[j].lo≠es[j].hi+1:=zo;have hne':es[j].hi+1≠es[j].lo:=zo;have hO3:=(((hO2.set es[j].lo (.bool true)).set (es[j].hi+1) (.bool true))).al' (.cells #[.int .u8 es[j].lo,.int .u8 es[j].hi,.int .i64 es[j].to] 104);rw[fe,fe,bW (P':=fun b=>M1 i b∨edMk (es.take (j+1)) b) (by
     intro b _;rw[JP hlt2];unfold iV;constructor
     ·rintro ((h | h) | h)
      ·exact h.elim .inl (fun h=>.inr (.inl h))
      ·exact .inr (.inr (.inl h.symm))
      ·exact .inr (.inr (.inr h.symm))
     ·rintro (h | h | h | h)
      ·exact .inl (.inl (.inl h))
      ·exact .inl (.inl (.inr h))
      ·exact .inl (.inr h.symm)
      ·exact .inr h.symm)] at hO3
    have HO3:=zh hO3;clear hO3;go_wp2
    go_region
    all_goals go_wp2
    all_goals exact hY.out _ _ _ zo rfl ⟨j+1,zo,rfl,rfl,HO3.out.drN _⟩
   ·rw[bW (P':=M1 (i+1)) (by
     intro b _;rw[HS.out,List.take_of_length_le (l:=es) (i:=j) zo])] at hO2
    have HO3:=zh hO2;clear hO2 hY HS;go_wp2;exact hX.out _ _ _ zo rfl ⟨i+1,zo,rfl,rfl,HO3.out⟩
 ·obtain rfl:i=KL.length:=zo;rw[bW (P':=M2 0) (by intro b _;rw[HZ.out])] at hO;have HO:=zh hO;clear hO hX;go_wp2;refine au [1,2,5,55,56,57] (fun q vs wr=>∃(i:Nat),i≤FL.length∧q=FL.length - i∧vs=[.slice a3 v.length c3,.pointer (some ⟨w.heap.size,0,none⟩),.pointer (some ⟨w.heap.size+1,0,none⟩),.slice a1 FL.length c1,.int .i64 (FL.length:Int),.int .i64 (i:Int)] ∧
   Own w m wr m [.obj (w.heap.size+1) 175 (marr (M2 i) 257),.obj w.heap.size 45 #[.slice a1 FL.length c1,.slice a2 KL.length c2]]) ?_ ?_
  ·exact⟨_,0,Nat.zero_le _,rfl,rfl,HO.out⟩
  clear HO g0 g1 gl;rintro X z q vs wr hX - ⟨i,hi,rfl,rfl,hO⟩;simp[litL,lk];have g0:=hO.swap.obj.cell (i:=0) rfl;have g1:=hO.swap.obj.cell (i:=1) rfl;have gl:=hO.swap.obj.lt;by_cases hlt:i<FL.length
  ·obtain⟨b,off,rfl,h4⟩:=HK.out.1 (by intro h;simp[h] at hlt);obtain⟨x,y,hc,hx,hy⟩:=(h4 i hlt).cells;obtain⟨b3,off3,rfl,h5⟩:=HK.out.2.2 (by intro h;have:=HVL.out;rw[h] at this;simp at this;omega);have hiv:KL.length+i<v.length:=by have:=HVL.out;omega
   have e1:=(h5 (KL.length+i) hiv).1;have hcl:=Mem.ay hO.inn (hc 0 _ rfl);have HC:=zh (fun j u hj=>Mem.aj hO.inn (hc j u hj));have h2:=nH hx hy;have hl2:(fcs FL[i] x y).length=20:=rfl;have H0:(fcs FL[i] x y).toArray[0]?=some (.string FL[i].1.1):=rfl;have hrg:=HR.out.2 i hlt hiv;have hsz:=(h4 i hlt).sz;have HS:=zh (HM2.out i hlt);rw[getD_at hiv] at HS;have hwb:=hO.obj.lt;have HO:=zh (hO.al zcF 58);unfold maxLen at hsz;generalize fcs FL[i] x y=M at *
   generalize v[KL.length+i]=vi at *
   generalize FL[i].1.1=lab at *
   clear hO hx hy hc h4 h5
   go_wp2_with (first
    | refine ae tyF rfl (.tmp 60) rfl rfl M hl2 HC.out ?_
    | refine aI tyF rfl (.tmp 11) (.tmp 61) rfl (cs:=M.toArray) rfl rfl rfl (by simpa using hl2) (fun u hu=>h2 u hu) HO.out.obj ?_)
   intro w1 ho1 hg1;have hO1:=HO.out.setObj ho1 hg1;have g0:=hO1.third.obj.cell (i:=0) rfl;have g1:=hO1.third.obj.cell (i:=1) rfl;have gl:=hO1.third.obj.lt;have gb:=ho1.cell H0;have gbl:=hO1.obj.lt;have x1:=Mem.aj hO1.inn e1;have xl:=Mem.ay hO1.inn e1;have hO1:=hO1.tail;have HO1:=zh hO1;clear HO ho1 hg1 HC e1;by_cases hin:0≤vi∧vi<(lab.size:Int)
   ·obtain⟨k,rfl⟩:=Int.eq_ofNat_of_zero_le hin.1;have hk:k<lab.size:=zo;have hd1:decide (0≤(k:Int))=true:=decide_eq_true zo;have hd2:decide ((k:Int)<(lab.size:Int))=true:=decide_eq_true zo;have hu:=UInt8.toNat_lt lab[k];have k1:=hO1.obj.cell (fo (i:=lab[k].toNat) zo);have k2:=hO1.obj.cell (fo (i:=lab[k].toNat+1) zo);have k3:=hO1.obj.frozen lab[k].toNat;have k4:=hO1.obj.frozen (lab[k].toNat+1);have hne:lab[k].toNat≠lab[k].toNat+1:=zo;have hne':lab[k].toNat+1≠lab[k].toNat:=zo;have hn2:wr.heap.size≠w.heap.size+1:=zo;have hn3:w.heap.size+1≠wr.heap.size:=zo;have hg1:=hO1.obj.lt;have hO3:=(hO1.set lab[k].toNat (.bool true)).set (lab[k].toNat+1) (.bool true);have hlk:lab.data.toList[((k:Nat):Int).toNat]?=some lab[k]:=by
     simp only[Int.toNat_natCast];rw[List.getElem?_eq_getElem (by rw[wG];exact hk)]
     rfl
    rw[fe,fe,bW (P':=M2 (i+1)) (by
     intro b _;rw[HS.out];constructor
     ·rintro ((h | h) | h)
      ·exact .inl h
      ·exact .inr ⟨zo,_,hlk,.inl h.symm⟩
      ·exact .inr ⟨zo,_,hlk,.inr h.symm⟩
     ·rintro (h | ⟨-,u,h1,h2⟩)
      ·exact .inl (.inl h)
      ·rw[hlk] at h1;cases h1;rcases h2 with h2 | h2
       ·exact .inl (.inr h2.symm)
       ·exact .inr h2.symm)] at hO3
    have HO3:=zh hO3;clear hO1 hin HS hO3 hlk HO1;go_wp2
    go_region
    all_goals go_wp2
    all_goals exact hX.out _ _ _ zo rfl ⟨i+1,zo,rfl,rfl,HO3.out.drN _⟩
   ·have hO2:=hO1;rw[bW (P':=M2 (i+1)) (by
     intro b _;rw[HS.out];constructor
     ·exact .inl
     ·rintro (h | ⟨h1,u,h2,-⟩)
      ·exact h
      ·have:=(List.getElem?_eq_some_iff.1 h2).1;rw[wG] at this;exact absurd ⟨h1,zo⟩ hin)] at hO2
    have HO2:=zh hO2;clear hO1 hO2 HO1 HS;by_cases h0:0≤vi
    ·have hd1:decide (0≤vi)=true:=decide_eq_true h0;have hd2:decide (vi<(lab.size:Int))=false:=decide_eq_false fun h=>hin ⟨h0,h⟩;clear hin;go_wp2;exact hX.out _ _ _ zo rfl ⟨i+1,zo,rfl,rfl,HO2.out⟩
    ·have hd1:decide (0≤vi)=false:=decide_eq_false h0;clear hin;go_wp2;exact hX.out _ _ _ zo rfl ⟨i+1,zo,rfl,rfl,HO2.out⟩
  ·obtain rfl:i=FL.length:=zo;rw[bW (P':=M3) (by intro b _;rw[HA.out])] at hO;have HO:=zh hO;clear hO hX;go_wp2;refine au [5,13,92] (fun n vs w2=>∃(q:Nat) (r:Value),q≤256∧n=256 - q∧vs=[.pointer (some ⟨w.heap.size+1,0,none⟩),r,.int .i64 (q:Int)] ∧
    Own w m w2 m [.row r 5 1 (marked M3 q).length ((marked M3 q).map fun x:Nat=>Value.int .u8 (x:Int)),.obj (w.heap.size+1) 175 (marr M3 257)]) ?_ ?_
   ·exact⟨_,0,.slice none 0 0,zo,rfl,rfl,HO.out.drop2.dC _ _⟩
   clear HO g0 g1 gl;rintro Y z2 n vs w2 hY - ⟨q,r,hq,rfl,rfl,hO2⟩;simp[litL,lk];by_cases hlt2:q<256
   ·have k1:=hO2.swap.obj.cell (fo (i:=q) zo);have hg:=hO2.swap.obj.lt;have hcl:=Ja M3 q;have hsu:=Cs M3 q;by_cases hc:M3 q
    ·have ht:=aH hc;rw[ht] at k1;rw[ht,if_pos rfl] at hsu;have Hsu:=zh hsu;clear hsu ht;have hO3:=hO2.al #[.int .u8 q] 5
     go_wp2_with (at_builtin;refine aC Om rfl (.tmp 98) (.tmp 101) rfl r (marked M3 q).length ((marked M3 q).map fun x:Nat=>Value.int .u8 (x:Int)) rfl hO3.swap.row ⟨w2.heap.size,0,none⟩ 1 1 [.int .u8 q] rfl rfl (hO3.obj.news rfl) (by simp[Value.oneCell']) (by unfold maxLen;omega) zo ?_)
     intro va vc w3 hown3 hgrow hrow3;have hO4:=(hO3.swap.app hown3 hgrow hrow3 zS).drop2;have Hfin:=zh hO4;clear hO4 hown3 hgrow hrow3 hO3;go_wp2;refine hY.out _ _ _ zo rfl ⟨q+1,_,zo,rfl,rfl,?_⟩;rw[Hsu.out];simpa using Hfin.out
    ·have ht:=az hc;rw[ht] at k1;rw[ht,if_neg zS,List.append_nil] at hsu;have Hsu:=zh hsu;clear hsu ht;go_wp2;refine hY.out _ _ _ zo rfl ⟨q+1,r,zo,rfl,rfl,?_⟩;rw[Hsu.out];exact hO2
   ·obtain rfl:q=256:=zo;have hres:=Ku hO2.aY.done (yL (m:=m) hO2.row (fun x hx=>zR M3 256 x hx));have Hfin:=zh (zi hO2.below hres);clear hres hO2;go_wp2;exact hR.out _ _ ⟨_,rfl,Hfin.out.1,Hfin.out.2⟩
end Cl
