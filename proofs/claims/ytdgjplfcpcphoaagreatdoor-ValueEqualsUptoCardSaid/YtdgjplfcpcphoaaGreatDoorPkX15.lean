/- Lemmas for the proofs of chapter 11. -/
import Derived.Test.YtdgjplfcpcphoaaGreatDoorProg
import Derived.BigQuiet
import Derived.Deep.Cut
import Derived.Deep.QuietTactic
import Derived.Laws.StructEq
import Derived.Lib.AppendStr
import Derived.Lib.Builder
import Derived.Lib.Hide
import Derived.Lib.ItoaLen
import Derived.Maps.OwnOps
import Derived.Maps.OwnSet
import Derived.OrdersHeld
import Derived.Outline
import Derived.StillTailTactics
import Derived.StringKeys
import Derived.WalkKit
import Derived.WalkLawsBesides
import Derived.WalkSpells
import Derived.Deep.RegionHeld
import Derived.Laws.CopyRow
import Derived.Laws.Tables
import Derived.BigFrame
import Derived.Shelf.Strings.Builder1
import Derived.Shelf.Small.Wraps
import Derived.Shelf.LaysM
import Derived.Shelf.Strconv.Itoa3
import Derived.Laws.EntriesVeiled
import Derived.RegionTactic
import Derived.RangeFuncNested
import Derived.RangeFuncBound
import Derived.RangeFuncCalls
import Derived.RangeFuncLeaves
import Derived.OwnWalkIn
import Derived.TacticsInMore
import Derived.LoopNIn
import Derived.LoopIn
import Derived.Shelf.SlSortCmp.WholeK
import Derived.Laws.CopyOwn
import Derived.Laws.BytesArg
import Derived.ChangeAlike
import Derived.Test.YtdgjplfcpcphoaaGreatDoorZz
import Derived.Test.YtdgjplfcpcphoaaGreatDoorPkX14
import Derived.Test.YtdgjplfcpcphoaaGreatDoorPkX3
import Derived.Test.YtdgjplfcpcphoaaGreatDoorPkX1
import Derived.Test.YtdgjplfcpcphoaaGreatDoorPkX2
import Derived.Test.YtdgjplfcpcphoaaGreatDoorPkX4
import Derived.Test.YtdgjplfcpcphoaaGreatDoorPkX7
import Derived.Test.YtdgjplfcpcphoaaGreatDoorPkX8
import Derived.Test.YtdgjplfcpcphoaaGreatDoorPkX11
import Derived.Test.YtdgjplfcpcphoaaGreatDoorPkX5
import Derived.Test.YtdgjplfcpcphoaaGreatDoorPkX10
import Derived.Test.YtdgjplfcpcphoaaGreatDoorPkX13
import Derived.Test.YtdgjplfcpcphoaaGreatDoorPkX9
import Derived.Test.YtdgjplfcpcphoaaGreatDoorPkX6
import Derived.Test.YtdgjplfcpcphoaaGreatDoorPkX12
set_option maxRecDepth 100000
set_option maxHeartbeats 16000000
namespace Cl
open Go Go.RowKit Go.Proofs
theorem tyV:qd Tryz.prog 33 9:=⟨Tryz.isAgg33,Tryz.sizeOf33⟩
theorem tyD:qd Tryz.prog 35 18:=⟨Tryz.isAgg35,Tryz.sizeOf35⟩
theorem tyF:qd Tryz.prog 58 20:=⟨Tryz.isAgg58,Tryz.sizeOf58⟩
theorem tyK:qd Tryz.prog 61 19:=⟨Tryz.isAgg61,Tryz.sizeOf61⟩
theorem tyS:qd Tryz.prog 29 6:=⟨Tryz.isAgg29,Tryz.sizeOf29⟩
theorem fB (v:Vl) (s:Sl) (m:Mem) (n:Nat) (w:World) (hm:m.inn w) (hv:VAt m n s v) :
 Calls Tryz.prog 34 #[v.val s] w fun e w'=>e=.returned (bz (v,v) s s)∧Below w.heap.size w w':=by
 have hO:=(Own.start hm).al (nine v s).toArray 33;have h1:=cK (d:=(v,v)) hv hv;unfold Vl.val bz;rw[show dcs (v,v) s s=nine v s ++ nine v s from rfl] at *
 have hN:∃c0 c1 c2 c3 c4 c5 c6 c7 c8,nine v s=[c0,c1,c2,c3,c4,c5,c6,c7,c8]:=⟨_,_,_,_,_,_,_,_,_,rfl⟩;obtain⟨c0,c1,c2,c3,c4,c5,c6,c7,c8,hN⟩:=hN;rw[hN] at hO h1 ⊢;have HC:=zh (fun o=>((hO.al' o).p8 (List.mem_cons_self ..)).all);have hO2:=hO.al zcD 35;simp only[bB] at hO2;have HO2:=zh (zi hO2 h1);clear hO h1 hN hO2;refine ay fun R hR=>?_
 go_enter Tryz.func34,Tryz.ntmps34
 go_wp2_with (first
  | refine ae tyV rfl (.tmp 1) rfl rfl [c0,c1,c2,c3,c4,c5,c6,c7,c8] rfl (HC.out _) ?_
  | refine aH tyD rfl (.tmp 2) (.tmp 5) rfl (cs:=#[c0,c1,c2,c3,c4,c5,c6,c7,c8,c0,c1,c2,c3,c4,c5,c6,c7,c8]) rfl rfl rfl rfl (fun u hu=>HO2.out.2 u hu) HO2.out.1.obj ?_)
 intro w' ho hg;have HF:=zh (HO2.out.1.setObj ho hg);have hr:=tyD.load (cs:=[c0,c1,c2,c3,c4,c5,c6,c7,c8,c0,c1,c2,c3,c4,c5,c6,c7,c8]) rfl ho.all;clear HO2 hg HC;go_wp2;refine bodyPost_ret (v:=.agg #[c0,c1,c2,c3,c4,c5,c6,c7,c8,c0,c1,c2,c3,c4,c5,c6,c7,c8]) (gJ Tryz.results34 rfl hr) rfl ?_;exact hR.out _ _ ⟨rfl,HF.out.below⟩
theorem lW (w:World) :
 Calls Tryz.prog 36 #[] w fun e w'=>e=.returned (bz (topV,topV) bq bq)∧Below w.heap.size w w':=by
 have hO:=(Own.start (Mem.o9 w)).al zcD 35;have HP:=zh (fB topV bq (Mem.of w) 1 _ hO.inn (VAt.leaf _ true));have h1:=cK (d:=(topV,topV)) (VAt.leaf (Mem.of w) true) (VAt.leaf (Mem.of w) true);have HO:=zh hO;clear hO;unfold bz at *
 have hl:(dcs (topV,topV) bq bq).length=18:=rfl;generalize dcs (topV,topV) bq bq=N at *
 refine ay fun R hR=>?_
 go_enter Tryz.func36,Tryz.ntmps36
 go_wp2_with fail
 refine HP.out.mono ?_;rintro e w1 ⟨rfl,hb1⟩;have HO1:=zh (HO.out.move hb1);clear HO HP hb1
 go_wp2_with (refine aH tyD rfl (.tmp 0) (.tmp 2) rfl (cs:=N.toArray) rfl rfl rfl (by simpa using hl) (fun u hu=>h1 u hu) HO1.out.obj ?_)
 intro w' ho hg;have HF:=zh (HO1.out.setObj ho hg);have hr:=tyD.load hl ho.all;clear HO1 hg ho;go_wp2;exact bodyPost_ret (v:=.agg N.toArray) (gJ Tryz.results36 rfl hr) rfl (hR.out _ _ ⟨rfl,HF.out.below⟩)
theorem iI (w:World) :
 Calls Tryz.prog 38 #[] w fun e w'=>e=.returned (bz (botV,botV) bq bq)∧Below w.heap.size w w':=by
 have hO:=(Own.start (Mem.o9 w)).al zcD 35;have HO:=zh hO;clear hO;refine ay fun R hR=>?_
 go_enter Tryz.func38,Tryz.ntmps38
 go_wp2_with (refine aH tyD rfl (.tmp 0) (.tmp 1) rfl (cs:=zcD) rfl rfl rfl rfl zD HO.out.obj ?_)
 intro w' ho hg;have HF:=zh (HO.out.setObj ho hg);have hr:=tyD.load (cs:=zcD.toList) rfl ho.all;clear HO hg ho;go_wp2;exact bodyPost_ret (v:=.agg zcD) (gJ Tryz.results38 rfl hr) rfl (hR.out _ _ ⟨rfl,HF.out.below⟩)
theorem lm (v:Vl) (s:Sl) (m:Mem) (n:Nat) (w:World) (hm:m.inn w) (hv:VAt m n s v) :
 Calls Tryz.prog 39 #[v.val s] w fun e w'=>e=.returned (bz (v,v) s s)∧Below w.heap.size w w':=by
 have hO:=(Own.start hm).al (nine v s).toArray 33;have h1:=cK (d:=(v,v)) hv hv;unfold Vl.val bz;rw[show dcs (v,v) s s=nine v s ++ nine v s from rfl] at *
 have hN:∃c0 c1 c2 c3 c4 c5 c6 c7 c8,nine v s=[c0,c1,c2,c3,c4,c5,c6,c7,c8]:=⟨_,_,_,_,_,_,_,_,_,rfl⟩;obtain⟨c0,c1,c2,c3,c4,c5,c6,c7,c8,hN⟩:=hN;rw[hN] at hO h1 ⊢;have HC:=zh (fun o=>((hO.al' o).p8 (List.mem_cons_self ..)).all);have hO2:=hO.al zcD 35;simp only[bB] at hO2;have HO2:=zh (zi hO2 h1);clear hO h1 hN hO2;refine ay fun R hR=>?_
 go_enter Tryz.func39,Tryz.ntmps39
 go_wp2_with (first
  | refine ae tyV rfl (.tmp 1) rfl rfl [c0,c1,c2,c3,c4,c5,c6,c7,c8] rfl (HC.out _) ?_
  | refine aH tyD rfl (.tmp 2) (.tmp 5) rfl (cs:=#[c0,c1,c2,c3,c4,c5,c6,c7,c8,c0,c1,c2,c3,c4,c5,c6,c7,c8]) rfl rfl rfl rfl (fun u hu=>HO2.out.2 u hu) HO2.out.1.obj ?_)
 intro w' ho hg;have HF:=zh (HO2.out.1.setObj ho hg);have hr:=tyD.load (cs:=[c0,c1,c2,c3,c4,c5,c6,c7,c8,c0,c1,c2,c3,c4,c5,c6,c7,c8]) rfl ho.all;clear HO2 hg HC;go_wp2;refine bodyPost_ret (v:=.agg #[c0,c1,c2,c3,c4,c5,c6,c7,c8,c0,c1,c2,c3,c4,c5,c6,c7,c8]) (gJ Tryz.results39 rfl hr) rfl ?_;exact hR.out _ _ ⟨rfl,HF.out.below⟩
theorem qA (w:World) :
 Calls Tryz.prog 37 #[] w fun e w'=>e=.returned (bz (topV,topV) bq bq)∧Below w.heap.size w w':=by
 have hO:=(Own.start (Mem.o9 w)).al zcD 35;have HP:=zh (lm topV bq (Mem.of w) 1 _ hO.inn (VAt.leaf _ true));have h1:=cK (d:=(topV,topV)) (VAt.leaf (Mem.of w) true) (VAt.leaf (Mem.of w) true);have HO:=zh hO;clear hO;unfold bz at *
 have hl:(dcs (topV,topV) bq bq).length=18:=rfl;generalize dcs (topV,topV) bq bq=N at *
 refine ay fun R hR=>?_
 go_enter Tryz.func37,Tryz.ntmps37
 go_wp2_with fail
 refine HP.out.mono ?_;rintro e w1 ⟨rfl,hb1⟩;have HO1:=zh (HO.out.move hb1);clear HO HP hb1
 go_wp2_with (refine aH tyD rfl (.tmp 0) (.tmp 2) rfl (cs:=N.toArray) rfl rfl rfl (by simpa using hl) (fun u hu=>h1 u hu) HO1.out.obj ?_)
 intro w' ho hg;have HF:=zh (HO1.out.setObj ho hg);have hr:=tyD.load hl ho.all;clear HO1 hg ho;go_wp2;exact bodyPost_ret (v:=.agg N.toArray) (gJ Tryz.results37 rfl hr) rfl (hR.out _ _ ⟨rfl,HF.out.below⟩)
theorem iT:eT Tryz.prog 49 35 18 272:=⟨Tryz.underlying49,zo,by
 obtain⟨i,h1,h2,h3,h4⟩:=info_parts (P:=Tryz.prog) (e:=35) (z:=.agg zcD) (size:=18) (bytes:=272) zk;exact⟨i,_,h1,h2,h3,h4,rfl⟩⟩
theorem tV (u u':Value) (c:Lc) (m:Mem) (n:Nat) (w:World) (hm:m.inn w) (h1:bP (VAt m n) m u c.1) (h2:bP (VAt m n) m u' c.2) (hlen:c.1.length+c.2.length≤1048576) :
 Calls Tryz.prog 101 #[.agg #[u,u']] w fun e w'=>∃r,e=.returned r∧Below w.heap.size w w'∧bP (VAt (m.grow w w') n) (m.grow w w') r (bT c):=by
 obtain⟨a1,c1,xs,rfl,p1,q1,r1,n1,k1⟩:=h1.seg;obtain⟨a2,c2,ys,rfl,p2,q2,r2,n2,k2⟩:=h2.seg;have hO:=((Own.start hm).al #[.slice a1 c.1.length c1,.slice a2 c.2.length c2] 51).dI 35 18;have HX:=zh (zi r1 r2);have HK:=zh (zi k1 k2);have HO:=zh hO;have lx:=r1.len;have ly:=r2.len;have o1:=r1.one_cell;have o2:=r2.one_cell;clear hO r1 r2 k1 k2 h1 h2;refine ay fun R hR=>?_
 go_enter Tryz.func101,Tryz.ntmps101
 go_wp2_with (at_builtin;refine dH iT rfl (.tmp 4) (.tmp 6) rfl (.slice none 0 0) 0 [] rfl HO.out.row a1 c.1.length c1 xs rfl lx n1 (HK.out.1 _ HO.out.inn) o1 (by unfold maxLen;omega) zo ?_)
 intro va vc w1 ho1 hg1 hr1;have hO1:=HO.out.app ho1 hg1 hr1 zS;have g1:=hO1.swap.obj.cell (i:=1) (v:=.slice a2 c.2.length c2) rfl;have g0:=hO1.swap.obj.cell (i:=0) (v:=.slice a1 c.1.length c1) rfl;have HO1:=zh hO1;clear HO hO1 ho1 hg1 hr1
 go_wp2_with (at_builtin;refine dH iT rfl (.tmp 8) (.tmp 10) rfl (.slice va c.1.length vc) c.1.length xs rfl HO1.out.row a2 c.2.length c2 ys rfl ly n2 (HK.out.2 _ HO1.out.inn) o2 (by unfold maxLen;omega) zo ?_)
 intro vb vd w2 ho2 hg2 hr2;have hO2:=HO1.out.app ho2 hg2 hr2 (Nat.le_refl _);have hv:=bP.FQ (m:=m.grow w w2) (l:=bT c) (by rw[bT,List.length_append];exact hO2.row) (HX.out.1.append HX.out.2) hO2.free hO2.bg.done;have HF:=zh (zi hO2.below hv);clear HO1 hO2 ho2 hg2 hr2 hv g0 g1 HK HX;go_wp2;exact hR.out _ _ ⟨_,rfl,HF.out⟩
theorem xx:∀w,(zeroValue 35).run Tryz.prog w=.ok (.agg zcD) w:=Tryz.zeroValue35
theorem ik (u u':Value) (c:St) (m:Mem) (n:Nat) (w:World) (hm:m.inn w) (h1:gI (VAt m n) m u c.1) (h2:fV (VAt m n) m u' c.2) (hlen:c.1.length+c.2.length≤1048576) :
 Calls Tryz.prog 102 #[.agg #[u,u']] w fun e w'=>∃r,e=.returned r∧Below w.heap.size w w'∧bP (VAt (m.grow w w') n) (m.grow w w') r (bH c):=by
 obtain⟨a1,c1,rfl,p1,q1,k1⟩:=h1;obtain⟨a2,c2,rfl,p2,q2,k2⟩:=h2;unfold maxLen at q1 q2;have hO:=(Own.start hm).al #[.slice a1 c.1.length c1,.slice a2 c.2.length c2] 45;have HK:=zh (zi k1 k2);have HO:=zh (hO.dI 35 18);clear hO k1 k2;have HE:=zh (show bH c=c.1.map (·.2) ++ c.2.map (·.2) from rfl);generalize bH c=SV at *
 generalize c.2=KL at *
 generalize c.1=FL at *
 refine ay fun R hR=>?_
 go_enter Tryz.func102,Tryz.ntmps102
 go_wp2;refine au [1,3,4] (fun q vs wr=>∃(i:Nat) (v:Value) (xs:List Value),i≤FL.length∧q=FL.length - i∧vs=[.pointer (some ⟨w.heap.size,0,none⟩),v,.int .i64 (i:Int)]∧VRow (VAt m n) xs ((FL.take i).map (·.2)) ∧
  Own w m wr m [.row v 35 18 i xs,.obj w.heap.size 45 #[.slice a1 FL.length c1,.slice a2 KL.length c2]]) ?_ ?_
 ·exact⟨_,0,_,[],Nat.zero_le _,rfl,rfl,.nil _,HO.out⟩
 clear HO;rintro X z q vs wr hX - ⟨i,v,xs,hi,rfl,rfl,hv,hO⟩;simp[litL,lk];have g0:=hO.swap.obj.cell (i:=0) rfl;have g1:=hO.swap.obj.cell (i:=1) rfl;have gl:=hO.swap.obj.lt;by_cases hlt:i<FL.length
 ·obtain⟨b,off,rfl,h4⟩:=HK.out.1 (by intro h;simp[h] at hlt);obtain⟨x,y,hc,hx,hy⟩:=(h4 i hlt).v.cells;have hcl:=Mem.av hO.inn (hc 0 _ rfl);have HC:=zh (fun j u hj=>Mem.aj hO.inn (hc j u hj));have h1:=cK hx hy;have hv2:=hv.push hx hy;rw[show (FL.take i).map (·.2) ++ [FL[i].2]=(FL.take (i+1)).map (·.2) by rw[List.take_succ_eq_append_getElem hlt,List.map_append];rfl] at hv2;have hl:(dcs FL[i].2 x y).length=18:=rfl;have HV:=zh hv2;have hO2:=hO.al (dcs FL[i].2 x y).toArray 35;generalize dcs FL[i].2 x y=N at *
  have HO:=zh hO2;clear hO hO2 hv hv2 hx hy hc h4
  go_wp2_with (first
   | refine ae tyD rfl (.tmp 18) rfl rfl N hl HC.out ?_
   | refine iA iT tyD xx rfl zo rfl (.tmp 19) rfl (cs:=N.toArray) rfl (by simpa using hl) ?_
   | (at_builtin;refine aC iT rfl (.tmp 13) (.tmp 20) rfl v i xs rfl HO.out.swap.row ⟨wr.heap.size,0,none⟩ 1 1 N rfl hl (by intro j u hj;rw[Addr.add_lit,Nat.zero_add];exact HO.out.obj.cell (by simpa using hj)) h1 (by unfold maxLen;omega) zo ?_))
  intro va vc w1 ho1 hg1 hr1;have hO1:=(HO.out.swap.app ho1 hg1 hr1 zS).drop2;have HO1:=zh hO1;clear HO hO1 ho1 hg1 hr1 g0 g1 gl;go_wp2;exact hX.out _ _ _ zo rfl ⟨i+1,_,_,zo,rfl,rfl,HV.out,HO1.out⟩
 ·obtain rfl:i=FL.length:=zo;rw[List.take_length] at hv;have HV:=zh hv;have HO:=zh hO;clear hO hv hX;go_wp2;refine au [1,3,5] (fun q vs wr=>∃(i:Nat) (v:Value) (xs:List Value),i≤KL.length∧q=KL.length - i∧vs=[.pointer (some ⟨w.heap.size,0,none⟩),v,.int .i64 (i:Int)]∧VRow (VAt m n) xs (FL.map (·.2) ++ (KL.take i).map (·.2)) ∧
   Own w m wr m [.row v 35 18 (FL.length+i) xs,.obj w.heap.size 45 #[.slice a1 FL.length c1,.slice a2 KL.length c2]]) ?_ ?_
  ·exact⟨_,0,_,xs,Nat.zero_le _,rfl,rfl,by simpa using HV.out,HO.out⟩
  clear HO HV g0 g1 gl;rintro X z q vs wr hX - ⟨i,v,xs,hi,rfl,rfl,hv,hO⟩;simp[litL,lk];have g0:=hO.swap.obj.cell (i:=0) rfl;have g1:=hO.swap.obj.cell (i:=1) rfl;have gl:=hO.swap.obj.lt;by_cases hlt:i<KL.length
  ·obtain⟨b,off,rfl,h4⟩:=HK.out.2 (by intro h;simp[h] at hlt);obtain⟨x,y,hc,hx,hy⟩:=(h4 i hlt).v.cells;have hcl:=Mem.av hO.inn (hc 0 _ rfl);have HC:=zh (fun j u hj=>Mem.aj hO.inn (hc j u hj));have h1:=cK hx hy;have hv2:=hv.push hx hy;rw[show FL.map (·.2) ++ (KL.take i).map (·.2) ++ [KL[i].2]=FL.map (·.2) ++ (KL.take (i+1)).map (·.2) by rw[List.take_succ_eq_append_getElem hlt,List.map_append,List.append_assoc];rfl] at hv2;have hl:(dcs KL[i].2 x y).length=18:=rfl;have HV:=zh hv2;have hO2:=hO.al (dcs KL[i].2 x y).toArray 35;generalize dcs KL[i].2 x y=N at *
   have HO:=zh hO2;clear hO hO2 hv hv2 hx hy hc h4
   go_wp2_with (first
    | refine ae tyD rfl (.tmp 34) rfl rfl N hl HC.out ?_
    | refine iA iT tyD xx rfl zo rfl (.tmp 35) rfl (cs:=N.toArray) rfl (by simpa using hl) ?_
    | (at_builtin;refine aC iT rfl (.tmp 29) (.tmp 36) rfl v (FL.length+i) xs rfl HO.out.swap.row ⟨wr.heap.size,0,none⟩ 1 1 N rfl hl (by intro j u hj;rw[Addr.add_lit,Nat.zero_add];exact HO.out.obj.cell (by simpa using hj)) h1 (by unfold maxLen;omega) zo ?_))
   intro va vc w1 ho1 hg1 hr1;have hO1:=(HO.out.swap.app ho1 hg1 hr1 zS).drop2;have HO1:=zh hO1;clear HO hO1 ho1 hg1 hr1 g0 g1 gl;go_wp2;exact hX.out _ _ _ zo rfl ⟨i+1,_,_,zo,rfl,rfl,HV.out,HO1.out⟩
  ·obtain rfl:i=KL.length:=zo;rw[List.take_length] at hv;have hr:=bP.FQ (m:=m.grow w wr) (l:=SV) (by rw[HE.out,List.length_append,List.length_map,List.length_map];exact hO.row) (by rw[HE.out];exact hv) hO.free hO.bg.done;have HF:=zh (zi hO.below hr);clear hO hv hX hr;go_wp2;exact hR.out _ _ ⟨_,rfl,HF.out⟩
theorem pK {α β:Type} (f:α→List β) {l:List α} {i:Nat} (h:i<l.length):(l.take (i+1)).flatMap f=(l.take i).flatMap f ++ f l[i]:=by
 rw[List.take_succ_eq_append_getElem h,List.flatMap_append];simp
theorem uE {α β:Type} (f:α→List β):∀(l:List α) (i:Nat),((l.take i).flatMap f).length≤(l.flatMap f).length
 | [],i=>by simp
 | x::l,0=>by simp
 | x::l,i+1=>by
  have:=uE f l i;simp only[List.take_succ_cons,List.flatMap_cons,List.length_append];omega
theorem nR (v:Vl) (s:Sl) (m:Mem) (n:Nat) (w:World) (hm:m.inn w) (hv:VAt m (n+1) s v) (hlen:v.kids.length≤1048576) :
 Calls Tryz.prog 68 #[v.val s] w fun e w'=>∃r,e=.returned r∧Below w.heap.size w w'∧bP (VAt (m.grow w w') n) (m.grow w w') r v.kids:=by
 have hO:=(Own.start hm).al (nine v s).toArray 33;have hv2:=hv.2;have H7:(nine v s).toArray[7]?=some s.l:=rfl;have H8:(nine v s).toArray[8]?=some s.s:=rfl;obtain⟨a1,b1,a2,b2,a3,b3,a4,b4,a5,b5,rfl,-,-,-,q4,q5⟩:=hv.spell;obtain⟨⟨z1,y1,e1,-,-,k1⟩,⟨z2,y2,e2,-,-,k2⟩⟩:=hv2;simp only[Value.slice.injEq] at e1 e2;obtain⟨rfl,-,rfl⟩:=e1;obtain⟨rfl,-,rfl⟩:=e2;simp only at H7 H8;have H7:=zh H7;have H8:=zh H8;unfold maxLen at q4 q5;unfold Vl.val;have HE:=zh (show v.kids=v.lists.flatMap bT ++ v.structs.flatMap bH from rfl);generalize (nine v _).toArray=N at *
 generalize v.kids=KD at *
 generalize v.lists=FL at *
 generalize v.structs=KL at *
 have HK:=zh (zi k1 k2);have HO:=zh (hO.dI 35 18);have HL:=zh (show (FL.flatMap bT).length+(KL.flatMap bH).length≤1048576 by have:=hlen;rw[HE.out,List.length_append] at this;exact this);clear hO k1 k2 hv hlen;refine ay fun R hR=>?_
 go_enter Tryz.func68,Tryz.ntmps68
 go_wp2;refine au [1,3,4] (fun q vs wr=>∃(i:Nat) (r:Value) (xs:List Value) (mk:Mem),i≤FL.length∧q=FL.length - i∧vs=[.pointer (some ⟨w.heap.size,0,none⟩),r,.int .i64 (i:Int)]∧VRow (VAt mk n) xs ((FL.take i).flatMap bT) ∧
  Own w m wr mk [.row r 35 18 ((FL.take i).flatMap bT).length xs,.obj w.heap.size 33 N]) ?_ ?_
 ·exact⟨_,0,_,[],m,Nat.zero_le _,rfl,rfl,.nil _,HO.out⟩
 clear HO;rintro X z q vs wr hX - ⟨i,r,xs,mk,hi,rfl,rfl,hr,hO⟩;simp[litL,lk];have g7:=hO.swap.obj.cell H7.out;have gl:=hO.swap.obj.lt;by_cases hlt:i<FL.length
 ·obtain⟨b,off,rfl,h4⟩:=HK.out.1 (by intro h;simp[h] at hlt);obtain⟨u,u',hu,hu',x1,x2⟩:=h4 i hlt;have c1:=Mem.aj hO.inn (Mem.aA hO.ext.le hu);have c2:=Mem.aj hO.inn (Mem.aA hO.ext.le hu');have cl:=Mem.av hO.inn (Mem.aA hO.ext.le hu);have hfs:=pK bT hlt;have hfl:=uE bT FL (i+1);rw[hfs,List.length_append] at hfl;have hlv:(bT FL[i]).length=FL[i].1.length+FL[i].2.length:=by rw[bT,List.length_append]
  have HF:=zh (tV u u' FL[i] mk n _ hO.inn (x1.le hO.ext.le fun _ _ h=>h.le hO.ext.le) (x2.le hO.ext.le fun _ _ h=>h.le hO.ext.le) (by have:=HL.out;omega));have HR:=zh (zi hr hfs);have HO:=zh hO;clear hO hr h4 hu hu' x1 x2 hfs hlv
  go_wp2_with fail
  refine HF.out.mono ?_;rintro e w1 ⟨r1,rfl,hb1,hv1⟩;have hO1:=HO.out.call hb1;obtain⟨ad,cc,ys,rfl,-,-,hy,hn,hk⟩:=hv1.seg;have hr1:=(HR.out.1.mono fun _ _ h=>h.le (Mem.dN HO.out.inn)).append hy;rw[← HR.out.2] at hr1;have HR1:=zh hr1;have o1:=hy.one_cell;have ly:=hy.len;have HN:=zh (hk w1 hO1.inn);have HO1:=zh hO1;have HR:=zh (congrArg List.length HR.out.2);clear hO1 HO HF hb1 hv1 hy hk hr1 c1 c2 cl g7 gl;rw[List.length_append] at HR;generalize ((FL.take i).flatMap bT).length=t at *
  go_wp2_with (at_builtin;refine dH iT rfl (.tmp 13) (.tmp 19) rfl r t xs rfl HO1.out.row ad (bT FL[i]).length cc ys rfl ly hn HN.out o1 (by have:=HL.out;unfold maxLen;omega) (by have:=HL.out;omega) ?_)
  intro va vc w2 ho2 hg2 hr2;have hO2:=HO1.out.app ho2 hg2 hr2 (Nat.le_refl _);rw[← HR.out] at hO2;have HO2:=zh hO2;clear HO1 ho2 hg2 hr2 hO2;go_wp2;refine hX.out _ _ _ zo rfl ⟨i+1,_,_,_,zo,rfl,?_,HR1.out,HO2.out⟩;rw[HR.out];rfl
 ·obtain rfl:i=FL.length:=zo;rw[List.take_length] at hr hO;obtain⟨T,hT⟩:∃T,T=(FL.flatMap bT).length:=⟨_,rfl⟩;rw[← hT] at hO;have HT:=zh hT;clear hT;have HV:=zh hr;have HO:=zh hO;clear hO hr hX;go_wp2;refine au [1,3,5] (fun q vs wr=>∃(i:Nat) (r:Value) (xs:List Value) (mk:Mem),i≤KL.length∧q=KL.length - i∧vs=[.pointer (some ⟨w.heap.size,0,none⟩),r,.int .i64 (i:Int)]∧VRow (VAt mk n) xs (FL.flatMap bT ++ (KL.take i).flatMap bH) ∧
   Own w m wr mk [.row r 35 18 (T+((KL.take i).flatMap bH).length) xs,.obj w.heap.size 33 N]) ?_ ?_
  ·exact⟨_,0,_,xs,mk,Nat.zero_le _,rfl,rfl,by simpa using HV.out,HO.out⟩
  clear HO HV g7 gl;rintro X z q vs wr hX - ⟨i,r,xs,mk,hi,rfl,rfl,hr,hO⟩;simp[litL,lk];have g7:=hO.swap.obj.cell H8.out;have gl:=hO.swap.obj.lt;by_cases hlt:i<KL.length
  ·obtain⟨b,off,rfl,h4⟩:=HK.out.2 (by intro h;simp[h] at hlt);obtain⟨u,u',hu,hu',x1,x2⟩:=h4 i hlt;have c1:=Mem.aj hO.inn (Mem.aA hO.ext.le hu);have c2:=Mem.aj hO.inn (Mem.aA hO.ext.le hu');have cl:=Mem.av hO.inn (Mem.aA hO.ext.le hu);have hfs:=pK bH hlt;have hfl:=uE bH KL (i+1);rw[hfs,List.length_append] at hfl;have hlv:(bH KL[i]).length=KL[i].1.length+KL[i].2.length:=by rw[bH,List.length_append,List.length_map,List.length_map]
   have HF:=zh (ik u u' KL[i] mk n _ hO.inn (x1.le hO.ext.le fun _ _ h=>h.le hO.ext.le) (x2.le hO.ext.le fun _ _ h=>h.le hO.ext.le) (by have:=HL.out;omega));have HR:=zh (zi hr hfs);have HO:=zh hO;clear hO hr h4 hu hu' x1 x2 hfs hlv
   go_wp2_with fail
   refine HF.out.mono ?_;rintro e w1 ⟨r1,rfl,hb1,hv1⟩;have hO1:=HO.out.call hb1;obtain⟨ad,cc,ys,rfl,-,-,hy,hn,hk⟩:=hv1.seg;have hr1:=(HR.out.1.mono fun _ _ h=>h.le (Mem.dN HO.out.inn)).append hy;rw[List.append_assoc,← HR.out.2] at hr1;have HR1:=zh hr1;have o1:=hy.one_cell;have ly:=hy.len;have HN:=zh (hk w1 hO1.inn);have HO1:=zh hO1;have HR:=zh (congrArg List.length HR.out.2);clear hO1 HO HF hb1 hv1 hy hk hr1 c1 c2 cl g7 gl;rw[List.length_append] at HR;generalize ((KL.take i).flatMap bH).length=t at *
   go_wp2_with (at_builtin;refine dH iT rfl (.tmp 28) (.tmp 34) rfl r (T+t) xs rfl HO1.out.row ad (bH KL[i]).length cc ys rfl ly hn HN.out o1 (by have:=HL.out;have:=HT.out;unfold maxLen;omega) (by have:=HL.out;have:=HT.out;omega) ?_)
   intro va vc w2 ho2 hg2 hr2;have hO2:=HO1.out.app ho2 hg2 hr2 (Nat.le_refl _);rw[Nat.add_assoc,← HR.out] at hO2;have HO2:=zh hO2;clear HO1 ho2 hg2 hr2 hO2;go_wp2;refine hX.out _ _ _ zo rfl ⟨i+1,_,_,_,zo,rfl,?_,HR1.out,HO2.out⟩;rw[HR.out,← Nat.add_assoc];rfl
  ·obtain rfl:i=KL.length:=zo;rw[List.take_length] at hr hO;have hv:=bP.FQ (m:=m.grow w wr) (l:=KD) (by rw[HE.out,List.length_append,← HT.out];exact hO.row) (by rw[HE.out];exact hr) hO.free hO.bg.done;have HF:=zh (zi hO.below hv);clear hO hr hX hv;go_wp2;exact hR.out _ _ ⟨_,rfl,HF.out⟩
theorem rT.all {p:Nat} {most c:Int} (h:rT p most c):DN p most c:=⟨h.le,h.gt,h.pos,h.top⟩
theorem rT.stop {p t:Nat} {most c:Int} (h:rT p most c) (hp:p≤t) (hc:most<c):DN t most c:=by
 have h1:=h.le;exact⟨fun k=>zo,fun _=>hc,h.pos,h.top⟩
def cntK (n:Nat) (l:List Vd) (i:Nat):Nat:=1+((l.take i).map fun x=>vcnt n x.1+vcnt n x.2).sum
theorem Bn (n:Nat) (l:List Vd) (i:Nat) (h:i<l.length):cntK n l (i+1)=cntK n l i+(vcnt n l[i].1+vcnt n l[i].2):=by
 unfold cntK;rw[List.take_succ_eq_append_getElem h,List.map_append,List.sum_append];simp;omega
theorem Dw (n:Nat):∀(l:List Vd) (i:Nat),cntK n l i≤cntK n l l.length
 | [],i=>by simp[cntK]
 | x::l,0=>by simp[cntK]
 | x::l,i+1=>by
  have:=Dw n l i;unfold cntK at *
  simp only[List.take_succ_cons,List.length_cons,List.map_cons,List.sum_cons,List.take_length] at *;omega
theorem EW (n:Nat) (v:Vl):cntK n v.kids v.kids.length=vcnt (n+1) v:=by unfold cntK;rw[List.take_length,vcnt]
theorem ma {n:Nat} {v:Vl} (h:Ht (n+1) v):v.kids.length+1≤vcnt (n+1) v:=by
 rw[vcnt];have:∀l:List Vd,(∀x∈l,Ht n x.1∧Ht n x.2)→l.length≤(l.map fun x=>vcnt n x.1+vcnt n x.2).sum:=by
  intro l
  induction l with
  | nil=>intro _;simp
  | cons x l ih=>
   intro hx;have h1:=rW (hx x zS).1;have:=ih fun y hy=>hx y (by simp[hy]);simp only[List.map_cons,List.sum_cons,List.length_cons];omega
 have:=this v.kids h;omega
theorem lq:∀(n:Nat) (v:Vl) (s:Sl) (most:Int) (m:Mem) (w:World),m.inn w→VAt m n s v→vcnt n v≤1048576 → -4294967296≤most→most≤2147483648 →
 Calls Tryz.prog 49 #[v.val s,.int .i64 most] w fun e w'=>∃r,e=.returned (.int .i64 r)∧Below w.heap.size w w'∧DN (vcnt n v) most r
 | 0,_,_,_,_,_,_,h,_,_,_=>h.elim
 | n+1,v,s,most,m,w,hm,hv,hc,hm1,hm2=>by
  have hO:=(Own.start hm).al (nine v s).toArray 33;have hk:=ma hv.ht;have HV:=zh (nR v s m n _ hO.inn hv zo);have HN:=zh hO.obj.all;have hN:(nine v s).length=9:=rfl;have HO:=zh hO;have hT:=EW n v;have hT2:=Dw n v.kids;rw[hT] at hT2;have HT:=zh (zi hT (zi hT2 hc));unfold Vl.val at *
  generalize nine v s=N at *
  generalize v.kids=KD at *
  generalize vcnt (n+1) v=TOT at *
  clear hO hv hT hT2 hk;refine ay fun R hR=>?_
  go_enter Tryz.func49,Tryz.ntmps49
  go_wp2_with (refine ae tyV rfl (.tmp 2) rfl rfl N hN HN.out ?_)
  refine HV.out.mono ?_;rintro e w1 ⟨r,rfl,hb1,hr⟩;have hO1:=HO.out.call hb1;obtain⟨a,c,rfl,p1,q1,hk⟩:=hr;have HK:=zh hk;have HO1:=zh hO1;unfold maxLen at q1;clear HO HV HN hb1 hk hO1;generalize m.grow (w.alloc (.cells N.toArray 33)) w1=M at *
  go_wp2;refine au [1,5,6,7] (fun q vs wr=>∃(i:Nat) (x:Int),i≤KD.length∧q=KD.length - i∧vs=[.int .i64 most,.int .i64 x,.slice a KD.length c,.int .i64 (i:Int)]∧rT (cntK n KD i) most x ∧
   Own w m wr M [.obj w.heap.size 33 N.toArray]) ?_ ?_
  ·exact⟨_,0,1,Nat.zero_le _,rfl,rfl,by simpa [cntK] using rT.start most,HO1.out⟩
  clear HO1;rintro X z q vs wr hX - ⟨i,x,hi,rfl,rfl,hct,hO⟩;simp[litL,lk];have htop:=hct.top;have hpos:=hct.pos;by_cases hlt:i<KD.length
  case neg=>
   obtain rfl:i=KD.length:=zo;have HF:=zh (zi hO.below hct.all);rw[HT.out.1] at HF;clear hO hct hX HT;go_wp2;exact hR.out _ _ ⟨_,rfl,HF.out⟩
  by_cases hle:x≤most
  case neg=>
   have hd:decide (x≤most)=false:=decide_eq_false hle;have HF:=zh (zi hO.below (hct.stop (HT.out.2.1 i) zo));clear hO hct hX HT;go_wp2;exact hR.out _ _ ⟨_,rfl,HF.out⟩
  have hd:decide (x≤most)=true:=decide_eq_true hle;obtain⟨b,off,rfl,h4⟩:=HK.out (by intro h;simp[h] at hlt);obtain⟨x1,x2,c1,r1,c2,r2⟩:=h4 i hlt;have hcl:=Mem.av hO.inn c1.a;have hcl2:=Mem.av hO.inn c2.a;have HC1:=zh (fun j u hj=>Mem.aj hO.inn (c1.get (j:=j) (u:=u) hj));have HG2:=zh (fun j u hj=>c2.get (j:=j) (u:=u) hj);have hs:=Bn n KD i hlt;have hl:=HT.out.2.1 (i+1);have hc:=HT.out.2.2;have hp1:=rW r1.ht;have hp2:=rW r2.ht;have HX1:=zh (lq n KD[i].1 x1 (most - x) M wr hO.inn r1 zo (by split at htop <;> omega) zo);have HX2:=zh (fun w' (h:M.inn w') mo=>lq n KD[i].2 x2 mo M w' h r2 zo);have hN1:(nine KD[i].1 x1).length=9:=rfl;have hN2:(nine KD[i].2 x2).length=9:=rfl;have HS:=zh (zi hct (zi hs (zi hp1 hp2)));have HO:=zh hO;unfold Vl.val at HX1 HX2;generalize nine KD[i].1 x1=N1 at *
  generalize nine KD[i].2 x2=N2 at *
  clear hO c1 c2 r1 r2 h4 hs hl hc hct
  go_wp2_with (refine ae tyV rfl (.tmp 25) rfl rfl N1 hN1 HC1.out ?_)
  refine HX1.out.mono ?_;rintro e w2 ⟨y1,rfl,hb2,hi1⟩;have hi1t:y1≤2*(most - x)+2:=by have:=hi1.top;split at this <;> omega
  have hi1p:=hi1.pos;have hO2:=HO.out.move hb2;have hcl:=Nat.lt_of_lt_of_le hcl2 hb2.size;have HC2:=zh (fun j u hj=>Mem.aj hO2.inn (HG2.out j u hj));have HY:=zh (HX2.out w2 hO2.inn (most - (x+y1)) zo zo);have HO2:=zh hO2;have HI:=zh hi1;have htop:x≤2*most+2:=by split at htop <;> omega
  clear HO hO2 hb2 hi1 HC1 HG2 HX1 HX2 hcl2
  go_wp2_with (refine ae tyV rfl (.tmp 36) rfl rfl N2 hN2 HC2.out ?_)
  refine HY.out.mono ?_;rintro e w3 ⟨y2,rfl,hb3,hi2⟩;have hi2t:y2≤2*most+4:=by have:=hi2.top;split at this <;> omega
  have hi2p:=hi2.pos;have HO3:=zh (HO2.out.move hb3);have hst:=rT.step HS.out.1 hle HI.out hi2 HS.out.2.2.1 HS.out.2.2.2;rw[← HS.out.2.1] at hst;have HST:=zh hst;clear HO2 HY hb3 hi2 HC2 hst HI HS;go_wp2;exact hX.out _ _ _ zo rfl ⟨i+1,_,zo,rfl,rfl,HST.out,HO3.out⟩
structure FewC (c:St):Prop where
 f:c.1.length≤6
 k:c.2.length≤6
 lab:∀f∈c.1,f.1.1.size≤40
 set:∀k∈c.2,gH k.1
theorem Mc (v:Vl):FewP v↔(gH v.s.t∧v.s.i.length≤8∧v.s.f.length≤8∧v.lists.length≤4∧v.structs.length≤4)∧∀c∈v.structs,FewC c:=
 ⟨fun h=>⟨⟨h.sc.2.2,h.sc.1,h.sc.2.1,h.l,h.s⟩,fun c hc=>⟨h.f c hc,h.k c hc,h.lab c hc,h.set c hc⟩⟩,
  fun h=>⟨⟨h.1.2.1,h.1.2.2.1,h.1.1⟩,h.1.2.2.2.1,h.1.2.2.2.2,fun c hc=>(h.2 c hc).f,fun c hc=>(h.2 c hc).k,fun c hc=>(h.2 c hc).lab,fun c hc=>(h.2 c hc).set⟩⟩
theorem kF {α:Type} (P:α→Prop) {l:List α} {i:Nat} (h:i<l.length):(∀x∈l.drop i,P x)↔P l[i]∧∀x∈l.drop (i+1),P x:=by
 rw[List.drop_eq_getElem_cons h];exact List.forall_mem_cons
theorem oC {α:Type} (P:α→Prop) {l:List α} {i:Nat} (h:l.length≤i):∀x∈l.drop i,P x:=by
 rw[List.drop_eq_nil_of_le h];simp
theorem qX {p q:Prop} (hp:p):tf (p∧q)=tf q:=aZ ⟨fun h=>h.2,fun h=>⟨hp,h⟩⟩
theorem Md (c:St):FewC c↔(c.1.length≤6∧c.2.length≤6)∧(∀f∈c.1,f.1.1.size≤40)∧∀k∈c.2,gH k.1:=⟨fun h=>⟨⟨h.f,h.k⟩,h.lab,h.set⟩,fun h=>⟨h.1.1,h.1.2,h.2.1,h.2.2⟩⟩
theorem Oe {p q:Prop} (hp:¬ p):tf (p∧q)=false:=az fun h=>hp h.1
theorem qC:∀(n:Nat) (v:Vl) (s:Sl) (m:Mem) (w:World),m.inn w→VAt m n s v→vcnt n v≤1048576 →
 Calls Tryz.prog 50 #[v.val s] w fun e w'=>e=.returned (.bool (tf (FewV n v)))∧Below w.heap.size w w'
 | 0,_,_,_,_,_,h,_=>h.elim
 | n+1,v,s,m,w,hm,hv,hc=>by
  have hO:=(Own.start hm).al (nine v s).toArray 33;have hk:=ma hv.ht;have HV:=zh (fun w' (h:m.inn w')=>nR v s m n w' h hv zo);have HT:=zh (BI s.t v.s.t m _ hO.inn hv.1.t);have hcnt:∀d∈v.kids,vcnt n d.1≤1048576∧vcnt n d.2≤1048576:=fun d hd=>by have:=jW (n:=n) hd;omega
  have HC:=zh hcnt;have hN:(nine v s).length=9:=rfl;have H4:(nine v s).toArray[4]?=some s.i:=rfl;have H5:(nine v s).toArray[5]?=some s.f:=rfl;have H6:(nine v s).toArray[6]?=some s.t:=rfl;have H7:(nine v s).toArray[7]?=some s.l:=rfl;have H8:(nine v s).toArray[8]?=some s.s:=rfl;have hv2:=hv.2.2;obtain⟨a1,b1,a2,b2,a3,b3,a4,b4,a5,b5,rfl,q1,q2,q3,q4,q5⟩:=hv.spell;obtain⟨z2,y2,e2,-,-,k2⟩:=hv2;simp only[Value.slice.injEq] at e2;obtain⟨rfl,-,rfl⟩:=e2;simp only at H4 H5 H6 H7 H8;have HH:=zh (zi H4 (zi H5 (zi H6 (zi H7 H8))));unfold maxLen at q1 q2 q3 q4 q5;have hE:FewV (n+1) v↔(gH v.s.t∧v.s.i.length≤8∧v.s.f.length≤8∧v.lists.length≤4∧v.structs.length≤4)∧(∀c∈v.structs,FewC c)∧∀x∈v.kids,FewV n x.1∧FewV n x.2:=by
   rw[← and_assoc,← Mc];rfl
  have HE:=zh (aZ hE);have HK:=zh k2;have HO:=zh hO;have g6:=hO.obj.cell H6;clear hO hv k2 hk hcnt hc hE H4 H5 H6 H7 H8;unfold Vl.val at *
  obtain⟨KP,hKP⟩:∃KP:Prop,KP=∀x∈v.kids,FewV n x.1∧FewV n x.2:=⟨_,rfl⟩;rw[← hKP] at HE;have HKP:=zh hKP;clear hKP;generalize nine v _=N at *
  generalize v.kids=KD at *
  generalize v.structs=KL at *
  generalize v.lists.length=l4 at *
  generalize v.s.i.length=l1 at *
  generalize v.s.f.length=l2 at *
  generalize v.s.t.length=l3 at *
  generalize tf (FewV (n+1) v)=FF at *
  have HNO:=zh (fun (h:¬ (gH v.s.t∧l1≤8∧l2≤8∧l4≤4∧KL.length≤4))=>HE.out.trans (Oe h));refine ay fun R hR=>?_
  go_enter Tryz.func50,Tryz.ntmps50
  go_wp2_with fail
  refine HT.out.mono ?_;rintro e w1 ⟨rfl,hb1⟩;have hO1:=HO.out.move hb1;have g4:=hO1.obj.cell HH.out.1;have g5:=hO1.obj.cell HH.out.2.1;have g7:=hO1.obj.cell HH.out.2.2.2.1;have g8:=hO1.obj.cell HH.out.2.2.2.2;have HO1:=zh hO1;clear HO hO1 HT hb1 g6;by_cases c0:gH v.s.t
  case neg=>
   have HF:=zh (HNO.out fun h=>c0 h.1);rw[az c0];clear c0 HE HNO;go_wp2;exact hR.out _ _ ⟨by rw[HF.out] <;> rfl,HO1.out.below⟩
  rw[aI c0];by_cases c1:l1≤8
  case neg=>
   have HF:=zh (HNO.out fun h=>c1 h.2.1);clear HE HNO c0;go_wp2;exact hR.out _ _ ⟨by rw[HF.out] <;> rfl,HO1.out.below⟩
  by_cases c2:l2≤8
  case neg=>
   have HF:=zh (HNO.out fun h=>c2 h.2.2.1);clear HE HNO c0;go_wp2;exact hR.out _ _ ⟨by rw[HF.out] <;> rfl,HO1.out.below⟩
  by_cases c3:l4≤4
  case neg=>
   have HF:=zh (HNO.out fun h=>c3 h.2.2.2.1);clear HE HNO c0;go_wp2;exact hR.out _ _ ⟨by rw[HF.out] <;> rfl,HO1.out.below⟩
  by_cases c4:KL.length≤4
  case neg=>
   have HF:=zh (HNO.out fun h=>c4 h.2.2.2.2);clear HE HNO c0;go_wp2;exact hR.out _ _ ⟨by rw[HF.out] <;> rfl,HO1.out.below⟩
  have HE2:=zh (HE.out.trans (qX ⟨c0,c1,c2,c3,c4⟩));clear HE HNO c0;go_wp2;refine au [1,3] (fun q vs wr=>∃(i:Nat),i≤KL.length∧q=KL.length - i∧vs=[.pointer (some ⟨w.heap.size,0,none⟩),.int .i64 (i:Int)]∧FF=tf ((∀c∈KL.drop i,FewC c)∧KP) ∧
   Own w m wr m [.obj w.heap.size 33 N.toArray]) ?_ ?_
  ·exact⟨_,0,Nat.zero_le _,rfl,rfl,HE2.out,HO1.out⟩
  clear HO1 HE2 g4 g5 g7 g8;rintro X z q vs wr hX - ⟨i,hi,rfl,rfl,hE,hO⟩;simp[litL,lk];have g8:=hO.obj.cell HH.out.2.2.2.2;have gl:=hO.obj.lt;by_cases hlt:i<KL.length
  ·obtain⟨b,off,rfl,h4⟩:=HK.out (by intro h;simp[h] at hlt);obtain⟨u,u',d1,d2,kf,kk⟩:=h4 i hlt;obtain⟨af,cf,rfl,pf,qf,kf⟩:=kf;obtain⟨ak,ck,rfl,pk,qk,kk⟩:=kk;have x1:=Mem.aj hO.inn d1;have x2:=Mem.aj hO.inn d2;have xl:=Mem.av hO.inn d1;rw[aZ (and_congr (kF FewC hlt) Iff.rfl),aZ (and_assoc (a:=FewC KL[i])),aZ (and_congr (Md KL[i]) Iff.rfl)] at hE;have HE:=zh hE;have HKK:=zh (zi kf kk);have HO:=zh (hO.al #[.slice af KL[i].1.length cf,.slice ak KL[i].2.length ck] 45);unfold maxLen at qf qk;clear hE hO h4 kf kk d1 d2;generalize KL[i].1=FL at *
   generalize KL[i].2=CL at *
   by_cases c5:FL.length≤6∧CL.length≤6
   case neg=>
    have HF:=zh (HE.out.trans (az fun h=>c5 h.1.1));clear HE;by_cases c6:FL.length≤6
    ·have c7:¬ CL.length≤6:=fun h=>c5 ⟨c6,h⟩;clear c5;go_wp2;exact hR.out _ _ ⟨by rw[HF.out] <;> rfl,HO.out.below⟩
    ·clear c5;go_wp2;exact hR.out _ _ ⟨by rw[HF.out] <;> rfl,HO.out.below⟩
   obtain⟨c5,c6⟩:=c5;have hE2:=HE.out.trans (aZ (and_congr_left fun _=>(and_iff_right (show FL.length≤6∧CL.length≤6 from ⟨c5,c6⟩))));have HE2:=zh hE2;clear hE2 HE;go_wp2;refine au [1,3,4,5] (fun q vs w2=>∃(j:Nat),j≤FL.length∧q=FL.length - j∧vs=[.pointer (some ⟨w.heap.size,0,none⟩),.int .i64 (i:Int),.pointer (some ⟨wr.heap.size,0,none⟩),.int .i64 (j:Int)]∧FF=tf (((∀f∈FL.drop j,f.1.1.size≤40)∧∀k∈CL,gH k.1)∧(∀c∈KL.drop (i+1),FewC c)∧KP) ∧
    Own w m w2 m [.obj wr.heap.size 45 #[.slice af FL.length cf,.slice ak CL.length ck],.obj w.heap.size 33 N.toArray]) ?_ ?_
   ·exact⟨_,0,Nat.zero_le _,rfl,rfl,HE2.out,HO.out⟩
   clear HO HE2 x1 x2 xl g8 gl;rintro Y z q vs w2 hY - ⟨j,hj,rfl,rfl,hE,hO⟩;simp[litL,lk];have g0:=hO.obj.cell (i:=0) rfl;have g1:=hO.obj.cell (i:=1) rfl;have gl:=hO.obj.lt;by_cases hlj:j<FL.length
   ·obtain⟨b',off',rfl,h4⟩:=HKK.out.1 (by intro h;simp[h] at hlj);have x1:=Mem.aj hO.inn (h4 j hlj).s;have xl:=Mem.av hO.inn (h4 j hlj).s;have xs:=(h4 j hlj).sz;unfold maxLen at xs;rw[aZ (and_congr_left fun _=>and_congr_left fun _=>kF (fun f:Fd=>f.1.1.size≤40) hlj)] at hE;have HE:=zh hE;have HO:=zh hO;clear hE hO h4;generalize FL[j].1.1=lab at *
    by_cases c7:lab.size≤40
    ·have HE2:=zh (HE.out.trans (aZ (and_congr_left fun _=>and_congr_left fun _=>and_iff_right c7)));clear HE;go_wp2;exact hY.out _ _ _ zo rfl ⟨j+1,zo,rfl,rfl,HE2.out,HO.out⟩
    ·have HF:=zh (HE.out.trans (az fun h=>c7 h.1.1.1));clear HE;go_wp2;exact hR.out _ _ ⟨by rw[HF.out] <;> rfl,HO.out.below⟩
   ·have HE:=zh (hE.trans (aZ (and_congr_left fun _=>and_iff_right (oC (fun f:Fd=>f.1.1.size≤40) (l:=FL) (i:=j) zo))));have HO:=zh hO;clear hE hO hY;go_wp2;refine au [1,3,4,6] (fun q vs w2=>∃(j:Nat),j≤CL.length∧q=CL.length - j∧vs=[.pointer (some ⟨w.heap.size,0,none⟩),.int .i64 (i:Int),.pointer (some ⟨wr.heap.size,0,none⟩),.int .i64 (j:Int)]∧FF=tf ((∀k∈CL.drop j,gH k.1)∧(∀c∈KL.drop (i+1),FewC c)∧KP) ∧
     Own w m w2 m [.obj wr.heap.size 45 #[.slice af FL.length cf,.slice ak CL.length ck],.obj w.heap.size 33 N.toArray]) ?_ ?_
    ·exact⟨_,0,Nat.zero_le _,rfl,rfl,HE.out,HO.out⟩
    clear HO HE g0 g1 gl;rintro Y z q vs w2 hY - ⟨j,hj,rfl,rfl,hE,hO⟩;simp[litL,lk];have g1:=hO.obj.cell (i:=1) rfl;have gl:=hO.obj.lt;by_cases hlj:j<CL.length
    ·obtain⟨b',off',rfl,h4⟩:=HKK.out.2 (by intro h;simp[h] at hlj);obtain⟨ut,hu,hst⟩:=(h4 j hlj).s;have x1:=Mem.aj hO.inn hu;have xl:=Mem.av hO.inn hu;have HT:=zh (BI ut CL[j].1 m _ hO.inn hst);obtain⟨at',ct',rfl,-⟩:=hst;rw[aZ (and_congr_left fun _=>kF (fun k:Kl=>gH k.1) hlj)] at hE;have HE:=zh hE;have HO:=zh hO;clear hE hO h4 hu
     go_wp2_with fail
     refine HT.out.mono ?_;rintro e w3 ⟨rfl,hb3⟩;have HO3:=zh (HO.out.move hb3);clear HO HT hb3 x1 xl g1 gl;by_cases c7:gH CL[j].1
     ·have HE2:=zh (HE.out.trans (aZ (and_congr_left fun _=>and_iff_right c7)));rw[aI c7];clear HE c7;go_wp2;exact hY.out _ _ _ zo rfl ⟨j+1,zo,rfl,rfl,HE2.out,HO3.out⟩
     ·have HF:=zh (HE.out.trans (az fun h=>c7 h.1.1));rw[az c7];clear HE c7;go_wp2;exact hR.out _ _ ⟨by rw[HF.out] <;> rfl,HO3.out.below⟩
    ·have HE:=zh (hE.trans (qX (oC (fun k:Kl=>gH k.1) (l:=CL) (i:=j) zo)));have HO:=zh hO.tail;clear hE hO hY;go_wp2;exact hX.out _ _ _ zo rfl ⟨i+1,zo,rfl,rfl,HE.out,HO.out⟩
  ·have HE:=zh (hE.trans (qX (oC FewC (l:=KL) (i:=i) zo)));have HVV:=zh (HV.out wr hO.inn);have HN:=zh hO.obj.all;have HO:=zh hO;clear hE hO hX HV
   go_wp2_with (refine ae tyV rfl (.tmp 1) rfl rfl N hN HN.out ?_)
   refine HVV.out.mono ?_;rintro e w2 ⟨r,rfl,hb2,hr⟩;have hO2:=HO.out.call hb2;obtain⟨a,c,rfl,p1,qq1,hk⟩:=hr;have HK2:=zh hk;have HO2:=zh hO2;unfold maxLen at qq1;clear HO HVV HN hb2 hk hO2 g8 gl;generalize m.grow wr w2=M at *
   go_wp2;refine au [7,8] (fun q vs w3=>∃(i:Nat),i≤KD.length∧q=KD.length - i∧vs=[.slice a KD.length c,.int .i64 (i:Int)]∧FF=tf (∀x∈KD.drop i,FewV n x.1∧FewV n x.2) ∧
    Own w m w3 M [.obj w.heap.size 33 N.toArray]) ?_ ?_
   ·exact⟨_,0,Nat.zero_le _,rfl,rfl,by rw[HE.out,HKP.out];rfl,HO2.out⟩
   clear HO2 HE;rintro Y z q vs w3 hY - ⟨j,hj,rfl,rfl,hE,hO⟩;simp[litL,lk];by_cases hlj:j<KD.length
   ·obtain⟨b,off,rfl,h4⟩:=HK2.out (by intro h;simp[h] at hlj);obtain⟨x1,x2,e1,r1,e2,r2⟩:=h4 j hlj;have hcl:=Mem.av hO.inn e1.a;have HC1:=zh (fun k u hk=>Mem.aj hO.inn (e1.get (j:=k) (u:=u) hk));have HG2:=zh (fun k u hk=>e2.get (j:=k) (u:=u) hk);have hcc:=HC.out KD[j] (List.getElem_mem hlj);have HX1:=zh (qC n KD[j].1 x1 M w3 hO.inn r1 hcc.1);have HX2:=zh (fun w' (h:M.inn w')=>qC n KD[j].2 x2 M w' h r2 hcc.2);have hN1:(nine KD[j].1 x1).length=9:=rfl;have hN2:(nine KD[j].2 x2).length=9:=rfl;rw[aZ (kF (fun x:Vd=>FewV n x.1∧FewV n x.2) hlj)] at hE;have HE:=zh hE;have HO:=zh hO;unfold Vl.val at HX1 HX2;generalize nine KD[j].1 x1=N1 at *
    generalize nine KD[j].2 x2=N2 at *
    clear hO e1 e2 r1 r2 h4 hE hcc
    go_wp2_with (refine ae tyV rfl (.tmp 105) rfl rfl N1 hN1 HC1.out ?_)
    refine HX1.out.mono ?_;rintro e w4 ⟨rfl,hb4⟩;have hO4:=HO.out.move hb4;have hcl:=Nat.lt_of_lt_of_le hcl hb4.size;have HC2:=zh (fun k u hk=>Mem.aj hO4.inn (HG2.out k u hk));have HY:=zh (HX2.out w4 hO4.inn);have HO4:=zh hO4;clear HO hO4 hb4 HC1 HG2 HX1 HX2;by_cases f1:FewV n KD[j].1
    case neg=>
     have HF:=zh (HE.out.trans (az fun h=>f1 h.1.1));rw[az f1];clear HE HY f1;go_wp2;exact hR.out _ _ ⟨by rw[HF.out] <;> rfl,HO4.out.below⟩
    rw[aI f1]
    go_wp2_with (refine ae tyV rfl (.tmp 113) rfl rfl N2 hN2 HC2.out ?_)
    refine HY.out.mono ?_;rintro e w5 ⟨rfl,hb5⟩;have HO5:=zh (HO4.out.move hb5);clear HO4 hb5 HC2 HY;by_cases f2:FewV n KD[j].2
    ·have HE2:=zh (HE.out.trans (qX ⟨f1,f2⟩));rw[aI f2];clear HE f1 f2;go_wp2;exact hY.out _ _ _ zo rfl ⟨j+1,zo,rfl,rfl,HE2.out,HO5.out⟩
    ·have HF:=zh (HE.out.trans (az fun h=>f2 h.1.2));rw[az f2];clear HE f1 f2;go_wp2;exact hR.out _ _ ⟨by rw[HF.out] <;> rfl,HO5.out.below⟩
   ·have HF:=zh (hE.trans (aI (oC (fun x:Vd=>FewV n x.1∧FewV n x.2) (l:=KD) (i:=j) zo)));have HB:=zh hO.below;clear hE hO hY;go_wp2;exact hR.out _ _ ⟨by rw[HF.out] <;> rfl,HB.out⟩
noncomputable def gD (n:Nat) (v:Vl):Bool:=decide (vcnt n v≤80)&&tf (FewV n v)
theorem fH (n:Nat) (v:Vl) (s:Sl) (m:Mem) (w:World) (hm:m.inn w) (hv:VAt m n s v) (hc:vcnt n v≤1048576) :
 Calls Tryz.prog 20 #[v.val s] w fun e w'=>e=.returned (.bool (gD n v))∧Below w.heap.size w w':=by
 have hO:=(Own.start hm).al (nine v s).toArray 33;have HC:=zh (lq n v s 80 m _ hO.inn hv hc zo zo);have HF:=zh (fun w' (h:m.inn w')=>qC n v s m w' h hv hc);have hN:(nine v s).length=9:=rfl;have HO:=zh hO;have HS:=zh (show gD n v=(decide (vcnt n v≤80)&&tf (FewV n v)) from rfl);unfold Vl.val at *
 generalize nine v s=N at *
 generalize gD n v=SB at *
 clear hO hv;have q0:=HO.out.obj.all;refine ay fun R hR=>?_
 go_enter Tryz.func20,Tryz.ntmps20
 go_wp2_with (refine ae tyV rfl (.tmp 1) rfl rfl N hN q0 ?_)
 refine HC.out.mono ?_;rintro e w1 ⟨r,rfl,hb1,hr⟩;have hsm:=hr.small;have HO1:=zh (HO.out.move hb1);have HF1:=zh (HF.out w1 HO1.out.inn);have HN1:=zh HO1.out.obj.all;clear HO HC HF hb1 hr q0;by_cases h:r≤80
 ·have hd:decide (r≤80)=true:=decide_eq_true h;have HS2:=zh (HS.out.trans (by rw[decide_eq_true (show vcnt n v≤80 by omega),Bool.true_and]));clear HS hsm
  go_wp2_with (first | refine ae tyV rfl (.tmp 1) rfl rfl N hN HN1.out ?_ | (rw[hd];refine ae tyV rfl (.tmp 1) rfl rfl N hN HN1.out ?_))
  refine HF1.out.mono ?_;rintro e w2 ⟨rfl,hb2⟩;have HB:=zh (HO1.out.move hb2).below;generalize tf (FewV n v)=ff at *
  clear HO1 HF1 hb2 HN1;go_wp2;exact hR.out _ _ ⟨by rw[HS2.out] <;> rfl,HB.out⟩
 ·have hd:decide (r≤80)=false:=decide_eq_false h;have HS2:=zh (HS.out.trans (by rw[decide_eq_false (show ¬ vcnt n v≤80 by omega),Bool.false_and]));have HB:=zh HO1.out.below;clear HS HO1 HF1 HN1 hsm;go_wp2;exact hR.out _ _ ⟨by rw[HS2.out] <;> rfl,HB.out⟩
theorem K3 (cs:List Comp) (v:List Int) (k:Nat):je (cs.take k) (v.take k)≤k:=by
 unfold je;refine Nat.le_trans List.countP_le_length ?_;simp;omega
theorem xP (c:St):(stC1 c).length=c.2.length+c.1.length:=by simp[stC1]
def hitK (c:St) (v:List Int) (k:Nat):Nat:=je ((stC1 c).take k) (v.take k)
structure StV (c:St) (v:List Int):Prop where
 len:v.length=c.2.length+c.1.length
 le:∀k,hitK c v k≤k
 all:je (stC1 c) v=hitK c v (c.2.length+c.1.length)
 rngT:∀i (h:i<c.2.length) (hv:i<v.length),-1≤v[i]∧v[i]<(c.2[i].1.length:Int)
 hitT:∀i (h:i<c.2.length) (hv:i<v.length),hitK c v (i+1)=hitK c v i+if dS c.2[i].1 v[i] then 1 else 0
 rngF:∀i (h:i<c.1.length) (hv:c.2.length+i<v.length),-1≤v[c.2.length+i]∧v[c.2.length+i]≤(c.1[i].1.1.size:Int)
 hitF:∀i (h:i<c.1.length) (hv:c.2.length+i<v.length),hitK c v (c.2.length+(i+1))=hitK c v (c.2.length+i)+if v[c.2.length+i]=(c.1[i].1.1.size:Int) then 1 else 0
theorem xq (s:ByteArray):s.data.toList.length=s.size:=Array.length_toList
theorem StV.of {c:St} {v:List Int} (h:VIn (stC1 c) v):StV c v:=by
 have hl:=h.len;have hl2:=xP c;have tT:∀i (hi:i<c.2.length) (h':i<(stC1 c).length),(stC1 c)[i]=tabC (c.2[i]).1:=fun i hi h'=>by
  simp only[stC1];rw[List.getElem_append_left (by simpa using hi)];simp
 have tF:∀i (hi:i<c.1.length) (h':c.2.length+i<(stC1 c).length),(stC1 c)[c.2.length+i]=labC (c.1[i]).1.1.data.toList:=fun i hi h'=>by
  simp only[stC1];rw[List.getElem_append_right zS];simp
 refine ⟨zo,K3 _ _,?_,fun i hi hv=>?_,fun i hi hv=>?_,fun i hi hv=>?_,fun i hi hv=>?_⟩
 ·unfold hitK;rw[← hl2,List.take_length,← hl,List.take_length]
 ·have:=h.get i zo hv;rw[tT i hi] at this;exact this
 ·have:=qj (cs:=stC1 c) (v:=v) (k:=i) zo hv;rw[tT i hi] at this;exact this
 ·have:=h.get (c.2.length+i) zo hv;rw[tF i hi] at this;have h2:(labC (c.1[i]).1.1.data.toList).n=(c.1[i]).1.1.size+1:=by show _+1=_;rw[xq]
  rw[h2] at this;omega
 ·have:=qj (cs:=stC1 c) (v:=v) (k:=c.2.length+i) zo hv;rw[tF i hi] at this;rw[← Nat.add_assoc];unfold hitK;rw[this]
  congr 1
  show (if (v[c.2.length+i]==(((c.1[i]).1.1.data.toList).length:Int))=true then 1 else 0)=_;rw[xq];simp
theorem BP (u u' va:Value) (c:St) (v:List Int) (m:Mem) (n:Nat) (w:World) (hm:m.inn w) (h1:gI (VAt m n) m u c.1) (h2:fV (VAt m n) m u' c.2) (hv:dA m va v) (hV:VIn (stC1 c) v) :
 Calls Tryz.prog 193 #[.agg #[u,u'],va] w fun e w'=>e=.returned (.int .i64 (je (stC1 c) v))∧Below w.heap.size w w':=by
 have hS:=StV.of hV;have HVL:=zh hS.len;obtain⟨a1,c1,rfl,p1,q1,k1⟩:=h1;obtain⟨a2,c2,rfl,p2,q2,k2⟩:=h2;obtain⟨a3,c3,rfl,p3,q3,k3⟩:=hv;unfold maxLen at q1 q2 q3;have HA:=zh hS.all;have HR:=zh (zi hS.rngT hS.rngF);have HH:=zh (zi hS.hitT hS.hitF);have HL:=zh hS.le;have HK:=zh (zi k1 (zi k2 k3));have HO:=zh ((Own.start hm).al #[.slice a1 c.1.length c1,.slice a2 c.2.length c2] 45);have h0:hitK c v 0=0:=by simp[hitK,je]
 clear hV hS k1 k2 k3;generalize je (stC1 c) v=VH at *
 generalize hitK c v=hk at *
 generalize c.2=KL at *
 generalize c.1=FL at *
 refine ay fun R hR=>?_
 go_enter Tryz.func193,Tryz.ntmps193
 go_wp2;refine au [1,2,5,11,12,13] (fun q vs wr=>∃(i:Nat),i≤KL.length∧q=KL.length - i∧vs=[.slice a3 v.length c3,.pointer (some ⟨w.heap.size,0,none⟩),.int .i64 (hk i:Int),.slice a2 KL.length c2,.int .i64 (KL.length:Int),.int .i64 (i:Int)] ∧
  Own w m wr m [.obj w.heap.size 45 #[.slice a1 FL.length c1,.slice a2 KL.length c2]]) ?_ ?_
 ·exact⟨_,0,Nat.zero_le _,rfl,by rw[h0];rfl,HO.out⟩
 clear HO;rintro X z q vs wr hX - ⟨i,hi,rfl,rfl,hO⟩;simp[litL,lk];have hrl:=HL.out i;have g0:=hO.obj.cell (i:=0) rfl;have g1:=hO.obj.cell (i:=1) rfl;have gl:=hO.obj.lt;by_cases hlt:i<KL.length
 ·obtain⟨b,off,rfl,h4⟩:=HK.out.2.1 (by intro h;simp[h] at hlt);obtain⟨kc,x,y,hks,hc,hx,hy⟩:=(h4 i hlt).cells;obtain⟨b3,off3,rfl,h5⟩:=HK.out.2.2 (by intro h;have:=HVL.out;rw[h] at this;simp at this;omega);have hiv:i<v.length:=by have:=HVL.out;omega
  have e1:=(h5 i hiv).1;have hcl:=Mem.av hO.inn (hc 0 _ rfl);have HC:=zh (fun j u hj=>Mem.aj hO.inn (hc j u hj));have h2:=nV hks hx hy;have hl2:(kcs KL[i] kc x y).length=19:=rfl;have H0:(kcs KL[i] kc x y).toArray[0]?=some kc:=rfl;have hrg:=HR.out.1 i hlt hiv;have HS:=zh (HH.out.1 i hlt hiv);have hacc:∀k:Nat,k<KL[i].1.length→dS KL[i].1 (k:Int)=((KL[i].1)[k]?.map (·.accept)).getD false:=fun k hk=>by rw[dF _ _ hk];simp[hk]
  have hneg:∀z:Int,z<0→dS KL[i].1 z=false:=fun z hz=>by unfold dS;rw[if_pos hz]
  have HQ:=zh (zi hacc hneg);have HO:=zh (hO.al zcK 61);obtain⟨ta,tc,rfl,t1,t2,t3⟩:=hks;unfold maxLen at t2;have HT:=zh t3;generalize kcs KL[i] _ x y=M at *
  generalize v[i]=vi at *
  generalize KL[i].1=T at *
  generalize hk i=r at *
  clear hO hx hy hc h4 h5 t3 hacc hneg
  go_wp2_with (first
   | refine ae tyK rfl (.tmp 16) rfl rfl M hl2 HC.out ?_
   | refine aH tyK rfl (.tmp 7) (.tmp 17) rfl (cs:=M.toArray) rfl rfl rfl (by simpa using hl2) (fun u hu=>h2 u hu) HO.out.obj ?_)
  intro w1 ho1 hg1;have hO1:=HO.out.setObj ho1 hg1;have gb:=ho1.cell H0;have gbl:=hO1.obj.lt;have x1:=Mem.aj hO1.inn e1;have xl:=Mem.av hO1.inn e1;have HO1:=zh hO1.tail;by_cases hpos:0≤vi
  ·obtain⟨k,rfl⟩:=Int.eq_ofNat_of_zero_le hpos;have hkt:k<T.length:=zo;obtain⟨tb,to,rfl,t4⟩:=HT.out (by intro h;rw[h] at hkt;simp at hkt);obtain⟨s1,-⟩:=t4 k hkt;have y1:=Mem.aj hO1.inn s1;have yl:=Mem.av hO1.inn s1;have ha:=HQ.out.1 k hkt;rw[List.getElem?_eq_getElem hkt] at ha;simp only[Option.map_some,Option.getD_some] at ha;rw[ha] at HS;generalize T[k].accept=acc at *
   clear hO1 HO ho1 hg1 HC e1 s1 t4 ha HQ;have hd:decide (0≤(k:Int))=true:=decide_eq_true zo;cases acc
   all_goals
    simp only[if_true,if_false,Bool.false_eq_true] at HS;go_wp2
    go_quiet (fail)
    go_wp2;exact hX.out _ _ _ zo rfl ⟨i+1,zo,rfl,by rw[HS.out] <;> rfl,HO1.out.drN _⟩
  ·have hd:decide (0≤vi)=false:=decide_eq_false hpos;have ha:=HQ.out.2 vi zo;rw[ha] at HS;simp only[if_false,Bool.false_eq_true] at HS;clear hO1 HO ho1 hg1 HC e1 ha HQ;go_wp2
   go_quiet (fail)
   go_wp2;exact hX.out _ _ _ zo rfl ⟨i+1,zo,rfl,by rw[HS.out] <;> rfl,HO1.out.drN _⟩
 ·obtain rfl:i=KL.length:=zo;have HO:=zh hO;clear hO hX;go_wp2;refine au [1,2,5,39,40,41] (fun q vs wr=>∃(i:Nat),i≤FL.length∧q=FL.length - i∧vs=[.slice a3 v.length c3,.pointer (some ⟨w.heap.size,0,none⟩),.int .i64 (hk (KL.length+i):Int),.slice a1 FL.length c1,.int .i64 (FL.length:Int),.int .i64 (i:Int)] ∧
   Own w m wr m [.obj w.heap.size 45 #[.slice a1 FL.length c1,.slice a2 KL.length c2]]) ?_ ?_
  ·exact⟨_,0,Nat.zero_le _,rfl,rfl,HO.out⟩
  clear HO g0 g1 gl hrl;rintro X z q vs wr hX - ⟨i,hi,rfl,rfl,hO⟩;simp[litL,lk];have hrl:=HL.out (KL.length+i);have g0:=hO.obj.cell (i:=0) rfl;have g1:=hO.obj.cell (i:=1) rfl;have gl:=hO.obj.lt;by_cases hlt:i<FL.length
  ·obtain⟨b,off,rfl,h4⟩:=HK.out.1 (by intro h;simp[h] at hlt);obtain⟨x,y,hc,hx,hy⟩:=(h4 i hlt).cells;obtain⟨b3,off3,rfl,h5⟩:=HK.out.2.2 (by intro h;have:=HVL.out;rw[h] at this;simp at this;omega);have hiv:KL.length+i<v.length:=by have:=HVL.out;omega
   have e1:=(h5 (KL.length+i) hiv).1;have hcl:=Mem.av hO.inn (hc 0 _ rfl);have HC:=zh (fun j u hj=>Mem.aj hO.inn (hc j u hj));have h2:=nZ hx hy;have hl2:(fcs FL[i] x y).length=20:=rfl;have H0:(fcs FL[i] x y).toArray[0]?=some (.string FL[i].1.1):=rfl;have hrg:=HR.out.2 i hlt hiv;have hsz:=(h4 i hlt).sz;have HS:=zh (HH.out.2 i hlt hiv);have HO:=zh (hO.al zcF 58);unfold maxLen at hsz;generalize fcs FL[i] x y=M at *
   generalize v[KL.length+i]=vi at *
   generalize FL[i].1.1=lab at *
   generalize hk (KL.length+i)=r at *
   clear hO hx hy hc h4 h5
   go_wp2_with (first
    | refine ae tyF rfl (.tmp 44) rfl rfl M hl2 HC.out ?_
    | refine aH tyF rfl (.tmp 9) (.tmp 45) rfl (cs:=M.toArray) rfl rfl rfl (by simpa using hl2) (fun u hu=>h2 u hu) HO.out.obj ?_)
   intro w1 ho1 hg1;have hO1:=HO.out.setObj ho1 hg1;have g0:=hO1.swap.obj.cell (i:=0) rfl;have g1:=hO1.swap.obj.cell (i:=1) rfl;have gl:=hO1.swap.obj.lt;have gb:=ho1.cell H0;have gbl:=hO1.obj.lt;have x1:=Mem.aj hO1.inn e1;have xl:=Mem.av hO1.inn e1;have HO1:=zh hO1.tail;clear hO1 HO ho1 hg1 HC e1;by_cases he:vi=(lab.size:Int)
   ·have hd:(vi==(lab.size:Int))=true:=beq_iff_eq.2 he;rw[if_pos he] at HS;clear he;go_wp2
    go_quiet (fail)
    go_wp2;exact hX.out _ _ _ zo rfl ⟨i+1,zo,rfl,by rw[HS.out] <;> rfl,HO1.out.drN _⟩
   ·have hd:(vi==(lab.size:Int))=false:=beq_eq_false_iff_ne.2 he;rw[if_neg he] at HS;clear he;go_wp2
    go_quiet (fail)
    go_wp2;exact hX.out _ _ _ zo rfl ⟨i+1,zo,rfl,by rw[HS.out] <;> rfl,HO1.out.drN _⟩
  ·obtain rfl:i=FL.length:=zo;have HB:=zh hO.below;clear hO hX;go_wp2;exact hR.out _ _ ⟨by rw[HA.out] <;> rfl,HB.out⟩
attribute [local go_sem] Oper.semAt_some
def nz (mk:Mem) (v:Value) (u:List UInt8):Prop:=
 (u=[]∧v=.slice none 0 0)∨(u≠[]∧∃g c,v=.slice (some ⟨g,0,none⟩) u.length c∧u.length≤c∧c≤maxLen∧∀i,(h:i<u.length)→mk.cell g i=some (.int .u8 (u[i]).toNat))
theorem nz.le {mk mk':Mem} {v:Value} {u:List UInt8} (h:nz mk v u) (hl:mk.le mk'):nz mk' v u:=by
 rcases h with h | ⟨h1,g,c,h2,h3,h4,h5⟩
 ·exact .inl h
 ·exact .inr ⟨h1,g,c,h2,h3,h4,fun i hi=>Mem.aA hl (h5 i hi)⟩
theorem strOfNums_bytes (u:List UInt8):strOfNums (u.map fun b=>(b.toNat:Int))=⟨u.toArray⟩:=by
 unfold strOfNums
 congr 1
 rw[List.map_map]
 congr 1
 conv=>rhs;rw[← List.map_id u]
 apply List.map_congr_left;intro b _;simp
theorem tK {mk:Mem} {w:World} {v:Value} {u:List UInt8} (h:nz mk v u) (hm:mk.inn w):(convert 185 9 v).run Tryz.prog w=.ok (.string ⟨u.toArray⟩) w:=by
 rcases h with ⟨rfl,rfl⟩ | ⟨h1,g,c,rfl,h3,h4,h5⟩
 ·exact run_convert_bytes_nil w 185 5 Tryz.underlying185 Tryz.underlying5 0 0 _ Tryz.underlying9
 ·have:=run_convert_bytes_arg w 185 5 Tryz.underlying185 Tryz.underlying5 g 0 u.length c (u.map fun b=>(b.toNat:Int)) zS (fun i hi=>by
   rw[Nat.zero_add,Mem.aj hm (h5 i hi)];simp[List.getD,hi]) _ Tryz.underlying9
  rw[this,strOfNums_bytes]
structure BF (T:Table) (l:Nat) (w0:World) (m mk0:Mem) (B Bx:List (List UInt8)→List Item→Prop) (Lr:List Item) (gy ga gt gv tb ntab ctab:Nat) (va:Value):Prop where
 yield:uV Tryz.prog l (fun x:List UInt8=>#[Value.string ⟨x.toArray⟩]) w0 m mk0 B Bx
 cy:mk0.cell gy 0=some (.func (.yield l) #[] #[])
 ca:mk0.cell ga 0=some va
 ct:mk0.cell gt 0=some (.slice (some ⟨tb,0,none⟩) ntab ctab)
 cv:mk0.cell gv 0=some (.func (.func 252) #[] #[.pointer (some ⟨gy,0,none⟩),.pointer (some ⟨ga,0,none⟩),.pointer (some ⟨gt,0,none⟩),.pointer (some ⟨gv,0,none⟩)])
 tab:aR mk0 va T
 rows:∀W mk Lt,Own w0 m W mk (Lt ++ Lr)→∀i,i<ntab→∃u,W.cell? ⟨tb,i,none⟩=some u∧fP mk0 u (canN T i)
 ntab:ntab≤maxLen
def KN (w0:World) (m mk:Mem) (B Bx:List (List UInt8)→List Item→Prop) (Lr:List Item) (pre ws:List (List UInt8)) (e:Ending) (W':World):Prop:=
 (e=.returned (.bool true)∧∃mk' Lt,B (pre ++ ws) Lt∧Own w0 m W' mk' (Lt ++ Lr)∧mk.le mk') ∨
 (e=.returned (.bool false)∧∃q mk' Lt,q≠[]∧q <+: ws∧Bx (pre ++ q) Lt∧Own w0 m W' mk' (Lt ++ Lr)∧mk.le mk')
theorem Fw {T:Table} {l:Nat} {w0:World} {m mk0:Mem} {B Bx:List (List UInt8)→List Item→Prop} {Lr:List Item} {gy ga gt gv tb ntab ctab:Nat} {va:Value} (hE:BF T l w0 m mk0 B Bx Lr gy ga gt gv tb ntab ctab va)
 (s:Nat) (u:List UInt8) (vp:Value) (pre:List (List UInt8)) (mk:Mem) (W:World) (Lt:List Item) (hle:mk0.le mk) (hp:nz mk vp u) (hB:B pre Lt) (hO:Own w0 m W mk (Lt ++ Lr)) :
 Calls Tryz.prog 252 #[.int .i64 s,.int .i64 0,vp,.pointer (some ⟨gy,0,none⟩),.pointer (some ⟨ga,0,none⟩),.pointer (some ⟨gt,0,none⟩),.pointer (some ⟨gv,0,none⟩)] W (KN w0 m mk B Bx Lr pre [u]):=by
 have hcy:=Mem.aj hO.inn (Mem.aA hle hE.cy);have hcyl:=Mem.av hO.inn (Mem.aA hle hE.cy);have hcv:=tK hp hO.inn;obtain⟨fn,tmps,assign,body,hy,hR⟩:=hE.yield pre u W mk Lt Lr hB hO hle;refine ay fun R hR'=>?_;clear hO hB hp hE hle
 go_enter Tryz.func252,Tryz.ntmps252
 refine (wpIn_wide (n:=0)).1 ?_
 gi_wp2
 refine ⟨rfl,hR.mono ?_⟩;rintro e W' (⟨rfl,mk',Lt',h1,h2,h3⟩ | ⟨rfl,mk',Lt',h1,h2,h3⟩)
 ·have Hk:=zh (zi h1 (zi h2 h3));clear h1 h2 h3
  gi_wp2
  exact hR'.out _ _ (.inl ⟨rfl,mk',Lt',Hk.out.1,Hk.out.2.1,Hk.out.2.2⟩)
 ·have Hk:=zh (zi h1 (zi h2 h3));clear h1 h2 h3
  gi_wp2
  exact hR'.out _ _ (.inr ⟨rfl,[u],mk',Lt',zS,List.prefix_refl _,Hk.out.1,Hk.out.2.1,Hk.out.2.2⟩)
theorem Ng:eT Tryz.prog 185 5 1 1:=⟨Tryz.underlying185,zo,by
 obtain⟨i,h1,h2,h3,h4⟩:=info_parts (P:=Tryz.prog) (e:=5) (z:=.int .u8 0) (size:=1) (bytes:=1) zk;exact⟨i,_,h1,h2,h3,h4,rfl⟩⟩
def cutV (v:Value) (u:List UInt8):Value:=match v with
 | .slice a _ _=>.slice a u.length u.length
 | v=>v
theorem oV {w0 w:World} {m mk:Mem} {L:List Cl.Item} {v:Value} {u:List UInt8} {c:Nat} (h:nz mk v u) (hc:c<256) (hO:Own w0 m w mk L) (ga:Nat) (hga:w.cell? ⟨ga,0,none⟩=some (.int .u8 c)) (hu:u.length≤1000000) :
 ∃v' w' mk',(Builtin.append_ #[185,185] 185 #[cutV v u,.slice (some ⟨ga,0,none⟩) 1 1]).run Tryz.prog w=.ok v' w'∧Own w0 m w' mk' L∧mk.le mk'∧nz mk' v' (u ++ [UInt8.ofNat c]):=by
 have hnews:∀j x,[Value.int .u8 c][j]?=some x→w.cell? ((⟨ga,0,none⟩:Addr).add j)=some x:=by
  intro j x hj;rw[Addr.add_lit,Nat.zero_add]
  cases j with
  | zero=>simp at hj;rw[← hj];exact hga
  | succ j=>simp at hj
 have hof:((UInt8.ofNat c).toNat:Int)=(c:Int):=by
  rw[UInt8.toNat_ofNat'];omega
 rcases h with ⟨rfl,rfl⟩ | ⟨hne,g,cc,rfl,h3,h4,h5⟩
 ·have hO1:=hO.dI 5 1;obtain⟨v',w',hr,hown,hg,hrow⟩:=jq Ng w 185 (.slice none 0 0) 0 [] hO1.row ⟨ga,0,none⟩ 1 1 [.int .u8 c] rfl hnews (by simp[Value.oneCell']) (by simp[maxLen]) zS;have hO2:=hO1.app hown hg hrow (Nat.le_refl _);obtain⟨va,vc,rfl⟩:=aQ hO2.row;obtain⟨gb,rfl⟩:=iJ hO2.row zo;refine ⟨_,w',mk.addv w' (.slice (some ⟨gb,0,none⟩) (0+1) vc),hr,hO2.bg,Mem.dh hO2.free,.inr ⟨zS,gb,vc,rfl,?_,?_,fun i hi=>?_⟩⟩
  ·rcases hO2.row.2 with ⟨h,-⟩ | ⟨g',cap,cur,h,-,-,hnc,-⟩
   ·cases h
   ·injection h with h1 h2 h3;subst h3;simpa using hnc
  ·rcases hO2.row.2 with ⟨h,-⟩ | ⟨g',cap,cur,h,-,-,-,hcm,-⟩
   ·cases h
   ·injection h with h1 h2 h3;subst h3;exact hcm
  ·obtain rfl:i=0:=by simp at hi;exact hi
   have:=eQ hO2.row (g:=gb) rfl mk (j:=0) (u:=.int .u8 c) rfl;rw[this];simp only[List.nil_append,List.getElem_cons_zero];rw[hof]
 ·obtain⟨i,hi,hz,hs,hb⟩:=info_parts (P:=Tryz.prog) (e:=5) (z:=.int .u8 0) (size:=1) (bytes:=1) zk;have holds:∀j x,(u.map fun b=>Value.int .u8 b.toNat)[j]?=some x→w.cell? ((⟨g,0,none⟩:Addr).add j)=some x:=by
   intro j x hj;rw[Addr.add_lit,Nat.zero_add];have hjl:j<u.length:=by
    have:=(List.getElem?_eq_some_iff.1 hj).1;simpa using this
   rw[Mem.aj hO.inn (h5 j hjl)];simp[hjl] at hj;rw[← hj]
  have hr:=run_append_grow (P:=Tryz.prog) (w:=w) 185 185 5 i (.int .u8 0) Tryz.underlying185 hi hz ⟨g,0,none⟩ u.length u.length (u.map fun b=>Value.int .u8 b.toNat) (by simp[hs]) holds ⟨ga,0,none⟩ 1 1 [.int .u8 c] (by simp[hs]) hnews zo zo (growslice_fits zo (by rw[hb];omega));have hO1:=hO.dr.al ((u.map fun b=>Value.int .u8 b.toNat).toArray ++ [Value.int .u8 c].toArray ++ Builtin.zeroCells (Value.int .u8 0).cells (grownCap w (u.length+1) u.length 5 - (u.length+1))) 5;have hO2:=hO1.fZ;refine ⟨_,_,mk.add _ w.heap.size,hr,hO2,Mem.gZ hO1.gq,.inr ⟨zS,w.heap.size,grownCap w (u.length+1) u.length 5,?_,?_,?_,fun j hj=>?_⟩⟩
  ·simp
  ·simpa using grownCap_ge w _ _ _
  ·exact grownCap_le_maxLen w _ _ _ (by unfold maxLen;omega)
  ·refine Mem.dw hO1.obj ?_;simp only[List.length_append,List.length_cons,List.length_nil] at hj;by_cases hju:j<u.length
   ·rw[Array.getElem?_append_left (by simp;omega),Array.getElem?_append_left (by simpa using hju)];simp[hju,List.getElem_append_left hju]
   ·obtain rfl:j=u.length:=zo;rw[Array.getElem?_append_left zS,Array.getElem?_append_right zS];simp;rw[← hof];simp
theorem wp_append_run {P:Program} {w w':World} {o:Oper} {a:Act} {K:Act→World→Prop} {Q:Exit→Act→World→Prop} (s x:Operand) (t:TypeId)
 (ho:o.op=.call { callee:=.builtin .append,args:=#[s,x],argTypes:=#[t,t] }) {v v2 v':Value} (hs:a.eval s=v) (hx:a.eval x=v2)
 (hr:(Builtin.append_ #[t,t] o.type #[v,v2]).run P w=.ok v' w') (h:K (a.put o.dst v') w'):o.wp P a w K Q:=by
 unfold Oper.wp execOp;simp only[ho,resolve,invoke,builtin,Sem.run_bind,Sem.run_pure,Result.andThen_ok,List.map_toArray,List.map_cons,List.map_nil,hs,hx,hr];exact h
def MF (T:Table) (w0:World) (m mk0:Mem) (B Bx:List (List UInt8)→List Item→Prop) (Lr:List Item) (gy ga gt gv n:Nat):Prop:=
 ∀(s:Nat) (u:List UInt8) (vp:Value) (pre:List (List UInt8)) (mk:Mem) (W:World) (Lt:List Item),s<T.length→wex T n s≠[]→u.length+n≤1000000→mk0.le mk→nz mk vp u→B pre Lt→Own w0 m W mk (Lt ++ Lr) →
  Calls Tryz.prog 252 #[.int .i64 s,.int .i64 n,vp,.pointer (some ⟨gy,0,none⟩),.pointer (some ⟨ga,0,none⟩),.pointer (some ⟨gt,0,none⟩),.pointer (some ⟨gv,0,none⟩)] W (KN w0 m mk B Bx Lr pre ((wex T n s).map (u ++ ·)))
theorem Fu {T:Table} {l:Nat} {w0:World} {m mk0:Mem} {B Bx:List (List UInt8)→List Item→Prop} {Lr:List Item} {gy ga gt gv tb ntab ctab:Nat} {va:Value} (hE:BF T l w0 m mk0 B Bx Lr gy ga gt gv tb ntab ctab va) :
 MF T w0 m mk0 B Bx Lr gy ga gt gv 0:=by
 intro s u vp pre mk W Lt hs hne _ hle hp hB hO;have:wex T 0 (s:Int)=[[]]:=by
  unfold wex at hne ⊢
  split
  ·rfl
  ·rename_i h;rw[if_neg h] at hne;exact absurd rfl hne
 rw[this];simpa using Fw hE s u vp pre mk W Lt hle hp hB hO
def vG (T:Table) (n:Nat) (u:List UInt8) (es:List Ed) (i:Nat) (e:Ed) (b:Nat):List (List UInt8):=(esW T n (es.take i) ++ edW T n e.to e.lo (b - e.lo)).map (u ++ ·)
theorem Hl (T:Table) (n:Nat) (u:List UInt8) (es:List Ed) (i:Nat) (e:Ed) (b:Nat) (h:e.lo≤b) :
 vG T n u es i e (b+1)=vG T n u es i e b ++ (wex T n e.to).map ((u ++ [UInt8.ofNat b]) ++ ·):=by
 unfold vG;rw[show b+1 - e.lo=(b - e.lo)+1 by omega,Mk,← List.append_assoc,List.map_append,show e.lo+(b - e.lo)=b by omega]
 congr 1
 unfold yG;rw[List.map_map];apply List.map_congr_left;intro x _;simp
theorem Kt {T:Table} {n:Nat} {u:List UInt8} {es:List Ed} {i:Nat} (h:i<es.length) {b:Nat} (h2:b≤(es[i]).hi):vG T n u es i es[i] (b+1) <+: (esW T n es).map (u ++ ·):=by
 unfold vG;have h1:esW T n (es.take i) ++ edW T n (es[i]).to (es[i]).lo (b+1 - (es[i]).lo) <+: esW T n es:=by
  have a1:edW T n (es[i]).to (es[i]).lo (b+1 - (es[i]).lo) <+: edW T n (es[i]).to (es[i]).lo ((es[i]).hi+1 - (es[i]).lo):=by
   unfold edW;have:=List.range'_append_1 (s:=(es[i]).lo) (m:=b+1 - (es[i]).lo) (n:=((es[i]).hi+1 - (es[i]).lo) - (b+1 - (es[i]).lo));rw[show (b+1 - (es[i]).lo)+(((es[i]).hi+1 - (es[i]).lo) - (b+1 - (es[i]).lo))=(es[i]).hi+1 - (es[i]).lo by omega] at this;rw[← this,List.flatMap_append];exact List.prefix_append _ _
  have a2:esW T n (es.take (i+1)) <+: esW T n es:=by
   unfold esW
   conv=>rhs;rw[← List.take_append_drop (i+1) es,List.flatMap_append]
   exact List.prefix_append _ _
  rw[EQ T n es h] at a2;exact ((List.prefix_append_right_inj _).2 a1).trans a2
 exact h1.map _
theorem Hm {T:Table} {n:Nat} {u:List UInt8} {es:List Ed} {i:Nat} (h:i<es.length) {b:Nat} (hx:b=(es[i]).hi+1∨wex T n (es[i]).to=[]):vG T n u es i es[i] b=(esW T n (es.take (i+1))).map (u ++ ·):=by
 unfold vG;rw[EQ T n es h];rcases hx with rfl | hx
 ·rfl
 ·rw[Du hx,Du hx]
theorem Fv {T:Table} {l:Nat} {w0:World} {m mk0:Mem} {B Bx:List (List UInt8)→List Item→Prop} {Lr:List Item} {gy ga gt gv tb ntab ctab:Nat} {va:Value} (hE:BF T l w0 m mk0 B Bx Lr gy ga gt gv tb ntab ctab va)
 (hwf:WF T) (hby:Bytes T) (n:Nat) (hn:n<ntab) (ih:MF T w0 m mk0 B Bx Lr gy ga gt gv n):MF T w0 m mk0 B Bx Lr gy ga gt gv (n+1):=by
 intro s u vp pre mk W Lt hs _ hun hle hp hB hO;have hE0:=hE;have hm0:=Mem.cz hle hO.inn;have ha:=Mem.aj hm0 hE.ca;have hal:=Mem.av hm0 hE.ca;obtain⟨aa,ac,rfl,a1,a2,a3⟩:=hE.tab;obtain⟨ab,ao,rfl,a4⟩:=a3 (by intro h;simp[h] at hs);obtain⟨-,ve,s2,ea,ec,rfl,g4,g5,g6⟩:=a4 s hs;have s2w:=Mem.aj hm0 s2;have s2l:=Mem.av hm0 s2;have Hex:=zh (Ir hwf hby hs n);have hwfs:=hwf T[s] (List.getElem_mem hs);have hbys:=hby T[s] (List.getElem_mem hs);generalize T[s].edges=es at *
 have HW:=zh (zi hwfs hbys);have HE:=zh hE0;have HIH:=zh ih;have HO:=zh (zi hO hB);have Hle:=zh hle;have Hp:=zh hp;unfold maxLen at a2 g5;have hdec:((n:Int)+1==0)=false:=beq_eq_false_iff_ne.2 zo;rw[Hex.out];refine ay fun R hR=>?_;clear hE hE0 ih hO hB hle a3 a4 hwfs hbys hm0 s2 hp hwf hby;rw[show ((n+1:Nat):Int)=(n:Int)+1 by omega]
 go_enter Tryz.func252,Tryz.ntmps252
 go_wp2;refine au [0,1,2,3,4,5,6,25,26,27] (fun q vs W1=>∃(i:Nat) (mk1:Mem) (Lt1:List Item),i≤es.length∧q=es.length - i ∧
  vs=[.int .i64 s,.int .i64 ((n:Int)+1),vp,.pointer (some ⟨gy,0,none⟩),.pointer (some ⟨ga,0,none⟩),.pointer (some ⟨gt,0,none⟩),.pointer (some ⟨gv,0,none⟩),.slice ea es.length ec,.int .i64 es.length,.int .i64 i] ∧
  mk.le mk1∧B (pre ++ (esW T n (es.take i)).map (u ++ ·)) Lt1∧Own w0 m W1 mk1 (Lt1 ++ Lr)) ?_ ?_
 ·exact⟨_,0,mk,Lt,Nat.zero_le _,rfl,rfl,Mem.le_refl _,by simpa [esW] using HO.out.2,HO.out.1⟩
 clear HO s2w s2l ha hal;rintro X z q vs W1 hX - ⟨i,mk1,Lt1,hi,rfl,rfl,hle1,hB1,hO1⟩;simp[litL,lk];have hm1:=Mem.cz (Mem.le_trans Hle.out hle1) hO1.inn;by_cases hlt:i<es.length
 ·obtain⟨eb,eo,rfl,g7⟩:=g6 (by intro h;simp[h] at hlt);obtain⟨e1,e2,e3,e4,e5,e6⟩:=g7 i hlt;have e1w:=Mem.aj hm1 e1;have e2w:=Mem.aj hm1 e2;have e3w:=Mem.aj hm1 e3;have el:=Mem.av hm1 e1;have hlh:=dD HW.out.1 es[i] (List.getElem_mem hlt);have HDp:=zh (fun b (hb:b≤(es[i]).hi)=>Kt (T:=T) (n:=n) (u:=u) hlt hb);have HDl:=zh (fun b (hx:b=(es[i]).hi+1∨wex T n (es[i]).to=[])=>Hm (T:=T) (n:=n) (u:=u) hlt (b:=b) hx);have HDn:=zh (fun b (hb:(es[i]).lo≤b)=>Hl T n u es i es[i] b hb);have hD0:vG T n u es i es[i] (es[i]).lo=(esW T n (es.take i)).map (u ++ ·):=by
   unfold vG;rw[Nat.sub_self,Mj,List.append_nil]
  rw[← hD0] at hB1;clear hD0;generalize es[i]=e at *
  generalize hDD:vG T n u es i e=DD at *
  clear hDD;have hO2:=(hO1.al #[.int .u8 e.lo,.int .u8 e.hi,.int .i64 e.to] 104);have hO3:=hO2.fZ;have hle2:=Mem.le_trans hle1 (Mem.gZ (w:=W1.alloc (.cells #[.int .u8 e.lo,.int .u8 e.hi,.int .i64 e.to] 104)) hO2.gq);have x1:=Mem.dw (m:=mk1) hO2.obj (i:=0) rfl;have x2:=Mem.dw (m:=mk1) hO2.obj (i:=1) rfl;have x3:=Mem.dw (m:=mk1) hO2.obj (i:=2) rfl;have Hk:=zh (zi hO3 (zi hle2 hB1));obtain⟨t,ht⟩:=Int.eq_ofNat_of_zero_le hlh.2.1;have htl:t<T.length:=zo;have Ht:=zh ht;clear hO2 hO3 hO1 hB1 hle2 ht hm1;go_wp2;generalize W1.heap.size=E at *
  generalize mk1.add (W1.alloc (.cells #[.int .u8 e.lo,.int .u8 e.hi,.int .i64 e.to] 104)) E=mk2 at *
  refine au [0,1,2,3,4,5,6,12,13,25,26,27] (fun q vs W2=>∃(b:Nat) (mk3:Mem) (Lt3:List Item),e.lo≤b∧b≤e.hi+1∧q=e.hi+1 - b ∧
   vs=[.int .i64 s,.int .i64 ((n:Int)+1),vp,.pointer (some ⟨gy,0,none⟩),.pointer (some ⟨ga,0,none⟩),.pointer (some ⟨gt,0,none⟩),.pointer (some ⟨gv,0,none⟩),.pointer (some ⟨E,0,none⟩),.int .i64 b,.slice (some ⟨eb,eo,none⟩) es.length ec,.int .i64 es.length,.int .i64 i] ∧
   mk2.le mk3∧B (pre ++ DD b) Lt3∧Own w0 m W2 mk3 (Lt3 ++ Lr)) ?_ ?_
  ·exact⟨_,e.lo,mk2,Lt1,Nat.le_refl _,zo,rfl,rfl,Mem.le_refl _,Hk.out.2.2,Hk.out.1⟩
  clear e1w e2w e3w el;rintro Y z2 q vs W2 hY - ⟨b,mk3,Lt3,hb1,hb2,rfl,rfl,hle3,hB3,hO3⟩;simp[litL,lk];have hm3:=hO3.inn;have y1:=Mem.aj hm3 (Mem.aA hle3 x1);have y2:=Mem.aj hm3 (Mem.aA hle3 x2);have y3:=Mem.aj hm3 (Mem.aA hle3 x3);simp only[List.getElem_toArray,List.getElem_cons_succ,List.getElem_cons_zero] at y3;rw[Ht.out] at y3;have yl:=Mem.av hm3 (Mem.aA hle3 x1);have hle03:=Mem.le_trans (Mem.le_trans Hle.out Hk.out.2.1) hle3;have hct:=Mem.aj hm3 (Mem.aA hle03 HE.out.ct);have hctl:=Mem.av hm3 (Mem.aA hle03 HE.out.ct);obtain⟨ur,hur,ra,rc,rfl,r2,r3,r4⟩:=HE.out.rows _ _ _ hO3 n hn;have hcl:=pV T n;obtain⟨rb,ro,rfl,r5⟩:=r4 (by intro h;rw[h] at hcl;simp at hcl;omega);have hcn:t<(canN T n).length:=zo;have z1:=r5 t hcn;have z1w:=Mem.aj hm3 (Mem.aA hle03 z1);have z1l:=Mem.av hm3 (Mem.aA hle03 z1);have hurl:tb<W2.heap.size:=by
   simp only[World.cell?] at hur
   split at hur
   ·rename_i hb;exact (Array.getElem?_eq_some_iff.1 hb).1
   ·cases hur
  have hcv:(canN T n)[t]=true↔wex T n (t:Int)≠[]:=by
   have h1:=sD T n htl;rw[List.getElem?_eq_getElem hcn] at h1;rw[Option.some.inj h1];simp
  have Hcv:=zh hcv;obtain⟨cb,hcb⟩:∃cb,(canN T n)[t]=cb:=⟨_,rfl⟩;rw[hcb] at z1w;have Hcb:=zh hcb;have hw1:IntKind.i64.wrap ((n:Int)+1 - 1)=(n:Int):=by rw[IntWalk.i64_in _ zo];omega
  have hcl2:T.length≤(canN T n).length:=zo;have Hst:=zh (zi hB3 (zi hO3 (zi hle3 hle03)));have hnt:=HE.out.ntab;unfold maxLen at r3 hnt;generalize canN T n=cl at *
  clear hcl hcv hcb z1 r4 r5 hB3 hO3 hle03;go_wp2;refine aN [0,1,2,3,4,5,6,12,13,25,26,27,49] (fun vs w'=>∃(bb:Bool) (nq:Nat),vs=[.int .i64 s,.int .i64 ((n:Int)+1),vp,.pointer (some ⟨gy,0,none⟩),.pointer (some ⟨ga,0,none⟩),.pointer (some ⟨gt,0,none⟩),.pointer (some ⟨gv,0,none⟩),.pointer (some ⟨E,0,none⟩),.int .i64 b,.slice (some ⟨eb,eo,none⟩) es.length ec,.int .i64 es.length,.int .i64 i,.bool bb] ∧
   w'=W2.drewN nq∧(bb=true→b≤e.hi∧wex T n (t:Int)≠[])∧(bb=false→b=e.hi+1∨wex T n (t:Int)=[])) ?_ ?_
  ·intro V hV;by_cases hbh:b≤e.hi
   ·have hdb:decide ((b:Int)≤(e.hi:Int))=true:=decide_eq_true zo;refine wp_region_quiet_lit zk zk ?_
    repeat (any_goals (first | go_big_quiet_step (fail) | quiet_step (fail) | (refine wpQuiet_step (fun K hK=>?_);go_simp;split <;> (refine hK _ ?_;clear hK K))))
    all_goals (refine wpQuiet_nil ?_;intro _ hw';obtain⟨nq,hw''⟩:=hw';subst hw'')
    all_goals go_wp2
    all_goals
     refine hV.out _ _ rfl ⟨cb,nq,rfl,rfl,fun h=>⟨hbh,Hcv.out.1 (Hcb.out.trans h)⟩,fun h=>.inr (Classical.byContradiction fun hx=>?_)⟩;have:=Hcv.out.2 hx;rw[Hcb.out,h] at this;cases this
   ·have hdb:decide ((b:Int)≤(e.hi:Int))=false:=decide_eq_false zo;refine wp_region_quiet_lit zk zk ?_
    repeat (any_goals (first | go_big_quiet_step (fail) | quiet_step (fail) | (refine wpQuiet_step (fun K hK=>?_);go_simp;split <;> (refine hK _ ?_;clear hK K))))
    all_goals (refine wpQuiet_nil ?_;intro _ hw';obtain⟨nq,hw''⟩:=hw';subst hw'')
    all_goals go_wp2
    all_goals exact hV.out _ _ rfl ⟨false,nq,rfl,rfl,(fun h=>by cases h),fun _=>.inl zo⟩
  rintro z3 vs w3 - ⟨bb,nq,rfl,rfl,hbt,hbf⟩;simp[litL,lk]
  cases bb with
  | false=>
   have Hbf:=zh (hbf rfl);clear hbt hbf;go_wp2;refine hX.out _ _ _ zo rfl ⟨i+1,mk3,Lt3,zo,rfl,rfl,Mem.le_trans Hk.out.2.1 Hst.out.2.2.1,?_,Hst.out.2.1.drN nq⟩;rw[← HDl.out b (by rw[Ht.out];exact Hbf.out)]
   exact Hst.out.1
  | true=>
   have Hbt:=zh (hbt rfl);clear hbt hbf;go_wp2;refine aN [0,1,2,3,4,5,6,12,13,25,26,27,68] (fun vs w'=>∃(bb:Bool) (mk4:Mem) (Lt4:List Item),vs=[.int .i64 s,.int .i64 ((n:Int)+1),vp,.pointer (some ⟨gy,0,none⟩),.pointer (some ⟨ga,0,none⟩),.pointer (some ⟨gt,0,none⟩),.pointer (some ⟨gv,0,none⟩),.pointer (some ⟨E,0,none⟩),.int .i64 b,.slice (some ⟨eb,eo,none⟩) es.length ec,.int .i64 es.length,.int .i64 i,.bool bb] ∧
    mk3.le mk4∧Own w0 m w' mk4 (Lt4 ++ Lr)∧(bb=false→B (pre ++ DD (b+1)) Lt4)∧(bb=true→∃qq,qq≠[]∧qq <+: (wex T n e.to).map ((u ++ [UInt8.ofNat b]) ++ ·)∧Bx ((pre ++ DD b) ++ qq) Lt4)) ?_ ?_
   ·intro V hV;have hpp:=Hp.out.le (Mem.le_trans Hk.out.2.1 Hst.out.2.2.1);obtain⟨hbh,hne⟩:=Hbt.out;have hwu:IntKind.u8.wrap (b:Int)=(b:Int):=IntWalk.u8_in _ zo;have hcvf:=fun w' (h:mk3.inn w')=>Mem.aj h (Mem.aA Hst.out.2.2.2 HE.out.cv);have hx3:=fun w' (h:mk3.inn w')=>Mem.aj h (Mem.aA hle3 x3);simp only[List.getElem_toArray,List.getElem_cons_succ,List.getElem_cons_zero] at hx3;rw[Ht.out] at hx3;have hw2:IntKind.i64.wrap (n:Int)=(n:Int):=IntWalk.i64_in _ zo;have Hcvf:=zh hcvf;have Hx3:=zh hx3;clear hcvf hx3;have hul:u.length≤1000000:=zo;refine nH (fun _ w'=>mk3.inn w') zk ?_;have hO:=(Hst.out.2.1.drN nq).dr;have hS:mk3.inn (W2.drewN nq).drew:=hO.inn;have hxl:=Mem.av hS (Mem.aA hle3 x3);generalize (W2.drewN nq).drew=w4 at *
    rcases hpp with ⟨hu,hv⟩ | ⟨hu,g,c,hv,hp3,hp4,hp5⟩
    ·subst hv;have hpf:nz mk3 (.slice none 0 0) u:=.inl ⟨hu,rfl⟩;have hcut:cutV (.slice none 0 0) u=.slice none 0 0:=by simp[cutV,hu]
     clear hu;refine aY 0 rfl zk (fun _ _ _ h=>h) hS (aB rfl fun w' hS'=>by have q:=Hcvf.out _ hS';have q1:=Hx3.out _ hS';have q2:=Mem.av hS' (Mem.aA hle3 x3);have q3:=Mem.av hS' (Mem.aA Hst.out.2.2.2 HE.out.cv);go_simp;rfl) ?_;refine aY 1 rfl zk (fun _ _ _ h=>h) hS (aB rfl fun w' hS'=>by have q:=Hcvf.out _ hS';have q1:=Hx3.out _ hS';have q2:=Mem.av hS' (Mem.aA hle3 x3);have q3:=Mem.av hS' (Mem.aA Hst.out.2.2.2 HE.out.cv);go_simp;rfl) ?_;refine aY 2 rfl zk (fun _ _ _ h=>h) hS (aB rfl fun w' hS'=>by have q:=Hcvf.out _ hS';have q1:=Hx3.out _ hS';have q2:=Mem.av hS' (Mem.aA hle3 x3);have q3:=Mem.av hS' (Mem.aA Hst.out.2.2.2 HE.out.cv);go_simp;rfl) ?_;refine aY 3 rfl zk (fun _ _ _ h=>h) hS (aB rfl fun w' hS'=>by have q:=Hcvf.out _ hS';have q1:=Hx3.out _ hS';have q2:=Mem.av hS' (Mem.aA hle3 x3);have q3:=Mem.av hS' (Mem.aA Hst.out.2.2.2 HE.out.cv);go_simp;rfl) ?_;refine aY 4 rfl zk (fun _ _ _ h=>h) hS (aB rfl fun w' hS'=>by have q:=Hcvf.out _ hS';have q1:=Hx3.out _ hS';have q2:=Mem.av hS' (Mem.aA hle3 x3);have q3:=Mem.av hS' (Mem.aA Hst.out.2.2.2 HE.out.cv);go_simp;rfl) ?_;refine aY 5 rfl zk (fun _ _ _ h=>h) hS (aB rfl fun w' hS'=>by have q:=Hcvf.out _ hS';have q1:=Hx3.out _ hS';have q2:=Mem.av hS' (Mem.aA hle3 x3);have q3:=Mem.av hS' (Mem.aA Hst.out.2.2.2 HE.out.cv);go_simp;rfl) ?_;refine aY 6 rfl zk (fun _ _ _ h=>h) hS (aB rfl fun w' hS'=>by have q:=Hcvf.out _ hS';have q1:=Hx3.out _ hS';have q2:=Mem.av hS' (Mem.aA hle3 x3);have q3:=Mem.av hS' (Mem.aA Hst.out.2.2.2 HE.out.cv);go_simp;rfl) ?_;refine aY 7 rfl zk (fun _ _ _ h=>h) hS (aB rfl fun w' hS'=>by have q:=Hcvf.out _ hS';have q1:=Hx3.out _ hS';have q2:=Mem.av hS' (Mem.aA hle3 x3);have q3:=Mem.av hS' (Mem.aA Hst.out.2.2.2 HE.out.cv);go_simp;rfl) ?_;refine aY 8 rfl zk (fun _ _ _ h=>h) hS (aB rfl fun w' hS'=>by have q:=Hcvf.out _ hS';have q1:=Hx3.out _ hS';have q2:=Mem.av hS' (Mem.aA hle3 x3);have q3:=Mem.av hS' (Mem.aA Hst.out.2.2.2 HE.out.cv);go_simp;rfl) ?_;refine aY 9 rfl zk (fun _ _ _ h=>h) hS (aB rfl fun w' hS'=>by have q:=Hcvf.out _ hS';have q1:=Hx3.out _ hS';have q2:=Mem.av hS' (Mem.aA hle3 x3);have q3:=Mem.av hS' (Mem.aA Hst.out.2.2.2 HE.out.cv);go_simp;rfl) ?_;refine aY 10 rfl zk (fun _ _ _ h=>h) hS (aB rfl fun w' hS'=>by have q:=Hcvf.out _ hS';have q1:=Hx3.out _ hS';have q2:=Mem.av hS' (Mem.aA hle3 x3);have q3:=Mem.av hS' (Mem.aA Hst.out.2.2.2 HE.out.cv);go_simp;rfl) ?_;refine aY 11 rfl zk (fun _ _ _ h=>h) hS (aB rfl fun w' hS'=>by have q:=Hcvf.out _ hS';have q1:=Hx3.out _ hS';have q2:=Mem.av hS' (Mem.aA hle3 x3);have q3:=Mem.av hS' (Mem.aA Hst.out.2.2.2 HE.out.cv);go_simp;rfl) ?_;refine aY 12 rfl zk (fun _ _ _ h=>h) hS (aB rfl fun w' hS'=>by have q:=Hcvf.out _ hS';have q1:=Hx3.out _ hS';have q2:=Mem.av hS' (Mem.aA hle3 x3);have q3:=Mem.av hS' (Mem.aA Hst.out.2.2.2 HE.out.cv);go_simp;rfl) ?_;refine bA 13 zk (aO rfl rfl (aK (by go_simp;first | exact⟨rfl,rfl⟩ | rfl) ⟨.inr (hO.al #[.int .u8 b] 5).inn,?_⟩));go_simp;have hO6:=hO.al #[.int .u8 b] 5;obtain⟨v',w6,mk4,hr,hO7,hle7,hpf7⟩:=oV hpf (by omega:b<256) hO6 w4.heap.size (hO6.obj.cell (i:=0) rfl) hul;rw[hcut] at hr;refine bA 14 zk (aO rfl rfl (wp_append_run (.tmp 62) (.tmp 65) 185 rfl rfl rfl hr ⟨.inr (Mem.cz hle7 hO7.inn),?_⟩));go_simp;have hIH:=HIH.out t (u ++ [UInt8.ofNat b]) v' (pre ++ DD b) mk4 w6 Lt3 htl hne (by simp;omega) (Mem.le_trans Hst.out.2.2.2 hle7) hpf7 Hst.out.1 (hO7.perm (List.Perm.refl _)).tail;refine bA 15 zk (aO rfl rfl (fQ (by go_simp) hIH ?_));rintro e' w7 (⟨rfl,mk5,Lt5,k1,k2,k3⟩ | ⟨rfl,qq,mk5,Lt5,k0,k1,k2,k3,k4⟩)
     ·refine ⟨_,rfl,.inr (Mem.cz (Mem.le_trans hle7 k3) k2.inn),?_⟩;go_simp;refine bA 16 zk (aO rfl rfl (aK (by go_simp;first | done | exact⟨rfl,rfl⟩ | rfl) ⟨.inl rfl,?_⟩));refine fA zk ?_ _;refine hV.out _ _ rfl ⟨false,mk5,Lt5,rfl,Mem.le_trans hle7 k3,k2,fun _=>?_,fun h=>by cases h⟩;rw[HDn.out b hb1,← List.append_assoc,Ht.out];exact k1
     ·refine ⟨_,rfl,.inr (Mem.cz (Mem.le_trans hle7 k4) k3.inn),?_⟩;go_simp;refine bA 16 zk (aO rfl rfl (aK (by go_simp;first | done | exact⟨rfl,rfl⟩ | rfl) ⟨.inl rfl,?_⟩));refine fA zk ?_ _;exact hV.out _ _ rfl ⟨true,mk5,Lt5,rfl,Mem.le_trans hle7 k4,k3,(fun h=>by cases h),fun _=>⟨qq,k0,by rw[Ht.out];exact k1,k2⟩⟩
    ·subst hv;have hpf:nz mk3 (.slice (some ⟨g,0,none⟩) u.length c) u:=.inr ⟨hu,g,c,rfl,hp3,hp4,hp5⟩;have hcut:cutV (.slice (some ⟨g,0,none⟩) u.length c) u=.slice (some ⟨g,0,none⟩) u.length u.length:=rfl;have hu2:0<u.length:=List.length_pos_iff.2 hu;unfold maxLen at hp4;clear hu hp5;refine aY 0 rfl zk (fun _ _ _ h=>h) hS (aB rfl fun w' hS'=>by have q:=Hcvf.out _ hS';have q1:=Hx3.out _ hS';have q2:=Mem.av hS' (Mem.aA hle3 x3);have q3:=Mem.av hS' (Mem.aA Hst.out.2.2.2 HE.out.cv);go_simp;rfl) ?_;refine aY 1 rfl zk (fun _ _ _ h=>h) hS (aB rfl fun w' hS'=>by have q:=Hcvf.out _ hS';have q1:=Hx3.out _ hS';have q2:=Mem.av hS' (Mem.aA hle3 x3);have q3:=Mem.av hS' (Mem.aA Hst.out.2.2.2 HE.out.cv);go_simp;rfl) ?_;refine aY 2 rfl zk (fun _ _ _ h=>h) hS (aB rfl fun w' hS'=>by have q:=Hcvf.out _ hS';have q1:=Hx3.out _ hS';have q2:=Mem.av hS' (Mem.aA hle3 x3);have q3:=Mem.av hS' (Mem.aA Hst.out.2.2.2 HE.out.cv);go_simp;rfl) ?_;refine aY 3 rfl zk (fun _ _ _ h=>h) hS (aB rfl fun w' hS'=>by have q:=Hcvf.out _ hS';have q1:=Hx3.out _ hS';have q2:=Mem.av hS' (Mem.aA hle3 x3);have q3:=Mem.av hS' (Mem.aA Hst.out.2.2.2 HE.out.cv);go_simp;rfl) ?_;refine aY 4 rfl zk (fun _ _ _ h=>h) hS (aB rfl fun w' hS'=>by have q:=Hcvf.out _ hS';have q1:=Hx3.out _ hS';have q2:=Mem.av hS' (Mem.aA hle3 x3);have q3:=Mem.av hS' (Mem.aA Hst.out.2.2.2 HE.out.cv);go_simp;rfl) ?_;refine aY 5 rfl zk (fun _ _ _ h=>h) hS (aB rfl fun w' hS'=>by have q:=Hcvf.out _ hS';have q1:=Hx3.out _ hS';have q2:=Mem.av hS' (Mem.aA hle3 x3);have q3:=Mem.av hS' (Mem.aA Hst.out.2.2.2 HE.out.cv);go_simp;rfl) ?_;refine aY 6 rfl zk (fun _ _ _ h=>h) hS (aB rfl fun w' hS'=>by have q:=Hcvf.out _ hS';have q1:=Hx3.out _ hS';have q2:=Mem.av hS' (Mem.aA hle3 x3);have q3:=Mem.av hS' (Mem.aA Hst.out.2.2.2 HE.out.cv);go_simp;rfl) ?_;refine aY 7 rfl zk (fun _ _ _ h=>h) hS (aB rfl fun w' hS'=>by have q:=Hcvf.out _ hS';have q1:=Hx3.out _ hS';have q2:=Mem.av hS' (Mem.aA hle3 x3);have q3:=Mem.av hS' (Mem.aA Hst.out.2.2.2 HE.out.cv);go_simp;rfl) ?_;refine aY 8 rfl zk (fun _ _ _ h=>h) hS (aB rfl fun w' hS'=>by have q:=Hcvf.out _ hS';have q1:=Hx3.out _ hS';have q2:=Mem.av hS' (Mem.aA hle3 x3);have q3:=Mem.av hS' (Mem.aA Hst.out.2.2.2 HE.out.cv);go_simp;rfl) ?_;refine aY 9 rfl zk (fun _ _ _ h=>h) hS (aB rfl fun w' hS'=>by have q:=Hcvf.out _ hS';have q1:=Hx3.out _ hS';have q2:=Mem.av hS' (Mem.aA hle3 x3);have q3:=Mem.av hS' (Mem.aA Hst.out.2.2.2 HE.out.cv);go_simp;rfl) ?_;refine aY 10 rfl zk (fun _ _ _ h=>h) hS (aB rfl fun w' hS'=>by have q:=Hcvf.out _ hS';have q1:=Hx3.out _ hS';have q2:=Mem.av hS' (Mem.aA hle3 x3);have q3:=Mem.av hS' (Mem.aA Hst.out.2.2.2 HE.out.cv);go_simp;rfl) ?_;refine aY 11 rfl zk (fun _ _ _ h=>h) hS (aB rfl fun w' hS'=>by have q:=Hcvf.out _ hS';have q1:=Hx3.out _ hS';have q2:=Mem.av hS' (Mem.aA hle3 x3);have q3:=Mem.av hS' (Mem.aA Hst.out.2.2.2 HE.out.cv);go_simp;rfl) ?_;refine aY 12 rfl zk (fun _ _ _ h=>h) hS (aB rfl fun w' hS'=>by have q:=Hcvf.out _ hS';have q1:=Hx3.out _ hS';have q2:=Mem.av hS' (Mem.aA hle3 x3);have q3:=Mem.av hS' (Mem.aA Hst.out.2.2.2 HE.out.cv);go_simp;rfl) ?_;refine bA 13 zk (aO rfl rfl (aK (by go_simp;first | exact⟨rfl,rfl⟩ | rfl) ⟨.inr (hO.al #[.int .u8 b] 5).inn,?_⟩));go_simp;have hO6:=hO.al #[.int .u8 b] 5;obtain⟨v',w6,mk4,hr,hO7,hle7,hpf7⟩:=oV hpf (by omega:b<256) hO6 w4.heap.size (hO6.obj.cell (i:=0) rfl) hul;rw[hcut] at hr;refine bA 14 zk (aO rfl rfl (wp_append_run (.tmp 62) (.tmp 65) 185 rfl rfl rfl hr ⟨.inr (Mem.cz hle7 hO7.inn),?_⟩));go_simp;have hIH:=HIH.out t (u ++ [UInt8.ofNat b]) v' (pre ++ DD b) mk4 w6 Lt3 htl hne (by simp;omega) (Mem.le_trans Hst.out.2.2.2 hle7) hpf7 Hst.out.1 (hO7.perm (List.Perm.refl _)).tail;refine bA 15 zk (aO rfl rfl (fQ (by go_simp) hIH ?_));rintro e' w7 (⟨rfl,mk5,Lt5,k1,k2,k3⟩ | ⟨rfl,qq,mk5,Lt5,k0,k1,k2,k3,k4⟩)
     ·refine ⟨_,rfl,.inr (Mem.cz (Mem.le_trans hle7 k3) k2.inn),?_⟩;go_simp;refine bA 16 zk (aO rfl rfl (aK (by go_simp;first | done | exact⟨rfl,rfl⟩ | rfl) ⟨.inl rfl,?_⟩));refine fA zk ?_ _;refine hV.out _ _ rfl ⟨false,mk5,Lt5,rfl,Mem.le_trans hle7 k3,k2,fun _=>?_,fun h=>by cases h⟩;rw[HDn.out b hb1,← List.append_assoc,Ht.out];exact k1
     ·refine ⟨_,rfl,.inr (Mem.cz (Mem.le_trans hle7 k4) k3.inn),?_⟩;go_simp;refine bA 16 zk (aO rfl rfl (aK (by go_simp;first | done | exact⟨rfl,rfl⟩ | rfl) ⟨.inl rfl,?_⟩));refine fA zk ?_ _;exact hV.out _ _ rfl ⟨true,mk5,Lt5,rfl,Mem.le_trans hle7 k4,k3,(fun h=>by cases h),fun _=>⟨qq,k0,by rw[Ht.out];exact k1,k2⟩⟩
   rintro z5 vs w5 - ⟨bb,mk4,Lt4,rfl,hle4,hO4,hB4,hX4⟩;simp[litL,lk]
   cases bb with
   | true=>
    obtain⟨qq,hq1,hq2,hq3⟩:=hX4 rfl;have Hq:=zh (zi hq1 (zi hq2 (zi hq3 (zi hO4 hle4))));clear hX4 hB4 hq1 hq2 hq3 hO4 hle4 y1 y2 y3 hct z1w hur;go_wp2;refine hR.out _ _ (.inr ⟨rfl,DD b ++ qq,mk4,Lt4,?_,?_,?_,Hq.out.2.2.2.1,Mem.le_trans (Mem.le_trans Hk.out.2.1 Hst.out.2.2.1) Hq.out.2.2.2.2⟩)
    ·intro h;exact Hq.out.1 (List.append_eq_nil_iff.1 h).2
    ·have h1:=HDp.out b Hbt.out.1;rw[HDn.out b hb1] at h1;exact ((List.prefix_append_right_inj _).2 Hq.out.2.1).trans h1
    ·rw[← List.append_assoc];exact Hq.out.2.2.1
   | false=>
    have hB5:=hB4 rfl;have Hq:=zh (zi hB5 (zi hO4 hle4));clear hX4 hB4 hB5 hO4 hle4 y1 y2 y3 hct z1w hur;go_wp2;exact hY.out _ _ _ (by have:=Hbt.out.1;omega) rfl ⟨b+1,mk4,Lt4,zo,by have:=Hbt.out.1;omega,rfl,rfl,Mem.le_trans Hst.out.2.2.1 Hq.out.2.2,Hq.out.1,Hq.out.2.1⟩
 ·obtain rfl:i=es.length:=zo;rw[List.take_length] at hB1;have Hq:=zh (zi hB1 (zi hO1 hle1));clear hB1 hO1 hle1;go_wp2;exact hR.out _ _ (.inl ⟨rfl,mk1,Lt1,Hq.out.1,Hq.out.2.1,Hq.out.2.2⟩)
end Cl
