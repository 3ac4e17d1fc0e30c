/- Lemmas for the proofs of chapter 11. -/
import Derived.Test.YtdgjplfcpcphoaaGreatDoorProg
import Derived.BigQuiet
import Derived.Deep.Cut
import Derived.Deep.QuietTactic
import Derived.Laws.StructEq
import Derived.Lib.AppendStr
import Derived.Lib.Builder
import Derived.Lib.Hide
import Derived.Lib.ItoaLen
import Derived.Maps.OwnOps
import Derived.Maps.OwnSet
import Derived.OrdersHeld
import Derived.Outline
import Derived.StillTailTactics
import Derived.StringKeys
import Derived.WalkKit
import Derived.WalkLawsBesides
import Derived.WalkSpells
import Derived.Deep.RegionHeld
import Derived.Laws.CopyRow
import Derived.Laws.Tables
import Derived.BigFrame
import Derived.Shelf.Strings.Builder1
import Derived.Shelf.Small.Wraps
import Derived.Shelf.LaysM
import Derived.Shelf.Strconv.Itoa3
import Derived.Laws.EntriesVeiled
import Derived.RegionTactic
import Derived.RangeFuncNested
import Derived.RangeFuncBound
import Derived.RangeFuncCalls
import Derived.RangeFuncLeaves
import Derived.OwnWalkIn
import Derived.TacticsInMore
import Derived.LoopNIn
import Derived.LoopIn
import Derived.Laws.BytesArg
import Derived.ChangeAlike
import Derived.Test.YtdgjplfcpcphoaaGreatDoorZz
import Derived.Test.YtdgjplfcpcphoaaGreatDoorPkV15
import Derived.Test.YtdgjplfcpcphoaaGreatDoorPkV3
import Derived.Test.YtdgjplfcpcphoaaGreatDoorPkV1
import Derived.Test.YtdgjplfcpcphoaaGreatDoorPkV2
import Derived.Test.YtdgjplfcpcphoaaGreatDoorPkV4
import Derived.Test.YtdgjplfcpcphoaaGreatDoorPkV7
import Derived.Test.YtdgjplfcpcphoaaGreatDoorPkV8
import Derived.Test.YtdgjplfcpcphoaaGreatDoorPkV5
import Derived.Test.YtdgjplfcpcphoaaGreatDoorPkV10
import Derived.Test.YtdgjplfcpcphoaaGreatDoorPkV14
import Derived.Test.YtdgjplfcpcphoaaGreatDoorPkV9
import Derived.Test.YtdgjplfcpcphoaaGreatDoorPkV6
import Derived.Test.YtdgjplfcpcphoaaGreatDoorPkV11
set_option maxRecDepth 100000
set_option maxHeartbeats 16000000
namespace Cl
open Go Go.RowKit Go.Proofs
theorem tyV:oV Tryz.prog 33 9:=⟨Tryz.isAgg33,Tryz.sizeOf33⟩
theorem tyD:oV Tryz.prog 35 18:=⟨Tryz.isAgg35,Tryz.sizeOf35⟩
theorem tyF:oV Tryz.prog 58 20:=⟨Tryz.isAgg58,Tryz.sizeOf58⟩
theorem tyK:oV Tryz.prog 61 19:=⟨Tryz.isAgg61,Tryz.sizeOf61⟩
theorem tyS:oV Tryz.prog 29 6:=⟨Tryz.isAgg29,Tryz.sizeOf29⟩
theorem jc (v:Vl) (s:Sl) (m:Mem) (n:Nat) (w:World) (hm:m.inn w) (hv:VAt m n s v) :
 Calls Tryz.prog 34 #[v.val s] w fun e w'=>e=.returned (cZ (v,v) s s)∧Below w.heap.size w w':=by
 have hO:=(Own.start hm).al (nine v s).toArray 33;have h1:=eF (d:=(v,v)) hv hv;unfold Vl.val cZ;rw[show dcs (v,v) s s=nine v s ++ nine v s from rfl] at *
 have hN:∃c0 c1 c2 c3 c4 c5 c6 c7 c8,nine v s=[c0,c1,c2,c3,c4,c5,c6,c7,c8]:=⟨_,_,_,_,_,_,_,_,_,rfl⟩;obtain⟨c0,c1,c2,c3,c4,c5,c6,c7,c8,hN⟩:=hN;rw[hN] at hO h1 ⊢;have HC:=zh (fun o=>((hO.al' o).uz (List.mem_cons_self ..)).all);have hO2:=hO.al zcD 35;simp only[cz] at hO2;have HO2:=zh (zi hO2 h1);clear hO h1 hN hO2;refine av fun R hR=>?_
 go_enter Tryz.func34,Tryz.ntmps34
 go_wp2_with (first
  | refine ae tyV rfl (.tmp 1) rfl rfl [c0,c1,c2,c3,c4,c5,c6,c7,c8] rfl (HC.out _) ?_
  | refine aI tyD rfl (.tmp 2) (.tmp 5) rfl (cs:=#[c0,c1,c2,c3,c4,c5,c6,c7,c8,c0,c1,c2,c3,c4,c5,c6,c7,c8]) rfl rfl rfl rfl (fun u hu=>HO2.out.2 u hu) HO2.out.1.obj ?_)
 intro w' ho hg;have HF:=zh (HO2.out.1.setObj ho hg);have hr:=tyD.load (cs:=[c0,c1,c2,c3,c4,c5,c6,c7,c8,c0,c1,c2,c3,c4,c5,c6,c7,c8]) rfl ho.all;clear HO2 hg HC;go_wp2;refine bodyPost_ret (v:=.agg #[c0,c1,c2,c3,c4,c5,c6,c7,c8,c0,c1,c2,c3,c4,c5,c6,c7,c8]) (iQ Tryz.results34 rfl hr) rfl ?_;exact hR.out _ _ ⟨rfl,HF.out.below⟩
theorem o8 (w:World) :
 Calls Tryz.prog 36 #[] w fun e w'=>e=.returned (cZ (topV,topV) bQ bQ)∧Below w.heap.size w w':=by
 have hO:=(Own.start (Mem.sP w)).al zcD 35;have HP:=zh (jc topV bQ (Mem.of w) 1 _ hO.inn (VAt.leaf _ true));have h1:=eF (d:=(topV,topV)) (VAt.leaf (Mem.of w) true) (VAt.leaf (Mem.of w) true);have HO:=zh hO;clear hO;unfold cZ at *
 have hl:(dcs (topV,topV) bQ bQ).length=18:=rfl;generalize dcs (topV,topV) bQ bQ=N at *
 refine av fun R hR=>?_
 go_enter Tryz.func36,Tryz.ntmps36
 go_wp2_with fail
 refine HP.out.mono ?_;rintro e w1 ⟨rfl,hb1⟩;have HO1:=zh (HO.out.move hb1);clear HO HP hb1
 go_wp2_with (refine aI tyD rfl (.tmp 0) (.tmp 2) rfl (cs:=N.toArray) rfl rfl rfl (by simpa using hl) (fun u hu=>h1 u hu) HO1.out.obj ?_)
 intro w' ho hg;have HF:=zh (HO1.out.setObj ho hg);have hr:=tyD.load hl ho.all;clear HO1 hg ho;go_wp2;exact bodyPost_ret (v:=.agg N.toArray) (iQ Tryz.results36 rfl hr) rfl (hR.out _ _ ⟨rfl,HF.out.below⟩)
theorem jO (w:World) :
 Calls Tryz.prog 38 #[] w fun e w'=>e=.returned (cZ (botV,botV) bQ bQ)∧Below w.heap.size w w':=by
 have hO:=(Own.start (Mem.sP w)).al zcD 35;have HO:=zh hO;clear hO;refine av fun R hR=>?_
 go_enter Tryz.func38,Tryz.ntmps38
 go_wp2_with (refine aI tyD rfl (.tmp 0) (.tmp 1) rfl (cs:=zcD) rfl rfl rfl rfl zD HO.out.obj ?_)
 intro w' ho hg;have HF:=zh (HO.out.setObj ho hg);have hr:=tyD.load (cs:=zcD.toList) rfl ho.all;clear HO hg ho;go_wp2;exact bodyPost_ret (v:=.agg zcD) (iQ Tryz.results38 rfl hr) rfl (hR.out _ _ ⟨rfl,HF.out.below⟩)
theorem zq (v:Vl) (s:Sl) (m:Mem) (n:Nat) (w:World) (hm:m.inn w) (hv:VAt m n s v) :
 Calls Tryz.prog 39 #[v.val s] w fun e w'=>e=.returned (cZ (v,v) s s)∧Below w.heap.size w w':=by
 have hO:=(Own.start hm).al (nine v s).toArray 33;have h1:=eF (d:=(v,v)) hv hv;unfold Vl.val cZ;rw[show dcs (v,v) s s=nine v s ++ nine v s from rfl] at *
 have hN:∃c0 c1 c2 c3 c4 c5 c6 c7 c8,nine v s=[c0,c1,c2,c3,c4,c5,c6,c7,c8]:=⟨_,_,_,_,_,_,_,_,_,rfl⟩;obtain⟨c0,c1,c2,c3,c4,c5,c6,c7,c8,hN⟩:=hN;rw[hN] at hO h1 ⊢;have HC:=zh (fun o=>((hO.al' o).uz (List.mem_cons_self ..)).all);have hO2:=hO.al zcD 35;simp only[cz] at hO2;have HO2:=zh (zi hO2 h1);clear hO h1 hN hO2;refine av fun R hR=>?_
 go_enter Tryz.func39,Tryz.ntmps39
 go_wp2_with (first
  | refine ae tyV rfl (.tmp 1) rfl rfl [c0,c1,c2,c3,c4,c5,c6,c7,c8] rfl (HC.out _) ?_
  | refine aI tyD rfl (.tmp 2) (.tmp 5) rfl (cs:=#[c0,c1,c2,c3,c4,c5,c6,c7,c8,c0,c1,c2,c3,c4,c5,c6,c7,c8]) rfl rfl rfl rfl (fun u hu=>HO2.out.2 u hu) HO2.out.1.obj ?_)
 intro w' ho hg;have HF:=zh (HO2.out.1.setObj ho hg);have hr:=tyD.load (cs:=[c0,c1,c2,c3,c4,c5,c6,c7,c8,c0,c1,c2,c3,c4,c5,c6,c7,c8]) rfl ho.all;clear HO2 hg HC;go_wp2;refine bodyPost_ret (v:=.agg #[c0,c1,c2,c3,c4,c5,c6,c7,c8,c0,c1,c2,c3,c4,c5,c6,c7,c8]) (iQ Tryz.results39 rfl hr) rfl ?_;exact hR.out _ _ ⟨rfl,HF.out.below⟩
theorem vJ (w:World) :
 Calls Tryz.prog 37 #[] w fun e w'=>e=.returned (cZ (topV,topV) bQ bQ)∧Below w.heap.size w w':=by
 have hO:=(Own.start (Mem.sP w)).al zcD 35;have HP:=zh (zq topV bQ (Mem.of w) 1 _ hO.inn (VAt.leaf _ true));have h1:=eF (d:=(topV,topV)) (VAt.leaf (Mem.of w) true) (VAt.leaf (Mem.of w) true);have HO:=zh hO;clear hO;unfold cZ at *
 have hl:(dcs (topV,topV) bQ bQ).length=18:=rfl;generalize dcs (topV,topV) bQ bQ=N at *
 refine av fun R hR=>?_
 go_enter Tryz.func37,Tryz.ntmps37
 go_wp2_with fail
 refine HP.out.mono ?_;rintro e w1 ⟨rfl,hb1⟩;have HO1:=zh (HO.out.move hb1);clear HO HP hb1
 go_wp2_with (refine aI tyD rfl (.tmp 0) (.tmp 2) rfl (cs:=N.toArray) rfl rfl rfl (by simpa using hl) (fun u hu=>h1 u hu) HO1.out.obj ?_)
 intro w' ho hg;have HF:=zh (HO1.out.setObj ho hg);have hr:=tyD.load hl ho.all;clear HO1 hg ho;go_wp2;exact bodyPost_ret (v:=.agg N.toArray) (iQ Tryz.results37 rfl hr) rfl (hR.out _ _ ⟨rfl,HF.out.below⟩)
theorem jd (d:Vd) (x y:Sl) (w:World) :
 Calls Tryz.prog 15 #[cZ d x y] w fun e w'=>e=.returned (.bool (d.1.any&&d.2.any))∧Below w.heap.size w w':=by
 have hO:=(Own.start (Mem.sP w)).al (dcs d x y).toArray 35;have c0:=hO.obj.cell (i:=0) (v:=.bool d.1.any) rfl;have c9:=hO.obj.cell (i:=9) (v:=.bool d.2.any) rfl;have HB:=zh hO.below;unfold cZ;clear hO;generalize dcs d x y=N at *
 generalize d.1.any=p at *
 generalize d.2.any=q at *
 refine av fun R hR=>?_;cases p <;> cases q
 all_goals
  go_enter Tryz.func15,Tryz.ntmps15
  go_wp2;exact hR.out _ _ ⟨rfl,HB.out⟩
theorem VAt.spell {m:Mem} {n:Nat} {x:Sl} {v:Vl} (k:VAt m n x v):∃a1 b1 a2 b2 a3 b3 a4 b4 a5 b5,x=⟨.slice a1 v.s.i.length b1,.slice a2 v.s.f.length b2,.slice a3 v.s.t.length b3,.slice a4 v.lists.length b4,.slice a5 v.structs.length b5⟩ ∧
 v.s.i.length≤maxLen∧v.s.f.length≤maxLen∧v.s.t.length≤maxLen∧v.lists.length≤maxLen∧v.structs.length≤maxLen:=by
 cases n with
 | zero=>exact k.elim
 | succ n=>
  obtain⟨⟨⟨a1,b1,e1,p1,q1,-⟩,⟨a2,b2,e2,p2,q2,-⟩,⟨a3,b3,e3,p3,q3,-⟩⟩,⟨a4,b4,e4,p4,q4,-⟩,⟨a5,b5,e5,p5,q5,-⟩⟩:=k;obtain⟨y1,y2,y3,y4,y5⟩:=x;simp only at e1 e2 e3 e4 e5;subst e1 e2 e3 e4 e5;exact⟨a1,b1,a2,b2,a3,b3,a4,b4,a5,b5,rfl,zo,zo,zo,zo,zo⟩
theorem VAt.sc {m:Mem} {n:Nat} {x:Sl} {v:Vl} (k:VAt m n x v):ScAt m x.i x.f x.t v.s:=by
 cases n with
 | zero=>exact k.elim
 | succ n=>exact k.1
theorem Bu (a b:Bool) (w:World):Calls Tryz.prog 73 #[.bool a,.bool b] w fun e w'=>e=.returned (.int .i64 (xL a b))∧Below w.heap.size w w':=by
 refine av fun R hR=>?_;cases a <;> cases b
 all_goals
  go_enter Tryz.func73,Tryz.ntmps73
  go_wp2;exact hR.out _ _ ⟨rfl,Below.refl _ _⟩
theorem DU (s:RS):tf (s=dI)=(!s.nul && !s.fal && !s.tru&&decide ((s.i.length:Int)+s.f.length+s.t.length=0)):=by
 rw[Bool.eq_iff_iff];simp only[Bool.and_eq_true,Bool.not_eq_true',decide_eq_true_eq,vC];constructor
 ·rintro rfl;exact⟨⟨⟨rfl,rfl⟩,rfl⟩,rfl⟩
 ·rintro ⟨⟨⟨h1,h2⟩,h3⟩,h4⟩;obtain⟨a,b,c,i,f,t⟩:=s;simp only at h1 h2 h3 h4;subst h1 h2 h3;rw[List.eq_nil_of_length_eq_zero (show i.length=0 by omega),List.eq_nil_of_length_eq_zero (show f.length=0 by omega),List.eq_nil_of_length_eq_zero (show t.length=0 by omega)]
  rfl
theorem rO (vi vf vt:Value) (s:RS) (m:Mem) (w:World) (h:ScAt m vi vf vt s) (hl:s.i.length≤1000000∧s.f.length≤1000000∧s.t.length≤1000000) :
 Calls Tryz.prog 43 #[s.val vi vf vt] w fun e w'=>e=.returned (.bool (tf (s=dI)))∧Below w.heap.size w w':=by
 rw[DU];obtain⟨⟨a1,b1,rfl,p1,q1,-⟩,⟨a2,b2,rfl,p2,q2,-⟩,⟨a3,b3,rfl,p3,q3,-⟩⟩:=h;unfold maxLen at q1 q2 q3;unfold RS.val;generalize s.nul=x1;generalize s.fal=x2;generalize s.tru=x3;generalize s.i.length=l1 at *
 generalize s.f.length=l2 at *
 generalize s.t.length=l3 at *
 refine av fun R hR=>?_;cases x1 <;> cases x2 <;> cases x3
 all_goals
  go_enter Tryz.func43,Tryz.ntmps43
  go_wp2;exact hR.out _ _ ⟨aJ (by first | rfl | (simp[wrap64_id (show -9223372036854775808≤(l1:Int)+l2 by omega) zo,wrap64_id (show -9223372036854775808≤(l1:Int)+l2+l3 by omega) zo,beq_eq_decide])),bJ (Below.refl _ _) _⟩
attribute [local go_sem] Oper.semAt_some
def mO (mk:Mem) (v:Value) (u:List UInt8):Prop:=
 (u=[]∧v=.slice none 0 0)∨(u≠[]∧∃g c,v=.slice (some ⟨g,0,none⟩) u.length c∧u.length≤c∧c≤maxLen∧∀i,(h:i<u.length)→mk.cell g i=some (.int .u8 (u[i]).toNat))
theorem mO.le {mk mk':Mem} {v:Value} {u:List UInt8} (h:mO mk v u) (hl:mk.le mk'):mO mk' v u:=by
 rcases h with h | ⟨h1,g,c,h2,h3,h4,h5⟩
 ·exact .inl h
 ·exact .inr ⟨h1,g,c,h2,h3,h4,fun i hi=>Mem.aA hl (h5 i hi)⟩
theorem strOfNums_bytes (u:List UInt8):strOfNums (u.map fun b=>(b.toNat:Int))=⟨u.toArray⟩:=by
 unfold strOfNums
 congr 1
 rw[List.map_map]
 congr 1
 conv=>rhs;rw[← List.map_id u]
 apply List.map_congr_left;intro b _;simp
theorem sj {mk:Mem} {w:World} {v:Value} {u:List UInt8} (h:mO mk v u) (hm:mk.inn w):(convert 185 9 v).run Tryz.prog w=.ok (.string ⟨u.toArray⟩) w:=by
 rcases h with ⟨rfl,rfl⟩ | ⟨h1,g,c,rfl,h3,h4,h5⟩
 ·exact run_convert_bytes_nil w 185 5 Tryz.underlying185 Tryz.underlying5 0 0 _ Tryz.underlying9
 ·have:=run_convert_bytes_arg w 185 5 Tryz.underlying185 Tryz.underlying5 g 0 u.length c (u.map fun b=>(b.toNat:Int)) zS (fun i hi=>by
   rw[Nat.zero_add,Mem.aj hm (h5 i hi)];simp[List.getD,hi]) _ Tryz.underlying9
  rw[this,strOfNums_bytes]
structure Bf (T:Table) (l:Nat) (w0:World) (m mk0:Mem) (B Bx:List (List UInt8)→List Item→Prop) (Lr:List Item) (gy ga gt gv tb ntab ctab:Nat) (va:Value):Prop where
 yield:uB Tryz.prog l (fun x:List UInt8=>#[Value.string ⟨x.toArray⟩]) w0 m mk0 B Bx
 cy:mk0.cell gy 0=some (.func (.yield l) #[] #[])
 ca:mk0.cell ga 0=some va
 ct:mk0.cell gt 0=some (.slice (some ⟨tb,0,none⟩) ntab ctab)
 cv:mk0.cell gv 0=some (.func (.func 252) #[] #[.pointer (some ⟨gy,0,none⟩),.pointer (some ⟨ga,0,none⟩),.pointer (some ⟨gt,0,none⟩),.pointer (some ⟨gv,0,none⟩)])
 tab:aQ mk0 va T
 rows:∀W mk Lt,Own w0 m W mk (Lt ++ Lr)→∀i,i<ntab→∃u,W.cell? ⟨tb,i,none⟩=some u∧fJ mk0 u (canN T i)
 ntab:ntab≤maxLen
def Ka (w0:World) (m mk:Mem) (B Bx:List (List UInt8)→List Item→Prop) (Lr:List Item) (pre ws:List (List UInt8)) (e:Ending) (W':World):Prop:=
 (e=.returned (.bool true)∧∃mk' Lt,B (pre ++ ws) Lt∧Own w0 m W' mk' (Lt ++ Lr)∧mk.le mk') ∨
 (e=.returned (.bool false)∧∃q mk' Lt,q≠[]∧q <+: ws∧Bx (pre ++ q) Lt∧Own w0 m W' mk' (Lt ++ Lr)∧mk.le mk')
theorem EO {T:Table} {l:Nat} {w0:World} {m mk0:Mem} {B Bx:List (List UInt8)→List Item→Prop} {Lr:List Item} {gy ga gt gv tb ntab ctab:Nat} {va:Value} (hE:Bf T l w0 m mk0 B Bx Lr gy ga gt gv tb ntab ctab va)
 (s:Nat) (u:List UInt8) (vp:Value) (pre:List (List UInt8)) (mk:Mem) (W:World) (Lt:List Item) (hle:mk0.le mk) (hp:mO mk vp u) (hB:B pre Lt) (hO:Own w0 m W mk (Lt ++ Lr)) :
 Calls Tryz.prog 252 #[.int .i64 s,.int .i64 0,vp,.pointer (some ⟨gy,0,none⟩),.pointer (some ⟨ga,0,none⟩),.pointer (some ⟨gt,0,none⟩),.pointer (some ⟨gv,0,none⟩)] W (Ka w0 m mk B Bx Lr pre [u]):=by
 have hcy:=Mem.aj hO.inn (Mem.aA hle hE.cy);have hcyl:=Mem.ay hO.inn (Mem.aA hle hE.cy);have hcv:=sj hp hO.inn;obtain⟨fn,tmps,assign,body,hy,hR⟩:=hE.yield pre u W mk Lt Lr hB hO hle;refine av fun R hR'=>?_;clear hO hB hp hE hle
 go_enter Tryz.func252,Tryz.ntmps252
 refine (wpIn_wide (n:=0)).1 ?_
 gi_wp2
 refine ⟨rfl,hR.mono ?_⟩;rintro e W' (⟨rfl,mk',Lt',h1,h2,h3⟩ | ⟨rfl,mk',Lt',h1,h2,h3⟩)
 ·have Hk:=zh (zi h1 (zi h2 h3));clear h1 h2 h3
  gi_wp2
  exact hR'.out _ _ (.inl ⟨rfl,mk',Lt',Hk.out.1,Hk.out.2.1,Hk.out.2.2⟩)
 ·have Hk:=zh (zi h1 (zi h2 h3));clear h1 h2 h3
  gi_wp2
  exact hR'.out _ _ (.inr ⟨rfl,[u],mk',Lt',zS,List.prefix_refl _,Hk.out.1,Hk.out.2.1,Hk.out.2.2⟩)
theorem MK:eT Tryz.prog 185 5 1 1:=⟨Tryz.underlying185,zo,by
 obtain⟨i,h1,h2,h3,h4⟩:=info_parts (P:=Tryz.prog) (e:=5) (z:=.int .u8 0) (size:=1) (bytes:=1) zk;exact⟨i,_,h1,h2,h3,h4,rfl⟩⟩
def cutV (v:Value) (u:List UInt8):Value:=match v with
 | .slice a _ _=>.slice a u.length u.length
 | v=>v
theorem og {w0 w:World} {m mk:Mem} {L:List Cl.Item} {v:Value} {u:List UInt8} {c:Nat} (h:mO mk v u) (hc:c<256) (hO:Own w0 m w mk L) (ga:Nat) (hga:w.cell? ⟨ga,0,none⟩=some (.int .u8 c)) (hu:u.length≤1000000) :
 ∃v' w' mk',(Builtin.append_ #[185,185] 185 #[cutV v u,.slice (some ⟨ga,0,none⟩) 1 1]).run Tryz.prog w=.ok v' w'∧Own w0 m w' mk' L∧mk.le mk'∧mO mk' v' (u ++ [UInt8.ofNat c]):=by
 have hnews:∀j x,[Value.int .u8 c][j]?=some x→w.cell? ((⟨ga,0,none⟩:Addr).add j)=some x:=by
  intro j x hj;rw[Addr.add_lit,Nat.zero_add]
  cases j with
  | zero=>simp at hj;rw[← hj];exact hga
  | succ j=>simp at hj
 have hof:((UInt8.ofNat c).toNat:Int)=(c:Int):=by
  rw[UInt8.toNat_ofNat'];omega
 rcases h with ⟨rfl,rfl⟩ | ⟨hne,g,cc,rfl,h3,h4,h5⟩
 ·have hO1:=hO.dC 5 1;obtain⟨v',w',hr,hown,hg,hrow⟩:=jo MK w 185 (.slice none 0 0) 0 [] hO1.row ⟨ga,0,none⟩ 1 1 [.int .u8 c] rfl hnews (by simp[Value.oneCell']) (by simp[maxLen]) zS;have hO2:=hO1.app hown hg hrow (Nat.le_refl _);obtain⟨va,vc,rfl⟩:=aO hO2.row;obtain⟨gb,rfl⟩:=iD hO2.row zo;refine ⟨_,w',mk.addv w' (.slice (some ⟨gb,0,none⟩) (0+1) vc),hr,hO2.aY,Mem.cu hO2.free,.inr ⟨zS,gb,vc,rfl,?_,?_,fun i hi=>?_⟩⟩
  ·rcases hO2.row.2 with ⟨h,-⟩ | ⟨g',cap,cur,h,-,-,hnc,-⟩
   ·cases h
   ·injection h with h1 h2 h3;subst h3;simpa using hnc
  ·rcases hO2.row.2 with ⟨h,-⟩ | ⟨g',cap,cur,h,-,-,-,hcm,-⟩
   ·cases h
   ·injection h with h1 h2 h3;subst h3;exact hcm
  ·obtain rfl:i=0:=by simp at hi;exact hi
   have:=eQ hO2.row (g:=gb) rfl mk (j:=0) (u:=.int .u8 c) rfl;rw[this];simp only[List.nil_append,List.getElem_cons_zero];rw[hof]
 ·obtain⟨i,hi,hz,hs,hb⟩:=info_parts (P:=Tryz.prog) (e:=5) (z:=.int .u8 0) (size:=1) (bytes:=1) zk;have holds:∀j x,(u.map fun b=>Value.int .u8 b.toNat)[j]?=some x→w.cell? ((⟨g,0,none⟩:Addr).add j)=some x:=by
   intro j x hj;rw[Addr.add_lit,Nat.zero_add];have hjl:j<u.length:=by
    have:=(List.getElem?_eq_some_iff.1 hj).1;simpa using this
   rw[Mem.aj hO.inn (h5 j hjl)];simp[hjl] at hj;rw[← hj]
  have hr:=run_append_grow (P:=Tryz.prog) (w:=w) 185 185 5 i (.int .u8 0) Tryz.underlying185 hi hz ⟨g,0,none⟩ u.length u.length (u.map fun b=>Value.int .u8 b.toNat) (by simp[hs]) holds ⟨ga,0,none⟩ 1 1 [.int .u8 c] (by simp[hs]) hnews zo zo (growslice_fits zo (by rw[hb];omega));have hO1:=hO.dr.al ((u.map fun b=>Value.int .u8 b.toNat).toArray ++ [Value.int .u8 c].toArray ++ Builtin.zeroCells (Value.int .u8 0).cells (grownCap w (u.length+1) u.length 5 - (u.length+1))) 5;have hO2:=hO1.jm;refine ⟨_,_,mk.add _ w.heap.size,hr,hO2,Mem.kC hO1.jr,.inr ⟨zS,w.heap.size,grownCap w (u.length+1) u.length 5,?_,?_,?_,fun j hj=>?_⟩⟩
  ·simp
  ·simpa using grownCap_ge w _ _ _
  ·exact grownCap_le_maxLen w _ _ _ (by unfold maxLen;omega)
  ·refine Mem.dR hO1.obj ?_;simp only[List.length_append,List.length_cons,List.length_nil] at hj;by_cases hju:j<u.length
   ·rw[Array.getElem?_append_left (by simp;omega),Array.getElem?_append_left (by simpa using hju)];simp[hju,List.getElem_append_left hju]
   ·obtain rfl:j=u.length:=zo;rw[Array.getElem?_append_left zS,Array.getElem?_append_right zS];simp;rw[← hof];simp
theorem wp_append_run {P:Program} {w w':World} {o:Oper} {a:Act} {K:Act→World→Prop} {Q:Exit→Act→World→Prop} (s x:Operand) (t:TypeId)
 (ho:o.op=.call { callee:=.builtin .append,args:=#[s,x],argTypes:=#[t,t] }) {v v2 v':Value} (hs:a.eval s=v) (hx:a.eval x=v2)
 (hr:(Builtin.append_ #[t,t] o.type #[v,v2]).run P w=.ok v' w') (h:K (a.put o.dst v') w'):o.wp P a w K Q:=by
 unfold Oper.wp execOp;simp only[ho,resolve,invoke,builtin,Sem.run_bind,Sem.run_pure,Result.andThen_ok,List.map_toArray,List.map_cons,List.map_nil,hs,hx,hr];exact h
def LZ (T:Table) (w0:World) (m mk0:Mem) (B Bx:List (List UInt8)→List Item→Prop) (Lr:List Item) (gy ga gt gv n:Nat):Prop:=
 ∀(s:Nat) (u:List UInt8) (vp:Value) (pre:List (List UInt8)) (mk:Mem) (W:World) (Lt:List Item),s<T.length→wex T n s≠[]→u.length+n≤1000000→mk0.le mk→mO mk vp u→B pre Lt→Own w0 m W mk (Lt ++ Lr) →
  Calls Tryz.prog 252 #[.int .i64 s,.int .i64 n,vp,.pointer (some ⟨gy,0,none⟩),.pointer (some ⟨ga,0,none⟩),.pointer (some ⟨gt,0,none⟩),.pointer (some ⟨gv,0,none⟩)] W (Ka w0 m mk B Bx Lr pre ((wex T n s).map (u ++ ·)))
theorem EM {T:Table} {l:Nat} {w0:World} {m mk0:Mem} {B Bx:List (List UInt8)→List Item→Prop} {Lr:List Item} {gy ga gt gv tb ntab ctab:Nat} {va:Value} (hE:Bf T l w0 m mk0 B Bx Lr gy ga gt gv tb ntab ctab va) :
 LZ T w0 m mk0 B Bx Lr gy ga gt gv 0:=by
 intro s u vp pre mk W Lt hs hne _ hle hp hB hO;have:wex T 0 (s:Int)=[[]]:=by
  unfold wex at hne ⊢
  split
  ·rfl
  ·rename_i h;rw[if_neg h] at hne;exact absurd rfl hne
 rw[this];simpa using EO hE s u vp pre mk W Lt hle hp hB hO
def uR (T:Table) (n:Nat) (u:List UInt8) (es:List Ed) (i:Nat) (e:Ed) (b:Nat):List (List UInt8):=(esW T n (es.take i) ++ edW T n e.to e.lo (b - e.lo)).map (u ++ ·)
theorem Gx (T:Table) (n:Nat) (u:List UInt8) (es:List Ed) (i:Nat) (e:Ed) (b:Nat) (h:e.lo≤b) :
 uR T n u es i e (b+1)=uR T n u es i e b ++ (wex T n e.to).map ((u ++ [UInt8.ofNat b]) ++ ·):=by
 unfold uR;rw[show b+1 - e.lo=(b - e.lo)+1 by omega,LF,← List.append_assoc,List.map_append,show e.lo+(b - e.lo)=b by omega]
 congr 1
 unfold xX;rw[List.map_map];apply List.map_congr_left;intro x _;simp
theorem JQ {T:Table} {n:Nat} {u:List UInt8} {es:List Ed} {i:Nat} (h:i<es.length) {b:Nat} (h2:b≤(es[i]).hi):uR T n u es i es[i] (b+1) <+: (esW T n es).map (u ++ ·):=by
 unfold uR;have h1:esW T n (es.take i) ++ edW T n (es[i]).to (es[i]).lo (b+1 - (es[i]).lo) <+: esW T n es:=by
  have a1:edW T n (es[i]).to (es[i]).lo (b+1 - (es[i]).lo) <+: edW T n (es[i]).to (es[i]).lo ((es[i]).hi+1 - (es[i]).lo):=by
   unfold edW;have:=List.range'_append_1 (s:=(es[i]).lo) (m:=b+1 - (es[i]).lo) (n:=((es[i]).hi+1 - (es[i]).lo) - (b+1 - (es[i]).lo));rw[show (b+1 - (es[i]).lo)+(((es[i]).hi+1 - (es[i]).lo) - (b+1 - (es[i]).lo))=(es[i]).hi+1 - (es[i]).lo by omega] at this;rw[← this,List.flatMap_append];exact List.prefix_append _ _
  have a2:esW T n (es.take (i+1)) <+: esW T n es:=by
   unfold esW
   conv=>rhs;rw[← List.take_append_drop (i+1) es,List.flatMap_append]
   exact List.prefix_append _ _
  rw[En T n es h] at a2;exact ((List.prefix_append_right_inj _).2 a1).trans a2
 exact h1.map _
theorem Gy {T:Table} {n:Nat} {u:List UInt8} {es:List Ed} {i:Nat} (h:i<es.length) {b:Nat} (hx:b=(es[i]).hi+1∨wex T n (es[i]).to=[]):uR T n u es i es[i] b=(esW T n (es.take (i+1))).map (u ++ ·):=by
 unfold uR;rw[En T n es h];rcases hx with rfl | hx
 ·rfl
 ·rw[CY hx,CY hx]
theorem EN {T:Table} {l:Nat} {w0:World} {m mk0:Mem} {B Bx:List (List UInt8)→List Item→Prop} {Lr:List Item} {gy ga gt gv tb ntab ctab:Nat} {va:Value} (hE:Bf T l w0 m mk0 B Bx Lr gy ga gt gv tb ntab ctab va)
 (hwf:WF T) (hby:Bytes T) (n:Nat) (hn:n<ntab) (ih:LZ T w0 m mk0 B Bx Lr gy ga gt gv n):LZ T w0 m mk0 B Bx Lr gy ga gt gv (n+1):=by
 intro s u vp pre mk W Lt hs _ hun hle hp hB hO;have hE0:=hE;have hm0:=Mem.dm hle hO.inn;have ha:=Mem.aj hm0 hE.ca;have hal:=Mem.ay hm0 hE.ca;obtain⟨aa,ac,rfl,a1,a2,a3⟩:=hE.tab;obtain⟨ab,ao,rfl,a4⟩:=a3 (by intro h;simp[h] at hs);obtain⟨-,ve,s2,ea,ec,rfl,g4,g5,g6⟩:=a4 s hs;have s2w:=Mem.aj hm0 s2;have s2l:=Mem.ay hm0 s2;have Hex:=zh (G6 hwf hby hs n);have hwfs:=hwf T[s] (List.getElem_mem hs);have hbys:=hby T[s] (List.getElem_mem hs);generalize T[s].edges=es at *
 have HW:=zh (zi hwfs hbys);have HE:=zh hE0;have HIH:=zh ih;have HO:=zh (zi hO hB);have Hle:=zh hle;have Hp:=zh hp;unfold maxLen at a2 g5;have hdec:((n:Int)+1==0)=false:=beq_eq_false_iff_ne.2 zo;rw[Hex.out];refine av fun R hR=>?_;clear hE hE0 ih hO hB hle a3 a4 hwfs hbys hm0 s2 hp hwf hby;rw[show ((n+1:Nat):Int)=(n:Int)+1 by omega]
 go_enter Tryz.func252,Tryz.ntmps252
 go_wp2;refine au [0,1,2,3,4,5,6,25,26,27] (fun q vs W1=>∃(i:Nat) (mk1:Mem) (Lt1:List Item),i≤es.length∧q=es.length - i ∧
  vs=[.int .i64 s,.int .i64 ((n:Int)+1),vp,.pointer (some ⟨gy,0,none⟩),.pointer (some ⟨ga,0,none⟩),.pointer (some ⟨gt,0,none⟩),.pointer (some ⟨gv,0,none⟩),.slice ea es.length ec,.int .i64 es.length,.int .i64 i] ∧
  mk.le mk1∧B (pre ++ (esW T n (es.take i)).map (u ++ ·)) Lt1∧Own w0 m W1 mk1 (Lt1 ++ Lr)) ?_ ?_
 ·exact⟨_,0,mk,Lt,Nat.zero_le _,rfl,rfl,Mem.le_refl _,by simpa [esW] using HO.out.2,HO.out.1⟩
 clear HO s2w s2l ha hal;rintro X z q vs W1 hX - ⟨i,mk1,Lt1,hi,rfl,rfl,hle1,hB1,hO1⟩;simp[litL,lk];have hm1:=Mem.dm (Mem.le_trans Hle.out hle1) hO1.inn;by_cases hlt:i<es.length
 ·obtain⟨eb,eo,rfl,g7⟩:=g6 (by intro h;simp[h] at hlt);obtain⟨e1,e2,e3,e4,e5,e6⟩:=g7 i hlt;have e1w:=Mem.aj hm1 e1;have e2w:=Mem.aj hm1 e2;have e3w:=Mem.aj hm1 e3;have el:=Mem.ay hm1 e1;have hlh:=di HW.out.1 es[i] (List.getElem_mem hlt);have HDp:=zh (fun b (hb:b≤(es[i]).hi)=>JQ (T:=T) (n:=n) (u:=u) hlt hb);have HDl:=zh (fun b (hx:b=(es[i]).hi+1∨wex T n (es[i]).to=[])=>Gy (T:=T) (n:=n) (u:=u) hlt (b:=b) hx);have HDn:=zh (fun b (hb:(es[i]).lo≤b)=>Gx T n u es i es[i] b hb);have hD0:uR T n u es i es[i] (es[i]).lo=(esW T n (es.take i)).map (u ++ ·):=by
   unfold uR;rw[Nat.sub_self,LD,List.append_nil]
  rw[← hD0] at hB1;clear hD0;generalize es[i]=e at *
  generalize hDD:uR T n u es i e=DD at *
  clear hDD;have hO2:=(hO1.al #[.int .u8 e.lo,.int .u8 e.hi,.int .i64 e.to] 104);have hO3:=hO2.jm;have hle2:=Mem.le_trans hle1 (Mem.kC (w:=W1.alloc (.cells #[.int .u8 e.lo,.int .u8 e.hi,.int .i64 e.to] 104)) hO2.jr);have x1:=Mem.dR (m:=mk1) hO2.obj (i:=0) rfl;have x2:=Mem.dR (m:=mk1) hO2.obj (i:=1) rfl;have x3:=Mem.dR (m:=mk1) hO2.obj (i:=2) rfl;have Hk:=zh (zi hO3 (zi hle2 hB1));obtain⟨t,ht⟩:=Int.eq_ofNat_of_zero_le hlh.2.1;have htl:t<T.length:=zo;have Ht:=zh ht;clear hO2 hO3 hO1 hB1 hle2 ht hm1;go_wp2;generalize W1.heap.size=E at *
  generalize mk1.add (W1.alloc (.cells #[.int .u8 e.lo,.int .u8 e.hi,.int .i64 e.to] 104)) E=mk2 at *
  refine au [0,1,2,3,4,5,6,12,13,25,26,27] (fun q vs W2=>∃(b:Nat) (mk3:Mem) (Lt3:List Item),e.lo≤b∧b≤e.hi+1∧q=e.hi+1 - b ∧
   vs=[.int .i64 s,.int .i64 ((n:Int)+1),vp,.pointer (some ⟨gy,0,none⟩),.pointer (some ⟨ga,0,none⟩),.pointer (some ⟨gt,0,none⟩),.pointer (some ⟨gv,0,none⟩),.pointer (some ⟨E,0,none⟩),.int .i64 b,.slice (some ⟨eb,eo,none⟩) es.length ec,.int .i64 es.length,.int .i64 i] ∧
   mk2.le mk3∧B (pre ++ DD b) Lt3∧Own w0 m W2 mk3 (Lt3 ++ Lr)) ?_ ?_
  ·exact⟨_,e.lo,mk2,Lt1,Nat.le_refl _,zo,rfl,rfl,Mem.le_refl _,Hk.out.2.2,Hk.out.1⟩
  clear e1w e2w e3w el;rintro Y z2 q vs W2 hY - ⟨b,mk3,Lt3,hb1,hb2,rfl,rfl,hle3,hB3,hO3⟩;simp[litL,lk];have hm3:=hO3.inn;have y1:=Mem.aj hm3 (Mem.aA hle3 x1);have y2:=Mem.aj hm3 (Mem.aA hle3 x2);have y3:=Mem.aj hm3 (Mem.aA hle3 x3);simp only[List.getElem_toArray,List.getElem_cons_succ,List.getElem_cons_zero] at y3;rw[Ht.out] at y3;have yl:=Mem.ay hm3 (Mem.aA hle3 x1);have hle03:=Mem.le_trans (Mem.le_trans Hle.out Hk.out.2.1) hle3;have hct:=Mem.aj hm3 (Mem.aA hle03 HE.out.ct);have hctl:=Mem.ay hm3 (Mem.aA hle03 HE.out.ct);obtain⟨ur,hur,ra,rc,rfl,r2,r3,r4⟩:=HE.out.rows _ _ _ hO3 n hn;have hcl:=oN T n;obtain⟨rb,ro,rfl,r5⟩:=r4 (by intro h;rw[h] at hcl;simp at hcl;omega);have hcn:t<(canN T n).length:=zo;have z1:=r5 t hcn;have z1w:=Mem.aj hm3 (Mem.aA hle03 z1);have z1l:=Mem.ay hm3 (Mem.aA hle03 z1);have hurl:tb<W2.heap.size:=by
   simp only[World.cell?] at hur
   split at hur
   ·rename_i hb;exact (Array.getElem?_eq_some_iff.1 hb).1
   ·cases hur
  have hcv:(canN T n)[t]=true↔wex T n (t:Int)≠[]:=by
   have h1:=rz T n htl;rw[List.getElem?_eq_getElem hcn] at h1;rw[Option.some.inj h1];simp
  have Hcv:=zh hcv;obtain⟨cb,hcb⟩:∃cb,(canN T n)[t]=cb:=⟨_,rfl⟩;rw[hcb] at z1w;have Hcb:=zh hcb;have hw1:IntKind.i64.wrap ((n:Int)+1 - 1)=(n:Int):=by rw[IntWalk.i64_in _ zo];omega
  have hcl2:T.length≤(canN T n).length:=zo;have Hst:=zh (zi hB3 (zi hO3 (zi hle3 hle03)));have hnt:=HE.out.ntab;unfold maxLen at r3 hnt;generalize canN T n=cl at *
  clear hcl hcv hcb z1 r4 r5 hB3 hO3 hle03;go_wp2;refine aR [0,1,2,3,4,5,6,12,13,25,26,27,49] (fun vs w'=>∃(bb:Bool) (nq:Nat),vs=[.int .i64 s,.int .i64 ((n:Int)+1),vp,.pointer (some ⟨gy,0,none⟩),.pointer (some ⟨ga,0,none⟩),.pointer (some ⟨gt,0,none⟩),.pointer (some ⟨gv,0,none⟩),.pointer (some ⟨E,0,none⟩),.int .i64 b,.slice (some ⟨eb,eo,none⟩) es.length ec,.int .i64 es.length,.int .i64 i,.bool bb] ∧
   w'=W2.drewN nq∧(bb=true→b≤e.hi∧wex T n (t:Int)≠[])∧(bb=false→b=e.hi+1∨wex T n (t:Int)=[])) ?_ ?_
  ·intro V hV;by_cases hbh:b≤e.hi
   ·have hdb:decide ((b:Int)≤(e.hi:Int))=true:=decide_eq_true zo;refine wp_region_quiet_lit zk zk ?_
    repeat (any_goals (first | go_big_quiet_step (fail) | quiet_step (fail) | (refine wpQuiet_step (fun K hK=>?_);go_simp;split <;> (refine hK _ ?_;clear hK K))))
    all_goals (refine wpQuiet_nil ?_;intro _ hw';obtain⟨nq,hw''⟩:=hw';subst hw'')
    all_goals go_wp2
    all_goals
     refine hV.out _ _ rfl ⟨cb,nq,rfl,rfl,fun h=>⟨hbh,Hcv.out.1 (Hcb.out.trans h)⟩,fun h=>.inr (Classical.byContradiction fun hx=>?_)⟩;have:=Hcv.out.2 hx;rw[Hcb.out,h] at this;cases this
   ·have hdb:decide ((b:Int)≤(e.hi:Int))=false:=decide_eq_false zo;refine wp_region_quiet_lit zk zk ?_
    repeat (any_goals (first | go_big_quiet_step (fail) | quiet_step (fail) | (refine wpQuiet_step (fun K hK=>?_);go_simp;split <;> (refine hK _ ?_;clear hK K))))
    all_goals (refine wpQuiet_nil ?_;intro _ hw';obtain⟨nq,hw''⟩:=hw';subst hw'')
    all_goals go_wp2
    all_goals exact hV.out _ _ rfl ⟨false,nq,rfl,rfl,(fun h=>by cases h),fun _=>.inl zo⟩
  rintro z3 vs w3 - ⟨bb,nq,rfl,rfl,hbt,hbf⟩;simp[litL,lk]
  cases bb with
  | false=>
   have Hbf:=zh (hbf rfl);clear hbt hbf;go_wp2;refine hX.out _ _ _ zo rfl ⟨i+1,mk3,Lt3,zo,rfl,rfl,Mem.le_trans Hk.out.2.1 Hst.out.2.2.1,?_,Hst.out.2.1.drN nq⟩;rw[← HDl.out b (by rw[Ht.out];exact Hbf.out)]
   exact Hst.out.1
  | true=>
   have Hbt:=zh (hbt rfl);clear hbt hbf;go_wp2;refine aR [0,1,2,3,4,5,6,12,13,25,26,27,68] (fun vs w'=>∃(bb:Bool) (mk4:Mem) (Lt4:List Item),vs=[.int .i64 s,.int .i64 ((n:Int)+1),vp,.pointer (some ⟨gy,0,none⟩),.pointer (some ⟨ga,0,none⟩),.pointer (some ⟨gt,0,none⟩),.pointer (some ⟨gv,0,none⟩),.pointer (some ⟨E,0,none⟩),.int .i64 b,.slice (some ⟨eb,eo,none⟩) es.length ec,.int .i64 es.length,.int .i64 i,.bool bb] ∧
    mk3.le mk4∧Own w0 m w' mk4 (Lt4 ++ Lr)∧(bb=false→B (pre ++ DD (b+1)) Lt4)∧(bb=true→∃qq,qq≠[]∧qq <+: (wex T n e.to).map ((u ++ [UInt8.ofNat b]) ++ ·)∧Bx ((pre ++ DD b) ++ qq) Lt4)) ?_ ?_
   ·intro V hV;have hpp:=Hp.out.le (Mem.le_trans Hk.out.2.1 Hst.out.2.2.1);obtain⟨hbh,hne⟩:=Hbt.out;have hwu:IntKind.u8.wrap (b:Int)=(b:Int):=IntWalk.u8_in _ zo;have hcvf:=fun w' (h:mk3.inn w')=>Mem.aj h (Mem.aA Hst.out.2.2.2 HE.out.cv);have hx3:=fun w' (h:mk3.inn w')=>Mem.aj h (Mem.aA hle3 x3);simp only[List.getElem_toArray,List.getElem_cons_succ,List.getElem_cons_zero] at hx3;rw[Ht.out] at hx3;have hw2:IntKind.i64.wrap (n:Int)=(n:Int):=IntWalk.i64_in _ zo;have Hcvf:=zh hcvf;have Hx3:=zh hx3;clear hcvf hx3;have hul:u.length≤1000000:=zo;refine mW (fun _ w'=>mk3.inn w') zk ?_;have hO:=(Hst.out.2.1.drN nq).dr;have hS:mk3.inn (W2.drewN nq).drew:=hO.inn;have hxl:=Mem.ay hS (Mem.aA hle3 x3);generalize (W2.drewN nq).drew=w4 at *
    rcases hpp with ⟨hu,hv⟩ | ⟨hu,g,c,hv,hp3,hp4,hp5⟩
    ·subst hv;have hpf:mO mk3 (.slice none 0 0) u:=.inl ⟨hu,rfl⟩;have hcut:cutV (.slice none 0 0) u=.slice none 0 0:=by simp[cutV,hu]
     clear hu;refine aX 0 rfl zk (fun _ _ _ h=>h) hS (aB rfl fun w' hS'=>by have q:=Hcvf.out _ hS';have q1:=Hx3.out _ hS';have q2:=Mem.ay hS' (Mem.aA hle3 x3);have q3:=Mem.ay hS' (Mem.aA Hst.out.2.2.2 HE.out.cv);go_simp;rfl) ?_;refine aX 1 rfl zk (fun _ _ _ h=>h) hS (aB rfl fun w' hS'=>by have q:=Hcvf.out _ hS';have q1:=Hx3.out _ hS';have q2:=Mem.ay hS' (Mem.aA hle3 x3);have q3:=Mem.ay hS' (Mem.aA Hst.out.2.2.2 HE.out.cv);go_simp;rfl) ?_;refine aX 2 rfl zk (fun _ _ _ h=>h) hS (aB rfl fun w' hS'=>by have q:=Hcvf.out _ hS';have q1:=Hx3.out _ hS';have q2:=Mem.ay hS' (Mem.aA hle3 x3);have q3:=Mem.ay hS' (Mem.aA Hst.out.2.2.2 HE.out.cv);go_simp;rfl) ?_;refine aX 3 rfl zk (fun _ _ _ h=>h) hS (aB rfl fun w' hS'=>by have q:=Hcvf.out _ hS';have q1:=Hx3.out _ hS';have q2:=Mem.ay hS' (Mem.aA hle3 x3);have q3:=Mem.ay hS' (Mem.aA Hst.out.2.2.2 HE.out.cv);go_simp;rfl) ?_;refine aX 4 rfl zk (fun _ _ _ h=>h) hS (aB rfl fun w' hS'=>by have q:=Hcvf.out _ hS';have q1:=Hx3.out _ hS';have q2:=Mem.ay hS' (Mem.aA hle3 x3);have q3:=Mem.ay hS' (Mem.aA Hst.out.2.2.2 HE.out.cv);go_simp;rfl) ?_;refine aX 5 rfl zk (fun _ _ _ h=>h) hS (aB rfl fun w' hS'=>by have q:=Hcvf.out _ hS';have q1:=Hx3.out _ hS';have q2:=Mem.ay hS' (Mem.aA hle3 x3);have q3:=Mem.ay hS' (Mem.aA Hst.out.2.2.2 HE.out.cv);go_simp;rfl) ?_;refine aX 6 rfl zk (fun _ _ _ h=>h) hS (aB rfl fun w' hS'=>by have q:=Hcvf.out _ hS';have q1:=Hx3.out _ hS';have q2:=Mem.ay hS' (Mem.aA hle3 x3);have q3:=Mem.ay hS' (Mem.aA Hst.out.2.2.2 HE.out.cv);go_simp;rfl) ?_;refine aX 7 rfl zk (fun _ _ _ h=>h) hS (aB rfl fun w' hS'=>by have q:=Hcvf.out _ hS';have q1:=Hx3.out _ hS';have q2:=Mem.ay hS' (Mem.aA hle3 x3);have q3:=Mem.ay hS' (Mem.aA Hst.out.2.2.2 HE.out.cv);go_simp;rfl) ?_;refine aX 8 rfl zk (fun _ _ _ h=>h) hS (aB rfl fun w' hS'=>by have q:=Hcvf.out _ hS';have q1:=Hx3.out _ hS';have q2:=Mem.ay hS' (Mem.aA hle3 x3);have q3:=Mem.ay hS' (Mem.aA Hst.out.2.2.2 HE.out.cv);go_simp;rfl) ?_;refine aX 9 rfl zk (fun _ _ _ h=>h) hS (aB rfl fun w' hS'=>by have q:=Hcvf.out _ hS';have q1:=Hx3.out _ hS';have q2:=Mem.ay hS' (Mem.aA hle3 x3);have q3:=Mem.ay hS' (Mem.aA Hst.out.2.2.2 HE.out.cv);go_simp;rfl) ?_;refine aX 10 rfl zk (fun _ _ _ h=>h) hS (aB rfl fun w' hS'=>by have q:=Hcvf.out _ hS';have q1:=Hx3.out _ hS';have q2:=Mem.ay hS' (Mem.aA hle3 x3);have q3:=Mem.ay hS' (Mem.aA Hst.out.2.2.2 HE.out.cv);go_simp;rfl) ?_;refine aX 11 rfl zk (fun _ _ _ h=>h) hS (aB rfl fun w' hS'=>by have q:=Hcvf.out _ hS';have q1:=Hx3.out _ hS';have q2:=Mem.ay hS' (Mem.aA hle3 x3);have q3:=Mem.ay hS' (Mem.aA Hst.out.2.2.2 HE.out.cv);go_simp;rfl) ?_;refine aX 12 rfl zk (fun _ _ _ h=>h) hS (aB rfl fun w' hS'=>by have q:=Hcvf.out _ hS';have q1:=Hx3.out _ hS';have q2:=Mem.ay hS' (Mem.aA hle3 x3);have q3:=Mem.ay hS' (Mem.aA Hst.out.2.2.2 HE.out.cv);go_simp;rfl) ?_;refine bq 13 zk (aP rfl rfl (aM (by go_simp;first | exact⟨rfl,rfl⟩ | rfl) ⟨.inr (hO.al #[.int .u8 b] 5).inn,?_⟩));go_simp;have hO6:=hO.al #[.int .u8 b] 5;obtain⟨v',w6,mk4,hr,hO7,hle7,hpf7⟩:=og hpf (by omega:b<256) hO6 w4.heap.size (hO6.obj.cell (i:=0) rfl) hul;rw[hcut] at hr;refine bq 14 zk (aP rfl rfl (wp_append_run (.tmp 62) (.tmp 65) 185 rfl rfl rfl hr ⟨.inr (Mem.dm hle7 hO7.inn),?_⟩));go_simp;have hIH:=HIH.out t (u ++ [UInt8.ofNat b]) v' (pre ++ DD b) mk4 w6 Lt3 htl hne (by simp;omega) (Mem.le_trans Hst.out.2.2.2 hle7) hpf7 Hst.out.1 (hO7.perm (List.Perm.refl _)).tail;refine bq 15 zk (aP rfl rfl (gq (by go_simp) hIH ?_));rintro e' w7 (⟨rfl,mk5,Lt5,k1,k2,k3⟩ | ⟨rfl,qq,mk5,Lt5,k0,k1,k2,k3,k4⟩)
     ·refine ⟨_,rfl,.inr (Mem.dm (Mem.le_trans hle7 k3) k2.inn),?_⟩;go_simp;refine bq 16 zk (aP rfl rfl (aM (by go_simp;first | done | exact⟨rfl,rfl⟩ | rfl) ⟨.inl rfl,?_⟩));refine fq zk ?_ _;refine hV.out _ _ rfl ⟨false,mk5,Lt5,rfl,Mem.le_trans hle7 k3,k2,fun _=>?_,fun h=>by cases h⟩;rw[HDn.out b hb1,← List.append_assoc,Ht.out];exact k1
     ·refine ⟨_,rfl,.inr (Mem.dm (Mem.le_trans hle7 k4) k3.inn),?_⟩;go_simp;refine bq 16 zk (aP rfl rfl (aM (by go_simp;first | done | exact⟨rfl,rfl⟩ | rfl) ⟨.inl rfl,?_⟩));refine fq zk ?_ _;exact hV.out _ _ rfl ⟨true,mk5,Lt5,rfl,Mem.le_trans hle7 k4,k3,(fun h=>by cases h),fun _=>⟨qq,k0,by rw[Ht.out];exact k1,k2⟩⟩
    ·subst hv;have hpf:mO mk3 (.slice (some ⟨g,0,none⟩) u.length c) u:=.inr ⟨hu,g,c,rfl,hp3,hp4,hp5⟩;have hcut:cutV (.slice (some ⟨g,0,none⟩) u.length c) u=.slice (some ⟨g,0,none⟩) u.length u.length:=rfl;have hu2:0<u.length:=List.length_pos_iff.2 hu;unfold maxLen at hp4;clear hu hp5;refine aX 0 rfl zk (fun _ _ _ h=>h) hS (aB rfl fun w' hS'=>by have q:=Hcvf.out _ hS';have q1:=Hx3.out _ hS';have q2:=Mem.ay hS' (Mem.aA hle3 x3);have q3:=Mem.ay hS' (Mem.aA Hst.out.2.2.2 HE.out.cv);go_simp;rfl) ?_;refine aX 1 rfl zk (fun _ _ _ h=>h) hS (aB rfl fun w' hS'=>by have q:=Hcvf.out _ hS';have q1:=Hx3.out _ hS';have q2:=Mem.ay hS' (Mem.aA hle3 x3);have q3:=Mem.ay hS' (Mem.aA Hst.out.2.2.2 HE.out.cv);go_simp;rfl) ?_;refine aX 2 rfl zk (fun _ _ _ h=>h) hS (aB rfl fun w' hS'=>by have q:=Hcvf.out _ hS';have q1:=Hx3.out _ hS';have q2:=Mem.ay hS' (Mem.aA hle3 x3);have q3:=Mem.ay hS' (Mem.aA Hst.out.2.2.2 HE.out.cv);go_simp;rfl) ?_;refine aX 3 rfl zk (fun _ _ _ h=>h) hS (aB rfl fun w' hS'=>by have q:=Hcvf.out _ hS';have q1:=Hx3.out _ hS';have q2:=Mem.ay hS' (Mem.aA hle3 x3);have q3:=Mem.ay hS' (Mem.aA Hst.out.2.2.2 HE.out.cv);go_simp;rfl) ?_;refine aX 4 rfl zk (fun _ _ _ h=>h) hS (aB rfl fun w' hS'=>by have q:=Hcvf.out _ hS';have q1:=Hx3.out _ hS';have q2:=Mem.ay hS' (Mem.aA hle3 x3);have q3:=Mem.ay hS' (Mem.aA Hst.out.2.2.2 HE.out.cv);go_simp;rfl) ?_;refine aX 5 rfl zk (fun _ _ _ h=>h) hS (aB rfl fun w' hS'=>by have q:=Hcvf.out _ hS';have q1:=Hx3.out _ hS';have q2:=Mem.ay hS' (Mem.aA hle3 x3);have q3:=Mem.ay hS' (Mem.aA Hst.out.2.2.2 HE.out.cv);go_simp;rfl) ?_;refine aX 6 rfl zk (fun _ _ _ h=>h) hS (aB rfl fun w' hS'=>by have q:=Hcvf.out _ hS';have q1:=Hx3.out _ hS';have q2:=Mem.ay hS' (Mem.aA hle3 x3);have q3:=Mem.ay hS' (Mem.aA Hst.out.2.2.2 HE.out.cv);go_simp;rfl) ?_;refine aX 7 rfl zk (fun _ _ _ h=>h) hS (aB rfl fun w' hS'=>by have q:=Hcvf.out _ hS';have q1:=Hx3.out _ hS';have q2:=Mem.ay hS' (Mem.aA hle3 x3);have q3:=Mem.ay hS' (Mem.aA Hst.out.2.2.2 HE.out.cv);go_simp;rfl) ?_;refine aX 8 rfl zk (fun _ _ _ h=>h) hS (aB rfl fun w' hS'=>by have q:=Hcvf.out _ hS';have q1:=Hx3.out _ hS';have q2:=Mem.ay hS' (Mem.aA hle3 x3);have q3:=Mem.ay hS' (Mem.aA Hst.out.2.2.2 HE.out.cv);go_simp;rfl) ?_;refine aX 9 rfl zk (fun _ _ _ h=>h) hS (aB rfl fun w' hS'=>by have q:=Hcvf.out _ hS';have q1:=Hx3.out _ hS';have q2:=Mem.ay hS' (Mem.aA hle3 x3);have q3:=Mem.ay hS' (Mem.aA Hst.out.2.2.2 HE.out.cv);go_simp;rfl) ?_;refine aX 10 rfl zk (fun _ _ _ h=>h) hS (aB rfl fun w' hS'=>by have q:=Hcvf.out _ hS';have q1:=Hx3.out _ hS';have q2:=Mem.ay hS' (Mem.aA hle3 x3);have q3:=Mem.ay hS' (Mem.aA Hst.out.2.2.2 HE.out.cv);go_simp;rfl) ?_;refine aX 11 rfl zk (fun _ _ _ h=>h) hS (aB rfl fun w' hS'=>by have q:=Hcvf.out _ hS';have q1:=Hx3.out _ hS';have q2:=Mem.ay hS' (Mem.aA hle3 x3);have q3:=Mem.ay hS' (Mem.aA Hst.out.2.2.2 HE.out.cv);go_simp;rfl) ?_;refine aX 12 rfl zk (fun _ _ _ h=>h) hS (aB rfl fun w' hS'=>by have q:=Hcvf.out _ hS';have q1:=Hx3.out _ hS';have q2:=Mem.ay hS' (Mem.aA hle3 x3);have q3:=Mem.ay hS' (Mem.aA Hst.out.2.2.2 HE.out.cv);go_simp;rfl) ?_;refine bq 13 zk (aP rfl rfl (aM (by go_simp;first | exact⟨rfl,rfl⟩ | rfl) ⟨.inr (hO.al #[.int .u8 b] 5).inn,?_⟩));go_simp;have hO6:=hO.al #[.int .u8 b] 5;obtain⟨v',w6,mk4,hr,hO7,hle7,hpf7⟩:=og hpf (by omega:b<256) hO6 w4.heap.size (hO6.obj.cell (i:=0) rfl) hul;rw[hcut] at hr;refine bq 14 zk (aP rfl rfl (wp_append_run (.tmp 62) (.tmp 65) 185 rfl rfl rfl hr ⟨.inr (Mem.dm hle7 hO7.inn),?_⟩));go_simp;have hIH:=HIH.out t (u ++ [UInt8.ofNat b]) v' (pre ++ DD b) mk4 w6 Lt3 htl hne (by simp;omega) (Mem.le_trans Hst.out.2.2.2 hle7) hpf7 Hst.out.1 (hO7.perm (List.Perm.refl _)).tail;refine bq 15 zk (aP rfl rfl (gq (by go_simp) hIH ?_));rintro e' w7 (⟨rfl,mk5,Lt5,k1,k2,k3⟩ | ⟨rfl,qq,mk5,Lt5,k0,k1,k2,k3,k4⟩)
     ·refine ⟨_,rfl,.inr (Mem.dm (Mem.le_trans hle7 k3) k2.inn),?_⟩;go_simp;refine bq 16 zk (aP rfl rfl (aM (by go_simp;first | done | exact⟨rfl,rfl⟩ | rfl) ⟨.inl rfl,?_⟩));refine fq zk ?_ _;refine hV.out _ _ rfl ⟨false,mk5,Lt5,rfl,Mem.le_trans hle7 k3,k2,fun _=>?_,fun h=>by cases h⟩;rw[HDn.out b hb1,← List.append_assoc,Ht.out];exact k1
     ·refine ⟨_,rfl,.inr (Mem.dm (Mem.le_trans hle7 k4) k3.inn),?_⟩;go_simp;refine bq 16 zk (aP rfl rfl (aM (by go_simp;first | done | exact⟨rfl,rfl⟩ | rfl) ⟨.inl rfl,?_⟩));refine fq zk ?_ _;exact hV.out _ _ rfl ⟨true,mk5,Lt5,rfl,Mem.le_trans hle7 k4,k3,(fun h=>by cases h),fun _=>⟨qq,k0,by rw[Ht.out];exact k1,k2⟩⟩
   rintro z5 vs w5 - ⟨bb,mk4,Lt4,rfl,hle4,hO4,hB4,hX4⟩;simp[litL,lk]
   cases bb with
   | true=>
    obtain⟨qq,hq1,hq2,hq3⟩:=hX4 rfl;have Hq:=zh (zi hq1 (zi hq2 (zi hq3 (zi hO4 hle4))));clear hX4 hB4 hq1 hq2 hq3 hO4 hle4 y1 y2 y3 hct z1w hur;go_wp2;refine hR.out _ _ (.inr ⟨rfl,DD b ++ qq,mk4,Lt4,?_,?_,?_,Hq.out.2.2.2.1,Mem.le_trans (Mem.le_trans Hk.out.2.1 Hst.out.2.2.1) Hq.out.2.2.2.2⟩)
    ·intro h;exact Hq.out.1 (List.append_eq_nil_iff.1 h).2
    ·have h1:=HDp.out b Hbt.out.1;rw[HDn.out b hb1] at h1;exact ((List.prefix_append_right_inj _).2 Hq.out.2.1).trans h1
    ·rw[← List.append_assoc];exact Hq.out.2.2.1
   | false=>
    have hB5:=hB4 rfl;have Hq:=zh (zi hB5 (zi hO4 hle4));clear hX4 hB4 hB5 hO4 hle4 y1 y2 y3 hct z1w hur;go_wp2;exact hY.out _ _ _ (by have:=Hbt.out.1;omega) rfl ⟨b+1,mk4,Lt4,zo,by have:=Hbt.out.1;omega,rfl,rfl,Mem.le_trans Hst.out.2.2.1 Hq.out.2.2,Hq.out.1,Hq.out.2.1⟩
 ·obtain rfl:i=es.length:=zo;rw[List.take_length] at hB1;have Hq:=zh (zi hB1 (zi hO1 hle1));clear hB1 hO1 hle1;go_wp2;exact hR.out _ _ (.inl ⟨rfl,mk1,Lt1,Hq.out.1,Hq.out.2.1,Hq.out.2.2⟩)
theorem yE {T:Table} {l:Nat} {w0:World} {m mk0:Mem} {B Bx:List (List UInt8)→List Item→Prop} {Lr:List Item} {gy ga gt gv tb ntab ctab:Nat} {va:Value} (hE:Bf T l w0 m mk0 B Bx Lr gy ga gt gv tb ntab ctab va)
 (hwf:WF T) (hby:Bytes T):∀n,n≤ntab→LZ T w0 m mk0 B Bx Lr gy ga gt gv n
 | 0,_=>EM hE
 | n+1,h=>EN hE hwf hby n h (yE hE hwf hby n zo)
theorem Own.Ff {w0 w:World} {m mk:Mem} {L:List Cl.Item} {g:Nat} {t:TypeId} {v:Value} (h:Own w0 m w mk (.obj g t #[v]::L)):∃mk',Own w0 m w mk' L∧mk.le mk'∧mk'.cell g 0=some v:=
 ⟨_,h.jm,Mem.kC h.jr,Mem.dR h.obj rfl⟩
theorem KE {T:Table} {l:Nat} {w0:World} {m mk0:Mem} {B Bx:List (List UInt8)→List Item→Prop} {Lr:List Item} {tb n ctab clast ntab:Nat} {va:Value} (hwf:WF T) (hby:Bytes T)
 (hY:uB Tryz.prog l (fun x:List UInt8=>#[Value.string ⟨x.toArray⟩]) w0 m mk0 B Bx) (htab:aQ mk0 va T) (hpos:0<T.length) (hnt:ntab≤maxLen) (hn:n<ntab) (hn2:n≤1000000) (_:clast≤maxLen)
 (rows:∀W mk Lt,Own w0 m W mk (Lt ++ Lr)→∀i,i<ntab→∃u,W.cell? ⟨tb,i,none⟩=some u∧fJ mk0 u (canN T i))
 (pre:List (List UInt8)) (mk:Mem) (W:World) (Lt:List Item) (hle:mk0.le mk) (hB:B pre Lt) (hO:Own w0 m W mk (Lt ++ Lr)) :
 Calls Tryz.prog 219 #[.agg #[va],.slice (some ⟨tb,n,none⟩) 1 clast,.int .i64 n,.func (.yield l) #[] #[],.slice (some ⟨tb,0,none⟩) ntab ctab] W (Ka w0 m mk B Bx Lr pre (wex T n 0)):=by
 have hO1:=((hO.al #[va] 27).al #[.func (.yield l) #[] #[]] 163).al #[.slice (some ⟨tb,0,none⟩) ntab ctab] 199;have hsz1:(W.alloc (.cells #[va] 27)).heap.size=W.heap.size+1:=by simp
 have hsz2:((W.alloc (.cells #[va] 27)).alloc (.cells #[.func (.yield l) #[] #[]] 163)).heap.size=W.heap.size+1+1:=by simp
 rw[hsz2,hsz1] at hO1;obtain⟨ur,hur,hb⟩:=rows W mk Lt hO n hn;obtain⟨ra,rc,rfl,r2,r3,r4⟩:=hb;have hcl0:=oN T n;obtain⟨rb,ro,rfl,r5⟩:=r4 (by intro h;rw[h] at hcl0;simp at hcl0;omega);have h0:0<(canN T n).length:=zo;have z1:=r5 0 h0;rw[Nat.add_zero] at z1;have z1w:=Mem.aj hO.inn (Mem.aA hle z1);have z1l:=Mem.ay hO.inn (Mem.aA hle z1);have hurl:tb<W.heap.size:=by
  simp only[World.cell?] at hur
  split at hur
  ·rename_i hb;exact (Array.getElem?_eq_some_iff.1 hb).1
  ·cases hur
 have hcv:(canN T n)[0]=true↔wex T n ((0:Nat):Int)≠[]:=by
  have h1:=rz T n hpos;rw[List.getElem?_eq_getElem h0] at h1;rw[Option.some.inj h1];simp
 obtain⟨cb,hcb⟩:∃cb,(canN T n)[0]=cb:=⟨_,rfl⟩;rw[hcb] at z1w hcv;have hcl2:0<(canN T n).length:=h0;have hta:=htab;obtain⟨aa,ac,rfl,-⟩:=htab;have HO1:=zh (zi hO1 (zi hB (zi hle (zi rows (zi hY (zi hta (zi hwf hby)))))));have Hcv:=zh hcv;unfold maxLen at r3 hnt;generalize canN T n=cl at *
 clear hO1 hO hB hle hcl0 hcv hcb z1 r4 r5 hsz1 hsz2 rows hY hta hwf hby;have hurl1:tb<W.heap.size+1:=zo;have hurl2:tb<W.heap.size+1+1:=zo;have hurl3:tb<W.heap.size+1+1+1:=zo;have z1l1:rb<W.heap.size+1:=zo;have z1l2:rb<W.heap.size+1+1:=zo;have z1l3:rb<W.heap.size+1+1+1:=zo;refine av fun R hR=>?_
 cases cb with
 | false=>
  go_enter Tryz.func219,Tryz.ntmps219
  go_wp2;have hw0:wex T n 0=[]:=Classical.byContradiction fun h=>by have:=Hcv.out.2 h;cases this
  refine hR.out _ _ (.inl ⟨rfl,mk,Lt,by rw[hw0,List.append_nil];exact HO1.out.2.1,?_,Mem.le_refl _⟩)
  exact HO1.out.1.tail.tail.tail
 | true=>
  have hO2:=(HO1.out.1.al #[.func (.func 252) #[] #[.pointer (some ⟨W.heap.size+1,0,none⟩),.pointer (some ⟨W.heap.size,0,none⟩),.pointer (some ⟨W.heap.size+1+1,0,none⟩),.pointer (some ⟨W.heap.size+1+1+1,0,none⟩)]] 236);have hsz3:(((W.alloc (.cells #[.slice aa T.length ac] 27)).alloc (.cells #[.func (.yield l) #[] #[]] 163)).alloc (.cells #[.slice (some ⟨tb,0,none⟩) ntab ctab] 199)).heap.size=W.heap.size+1+1+1:=by simp
  rw[hsz3] at hO2;obtain⟨m1,hO3,l1,c1⟩:=hO2.Ff;obtain⟨m2,hO4,l2,c2⟩:=hO3.Ff;obtain⟨m3,hO5,l3,c3⟩:=hO4.Ff;obtain⟨m4,hO6,l4,c4⟩:=hO5.Ff;have hle:=HO1.out.2.2.1;have hle4:=Mem.le_trans (Mem.le_trans (Mem.le_trans l1 l2) l3) l4;have hE:Bf T l w0 m m4 B Bx Lr (W.heap.size+1) W.heap.size (W.heap.size+1+1) (W.heap.size+1+1+1) tb ntab ctab (.slice aa T.length ac):=by
   refine ⟨fun pre x W' mk' Lt' Lr' h1 h2 h3=>HO1.out.2.2.2.2.1 pre x W' mk' Lt' Lr' h1 h2 (Mem.le_trans (Mem.le_trans hle hle4) h3),Mem.aA l4 c3,c4,Mem.aA (Mem.le_trans l3 l4) c2,
    Mem.aA (Mem.le_trans (Mem.le_trans l2 l3) l4) c1,aZ (Mem.le_trans hle hle4) HO1.out.2.2.2.2.2.1,fun W' mk' Lt' h i hi=>?_,by unfold maxLen;exact hnt⟩
   obtain⟨u,h1,h2⟩:=HO1.out.2.2.2.1 W' mk' Lt' h i hi;exact⟨u,h1,gF (Mem.le_trans hle hle4) h2⟩
  have hV:=yE hE HO1.out.2.2.2.2.2.2.1 HO1.out.2.2.2.2.2.2.2 n zo 0 [] (.slice none 0 0) pre m4 _ Lt hpos (Hcv.out.1 rfl) (by simp;omega) (Mem.le_refl _) (.inl ⟨rfl,rfl⟩) HO1.out.2.1 hO6;rw[show ((0:Nat):Int)=(0:Int) from rfl] at hV;have HV:=zh (zi hV hle4);clear hV hE hO6 hO5 hO4 hO3 hO2 c1 c2 c3 c4 l1 l2 l3 l4 hle hle4 hsz3 m1 m2 m3
  go_enter Tryz.func219,Tryz.ntmps219
  go_wp2_with fail
  refine HV.out.1.mono ?_;rintro e' w7 (⟨rfl,mk5,Lt5,k1,k2,k3⟩ | ⟨rfl,qq,mk5,Lt5,k0,k1,k2,k3,k4⟩)
  ·have Hq:=zh (zi k1 (zi k2 k3));clear k1 k2 k3;go_wp2;exact hR.out _ _ (.inl ⟨rfl,mk5,Lt5,by simpa using Hq.out.1,Hq.out.2.1,Mem.le_trans HV.out.2 Hq.out.2.2⟩)
  ·have Hq:=zh (zi k0 (zi k1 (zi k2 (zi k3 k4))));clear k0 k1 k2 k3 k4;go_wp2;exact hR.out _ _ (.inr ⟨rfl,qq,mk5,Lt5,Hq.out.1,by simpa using Hq.out.2.1,Hq.out.2.2.1,Hq.out.2.2.2.1,Mem.le_trans HV.out.2 Hq.out.2.2.2.2⟩)
theorem set_mid {α:Type} (A C:List α) (x y:α) {k:Nat} (h:A.length=k):(A ++ x::C).set k y=A ++ y::C:=by
 subst h;simp
theorem Ni {α:Type} (A C:List α) (x:α) {k:Nat} (h:A.length=k):(A ++ x::C)[k]?=some x:=by
 subst h;simp
def canF (less:List Bool) (s:Sn):Bool:=s.edges.any fun e=>less.getD e.to.toNat false
theorem Nt (v0 v1:Value) (l:Table) (less:List Bool) (m:Mem) (w:World) (hm:m.inn w) (hl:aQ m v0 l) (hb:fJ m v1 less) (hwf:WF l) (hlen:l.length≤1000000) (hle:less.length=l.length) :
 Calls Tryz.prog 217 #[.agg #[v0],v1] w fun e w'=>∃r,e=.returned r∧Below w.heap.size w w'∧fJ (m.grow w w') r (l.map (canF less)):=by
 obtain⟨a,c,rfl,h1,h2,h3⟩:=hl;obtain⟨ba,bc,rfl,b1,b2,b3⟩:=hb;unfold maxLen at h2 b2;have hO:=(Own.start hm).al #[.slice a l.length c] 27;have HO:=zh hO;have hle1:l.length≤less.length:=zo;have hle2:less.length≤l.length:=zo;have g1:=hO.obj.cell (i:=0) rfl;have g2:=hO.obj.lt;clear hO hle;refine av fun R hR=>?_
 go_enter Tryz.func217,Tryz.ntmps217
 go_wp2_with (refine wpList_make_row Cq rfl (.tmp 11) (.tmp 11) rfl l.length rfl rfl zo (by unfold maxLen;omega) ?_)
 intro w5 hown hgrow;have hszz:(w.alloc (.cells #[.slice a l.length c] 27)).heap.size=w.heap.size+1:=by simp
 have hO:=HO.out.make (by rw[hszz];exact hown) hgrow;rw[hszz] at hO;have hrep:List.replicate l.length (Value.bool false)=((l.take 0).map (canF less) ++ List.replicate (l.length - 0) false).map Value.bool:=by simp
 rw[hrep] at hO;have hg1:=hO.swap.obj.cell (i:=0) rfl;have hg2:=hO.swap.obj.lt;clear hszz;generalize w.heap.size+1=B at *
 have HO2:=zh hO;clear hown hgrow hrep HO g1 g2 hO;go_wp2;refine au [1,2,5,15,16] (fun n vs wr=>∃(k:Nat),k≤l.length∧n=l.length - k∧vs=[.slice ba less.length bc,.pointer (some ⟨w.heap.size,0,none⟩),.slice (some ⟨B,0,none⟩) l.length l.length,.int .i64 l.length,.int .i64 k] ∧
  Own w m wr m [.row (.slice (some ⟨B,0,none⟩) l.length l.length) 4 1 l.length (((l.take k).map (canF less) ++ List.replicate (l.length - k) false).map Value.bool),.obj w.heap.size 27 #[.slice a l.length c]]) ?_ ?_
 ·exact⟨_,0,Nat.zero_le _,rfl,rfl,HO2.out⟩
 clear HO2 hg1 hg2;rintro X z n vs wr hX - ⟨k,hk,rfl,rfl,hO⟩;simp[litL,lk];have g1:=hO.swap.obj.cell (i:=0) rfl;have g2:=hO.swap.obj.lt;by_cases hlt:k<l.length
 ·obtain⟨b,off,rfl,h4⟩:=h3 (by intro h;simp[h] at hlt);obtain⟨-,ve,s2,ea,ec,rfl,g4,g5,g6⟩:=h4 k hlt;have s2w:=Mem.aj hO.inn s2;have s2l:=Mem.ay hO.inn s2;have htk:(l.take (k+1)).map (canF less)=(l.take k).map (canF less) ++ [canF less l[k]]:=by
   rw[List.take_succ_eq_append_getElem hlt,List.map_append];rfl
  have hrp:List.replicate (l.length - k) false=false::List.replicate (l.length - (k+1)) false:=by
   rw[show l.length - k=(l.length - (k+1))+1 by omega];rfl
  have hAl:((l.take k).map (canF less)).length=k:=by simp;omega
  have hcf:canF less l[k]=(l[k]).edges.any fun e=>less.getD e.to.toNat false:=rfl;have hlh:=di (hwf l[k] (List.getElem_mem hlt));rw[hrp] at hO;have Htk:=zh (zi htk hcf);generalize (l[k]).edges=es at *
  have HO:=zh hO;unfold maxLen at g5;generalize hAA:(l.take k).map (canF less)=AA at *
  clear htk hrp hcf hAA h4 hO;go_wp2;refine au [1,2,5,15,16,6,24,25,26] (fun n vs w2=>∃(j:Nat),j≤es.length∧n=es.length - j∧vs=[.slice ba less.length bc,.pointer (some ⟨w.heap.size,0,none⟩),.slice (some ⟨B,0,none⟩) l.length l.length,.int .i64 l.length,.int .i64 k,.int .i64 k,.slice ea es.length ec,.int .i64 es.length,.int .i64 j] ∧
   Own w m w2 m [.row (.slice (some ⟨B,0,none⟩) l.length l.length) 4 1 l.length ((AA ++ ((es.take j).any fun e=>less.getD e.to.toNat false)::List.replicate (l.length - (k+1)) false).map Value.bool),.obj w.heap.size 27 #[.slice (some ⟨b,off,none⟩) l.length c]]) ?_ ?_
  ·exact⟨_,0,Nat.zero_le _,rfl,rfl,HO.out⟩
  clear HO;rintro Y z2 n vs w2 hY - ⟨j,hj,rfl,rfl,hO⟩;simp[litL,lk];by_cases hlt2:j<es.length
  ·obtain⟨eb,eo,rfl,g7⟩:=g6 (by intro h;simp[h] at hlt2);obtain⟨e1,e2,e3,e4,e5,-⟩:=g7 j hlt2;have e1w:=Mem.aj hO.inn e1;have e2w:=Mem.aj hO.inn e2;have e3w:=Mem.aj hO.inn e3;have el:=Mem.ay hO.inn e1;have hte:=hlh es[j] (List.getElem_mem hlt2);have han:((es.take (j+1)).any fun e=>less.getD e.to.toNat false)=(((es.take j).any fun e=>less.getD e.to.toNat false) || less.getD (es[j]).to.toNat false):=by
    rw[List.take_succ_eq_append_getElem hlt2,List.any_append];simp
   obtain⟨t,ht⟩:=Int.eq_ofNat_of_zero_le hte.2.1;have htl:t<less.length:=zo;rw[ht,Int.toNat_natCast] at han;have hlg:less.getD t false=less[t]:=by simp[htl]
   rw[hlg] at han;obtain⟨bb,bo,rfl,b4⟩:=b3 (by intro h;simp[h] at htl);have hbt:=b4 t htl;have hbw:=Mem.aj hO.inn hbt;have hbl:=Mem.ay hO.inn hbt;generalize less[t]=y at *
   rw[ht] at e3w;obtain⟨cur,hcur⟩:∃cur,((es.take j).any fun e=>less.getD e.to.toNat false)=cur:=⟨_,rfl⟩;rw[hcur] at hO han;have Han:=zh han;generalize es[j]=e at *
   have r1:=aN (j:=k) (u:=.bool cur) hO.row (by rw[List.getElem?_map,Ni _ _ _ hAl];rfl);have r2:=bO hO.row k;have r3:=(World.ownsRow.lt hO.row _ rfl).2;have hO2:=(hO.setRow k (.bool (cur || y))).al' (.cells #[.int .u8 e.lo,.int .u8 e.hi,.int .i64 t] 104);rw[← List.map_set,set_mid _ _ _ _ hAl] at hO2;have HO2:=zh hO2;clear han hcur hO2 hO hlg ht hbt
   cases cur with
   | true=>
    go_wp2;refine hY.out _ _ _ zo rfl ⟨j+1,zo,rfl,rfl,?_⟩;rw[Han.out]
    exact HO2.out
   | false=>
    go_wp2;refine hY.out _ _ _ zo rfl ⟨j+1,zo,rfl,rfl,?_⟩;rw[Han.out];exact HO2.out
  ·obtain rfl:j=es.length:=zo;rw[List.take_length] at hO;have HO:=zh hO;clear hO;go_wp2;refine hX.out _ _ _ zo rfl ⟨k+1,zo,rfl,rfl,?_⟩;rw[Htk.out.1,Htk.out.2,List.append_assoc];exact HO.out
 ·obtain rfl:k=l.length:=zo;rw[List.take_length,Nat.sub_self,List.replicate_zero,List.append_nil] at hO;have hbs:=fV (l:=l.map (canF less)) (m:=m) (by rw[List.length_map];exact hO.row);have hfin:=gF hO.aY.done hbs;have Hk:=zh (zi hO.below hfin);clear hO hbs hfin;go_wp2;exact hR.out _ _ ⟨_,rfl,Hk.out.1,Hk.out.2⟩
theorem Du:eT Tryz.prog 199 147 1 24:=⟨Tryz.underlying199,zo,by
 obtain⟨i,h1,h2,h3,h4⟩:=info_parts (P:=Tryz.prog) (e:=147) (z:=.slice none 0 0) (size:=1) (bytes:=24) zk;exact⟨i,_,h1,h2,h3,h4,rfl⟩⟩
def mQ (T:Table) (mk:Mem) (xs:List Value) (n:Nat):Prop:=xs.length=n∧∀i,i<n→∃u,xs[i]?=some u∧fJ mk u (canN T i)
theorem mQ.mono {T:Table} {mk mk':Mem} {xs:List Value} {n:Nat} (h:mQ T mk xs n) (hl:mk.le mk'):mQ T mk' xs n:=
 ⟨h.1,fun i hi=>let ⟨u,h1,h2⟩:=h.2 i hi;⟨u,h1,gF hl h2⟩⟩
theorem mQ.push {T:Table} {mk:Mem} {xs:List Value} {n:Nat} (h:mQ T mk xs n) {u:Value} (hu:fJ mk u (canN T n)):mQ T mk (xs ++ [u]) (n+1):=by
 refine ⟨by rw[List.length_append,h.1];rfl,fun i hi=>?_⟩;by_cases e:i<n
 ·obtain⟨v,h1,h2⟩:=h.2 i e;exact⟨v,by rw[List.getElem?_append_left (by rw[h.1];exact e)];exact h1,h2⟩
 ·obtain rfl:i=n:=zo;exact⟨u,by rw[List.getElem?_append_right (by rw[h.1];exact Nat.le_refl _),h.1];simp,hu⟩
theorem MQ {w:World} {t:TypeId} {size n c g:Nat} {xs:List Value} (h:w.ownsRow 0 t size (.slice (some ⟨g,0,none⟩) n c) n xs):n≤c∧c≤maxLen:=by
 rcases h.2 with ⟨h,-⟩ | ⟨g',cap,cur,h,-,-,hnc,hcm,-⟩
 ·cases h
 ·injection h with h1 h2 h3;subst h3;exact⟨hnc,hcm⟩
theorem EI {T:Table} {l ga:Nat} {w0:World} {m mk:Mem} {B Bx:List (List UInt8)→List Item→Prop} {va:Value} {L1:List Item} {W:World} (hC:Canon T) (K:Nat) (hK:(K+1)*(T.length+1)≤1000000)
 (hY:uB Tryz.prog l (fun x:List UInt8=>#[Value.string ⟨x.toArray⟩]) w0 m mk B Bx) (ca:mk.cell ga 0=some va) (htab:aQ mk va T) (hBK:∀pre Lt,B pre Lt→pre.length<K) (hB:B [] L1) (hO:Own w0 m W mk L1) :
 Calls Tryz.prog 216 #[.func (.yield l) #[] #[],.pointer (some ⟨ga,0,none⟩)] W
  (Mt w0 m mk B Bx (fun xs=>∃n,xs=enum T 0 n∧∀y,aF T 0 y=true→y.length<n) (fun xs=>∃n,xs <+: enum T 0 n∧xs≠[])):=by
 have hKT:K*T.length+K+T.length+1≤1000000:=by
  have:(K+1)*(T.length+1)=K*T.length+K+T.length+1:=by rw[Nat.add_mul,Nat.mul_add];omega
  omega
 generalize hKL:K*T.length=KT at *
 have HKL:=zh hKL;have hta:=htab;obtain⟨aa,ac,rfl,a1,a2,a3⟩:=htab;have ha:=Mem.aj hO.inn ca;have hal:=Mem.ay hO.inn ca;have HX:=zh (zi hta (zi hY (zi hBK (zi hC ca))));have HO:=zh (zi hO hB);unfold maxLen at a2;refine av fun R hR=>?_;clear hO hB hta hY hBK hC hKL ca
 go_enter Tryz.func216,Tryz.ntmps216
 go_wp2;refine au [0,1,3,4,9,10] (fun q vs W1=>∃(k:Nat) (vf:Value),k≤T.length∧q=T.length - k∧vs=[.func (.yield l) #[] #[],.pointer (some ⟨ga,0,none⟩),.slice none 0 0,vf,.int .i64 T.length,.int .i64 k] ∧
  Own w0 m W1 mk (.row vf 4 1 k (((T.take k).map (·.accept)).map Value.bool)::L1)) ?_ ?_
 ·exact⟨_,0,.slice none 0 0,Nat.zero_le _,rfl,rfl,HO.out.1.dC _ _⟩
 clear ha hal;rintro X z q vs W1 hX - ⟨k,vf,hk,rfl,rfl,hO⟩;simp[litL,lk];obtain⟨vfa,vfc,rfl⟩:=aO hO.row;have ha:=Mem.aj hO.inn HX.out.2.2.2.2;have hal:=Mem.ay hO.inn HX.out.2.2.2.2;by_cases hlt:k<T.length
 ·obtain⟨b,off,rfl,a4⟩:=a3 (by intro h;simp[h] at hlt);have s1w:=Mem.aj hO.inn (a4 k hlt).1;have s1l:=Mem.ay hO.inn (a4 k hlt).1;have htk:(T.take (k+1)).map (·.accept)=(T.take k).map (·.accept) ++ [(T[k]).accept]:=by rw[List.take_succ_eq_append_getElem hlt,List.map_append];rfl
  have Htk:=zh htk;generalize (T[k]).accept=y at *
  have hO2:=hO.al #[.bool y] 4;have hnews:=hO2.obj.news rfl;clear htk hO a4
  go_wp2_with (at_builtin;refine aC Bw rfl (.tmp 13) (.tmp 20) rfl (.slice vfa k vfc) k _ rfl hO2.swap.row ⟨W1.heap.size,0,none⟩ 1 1 [.bool y] rfl rfl hnews (by simp[Value.oneCell']) (by unfold maxLen;omega) zo ?_)
  intro va' vc' w7 hown7 hgrow7 hrow7;have hO3:=(hO2.swap.app hown7 hgrow7 hrow7 zS).drop2;have HO3:=zh hO3;clear hO3 hO2 hown7 hgrow7 hrow7 hnews;go_wp2;refine hX.out _ _ _ zo rfl ⟨k+1,.slice va' (k+1) vc',zo,rfl,rfl,?_⟩;rw[Htk.out,List.map_append];have:=HO3.out;simpa using this
 ·obtain rfl:k=T.length:=zo;rw[List.take_length,← J2] at hO;have hb0:=fV (l:=canN T 0) (m:=mk) (by rw[oN];exact hO.row);have hle0:=Mem.cu (w:=W1) hO.free;have hO1:=hO.aY;generalize mk.addv W1 (.slice vfa T.length vfc)=mk1 at *
  have hO2:=((hO1.dC 147 1).al #[.slice vfa T.length vfc] 147);have hnews:=hO2.obj.news rfl;have Hb:=zh (zi hb0 hle0);clear hO hO1 hb0 hle0
  go_wp2_with (at_builtin;refine aC Du rfl (.tmp 23) (.tmp 25) rfl (.slice none 0 0) 0 [] rfl hO2.swap.row ⟨W1.heap.size,0,none⟩ 1 1 [.slice vfa T.length vfc] rfl rfl hnews (by simp[Value.oneCell']) (by unfold maxLen;omega) zo ?_)
  intro va' vc' w7 hown7 hgrow7 hrow7;have hO3:=(hO2.swap.app hown7 hgrow7 hrow7 zS).drop2;have HO3:=zh hO3;clear hO3 hO2 hown7 hgrow7 hrow7 hnews;go_wp2;refine au [0,1,3,6] (fun q vs W2=>∃(n rn:Nat) (vt:Value) (xs:List Value) (mk2:Mem) (Lt:List Item),q=KT+1 - n∧(n=0∧rn=1∨0<n∧rn=n∧n≤KT) ∧
   vs=[.func (.yield l) #[] #[],.pointer (some ⟨ga,0,none⟩),vt,.int .i64 n] ∧
   mk.le mk2∧B (enum T 0 n) Lt∧Own w0 m W2 mk2 (.row vt 147 1 rn xs::Lt)∧mQ T mk2 xs rn) ?_ ?_
  ·refine ⟨_,0,1,.slice va' 1 vc',[.slice vfa T.length vfc],mk1,L1,rfl,.inl ⟨rfl,rfl⟩,rfl,Hb.out.2,HO.out.2,by simpa using HO3.out,?_⟩;exact mQ.push (n:=0) (xs:=[]) ⟨rfl,fun i hi=>zo⟩ Hb.out.1
  clear HO3 ha hal;rintro Y z2 q vs W2 hY2 - ⟨n,rn,vt,xs,mk2,Lt,rfl,hrn,rfl,hle2,hB2,hO2,hCR⟩;simp[litL,lk];obtain⟨vta,vtc,rfl⟩:=aO hO2.row;have hrn1:0<rn:=zo;obtain⟨tb,rfl⟩:=iD hO2.row hrn1;have ha:=Mem.aj hO2.inn (Mem.aA hle2 HX.out.2.2.2.2);have hal:=Mem.ay hO2.inn (Mem.aA hle2 HX.out.2.2.2.2);have hnK:n≤KT:=zo;by_cases hT:0<T.length
  ·have hd1:decide (0<T.length)=true:=decide_eq_true hT;have HQ:=zh (zi hO2 (zi hB2 (zi hle2 hCR)));clear hO2 hB2 hle2 hCR
   go_upto_if 34 with (fail)
   refine aR [0,1,3,6] (fun vs w'=>∃(vt2:Value) (xs2:List Value) (mk3:Mem),vs=[.func (.yield l) #[] #[],.pointer (some ⟨ga,0,none⟩),vt2,.int .i64 n] ∧
    mk.le mk3∧Own w0 m w' mk3 (.row vt2 147 1 (n+1) xs2::Lt)∧mQ T mk3 xs2 (n+1)) ?_ ?_
   ·intro V hV;rcases hrn with ⟨rfl,rfl⟩ | ⟨hn0,rfl,-⟩
    ·go_wp2;exact hV.out _ _ rfl ⟨.slice (some ⟨tb,0,none⟩) 1 vtc,xs,mk2,rfl,HQ.out.2.2.1,HQ.out.1,HQ.out.2.2.2⟩
    ·have hd2:decide (0<rn)=true:=decide_eq_true hn0;have hd3:decide ((0:Int)<(rn:Int))=true:=decide_eq_true zo;obtain⟨n1,rfl⟩:∃n1,rn=n1+1:=⟨rn - 1,zo⟩;have hw1:IntKind.i64.wrap (((n1+1:Nat):Int) - 1)=(n1:Int):=by rw[IntWalk.i64_in _ zo];omega
     have hw2:IntKind.i64.wrap ((n1:Int)+1 - 1)=(n1:Int):=by rw[IntWalk.i64_in _ zo];omega
     have hw3:IntKind.i64.wrap (n1:Int)=(n1:Int):=IntWalk.i64_in _ zo;have hn1:n1<n1+1:=zo;have hn2:(n1:Int)<(n1:Int)+1:=zo;obtain⟨u,hu1,hu2⟩:=HQ.out.2.2.2.2 n1 hn1;have hO:=HQ.out.1.dr;go_wp2;refine mW (fun j w'=>j≠9→j≠10→(mk2.inn w'∧w'.cell? ⟨tb,n1,none⟩=some u∧tb<w'.heap.size)) zk ?_;have hS:mk2.inn W2.drew∧W2.drew.cell? ⟨tb,n1,none⟩=some u∧tb<W2.drew.heap.size:=⟨hO.inn,aN hO.row hu1,(World.ownsRow.lt hO.row _ rfl).2⟩;have hca:=Mem.aA HQ.out.2.2.1 HX.out.2.2.2.2;refine aL 0 12 (fun w'=>mk2.inn w'∧w'.cell? ⟨tb,n1,none⟩=some u∧tb<w'.heap.size) rfl zk (fun _ _ _ h=>h) (fun j w' hj hd=>hd (by rintro rfl;exact aD zk hj) (by rintro rfl;exact aD zk hj)) hS (aB rfl fun w' hS'=>by have q:=hS'.2.1;have q1:=hS'.2.2;have q2:=Mem.aj hS'.1 hca;have q3:=Mem.ay hS'.1 hca;go_simp;rfl) ?_;refine aL 1 12 (fun w'=>mk2.inn w'∧w'.cell? ⟨tb,n1,none⟩=some u∧tb<w'.heap.size) rfl zk (fun _ _ _ h=>h) (fun j w' hj hd=>hd (by rintro rfl;exact aD zk hj) (by rintro rfl;exact aD zk hj)) hS (aB rfl fun w' hS'=>by have q:=hS'.2.1;have q1:=hS'.2.2;have q2:=Mem.aj hS'.1 hca;have q3:=Mem.ay hS'.1 hca;go_simp;rfl) ?_;refine aL 2 12 (fun w'=>mk2.inn w'∧w'.cell? ⟨tb,n1,none⟩=some u∧tb<w'.heap.size) rfl zk (fun _ _ _ h=>h) (fun j w' hj hd=>hd (by rintro rfl;exact aD zk hj) (by rintro rfl;exact aD zk hj)) hS (aB rfl fun w' hS'=>by have q:=hS'.2.1;have q1:=hS'.2.2;have q2:=Mem.aj hS'.1 hca;have q3:=Mem.ay hS'.1 hca;go_simp;rfl) ?_;refine aL 3 12 (fun w'=>mk2.inn w'∧w'.cell? ⟨tb,n1,none⟩=some u∧tb<w'.heap.size) rfl zk (fun _ _ _ h=>h) (fun j w' hj hd=>hd (by rintro rfl;exact aD zk hj) (by rintro rfl;exact aD zk hj)) hS (aB rfl fun w' hS'=>by have q:=hS'.2.1;have q1:=hS'.2.2;have q2:=Mem.aj hS'.1 hca;have q3:=Mem.ay hS'.1 hca;go_simp;rfl) ?_;refine aL 4 12 (fun w'=>mk2.inn w'∧w'.cell? ⟨tb,n1,none⟩=some u∧tb<w'.heap.size) rfl zk (fun _ _ _ h=>h) (fun j w' hj hd=>hd (by rintro rfl;exact aD zk hj) (by rintro rfl;exact aD zk hj)) hS (aB rfl fun w' hS'=>by have q:=hS'.2.1;have q1:=hS'.2.2;have q2:=Mem.aj hS'.1 hca;have q3:=Mem.ay hS'.1 hca;go_simp;rfl) ?_;refine aL 5 12 (fun w'=>mk2.inn w'∧w'.cell? ⟨tb,n1,none⟩=some u∧tb<w'.heap.size) rfl zk (fun _ _ _ h=>h) (fun j w' hj hd=>hd (by rintro rfl;exact aD zk hj) (by rintro rfl;exact aD zk hj)) hS (aB rfl fun w' hS'=>by have q:=hS'.2.1;have q1:=hS'.2.2;have q2:=Mem.aj hS'.1 hca;have q3:=Mem.ay hS'.1 hca;go_simp;rfl) ?_;refine aL 6 12 (fun w'=>mk2.inn w'∧w'.cell? ⟨tb,n1,none⟩=some u∧tb<w'.heap.size) rfl zk (fun _ _ _ h=>h) (fun j w' hj hd=>hd (by rintro rfl;exact aD zk hj) (by rintro rfl;exact aD zk hj)) hS (aB rfl fun w' hS'=>by have q:=hS'.2.1;have q1:=hS'.2.2;have q2:=Mem.aj hS'.1 hca;have q3:=Mem.ay hS'.1 hca;go_simp;rfl) ?_;have hlT:=oN T n1;have hcs:=AZ HX.out.2.2.2.1.wf HX.out.2.2.2.1.bytes n1;have hcall:=Nt (.slice aa T.length ac) u T (canN T n1) mk2 _ hO.inn (aZ HQ.out.2.2.1 HX.out.1) hu2 HX.out.2.2.2.1.wf zo hlT;refine bq 7 zk (aP rfl rfl (gq zg hcall ?_));rintro e' w3 ⟨r,rfl,hb3,hr3⟩;rw[show T.map (canF (canN T n1))=canN T (n1+1) from hcs.symm] at hr3;have hO3:=hO.call hb3;have hle3:=Mem.dJ (w:=w3) hO.inn;clear hcs hlT;obtain⟨rra,rrc,rfl⟩:∃xa xc,r=.slice xa (canN T (n1+1)).length xc:=by obtain⟨x,y,e,-⟩:=hr3;exact⟨x,y,e⟩
     refine ⟨_,rfl,.inr fun _ _=>⟨Mem.dm hle3 hO3.inn,aN hO3.row hu1,(World.ownsRow.lt hO3.row _ rfl).2⟩,?_⟩;go_simp;have hO4:=hO3.al #[.slice rra (canN T (n1+1)).length rrc] 147;refine bq 8 zk (aP rfl rfl (aM (by go_simp;first | done | exact⟨rfl,rfl⟩ | rfl) ⟨.inr fun _ _=>⟨Mem.dm hle3 hO4.inn,aN hO4.swap.row hu1,(World.ownsRow.lt hO4.swap.row _ rfl).2⟩,?_⟩));go_simp;refine bq 9 zk (aP rfl rfl (eH Du (.tmp 35) (.tmp 43) rfl (.slice (some ⟨tb,0,none⟩) (n1+1) vtc) (n1+1) xs rfl hO4.swap.row ⟨w3.heap.size,0,none⟩ 1 1 [.slice rra (canN T (n1+1)).length rrc] rfl rfl (hO4.obj.news rfl) (by simp[Value.oneCell']) (by unfold maxLen;omega) zo (fun na' nc' w7 hown7 hgrow7 hrow7=>?_)));have hO5:=(hO4.swap.app hown7 hgrow7 hrow7 (Nat.le_refl _)).drop2;refine ⟨.inr fun h=>absurd rfl h,?_⟩;go_simp;refine bq 10 zk (aP rfl rfl (aM (by go_simp;first | done | exact⟨rfl,rfl⟩ | rfl) ⟨.inl rfl,?_⟩));refine fq zk ?_ _;exact hV.out _ _ rfl ⟨.slice na' (n1+1+1) nc',xs ++ [.slice rra (canN T (n1+1)).length rrc],mk2.grow W2.drew w3,rfl,Mem.le_trans HQ.out.2.2.1 hle3,hO5,(HQ.out.2.2.2.mono hle3).push hr3⟩
   rintro z3 vs w3 - ⟨vt2,xs2,mk3,rfl,hle3,hO3,hCR3⟩;simp[litL,lk];have hB2:=HQ.out.2.1;have hdone:=fun h=>JL HX.out.2.2.2.1.wf HX.out.2.2.2.1.bytes (n:=n) h;have hES:=Au T 0 n;have hbnd:=fun (hn:KT<n+1) (h:(enum T 0 (n+1)).length<K)=>GL HX.out.2.2.2.1 (n:=n+1) h (by rw[HKL.out];exact hn);obtain⟨vta2,vtc2,rfl⟩:=aO hO3.row;obtain⟨tb2,rfl⟩:=iD hO3.row zo;obtain⟨u,hu1,hu2⟩:=hCR3.2 n zo;have HS:=zh (zi hO3 (zi hCR3 (zi hle3 (zi hdone (zi hES hbnd)))));have HU:=zh (zi hu1 hu2);have HB2:=zh hB2;have hlT:=oN T n;obtain⟨ua,uc,rfl,u2,u3,u4⟩:=hu2;obtain⟨ub,uo,rfl,u5⟩:=u4 (by intro h;rw[h] at hlT;simp at hlT;omega);have hall:(∀b∈canN T n,b=false)↔¬ (true∈canN T n):=by
    constructor
    ·intro h hm;have:=h true hm;cases this
    ·intro h b hb
     cases b with
     | false=>rfl
     | true=>exact absurd hb h
   have Hall:=zh hall;have hcap:=MQ hO3.row;have hcap1:=hcap.1;have hcap2:=hcap.2;unfold maxLen at hcap2;clear hall hcap;clear hO3 hCR3 hle3 hdone hES hbnd hu1 HQ hB2 ha hal hlT u4 u5;go_wp2;refine aR [0,1,3,6,65] (fun vs w'=>∃(bb:Bool) (mk4:Mem) (Lt4:List Item),vs=[.func (.yield l) #[] #[],.pointer (some ⟨ga,0,none⟩),.slice (some ⟨tb2,0,none⟩) (n+1) vtc2,.int .i64 n,.bool bb]∧mk.le mk4 ∧
    (bb=false→B (enum T 0 (n+1)) Lt4∧Own w0 m w' mk4 (.row (.slice (some ⟨tb2,0,none⟩) (n+1) vtc2) 147 1 (n+1) xs2::Lt4)∧true∈canN T n∧mQ T mk4 xs2 (n+1)) ∧
    (bb=true→(B (enum T 0 n) Lt4∧Own w0 m w' mk4 Lt4∧∀b∈canN T n,b=false)∨∃q,q≠[]∧q <+: wex T n 0∧Bx (enum T 0 n ++ q) Lt4∧Own w0 m w' mk4 Lt4)) ?_ ?_
   ·intro V hV;have hO:=HS.out.1.dr;have hca:=Mem.aA HS.out.2.2.1 HX.out.2.2.2.2;have hw1:IntKind.i64.wrap ((n:Int)+1)=(n:Int)+1:=IntWalk.i64_in _ zo;have hn1:(n:Int)<(n:Int)+1:=zo;have hn2:n<n+1:=zo;have hb1:(0:Int)≤(n:Int)+1:=zo;have hb2:(n:Int)+1≤(vtc2:Int):=zo;have HCt:=zh (fun w' (h:mk3.inn w')=>qg (.slice (some ⟨ub,uo,none⟩) (canN T n).length uc) (canN T n) true mk3 w' h HU.out.2);refine mW (fun j w'=>j≠18→j≠19→j≠20→(mk3.inn w'∧w'.cell? ⟨tb2,n,none⟩=some (.slice (some ⟨ub,uo,none⟩) (canN T n).length uc)∧tb2<w'.heap.size)) zk ?_;have hS:mk3.inn w3.drew∧w3.drew.cell? ⟨tb2,n,none⟩=some (.slice (some ⟨ub,uo,none⟩) (canN T n).length uc)∧tb2<w3.drew.heap.size:=⟨hO.inn,aN hO.row HU.out.1,(World.ownsRow.lt hO.row _ rfl).2⟩;refine aL 0 6 (fun w'=>mk3.inn w'∧w'.cell? ⟨tb2,n,none⟩=some (.slice (some ⟨ub,uo,none⟩) (canN T n).length uc)∧tb2<w'.heap.size) rfl zk (fun _ _ _ h=>h) (fun j w' hj hd=>hd (by rintro rfl;exact aD zk hj) (by rintro rfl;exact aD zk hj) (by rintro rfl;exact aD zk hj)) hS (aB rfl fun w' hS'=>by have q:=hS'.2.1;have q1:=hS'.2.2;go_simp;rfl) ?_;refine aL 1 6 (fun w'=>mk3.inn w'∧w'.cell? ⟨tb2,n,none⟩=some (.slice (some ⟨ub,uo,none⟩) (canN T n).length uc)∧tb2<w'.heap.size) rfl zk (fun _ _ _ h=>h) (fun j w' hj hd=>hd (by rintro rfl;exact aD zk hj) (by rintro rfl;exact aD zk hj) (by rintro rfl;exact aD zk hj)) hS (aB rfl fun w' hS'=>by have q:=hS'.2.1;have q1:=hS'.2.2;go_simp;rfl) ?_;refine aL 2 6 (fun w'=>mk3.inn w'∧w'.cell? ⟨tb2,n,none⟩=some (.slice (some ⟨ub,uo,none⟩) (canN T n).length uc)∧tb2<w'.heap.size) rfl zk (fun _ _ _ h=>h) (fun j w' hj hd=>hd (by rintro rfl;exact aD zk hj) (by rintro rfl;exact aD zk hj) (by rintro rfl;exact aD zk hj)) hS (aB rfl fun w' hS'=>by have q:=hS'.2.1;have q1:=hS'.2.2;go_simp;rfl) ?_;refine aL 3 6 (fun w'=>mk3.inn w'∧w'.cell? ⟨tb2,n,none⟩=some (.slice (some ⟨ub,uo,none⟩) (canN T n).length uc)∧tb2<w'.heap.size) rfl zk (fun _ _ _ h=>h) (fun j w' hj hd=>hd (by rintro rfl;exact aD zk hj) (by rintro rfl;exact aD zk hj) (by rintro rfl;exact aD zk hj)) hS (aB rfl fun w' hS'=>by have q:=hS'.2.1;have q1:=hS'.2.2;go_simp;rfl) ?_;refine bq 4 zk (aP rfl rfl (gq zg (HCt.out _ hO.inn) ?_));rintro e' w4 ⟨rfl,hb4⟩;have hO4:=hO.move hb4;have hS4:mk3.inn w4∧w4.cell? ⟨tb2,n,none⟩=some (.slice (some ⟨ub,uo,none⟩) (canN T n).length uc)∧tb2<w4.heap.size:=⟨hO4.inn,aN hO4.row HU.out.1,(World.ownsRow.lt hO4.row _ rfl).2⟩;refine ⟨_,rfl,.inr fun _ _ _=>hS4,?_⟩;by_cases hmem:true∈canN T n
    ·rw[aH hmem];go_simp;refine aL 5 6 (fun w'=>mk3.inn w'∧w'.cell? ⟨tb2,n,none⟩=some (.slice (some ⟨ub,uo,none⟩) (canN T n).length uc)∧tb2<w'.heap.size) rfl zk (fun _ _ _ h=>h) (fun j w' hj hd=>hd (by rintro rfl;exact aD zk hj) (by rintro rfl;exact aD zk hj) (by rintro rfl;exact aD zk hj)) hS4 (aB rfl fun w' hS'=>by have q:=hS'.2.1;have q1:=hS'.2.2;have q2:=Mem.aj hS'.1 hca;have q3:=Mem.ay hS'.1 hca;go_simp;rfl) ?_;refine aL 6 6 (fun w'=>mk3.inn w'∧w'.cell? ⟨tb2,n,none⟩=some (.slice (some ⟨ub,uo,none⟩) (canN T n).length uc)∧tb2<w'.heap.size) rfl zk (fun _ _ _ h=>h) (fun j w' hj hd=>hd (by rintro rfl;exact aD zk hj) (by rintro rfl;exact aD zk hj) (by rintro rfl;exact aD zk hj)) hS4 (aB rfl fun w' hS'=>by have q:=hS'.2.1;have q1:=hS'.2.2;have q2:=Mem.aj hS'.1 hca;have q3:=Mem.ay hS'.1 hca;go_simp;rfl) ?_;go_simp;refine aL 7 6 (fun w'=>mk3.inn w'∧w'.cell? ⟨tb2,n,none⟩=some (.slice (some ⟨ub,uo,none⟩) (canN T n).length uc)∧tb2<w'.heap.size) rfl zk (fun _ _ _ h=>h) (fun j w' hj hd=>hd (by rintro rfl;exact aD zk hj) (by rintro rfl;exact aD zk hj) (by rintro rfl;exact aD zk hj)) hS4 (aB rfl fun w' hS'=>by have q:=hS'.2.1;have q1:=hS'.2.2;have q2:=Mem.aj hS'.1 hca;have q3:=Mem.ay hS'.1 hca;go_simp;rfl) ?_;go_simp;refine aL 8 6 (fun w'=>mk3.inn w'∧w'.cell? ⟨tb2,n,none⟩=some (.slice (some ⟨ub,uo,none⟩) (canN T n).length uc)∧tb2<w'.heap.size) rfl zk (fun _ _ _ h=>h) (fun j w' hj hd=>hd (by rintro rfl;exact aD zk hj) (by rintro rfl;exact aD zk hj) (by rintro rfl;exact aD zk hj)) hS4 (aB rfl fun w' hS'=>by have q:=hS'.2.1;have q1:=hS'.2.2;have q2:=Mem.aj hS'.1 hca;have q3:=Mem.ay hS'.1 hca;go_simp;rfl) ?_;go_simp;refine aL 9 6 (fun w'=>mk3.inn w'∧w'.cell? ⟨tb2,n,none⟩=some (.slice (some ⟨ub,uo,none⟩) (canN T n).length uc)∧tb2<w'.heap.size) rfl zk (fun _ _ _ h=>h) (fun j w' hj hd=>hd (by rintro rfl;exact aD zk hj) (by rintro rfl;exact aD zk hj) (by rintro rfl;exact aD zk hj)) hS4 (aB rfl fun w' hS'=>by have q:=hS'.2.1;have q1:=hS'.2.2;have q2:=Mem.aj hS'.1 hca;have q3:=Mem.ay hS'.1 hca;go_simp;rfl) ?_;go_simp;refine aL 10 6 (fun w'=>mk3.inn w'∧w'.cell? ⟨tb2,n,none⟩=some (.slice (some ⟨ub,uo,none⟩) (canN T n).length uc)∧tb2<w'.heap.size) rfl zk (fun _ _ _ h=>h) (fun j w' hj hd=>hd (by rintro rfl;exact aD zk hj) (by rintro rfl;exact aD zk hj) (by rintro rfl;exact aD zk hj)) hS4 (aB rfl fun w' hS'=>by have q:=hS'.2.1;have q1:=hS'.2.2;have q2:=Mem.aj hS'.1 hca;have q3:=Mem.ay hS'.1 hca;go_simp;rfl) ?_;go_simp;refine aL 11 6 (fun w'=>mk3.inn w'∧w'.cell? ⟨tb2,n,none⟩=some (.slice (some ⟨ub,uo,none⟩) (canN T n).length uc)∧tb2<w'.heap.size) rfl zk (fun _ _ _ h=>h) (fun j w' hj hd=>hd (by rintro rfl;exact aD zk hj) (by rintro rfl;exact aD zk hj) (by rintro rfl;exact aD zk hj)) hS4 (aB rfl fun w' hS'=>by have q:=hS'.2.1;have q1:=hS'.2.2;have q2:=Mem.aj hS'.1 hca;have q3:=Mem.ay hS'.1 hca;go_simp;rfl) ?_;go_simp;refine aL 12 6 (fun w'=>mk3.inn w'∧w'.cell? ⟨tb2,n,none⟩=some (.slice (some ⟨ub,uo,none⟩) (canN T n).length uc)∧tb2<w'.heap.size) rfl zk (fun _ _ _ h=>h) (fun j w' hj hd=>hd (by rintro rfl;exact aD zk hj) (by rintro rfl;exact aD zk hj) (by rintro rfl;exact aD zk hj)) hS4 (aB rfl fun w' hS'=>by have q:=hS'.2.1;have q1:=hS'.2.2;have q2:=Mem.aj hS'.1 hca;have q3:=Mem.ay hS'.1 hca;go_simp;rfl) ?_;go_simp;refine aL 13 6 (fun w'=>mk3.inn w'∧w'.cell? ⟨tb2,n,none⟩=some (.slice (some ⟨ub,uo,none⟩) (canN T n).length uc)∧tb2<w'.heap.size) rfl zk (fun _ _ _ h=>h) (fun j w' hj hd=>hd (by rintro rfl;exact aD zk hj) (by rintro rfl;exact aD zk hj) (by rintro rfl;exact aD zk hj)) hS4 (aB rfl fun w' hS'=>by have q:=hS'.2.1;have q1:=hS'.2.2;have q2:=Mem.aj hS'.1 hca;have q3:=Mem.ay hS'.1 hca;go_simp;rfl) ?_;go_simp;refine aL 14 6 (fun w'=>mk3.inn w'∧w'.cell? ⟨tb2,n,none⟩=some (.slice (some ⟨ub,uo,none⟩) (canN T n).length uc)∧tb2<w'.heap.size) rfl zk (fun _ _ _ h=>h) (fun j w' hj hd=>hd (by rintro rfl;exact aD zk hj) (by rintro rfl;exact aD zk hj) (by rintro rfl;exact aD zk hj)) hS4 (aB rfl fun w' hS'=>by have q:=hS'.2.1;have q1:=hS'.2.2;have q2:=Mem.aj hS'.1 hca;have q3:=Mem.ay hS'.1 hca;go_simp;rfl) ?_;go_simp;refine aL 15 6 (fun w'=>mk3.inn w'∧w'.cell? ⟨tb2,n,none⟩=some (.slice (some ⟨ub,uo,none⟩) (canN T n).length uc)∧tb2<w'.heap.size) rfl zk (fun _ _ _ h=>h) (fun j w' hj hd=>hd (by rintro rfl;exact aD zk hj) (by rintro rfl;exact aD zk hj) (by rintro rfl;exact aD zk hj)) hS4 (aB rfl fun w' hS'=>by have q:=hS'.2.1;have q1:=hS'.2.2;have q2:=Mem.aj hS'.1 hca;have q3:=Mem.ay hS'.1 hca;go_simp;rfl) ?_;go_simp;refine aL 16 6 (fun w'=>mk3.inn w'∧w'.cell? ⟨tb2,n,none⟩=some (.slice (some ⟨ub,uo,none⟩) (canN T n).length uc)∧tb2<w'.heap.size) rfl zk (fun _ _ _ h=>h) (fun j w' hj hd=>hd (by rintro rfl;exact aD zk hj) (by rintro rfl;exact aD zk hj) (by rintro rfl;exact aD zk hj)) hS4 (aB rfl fun w' hS'=>by have q:=hS'.2.1;have q1:=hS'.2.2;have q2:=Mem.aj hS'.1 hca;have q3:=Mem.ay hS'.1 hca;go_simp;rfl) ?_;go_simp;refine aL 17 6 (fun w'=>mk3.inn w'∧w'.cell? ⟨tb2,n,none⟩=some (.slice (some ⟨ub,uo,none⟩) (canN T n).length uc)∧tb2<w'.heap.size) rfl zk (fun _ _ _ h=>h) (fun j w' hj hd=>hd (by rintro rfl;exact aD zk hj) (by rintro rfl;exact aD zk hj) (by rintro rfl;exact aD zk hj)) hS4 (aB rfl fun w' hS'=>by have q:=hS'.2.1;have q1:=hS'.2.2;have q2:=Mem.aj hS'.1 hca;have q3:=Mem.ay hS'.1 hca;go_simp;rfl) ?_;go_simp;have hT0:=hT;have hsome:=KE (T:=T) (l:=l) (w0:=w0) (m:=m) (mk0:=mk3) (B:=B) (Bx:=Bx) (Lr:=[.row (.slice (some ⟨tb2,0,none⟩) (n+1) vtc2) 147 1 (n+1) xs2]) (tb:=tb2) (n:=n) (ctab:=vtc2) (clast:=1) (ntab:=n+1) (va:=.slice aa T.length ac) HX.out.2.2.2.1.wf HX.out.2.2.2.1.bytes
      (fun pre x W' mk' Lt' Lr' h1 h2 h3=>HX.out.2.1 pre x W' mk' Lt' Lr' h1 h2 (Mem.le_trans HS.out.2.2.1 h3)) (aZ HS.out.2.2.1 HX.out.1) hT0 (by unfold maxLen;omega) zo zo (by unfold maxLen;omega)
      (fun W' mk' Lt' h i hi=>by
       obtain⟨u',h1,h2⟩:=HS.out.2.1.2 i hi;exact⟨u',aN (h.jM (v:=.slice (some ⟨tb2,0,none⟩) (n+1) vtc2) (t:=147) (size:=1) (n:=n+1) (xs:=xs2) zS) h1,h2⟩)
      (enum T 0 n) mk3 w4 Lt (Mem.le_refl _) HB2.out (hO4.perm (List.perm_append_singleton _ _))
     refine bq 18 zk (dx rfl rfl (gq zg hsome ?_));rintro e' w5 (⟨rfl,mk5,Lt5,k1,k2,k3⟩ | ⟨rfl,qq,mk5,Lt5,k0,k1,k2,k3,k4⟩)
     ·refine ⟨_,rfl,.inr fun h=>absurd rfl h,?_⟩;go_simp;refine bq 19 zk (dx rfl rfl (aM (by go_simp;first | done | exact⟨rfl,rfl⟩ | rfl) ⟨.inl rfl,?_⟩));go_simp;refine bq 20 zk (aP rfl rfl (aM (by go_simp;first | done | exact⟨rfl,rfl⟩ | rfl) ⟨.inl rfl,?_⟩));refine fq zk ?_ _;refine hV.out _ _ rfl ⟨false,mk5,Lt5,rfl,Mem.le_trans HS.out.2.2.1 k3,fun _=>⟨?_,k2.perm (List.perm_append_singleton _ _).symm,hmem,HS.out.2.1.mono k3⟩,fun h=>by cases h⟩;rw[HS.out.2.2.2.2.1];exact k1
     ·refine ⟨_,rfl,.inr fun h=>absurd rfl h,?_⟩;go_simp;refine bq 19 zk (dx rfl rfl (aM (by go_simp;first | done | exact⟨rfl,rfl⟩ | rfl) ⟨.inl rfl,?_⟩));go_simp;refine bq 20 zk (aP rfl rfl (aM (by go_simp;first | done | exact⟨rfl,rfl⟩ | rfl) ⟨.inl rfl,?_⟩));refine fq zk ?_ _;exact hV.out _ _ rfl ⟨true,mk5,Lt5,rfl,Mem.le_trans HS.out.2.2.1 k4,(fun h=>by cases h),fun _=>.inr ⟨qq,k0,k1,k2,(k3.perm (List.perm_append_singleton _ _).symm).tail⟩⟩
    ·rw[az hmem];go_simp;refine aL 5 6 (fun w'=>mk3.inn w'∧w'.cell? ⟨tb2,n,none⟩=some (.slice (some ⟨ub,uo,none⟩) (canN T n).length uc)∧tb2<w'.heap.size) rfl zk (fun _ _ _ h=>h) (fun j w' hj hd=>hd (by rintro rfl;exact aD zk hj) (by rintro rfl;exact aD zk hj) (by rintro rfl;exact aD zk hj)) hS4 (aB rfl fun w' hS'=>by go_simp;rfl) ?_;refine aL 6 6 (fun w'=>mk3.inn w'∧w'.cell? ⟨tb2,n,none⟩=some (.slice (some ⟨ub,uo,none⟩) (canN T n).length uc)∧tb2<w'.heap.size) rfl zk (fun _ _ _ h=>h) (fun j w' hj hd=>hd (by rintro rfl;exact aD zk hj) (by rintro rfl;exact aD zk hj) (by rintro rfl;exact aD zk hj)) hS4 (aB rfl fun w' hS'=>by go_simp;rfl) ?_;go_simp;refine aL 7 6 (fun w'=>mk3.inn w'∧w'.cell? ⟨tb2,n,none⟩=some (.slice (some ⟨ub,uo,none⟩) (canN T n).length uc)∧tb2<w'.heap.size) rfl zk (fun _ _ _ h=>h) (fun j w' hj hd=>hd (by rintro rfl;exact aD zk hj) (by rintro rfl;exact aD zk hj) (by rintro rfl;exact aD zk hj)) hS4 (.inr ⟨rfl,rfl⟩) ?_;go_simp;refine aL 8 6 (fun w'=>mk3.inn w'∧w'.cell? ⟨tb2,n,none⟩=some (.slice (some ⟨ub,uo,none⟩) (canN T n).length uc)∧tb2<w'.heap.size) rfl zk (fun _ _ _ h=>h) (fun j w' hj hd=>hd (by rintro rfl;exact aD zk hj) (by rintro rfl;exact aD zk hj) (by rintro rfl;exact aD zk hj)) hS4 (.inr ⟨rfl,rfl⟩) ?_;go_simp;refine aL 9 6 (fun w'=>mk3.inn w'∧w'.cell? ⟨tb2,n,none⟩=some (.slice (some ⟨ub,uo,none⟩) (canN T n).length uc)∧tb2<w'.heap.size) rfl zk (fun _ _ _ h=>h) (fun j w' hj hd=>hd (by rintro rfl;exact aD zk hj) (by rintro rfl;exact aD zk hj) (by rintro rfl;exact aD zk hj)) hS4 (.inr ⟨rfl,rfl⟩) ?_;go_simp;refine aL 10 6 (fun w'=>mk3.inn w'∧w'.cell? ⟨tb2,n,none⟩=some (.slice (some ⟨ub,uo,none⟩) (canN T n).length uc)∧tb2<w'.heap.size) rfl zk (fun _ _ _ h=>h) (fun j w' hj hd=>hd (by rintro rfl;exact aD zk hj) (by rintro rfl;exact aD zk hj) (by rintro rfl;exact aD zk hj)) hS4 (.inr ⟨rfl,rfl⟩) ?_;go_simp;refine aL 11 6 (fun w'=>mk3.inn w'∧w'.cell? ⟨tb2,n,none⟩=some (.slice (some ⟨ub,uo,none⟩) (canN T n).length uc)∧tb2<w'.heap.size) rfl zk (fun _ _ _ h=>h) (fun j w' hj hd=>hd (by rintro rfl;exact aD zk hj) (by rintro rfl;exact aD zk hj) (by rintro rfl;exact aD zk hj)) hS4 (.inr ⟨rfl,rfl⟩) ?_;go_simp;refine aL 12 6 (fun w'=>mk3.inn w'∧w'.cell? ⟨tb2,n,none⟩=some (.slice (some ⟨ub,uo,none⟩) (canN T n).length uc)∧tb2<w'.heap.size) rfl zk (fun _ _ _ h=>h) (fun j w' hj hd=>hd (by rintro rfl;exact aD zk hj) (by rintro rfl;exact aD zk hj) (by rintro rfl;exact aD zk hj)) hS4 (.inr ⟨rfl,rfl⟩) ?_;go_simp;refine aL 13 6 (fun w'=>mk3.inn w'∧w'.cell? ⟨tb2,n,none⟩=some (.slice (some ⟨ub,uo,none⟩) (canN T n).length uc)∧tb2<w'.heap.size) rfl zk (fun _ _ _ h=>h) (fun j w' hj hd=>hd (by rintro rfl;exact aD zk hj) (by rintro rfl;exact aD zk hj) (by rintro rfl;exact aD zk hj)) hS4 (.inr ⟨rfl,rfl⟩) ?_;go_simp;refine aL 14 6 (fun w'=>mk3.inn w'∧w'.cell? ⟨tb2,n,none⟩=some (.slice (some ⟨ub,uo,none⟩) (canN T n).length uc)∧tb2<w'.heap.size) rfl zk (fun _ _ _ h=>h) (fun j w' hj hd=>hd (by rintro rfl;exact aD zk hj) (by rintro rfl;exact aD zk hj) (by rintro rfl;exact aD zk hj)) hS4 (.inr ⟨rfl,rfl⟩) ?_;go_simp;refine aL 15 6 (fun w'=>mk3.inn w'∧w'.cell? ⟨tb2,n,none⟩=some (.slice (some ⟨ub,uo,none⟩) (canN T n).length uc)∧tb2<w'.heap.size) rfl zk (fun _ _ _ h=>h) (fun j w' hj hd=>hd (by rintro rfl;exact aD zk hj) (by rintro rfl;exact aD zk hj) (by rintro rfl;exact aD zk hj)) hS4 (.inr ⟨rfl,rfl⟩) ?_;go_simp;refine aL 16 6 (fun w'=>mk3.inn w'∧w'.cell? ⟨tb2,n,none⟩=some (.slice (some ⟨ub,uo,none⟩) (canN T n).length uc)∧tb2<w'.heap.size) rfl zk (fun _ _ _ h=>h) (fun j w' hj hd=>hd (by rintro rfl;exact aD zk hj) (by rintro rfl;exact aD zk hj) (by rintro rfl;exact aD zk hj)) hS4 (.inr ⟨rfl,rfl⟩) ?_;go_simp;refine aL 17 6 (fun w'=>mk3.inn w'∧w'.cell? ⟨tb2,n,none⟩=some (.slice (some ⟨ub,uo,none⟩) (canN T n).length uc)∧tb2<w'.heap.size) rfl zk (fun _ _ _ h=>h) (fun j w' hj hd=>hd (by rintro rfl;exact aD zk hj) (by rintro rfl;exact aD zk hj) (by rintro rfl;exact aD zk hj)) hS4 (.inr ⟨rfl,rfl⟩) ?_;go_simp;refine bq 18 zk (Bj rfl rfl ⟨.inl rfl,?_⟩);go_simp;refine bq 19 zk (Bj rfl rfl ⟨.inl rfl,?_⟩);go_simp;refine bq 20 zk (aP rfl rfl (aM (by go_simp;first | done | exact⟨rfl,rfl⟩ | rfl) ⟨.inl rfl,?_⟩));refine fq zk ?_ _;exact hV.out _ _ rfl ⟨true,mk3,Lt,rfl,HS.out.2.2.1,(fun h=>by cases h),fun _=>.inl ⟨HB2.out,hO4.tail,Hall.out.2 hmem⟩⟩
   rintro z5 vs w5 - ⟨bb,mk4,Lt4,rfl,hle4,hf,ht⟩;simp[litL,lk]
   cases bb with
   | true=>
    have Hq:=zh (zi (ht rfl) hle4);clear ht hf hle4;go_wp2;refine bodyPost_ret (v:=.tuple #[]) (by simp[results,Tryz.results216,go_sem]) rfl ?_;refine hR.out _ _ ⟨⟨_,rfl⟩,?_⟩;rcases Hq.out.1 with ⟨h1,h2,h3⟩ | ⟨qq,h1,h2,h3,h4⟩
    ·exact .inl ⟨_,mk4,Lt4,⟨n,rfl,HS.out.2.2.2.1 h3⟩,h1,h2,Hq.out.2⟩
    ·refine .inr ⟨_,mk4,Lt4,⟨n+1,?_,fun h=>h1 (List.append_eq_nil_iff.1 h).2⟩,h3,h4,Hq.out.2⟩;rw[HS.out.2.2.2.2.1]
     exact (List.prefix_append_right_inj _).2 h2
   | false=>
    obtain⟨h1,h2,h3,h4⟩:=hf rfl;have hKL:n+1≤KT:=by
     apply Classical.byContradiction;intro hn;have:=HS.out.2.2.2.2.2 zo (HX.out.2.2.1 _ _ h1);rw[Nat.add_sub_cancel] at this;rw[this] at h3;have:=List.eq_of_mem_replicate h3;cases this
    have Hq:=zh (zi h1 (zi h2 (zi hle4 h4)));clear ht hf hle4 h1 h2 h3 h4;go_wp2;exact hY2.out _ _ _ zo rfl ⟨n+1,n+1,.slice (some ⟨tb2,0,none⟩) (n+1) vtc2,xs2,mk4,Lt4,rfl,.inr ⟨zo,rfl,hKL⟩,rfl,Hq.out.2.2.1,Hq.out.1,Hq.out.2.1,Hq.out.2.2.2⟩
  ·have hd1:decide (0<T.length)=false:=decide_eq_false hT;have hT0:T=[]:=List.eq_nil_of_length_eq_zero zo;have hacc:∀y,aF T 0 y=true→y.length<n:=fun y hy=>by rw[hT0,gZ] at hy;cases hy
   have Hq:=zh (zi hacc (zi hO2.tail (zi hB2 hle2)));clear hacc hO2 hB2 hle2 hT0 hCR;go_wp2;refine bodyPost_ret (v:=.tuple #[]) (by simp[results,Tryz.results216,go_sem]) rfl ?_;exact hR.out _ _ ⟨⟨_,rfl⟩,.inl ⟨_,mk2,Lt,⟨n,rfl,Hq.out.1⟩,Hq.out.2.2.1,Hq.out.2.1,Hq.out.2.2.2⟩⟩
def IQ (l:List (Int × Int)) (p:Int × Int):Nat:=l.findIdx (fun q=>p=q)
def sO (l:List (Int × Int)) (p:Int × Int):List (Int × Int):=if IQ l p<l.length then l else l ++ [p]
theorem FJ {l:List (Int × Int)} {p:Int × Int} (h:¬ IQ l p<l.length):p ∉ l:=fun hm=>h (List.findIdx_lt_length.2 ⟨p,hm,zS⟩)
theorem iZ.add {A B:Table} {op:Bool→Bool→Bool} {st:Int × Int} {l:List (Int × Int)} {out:Table} (h:iZ A B op st l out) {q:Int × Int}
 (hr:(-1≤q.1∧q.1≤A.length)∧(-1≤q.2∧q.2≤B.length)):iZ A B op st (sO l q) out:=by
 by_cases hf:IQ l q<l.length
 ·have:sO l q=l:=by unfold sO;rw[if_pos hf]
  rw[this];exact h
 ·have:sO l q=l ++ [q]:=by unfold sO;rw[if_neg hf]
  rw[this];exact h.grow (FJ hf) hr
theorem qU.ok {A B:Table} {p:Int × Int} {l:List (Int × Int)} {es:List Ed} {c:Nat} (h:qU A B p l es c) (hl:l.length≤100000000):(∀e∈es,edOk e)∧es.length≤256:=by
 have hw:=di h.wf;have hle:=h.le;refine ⟨fun e he=>?_,?_⟩
 ·have h1:=h.hi e he;have h2:=hw e he;exact⟨zo,zo,zo,zo⟩
 ·have:=Md h.wf (fun e he=>by have h1:=h.hi e he;have h2:=hw e he;exact⟨zo,zo⟩) zo zo;omega
end Cl
