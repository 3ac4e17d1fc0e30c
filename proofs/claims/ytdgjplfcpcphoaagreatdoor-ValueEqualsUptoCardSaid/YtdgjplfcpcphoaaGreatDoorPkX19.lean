/- Lemmas for the proofs of chapter 11. -/
import Derived.Test.YtdgjplfcpcphoaaGreatDoorProg
import Derived.BigQuiet
import Derived.Deep.Cut
import Derived.Deep.QuietTactic
import Derived.Laws.StructEq
import Derived.Lib.AppendStr
import Derived.Lib.Builder
import Derived.Lib.Hide
import Derived.Lib.ItoaLen
import Derived.Maps.OwnOps
import Derived.Maps.OwnSet
import Derived.OrdersHeld
import Derived.Outline
import Derived.StillTailTactics
import Derived.StringKeys
import Derived.WalkKit
import Derived.WalkLawsBesides
import Derived.WalkSpells
import Derived.Deep.RegionHeld
import Derived.Laws.CopyRow
import Derived.Laws.Tables
import Derived.BigFrame
import Derived.RangeFuncNested
import Derived.RangeFuncBound
import Derived.RangeFuncCalls
import Derived.RangeFuncLeaves
import Derived.OwnWalkIn
import Derived.TacticsInMore
import Derived.LoopNIn
import Derived.LoopIn
import Derived.Shelf.Strings.Builder1
import Derived.Shelf.Small.Wraps
import Derived.Shelf.LaysM
import Derived.Shelf.Strconv.Itoa3
import Derived.Shelf.Spec.SlicesGrow
import Derived.Shelf.SlSortCmp.WholeK
import Derived.RegionTactic
import Derived.ChangeAlike
import Derived.Laws.BytesArg
import Derived.Laws.EntriesVeiled
import Derived.Laws.CopyOwn
import Derived.Shelf.Strconv.AppendIntPublic10
import Derived.Test.YtdgjplfcpcphoaaGreatDoorZz
import Derived.Test.YtdgjplfcpcphoaaGreatDoorPkX14
import Derived.Test.YtdgjplfcpcphoaaGreatDoorPkX3
import Derived.Test.YtdgjplfcpcphoaaGreatDoorPkX4
import Derived.Test.YtdgjplfcpcphoaaGreatDoorPkX5
import Derived.Test.YtdgjplfcpcphoaaGreatDoorPkX1
import Derived.Test.YtdgjplfcpcphoaaGreatDoorPkX2
import Derived.Test.YtdgjplfcpcphoaaGreatDoorPkX10
import Derived.Test.YtdgjplfcpcphoaaGreatDoorPkX13
import Derived.Test.YtdgjplfcpcphoaaGreatDoorPkX9
import Derived.Test.YtdgjplfcpcphoaaGreatDoorPkX16
import Derived.Test.YtdgjplfcpcphoaaGreatDoorPkX6
import Derived.Test.YtdgjplfcpcphoaaGreatDoorPkX15
import Derived.Test.YtdgjplfcpcphoaaGreatDoorPkX7
import Derived.Test.YtdgjplfcpcphoaaGreatDoorPkX11
import Derived.Test.YtdgjplfcpcphoaaGreatDoorPkX8
import Derived.Test.YtdgjplfcpcphoaaGreatDoorPkX12
import Derived.Test.YtdgjplfcpcphoaaGreatDoorPkX17
import Derived.Test.YtdgjplfcpcphoaaGreatDoorPkX18
set_option maxRecDepth 100000
set_option maxHeartbeats 16000000
namespace Cl
open Go Go.RowKit Go.Proofs
noncomputable def JR (v:Vl):Bool := !v.any&&decide (v.lists.length=0)&&decide (v.structs.length=0)&&ng v.s
theorem jZ (v:Vl) (x:Sl):∀j u,([.bool v.s.nul,.bool v.s.fal,.bool v.s.tru,x.i,x.f,x.t]:List Value)[j]?=some u→(nine v x).toArray[1+j]?=some u:=by
 intro j u hj;have hlt:=(List.getElem?_eq_some_iff.1 hj).1
 match j,hj,hlt with
 | 0,hj,_=>exact hj
 | 1,hj,_=>exact hj
 | 2,hj,_=>exact hj
 | 3,hj,_=>exact hj
 | 4,hj,_=>exact hj
 | 5,hj,_=>exact hj
 | j+6,_,h=>simp at h;omega
theorem rC:ng dJ=true:=by unfold ng;rw[EM iE];exact aI fun e h=>(Km.mem e).1 h
theorem sO (v:Vl) (x:Sl) (m:Mem) (n:Nat) (w:World) (hm:m.inn w) (htab:TabM m) (hv:VAt m n x v) (hl:ScLe v.s 30000 100000) (h1:v.lists.length≤1000000) (h2:v.structs.length≤1000000) :
 Calls Tryz.prog 16 #[v.val x] w fun e w'=>e=.returned (.bool (JR v))∧Below w.heap.size w w':=by
 have hO:=(Own.start hm).al (nine v x).toArray 33;have hs:=hv.sc;have HN:=zh (sN x.i x.f x.t v.s m (w.alloc (.cells (nine v x).toArray 33)) hs ⟨by have:=hl.i;omega,by have:=hl.f;omega,by have:=hl.t;omega⟩);have HS:=zh (hO.obj.sub (jZ v x));have HE:=zh (fun w' (h:Below (w.alloc (.cells (nine v x).toArray 33)).heap.size (w.alloc (.cells (nine v x).toArray 33)) w')=>Ci x.i x.f x.t v.s m w' (hO.move h).inn htab hs hl);have HB:=zh hO.below;have HL:=zh (zi h1 h2);obtain⟨a1,b1,a2,b2,a3,b3,a4,b4,a5,b5,rfl,-⟩:=hv.spell;have c0:=hO.obj.cell (i:=0) (v:=.bool v.any) rfl;have c7:=hO.obj.cell (i:=7) (v:=.slice a4 v.lists.length b4) rfl;have c8:=hO.obj.cell (i:=8) (v:=.slice a5 v.structs.length b5) rfl;have HI:=zh (show JR v=(!v.any&&decide (v.lists.length=0)&&decide (v.structs.length=0)&&ng v.s) from rfl);unfold Vl.val;clear hO hs hv;generalize (nine v _).toArray=N at *
 generalize v.lists.length=l4 at *
 generalize v.structs.length=l5 at *
 generalize v.any=p at *
 generalize JR v=IB at *
 clear h1 h2;refine ay fun R hR=>?_
 cases p with
 | true=>
  go_enter Tryz.func16,Tryz.ntmps16
  go_wp2
  exact hR.out _ _ ⟨by rw[HI.out];rfl,HB.out⟩
 | false=>
  by_cases hz:l4=0∧l5=0
  ·obtain⟨rfl,rfl⟩:=hz
   go_enter Tryz.func16,Tryz.ntmps16
   go_wp2_with (refine ae tyS rfl (.tmp 17) rfl rfl _ rfl HS.out ?_)
   refine HN.out.mono ?_;rintro e w1 ⟨rfl,hb1⟩;have HE1:=zh (HE.out w1 hb1);have HS1:=zh (fun j u hj=>(kE hb1 zS (HS.out j u hj):w1.cell? _=_));have HB1:=zh (bZ HB.out hb1);by_cases he:v.s=dJ
   ·have HI2:=zh (show IB=true by rw[HI.out,he,rC];rfl);rw[aI he];clear HE HN HE1 HS HS1 HI hb1 he;go_wp2;exact hR.out _ _ ⟨by rw[HI2.out];rfl,HB1.out⟩
   ·rw[az he];clear HE HN HS hb1 he
    go_wp2_with (refine ae tyS rfl (.tmp 21) rfl rfl _ rfl HS1.out ?_)
    refine HE1.out.mono ?_;rintro e w2 ⟨rfl,hb2⟩;have HB2:=zh (bZ HB1.out hb2);generalize ng v.s=eb at *
    clear HE1 HS1 HB1 hb2;go_wp2;exact hR.out _ _ ⟨by rw[HI.out];cases eb <;> rfl,HB2.out⟩
  ·have HI2:=zh (show IB=false by rw[HI.out];by_cases e4:l4=0 <;> by_cases e5:l5=0 <;> simp[e4,e5] <;> exact absurd ⟨e4,e5⟩ hz);have hw:wrap64 ((l4:Int)+l5)=(l4:Int)+l5:=by have:=HL.out;unfold wrap64;omega
   have hd:((l4:Int)+l5==0)=false:=beq_eq_false_iff_ne.2 zo;clear HE HN HS HI hz
   go_enter Tryz.func16,Tryz.ntmps16
   go_wp2;exact hR.out _ _ ⟨by rw[HI2.out];rfl,HB.out⟩
theorem OD:(Tryz.prog.info? 5).map (fun i=>(i.zero,i.size,i.bytes))=some (some (.int .u8 0),1,1):=by kernel_rfl
theorem K7 (l:List Int) {i:Nat} (h:i<l.length):txt (l.take (i+1))=txt (l.take i) ++ 44::Lib.itoa l[i]:=by
 unfold txt;rw[List.take_succ_eq_append_getElem h,List.flatMap_append];simp
theorem xK:∀(l:List Int),(∀x∈l,-9223372036854775808≤x∧x≤9223372036854775807)→(txt l).length≤22*l.length
 | [],_=>by simp[txt]
 | x::l,h=>by
  have h1:=Lib.itoa_length_le x (h x zS).1 (h x zS).2;have h2:=xK l fun y hy=>h y (by simp[hy]);have e:txt (x::l)=44::(Lib.itoa x ++ txt l):=by simp[txt]
  rw[e,List.length_cons,List.length_append,List.length_cons];omega
theorem wW {m:Mem} {v:Value} {l:List Int} (h:dA m v l):∀x∈l,-9223372036854775808≤x∧x≤9223372036854775807:=by
 obtain⟨a,c,-,-,-,h4⟩:=h;intro x hx;obtain⟨i,hi,rfl⟩:=List.getElem_of_mem hx;obtain⟨b,off,-,h5⟩:=h4 (fun e=>by rw[e] at hi;simp at hi);exact (h5 i hi).2
theorem vW (v:Value) (l:List Int) (m:Mem) (w:World) (hm:m.inn w) (htab:TabM m) (hl:dA m v l) (hlen:l.length≤1000000) :
 Calls Tryz.prog 192 #[v] w fun e w'=>e=.returned (.string ⟨(txt l).toArray⟩)∧Below w.heap.size w w':=by
 obtain⟨i0,hi,hz0,hz1,hz2⟩:=info_parts OD;have hT:=Lib.tabBelow_of_tabIs (htab.get w hm);have hrg:=wW hl;obtain⟨a,c,rfl,p1,q1,k1⟩:=hl;unfold maxLen at q1;have HK:=zh (zi k1 (zi hT hrg));have HI:=zh (zi hi (zi hz0 (zi hz1 hz2)));clear k1 hT hi hz0 hz1 hz2 hrg;have hb0:Below w.heap.size w w:=Below.refl _ _;refine ay fun R hR=>?_
 go_enter Tryz.func192,Tryz.ntmps192
 go_wp2;refine au [3,6,7,8] (fun q vs wr=>∃(i:Nat) (o:Value),i≤l.length∧q=l.length - i∧vs=[o,.slice a l.length c,.int .i64 (l.length:Int),.int .i64 (i:Int)] ∧
  wr.ownsRow w.heap.size 5 1 o (txt (l.take i)).length (Lib.byteCells (txt (l.take i)))∧Below w.heap.size w wr) ?_ ?_
 ·exact⟨_,0,_,Nat.zero_le _,rfl,rfl,World.ownsRow_nil _ _ _ _,hb0⟩
 clear hb0;rintro X z q vs wr hX - ⟨i,o,hi,rfl,rfl,hown,hb⟩;simp[litL,lk];have hmr:=Mem.bE hm hb;have hbs:=hb.size;have hln:=xK (l.take i) fun x hx=>HK.out.2.2 x (List.mem_of_mem_take hx);rw[List.length_take] at hln;by_cases hlt:i<l.length
 ·obtain⟨b,off,rfl,h4⟩:=HK.out.1 (by intro h;simp[h] at hlt);have hx:=(h4 i hlt).2;have x1:=Mem.aj hmr (h4 i hlt).1;have xl:=Mem.av hmr (h4 i hlt).1;have hst:=K7 l hlt;have hil:=Lib.itoa_length_le l[i] hx.1 hx.2;have HS:=zh hst;have HB:=zh hb;have HO:=zh hown;generalize txt (l.take i)=T0 at *
  generalize l[i]=xi at *
  clear h4 hst hb hown hmr
  go_wp2_with (at_builtin;refine wpList_append_own _ rfl (.tmp 12) (.tmp 13) 185 rfl w.heap.size 5 i0 (.int .u8 0) 1 1 Tryz.underlying185 HI.out.1 HI.out.2.1 HI.out.2.2.1 HI.out.2.2.2 rfl zD _ _ _ rfl (HO.out.alloc _) ⟨wr.heap.size,0,none⟩ 1 1 [Value.int .u8 44] rfl rfl (by intro j u' hj;match j,hj with | 0,hj=>simp at hj;subst hj;simp[Addr.add]) (by intro u' hu';simp at hu';subst hu';rfl) (by unfold maxLen;omega) zo (by simp;omega) ?_)
  intro v2 w2 hown2 hgrow _;have hnx2:Below w.heap.size w w2:=(HB.out.alloc hbs _).grown hgrow (by simp;omega) (fun k hk=>(HO.out.lt k hk).1);have hbs2:=hnx2.size;have e1:Lib.byteCells T0 ++ [Value.int .u8 44]=Lib.byteCells (T0 ++ [44]):=by simp[Lib.byteCells]
  have e2:T0.length+1=(T0 ++ [44]).length:=by simp
  rw[e1,e2] at hown2;have HA:=zh (Tryz.qx w.heap.size _ xi hx.1 hx.2 v2 _ w2 hown2 hnx2.size (by simp;omega) (HK.out.2.1.on hnx2));have HB2:=zh hnx2;clear HO HB hown2 hgrow hnx2 e1 e2
  go_wp2_with fail
  refine HA.out.mono ?_;rintro e w3 ⟨v3,rfl,hown3,hb3,-⟩;have e1:Lib.byteCells (T0 ++ [44]) ++ Lib.byteCells (Lib.itoa xi)=Lib.byteCells (txt (l.take (i+1))):=by rw[HS.out];simp[Lib.byteCells]
  have e2:(T0 ++ [44]).length+(Lib.itoa xi).length=(txt (l.take (i+1))).length:=by rw[HS.out];simp;omega
  rw[e1,e2] at hown3;have HO3:=zh (zi hown3 (HB2.out.trans hb3));clear HA HB2 hown3 hb3 e1 e2;go_wp2;exact hX.out _ _ _ zo rfl ⟨i+1,_,zo,rfl,rfl,HO3.out.1,HO3.out.2⟩
 ·obtain rfl:i=l.length:=zo;rw[List.take_length] at hown;have HB:=zh hb;obtain⟨t,ht⟩:∃t,t=txt l:=⟨_,rfl⟩;rw[← ht] at hown;have HT:=zh ht;clear ht hb hX;rcases hown.2 with ⟨rfl,h0⟩ | ⟨g,cap,cur,rfl,-,-,-,-,-,-⟩
  ·have h0:t=[]:=List.eq_nil_of_length_eq_zero h0;subst h0;have hcv:(convert 185 9 (.slice none 0 0)).run Tryz.prog wr=.ok (.string ⟨#[]⟩) wr:=by rw[run_convert_bytes_string (P:=Tryz.prog) wr 185 9 5 none 0 0 Tryz.underlying185 Tryz.underlying5 Tryz.underlying9];simp[Conv.bytesToString];try rfl
   clear hown;go_wp2;exact hR.out _ _ ⟨by rw[← HT.out] <;> rfl,HB.out⟩
  ·have hcv:=run_convert_bytes_back (P:=Tryz.prog) wr 185 9 5 ⟨g,0,none⟩ cap t Tryz.underlying185 Tryz.underlying5 Tryz.underlying9 (fun j hj=>hown.cells (g:=g) rfl j _ (by simp[Lib.byteCells,hj]));clear hown;go_wp2;exact hR.out _ _ ⟨by rw[← HT.out] <;> rfl,HB.out⟩
def u8At (m:Mem) (b o:Nat) (x:Nat):Prop:=m.cell b o=some (.int .u8 (x:Int))∧x<256
def K5 (m:Mem) (v:Value) (l:List Nat):Prop:=Mem.mU (u8At m) v l
theorem K4 {m m':Mem} (h:m.le m') {v:Value} {l:List Nat} (k:K5 m v l):K5 m' v l:=Mem.ig k fun _ _ _ k=>⟨Mem.aA h k.1,k.2⟩
theorem zz {w:World} {t:TypeId} {v:Value} {l:List Nat} {m:Mem} (hown:w.ownsRow 0 t 1 v l.length (l.map fun x:Nat=>Value.int .u8 (x:Int))) (hk:∀x∈l,x<256):K5 (m.addv w v) v l:=by
 have h:=gK (R:=fun b o x=>u8At (m.addv w v) b o x) hown fun g hg i h=>⟨eQ hown hg m (by simp[h]),hk _ (List.getElem_mem h)⟩;obtain⟨a,c,h1,h2,h3,h4⟩:=h;exact⟨a,c,h1,h2,h3,fun hne=>by
  obtain⟨b,off,h5,h6⟩:=h4 hne;exact⟨b,off,h5,fun i hi=>by have:=h6 i hi;rwa [Nat.mul_one] at this⟩⟩
def stM1 (c:St) (v:List Int) (k b:Nat):Prop:=b=0∨∃i,∃h:i<c.2.length,i<k∧edMk (lI (c.2[i]).1 (v.getD i (-1))) b
def stM2 (c:St) (v:List Int) (k b:Nat):Prop:=stM1 c v c.2.length b∨∃i,∃h:i<c.1.length,i<k∧lbMk (c.1[i]).1.1.data.toList (v.getD (c.2.length+i) (-1)) b
theorem I4 {c:St} {v:List Int} {k:Nat} (h:k<c.2.length) (b:Nat):stM1 c v (k+1) b↔stM1 c v k b∨edMk (lI (c.2[k]).1 (v.getD k (-1))) b:=by
 constructor
 ·rintro (h0 | ⟨i,hi,hk,hm⟩)
  ·exact .inl (.inl h0)
  ·by_cases e:i=k
   ·subst e;exact .inr hm
   ·exact .inl (.inr ⟨i,hi,zo,hm⟩)
 ·rintro ((h0 | ⟨i,hi,hk,hm⟩) | hm)
  ·exact .inl h0
  ·exact .inr ⟨i,hi,zo,hm⟩
  ·exact .inr ⟨k,h,zo,hm⟩
theorem I1 {c:St} {v:List Int} {k:Nat} (h:k<c.1.length) (b:Nat):stM2 c v (k+1) b↔stM2 c v k b∨lbMk (c.1[k]).1.1.data.toList (v.getD (c.2.length+k) (-1)) b:=by
 constructor
 ·rintro (h0 | ⟨i,hi,hk,hm⟩)
  ·exact .inl (.inl h0)
  ·by_cases e:i=k
   ·subst e;exact .inr hm
   ·exact .inl (.inr ⟨i,hi,zo,hm⟩)
 ·rintro ((h0 | ⟨i,hi,hk,hm⟩) | hm)
  ·exact .inl h0
  ·exact .inr ⟨i,hi,zo,hm⟩
  ·exact .inr ⟨k,h,zo,hm⟩
theorem IZ (c:St) (v:List Int) (b:Nat):stM2 c v 0 b↔stM1 c v c.2.length b:=⟨fun h=>h.elim id fun ⟨i,_,hk,_⟩=>absurd hk (Nat.not_lt_zero i),.inl⟩
theorem K9 (c:St) (v:List Int) (b:Nat):stM2 c v c.1.length b↔stMk c v b:=by
 constructor
 ·rintro ((h | ⟨i,hi,-,hm⟩) | ⟨i,hi,-,hm⟩)
  ·exact .inl h
  ·exact .inr (.inl ⟨i,hi,hm⟩)
  ·exact .inr (.inr ⟨i,hi,hm⟩)
 ·rintro (h | ⟨i,hi,hm⟩ | ⟨i,hi,hm⟩)
  ·exact .inl (.inl h)
  ·exact .inl (.inr ⟨i,hi,hi,hm⟩)
  ·exact .inr ⟨i,hi,hi,hm⟩
theorem Kr {es:List Ed} {j:Nat} (h:j<es.length) (b:Nat):edMk (es.take (j+1)) b↔edMk (es.take j) b∨ja es[j] b:=oh h b
theorem Bc (l:Table) (k:Nat) (h:k<l.length):lI l (k:Int)=(l[k]).edges:=by
 unfold lI;rw[if_neg zo];simp[h]
noncomputable def marked (P:Nat→Prop) (q:Nat):List Nat:=(List.range q).filter fun b=>tf (P b)
theorem CX (P:Nat→Prop) (n:Nat):marked P (n+1)=marked P n ++ if tf (P n) then [n] else []:=by
 unfold marked;rw[List.range_succ,List.filter_append]
 congr 1
 cases h:tf (P n) <;> simp[h]
theorem Ao (P:Nat→Prop) (n:Nat):∀x∈marked P n,x<n:=fun x hx=>by
 simp only[marked,List.mem_filter,List.mem_range] at hx;exact hx.1
theorem JD (P:Nat→Prop) (n:Nat):(marked P n).length≤n:=Nat.le_trans (List.length_filter_le _ _) zS
theorem Gq {P:Nat→Prop} {n x:Nat}:x∈marked P n↔x<n∧P x:=by simp[marked,zB]
theorem OU:eT Tryz.prog 185 5 1 1:=⟨Tryz.underlying185,zo,by
 obtain⟨i,h1,h2,h3,h4⟩:=info_parts (P:=Tryz.prog) (e:=5) (z:=.int .u8 0) (size:=1) (bytes:=1) zk;exact⟨i,_,h1,h2,h3,h4,rfl⟩⟩
theorem getD_at {v:List Int} {i:Nat} (h:i<v.length):v.getD i (-1)=v[i]:=by simp[List.getD_eq_getElem?_getD,h]
theorem tyAr:qd Tryz.prog 175 257:=⟨Tryz.isAgg175,Tryz.sizeOf175⟩
theorem xC (u u' va:Value) (c:St) (v:List Int) (m:Mem) (n:Nat) (w:World) (hm:m.inn w) (h1:gI (VAt m n) m u c.1) (h2:fV (VAt m n) m u' c.2) (hv:dA m va v) (hV:VIn (stC1 c) v) (hwf:∀k∈c.2,WF k.1) :
 Calls Tryz.prog 194 #[.agg #[u,u'],va] w fun e w'=>∃r,e=.returned r∧Below w.heap.size w w'∧K5 (m.grow w w') r (marked (stMk c v) 256):=by
 have hS:=StV.of hV;have HVL:=zh hS.len;obtain⟨a1,c1,rfl,p1,q1,k1⟩:=h1;obtain⟨a2,c2,rfl,p2,q2,k2⟩:=h2;obtain⟨a3,c3,rfl,p3,q3,k3⟩:=hv;unfold maxLen at q1 q2 q3;have HR:=zh (zi hS.rngT hS.rngF);have HK:=zh (zi k1 (zi k2 k3));have HW:=zh (fun i (h:i<c.2.length)=>hwf c.2[i] (List.getElem_mem h));have HM1:=zh (fun k (h:k<c.2.length) b=>I4 (v:=v) h b);have HM2:=zh (fun k (h:k<c.1.length) b=>I1 (v:=v) h b);have HZ:=zh (IZ c v);have HA:=zh (K9 c v);have h10:∀b,stM1 c v 0 b↔b=0:=fun b=>⟨fun h=>h.elim id fun ⟨i,_,hk,_⟩=>absurd hk (Nat.not_lt_zero i),.inl⟩;have H10:=zh h10;have hO:=(Own.start hm).al #[.slice a1 c.1.length c1,.slice a2 c.2.length c2] 45;clear hV hS k1 k2 k3 hwf h10;generalize stM1 c v=M1 at *
 generalize stM2 c v=M2 at *
 generalize stMk c v=M3 at *
 generalize c.2=KL at *
 generalize c.1=FL at *
 refine ay fun R hR=>?_;have hO2:=hO.al Tryz.zeroCells175 175;simp only[bB] at hO2;have z1:Tryz.zeroCells175.size=257:=by rw[nG];simp
 have z2:∀u∈(Tryz.zeroCells175.setIfInBounds 0 (.bool true)).toList,u.oneCell'=true:=fun u hu=>by
  rw[nG,iN,fe] at hu;simp only[marr,List.mem_map,List.mem_range] at hu;obtain⟨b,-,rfl⟩:=hu;rfl
 have HO2:=zh (zi hO2 z2);have z3:(Tryz.zeroCells175.setIfInBounds 0 (.bool true)).size=257:=by simp[z1]
 clear hO hO2 z2
 go_enter Tryz.func194,Tryz.ntmps194
 go_wp2_with (refine aH tyAr rfl (.tmp 5) (.tmp 15) rfl (cs:=Tryz.zeroCells175.setIfInBounds 0 (.bool true)) rfl rfl z1 z3 HO2.out.2 HO2.out.1.obj ?_)
 intro w0 ho0 hg0;have hO:=HO2.out.1.setObj ho0 hg0;rw[nG,iN,fe,bY (P':=M1 0) (by intro b _;rw[H10.out];simp)] at hO;have g0:=hO.swap.obj.cell (i:=0) rfl;have g1:=hO.swap.obj.cell (i:=1) rfl;have gl:=hO.swap.obj.lt;have HO:=zh hO;clear HO2 ho0 hg0 hO z1 z3;go_wp2;refine au [1,2,5,17,18,19] (fun q vs wr=>∃(i:Nat),i≤KL.length∧q=KL.length - i∧vs=[.slice a3 v.length c3,.pointer (some ⟨w.heap.size,0,none⟩),.pointer (some ⟨w.heap.size+1,0,none⟩),.slice a2 KL.length c2,.int .i64 (KL.length:Int),.int .i64 (i:Int)] ∧
  Own w m wr m [.obj (w.heap.size+1) 175 (marr (M1 i) 257),.obj w.heap.size 45 #[.slice a1 FL.length c1,.slice a2 KL.length c2]]) ?_ ?_
 ·exact⟨_,0,Nat.zero_le _,rfl,rfl,HO.out⟩
 clear HO g0 g1 gl;rintro X z q vs wr hX - ⟨i,hi,rfl,rfl,hO⟩;simp[litL,lk];have g0:=hO.swap.obj.cell (i:=0) rfl;have g1:=hO.swap.obj.cell (i:=1) rfl;have gl:=hO.swap.obj.lt;by_cases hlt:i<KL.length
 ·obtain⟨b,off,rfl,h4⟩:=HK.out.2.1 (by intro h;simp[h] at hlt);obtain⟨kc,x,y,hks,hc,hx,hy⟩:=(h4 i hlt).cells;obtain⟨b3,off3,rfl,h5⟩:=HK.out.2.2 (by intro h;have:=HVL.out;rw[h] at this;simp at this;omega);have hiv:i<v.length:=by have:=HVL.out;omega
  have e1:=(h5 i hiv).1;have hcl:=Mem.av hO.inn (hc 0 _ rfl);have HC:=zh (fun j u hj=>Mem.aj hO.inn (hc j u hj));have h2:=nV hks hx hy;have hl2:(kcs KL[i] kc x y).length=19:=rfl;have H0:(kcs KL[i] kc x y).toArray[0]?=some kc:=rfl;have hrg:=HR.out.1 i hlt hiv;have HS:=zh (HM1.out i hlt);have hneg:∀z:Int,z<0→lI KL[i].1 z=[]:=fun z hz=>by unfold lI;rw[if_pos hz]
  have hwf:=HW.out i hlt;rw[getD_at hiv] at HS;have HQ:=zh (zi hneg hwf);have HO:=zh (hO.al zcK 61);obtain⟨ta,tc,rfl,t1,t2,t3⟩:=hks;unfold maxLen at t2;have HT:=zh t3;generalize kcs KL[i] _ x y=M at *
  generalize v[i]=vi at *
  generalize KL[i].1=T at *
  clear hO hx hy hc h4 h5 t3 hneg hwf
  go_wp2_with (first
   | refine ae tyK rfl (.tmp 22) rfl rfl M hl2 HC.out ?_
   | refine aH tyK rfl (.tmp 7) (.tmp 23) rfl (cs:=M.toArray) rfl rfl rfl (by simpa using hl2) (fun u hu=>h2 u hu) HO.out.obj ?_)
  intro w1 ho1 hg1;have hO1:=HO.out.setObj ho1 hg1;have gb:=ho1.cell H0;have gbl:=hO1.obj.lt;have x1:=Mem.aj hO1.inn e1;have xl:=Mem.av hO1.inn e1;have HO1:=zh hO1.tail;by_cases hpos:vi<0
  ·have hd:decide (vi<0)=true:=decide_eq_true hpos;have ha:=HQ.out.1 vi hpos;rw[ha] at HS;have HO2:=HO1.out;rw[bY (P':=M1 (i+1)) (by intro b _;rw[HS.out];simp[edMk])] at HO2;have HO2:=zh HO2;clear hO1 HO ho1 hg1 HC e1 ha HQ HS HO1;go_wp2;exact hX.out _ _ _ zo rfl ⟨i+1,zo,rfl,rfl,HO2.out⟩
  ·obtain⟨k,rfl⟩:=Int.eq_ofNat_of_zero_le (by omega:0≤vi);have hkt:k<T.length:=zo;obtain⟨tb,to,rfl,t4⟩:=HT.out (by intro h;rw[h] at hkt;simp at hkt);obtain⟨s1,ve,s2,ea,ec,rfl,e4,e5,e6⟩:=t4 k hkt;have y1:=Mem.aj hO1.inn s2;have yl:=Mem.av hO1.inn s2;have hlo:=dD (HQ.out.2 T[k] (List.getElem_mem hkt));rw[Bc T k hkt] at HS;have HLO:=zh hlo;have HE6:=zh e6;unfold maxLen at e5;have hd:decide ((k:Int)<0)=false:=decide_eq_false zo;generalize T[k].edges=es at *
   clear hO1 HO ho1 hg1 HC e1 s1 s2 t4 HQ hlo e6;go_wp2
   go_quiet (fail)
   go_wp2;refine au [1,2,5,17,18,19,38,39,40] (fun q vs w2=>∃(j:Nat),j≤es.length∧q=es.length - j∧vs=[.slice (some ⟨b3,off3,none⟩) v.length c3,.pointer (some ⟨w.heap.size,0,none⟩),.pointer (some ⟨w.heap.size+1,0,none⟩),.slice (some ⟨b,off,none⟩) KL.length c2,.int .i64 (KL.length:Int),.int .i64 (i:Int),.slice ea es.length ec,.int .i64 (es.length:Int),.int .i64 (j:Int)] ∧
    Own w m w2 m [.obj (w.heap.size+1) 175 (marr (fun b=>M1 i b∨edMk (es.take j) b) 257),.obj w.heap.size 45 #[.slice a1 FL.length c1,.slice (some ⟨b,off,none⟩) KL.length c2]]) ?_ ?_
   ·refine ⟨_,0,Nat.zero_le _,rfl,rfl,?_⟩;have:=HO1.out;rw[bY (P':=fun b=>M1 i b∨edMk (es.take 0) b) (by intro b _;simp[edMk])] at this;exact this.drN _
   clear HO1 g0 g1 gl gb gbl x1 xl y1 yl;rintro Y z2 q2 vs w2 hY - ⟨j,hj,rfl,rfl,hO2⟩;simp[litL,lk];by_cases hlt2:j<es.length
   ·obtain⟨b',off',rfl,h10⟩:=HE6.out (by intro h;simp[h] at hlt2);obtain⟨e1,e2,e3,e4',e5',-⟩:=h10 j hlt2;have hle:=(HLO.out es[j] (List.getElem_mem hlt2)).1;have d1:=Mem.aj hO2.inn e1;have d2:=Mem.aj hO2.inn e2;have d3:=Mem.aj hO2.inn e3;have hb1:=Mem.av hO2.inn e1;have hg1:=hO2.obj.lt;have k1:=hO2.obj.cell (fo (i:=es[j].lo) zo);have k2:=hO2.obj.cell (fo (i:=es[j].hi+1) zo);have k3:=hO2.obj.frozen es[j].lo;have k4:=hO2.obj.frozen (es[j].hi+1);have hne:es[j].lo≠es[j].hi+1:=zo;have hne':es[j].hi+1≠es[j].lo:=zo;have hO3:=(((hO2.set es[j].lo (.bool true)).set (es[j].hi+1) (.bool true))).al' (.cells #[.int .u8 es[j].lo,.int .u8 es[j].hi,.int .i64 es[j].to] 104);rw[fe,fe,bY (P':=fun b=>M1 i b∨edMk (es.take (j+1)) b) (by
     intro b _;rw[Kr hlt2];unfold ja;constructor
     ·rintro ((h | h) | h)
      ·exact h.elim .inl (fun h=>.inr (.inl h))
      ·exact .inr (.inr (.inl h.symm))
      ·exact .inr (.inr (.inr h.symm))
     ·rintro (h | h | h | h)
      ·exact .inl (.inl (.inl h))
      ·exact .inl (.inl (.inr h))
      ·exact .inl (.inr h.symm)
      ·exact .inr h.symm)] at hO3
    have HO3:=zh hO3;clear hO3;go_wp2
    go_region
    all_goals go_wp2
    all_goals exact hY.out _ _ _ zo rfl ⟨j+1,zo,rfl,rfl,HO3.out.drN _⟩
   ·rw[bY (P':=M1 (i+1)) (by
     intro b _;rw[HS.out,List.take_of_length_le (l:=es) (i:=j) zo])] at hO2
    have HO3:=zh hO2;clear hO2 hY HS;go_wp2;exact hX.out _ _ _ zo rfl ⟨i+1,zo,rfl,rfl,HO3.out⟩
 ·obtain rfl:i=KL.length:=zo;rw[bY (P':=M2 0) (by intro b _;rw[HZ.out])] at hO;have HO:=zh hO;clear hO hX;go_wp2;refine au [1,2,5,55,56,57] (fun q vs wr=>∃(i:Nat),i≤FL.length∧q=FL.length - i∧vs=[.slice a3 v.length c3,.pointer (some ⟨w.heap.size,0,none⟩),.pointer (some ⟨w.heap.size+1,0,none⟩),.slice a1 FL.length c1,.int .i64 (FL.length:Int),.int .i64 (i:Int)] ∧
   Own w m wr m [.obj (w.heap.size+1) 175 (marr (M2 i) 257),.obj w.heap.size 45 #[.slice a1 FL.length c1,.slice a2 KL.length c2]]) ?_ ?_
  ·exact⟨_,0,Nat.zero_le _,rfl,rfl,HO.out⟩
  clear HO g0 g1 gl;rintro X z q vs wr hX - ⟨i,hi,rfl,rfl,hO⟩;simp[litL,lk];have g0:=hO.swap.obj.cell (i:=0) rfl;have g1:=hO.swap.obj.cell (i:=1) rfl;have gl:=hO.swap.obj.lt;by_cases hlt:i<FL.length
  ·obtain⟨b,off,rfl,h4⟩:=HK.out.1 (by intro h;simp[h] at hlt);obtain⟨x,y,hc,hx,hy⟩:=(h4 i hlt).cells;obtain⟨b3,off3,rfl,h5⟩:=HK.out.2.2 (by intro h;have:=HVL.out;rw[h] at this;simp at this;omega);have hiv:KL.length+i<v.length:=by have:=HVL.out;omega
   have e1:=(h5 (KL.length+i) hiv).1;have hcl:=Mem.av hO.inn (hc 0 _ rfl);have HC:=zh (fun j u hj=>Mem.aj hO.inn (hc j u hj));have h2:=nZ hx hy;have hl2:(fcs FL[i] x y).length=20:=rfl;have H0:(fcs FL[i] x y).toArray[0]?=some (.string FL[i].1.1):=rfl;have hrg:=HR.out.2 i hlt hiv;have hsz:=(h4 i hlt).sz;have HS:=zh (HM2.out i hlt);rw[getD_at hiv] at HS;have hwb:=hO.obj.lt;have HO:=zh (hO.al zcF 58);unfold maxLen at hsz;generalize fcs FL[i] x y=M at *
   generalize v[KL.length+i]=vi at *
   generalize FL[i].1.1=lab at *
   clear hO hx hy hc h4 h5
   go_wp2_with (first
    | refine ae tyF rfl (.tmp 60) rfl rfl M hl2 HC.out ?_
    | refine aH tyF rfl (.tmp 11) (.tmp 61) rfl (cs:=M.toArray) rfl rfl rfl (by simpa using hl2) (fun u hu=>h2 u hu) HO.out.obj ?_)
   intro w1 ho1 hg1;have hO1:=HO.out.setObj ho1 hg1;have g0:=hO1.third.obj.cell (i:=0) rfl;have g1:=hO1.third.obj.cell (i:=1) rfl;have gl:=hO1.third.obj.lt;have gb:=ho1.cell H0;have gbl:=hO1.obj.lt;have x1:=Mem.aj hO1.inn e1;have xl:=Mem.av hO1.inn e1;have hO1:=hO1.tail;have HO1:=zh hO1;clear HO ho1 hg1 HC e1;by_cases hin:0≤vi∧vi<(lab.size:Int)
   ·obtain⟨k,rfl⟩:=Int.eq_ofNat_of_zero_le hin.1;have hk:k<lab.size:=zo;have hd1:decide (0≤(k:Int))=true:=decide_eq_true zo;have hd2:decide ((k:Int)<(lab.size:Int))=true:=decide_eq_true zo;have hu:=UInt8.toNat_lt lab[k];have k1:=hO1.obj.cell (fo (i:=lab[k].toNat) zo);have k2:=hO1.obj.cell (fo (i:=lab[k].toNat+1) zo);have k3:=hO1.obj.frozen lab[k].toNat;have k4:=hO1.obj.frozen (lab[k].toNat+1);have hne:lab[k].toNat≠lab[k].toNat+1:=zo;have hne':lab[k].toNat+1≠lab[k].toNat:=zo;have hn2:wr.heap.size≠w.heap.size+1:=zo;have hn3:w.heap.size+1≠wr.heap.size:=zo;have hg1:=hO1.obj.lt;have hO3:=(hO1.set lab[k].toNat (.bool true)).set (lab[k].toNat+1) (.bool true);have hlk:lab.data.toList[((k:Nat):Int).toNat]?=some lab[k]:=by
     simp only[Int.toNat_natCast];rw[List.getElem?_eq_getElem (by rw[xq];exact hk)]
     rfl
    rw[fe,fe,bY (P':=M2 (i+1)) (by
     intro b _;rw[HS.out];constructor
     ·rintro ((h | h) | h)
      ·exact .inl h
      ·exact .inr ⟨zo,_,hlk,.inl h.symm⟩
      ·exact .inr ⟨zo,_,hlk,.inr h.symm⟩
     ·rintro (h | ⟨-,u,h1,h2⟩)
      ·exact .inl (.inl h)
      ·rw[hlk] at h1;cases h1;rcases h2 with h2 | h2
       ·exact .inl (.inr h2.symm)
       ·exact .inr h2.symm)] at hO3
    have HO3:=zh hO3;clear hO1 hin HS hO3 hlk HO1;go_wp2
    go_region
    all_goals go_wp2
    all_goals exact hX.out _ _ _ zo rfl ⟨i+1,zo,rfl,rfl,HO3.out.drN _⟩
   ·have hO2:=hO1;rw[bY (P':=M2 (i+1)) (by
     intro b _;rw[HS.out];constructor
     ·exact .inl
     ·rintro (h | ⟨h1,u,h2,-⟩)
      ·exact h
      ·have:=(List.getElem?_eq_some_iff.1 h2).1;rw[xq] at this;exact absurd ⟨h1,zo⟩ hin)] at hO2
    have HO2:=zh hO2;clear hO1 hO2 HO1 HS;by_cases h0:0≤vi
    ·have hd1:decide (0≤vi)=true:=decide_eq_true h0;have hd2:decide (vi<(lab.size:Int))=false:=decide_eq_false fun h=>hin ⟨h0,h⟩;clear hin;go_wp2;exact hX.out _ _ _ zo rfl ⟨i+1,zo,rfl,rfl,HO2.out⟩
    ·have hd1:decide (0≤vi)=false:=decide_eq_false h0;clear hin;go_wp2;exact hX.out _ _ _ zo rfl ⟨i+1,zo,rfl,rfl,HO2.out⟩
  ·obtain rfl:i=FL.length:=zo;rw[bY (P':=M3) (by intro b _;rw[HA.out])] at hO;have HO:=zh hO;clear hO hX;go_wp2;refine au [5,13,92] (fun n vs w2=>∃(q:Nat) (r:Value),q≤256∧n=256 - q∧vs=[.pointer (some ⟨w.heap.size+1,0,none⟩),r,.int .i64 (q:Int)] ∧
    Own w m w2 m [.row r 5 1 (marked M3 q).length ((marked M3 q).map fun x:Nat=>Value.int .u8 (x:Int)),.obj (w.heap.size+1) 175 (marr M3 257)]) ?_ ?_
   ·exact⟨_,0,.slice none 0 0,zo,rfl,rfl,HO.out.drop2.dI _ _⟩
   clear HO g0 g1 gl;rintro Y z2 n vs w2 hY - ⟨q,r,hq,rfl,rfl,hO2⟩;simp[litL,lk];by_cases hlt2:q<256
   ·have k1:=hO2.swap.obj.cell (fo (i:=q) zo);have hg:=hO2.swap.obj.lt;have hcl:=JD M3 q;have hsu:=CX M3 q;by_cases hc:M3 q
    ·have ht:=aI hc;rw[ht] at k1;rw[ht,if_pos rfl] at hsu;have Hsu:=zh hsu;clear hsu ht;have hO3:=hO2.al #[.int .u8 q] 5
     go_wp2_with (at_builtin;refine aC OU rfl (.tmp 98) (.tmp 101) rfl r (marked M3 q).length ((marked M3 q).map fun x:Nat=>Value.int .u8 (x:Int)) rfl hO3.swap.row ⟨w2.heap.size,0,none⟩ 1 1 [.int .u8 q] rfl rfl (hO3.obj.news rfl) (by simp[Value.oneCell']) (by unfold maxLen;omega) zo ?_)
     intro va vc w3 hown3 hgrow hrow3;have hO4:=(hO3.swap.app hown3 hgrow hrow3 zS).drop2;have Hfin:=zh hO4;clear hO4 hown3 hgrow hrow3 hO3;go_wp2;refine hY.out _ _ _ zo rfl ⟨q+1,_,zo,rfl,rfl,?_⟩;rw[Hsu.out];simpa using Hfin.out
    ·have ht:=az hc;rw[ht] at k1;rw[ht,if_neg zS,List.append_nil] at hsu;have Hsu:=zh hsu;clear hsu ht;go_wp2;refine hY.out _ _ _ zo rfl ⟨q+1,r,zo,rfl,rfl,?_⟩;rw[Hsu.out];exact hO2
   ·obtain rfl:q=256:=zo;have hres:=K4 hO2.bg.done (zz (m:=m) hO2.row (fun x hx=>Ao M3 256 x hx));have Hfin:=zh (zi hO2.below hres);clear hres hO2;go_wp2;exact hR.out _ _ ⟨_,rfl,Hfin.out.1,Hfin.out.2⟩
def afK (c:St) (v:List Int) (b k:Nat):List Int:=aftK (stC1 c) v b k
structure AfV (c:St) (v:List Int) (b:Nat):Prop where
 len:∀k,k≤v.length→(afK c v b k).length=v.length
 zero:afK c v b 0=List.replicate v.length (-1)
 all:afK c v b v.length=dK (stC1 c) v b
 self:∀k,k<v.length→(afK c v b k).set k (-1)=afK c v b k
 tab:∀i (h:i<c.2.length) (hv:i<v.length),(afK c v b i).set i (aW c.2[i].1 v[i] b)=afK c v b (i+1)
 lab:∀i (h:i<c.1.length) (hv:c.2.length+i<v.length),(afK c v b (c.2.length+i)).set (c.2.length+i) (j3 c.1[i].1.1.data.toList v[c.2.length+i] b)=afK c v b (c.2.length+(i+1))
theorem AfV.of {c:St} {v:List Int} (h:v.length=(stC1 c).length) (b:Nat):AfV c v b:=by
 have hl2:=xP c;have tT:∀i (hi:i<c.2.length) (h':i<(stC1 c).length),(stC1 c)[i]=tabC (c.2[i]).1:=fun i hi h'=>by
  simp only[stC1];rw[List.getElem_append_left (by simpa using hi)];simp
 have tF:∀i (hi:i<c.1.length) (h':c.2.length+i<(stC1 c).length),(stC1 c)[c.2.length+i]=labC (c.1[i]).1.1.data.toList:=fun i hi h'=>by
  simp only[stC1];rw[List.getElem_append_right zS];simp
 refine ⟨fun k hk=>Mx h.symm b hk,KI _ _ _,MB h.symm b,fun k hk=>?_,fun i hi hv=>?_,fun i hi hv=>?_⟩
 ·show (aftK _ _ _ _).set _ _=aftK _ _ _ _;rw[E5 h.symm b hk];unfold aftK;rw[show v.length - k=(v.length - (k+1))+1 by omega,List.replicate_succ]
 ·have:=BD h.symm b hv;rw[tT i hi] at this;exact this
 ·have:=BD h.symm b hv;rw[tF i hi] at this;rw[← Nat.add_assoc];exact this
def jM (l:List Int):List Value:=l.map (Value.int .i64)
theorem qH (l:List Int) (i:Nat) (x:Int):(jM l).set i (.int .i64 x)=jM (l.set i x):=by simp[jM,List.map_set]
theorem qI {l:List Int} {i:Nat} (h:i<l.length):(jM l)[i]?=some (.int .i64 l[i]):=by simp[jM,h]
theorem Ox:Ff Tryz.prog 180 3 8 (.int .i64 0):=⟨Tryz.underlying180,zk,rfl⟩
theorem L8 (n i:Nat) (h:i<n):(List.replicate i (-1:Int) ++ List.replicate (n - i) 0).set i (-1)=List.replicate (i+1) (-1) ++ List.replicate (n - (i+1)) 0:=by
 rw[List.set_append_right _ _ zS,List.length_replicate,Nat.sub_self,show n - i=(n - (i+1))+1 by omega,List.replicate_succ,List.set_cons_zero,List.replicate_succ',List.append_assoc]
 rfl
theorem IE (l:Table) (k:Nat) (h:k<l.length) (hw:WF l) (b:Nat):aW l (k:Int) b=mK b (l[k]).edges (-1):=by
 rw[← JI hw,Bc l k h]
theorem zy (u u' va:Value) (c:St) (v:List Int) (bb:Nat) (m:Mem) (n:Nat) (w:World) (hm:m.inn w) (h1:gI (VAt m n) m u c.1) (h2:fV (VAt m n) m u' c.2) (hv:dA m va v) (hV:VIn (stC1 c) v) (hwf:∀k∈c.2,WF k.1) (_:bb<256) (hvl:v.length≤1000000) (hvr:∀x∈dK (stC1 c) v bb,-9223372036854775808≤x∧x≤9223372036854775807) :
 Calls Tryz.prog 195 #[.agg #[u,u'],va,.int .u8 bb] w fun e w'=>∃r,e=.returned r∧Below w.heap.size w w'∧dA (m.grow w w') r (dK (stC1 c) v bb):=by
 have hS:=StV.of hV;have hF:=AfV.of hV.len bb;have HVL:=zh hS.len;obtain⟨a1,c1,rfl,p1,q1,k1⟩:=h1;obtain⟨a2,c2,rfl,p2,q2,k2⟩:=h2;obtain⟨a3,c3,rfl,p3,q3,k3⟩:=hv;unfold maxLen at q1 q2 q3;have HR:=zh (zi hS.rngT hS.rngF);have HK:=zh (zi k1 (zi k2 k3));have HW:=zh (fun i (h:i<c.2.length)=>hwf c.2[i] (List.getElem_mem h));have HAL:=zh hF.len;have HAZ:=zh hF.zero;have HAA:=zh hF.all;have HAS:=zh hF.self;have HAT:=zh hF.tab;have HAF:=zh hF.lab;have HVR:=zh hvr;have hO:=(Own.start hm).al #[.slice a1 c.1.length c1,.slice a2 c.2.length c2] 45;have HO:=zh hO;clear hV hS hF k1 k2 k3 hwf hO hvr;generalize afK c v bb=af at *
 generalize dK (stC1 c) v bb=VS at *
 generalize c.2=KL at *
 generalize c.1=FL at *
 refine ay fun R hR=>?_
 go_enter Tryz.func195,Tryz.ntmps195
 go_wp2_with (refine wpList_make_row Ox rfl (.tmp 18) (.tmp 18) rfl v.length rfl rfl zo (by unfold maxLen;omega) ?_)
 intro w1 ho1 hg1;rw[← bB w (.cells #[.slice a1 FL.length c1,.slice a2 KL.length c2] 45)] at ho1;have hO:=HO.out.make ho1 hg1;simp only[bB] at hO;have HO1:=zh hO;clear HO ho1 hg1 hO;go_wp2;refine au [1,2,3,7,21,22] (fun q vs wr=>∃(i:Nat),i≤v.length∧q=v.length - i∧vs=[.slice a3 v.length c3,.int .u8 bb,.pointer (some ⟨w.heap.size,0,none⟩),.slice (some ⟨w.heap.size+1,0,none⟩) v.length v.length,.int .i64 (v.length:Int),.int .i64 (i:Int)] ∧
  Own w m wr m [.row (.slice (some ⟨w.heap.size+1,0,none⟩) v.length v.length) 3 1 v.length (jM (List.replicate i (-1) ++ List.replicate (v.length - i) 0)),.obj w.heap.size 45 #[.slice a1 FL.length c1,.slice a2 KL.length c2]]) ?_ ?_
 ·exact⟨_,0,Nat.zero_le _,rfl,rfl,by simpa [jM] using HO1.out⟩
 clear HO1;rintro X z q vs wr hX - ⟨i,hi,rfl,rfl,hO⟩;simp[litL,lk];by_cases hlt:i<v.length
 ·have r1:=aP hO.row (qI (i:=i) (by simp;omega));have r2:=bU hO.row i;have rl:=hO.swap.obj.lt;have hO2:=hO.setRow i (.int .i64 (-1));rw[qH,L8 _ _ hlt] at hO2;have HO2:=zh hO2;clear hO hO2;go_wp2;exact hX.out _ _ _ zo rfl ⟨i+1,zo,rfl,rfl,HO2.out⟩
 ·obtain rfl:i=v.length:=zo;rw[Nat.sub_self,List.replicate_zero,List.append_nil,← HAZ.out] at hO;have g0:=hO.swap.obj.cell (i:=0) rfl;have g1:=hO.swap.obj.cell (i:=1) rfl;have gl:=hO.swap.obj.lt;have HO:=zh hO;clear hO hX;go_wp2;refine au [1,2,3,7,30,31,32] (fun q vs wr=>∃(i:Nat),i≤KL.length∧q=KL.length - i∧vs=[.slice a3 v.length c3,.int .u8 bb,.pointer (some ⟨w.heap.size,0,none⟩),.slice (some ⟨w.heap.size+1,0,none⟩) v.length v.length,.slice a2 KL.length c2,.int .i64 (KL.length:Int),.int .i64 (i:Int)] ∧
   Own w m wr m [.row (.slice (some ⟨w.heap.size+1,0,none⟩) v.length v.length) 3 1 v.length (jM (af i)),.obj w.heap.size 45 #[.slice a1 FL.length c1,.slice a2 KL.length c2]]) ?_ ?_
  ·exact⟨_,0,Nat.zero_le _,rfl,rfl,HO.out⟩
  clear HO g0 g1 gl;rintro X z q vs wr hX - ⟨i,hi,rfl,rfl,hO⟩;simp[litL,lk];have g0:=hO.swap.obj.cell (i:=0) rfl;have g1:=hO.swap.obj.cell (i:=1) rfl;have gl:=hO.swap.obj.lt;by_cases hlt:i<KL.length
  ·obtain⟨b,off,rfl,h4⟩:=HK.out.2.1 (by intro h;simp[h] at hlt);obtain⟨kc,x,y,hks,hc,hx,hy⟩:=(h4 i hlt).cells;obtain⟨b3,off3,rfl,h5⟩:=HK.out.2.2 (by intro h;have:=HVL.out;rw[h] at this;simp at this;omega);have hiv:i<v.length:=by have:=HVL.out;omega
   have e1:=(h5 i hiv).1;have hcl:=Mem.av hO.inn (hc 0 _ rfl);have HC:=zh (fun j u hj=>Mem.aj hO.inn (hc j u hj));have h2:=nV hks hx hy;have hl2:(kcs KL[i] kc x y).length=19:=rfl;have H0:(kcs KL[i] kc x y).toArray[0]?=some kc:=rfl;have hrg:=HR.out.1 i hlt hiv;have hwf:=HW.out i hlt;have HS:=zh (HAT.out i hlt hiv);have HSF:=zh (zi (HAS.out i hiv) (HAL.out i zo));have HQ:=zh (zi (fun z (hz:z<0)=>gP (l:=KL[i].1) hz bb) (zi (fun (k:Nat) (hk:k<KL[i].1.length)=>IE KL[i].1 k hk hwf bb) hwf));have HO:=zh (hO.al zcK 61);obtain⟨ta,tc,rfl,t1,t2,t3⟩:=hks;unfold maxLen at t2;have HT:=zh t3;generalize kcs KL[i] _ x y=M at *
   generalize v[i]=vi at *
   generalize KL[i].1=T at *
   clear hO hx hy hc h4 h5 t3 hwf
   go_wp2_with (first
    | refine ae tyK rfl (.tmp 35) rfl rfl M hl2 HC.out ?_
    | refine aH tyK rfl (.tmp 10) (.tmp 36) rfl (cs:=M.toArray) rfl rfl rfl (by simp[hl2]) (fun u hu=>h2 u hu) HO.out.obj ?_)
   intro w1 ho1 hg1;have hO1:=HO.out.setObj ho1 hg1;have gb:=ho1.cell H0;have gbl:=hO1.obj.lt;have x1:=Mem.aj hO1.inn e1;have xl:=Mem.av hO1.inn e1;have HO1:=zh hO1.tail;by_cases hpos:vi<0
   ·have hd:decide (vi<0)=true:=decide_eq_true hpos;have hss:=HS.out;rw[HQ.out.1 vi hpos,HSF.out.1] at hss;have HSS:=zh hss;clear hO1 HO ho1 hg1 HC e1 HQ HS hss;go_wp2;exact hX.out _ _ _ zo rfl ⟨i+1,zo,rfl,rfl,by rw[← HSS.out];exact HO1.out⟩
   ·obtain⟨k,rfl⟩:=Int.eq_ofNat_of_zero_le (by omega:0≤vi);have hkt:k<T.length:=zo;obtain⟨tb,to,rfl,t4⟩:=HT.out (by intro h;rw[h] at hkt;simp at hkt);obtain⟨s1,ve,s2,ea,ec,rfl,e4,e5,e6⟩:=t4 k hkt;have y1:=Mem.aj hO1.inn s2;have yl:=Mem.av hO1.inn s2;have hss:=HS.out;rw[HQ.out.2.1 k hkt] at hss;have HSS:=zh hss;have HE6:=zh e6;unfold maxLen at e5;have hd:decide ((k:Int)<0)=false:=decide_eq_false zo;generalize T[k].edges=es at *
    clear hO1 HO ho1 hg1 HC e1 s1 s2 t4 HQ hss e6;go_wp2
    go_quiet (fail)
    go_wp2;refine au [1,2,3,7,9,30,31,32,51,52,53] (fun q vs w2=>∃(j:Nat),j≤es.length∧q=es.length - j∧vs=[.slice (some ⟨b3,off3,none⟩) v.length c3,.int .u8 bb,.pointer (some ⟨w.heap.size,0,none⟩),.slice (some ⟨w.heap.size+1,0,none⟩) v.length v.length,.int .i64 (i:Int),.slice (some ⟨b,off,none⟩) KL.length c2,.int .i64 (KL.length:Int),.int .i64 (i:Int),.slice ea es.length ec,.int .i64 (es.length:Int),.int .i64 (j:Int)] ∧
     Own w m w2 m [.row (.slice (some ⟨w.heap.size+1,0,none⟩) v.length v.length) 3 1 v.length (jM ((af i).set i (mK bb (es.take j) (-1)))),.obj w.heap.size 45 #[.slice a1 FL.length c1,.slice (some ⟨b,off,none⟩) KL.length c2]]) ?_ ?_
    ·refine ⟨_,0,Nat.zero_le _,rfl,rfl,?_⟩;have:=HO1.out;rw[← HSF.out.1] at this;exact this.drN _
    clear HO1 g0 g1 gl gb gbl x1 xl y1 yl;rintro Y z2 q2 vs w2 hY - ⟨j,hj,rfl,rfl,hO2⟩;simp[litL,lk];by_cases hlt2:j<es.length
    ·obtain⟨b',off',rfl,h10⟩:=HE6.out (by intro h;simp[h] at hlt2);obtain⟨e1,e2,e3,e4',e5',-⟩:=h10 j hlt2;have d1:=Mem.aj hO2.inn e1;have d2:=Mem.aj hO2.inn e2;have d3:=Mem.aj hO2.inn e3;have hb1:=Mem.av hO2.inn e1;have hlen:((af i).set i (mK bb (es.take j) (-1))).length=v.length:=by rw[List.length_set];exact HSF.out.2
     have r1:=aP hO2.row (qI (i:=i) zo);have r2:=bU hO2.row i;have rl:=hO2.swap.obj.lt;have rl2:w.heap.size+1<w2.heap.size:=Item.lt (hO2.ok _ (List.mem_cons_self ..)) rfl;have hls:=GG bb (-1) hlt2;have HO2:=zh (hO2.al' (.cells #[.int .u8 es[j].lo,.int .u8 es[j].hi,.int .i64 es[j].to] 104));have hO3:=(hO2.setRow i (.int .i64 es[j].to)).al' (.cells #[.int .u8 es[j].lo,.int .u8 es[j].hi,.int .i64 es[j].to] 104);rw[qH,List.set_set] at hO3;have HO3:=zh hO3;have HLS:=zh hls;generalize es[j]=e at *
     clear hO2 h10 e1 e2 e3 hls hO3;by_cases m1:e.lo≤bb
     ·by_cases m2:bb≤e.hi
      ·have hq:mK bb (es.take (j+1)) (-1)=e.to:=by rw[HLS.out,if_pos ⟨m1,m2⟩]
       have HQ:=zh hq;clear HLS hq;go_wp2;exact hY.out _ _ _ zo rfl ⟨j+1,zo,rfl,rfl,by rw[HQ.out];exact HO3.out⟩
      ·have hq:mK bb (es.take (j+1)) (-1)=mK bb (es.take j) (-1):=by rw[HLS.out,if_neg zo]
       have HQ:=zh hq;clear HLS hq;go_wp2;exact hY.out _ _ _ zo rfl ⟨j+1,zo,rfl,rfl,by rw[HQ.out];exact HO2.out⟩
     ·have hq:mK bb (es.take (j+1)) (-1)=mK bb (es.take j) (-1):=by rw[HLS.out,if_neg zo]
      have HQ:=zh hq;clear HLS hq;go_wp2;exact hY.out _ _ _ zo rfl ⟨j+1,zo,rfl,rfl,by rw[HQ.out];exact HO2.out⟩
    ·rw[List.take_of_length_le (l:=es) (i:=j) zo,HSS.out] at hO2;have HO3:=zh hO2;clear hO2 hY HS;go_wp2;exact hX.out _ _ _ zo rfl ⟨i+1,zo,rfl,rfl,HO3.out⟩
  ·obtain rfl:i=KL.length:=zo;have HO:=zh hO;clear hO hX;go_wp2;refine au [1,2,3,7,75,76,77] (fun q vs wr=>∃(i:Nat),i≤FL.length∧q=FL.length - i∧vs=[.slice a3 v.length c3,.int .u8 bb,.pointer (some ⟨w.heap.size,0,none⟩),.slice (some ⟨w.heap.size+1,0,none⟩) v.length v.length,.slice a1 FL.length c1,.int .i64 (FL.length:Int),.int .i64 (i:Int)] ∧
    Own w m wr m [.row (.slice (some ⟨w.heap.size+1,0,none⟩) v.length v.length) 3 1 v.length (jM (af (KL.length+i))),.obj w.heap.size 45 #[.slice a1 FL.length c1,.slice a2 KL.length c2]]) ?_ ?_
   ·exact⟨_,0,Nat.zero_le _,rfl,rfl,HO.out⟩
   clear HO g0 g1 gl;rintro X z q vs wr hX - ⟨i,hi,rfl,rfl,hO⟩;simp[litL,lk];have g0:=hO.swap.obj.cell (i:=0) rfl;have g1:=hO.swap.obj.cell (i:=1) rfl;have gl:=hO.swap.obj.lt;by_cases hlt:i<FL.length
   ·obtain⟨b,off,rfl,h4⟩:=HK.out.1 (by intro h;simp[h] at hlt);obtain⟨x,y,hc,hx,hy⟩:=(h4 i hlt).cells;obtain⟨b3,off3,rfl,h5⟩:=HK.out.2.2 (by intro h;have:=HVL.out;rw[h] at this;simp at this;omega);have hiv:KL.length+i<v.length:=by have:=HVL.out;omega
    have e1:=(h5 (KL.length+i) hiv).1;have hcl:=Mem.av hO.inn (hc 0 _ rfl);have HC:=zh (fun j u hj=>Mem.aj hO.inn (hc j u hj));have h2:=nZ hx hy;have hl2:(fcs FL[i] x y).length=20:=rfl;have H0:(fcs FL[i] x y).toArray[0]?=some (.string FL[i].1.1):=rfl;have hrg:=HR.out.2 i hlt hiv;have hsz:=(h4 i hlt).sz;have HS:=zh (HAF.out i hlt hiv);have HSF:=zh (zi (HAS.out (KL.length+i) hiv) (HAL.out (KL.length+i) zo));have rl2:w.heap.size+1<wr.heap.size:=Item.lt (hO.ok _ (List.mem_cons_self ..)) rfl;have HO:=zh (hO.al zcF 58);unfold maxLen at hsz;generalize fcs FL[i] x y=M at *
    generalize v[KL.length+i]=vi at *
    generalize FL[i].1.1=lab at *
    clear hO hx hy hc h4 h5
    go_wp2_with (first
     | refine ae tyF rfl (.tmp 80) rfl rfl M hl2 HC.out ?_
     | refine aH tyF rfl (.tmp 14) (.tmp 81) rfl (cs:=M.toArray) rfl rfl rfl (by simp[hl2]) (fun u hu=>h2 u hu) HO.out.obj ?_)
    intro w1 ho1 hg1;have hO1:=HO.out.setObj ho1 hg1;have g0:=hO1.third.obj.cell (i:=0) rfl;have g1:=hO1.third.obj.cell (i:=1) rfl;have gl:=hO1.third.obj.lt;have gb:=ho1.cell H0;have gbl:=hO1.obj.lt;have x1:=Mem.aj hO1.inn e1;have xl:=Mem.av hO1.inn e1;have hO1:=hO1.tail;have r1:=aP hO1.row (qI (l:=af (KL.length+i)) (i:=KL.length+i) (by rw[HSF.out.2];exact hiv));have r2:=bU hO1.row (KL.length+i);have rl2:w.heap.size+1<w1.heap.size:=Item.lt (hO1.ok _ (List.mem_cons_self ..)) rfl;have hO3:=hO1.setRow (KL.length+i) (.int .i64 (vi+1));rw[qH] at hO3;have HO3:=zh hO3;have HO1:=zh hO1;have hneg:∀(_:¬ (0≤vi∧(lab.data.toList[vi.toNat]?).map (·.toNat)=some bb)),af (KL.length+(i+1))=af (KL.length+i):=fun h=>by
     rw[← HS.out,show j3 lab.data.toList vi bb = -1 by unfold j3;rw[if_neg h]];exact HSF.out.1
    have HN:=zh hneg;clear HO ho1 hg1 HC e1 hO1 hO3 hneg;by_cases h0:0≤vi
    case neg=>
     have hd1:decide (0≤vi)=false:=decide_eq_false h0;have HE:=zh (HN.out fun h=>h0 h.1);clear HN HS;go_wp2;exact hX.out _ _ _ zo rfl ⟨i+1,zo,rfl,rfl,by rw[HE.out];exact HO1.out⟩
    have hd1:decide (0≤vi)=true:=decide_eq_true h0;by_cases h3:vi<(lab.size:Int)
    case neg=>
     have hd2:decide (vi<(lab.size:Int))=false:=decide_eq_false h3;have HE:=zh (HN.out fun h=>by
      obtain⟨u,h5,-⟩:=Option.map_eq_some_iff.1 h.2;have:=(List.getElem?_eq_some_iff.1 h5).1;rw[xq] at this;omega)
     clear HN HS;go_wp2;exact hX.out _ _ _ zo rfl ⟨i+1,zo,rfl,rfl,by rw[HE.out];exact HO1.out⟩
    obtain⟨k,rfl⟩:=Int.eq_ofNat_of_zero_le h0;have hk:k<lab.size:=zo;have hd2:decide ((k:Int)<(lab.size:Int))=true:=decide_eq_true zo;have hlk:lab.data.toList[((k:Nat):Int).toNat]?=some lab[k]:=by
     simp only[Int.toNat_natCast];rw[List.getElem?_eq_getElem (by rw[xq];exact hk)]
     rfl
    by_cases hbk:lab[k].toNat=bb
    ·have hd3:((lab[k].toNat:Int)==(bb:Int))=true:=beq_iff_eq.2 zo;have hE:af (KL.length+(i+1))=(af (KL.length+i)).set (KL.length+i) ((k:Int)+1):=by
      rw[← HS.out]
      congr 1
      unfold j3;rw[if_pos ⟨zo,by rw[hlk];simp[hbk]⟩]
     have HE:=zh hE;clear HN HS hE hlk hbk;go_wp2;exact hX.out _ _ _ zo rfl ⟨i+1,zo,rfl,rfl,by rw[HE.out];exact HO3.out⟩
    ·have hd3:((lab[k].toNat:Int)==(bb:Int))=false:=beq_eq_false_iff_ne.2 zo;have HE:=zh (HN.out fun h=>by
      have:=h.2;rw[hlk] at this;simp at this;exact hbk this)
     clear HN HS hlk hbk;go_wp2;exact hX.out _ _ _ zo rfl ⟨i+1,zo,rfl,rfl,by rw[HE.out];exact HO1.out⟩
   ·obtain rfl:i=FL.length:=zo;rw[← HVL.out,HAA.out] at hO;have hlv:VS.length=v.length:=by rw[← HAA.out];exact HAL.out _ (Nat.le_refl _)
    have hrow:=hO.row;rw[show (jM VS)=VS.map (Value.int .i64) from rfl] at hrow;have hres:=dC hO.bg.done (bN (m:=m) (l:=VS) (by rw[hlv];exact hrow) HVR.out);have HF:=zh (zi hO.below hres);clear hO hrow hres hX;go_wp2;exact hR.out _ _ ⟨_,rfl,HF.out⟩
def jm (m:Mem) (ts:List Value) (todo:List (List Int)):Prop:=ts.length=todo.length∧∀i (h1:i<ts.length) (h2:i<todo.length),dA m ts[i] todo[i]
theorem jm.le {m m':Mem} {ts:List Value} {todo:List (List Int)} (h:jm m ts todo) (k:m.le m'):jm m' ts todo:=⟨h.1,fun i h1 h2=>dC k (h.2 i h1 h2)⟩
theorem jm.push {m:Mem} {ts:List Value} {todo:List (List Int)} (h:jm m ts todo) {x:Value} {l:List Int} (hx:dA m x l):jm m (ts ++ [x]) (todo ++ [l]):=by
 refine ⟨by simp[h.1],fun i h1 h2=>?_⟩;by_cases c:i<ts.length
 ·rw[List.getElem_append_left c,List.getElem_append_left (by rw[← h.1];exact c)];exact h.2 i c _
 ·have h3:i=ts.length:=by simp at h1;omega
  subst h3;simp[h.1,hx]
theorem jm.pop {m:Mem} {ts:List Value} {todo:List (List Int)} (h:jm m ts todo) (hn:todo≠[]):∃ts' x todo' l,ts=ts' ++ [x]∧todo=todo' ++ [l]∧jm m ts' todo'∧dA m x l:=by
 have hn2:ts≠[]:=fun e=>hn (List.length_eq_zero_iff.1 (by rw[← h.1,e];rfl));have e1:=(List.dropLast_concat_getLast hn2).symm;have e2:=(List.dropLast_concat_getLast hn).symm;generalize ts.dropLast=ts' at e1;generalize ts.getLast hn2=x at e1;generalize todo.dropLast=todo' at e2;generalize todo.getLast hn=l at e2;subst e1 e2;have hl:ts'.length=todo'.length:=by have:=h.1;simpa using this
 refine ⟨ts',x,todo',l,rfl,rfl,⟨hl,fun i h1 h2=>?_⟩,?_⟩
 ·have:=h.2 i (by simp;omega) (by simp;omega)
  rwa [List.getElem_append_left h1,List.getElem_append_left h2] at this
 ·have:=h.2 ts'.length zS (by simp;omega);simpa [hl] using this
theorem Own.Ot {w0 w:World} {m mk:Mem} {L:List Item} {g k cap size:Nat} {t:TypeId} {xs last:List Value} (h:Own w0 m w mk (.row (.slice (some ⟨g,0,none⟩) (k+1) cap) t size (k+1) (xs ++ last)::L)) (hx:xs.length=k*size) :
 Own w0 m w mk (.row (.slice (some ⟨g,0,none⟩) k cap) t size k xs::L):=
 h.app (ownsRow_pop hx h.row) (World.grownBy.refl _ _) (N:=w.heap.size) (fun _ hk=>.inl hk) (Nat.le_refl _)
theorem lh {w:World} {base:Nat} {e:TypeId} {size k:Nat} {v:Value} {xs:List Value} (h:w.ownsRow base e size v (k+1) xs):∃g cap,v=.slice (some ⟨g,0,none⟩) (k+1) cap∧k+1≤cap:=by
 rcases h.2 with ⟨-,h0⟩ | ⟨g,cap,cur,h0,-,-,h1,-⟩
 ·omega
 ·exact⟨g,cap,h0,h1⟩
theorem MJ (w:World):(zeroValue 4).run Tryz.prog w=.ok (.bool false) w:=by kernel_rfl
theorem Ob:eT Tryz.prog 181 180 1 24:=⟨Tryz.underlying181,zo,by
 obtain⟨i,h1,h2,h3,h4⟩:=info_parts (show (Tryz.prog.info? 180).map (fun i=>(i.zero,i.size,i.bytes))=some (some (.slice none 0 0),1,24) by kernel_rfl);exact⟨i,_,h1,h2,h3,h4,rfl⟩⟩
structure VSt (c:St) (seen todo:List (List Int)) (P:List Int→Prop) (ob:Obj):Prop where
 s:Srch (stC1 c) seen todo P
 map:∃f,BMap Tryz.prog 9 4 ob seen.length f∧oD f seen
 le:todo.length≤seen.length
theorem vg (u u':Value) (c:St) (m:Mem) (n:Nat) (w:World) (hm:m.inn w) (htab:TabM m) (h1:gI (VAt m n) m u c.1) (h2:fV (VAt m n) m u' c.2) (l1:c.1.length≤6) (l2:c.2.length≤6) (l3:∀f∈c.1,f.1.1.size≤40) (l4:∀k∈c.2,gH k.1) :
 Calls Tryz.prog 154 #[.agg #[u,u']] w fun e w'=>e=.returned (.bool (tf (cB c)))∧Below w.heap.size w w':=by
 have h1':=h1;have h2':=h2;obtain⟨a1,c1,rfl,p1,q1,k1⟩:=h1;obtain⟨a2,c2,rfl,p2,q2,k2⟩:=h2;unfold maxLen at q1 q2;have HA:=zh (zi h1' h2');have HK:=zh k2;have HT:=zh (fun i (h:i<c.2.length)=>(l4 c.2[i] (List.getElem_mem h)).2);have HE:=zh (iL c);have HF:=zh (zi l3 l4);have HTM:=zh htab;have hO:=(Own.start hm).al #[.slice a1 c.1.length c1,.slice a2 c.2.length c2] 45;have HO:=zh hO;have HL:=zh (zi l1 l2);have hl1:c.1.length≤6:=l1;have hl2:c.2.length≤6:=l2;clear hO h1' h2' k1 k2 l3 l4 htab l1 l2;refine ay fun R hR=>?_
 go_enter Tryz.func154,Tryz.ntmps154
 go_wp2;refine au [1,13,14,15] (fun q vs wr=>∃(i:Nat),i≤c.2.length∧q=c.2.length - i∧vs=[.pointer (some ⟨w.heap.size,0,none⟩),.slice a2 c.2.length c2,.int .i64 (c.2.length:Int),.int .i64 (i:Int)]∧(∀j (hj:j<c.2.length),j<i→Canon c.2[j].1∧c.2[j].1≠[]) ∧
  Own w m wr m [.obj w.heap.size 45 #[.slice a1 c.1.length c1,.slice a2 c.2.length c2]]) ?_ ?_
 ·exact⟨_,0,Nat.zero_le _,rfl,rfl,fun j hj h=>absurd h (Nat.not_lt_zero _),HO.out⟩
 clear HO;rintro X z q vs wr hX - ⟨i,hi,rfl,rfl,hV,hO⟩;simp[litL,lk];have HV:=zh hV;clear hV;by_cases hlt:i<c.2.length
 ·obtain⟨b,off,rfl,h4⟩:=HK.out (by intro h;simp[h] at hlt);obtain⟨kc,x,y,hks,hc,hx,hy⟩:=(h4 i hlt).cells;have htl:=HT.out i hlt;have hcl:=Mem.av hO.inn (hc 0 _ rfl);have HC:=zh (fun j u hj=>Mem.aj hO.inn (hc j u hj));have h2:=nV hks hx hy;have hl2':(kcs c.2[i] kc x y).length=19:=rfl;have H0:(kcs c.2[i] kc x y).toArray[0]?=some kc:=rfl;have HVA:=zh (fun (w':World) (h:m.inn w')=>oz kc c.2[i].1 m w' h HTM.out hks zo);have HVN:=zh (show ∀j (hj:j<c.2.length),j<i+1→(Canon c.2[i].1∧c.2[i].1≠[])→Canon c.2[j].1∧c.2[j].1≠[] from fun j hj h1 h2=>by
   by_cases e:j=i
   ·subst e;exact h2
   ·exact HV.out j hj zo)
  have HNO:=zh (show ¬ (Canon c.2[i].1∧c.2[i].1≠[])→¬ cB c from fun h k=>h ((HE.out.1 k).1 _ (List.getElem_mem hlt)));have HO:=zh (hO.al zcK 61);obtain⟨ta,tc,rfl,t1,t2,t3⟩:=hks;unfold maxLen at t2;generalize kcs c.2[i] _ x y=M at *
  generalize c.2[i].1=T at *
  clear hO hx hy hc h4 t3
  go_wp2_with (first
   | refine ae tyK rfl (.tmp 17) rfl rfl M hl2' HC.out ?_
   | refine aH tyK rfl (.tmp 4) (.tmp 18) rfl (cs:=M.toArray) rfl rfl rfl (by simpa using hl2') (fun u hu=>h2 u hu) HO.out.obj ?_)
  intro w1 ho1 hg1;have hO1:=HO.out.setObj ho1 hg1;have gb:=ho1.cell H0;have gbl:=hO1.obj.lt;have HVC:=zh (HVA.out w1 hO1.inn);have HO1:=zh hO1.tail;clear HO HC HVA hO1;by_cases h0:T.length=0
  ·have hd:((T.length:Int)==0)=true:=beq_iff_eq.2 zo;have HB:=zh HO1.out.below;have HR:=zh (HNO.out fun h=>h.2 (List.length_eq_zero_iff.1 h0));clear HO1 HVC HNO HVN h0;go_wp2;exact hR.out _ _ ⟨by rw[az HR.out] <;> rfl,HB.out⟩
  ·have hd:((T.length:Int)==0)=false:=beq_eq_false_iff_ne.2 zo;have hne:T≠[]:=fun e=>h0 (by rw[e];rfl);have HNE:=zh hne;clear h0 hne;have hvc:=HVC.out;by_cases hcn:Canon T
   ·have HNX:=zh (fun j hj h=>HVN.out j hj h ⟨hcn,HNE.out⟩);rw[aI hcn] at hvc;have HVC2:=zh hvc;clear HVN HNO hcn HNE HVC hvc ho1 hg1
    go_wp2_with (go_at_call 157;refine HVC2.out.mono ?_;rintro e w4 ⟨rfl,hb4⟩)
    exact hX.out _ _ _ zo rfl ⟨i+1,zo,rfl,rfl,HNX.out,HO1.out.move hb4⟩
   ·have HR:=zh (HNO.out fun h=>hcn h.1);rw[az hcn] at hvc;have HVC2:=zh hvc;clear HVN HNO hcn HNE HVC hvc ho1 hg1
    go_wp2_with (go_at_call 157;refine HVC2.out.mono ?_;rintro e w4 ⟨rfl,hb4⟩)
    exact hR.out _ _ ⟨by rw[az HR.out] <;> rfl,(HO1.out.move hb4).below⟩
 obtain rfl:i=c.2.length:=zo;have hsets:∀k∈c.2,Canon k.1∧k.1≠[]:=fun k hk=>by
  obtain⟨j,hj,rfl⟩:=List.getElem_of_mem hk;exact HV.out j hj hj
 have hok:=Nj hsets;have HOK:=zh hok;have HWF:=zh (fun k (hk:k∈c.2)=>(hsets k hk).1.wf);have HFEW:=zh (fun (l:List (List Int)) (h1:l.Nodup) (h2:∀v∈l,gV (stC1 c) v)=>Ma hsets HL.out.1 HL.out.2 HF.out.1 HF.out.2 h1 h2);have HFC:=zh (Ke HF.out.1 HF.out.2);have HEE:=zh (show cB c↔qO (stC1 c) from HE.out.trans ⟨fun h=>h.2,fun h=>⟨hsets,h⟩⟩);have hcl:=xP c;have hvs:eu (stC1 c)=List.replicate (c.2.length+c.1.length) 0:=by rw[← hcl,eu,List.map_const']
 have HVS:=zh hvs;have g0:=hO.obj.cell (i:=0) rfl;have g1:=hO.obj.cell (i:=1) rfl;have gl:=hO.obj.lt;have HO:=zh hO;clear hO hX HV hsets hok hvs HE HT HK
 go_wp2_with (refine wpList_make_row Ox rfl (.tmp 37) (.tmp 37) rfl (c.2.length+c.1.length) rfl rfl zo (by unfold maxLen;omega) ?_)
 intro w1 hown1 hgrow1;have hO1:=HO.out.make hown1 hgrow1;rw[show List.replicate (c.2.length+c.1.length) (Value.int .i64 0)=jM (eu (stC1 c)) by rw[HVS.out];simp[jM]] at hO1;have hlv:(eu (stC1 c)).length=c.2.length+c.1.length:=by rw[HVS.out];simp
 have hv0:=bN (m:=m) (l:=eu (stC1 c)) (by rw[hlv];exact hO1.row) (fun x hx=>by rw[HVS.out] at hx;rw[List.eq_of_mem_replicate hx];omega);have hle0:=Mem.dh (w:=w1) hO1.free;have hO2:=hO1.bg;generalize m.addv w1 _=mk1 at *
 have hO3:=hO2.make (World.ownsRow_lit (base:=0) (e:=180) (size:=1) w1 #[(.slice (some ⟨wr.heap.size,0,none⟩) (c.2.length+c.1.length) (c.2.length+c.1.length))] 1 (Nat.zero_le _) (by unfold maxLen;omega) rfl) (World.grownBy_alloc w1 (.cells #[(.slice (some ⟨wr.heap.size,0,none⟩) (c.2.length+c.1.length) (c.2.length+c.1.length))] 180) none);have hO4:=hO3.BB (.map #[] 0);simp only[bB] at hO4;have x1:=aP hO4.swap.row (j:=0) rfl;have xl:=(World.ownsRow.lt hO4.swap.row _ rfl).2;have HO4:=zh hO4;have HKC:=zh (fun (w':World) (h:mk1.inn w')=>vW (.slice (some ⟨wr.heap.size,0,none⟩) (c.2.length+c.1.length) (c.2.length+c.1.length)) (eu (stC1 c)) mk1 w' h (HTM.out.le hle0) hv0 (by rw[hlv];omega));have HZ:=zh (zi hv0 hle0);have HSF:=zh (Srch.first (stC1 c));have HLV:=zh (zi hlv hcl);clear hO1 hO2 hO3 hO4 hv0 hle0 hown1 hgrow1 HO hlv hcl;have hin:=HO4.out.inn;generalize eu (stC1 c)=v0 at *
 have Hmm:=@run_makeMap Tryz.prog;have htx:(txt v0).length≤maxLen:=by
  have h:=xK v0 (wW HZ.out.1);have h2:=HLV.out.1;unfold maxLen;omega
 have HTX:=zh (JM _ htx);clear htx
 go_wp2_with (go_at_call 192;refine (HKC.out _ hin).mono ?_;rintro e w2 ⟨rfl,hb2⟩;obtain⟨w3,o3,hr3,hob,hbm,hgr⟩:=(BMap.made Tryz.prog 9 4).run_put (Maps.string_keyed Tryz.underlying9) Tryz.underlying183 Tryz.underlying4 (HO4.out.move hb2).blob zD HTX.out true)
 have hO5:=(HO4.out.move hb2).iW hob hgr;have hS0:VSt c [v0] [v0] (fun _=>False) o3:=⟨HSF.out,⟨_,hbm,by simpa using oD.none.put v0⟩,Nat.le_refl _⟩;have HO5:=zh (zi hO5 (zi hS0 (zi HZ.out.1 (Mem.le_trans HZ.out.2 (Mem.le_refl _)))));clear hO5 hS0 hob hbm hgr hr3 hb2 HO4 HKC hin Hmm x1 xl;refine au [1,5,6] (fun q vs wr=>∃(seen todo:List (List Int)) (ts:List Value) (tv:Value) (ob:Obj) (mk:Mem),VSt c seen todo (fun _=>False) ob∧q=2*(1400000000 - seen.length)+todo.length∧vs=[.pointer (some ⟨w.heap.size,0,none⟩),tv,.map (some (w1.heap.size+1))]∧m.le mk∧jm mk ts todo ∧
  Own w m wr mk [.blob (w1.heap.size+1) ob,.row tv 180 1 todo.length ts,.obj w.heap.size 45 #[.slice a1 c.1.length c1,.slice a2 c.2.length c2]]) ?_ ?_
 ·refine ⟨_,[v0],[v0],[.slice (some ⟨wr.heap.size,0,none⟩) (c.2.length+c.1.length) (c.2.length+c.1.length)],_,o3,mk1,HO5.out.2.1,rfl,rfl,HO5.out.2.2.2,⟨rfl,fun i h1 h2=>?_⟩,HO5.out.1⟩
  match i,h1,h2 with
  | 0,_,_=>exact HO5.out.2.2.1
 clear HO5 HTX HZ HSF HVS;rintro X z q vs wr hX - ⟨seen,todo,ts,tv,ob,mk,hS,rfl,rfl,hle,hT,hO⟩;simp[litL,lk];by_cases hne:todo=[]
 ·subst hne;have HR:=zh (HEE.out.2 hS.s.once);have HB:=zh hO.below;obtain⟨ta,tcap,rfl⟩:=aQ hO.swap.row;clear hO hT hS hX;go_wp2;exact hR.out _ _ ⟨by rw[aI HR.out] <;> rfl,HB.out⟩
 obtain⟨ts,xv,todo,v,rfl,rfl,hT,hxv⟩:=hT.pop hne;rw[show (todo ++ [v]).length=todo.length+1 by simp] at hO;obtain⟨g,tcap,rfl,hcap⟩:=lh hO.swap.row;have hcap0:¬ tcap=0:=zo;have hlt:=hT.1;have hk:todo.length+1≤seen.length:=by have:=hS.le;simpa using this
 have hsl:=HFEW.out seen hS.s.nodup hS.s.reach;have x1:=aP hO.swap.row (j:=todo.length) (u:=xv) (by rw[← hlt];simp);have xl:=(World.ownsRow.lt hO.swap.row _ rfl).2;have hO2:=(hO.swap.Ot (by simpa using hlt)).swap;obtain⟨hs2,hvs⟩:=hS.s.take (todo':=todo) (v:=v) fun x=>Lm;have hrv:=hS.s.reach v hvs;have hvin:=VIn.reach HOK.out hrv;have hvlen:v.length≤12:=by rw[hvin.len,HLV.out.2];omega
 have HT:=zh (zi hT hxv);have HS:=zh (show VSt c seen todo (fun x=>x=v) ob from ⟨hs2,hS.map,zo⟩);have HAm:=zh (show gI (VAt mk n) mk (.slice a1 c.1.length c1) c.1∧fV (VAt mk n) mk (.slice a2 c.2.length c2) c.2 from ⟨gI.le hle (fun _ _=>VAt.le hle) HA.out.1,fV.le hle (fun _ _=>VAt.le hle) HA.out.2⟩);have HH:=zh (fun (w':World) (h:mk.inn w')=>BP _ _ xv c v mk n w' h HAm.out.1 HAm.out.2 hxv hvin);have HST:=zh (fun (w':World) (h:mk.inn w')=>xC _ _ xv c v mk n w' h HAm.out.1 HAm.out.2 hxv hvin HWF.out);have HV:=zh (zi hvin (zi hrv (zi hvs hle)));have HNO:=zh (fun h=>mt HEE.out.1 (Ep hrv h));have g0:=hO2.third.obj.cell (i:=0) rfl;have g1:=hO2.third.obj.cell (i:=1) rfl;have gl:=hO2.third.obj.lt;have HO:=zh hO2;generalize hkk:todo.length=k at *
 have Hkk:=zh hkk;have Hlt:=zh hlt;clear hO hO2 hS hs2 hT hxv hrv hvin hvs hle hkk hlt hne;generalize hrr:je (stC1 c) v=r at *
 have HW1:=zh hrr;clear hrr;have hin:=HO.out.inn;by_cases hr1:r=1
 case neg=>
  have hd:((r:Int)==1)=false:=beq_eq_false_iff_ne.2 zo;have HR:=zh (HNO.out hr1);clear HNO HST hr1 hX
  go_wp2_with (go_at_call 193;refine (HH.out _ hin).mono ?_;rintro e w2 ⟨rfl,hb2⟩)
  exact hR.out _ _ ⟨by rw[az HR.out] <;> rfl,(HO.out.move hb2).below⟩
 subst hr1
 go_wp2_with (first
  | (go_at_call 193;refine (HH.out _ hin).mono ?_;rintro e w2 ⟨rfl,hb2⟩;have g0:=(HO.out.move hb2).third.obj.cell (i:=0) rfl;have g1:=(HO.out.move hb2).third.obj.cell (i:=1) rfl;have gl:=(HO.out.move hb2).third.obj.lt)
  | (go_at_call 194;refine (HST.out _ (HO.out.move hb2).inn).mono ?_;rintro e w3 ⟨rs,rfl,hb3,sa,sc,rfl,ss1,ss2,ss3⟩))
 have hO3:=(HO.out.move hb2).call hb3;have hle3:=Mem.dN (w:=w3) (HO.out.move hb2).inn;generalize hmk3:mk.grow w2 w3=mk3 at *
 have hlt3:=Ao (stMk c v) 256;have hall:∀sn:List (List Int),(∀i (h:i<(marked (stMk c v) 256).length),dK (stC1 c) v (marked (stMk c v) 256)[i]∈sn)→∀b<256,dK (stC1 c) v b∈sn:=fun sn h b hb=>by
  obtain⟨a,ha,hm,he⟩:=IY (c:=c) (v:=v) HV.out.1.len hb;obtain⟨i,hi,hia⟩:=List.getElem_of_mem (Gq.2 ⟨ha,hm⟩);rw[he,← hia];exact h i hi
 generalize marked (stMk c v) 256=MS at *
 have HALL:=zh hall;have HL3:=zh (fun i (h:i<MS.length)=>hlt3 MS[i] (List.getElem_mem h));have HSS:=zh ss3;have HO3:=zh hO3;have HT3:=zh (zi (HT.out.1.le hle3) (zi (dC hle3 HT.out.2) (Mem.le_trans HV.out.2.2.2 hle3)));unfold maxLen at ss2;clear hO3 hall hlt3 ss3 hb2 hb3 HO HST HH HNO HT x1 xl g0 g1 gl hin hmk3 hle3 HAm;refine au [1,5,6,7,66,67,68] (fun q vs wr=>∃(j:Nat) (sn td:List (List Int)) (ts:List Value) (tv:Value) (ob:Obj) (mk:Mem),j≤MS.length∧q=MS.length - j∧VSt c sn td (fun x=>x=v) ob∧(∀i (h:i<MS.length),i<j→dK (stC1 c) v MS[i]∈sn) ∧
  2*(1400000000 - sn.length)+td.length+1≤2*(1400000000 - seen.length)+(k+1)∧vs=[.pointer (some ⟨w.heap.size,0,none⟩),tv,.map (some (w1.heap.size+1)),xv,.slice sa MS.length sc,.int .i64 (MS.length:Int),.int .i64 (j:Int)]∧mk3.le mk∧jm mk ts td ∧
  Own w m wr mk [.blob (w1.heap.size+1) ob,.row tv 180 1 td.length ts,.obj w.heap.size 45 #[.slice a1 c.1.length c1,.slice a2 c.2.length c2]]) ?_ ?_
 ·exact⟨_,0,seen,todo,ts,_,ob,mk3,Nat.zero_le _,rfl,HS.out,fun i h h2=>absurd h2 (Nat.not_lt_zero _),by rw[Hkk.out];omega,rfl,Mem.le_refl _,HT3.out.1,by rw[Hkk.out];exact HO3.out⟩
 clear HO3 HS Hlt;rintro Y z2 q vs wr2 hY - ⟨j,sn,td,ts,tv,ob,mk,hj,rfl,hS,hdn,hms,rfl,hle,hT,hO⟩;simp[litL,lk];have Hms:=zh hms;have Hdn:=zh hdn;by_cases hlt:j<MS.length
 case neg=>
  obtain rfl:j=MS.length:=zo;have HSX:=zh (show VSt c sn td (fun _=>False) ob from ⟨hS.s.close ⟨HW1.out,HALL.out sn fun i h=>hdn i h h⟩,hS.map,hS.le⟩);have HO:=zh hO;have HTX:=zh hT;have HLE:=zh (Mem.le_trans HT3.out.2.2 hle);clear hO hT hS hY hdn hms hle;go_wp2;exact hX.out _ _ _ (by have:=Hms.out;have:=Hkk.out;simp;omega) rfl ⟨sn,td,ts,tv,ob,mk,HSX.out,rfl,rfl,HLE.out,HTX.out,HO.out⟩
 obtain⟨b,off,rfl,hss⟩:=HSS.out (by intro h;simp[h] at hlt);obtain⟨hbc,hb256⟩:=hss j hlt;have hrx:=HV.out.2.1.step hb256;have hvx:=VIn.reach HOK.out hrx;have hrng:=hvx.rng HFC.out;have hxlen:(dK (stC1 c) v MS[j]).length≤12:=by rw[hvx.len,HLV.out.2];omega
 have hkey:=JM (txt (dK (stC1 c) v MS[j])) (by
  have:=xK (dK (stC1 c) v MS[j]) fun x hx=>by have:=hrng x hx;omega
  unfold maxLen;omega)
 have e1:=Mem.aj hO.inn (Mem.aA hle hbc);have el:=Mem.av hO.inn (Mem.aA hle hbc);have hle':=Mem.le_trans HT3.out.2.2 hle;have HAF:=zh (fun (w':World) (h:mk.inn w')=>zy _ _ xv c v MS[j] mk n w' h (gI.le hle' (fun _ _=>VAt.le hle') HA.out.1) (fV.le hle' (fun _ _=>VAt.le hle') HA.out.2) (dC hle HT3.out.2.1) HV.out.1 HWF.out hb256 zo fun x hx=>by have:=hrng x hx;omega);have HKY:=zh (fun (m':Mem) (w':World) (xr:Value) (h1:mk.le m') (h:m'.inn w') (hx:dA m' xr (dK (stC1 c) v MS[j]))=>vW xr _ m' w' h (HTM.out.le (Mem.le_trans hle' h1)) hx zo);have hseen:=HFEW.out sn hS.s.nodup hS.s.reach;have hsl:=hS.le;have HDN:=zh (show ∀sn':List (List Int),(∀y∈sn,y∈sn')→dK (stC1 c) v MS[j]∈sn'→∀i (h:i<MS.length),i<j+1→dK (stC1 c) v MS[i]∈sn' from fun sn' h1 h2 i h h3=>by
  by_cases e:i=j
  ·subst e;exact h2
  ·exact h1 _ (Hdn.out i h zo))
 have hobj:=hO.third.obj;have g0:=hobj.cell (i:=0) rfl;have g1:=hobj.cell (i:=1) rfl;have gl:=hobj.lt;have HO:=zh hO;have HS:=zh hS;have HTX:=zh (zi hT (zi hle hrx));obtain⟨f,hbm,hka⟩:=hS.map;have HKA:=zh hka;have HBM:=zh hbm;obtain⟨va,vc,rfl⟩:=aQ hO.swap.row;generalize dK (stC1 c) v MS[j]=x at *
 generalize MS[j]=bb at *
 have hin:=HO.out.inn;have HK2:=zh hkey;clear hO hS hT hle hle' hss hbc hb256 hrx hvx hrng hdn hka hbm hobj hkey hxlen hX Hdn HA;by_cases hx:x∈sn
 ·have HX2:=zh hx;have HFX:=zh ((HKA.out x).2 hx);clear hx
  go_wp2_with (first
   | (go_at_call 195;refine (HAF.out _ hin).mono ?_;rintro e w4 ⟨xr,rfl,hb4,hxr⟩)
   | (go_at_call 192;refine (HKY.out _ _ xr (Mem.dN (w:=w4) hin) (HO.out.call hb4).inn hxr).mono ?_;rintro e w5 ⟨rfl,hb5⟩;have hlk:=HBM.out.run_get (Maps.string_keyed Tryz.underlying9) Tryz.underlying183 Tryz.underlying4 MJ ((HO.out.call hb4).move hb5).blob HK2.out;rw[HFX.out] at hlk))
  exact hY.out _ _ _ zo rfl ⟨j+1,sn,td,ts,_,ob,_,zo,rfl,HS.out,HDN.out sn (fun _ h=>h) HX2.out,Hms.out,rfl,Mem.le_trans HTX.out.2.1 (Mem.dN hin),HTX.out.1.le (Mem.dN hin),(HO.out.call hb4).move hb5⟩
 ·have HX2:=zh hx;have HFX:=zh (show f (.string (txt x))=false by
   cases h:f (.string (txt x))
   ·rfl
   ·exact absurd ((HKA.out x).1 h) hx)
  clear hx
  go_wp2_with (first
   | (go_at_call 195;refine (HAF.out _ hin).mono ?_;rintro e w4 ⟨xr,rfl,hb4,hxr⟩;have hxr':=hxr;obtain⟨xa,xc,rfl,-⟩:=hxr')
   | (go_at_call 192;refine (HKY.out _ _ (.slice xa x.length xc) (Mem.dN (w:=w4) hin) (HO.out.call hb4).inn hxr).mono ?_;rintro e w5 ⟨rfl,hb5⟩;have hlk:=HBM.out.run_get (Maps.string_keyed Tryz.underlying9) Tryz.underlying183 Tryz.underlying4 MJ ((HO.out.call hb4).move hb5).blob HK2.out;rw[HFX.out] at hlk;obtain⟨w6,o6,hr6,hob6,hbm6,hgr6⟩:=HBM.out.run_put (Maps.string_keyed Tryz.underlying9) Tryz.underlying183 Tryz.underlying4 ((HO.out.call hb4).move hb5).blob (by unfold maxLen;omega) HK2.out true;have hO7:=(((HO.out.call hb4).move hb5).iW hob6 hgr6).al #[.slice xa x.length xc] 180;have hnews:=hO7.obj.news rfl)
   | (at_builtin;refine aC Ob rfl (.tmp 84) (.tmp 86) rfl (.slice va td.length vc) td.length ts rfl hO7.third.row ⟨w6.heap.size,0,none⟩ 1 1 [.slice xa x.length xc] rfl rfl hnews (by simp[Value.oneCell']) (by unfold maxLen;omega) zo ?_;intro va' vc' w7 hown7 hgrow7 hrow7))
  have hO8:=((hO7.third.app hown7 hgrow7 hrow7 zS).drop2).swap;have hS2:VSt c (sn ++ [x]) (td ++ [x]) (fun y=>y=v) o6:=⟨HS.out.s.push HTX.out.2.2 HX2.out,⟨_,by simpa using hbm6,HKA.out.put x⟩,by simp;omega⟩;refine hY.out _ _ _ zo rfl ⟨j+1,sn ++ [x],td ++ [x],ts ++ [.slice xa x.length xc],_,o6,_,zo,rfl,hS2,HDN.out _ (fun y hy=>List.mem_append_left _ hy) zS,?_,rfl,Mem.le_trans HTX.out.2.1 (Mem.dN hin),(HTX.out.1.le (Mem.dN hin)).push hxr,?_⟩
  ·have:=HFEW.out _ hS2.s.nodup hS2.s.reach;have:=Hms.out;simp at *
   omega
  ·simpa using hO8
def qc (m:Mem) (ts:List Value) (l:List Table):Prop:=ts.length=l.length∧∀i (h1:i<ts.length) (h2:i<l.length),aR m ts[i] l[i]
theorem qc.le {m m':Mem} {ts:List Value} {l:List Table} (h:qc m ts l) (k:m.le m'):qc m' ts l:=⟨h.1,fun i h1 h2=>bu k (h.2 i h1 h2)⟩
theorem qc.push {m:Mem} {ts:List Value} {l:List Table} (h:qc m ts l) {x:Value} {t:Table} (hx:aR m x t):qc m (ts ++ [x]) (l ++ [t]):=by
 refine ⟨by simp[h.1],fun i h1 h2=>?_⟩;by_cases c:i<ts.length
 ·rw[List.getElem_append_left c,List.getElem_append_left (by rw[← h.1];exact c)];exact h.2 i c _
 ·have h3:i=ts.length:=by simp at h1;omega
  subst h3;simp[h.1,hx]
theorem qp (u u':Value) (c:St) (m:Mem) (n:Nat) (w:World) (hm:m.inn w) (h1:gI (VAt m n) m u c.1) (h2:fV (VAt m n) m u' c.2) (hlen:c.1.length+c.2.length≤1048576) :
 Calls Tryz.prog 155 #[.agg #[u,u']] w fun e w'=>∃r,e=.returned r∧Below w.heap.size w w'∧bP (VAt (m.grow w w') n) (m.grow w w') r (bH c):=by
 obtain⟨a1,c1,rfl,p1,q1,k1⟩:=h1;obtain⟨a2,c2,rfl,p2,q2,k2⟩:=h2;unfold maxLen at q1 q2;have hO:=(Own.start hm).al #[.slice a1 c.1.length c1,.slice a2 c.2.length c2] 45;have HK:=zh (zi k1 k2);have HO:=zh (hO.dI 35 18);clear hO k1 k2;have HE:=zh (show bH c=c.1.map (·.2) ++ c.2.map (·.2) from rfl);generalize bH c=SV at *
 generalize c.2=KL at *
 generalize c.1=FL at *
 refine ay fun R hR=>?_
 go_enter Tryz.func155,Tryz.ntmps155
 go_wp2;refine au [1,3,9,10,11] (fun q vs wr=>∃(i:Nat) (v:Value) (xs:List Value),i≤FL.length∧q=FL.length - i∧vs=[.pointer (some ⟨w.heap.size,0,none⟩),v,.slice a1 FL.length c1,.int .i64 (FL.length:Int),.int .i64 (i:Int)]∧VRow (VAt m n) xs ((FL.take i).map (·.2)) ∧
  Own w m wr m [.row v 35 18 i xs,.obj w.heap.size 45 #[.slice a1 FL.length c1,.slice a2 KL.length c2]]) ?_ ?_
 ·exact⟨_,0,_,[],Nat.zero_le _,rfl,rfl,.nil _,HO.out⟩
 clear HO;rintro X z q vs wr hX - ⟨i,v,xs,hi,rfl,rfl,hv,hO⟩;simp[litL,lk];have g0:=hO.swap.obj.cell (i:=0) rfl;have g1:=hO.swap.obj.cell (i:=1) rfl;have gl:=hO.swap.obj.lt;by_cases hlt:i<FL.length
 ·obtain⟨b,off,rfl,h4⟩:=HK.out.1 (by intro h;simp[h] at hlt);obtain⟨x,y,hc,hx,hy⟩:=(h4 i hlt).cells;have hcl:=Mem.av hO.inn (hc 0 _ rfl);have HC:=zh (fun j u hj=>Mem.aj hO.inn (hc j u hj));have h1:=cK hx hy;have h2:=nZ hx hy;have hv2:=hv.push hx hy;rw[show (FL.take i).map (·.2) ++ [FL[i].2]=(FL.take (i+1)).map (·.2) by rw[List.take_succ_eq_append_getElem hlt,List.map_append];rfl] at hv2;have hl:(dcs FL[i].2 x y).length=18:=rfl;have hl2:(fcs FL[i] x y).length=20:=rfl;have HS:=zh (fun j u=>@yw FL[i] x y j u);have HV:=zh hv2;generalize dcs FL[i].2 x y=N at *
  generalize fcs FL[i] x y=M at *
  have HO:=zh (hO.al zcF 58);clear hO hv hv2 hx hy hc h4
  go_wp2_with (first
   | refine ae tyF rfl (.tmp 13) rfl rfl M hl2 HC.out ?_
   | refine aH tyF rfl (.tmp 5) (.tmp 14) rfl (cs:=M.toArray) rfl rfl rfl (by simpa using hl2) (fun u hu=>h2 u hu) HO.out.obj ?_)
  intro w1 ho1 hg1;have hO1:=HO.out.setObj ho1 hg1;have g0:=hO1.third.obj.cell (i:=0) rfl;have g1:=hO1.third.obj.cell (i:=1) rfl;have gl:=hO1.obj.lt;have HD:=zh (ho1.sub (o:=2) (cs:=N) fun j u hj=>by simpa using HS.out j u hj);have HO1:=zh (hO1.tail.al N.toArray 35);clear HO hO1 ho1 hg1 HC HS
  go_wp2_with (first
   | refine ae tyD rfl (.tmp 16) rfl rfl N hl HD.out ?_
   | refine iA iT tyD xx rfl zo rfl (.tmp 17) rfl (cs:=N.toArray) rfl (by simpa using hl) ?_
   | (at_builtin;refine aC iT rfl (.tmp 15) (.tmp 18) rfl v i xs rfl HO1.out.swap.row ⟨w1.heap.size,0,none⟩ 1 1 N rfl hl (by intro j u hj;rw[Addr.add_lit,Nat.zero_add];exact HO1.out.obj.cell (by simpa using hj)) h1 (by unfold maxLen;omega) zo ?_))
  intro va vc w2 ho2 hg2 hr2;have HO2:=zh (HO1.out.swap.app ho2 hg2 hr2 zS).drop2;clear HO1 ho2 hg2 hr2 g0 g1 gl;go_wp2;exact hX.out _ _ _ zo rfl ⟨i+1,_,_,zo,rfl,rfl,HV.out,HO2.out⟩
 ·obtain rfl:i=FL.length:=zo;rw[List.take_length] at hv;have HV:=zh hv;have HO:=zh hO;clear hO hv hX;go_wp2;refine au [1,3,22,23,24] (fun q vs wr=>∃(i:Nat) (v:Value) (xs:List Value),i≤KL.length∧q=KL.length - i∧vs=[.pointer (some ⟨w.heap.size,0,none⟩),v,.slice a2 KL.length c2,.int .i64 (KL.length:Int),.int .i64 (i:Int)]∧VRow (VAt m n) xs (FL.map (·.2) ++ (KL.take i).map (·.2)) ∧
   Own w m wr m [.row v 35 18 (FL.length+i) xs,.obj w.heap.size 45 #[.slice a1 FL.length c1,.slice a2 KL.length c2]]) ?_ ?_
  ·exact⟨_,0,_,xs,Nat.zero_le _,rfl,rfl,by simpa using HV.out,HO.out⟩
  clear HO HV g0 g1 gl;rintro X z q vs wr hX - ⟨i,v,xs,hi,rfl,rfl,hv,hO⟩;simp[litL,lk];have g0:=hO.swap.obj.cell (i:=0) rfl;have g1:=hO.swap.obj.cell (i:=1) rfl;have gl:=hO.swap.obj.lt;by_cases hlt:i<KL.length
  ·obtain⟨b,off,rfl,h4⟩:=HK.out.2 (by intro h;simp[h] at hlt);obtain⟨kc,x,y,hks,hc,hx,hy⟩:=(h4 i hlt).cells;have hcl:=Mem.av hO.inn (hc 0 _ rfl);have HC:=zh (fun j u hj=>Mem.aj hO.inn (hc j u hj));have h1:=cK hx hy;have h2:=nV hks hx hy;have hv2:=hv.push hx hy;rw[show FL.map (·.2) ++ (KL.take i).map (·.2) ++ [KL[i].2]=FL.map (·.2) ++ (KL.take (i+1)).map (·.2) by rw[List.take_succ_eq_append_getElem hlt,List.map_append,List.append_assoc];rfl] at hv2;have hl:(dcs KL[i].2 x y).length=18:=rfl;have hl2:(kcs KL[i] kc x y).length=19:=rfl;have HS:=zh (fun j u=>@yj KL[i] kc x y j u);have HV:=zh hv2;generalize dcs KL[i].2 x y=N at *
   generalize kcs KL[i] kc x y=M at *
   have HO:=zh (hO.al zcK 61);clear hO hv hv2 hx hy hc h4 hks
   go_wp2_with (first
    | refine ae tyK rfl (.tmp 26) rfl rfl M hl2 HC.out ?_
    | refine aH tyK rfl (.tmp 7) (.tmp 27) rfl (cs:=M.toArray) rfl rfl rfl (by simpa using hl2) (fun u hu=>h2 u hu) HO.out.obj ?_)
   intro w1 ho1 hg1;have hO1:=HO.out.setObj ho1 hg1;have g0:=hO1.third.obj.cell (i:=0) rfl;have g1:=hO1.third.obj.cell (i:=1) rfl;have gl:=hO1.obj.lt;have HD:=zh (ho1.sub (o:=1) (cs:=N) fun j u hj=>by simpa using HS.out j u hj);have HO1:=zh (hO1.tail.al N.toArray 35);clear HO hO1 ho1 hg1 HC HS
   go_wp2_with (first
    | refine ae tyD rfl (.tmp 29) rfl rfl N hl HD.out ?_
    | refine iA iT tyD xx rfl zo rfl (.tmp 30) rfl (cs:=N.toArray) rfl (by simpa using hl) ?_
    | (at_builtin;refine aC iT rfl (.tmp 28) (.tmp 31) rfl v (FL.length+i) xs rfl HO1.out.swap.row ⟨w1.heap.size,0,none⟩ 1 1 N rfl hl (by intro j u hj;rw[Addr.add_lit,Nat.zero_add];exact HO1.out.obj.cell (by simpa using hj)) h1 (by unfold maxLen;omega) zo ?_))
   intro va vc w2 ho2 hg2 hr2;have HO2:=zh (HO1.out.swap.app ho2 hg2 hr2 zS).drop2;clear HO1 ho2 hg2 hr2 g0 g1 gl;go_wp2;exact hX.out _ _ _ zo rfl ⟨i+1,_,_,zo,rfl,rfl,HV.out,HO2.out⟩
  ·obtain rfl:i=KL.length:=zo;rw[List.take_length] at hv;have hr:=bP.FQ (m:=m.grow w wr) (l:=SV) (by rw[HE.out,List.length_append,List.length_map,List.length_map];exact hO.row) (by rw[HE.out];exact hv) hO.free hO.bg.done;have HF:=zh (zi hO.below hr);clear hO hv hX hr;go_wp2;exact hR.out _ _ ⟨_,rfl,HF.out⟩
theorem yQ (z:Array Value) (n:Nat):(Builtin.zeroCells z n).size=n*z.size:=by simp[Builtin.zeroCells]
theorem NF:(Tryz.prog.info? 35).map (fun i=>(i.zero,i.size,i.bytes))=some (some (.agg zcD),18,272):=by kernel_rfl
theorem KV {w0 w:World} {m mk:Mem} {L:List Item} (h:Own w0 m w mk L) (n:Nat) (hn:n≤1048576) :
 Calls Tryz.prog 203 #[.slice none 0 0,.int .i64 n] w fun e w'=>∃a c,e=.returned (.slice a 0 c)∧Own w0 m w' mk (.row (.slice a 0 c) 35 18 0 []::L):=by
 by_cases h0:n=0
 ·subst h0;refine Calls.mono (Any8.slices_Grow_room Tryz.MR none 0 0 0 w (Nat.le_refl _) zo zo zo) ?_;rintro e w' ⟨rfl,rfl⟩;exact⟨none,0,rfl,h.dI _ _⟩
 ·obtain⟨i,hi,hz,hs,hb⟩:=info_parts NF;refine Calls.mono (Any8.slices_Grow_grow Tryz.MR i (.agg zcD) hi hz zo none 0 0 n [] w (Nat.le_refl _) zo (by rw[hb];omega) zo zS (fun _=>rfl) (fun a e=>by cases e)) ?_;rintro e w' ⟨rfl,rfl⟩;have hc:=grownCap_ge w (0+n) 0 35;have hm:=grownCap_le_maxLen w (0+n) 0 35 (by unfold maxLen;omega);have hO:=h.dr.al (([]:List Value).toArray ++ Builtin.zeroCells (Value.agg zcD).cells (0+n - 0) ++ Builtin.zeroCells (Value.agg zcD).cells (grownCap w (0+n) 0 35 - (0+n))) 35;refine ⟨_,_,rfl,?_⟩;refine hO.tail.cons (it:=.row _ _ _ _ _) ⟨rfl,.inr ⟨w.heap.size,grownCap w (0+n) 0 35,_,rfl,Nat.zero_le _,hO.obj.get,Nat.zero_le _,hm,?_,?_⟩⟩ (fun k hk=>hO.fresh _ (List.mem_cons_self ..) k hk) (fun b hb'=>(List.pairwise_cons.1 hO.apart).1 b hb')
  ·simp only[Array.size_append,yQ,List.size_toArray,List.length_nil];have:(Value.agg zcD).cells.size=18:=rfl;rw[this];generalize grownCap w (0+n) 0 35=c at *
   omega
  ·simp
def catD (xs:List (List Vd)) (k:Nat):List Vd:=(xs.take k).flatten
theorem Bq (xs:List (List Vd)) (k:Nat) (h:k<xs.length):catD xs (k+1)=catD xs k ++ xs[k]:=by
 unfold catD;rw[List.take_succ_eq_append_getElem h,List.flatten_append];simp
theorem yE (xs:List (List Vd)) (k:Nat):(catD xs k).length≤(catD xs xs.length).length:=by
 unfold catD;rw[List.take_length];have:xs=xs.take k ++ xs.drop k:=(List.take_append_drop k xs).symm
 conv=>rhs;rw[this]
 rw[List.flatten_append,List.length_append];omega
theorem DL (g c N:Nat) (xs:List (List Vd)) (m:Mem) (w:World) (hm:m.inn w) (hx:∀i (h:i<xs.length),∃u,m.cell g i=some u∧bP (VAt m N) m u xs[i]) (hlen:(catD xs xs.length).length≤1048576) (hn:xs.length≤1000000) :
 Calls Tryz.prog 163 #[.slice (some ⟨g,0,none⟩) xs.length c] w fun e w'=>∃r,e=.returned r∧Below w.heap.size w w'∧bP (VAt (m.grow w w') N) (m.grow w w') r (catD xs xs.length):=by
 have HX:=zh hx;clear hx;refine ay fun R hR=>?_
 go_enter Tryz.func163,Tryz.ntmps163
 go_wp2;refine au [0,3,9,10,11] (fun n vs wr=>∃k:Nat,k≤xs.length∧n=xs.length - k∧vs=[.slice (some ⟨g,0,none⟩) xs.length c,.int .i64 (catD xs k).length,.slice (some ⟨g,0,none⟩) xs.length c,.int .i64 xs.length,.int .i64 k] ∧
  Own w m wr m []) ?_ ?_
 ·exact⟨_,0,Nat.zero_le _,rfl,rfl,Own.start hm⟩
 rintro X z n vs wr hX - ⟨k,hk,rfl,rfl,hO⟩;simp[litL,lk];have htl:=yE xs k;by_cases hlt:k<xs.length
 ·obtain⟨u,hc,hu⟩:=HX.out k hlt;have r1:=Mem.aj hO.inn hc;have rl:=Mem.av hO.inn hc;obtain⟨a,uc,rfl,-⟩:=hu;have hst:=congrArg List.length (Bq xs k hlt);rw[List.length_append] at hst;have htl2:=yE xs (k+1);have HO:=zh hO;have Hst:=zh hst;have hb:(catD xs k).length+xs[k].length≤1048576:=zo;generalize (catD xs k).length=T at *
  generalize xs[k].length=N at *
  clear hc hO hst htl2;go_wp2;exact hX.out _ _ _ zo rfl ⟨k+1,zo,rfl,by rw[Hst.out];rfl,HO.out⟩
 ·obtain rfl:k=xs.length:=zo;have HG:=zh (KV hO (catD xs xs.length).length hlen);clear hO hX
  go_wp2_with fail
  refine HG.out.mono ?_;rintro e w2 ⟨a,d,rfl,hO⟩;have HO:=zh hO;clear HG hO;go_wp2;refine au [6,25,26,27] (fun n vs wr=>∃(k:Nat) (v:Value) (ys:List Value),k≤xs.length∧n=xs.length - k∧vs=[v,.slice (some ⟨g,0,none⟩) xs.length c,.int .i64 xs.length,.int .i64 k]∧VRow (VAt m N) ys (catD xs k) ∧
   Own w m wr m [.row v 35 18 (catD xs k).length ys]) ?_ ?_
  ·exact⟨_,0,_,[],Nat.zero_le _,rfl,rfl,.nil _,HO.out⟩
  clear HO;rintro X z n vs wr hX - ⟨k,v,ys,hk,rfl,rfl,hr,hO⟩;simp[litL,lk];obtain⟨va,vc,rfl⟩:=aQ hO.row;by_cases hlt:k<xs.length
  ·obtain⟨u,hc,hu⟩:=HX.out k hlt;have r1:=Mem.aj hO.inn hc;have rl:=Mem.av hO.inn hc;obtain⟨ad,cc,zs,rfl,-,-,hy,hn',hk'⟩:=hu.seg;have hst:=Bq xs k hlt;have htl2:=yE xs (k+1);rw[hst,List.length_append] at htl2;have hr2:=hr.append hy;rw[← hst] at hr2;have o1:=hy.one_cell;have ly:=hy.len;have HN:=zh (hk' _ hO.inn);have Hst:=zh (congrArg List.length hst);have HR:=zh hr2;rw[List.length_append] at Hst;clear hst hr hr2 hy hc hk' hu;generalize (catD xs k).length=S0 at *
   generalize xs[k].length=q at *
   go_wp2_with (at_builtin;refine dH iT rfl (.tmp 31) (.tmp 32) rfl (.slice va S0 vc) S0 ys rfl hO.row ad q cc zs rfl ly hn' HN.out o1 (by unfold maxLen;omega) zo ?_)
   intro va' vc' w7 hown7 hgrow7 hrow7;have hO3:=hO.app hown7 hgrow7 hrow7 (Nat.le_refl _);rw[← Hst.out] at hO3;have HO3:=zh hO3;clear hO3 hO hown7 hgrow7 hrow7;go_wp2;refine hX.out _ _ _ zo rfl ⟨k+1,_,_,zo,rfl,?_,HR.out,HO3.out⟩;rw[Hst.out];rfl
  ·obtain rfl:k=xs.length:=zo;have hfin:=bP.FQ (m:=m.grow w wr) hO.row hr hO.free hO.bg.done;have Hfin:=zh (zi hO.below hfin);clear hO hr hfin;go_wp2;exact hR.out _ _ ⟨_,rfl,Hfin.out⟩
theorem iP (u u':Value) (c:Lc) (m:Mem) (n:Nat) (w:World) (hm:m.inn w) (h1:bP (VAt m n) m u c.1) (h2:bP (VAt m n) m u' c.2) (hlen:c.1.length+c.2.length≤1048576) :
 Calls Tryz.prog 114 #[.agg #[u,u']] w fun e w'=>∃r,e=.returned r∧Below w.heap.size w w'∧bP (VAt (m.grow w w') n) (m.grow w w') r (bT c):=by
 have hO:=((Own.start hm).al #[u,u'] 51).al #[u,u'] 49;simp only[bB] at hO;have hO2:=hO.fZ;have hle:=Mem.gZ hO.gq (w:=(w.alloc (.cells #[u,u'] 51)).alloc (.cells #[u,u'] 49));have HC:=DL (w.heap.size+1) 2 n [c.1,c.2] _ _ hO2.inn (fun i hi=>by
  match i,hi with
  | 0,_=>exact⟨u,Mem.dw hO.obj rfl,h1.le hle fun _ _ h=>h.le hle⟩
  | 1,_=>exact⟨u',Mem.dw hO.obj rfl,h2.le hle fun _ _ h=>h.le hle⟩) (by simp[catD];omega) zS
 rw[show catD [c.1,c.2] ([c.1,c.2]:List (List Vd)).length=bT c by simp[catD,bT]] at HC;have HC:=zh HC;have HO:=zh hO2;obtain⟨a1,b1,rfl,-⟩:=h1;obtain⟨a2,b2,rfl,-⟩:=h2;clear hO hO2 hle;refine ay fun R hR=>?_
 go_enter Tryz.func114,Tryz.ntmps114
 go_wp2_with fail
 refine HC.out.mono ?_;rintro e w1 ⟨r,rfl,hb1,hv⟩;have hO1:=HO.out.call hb1;have HF:=zh (zi hO1.below (hv.le hO1.done fun _ _ h=>h.le hO1.done));clear HC HO hb1 hv hO1;go_wp2;exact hR.out _ _ ⟨_,rfl,HF.out⟩
theorem sQ (v:Vl) (s:Sl) (m:Mem) (n:Nat) (w:World) (hm:m.inn w) (hv:VAt m (n+1) s v) (hlen:v.kids.length≤1048576) :
 Calls Tryz.prog 105 #[v.val s] w fun e w'=>∃r,e=.returned r∧Below w.heap.size w w'∧bP (VAt (m.grow w w') n) (m.grow w w') r v.kids:=by
 have hO:=(Own.start hm).al (nine v s).toArray 33;have hv2:=hv.2;have H7:(nine v s).toArray[7]?=some s.l:=rfl;have H8:(nine v s).toArray[8]?=some s.s:=rfl;obtain⟨a1,b1,a2,b2,a3,b3,a4,b4,a5,b5,rfl,-,-,-,q4,q5⟩:=hv.spell;obtain⟨⟨z1,y1,e1,-,-,k1⟩,⟨z2,y2,e2,-,-,k2⟩⟩:=hv2;simp only[Value.slice.injEq] at e1 e2;obtain⟨rfl,-,rfl⟩:=e1;obtain⟨rfl,-,rfl⟩:=e2;simp only at H7 H8;have H7:=zh H7;have H8:=zh H8;unfold maxLen at q4 q5;unfold Vl.val;have HE:=zh (show v.kids=v.lists.flatMap bT ++ v.structs.flatMap bH from rfl);generalize (nine v _).toArray=N at *
 generalize v.kids=KD at *
 generalize v.lists=FL at *
 generalize v.structs=KL at *
 have HK:=zh (zi k1 k2);have HO:=zh (hO.dI 35 18);have HL:=zh (show (FL.flatMap bT).length+(KL.flatMap bH).length≤1048576 by have:=hlen;rw[HE.out,List.length_append] at this;exact this);clear hO k1 k2 hv hlen;refine ay fun R hR=>?_
 go_enter Tryz.func105,Tryz.ntmps105
 go_wp2;refine au [1,3,9,10,11] (fun q vs wr=>∃(i:Nat) (r:Value) (xs:List Value) (mk:Mem),i≤FL.length∧q=FL.length - i∧vs=[.pointer (some ⟨w.heap.size,0,none⟩),r,.slice a4 FL.length b4,.int .i64 (FL.length:Int),.int .i64 (i:Int)]∧VRow (VAt mk n) xs ((FL.take i).flatMap bT) ∧
  Own w m wr mk [.row r 35 18 ((FL.take i).flatMap bT).length xs,.obj w.heap.size 33 N]) ?_ ?_
 ·exact⟨_,0,_,[],m,Nat.zero_le _,rfl,rfl,.nil _,HO.out⟩
 clear HO;rintro X z q vs wr hX - ⟨i,r,xs,mk,hi,rfl,rfl,hr,hO⟩;simp[litL,lk];have g7:=hO.swap.obj.cell H7.out;have g8:=hO.swap.obj.cell H8.out;have gl:=hO.swap.obj.lt;by_cases hlt:i<FL.length
 ·obtain⟨b,off,rfl,h4⟩:=HK.out.1 (by intro h;simp[h] at hlt);obtain⟨u,u',hu,hu',x1,x2⟩:=h4 i hlt;have c1:=Mem.aj hO.inn (Mem.aA hO.ext.le hu);have c2:=Mem.aj hO.inn (Mem.aA hO.ext.le hu');have cl:=Mem.av hO.inn (Mem.aA hO.ext.le hu);have hfs:=pK bT hlt;have hfl:=uE bT FL (i+1);rw[hfs,List.length_append] at hfl;have hlv:(bT FL[i]).length=FL[i].1.length+FL[i].2.length:=by rw[bT,List.length_append]
  have hO:=hO.al' (.cells #[u,u'] 51);have HF:=zh (iP u u' FL[i] mk n _ hO.inn (x1.le hO.ext.le fun _ _ h=>h.le hO.ext.le) (x2.le hO.ext.le fun _ _ h=>h.le hO.ext.le) (by have:=HL.out;omega));have HR:=zh (zi hr hfs);have HO:=zh hO;obtain⟨ua,uc,rfl,-⟩:=x1;obtain⟨ua',uc',rfl,-⟩:=x2;clear hO hr h4 hu hu' hfs hlv
  go_wp2_with fail
  refine HF.out.mono ?_;rintro e w1 ⟨r1,rfl,hb1,hv1⟩;have hO1:=HO.out.call hb1;obtain⟨ad,cc,ys,rfl,-,-,hy,hn,hk⟩:=hv1.seg;have hr1:=(HR.out.1.mono fun _ _ h=>h.le (Mem.dN HO.out.inn)).append hy;rw[← HR.out.2] at hr1;have HR1:=zh hr1;have o1:=hy.one_cell;have ly:=hy.len;have HN:=zh (hk w1 hO1.inn);have HO1:=zh hO1;have HR:=zh (congrArg List.length HR.out.2);clear hO1 HO HF hb1 hv1 hy hk hr1 c1 c2 cl g7 g8 gl;rw[List.length_append] at HR;generalize ((FL.take i).flatMap bT).length=t at *
  go_wp2_with (at_builtin;refine dH iT rfl (.tmp 15) (.tmp 17) rfl r t xs rfl HO1.out.row ad (bT FL[i]).length cc ys rfl ly hn HN.out o1 (by have:=HL.out;unfold maxLen;omega) (by have:=HL.out;omega) ?_)
  intro va vc w2 ho2 hg2 hr2;have hO2:=HO1.out.app ho2 hg2 hr2 (Nat.le_refl _);rw[← HR.out] at hO2;have HO2:=zh hO2;clear HO1 ho2 hg2 hr2 hO2;go_wp2;refine hX.out _ _ _ zo rfl ⟨i+1,_,_,_,zo,rfl,?_,HR1.out,HO2.out⟩;rw[HR.out];rfl
 ·obtain rfl:i=FL.length:=zo;rw[List.take_length] at hr hO;obtain⟨T,hT⟩:∃T,T=(FL.flatMap bT).length:=⟨_,rfl⟩;rw[← hT] at hO;have HT:=zh hT;clear hT;have HV:=zh hr;have HO:=zh hO;clear hO hr hX;go_wp2;refine au [1,3,21,22,23] (fun q vs wr=>∃(i:Nat) (r:Value) (xs:List Value) (mk:Mem),i≤KL.length∧q=KL.length - i∧vs=[.pointer (some ⟨w.heap.size,0,none⟩),r,.slice a5 KL.length b5,.int .i64 (KL.length:Int),.int .i64 (i:Int)]∧VRow (VAt mk n) xs (FL.flatMap bT ++ (KL.take i).flatMap bH) ∧
   Own w m wr mk [.row r 35 18 (T+((KL.take i).flatMap bH).length) xs,.obj w.heap.size 33 N]) ?_ ?_
  ·exact⟨_,0,_,xs,mk,Nat.zero_le _,rfl,rfl,by simpa using HV.out,HO.out⟩
  clear HO HV g7 g8 gl;rintro X z q vs wr hX - ⟨i,r,xs,mk,hi,rfl,rfl,hr,hO⟩;simp[litL,lk];have g7:=hO.swap.obj.cell H8.out;have gl:=hO.swap.obj.lt;by_cases hlt:i<KL.length
  ·obtain⟨b,off,rfl,h4⟩:=HK.out.2 (by intro h;simp[h] at hlt);obtain⟨u,u',hu,hu',x1,x2⟩:=h4 i hlt;have c1:=Mem.aj hO.inn (Mem.aA hO.ext.le hu);have c2:=Mem.aj hO.inn (Mem.aA hO.ext.le hu');have cl:=Mem.av hO.inn (Mem.aA hO.ext.le hu);have hfs:=pK bH hlt;have hfl:=uE bH KL (i+1);rw[hfs,List.length_append] at hfl;have hlv:(bH KL[i]).length=KL[i].1.length+KL[i].2.length:=by rw[bH,List.length_append,List.length_map,List.length_map]
   have hO:=hO.al' (.cells #[u,u'] 45);have HF:=zh (qp u u' KL[i] mk n _ hO.inn (x1.le hO.ext.le fun _ _ h=>h.le hO.ext.le) (x2.le hO.ext.le fun _ _ h=>h.le hO.ext.le) (by have:=HL.out;omega));have HR:=zh (zi hr hfs);have HO:=zh hO;obtain⟨ua,uc,rfl,-⟩:=x1;obtain⟨ua',uc',rfl,-⟩:=x2;clear hO hr h4 hu hu' hfs hlv
   go_wp2_with fail
   refine HF.out.mono ?_;rintro e w1 ⟨r1,rfl,hb1,hv1⟩;have hO1:=HO.out.call hb1;obtain⟨ad,cc,ys,rfl,-,-,hy,hn,hk⟩:=hv1.seg;have hr1:=(HR.out.1.mono fun _ _ h=>h.le (Mem.dN HO.out.inn)).append hy;rw[List.append_assoc,← HR.out.2] at hr1;have HR1:=zh hr1;have o1:=hy.one_cell;have ly:=hy.len;have HN:=zh (hk w1 hO1.inn);have HO1:=zh hO1;have HR:=zh (congrArg List.length HR.out.2);clear hO1 HO HF hb1 hv1 hy hk hr1 c1 c2 cl g7 gl;rw[List.length_append] at HR;generalize ((KL.take i).flatMap bH).length=t at *
   go_wp2_with (at_builtin;refine dH iT rfl (.tmp 27) (.tmp 29) rfl r (T+t) xs rfl HO1.out.row ad (bH KL[i]).length cc ys rfl ly hn HN.out o1 (by have:=HL.out;have:=HT.out;unfold maxLen;omega) (by have:=HL.out;have:=HT.out;omega) ?_)
   intro va vc w2 ho2 hg2 hr2;have hO2:=HO1.out.app ho2 hg2 hr2 (Nat.le_refl _);rw[Nat.add_assoc,← HR.out] at hO2;have HO2:=zh hO2;clear HO1 ho2 hg2 hr2 hO2;go_wp2;refine hX.out _ _ _ zo rfl ⟨i+1,_,_,_,zo,rfl,?_,HR1.out,HO2.out⟩;rw[HR.out,← Nat.add_assoc];rfl
  ·obtain rfl:i=KL.length:=zo;rw[List.take_length] at hr hO;have hv:=bP.FQ (m:=m.grow w wr) (l:=KD) (by rw[HE.out,List.length_append,← HT.out];exact hO.row) (by rw[HE.out];exact hr) hO.free hO.bg.done;have HF:=zh (zi hO.below hv);clear hO hr hX hv;go_wp2;exact hR.out _ _ ⟨_,rfl,HF.out⟩
end Cl
