/- Lemmas for the proofs of chapter 11. -/
import Derived.Test.YtdgjplfcpcphoaaGreatDoorProg
import Derived.BigQuiet
import Derived.Deep.Cut
import Derived.Deep.QuietTactic
import Derived.Laws.StructEq
import Derived.Lib.AppendStr
import Derived.Lib.Builder
import Derived.Lib.Hide
import Derived.Lib.ItoaLen
import Derived.Maps.OwnOps
import Derived.Maps.OwnSet
import Derived.OrdersHeld
import Derived.Outline
import Derived.StillTailTactics
import Derived.StringKeys
import Derived.WalkKit
import Derived.WalkLawsBesides
import Derived.WalkSpells
import Derived.Deep.RegionHeld
import Derived.RangeFuncNested
import Derived.RangeFuncBound
import Derived.RangeFuncCalls
import Derived.RangeFuncLeaves
import Derived.OwnWalkIn
import Derived.TacticsInMore
import Derived.LoopNIn
import Derived.LoopIn
import Derived.Shelf.Strings.Builder1
import Derived.Shelf.Small.Wraps
import Derived.Shelf.LaysM
import Derived.Shelf.Strconv.Itoa3
import Derived.Laws.BytesArg
import Derived.RegionTactic
import Derived.ChangeAlike
import Derived.Laws.EntriesVeiled
import Derived.Test.YtdgjplfcpcphoaaGreatDoorZz
import Derived.Test.YtdgjplfcpcphoaaGreatDoorPkX3
import Derived.Test.YtdgjplfcpcphoaaGreatDoorPkX5
import Derived.Test.YtdgjplfcpcphoaaGreatDoorPkX1
import Derived.Test.YtdgjplfcpcphoaaGreatDoorPkX2
import Derived.Test.YtdgjplfcpcphoaaGreatDoorPkX10
import Derived.Test.YtdgjplfcpcphoaaGreatDoorPkX13
import Derived.Test.YtdgjplfcpcphoaaGreatDoorPkX4
import Derived.Test.YtdgjplfcpcphoaaGreatDoorPkX9
import Derived.Test.YtdgjplfcpcphoaaGreatDoorPkX15
import Derived.Test.YtdgjplfcpcphoaaGreatDoorPkX6
import Derived.Test.YtdgjplfcpcphoaaGreatDoorPkX11
import Derived.Test.YtdgjplfcpcphoaaGreatDoorPkX14
set_option maxRecDepth 100000
set_option maxHeartbeats 16000000
namespace Cl
open Go Go.RowKit Go.Proofs
theorem zn {T:Table} {l:Nat} {w0:World} {m mk0:Mem} {B Bx:List (List UInt8)→List Item→Prop} {Lr:List Item} {gy ga gt gv tb ntab ctab:Nat} {va:Value} (hE:BF T l w0 m mk0 B Bx Lr gy ga gt gv tb ntab ctab va)
 (hwf:WF T) (hby:Bytes T):∀n,n≤ntab→MF T w0 m mk0 B Bx Lr gy ga gt gv n
 | 0,_=>Fu hE
 | n+1,h=>Fv hE hwf hby n h (zn hE hwf hby n zo)
theorem Own.FR {w0 w:World} {m mk:Mem} {L:List Cl.Item} {g:Nat} {t:TypeId} {v:Value} (h:Own w0 m w mk (.obj g t #[v]::L)):∃mk',Own w0 m w mk' L∧mk.le mk'∧mk'.cell g 0=some v:=
 ⟨_,h.fZ,Mem.gZ h.gq,Mem.dw h.obj rfl⟩
theorem Lb {T:Table} {l:Nat} {w0:World} {m mk0:Mem} {B Bx:List (List UInt8)→List Item→Prop} {Lr:List Item} {tb n ctab clast ntab:Nat} {va:Value} (hwf:WF T) (hby:Bytes T)
 (hY:uV Tryz.prog l (fun x:List UInt8=>#[Value.string ⟨x.toArray⟩]) w0 m mk0 B Bx) (htab:aR mk0 va T) (hpos:0<T.length) (hnt:ntab≤maxLen) (hn:n<ntab) (hn2:n≤1000000) (_:clast≤maxLen)
 (rows:∀W mk Lt,Own w0 m W mk (Lt ++ Lr)→∀i,i<ntab→∃u,W.cell? ⟨tb,i,none⟩=some u∧fP mk0 u (canN T i))
 (pre:List (List UInt8)) (mk:Mem) (W:World) (Lt:List Item) (hle:mk0.le mk) (hB:B pre Lt) (hO:Own w0 m W mk (Lt ++ Lr)) :
 Calls Tryz.prog 219 #[.agg #[va],.slice (some ⟨tb,n,none⟩) 1 clast,.int .i64 n,.func (.yield l) #[] #[],.slice (some ⟨tb,0,none⟩) ntab ctab] W (KN w0 m mk B Bx Lr pre (wex T n 0)):=by
 have hO1:=((hO.al #[va] 27).al #[.func (.yield l) #[] #[]] 163).al #[.slice (some ⟨tb,0,none⟩) ntab ctab] 199;have hsz1:(W.alloc (.cells #[va] 27)).heap.size=W.heap.size+1:=by simp
 have hsz2:((W.alloc (.cells #[va] 27)).alloc (.cells #[.func (.yield l) #[] #[]] 163)).heap.size=W.heap.size+1+1:=by simp
 rw[hsz2,hsz1] at hO1;obtain⟨ur,hur,hb⟩:=rows W mk Lt hO n hn;obtain⟨ra,rc,rfl,r2,r3,r4⟩:=hb;have hcl0:=pV T n;obtain⟨rb,ro,rfl,r5⟩:=r4 (by intro h;rw[h] at hcl0;simp at hcl0;omega);have h0:0<(canN T n).length:=zo;have z1:=r5 0 h0;rw[Nat.add_zero] at z1;have z1w:=Mem.aj hO.inn (Mem.aA hle z1);have z1l:=Mem.av hO.inn (Mem.aA hle z1);have hurl:tb<W.heap.size:=by
  simp only[World.cell?] at hur
  split at hur
  ·rename_i hb;exact (Array.getElem?_eq_some_iff.1 hb).1
  ·cases hur
 have hcv:(canN T n)[0]=true↔wex T n ((0:Nat):Int)≠[]:=by
  have h1:=sD T n hpos;rw[List.getElem?_eq_getElem h0] at h1;rw[Option.some.inj h1];simp
 obtain⟨cb,hcb⟩:∃cb,(canN T n)[0]=cb:=⟨_,rfl⟩;rw[hcb] at z1w hcv;have hcl2:0<(canN T n).length:=h0;have hta:=htab;obtain⟨aa,ac,rfl,-⟩:=htab;have HO1:=zh (zi hO1 (zi hB (zi hle (zi rows (zi hY (zi hta (zi hwf hby)))))));have Hcv:=zh hcv;unfold maxLen at r3 hnt;generalize canN T n=cl at *
 clear hO1 hO hB hle hcl0 hcv hcb z1 r4 r5 hsz1 hsz2 rows hY hta hwf hby;have hurl1:tb<W.heap.size+1:=zo;have hurl2:tb<W.heap.size+1+1:=zo;have hurl3:tb<W.heap.size+1+1+1:=zo;have z1l1:rb<W.heap.size+1:=zo;have z1l2:rb<W.heap.size+1+1:=zo;have z1l3:rb<W.heap.size+1+1+1:=zo;refine ay fun R hR=>?_
 cases cb with
 | false=>
  go_enter Tryz.func219,Tryz.ntmps219
  go_wp2;have hw0:wex T n 0=[]:=Classical.byContradiction fun h=>by have:=Hcv.out.2 h;cases this
  refine hR.out _ _ (.inl ⟨rfl,mk,Lt,by rw[hw0,List.append_nil];exact HO1.out.2.1,?_,Mem.le_refl _⟩)
  exact HO1.out.1.tail.tail.tail
 | true=>
  have hO2:=(HO1.out.1.al #[.func (.func 252) #[] #[.pointer (some ⟨W.heap.size+1,0,none⟩),.pointer (some ⟨W.heap.size,0,none⟩),.pointer (some ⟨W.heap.size+1+1,0,none⟩),.pointer (some ⟨W.heap.size+1+1+1,0,none⟩)]] 236);have hsz3:(((W.alloc (.cells #[.slice aa T.length ac] 27)).alloc (.cells #[.func (.yield l) #[] #[]] 163)).alloc (.cells #[.slice (some ⟨tb,0,none⟩) ntab ctab] 199)).heap.size=W.heap.size+1+1+1:=by simp
  rw[hsz3] at hO2;obtain⟨m1,hO3,l1,c1⟩:=hO2.FR;obtain⟨m2,hO4,l2,c2⟩:=hO3.FR;obtain⟨m3,hO5,l3,c3⟩:=hO4.FR;obtain⟨m4,hO6,l4,c4⟩:=hO5.FR;have hle:=HO1.out.2.2.1;have hle4:=Mem.le_trans (Mem.le_trans (Mem.le_trans l1 l2) l3) l4;have hE:BF T l w0 m m4 B Bx Lr (W.heap.size+1) W.heap.size (W.heap.size+1+1) (W.heap.size+1+1+1) tb ntab ctab (.slice aa T.length ac):=by
   refine ⟨fun pre x W' mk' Lt' Lr' h1 h2 h3=>HO1.out.2.2.2.2.1 pre x W' mk' Lt' Lr' h1 h2 (Mem.le_trans (Mem.le_trans hle hle4) h3),Mem.aA l4 c3,c4,Mem.aA (Mem.le_trans l3 l4) c2,
    Mem.aA (Mem.le_trans (Mem.le_trans l2 l3) l4) c1,bu (Mem.le_trans hle hle4) HO1.out.2.2.2.2.2.1,fun W' mk' Lt' h i hi=>?_,by unfold maxLen;exact hnt⟩
   obtain⟨u,h1,h2⟩:=HO1.out.2.2.2.1 W' mk' Lt' h i hi;exact⟨u,h1,gM (Mem.le_trans hle hle4) h2⟩
  have hV:=zn hE HO1.out.2.2.2.2.2.2.1 HO1.out.2.2.2.2.2.2.2 n zo 0 [] (.slice none 0 0) pre m4 _ Lt hpos (Hcv.out.1 rfl) (by simp;omega) (Mem.le_refl _) (.inl ⟨rfl,rfl⟩) HO1.out.2.1 hO6;rw[show ((0:Nat):Int)=(0:Int) from rfl] at hV;have HV:=zh (zi hV hle4);clear hV hE hO6 hO5 hO4 hO3 hO2 c1 c2 c3 c4 l1 l2 l3 l4 hle hle4 hsz3 m1 m2 m3
  go_enter Tryz.func219,Tryz.ntmps219
  go_wp2_with fail
  refine HV.out.1.mono ?_;rintro e' w7 (⟨rfl,mk5,Lt5,k1,k2,k3⟩ | ⟨rfl,qq,mk5,Lt5,k0,k1,k2,k3,k4⟩)
  ·have Hq:=zh (zi k1 (zi k2 k3));clear k1 k2 k3;go_wp2;exact hR.out _ _ (.inl ⟨rfl,mk5,Lt5,by simpa using Hq.out.1,Hq.out.2.1,Mem.le_trans HV.out.2 Hq.out.2.2⟩)
  ·have Hq:=zh (zi k0 (zi k1 (zi k2 (zi k3 k4))));clear k0 k1 k2 k3 k4;go_wp2;exact hR.out _ _ (.inr ⟨rfl,qq,mk5,Lt5,Hq.out.1,by simpa using Hq.out.2.1,Hq.out.2.2.1,Hq.out.2.2.2.1,Mem.le_trans HV.out.2 Hq.out.2.2.2.2⟩)
theorem set_mid {α:Type} (A C:List α) (x y:α) {k:Nat} (h:A.length=k):(A ++ x::C).set k y=A ++ y::C:=by
 subst h;simp
theorem NI {α:Type} (A C:List α) (x:α) {k:Nat} (h:A.length=k):(A ++ x::C)[k]?=some x:=by
 subst h;simp
def canF (less:List Bool) (s:Sn):Bool:=s.edges.any fun e=>less.getD e.to.toNat false
theorem NT (v0 v1:Value) (l:Table) (less:List Bool) (m:Mem) (w:World) (hm:m.inn w) (hl:aR m v0 l) (hb:fP m v1 less) (hwf:WF l) (hlen:l.length≤1000000) (hle:less.length=l.length) :
 Calls Tryz.prog 217 #[.agg #[v0],v1] w fun e w'=>∃r,e=.returned r∧Below w.heap.size w w'∧fP (m.grow w w') r (l.map (canF less)):=by
 obtain⟨a,c,rfl,h1,h2,h3⟩:=hl;obtain⟨ba,bc,rfl,b1,b2,b3⟩:=hb;unfold maxLen at h2 b2;have hO:=(Own.start hm).al #[.slice a l.length c] 27;have HO:=zh hO;have hle1:l.length≤less.length:=zo;have hle2:less.length≤l.length:=zo;have g1:=hO.obj.cell (i:=0) rfl;have g2:=hO.obj.lt;clear hO hle;refine ay fun R hR=>?_
 go_enter Tryz.func217,Tryz.ntmps217
 go_wp2_with (refine wpList_make_row CV rfl (.tmp 11) (.tmp 11) rfl l.length rfl rfl zo (by unfold maxLen;omega) ?_)
 intro w5 hown hgrow;have hszz:(w.alloc (.cells #[.slice a l.length c] 27)).heap.size=w.heap.size+1:=by simp
 have hO:=HO.out.make (by rw[hszz];exact hown) hgrow;rw[hszz] at hO;have hrep:List.replicate l.length (Value.bool false)=((l.take 0).map (canF less) ++ List.replicate (l.length - 0) false).map Value.bool:=by simp
 rw[hrep] at hO;have hg1:=hO.swap.obj.cell (i:=0) rfl;have hg2:=hO.swap.obj.lt;clear hszz;generalize w.heap.size+1=B at *
 have HO2:=zh hO;clear hown hgrow hrep HO g1 g2 hO;go_wp2;refine au [1,2,5,15,16] (fun n vs wr=>∃(k:Nat),k≤l.length∧n=l.length - k∧vs=[.slice ba less.length bc,.pointer (some ⟨w.heap.size,0,none⟩),.slice (some ⟨B,0,none⟩) l.length l.length,.int .i64 l.length,.int .i64 k] ∧
  Own w m wr m [.row (.slice (some ⟨B,0,none⟩) l.length l.length) 4 1 l.length (((l.take k).map (canF less) ++ List.replicate (l.length - k) false).map Value.bool),.obj w.heap.size 27 #[.slice a l.length c]]) ?_ ?_
 ·exact⟨_,0,Nat.zero_le _,rfl,rfl,HO2.out⟩
 clear HO2 hg1 hg2;rintro X z n vs wr hX - ⟨k,hk,rfl,rfl,hO⟩;simp[litL,lk];have g1:=hO.swap.obj.cell (i:=0) rfl;have g2:=hO.swap.obj.lt;by_cases hlt:k<l.length
 ·obtain⟨b,off,rfl,h4⟩:=h3 (by intro h;simp[h] at hlt);obtain⟨-,ve,s2,ea,ec,rfl,g4,g5,g6⟩:=h4 k hlt;have s2w:=Mem.aj hO.inn s2;have s2l:=Mem.av hO.inn s2;have htk:(l.take (k+1)).map (canF less)=(l.take k).map (canF less) ++ [canF less l[k]]:=by
   rw[List.take_succ_eq_append_getElem hlt,List.map_append];rfl
  have hrp:List.replicate (l.length - k) false=false::List.replicate (l.length - (k+1)) false:=by
   rw[show l.length - k=(l.length - (k+1))+1 by omega];rfl
  have hAl:((l.take k).map (canF less)).length=k:=by simp;omega
  have hcf:canF less l[k]=(l[k]).edges.any fun e=>less.getD e.to.toNat false:=rfl;have hlh:=dD (hwf l[k] (List.getElem_mem hlt));rw[hrp] at hO;have Htk:=zh (zi htk hcf);generalize (l[k]).edges=es at *
  have HO:=zh hO;unfold maxLen at g5;generalize hAA:(l.take k).map (canF less)=AA at *
  clear htk hrp hcf hAA h4 hO;go_wp2;refine au [1,2,5,15,16,6,24,25,26] (fun n vs w2=>∃(j:Nat),j≤es.length∧n=es.length - j∧vs=[.slice ba less.length bc,.pointer (some ⟨w.heap.size,0,none⟩),.slice (some ⟨B,0,none⟩) l.length l.length,.int .i64 l.length,.int .i64 k,.int .i64 k,.slice ea es.length ec,.int .i64 es.length,.int .i64 j] ∧
   Own w m w2 m [.row (.slice (some ⟨B,0,none⟩) l.length l.length) 4 1 l.length ((AA ++ ((es.take j).any fun e=>less.getD e.to.toNat false)::List.replicate (l.length - (k+1)) false).map Value.bool),.obj w.heap.size 27 #[.slice (some ⟨b,off,none⟩) l.length c]]) ?_ ?_
  ·exact⟨_,0,Nat.zero_le _,rfl,rfl,HO.out⟩
  clear HO;rintro Y z2 n vs w2 hY - ⟨j,hj,rfl,rfl,hO⟩;simp[litL,lk];by_cases hlt2:j<es.length
  ·obtain⟨eb,eo,rfl,g7⟩:=g6 (by intro h;simp[h] at hlt2);obtain⟨e1,e2,e3,e4,e5,-⟩:=g7 j hlt2;have e1w:=Mem.aj hO.inn e1;have e2w:=Mem.aj hO.inn e2;have e3w:=Mem.aj hO.inn e3;have el:=Mem.av hO.inn e1;have hte:=hlh es[j] (List.getElem_mem hlt2);have han:((es.take (j+1)).any fun e=>less.getD e.to.toNat false)=(((es.take j).any fun e=>less.getD e.to.toNat false) || less.getD (es[j]).to.toNat false):=by
    rw[List.take_succ_eq_append_getElem hlt2,List.any_append];simp
   obtain⟨t,ht⟩:=Int.eq_ofNat_of_zero_le hte.2.1;have htl:t<less.length:=zo;rw[ht,Int.toNat_natCast] at han;have hlg:less.getD t false=less[t]:=by simp[htl]
   rw[hlg] at han;obtain⟨bb,bo,rfl,b4⟩:=b3 (by intro h;simp[h] at htl);have hbt:=b4 t htl;have hbw:=Mem.aj hO.inn hbt;have hbl:=Mem.av hO.inn hbt;generalize less[t]=y at *
   rw[ht] at e3w;obtain⟨cur,hcur⟩:∃cur,((es.take j).any fun e=>less.getD e.to.toNat false)=cur:=⟨_,rfl⟩;rw[hcur] at hO han;have Han:=zh han;generalize es[j]=e at *
   have r1:=aP (j:=k) (u:=.bool cur) hO.row (by rw[List.getElem?_map,NI _ _ _ hAl];rfl);have r2:=bU hO.row k;have r3:=(World.ownsRow.lt hO.row _ rfl).2;have hO2:=(hO.setRow k (.bool (cur || y))).al' (.cells #[.int .u8 e.lo,.int .u8 e.hi,.int .i64 t] 104);rw[← List.map_set,set_mid _ _ _ _ hAl] at hO2;have HO2:=zh hO2;clear han hcur hO2 hO hlg ht hbt
   cases cur with
   | true=>
    go_wp2;refine hY.out _ _ _ zo rfl ⟨j+1,zo,rfl,rfl,?_⟩;rw[Han.out]
    exact HO2.out
   | false=>
    go_wp2;refine hY.out _ _ _ zo rfl ⟨j+1,zo,rfl,rfl,?_⟩;rw[Han.out];exact HO2.out
  ·obtain rfl:j=es.length:=zo;rw[List.take_length] at hO;have HO:=zh hO;clear hO;go_wp2;refine hX.out _ _ _ zo rfl ⟨k+1,zo,rfl,rfl,?_⟩;rw[Htk.out.1,Htk.out.2,List.append_assoc];exact HO.out
 ·obtain rfl:k=l.length:=zo;rw[List.take_length,Nat.sub_self,List.replicate_zero,List.append_nil] at hO;have hbs:=gG (l:=l.map (canF less)) (m:=m) (by rw[List.length_map];exact hO.row);have hfin:=gM hO.bg.done hbs;have Hk:=zh (zi hO.below hfin);clear hO hbs hfin;go_wp2;exact hR.out _ _ ⟨_,rfl,Hk.out.1,Hk.out.2⟩
theorem D7:eT Tryz.prog 199 147 1 24:=⟨Tryz.underlying199,zo,by
 obtain⟨i,h1,h2,h3,h4⟩:=info_parts (P:=Tryz.prog) (e:=147) (z:=.slice none 0 0) (size:=1) (bytes:=24) zk;exact⟨i,_,h1,h2,h3,h4,rfl⟩⟩
def nC (T:Table) (mk:Mem) (xs:List Value) (n:Nat):Prop:=xs.length=n∧∀i,i<n→∃u,xs[i]?=some u∧fP mk u (canN T i)
theorem nC.mono {T:Table} {mk mk':Mem} {xs:List Value} {n:Nat} (h:nC T mk xs n) (hl:mk.le mk'):nC T mk' xs n:=
 ⟨h.1,fun i hi=>let ⟨u,h1,h2⟩:=h.2 i hi;⟨u,h1,gM hl h2⟩⟩
theorem nC.push {T:Table} {mk:Mem} {xs:List Value} {n:Nat} (h:nC T mk xs n) {u:Value} (hu:fP mk u (canN T n)):nC T mk (xs ++ [u]) (n+1):=by
 refine ⟨by rw[List.length_append,h.1];rfl,fun i hi=>?_⟩;by_cases e:i<n
 ·obtain⟨v,h1,h2⟩:=h.2 i e;exact⟨v,by rw[List.getElem?_append_left (by rw[h.1];exact e)];exact h1,h2⟩
 ·obtain rfl:i=n:=zo;exact⟨u,by rw[List.getElem?_append_right (by rw[h.1];exact Nat.le_refl _),h.1];simp,hu⟩
theorem Nn {w:World} {t:TypeId} {size n c g:Nat} {xs:List Value} (h:w.ownsRow 0 t size (.slice (some ⟨g,0,none⟩) n c) n xs):n≤c∧c≤maxLen:=by
 rcases h.2 with ⟨h,-⟩ | ⟨g',cap,cur,h,-,-,hnc,hcm,-⟩
 ·cases h
 ·injection h with h1 h2 h3;subst h3;exact⟨hnc,hcm⟩
theorem Fj {T:Table} {l ga:Nat} {w0:World} {m mk:Mem} {B Bx:List (List UInt8)→List Item→Prop} {va:Value} {L1:List Item} {W:World} (hC:Canon T) (K:Nat) (hK:(K+1)*(T.length+1)≤1000000)
 (hY:uV Tryz.prog l (fun x:List UInt8=>#[Value.string ⟨x.toArray⟩]) w0 m mk B Bx) (ca:mk.cell ga 0=some va) (htab:aR mk va T) (hBK:∀pre Lt,B pre Lt→pre.length<K) (hB:B [] L1) (hO:Own w0 m W mk L1) :
 Calls Tryz.prog 216 #[.func (.yield l) #[] #[],.pointer (some ⟨ga,0,none⟩)] W
  (M0 w0 m mk B Bx (fun xs=>∃n,xs=enum T 0 n∧∀y,aF T 0 y=true→y.length<n) (fun xs=>∃n,xs <+: enum T 0 n∧xs≠[])):=by
 have hKT:K*T.length+K+T.length+1≤1000000:=by
  have:(K+1)*(T.length+1)=K*T.length+K+T.length+1:=by rw[Nat.add_mul,Nat.mul_add];omega
  omega
 generalize hKL:K*T.length=KT at *
 have HKL:=zh hKL;have hta:=htab;obtain⟨aa,ac,rfl,a1,a2,a3⟩:=htab;have ha:=Mem.aj hO.inn ca;have hal:=Mem.av hO.inn ca;have HX:=zh (zi hta (zi hY (zi hBK (zi hC ca))));have HO:=zh (zi hO hB);unfold maxLen at a2;refine ay fun R hR=>?_;clear hO hB hta hY hBK hC hKL ca
 go_enter Tryz.func216,Tryz.ntmps216
 go_wp2;refine au [0,1,3,4,9,10] (fun q vs W1=>∃(k:Nat) (vf:Value),k≤T.length∧q=T.length - k∧vs=[.func (.yield l) #[] #[],.pointer (some ⟨ga,0,none⟩),.slice none 0 0,vf,.int .i64 T.length,.int .i64 k] ∧
  Own w0 m W1 mk (.row vf 4 1 k (((T.take k).map (·.accept)).map Value.bool)::L1)) ?_ ?_
 ·exact⟨_,0,.slice none 0 0,Nat.zero_le _,rfl,rfl,HO.out.1.dI _ _⟩
 clear ha hal;rintro X z q vs W1 hX - ⟨k,vf,hk,rfl,rfl,hO⟩;simp[litL,lk];obtain⟨vfa,vfc,rfl⟩:=aQ hO.row;have ha:=Mem.aj hO.inn HX.out.2.2.2.2;have hal:=Mem.av hO.inn HX.out.2.2.2.2;by_cases hlt:k<T.length
 ·obtain⟨b,off,rfl,a4⟩:=a3 (by intro h;simp[h] at hlt);have s1w:=Mem.aj hO.inn (a4 k hlt).1;have s1l:=Mem.av hO.inn (a4 k hlt).1;have htk:(T.take (k+1)).map (·.accept)=(T.take k).map (·.accept) ++ [(T[k]).accept]:=by rw[List.take_succ_eq_append_getElem hlt,List.map_append];rfl
  have Htk:=zh htk;generalize (T[k]).accept=y at *
  have hO2:=hO.al #[.bool y] 4;have hnews:=hO2.obj.news rfl;clear htk hO a4
  go_wp2_with (at_builtin;refine aC BU rfl (.tmp 13) (.tmp 20) rfl (.slice vfa k vfc) k _ rfl hO2.swap.row ⟨W1.heap.size,0,none⟩ 1 1 [.bool y] rfl rfl hnews (by simp[Value.oneCell']) (by unfold maxLen;omega) zo ?_)
  intro va' vc' w7 hown7 hgrow7 hrow7;have hO3:=(hO2.swap.app hown7 hgrow7 hrow7 zS).drop2;have HO3:=zh hO3;clear hO3 hO2 hown7 hgrow7 hrow7 hnews;go_wp2;refine hX.out _ _ _ zo rfl ⟨k+1,.slice va' (k+1) vc',zo,rfl,rfl,?_⟩;rw[Htk.out,List.map_append];have:=HO3.out;simpa using this
 ·obtain rfl:k=T.length:=zo;rw[List.take_length,← KC] at hO;have hb0:=gG (l:=canN T 0) (m:=mk) (by rw[pV];exact hO.row);have hle0:=Mem.dh (w:=W1) hO.free;have hO1:=hO.bg;generalize mk.addv W1 (.slice vfa T.length vfc)=mk1 at *
  have hO2:=((hO1.dI 147 1).al #[.slice vfa T.length vfc] 147);have hnews:=hO2.obj.news rfl;have Hb:=zh (zi hb0 hle0);clear hO hO1 hb0 hle0
  go_wp2_with (at_builtin;refine aC D7 rfl (.tmp 23) (.tmp 25) rfl (.slice none 0 0) 0 [] rfl hO2.swap.row ⟨W1.heap.size,0,none⟩ 1 1 [.slice vfa T.length vfc] rfl rfl hnews (by simp[Value.oneCell']) (by unfold maxLen;omega) zo ?_)
  intro va' vc' w7 hown7 hgrow7 hrow7;have hO3:=(hO2.swap.app hown7 hgrow7 hrow7 zS).drop2;have HO3:=zh hO3;clear hO3 hO2 hown7 hgrow7 hrow7 hnews;go_wp2;refine au [0,1,3,6] (fun q vs W2=>∃(n rn:Nat) (vt:Value) (xs:List Value) (mk2:Mem) (Lt:List Item),q=KT+1 - n∧(n=0∧rn=1∨0<n∧rn=n∧n≤KT) ∧
   vs=[.func (.yield l) #[] #[],.pointer (some ⟨ga,0,none⟩),vt,.int .i64 n] ∧
   mk.le mk2∧B (enum T 0 n) Lt∧Own w0 m W2 mk2 (.row vt 147 1 rn xs::Lt)∧nC T mk2 xs rn) ?_ ?_
  ·refine ⟨_,0,1,.slice va' 1 vc',[.slice vfa T.length vfc],mk1,L1,rfl,.inl ⟨rfl,rfl⟩,rfl,Hb.out.2,HO.out.2,by simpa using HO3.out,?_⟩;exact nC.push (n:=0) (xs:=[]) ⟨rfl,fun i hi=>zo⟩ Hb.out.1
  clear HO3 ha hal;rintro Y z2 q vs W2 hY2 - ⟨n,rn,vt,xs,mk2,Lt,rfl,hrn,rfl,hle2,hB2,hO2,hCR⟩;simp[litL,lk];obtain⟨vta,vtc,rfl⟩:=aQ hO2.row;have hrn1:0<rn:=zo;obtain⟨tb,rfl⟩:=iJ hO2.row hrn1;have ha:=Mem.aj hO2.inn (Mem.aA hle2 HX.out.2.2.2.2);have hal:=Mem.av hO2.inn (Mem.aA hle2 HX.out.2.2.2.2);have hnK:n≤KT:=zo;by_cases hT:0<T.length
  ·have hd1:decide (0<T.length)=true:=decide_eq_true hT;have HQ:=zh (zi hO2 (zi hB2 (zi hle2 hCR)));clear hO2 hB2 hle2 hCR
   go_upto_if 34 with (fail)
   refine aN [0,1,3,6] (fun vs w'=>∃(vt2:Value) (xs2:List Value) (mk3:Mem),vs=[.func (.yield l) #[] #[],.pointer (some ⟨ga,0,none⟩),vt2,.int .i64 n] ∧
    mk.le mk3∧Own w0 m w' mk3 (.row vt2 147 1 (n+1) xs2::Lt)∧nC T mk3 xs2 (n+1)) ?_ ?_
   ·intro V hV;rcases hrn with ⟨rfl,rfl⟩ | ⟨hn0,rfl,-⟩
    ·go_wp2;exact hV.out _ _ rfl ⟨.slice (some ⟨tb,0,none⟩) 1 vtc,xs,mk2,rfl,HQ.out.2.2.1,HQ.out.1,HQ.out.2.2.2⟩
    ·have hd2:decide (0<rn)=true:=decide_eq_true hn0;have hd3:decide ((0:Int)<(rn:Int))=true:=decide_eq_true zo;obtain⟨n1,rfl⟩:∃n1,rn=n1+1:=⟨rn - 1,zo⟩;have hw1:IntKind.i64.wrap (((n1+1:Nat):Int) - 1)=(n1:Int):=by rw[IntWalk.i64_in _ zo];omega
     have hw2:IntKind.i64.wrap ((n1:Int)+1 - 1)=(n1:Int):=by rw[IntWalk.i64_in _ zo];omega
     have hw3:IntKind.i64.wrap (n1:Int)=(n1:Int):=IntWalk.i64_in _ zo;have hn1:n1<n1+1:=zo;have hn2:(n1:Int)<(n1:Int)+1:=zo;obtain⟨u,hu1,hu2⟩:=HQ.out.2.2.2.2 n1 hn1;have hO:=HQ.out.1.dr;go_wp2;refine nH (fun j w'=>j≠9→j≠10→(mk2.inn w'∧w'.cell? ⟨tb,n1,none⟩=some u∧tb<w'.heap.size)) zk ?_;have hS:mk2.inn W2.drew∧W2.drew.cell? ⟨tb,n1,none⟩=some u∧tb<W2.drew.heap.size:=⟨hO.inn,aP hO.row hu1,(World.ownsRow.lt hO.row _ rfl).2⟩;have hca:=Mem.aA HQ.out.2.2.1 HX.out.2.2.2.2;refine aM 0 12 (fun w'=>mk2.inn w'∧w'.cell? ⟨tb,n1,none⟩=some u∧tb<w'.heap.size) rfl zk (fun _ _ _ h=>h) (fun j w' hj hd=>hd (by rintro rfl;exact aG zk hj) (by rintro rfl;exact aG zk hj)) hS (aB rfl fun w' hS'=>by have q:=hS'.2.1;have q1:=hS'.2.2;have q2:=Mem.aj hS'.1 hca;have q3:=Mem.av hS'.1 hca;go_simp;rfl) ?_;refine aM 1 12 (fun w'=>mk2.inn w'∧w'.cell? ⟨tb,n1,none⟩=some u∧tb<w'.heap.size) rfl zk (fun _ _ _ h=>h) (fun j w' hj hd=>hd (by rintro rfl;exact aG zk hj) (by rintro rfl;exact aG zk hj)) hS (aB rfl fun w' hS'=>by have q:=hS'.2.1;have q1:=hS'.2.2;have q2:=Mem.aj hS'.1 hca;have q3:=Mem.av hS'.1 hca;go_simp;rfl) ?_;refine aM 2 12 (fun w'=>mk2.inn w'∧w'.cell? ⟨tb,n1,none⟩=some u∧tb<w'.heap.size) rfl zk (fun _ _ _ h=>h) (fun j w' hj hd=>hd (by rintro rfl;exact aG zk hj) (by rintro rfl;exact aG zk hj)) hS (aB rfl fun w' hS'=>by have q:=hS'.2.1;have q1:=hS'.2.2;have q2:=Mem.aj hS'.1 hca;have q3:=Mem.av hS'.1 hca;go_simp;rfl) ?_;refine aM 3 12 (fun w'=>mk2.inn w'∧w'.cell? ⟨tb,n1,none⟩=some u∧tb<w'.heap.size) rfl zk (fun _ _ _ h=>h) (fun j w' hj hd=>hd (by rintro rfl;exact aG zk hj) (by rintro rfl;exact aG zk hj)) hS (aB rfl fun w' hS'=>by have q:=hS'.2.1;have q1:=hS'.2.2;have q2:=Mem.aj hS'.1 hca;have q3:=Mem.av hS'.1 hca;go_simp;rfl) ?_;refine aM 4 12 (fun w'=>mk2.inn w'∧w'.cell? ⟨tb,n1,none⟩=some u∧tb<w'.heap.size) rfl zk (fun _ _ _ h=>h) (fun j w' hj hd=>hd (by rintro rfl;exact aG zk hj) (by rintro rfl;exact aG zk hj)) hS (aB rfl fun w' hS'=>by have q:=hS'.2.1;have q1:=hS'.2.2;have q2:=Mem.aj hS'.1 hca;have q3:=Mem.av hS'.1 hca;go_simp;rfl) ?_;refine aM 5 12 (fun w'=>mk2.inn w'∧w'.cell? ⟨tb,n1,none⟩=some u∧tb<w'.heap.size) rfl zk (fun _ _ _ h=>h) (fun j w' hj hd=>hd (by rintro rfl;exact aG zk hj) (by rintro rfl;exact aG zk hj)) hS (aB rfl fun w' hS'=>by have q:=hS'.2.1;have q1:=hS'.2.2;have q2:=Mem.aj hS'.1 hca;have q3:=Mem.av hS'.1 hca;go_simp;rfl) ?_;refine aM 6 12 (fun w'=>mk2.inn w'∧w'.cell? ⟨tb,n1,none⟩=some u∧tb<w'.heap.size) rfl zk (fun _ _ _ h=>h) (fun j w' hj hd=>hd (by rintro rfl;exact aG zk hj) (by rintro rfl;exact aG zk hj)) hS (aB rfl fun w' hS'=>by have q:=hS'.2.1;have q1:=hS'.2.2;have q2:=Mem.aj hS'.1 hca;have q3:=Mem.av hS'.1 hca;go_simp;rfl) ?_;have hlT:=pV T n1;have hcs:=Bt HX.out.2.2.2.1.wf HX.out.2.2.2.1.bytes n1;have hcall:=NT (.slice aa T.length ac) u T (canN T n1) mk2 _ hO.inn (bu HQ.out.2.2.1 HX.out.1) hu2 HX.out.2.2.2.1.wf zo hlT;refine bA 7 zk (aO rfl rfl (fQ zg hcall ?_));rintro e' w3 ⟨r,rfl,hb3,hr3⟩;rw[show T.map (canF (canN T n1))=canN T (n1+1) from hcs.symm] at hr3;have hO3:=hO.call hb3;have hle3:=Mem.dN (w:=w3) hO.inn;clear hcs hlT;obtain⟨rra,rrc,rfl⟩:∃xa xc,r=.slice xa (canN T (n1+1)).length xc:=by obtain⟨x,y,e,-⟩:=hr3;exact⟨x,y,e⟩
     refine ⟨_,rfl,.inr fun _ _=>⟨Mem.cz hle3 hO3.inn,aP hO3.row hu1,(World.ownsRow.lt hO3.row _ rfl).2⟩,?_⟩;go_simp;have hO4:=hO3.al #[.slice rra (canN T (n1+1)).length rrc] 147;refine bA 8 zk (aO rfl rfl (aK (by go_simp;first | done | exact⟨rfl,rfl⟩ | rfl) ⟨.inr fun _ _=>⟨Mem.cz hle3 hO4.inn,aP hO4.swap.row hu1,(World.ownsRow.lt hO4.swap.row _ rfl).2⟩,?_⟩));go_simp;refine bA 9 zk (aO rfl rfl (eH D7 (.tmp 35) (.tmp 43) rfl (.slice (some ⟨tb,0,none⟩) (n1+1) vtc) (n1+1) xs rfl hO4.swap.row ⟨w3.heap.size,0,none⟩ 1 1 [.slice rra (canN T (n1+1)).length rrc] rfl rfl (hO4.obj.news rfl) (by simp[Value.oneCell']) (by unfold maxLen;omega) zo (fun na' nc' w7 hown7 hgrow7 hrow7=>?_)));have hO5:=(hO4.swap.app hown7 hgrow7 hrow7 (Nat.le_refl _)).drop2;refine ⟨.inr fun h=>absurd rfl h,?_⟩;go_simp;refine bA 10 zk (aO rfl rfl (aK (by go_simp;first | done | exact⟨rfl,rfl⟩ | rfl) ⟨.inl rfl,?_⟩));refine fA zk ?_ _;exact hV.out _ _ rfl ⟨.slice na' (n1+1+1) nc',xs ++ [.slice rra (canN T (n1+1)).length rrc],mk2.grow W2.drew w3,rfl,Mem.le_trans HQ.out.2.2.1 hle3,hO5,(HQ.out.2.2.2.mono hle3).push hr3⟩
   rintro z3 vs w3 - ⟨vt2,xs2,mk3,rfl,hle3,hO3,hCR3⟩;simp[litL,lk];have hB2:=HQ.out.2.1;have hdone:=fun h=>Kj HX.out.2.2.2.1.wf HX.out.2.2.2.1.bytes (n:=n) h;have hES:=A9 T 0 n;have hbnd:=fun (hn:KT<n+1) (h:(enum T 0 (n+1)).length<K)=>Ic HX.out.2.2.2.1 (n:=n+1) h (by rw[HKL.out];exact hn);obtain⟨vta2,vtc2,rfl⟩:=aQ hO3.row;obtain⟨tb2,rfl⟩:=iJ hO3.row zo;obtain⟨u,hu1,hu2⟩:=hCR3.2 n zo;have HS:=zh (zi hO3 (zi hCR3 (zi hle3 (zi hdone (zi hES hbnd)))));have HU:=zh (zi hu1 hu2);have HB2:=zh hB2;have hlT:=pV T n;obtain⟨ua,uc,rfl,u2,u3,u4⟩:=hu2;obtain⟨ub,uo,rfl,u5⟩:=u4 (by intro h;rw[h] at hlT;simp at hlT;omega);have hall:(∀b∈canN T n,b=false)↔¬ (true∈canN T n):=by
    constructor
    ·intro h hm;have:=h true hm;cases this
    ·intro h b hb
     cases b with
     | false=>rfl
     | true=>exact absurd hb h
   have Hall:=zh hall;have hcap:=Nn hO3.row;have hcap1:=hcap.1;have hcap2:=hcap.2;unfold maxLen at hcap2;clear hall hcap;clear hO3 hCR3 hle3 hdone hES hbnd hu1 HQ hB2 ha hal hlT u4 u5;go_wp2;refine aN [0,1,3,6,65] (fun vs w'=>∃(bb:Bool) (mk4:Mem) (Lt4:List Item),vs=[.func (.yield l) #[] #[],.pointer (some ⟨ga,0,none⟩),.slice (some ⟨tb2,0,none⟩) (n+1) vtc2,.int .i64 n,.bool bb]∧mk.le mk4 ∧
    (bb=false→B (enum T 0 (n+1)) Lt4∧Own w0 m w' mk4 (.row (.slice (some ⟨tb2,0,none⟩) (n+1) vtc2) 147 1 (n+1) xs2::Lt4)∧true∈canN T n∧nC T mk4 xs2 (n+1)) ∧
    (bb=true→(B (enum T 0 n) Lt4∧Own w0 m w' mk4 Lt4∧∀b∈canN T n,b=false)∨∃q,q≠[]∧q <+: wex T n 0∧Bx (enum T 0 n ++ q) Lt4∧Own w0 m w' mk4 Lt4)) ?_ ?_
   ·intro V hV;have hO:=HS.out.1.dr;have hca:=Mem.aA HS.out.2.2.1 HX.out.2.2.2.2;have hw1:IntKind.i64.wrap ((n:Int)+1)=(n:Int)+1:=IntWalk.i64_in _ zo;have hn1:(n:Int)<(n:Int)+1:=zo;have hn2:n<n+1:=zo;have hb1:(0:Int)≤(n:Int)+1:=zo;have hb2:(n:Int)+1≤(vtc2:Int):=zo;have HCt:=zh (fun w' (h:mk3.inn w')=>qQ (.slice (some ⟨ub,uo,none⟩) (canN T n).length uc) (canN T n) true mk3 w' h HU.out.2);refine nH (fun j w'=>j≠18→j≠19→j≠20→(mk3.inn w'∧w'.cell? ⟨tb2,n,none⟩=some (.slice (some ⟨ub,uo,none⟩) (canN T n).length uc)∧tb2<w'.heap.size)) zk ?_;have hS:mk3.inn w3.drew∧w3.drew.cell? ⟨tb2,n,none⟩=some (.slice (some ⟨ub,uo,none⟩) (canN T n).length uc)∧tb2<w3.drew.heap.size:=⟨hO.inn,aP hO.row HU.out.1,(World.ownsRow.lt hO.row _ rfl).2⟩;refine aM 0 6 (fun w'=>mk3.inn w'∧w'.cell? ⟨tb2,n,none⟩=some (.slice (some ⟨ub,uo,none⟩) (canN T n).length uc)∧tb2<w'.heap.size) rfl zk (fun _ _ _ h=>h) (fun j w' hj hd=>hd (by rintro rfl;exact aG zk hj) (by rintro rfl;exact aG zk hj) (by rintro rfl;exact aG zk hj)) hS (aB rfl fun w' hS'=>by have q:=hS'.2.1;have q1:=hS'.2.2;go_simp;rfl) ?_;refine aM 1 6 (fun w'=>mk3.inn w'∧w'.cell? ⟨tb2,n,none⟩=some (.slice (some ⟨ub,uo,none⟩) (canN T n).length uc)∧tb2<w'.heap.size) rfl zk (fun _ _ _ h=>h) (fun j w' hj hd=>hd (by rintro rfl;exact aG zk hj) (by rintro rfl;exact aG zk hj) (by rintro rfl;exact aG zk hj)) hS (aB rfl fun w' hS'=>by have q:=hS'.2.1;have q1:=hS'.2.2;go_simp;rfl) ?_;refine aM 2 6 (fun w'=>mk3.inn w'∧w'.cell? ⟨tb2,n,none⟩=some (.slice (some ⟨ub,uo,none⟩) (canN T n).length uc)∧tb2<w'.heap.size) rfl zk (fun _ _ _ h=>h) (fun j w' hj hd=>hd (by rintro rfl;exact aG zk hj) (by rintro rfl;exact aG zk hj) (by rintro rfl;exact aG zk hj)) hS (aB rfl fun w' hS'=>by have q:=hS'.2.1;have q1:=hS'.2.2;go_simp;rfl) ?_;refine aM 3 6 (fun w'=>mk3.inn w'∧w'.cell? ⟨tb2,n,none⟩=some (.slice (some ⟨ub,uo,none⟩) (canN T n).length uc)∧tb2<w'.heap.size) rfl zk (fun _ _ _ h=>h) (fun j w' hj hd=>hd (by rintro rfl;exact aG zk hj) (by rintro rfl;exact aG zk hj) (by rintro rfl;exact aG zk hj)) hS (aB rfl fun w' hS'=>by have q:=hS'.2.1;have q1:=hS'.2.2;go_simp;rfl) ?_;refine bA 4 zk (aO rfl rfl (fQ zg (HCt.out _ hO.inn) ?_));rintro e' w4 ⟨rfl,hb4⟩;have hO4:=hO.move hb4;have hS4:mk3.inn w4∧w4.cell? ⟨tb2,n,none⟩=some (.slice (some ⟨ub,uo,none⟩) (canN T n).length uc)∧tb2<w4.heap.size:=⟨hO4.inn,aP hO4.row HU.out.1,(World.ownsRow.lt hO4.row _ rfl).2⟩;refine ⟨_,rfl,.inr fun _ _ _=>hS4,?_⟩;by_cases hmem:true∈canN T n
    ·rw[aI hmem];go_simp;refine aM 5 6 (fun w'=>mk3.inn w'∧w'.cell? ⟨tb2,n,none⟩=some (.slice (some ⟨ub,uo,none⟩) (canN T n).length uc)∧tb2<w'.heap.size) rfl zk (fun _ _ _ h=>h) (fun j w' hj hd=>hd (by rintro rfl;exact aG zk hj) (by rintro rfl;exact aG zk hj) (by rintro rfl;exact aG zk hj)) hS4 (aB rfl fun w' hS'=>by have q:=hS'.2.1;have q1:=hS'.2.2;have q2:=Mem.aj hS'.1 hca;have q3:=Mem.av hS'.1 hca;go_simp;rfl) ?_;refine aM 6 6 (fun w'=>mk3.inn w'∧w'.cell? ⟨tb2,n,none⟩=some (.slice (some ⟨ub,uo,none⟩) (canN T n).length uc)∧tb2<w'.heap.size) rfl zk (fun _ _ _ h=>h) (fun j w' hj hd=>hd (by rintro rfl;exact aG zk hj) (by rintro rfl;exact aG zk hj) (by rintro rfl;exact aG zk hj)) hS4 (aB rfl fun w' hS'=>by have q:=hS'.2.1;have q1:=hS'.2.2;have q2:=Mem.aj hS'.1 hca;have q3:=Mem.av hS'.1 hca;go_simp;rfl) ?_;go_simp;refine aM 7 6 (fun w'=>mk3.inn w'∧w'.cell? ⟨tb2,n,none⟩=some (.slice (some ⟨ub,uo,none⟩) (canN T n).length uc)∧tb2<w'.heap.size) rfl zk (fun _ _ _ h=>h) (fun j w' hj hd=>hd (by rintro rfl;exact aG zk hj) (by rintro rfl;exact aG zk hj) (by rintro rfl;exact aG zk hj)) hS4 (aB rfl fun w' hS'=>by have q:=hS'.2.1;have q1:=hS'.2.2;have q2:=Mem.aj hS'.1 hca;have q3:=Mem.av hS'.1 hca;go_simp;rfl) ?_;go_simp;refine aM 8 6 (fun w'=>mk3.inn w'∧w'.cell? ⟨tb2,n,none⟩=some (.slice (some ⟨ub,uo,none⟩) (canN T n).length uc)∧tb2<w'.heap.size) rfl zk (fun _ _ _ h=>h) (fun j w' hj hd=>hd (by rintro rfl;exact aG zk hj) (by rintro rfl;exact aG zk hj) (by rintro rfl;exact aG zk hj)) hS4 (aB rfl fun w' hS'=>by have q:=hS'.2.1;have q1:=hS'.2.2;have q2:=Mem.aj hS'.1 hca;have q3:=Mem.av hS'.1 hca;go_simp;rfl) ?_;go_simp;refine aM 9 6 (fun w'=>mk3.inn w'∧w'.cell? ⟨tb2,n,none⟩=some (.slice (some ⟨ub,uo,none⟩) (canN T n).length uc)∧tb2<w'.heap.size) rfl zk (fun _ _ _ h=>h) (fun j w' hj hd=>hd (by rintro rfl;exact aG zk hj) (by rintro rfl;exact aG zk hj) (by rintro rfl;exact aG zk hj)) hS4 (aB rfl fun w' hS'=>by have q:=hS'.2.1;have q1:=hS'.2.2;have q2:=Mem.aj hS'.1 hca;have q3:=Mem.av hS'.1 hca;go_simp;rfl) ?_;go_simp;refine aM 10 6 (fun w'=>mk3.inn w'∧w'.cell? ⟨tb2,n,none⟩=some (.slice (some ⟨ub,uo,none⟩) (canN T n).length uc)∧tb2<w'.heap.size) rfl zk (fun _ _ _ h=>h) (fun j w' hj hd=>hd (by rintro rfl;exact aG zk hj) (by rintro rfl;exact aG zk hj) (by rintro rfl;exact aG zk hj)) hS4 (aB rfl fun w' hS'=>by have q:=hS'.2.1;have q1:=hS'.2.2;have q2:=Mem.aj hS'.1 hca;have q3:=Mem.av hS'.1 hca;go_simp;rfl) ?_;go_simp;refine aM 11 6 (fun w'=>mk3.inn w'∧w'.cell? ⟨tb2,n,none⟩=some (.slice (some ⟨ub,uo,none⟩) (canN T n).length uc)∧tb2<w'.heap.size) rfl zk (fun _ _ _ h=>h) (fun j w' hj hd=>hd (by rintro rfl;exact aG zk hj) (by rintro rfl;exact aG zk hj) (by rintro rfl;exact aG zk hj)) hS4 (aB rfl fun w' hS'=>by have q:=hS'.2.1;have q1:=hS'.2.2;have q2:=Mem.aj hS'.1 hca;have q3:=Mem.av hS'.1 hca;go_simp;rfl) ?_;go_simp;refine aM 12 6 (fun w'=>mk3.inn w'∧w'.cell? ⟨tb2,n,none⟩=some (.slice (some ⟨ub,uo,none⟩) (canN T n).length uc)∧tb2<w'.heap.size) rfl zk (fun _ _ _ h=>h) (fun j w' hj hd=>hd (by rintro rfl;exact aG zk hj) (by rintro rfl;exact aG zk hj) (by rintro rfl;exact aG zk hj)) hS4 (aB rfl fun w' hS'=>by have q:=hS'.2.1;have q1:=hS'.2.2;have q2:=Mem.aj hS'.1 hca;have q3:=Mem.av hS'.1 hca;go_simp;rfl) ?_;go_simp;refine aM 13 6 (fun w'=>mk3.inn w'∧w'.cell? ⟨tb2,n,none⟩=some (.slice (some ⟨ub,uo,none⟩) (canN T n).length uc)∧tb2<w'.heap.size) rfl zk (fun _ _ _ h=>h) (fun j w' hj hd=>hd (by rintro rfl;exact aG zk hj) (by rintro rfl;exact aG zk hj) (by rintro rfl;exact aG zk hj)) hS4 (aB rfl fun w' hS'=>by have q:=hS'.2.1;have q1:=hS'.2.2;have q2:=Mem.aj hS'.1 hca;have q3:=Mem.av hS'.1 hca;go_simp;rfl) ?_;go_simp;refine aM 14 6 (fun w'=>mk3.inn w'∧w'.cell? ⟨tb2,n,none⟩=some (.slice (some ⟨ub,uo,none⟩) (canN T n).length uc)∧tb2<w'.heap.size) rfl zk (fun _ _ _ h=>h) (fun j w' hj hd=>hd (by rintro rfl;exact aG zk hj) (by rintro rfl;exact aG zk hj) (by rintro rfl;exact aG zk hj)) hS4 (aB rfl fun w' hS'=>by have q:=hS'.2.1;have q1:=hS'.2.2;have q2:=Mem.aj hS'.1 hca;have q3:=Mem.av hS'.1 hca;go_simp;rfl) ?_;go_simp;refine aM 15 6 (fun w'=>mk3.inn w'∧w'.cell? ⟨tb2,n,none⟩=some (.slice (some ⟨ub,uo,none⟩) (canN T n).length uc)∧tb2<w'.heap.size) rfl zk (fun _ _ _ h=>h) (fun j w' hj hd=>hd (by rintro rfl;exact aG zk hj) (by rintro rfl;exact aG zk hj) (by rintro rfl;exact aG zk hj)) hS4 (aB rfl fun w' hS'=>by have q:=hS'.2.1;have q1:=hS'.2.2;have q2:=Mem.aj hS'.1 hca;have q3:=Mem.av hS'.1 hca;go_simp;rfl) ?_;go_simp;refine aM 16 6 (fun w'=>mk3.inn w'∧w'.cell? ⟨tb2,n,none⟩=some (.slice (some ⟨ub,uo,none⟩) (canN T n).length uc)∧tb2<w'.heap.size) rfl zk (fun _ _ _ h=>h) (fun j w' hj hd=>hd (by rintro rfl;exact aG zk hj) (by rintro rfl;exact aG zk hj) (by rintro rfl;exact aG zk hj)) hS4 (aB rfl fun w' hS'=>by have q:=hS'.2.1;have q1:=hS'.2.2;have q2:=Mem.aj hS'.1 hca;have q3:=Mem.av hS'.1 hca;go_simp;rfl) ?_;go_simp;refine aM 17 6 (fun w'=>mk3.inn w'∧w'.cell? ⟨tb2,n,none⟩=some (.slice (some ⟨ub,uo,none⟩) (canN T n).length uc)∧tb2<w'.heap.size) rfl zk (fun _ _ _ h=>h) (fun j w' hj hd=>hd (by rintro rfl;exact aG zk hj) (by rintro rfl;exact aG zk hj) (by rintro rfl;exact aG zk hj)) hS4 (aB rfl fun w' hS'=>by have q:=hS'.2.1;have q1:=hS'.2.2;have q2:=Mem.aj hS'.1 hca;have q3:=Mem.av hS'.1 hca;go_simp;rfl) ?_;go_simp;have hT0:=hT;have hsome:=Lb (T:=T) (l:=l) (w0:=w0) (m:=m) (mk0:=mk3) (B:=B) (Bx:=Bx) (Lr:=[.row (.slice (some ⟨tb2,0,none⟩) (n+1) vtc2) 147 1 (n+1) xs2]) (tb:=tb2) (n:=n) (ctab:=vtc2) (clast:=1) (ntab:=n+1) (va:=.slice aa T.length ac) HX.out.2.2.2.1.wf HX.out.2.2.2.1.bytes
      (fun pre x W' mk' Lt' Lr' h1 h2 h3=>HX.out.2.1 pre x W' mk' Lt' Lr' h1 h2 (Mem.le_trans HS.out.2.2.1 h3)) (bu HS.out.2.2.1 HX.out.1) hT0 (by unfold maxLen;omega) zo zo (by unfold maxLen;omega)
      (fun W' mk' Lt' h i hi=>by
       obtain⟨u',h1,h2⟩:=HS.out.2.1.2 i hi;exact⟨u',aP (h.jT (v:=.slice (some ⟨tb2,0,none⟩) (n+1) vtc2) (t:=147) (size:=1) (n:=n+1) (xs:=xs2) zS) h1,h2⟩)
      (enum T 0 n) mk3 w4 Lt (Mem.le_refl _) HB2.out (hO4.perm (List.perm_append_singleton _ _))
     refine bA 18 zk (dn rfl rfl (fQ zg hsome ?_));rintro e' w5 (⟨rfl,mk5,Lt5,k1,k2,k3⟩ | ⟨rfl,qq,mk5,Lt5,k0,k1,k2,k3,k4⟩)
     ·refine ⟨_,rfl,.inr fun h=>absurd rfl h,?_⟩;go_simp;refine bA 19 zk (dn rfl rfl (aK (by go_simp;first | done | exact⟨rfl,rfl⟩ | rfl) ⟨.inl rfl,?_⟩));go_simp;refine bA 20 zk (aO rfl rfl (aK (by go_simp;first | done | exact⟨rfl,rfl⟩ | rfl) ⟨.inl rfl,?_⟩));refine fA zk ?_ _;refine hV.out _ _ rfl ⟨false,mk5,Lt5,rfl,Mem.le_trans HS.out.2.2.1 k3,fun _=>⟨?_,k2.perm (List.perm_append_singleton _ _).symm,hmem,HS.out.2.1.mono k3⟩,fun h=>by cases h⟩;rw[HS.out.2.2.2.2.1];exact k1
     ·refine ⟨_,rfl,.inr fun h=>absurd rfl h,?_⟩;go_simp;refine bA 19 zk (dn rfl rfl (aK (by go_simp;first | done | exact⟨rfl,rfl⟩ | rfl) ⟨.inl rfl,?_⟩));go_simp;refine bA 20 zk (aO rfl rfl (aK (by go_simp;first | done | exact⟨rfl,rfl⟩ | rfl) ⟨.inl rfl,?_⟩));refine fA zk ?_ _;exact hV.out _ _ rfl ⟨true,mk5,Lt5,rfl,Mem.le_trans HS.out.2.2.1 k4,(fun h=>by cases h),fun _=>.inr ⟨qq,k0,k1,k2,(k3.perm (List.perm_append_singleton _ _).symm).tail⟩⟩
    ·rw[az hmem];go_simp;refine aM 5 6 (fun w'=>mk3.inn w'∧w'.cell? ⟨tb2,n,none⟩=some (.slice (some ⟨ub,uo,none⟩) (canN T n).length uc)∧tb2<w'.heap.size) rfl zk (fun _ _ _ h=>h) (fun j w' hj hd=>hd (by rintro rfl;exact aG zk hj) (by rintro rfl;exact aG zk hj) (by rintro rfl;exact aG zk hj)) hS4 (aB rfl fun w' hS'=>by go_simp;rfl) ?_;refine aM 6 6 (fun w'=>mk3.inn w'∧w'.cell? ⟨tb2,n,none⟩=some (.slice (some ⟨ub,uo,none⟩) (canN T n).length uc)∧tb2<w'.heap.size) rfl zk (fun _ _ _ h=>h) (fun j w' hj hd=>hd (by rintro rfl;exact aG zk hj) (by rintro rfl;exact aG zk hj) (by rintro rfl;exact aG zk hj)) hS4 (aB rfl fun w' hS'=>by go_simp;rfl) ?_;go_simp;refine aM 7 6 (fun w'=>mk3.inn w'∧w'.cell? ⟨tb2,n,none⟩=some (.slice (some ⟨ub,uo,none⟩) (canN T n).length uc)∧tb2<w'.heap.size) rfl zk (fun _ _ _ h=>h) (fun j w' hj hd=>hd (by rintro rfl;exact aG zk hj) (by rintro rfl;exact aG zk hj) (by rintro rfl;exact aG zk hj)) hS4 (.inr ⟨rfl,rfl⟩) ?_;go_simp;refine aM 8 6 (fun w'=>mk3.inn w'∧w'.cell? ⟨tb2,n,none⟩=some (.slice (some ⟨ub,uo,none⟩) (canN T n).length uc)∧tb2<w'.heap.size) rfl zk (fun _ _ _ h=>h) (fun j w' hj hd=>hd (by rintro rfl;exact aG zk hj) (by rintro rfl;exact aG zk hj) (by rintro rfl;exact aG zk hj)) hS4 (.inr ⟨rfl,rfl⟩) ?_;go_simp;refine aM 9 6 (fun w'=>mk3.inn w'∧w'.cell? ⟨tb2,n,none⟩=some (.slice (some ⟨ub,uo,none⟩) (canN T n).length uc)∧tb2<w'.heap.size) rfl zk (fun _ _ _ h=>h) (fun j w' hj hd=>hd (by rintro rfl;exact aG zk hj) (by rintro rfl;exact aG zk hj) (by rintro rfl;exact aG zk hj)) hS4 (.inr ⟨rfl,rfl⟩) ?_;go_simp;refine aM 10 6 (fun w'=>mk3.inn w'∧w'.cell? ⟨tb2,n,none⟩=some (.slice (some ⟨ub,uo,none⟩) (canN T n).length uc)∧tb2<w'.heap.size) rfl zk (fun _ _ _ h=>h) (fun j w' hj hd=>hd (by rintro rfl;exact aG zk hj) (by rintro rfl;exact aG zk hj) (by rintro rfl;exact aG zk hj)) hS4 (.inr ⟨rfl,rfl⟩) ?_;go_simp;refine aM 11 6 (fun w'=>mk3.inn w'∧w'.cell? ⟨tb2,n,none⟩=some (.slice (some ⟨ub,uo,none⟩) (canN T n).length uc)∧tb2<w'.heap.size) rfl zk (fun _ _ _ h=>h) (fun j w' hj hd=>hd (by rintro rfl;exact aG zk hj) (by rintro rfl;exact aG zk hj) (by rintro rfl;exact aG zk hj)) hS4 (.inr ⟨rfl,rfl⟩) ?_;go_simp;refine aM 12 6 (fun w'=>mk3.inn w'∧w'.cell? ⟨tb2,n,none⟩=some (.slice (some ⟨ub,uo,none⟩) (canN T n).length uc)∧tb2<w'.heap.size) rfl zk (fun _ _ _ h=>h) (fun j w' hj hd=>hd (by rintro rfl;exact aG zk hj) (by rintro rfl;exact aG zk hj) (by rintro rfl;exact aG zk hj)) hS4 (.inr ⟨rfl,rfl⟩) ?_;go_simp;refine aM 13 6 (fun w'=>mk3.inn w'∧w'.cell? ⟨tb2,n,none⟩=some (.slice (some ⟨ub,uo,none⟩) (canN T n).length uc)∧tb2<w'.heap.size) rfl zk (fun _ _ _ h=>h) (fun j w' hj hd=>hd (by rintro rfl;exact aG zk hj) (by rintro rfl;exact aG zk hj) (by rintro rfl;exact aG zk hj)) hS4 (.inr ⟨rfl,rfl⟩) ?_;go_simp;refine aM 14 6 (fun w'=>mk3.inn w'∧w'.cell? ⟨tb2,n,none⟩=some (.slice (some ⟨ub,uo,none⟩) (canN T n).length uc)∧tb2<w'.heap.size) rfl zk (fun _ _ _ h=>h) (fun j w' hj hd=>hd (by rintro rfl;exact aG zk hj) (by rintro rfl;exact aG zk hj) (by rintro rfl;exact aG zk hj)) hS4 (.inr ⟨rfl,rfl⟩) ?_;go_simp;refine aM 15 6 (fun w'=>mk3.inn w'∧w'.cell? ⟨tb2,n,none⟩=some (.slice (some ⟨ub,uo,none⟩) (canN T n).length uc)∧tb2<w'.heap.size) rfl zk (fun _ _ _ h=>h) (fun j w' hj hd=>hd (by rintro rfl;exact aG zk hj) (by rintro rfl;exact aG zk hj) (by rintro rfl;exact aG zk hj)) hS4 (.inr ⟨rfl,rfl⟩) ?_;go_simp;refine aM 16 6 (fun w'=>mk3.inn w'∧w'.cell? ⟨tb2,n,none⟩=some (.slice (some ⟨ub,uo,none⟩) (canN T n).length uc)∧tb2<w'.heap.size) rfl zk (fun _ _ _ h=>h) (fun j w' hj hd=>hd (by rintro rfl;exact aG zk hj) (by rintro rfl;exact aG zk hj) (by rintro rfl;exact aG zk hj)) hS4 (.inr ⟨rfl,rfl⟩) ?_;go_simp;refine aM 17 6 (fun w'=>mk3.inn w'∧w'.cell? ⟨tb2,n,none⟩=some (.slice (some ⟨ub,uo,none⟩) (canN T n).length uc)∧tb2<w'.heap.size) rfl zk (fun _ _ _ h=>h) (fun j w' hj hd=>hd (by rintro rfl;exact aG zk hj) (by rintro rfl;exact aG zk hj) (by rintro rfl;exact aG zk hj)) hS4 (.inr ⟨rfl,rfl⟩) ?_;go_simp;refine bA 18 zk (BJ rfl rfl ⟨.inl rfl,?_⟩);go_simp;refine bA 19 zk (BJ rfl rfl ⟨.inl rfl,?_⟩);go_simp;refine bA 20 zk (aO rfl rfl (aK (by go_simp;first | done | exact⟨rfl,rfl⟩ | rfl) ⟨.inl rfl,?_⟩));refine fA zk ?_ _;exact hV.out _ _ rfl ⟨true,mk3,Lt,rfl,HS.out.2.2.1,(fun h=>by cases h),fun _=>.inl ⟨HB2.out,hO4.tail,Hall.out.2 hmem⟩⟩
   rintro z5 vs w5 - ⟨bb,mk4,Lt4,rfl,hle4,hf,ht⟩;simp[litL,lk]
   cases bb with
   | true=>
    have Hq:=zh (zi (ht rfl) hle4);clear ht hf hle4;go_wp2;refine bodyPost_ret (v:=.tuple #[]) (by simp[results,Tryz.results216,go_sem]) rfl ?_;refine hR.out _ _ ⟨⟨_,rfl⟩,?_⟩;rcases Hq.out.1 with ⟨h1,h2,h3⟩ | ⟨qq,h1,h2,h3,h4⟩
    ·exact .inl ⟨_,mk4,Lt4,⟨n,rfl,HS.out.2.2.2.1 h3⟩,h1,h2,Hq.out.2⟩
    ·refine .inr ⟨_,mk4,Lt4,⟨n+1,?_,fun h=>h1 (List.append_eq_nil_iff.1 h).2⟩,h3,h4,Hq.out.2⟩;rw[HS.out.2.2.2.2.1]
     exact (List.prefix_append_right_inj _).2 h2
   | false=>
    obtain⟨h1,h2,h3,h4⟩:=hf rfl;have hKL:n+1≤KT:=by
     apply Classical.byContradiction;intro hn;have:=HS.out.2.2.2.2.2 zo (HX.out.2.2.1 _ _ h1);rw[Nat.add_sub_cancel] at this;rw[this] at h3;have:=List.eq_of_mem_replicate h3;cases this
    have Hq:=zh (zi h1 (zi h2 (zi hle4 h4)));clear ht hf hle4 h1 h2 h3 h4;go_wp2;exact hY2.out _ _ _ zo rfl ⟨n+1,n+1,.slice (some ⟨tb2,0,none⟩) (n+1) vtc2,xs2,mk4,Lt4,rfl,.inr ⟨zo,rfl,hKL⟩,rfl,Hq.out.2.2.1,Hq.out.1,Hq.out.2.1,Hq.out.2.2.2⟩
  ·have hd1:decide (0<T.length)=false:=decide_eq_false hT;have hT0:T=[]:=List.eq_nil_of_length_eq_zero zo;have hacc:∀y,aF T 0 y=true→y.length<n:=fun y hy=>by rw[hT0,kH] at hy;cases hy
   have Hq:=zh (zi hacc (zi hO2.tail (zi hB2 hle2)));clear hacc hO2 hB2 hle2 hT0 hCR;go_wp2;refine bodyPost_ret (v:=.tuple #[]) (by simp[results,Tryz.results216,go_sem]) rfl ?_;exact hR.out _ _ ⟨⟨_,rfl⟩,.inl ⟨_,mk2,Lt,⟨n,rfl,Hq.out.1⟩,Hq.out.2.2.1,Hq.out.2.1,Hq.out.2.2.2⟩⟩
def Jo (l:List (Int × Int)) (p:Int × Int):Nat:=l.findIdx (fun q=>p=q)
def uh (l:List (Int × Int)) (p:Int × Int):List (Int × Int):=if Jo l p<l.length then l else l ++ [p]
theorem Gd {l:List (Int × Int)} {p:Int × Int} (h:¬ Jo l p<l.length):p ∉ l:=fun hm=>h (List.findIdx_lt_length.2 ⟨p,hm,zS⟩)
theorem jd.add {A B:Table} {op:Bool→Bool→Bool} {st:Int × Int} {l:List (Int × Int)} {out:Table} (h:jd A B op st l out) {q:Int × Int}
 (hr:(-1≤q.1∧q.1≤A.length)∧(-1≤q.2∧q.2≤B.length)):jd A B op st (uh l q) out:=by
 by_cases hf:Jo l q<l.length
 ·have:uh l q=l:=by unfold uh;rw[if_pos hf]
  rw[this];exact h
 ·have:uh l q=l ++ [q]:=by unfold uh;rw[if_neg hf]
  rw[this];exact h.grow (Gd hf) hr
theorem rR.ok {A B:Table} {p:Int × Int} {l:List (Int × Int)} {es:List Ed} {c:Nat} (h:rR A B p l es c) (hl:l.length≤100000000):(∀e∈es,edOk e)∧es.length≤256:=by
 have hw:=dD h.wf;have hle:=h.le;refine ⟨fun e he=>?_,?_⟩
 ·have h1:=h.hi e he;have h2:=hw e he;exact⟨zo,zo,zo,zo⟩
 ·have:=MK h.wf (fun e he=>by have h1:=h.hi e he;have h2:=hw e he;exact⟨zo,zo⟩) zo zo;omega
theorem LW (l:Table):nA (Sem l) (kQ l):=by
 refine ⟨De l,fun x=>?_⟩;unfold kQ Sem;by_cases h:Canon l
 ·simp[aI h]
 ·simp[az h];exact kH x
structure Fits (A B:Table):Prop where
 mul:(A.length+2)*(B.length+2)≤1000000
 a:A.length≤1000000
 b:B.length≤1000000
theorem Fits.of {A B:Table} {x y:Nat} (hx:A.length≤x) (hy:B.length≤y) (h:(x+2)*(y+2)≤1000000):Fits A B:=by
 have h1:(A.length+2)*(B.length+2)≤(x+2)*(y+2):=Nat.mul_le_mul zo zo;have h2:A.length+2≤(A.length+2)*(B.length+2):=Nat.le_mul_of_pos_right _ zo;have h3:B.length+2≤(A.length+2)*(B.length+2):=Nat.le_mul_of_pos_left _ zo;exact⟨zo,zo,zo⟩
theorem yK:nA (fun _=>true) allT:=by
 have h0:∀w,aF allT 0 w=true:=by
  intro w
  induction w with
  | nil=>rfl
  | cons b w ih=>
   have hb:=b.toNat_lt;have:aW allT 0 b.toNat=0:=by
    show aS [(⟨0,255,0⟩:Ed)] b.toNat=0;simp only[aS];rw[if_pos ⟨Nat.zero_le _,zo⟩]
   simp only[aF,this,ih]
 have ht:∀(k b t:Nat),aW allT k b=t→t=0:=by
  intro k b t h;by_cases hk:k<1
  ·obtain rfl:k=0:=zo;have h1:aS [(⟨0,255,0⟩:Ed)] b=t:=h;simp only[aS] at h1
   split at h1 <;> omega
  ·rw[dB allT k b (by simp[allT];omega)] at h;omega
 refine ⟨⟨?_,?_,?_,?_,?_,?_,?_⟩,h0⟩
 ·intro s hs;simp only[allT,List.mem_singleton] at hs;subst hs;exact⟨Nat.zero_le _,zS,by simp[allT],zS,trivial⟩
 ·intro s hs e he;simp only[allT,List.mem_singleton] at hs;subst hs;simp only[List.mem_singleton] at he;subst he;exact⟨zS,zS⟩
 ·intro s hs;simp only[allT,List.mem_singleton] at hs;subst hs;trivial
 ·intro k hk;obtain rfl:k=0:=by simp[allT] at hk;exact hk
  exact⟨[],h0 []⟩
 ·intro i j hi hj _;simp[allT] at hi hj;omega
 ·intro k b t _ h t' h1 h2;have:=ht k b t h;omega
 ·intro t h1 h2;simp[allT] at h2;omega
theorem Mv (x:List UInt8):Sem allT x=true:=yK.sem x
theorem F7 (m:Mem) (w:World) :
 Calls Tryz.prog 61 #[] w fun e w'=>∃r,e=.returned (.agg #[r])∧Below w.heap.size w w'∧aR (m.grow w w') r allT:=by
 refine (F6 w).mono ?_;rintro e w' ⟨g1,g2,rfl,hb,h1,h2,h3,o1,o2⟩;have gc:∀{g t arr i v},w.heap.size≤g→bD w' g t arr→arr[i]?=some v→(m.grow w w').cell g i=some v:=by
  intro g t arr i v hg ho hv;unfold Mem.cell Mem.grow;rw[if_neg zo,ho.get];exact hv
 refine ⟨_,rfl,hb,some ⟨g2,0,none⟩,1,rfl,Nat.le_refl _,by simp[maxLen],fun _=>⟨g2,0,rfl,fun i hi=>?_⟩⟩;obtain rfl:i=0:=by simp[allT] at hi;exact hi
 refine ⟨gc h2 o2 rfl,_,gc h2 o2 rfl,some ⟨g1,0,none⟩,1,rfl,Nat.le_refl _,by simp[maxLen],fun _=>⟨g1,0,rfl,fun j hj=>?_⟩⟩;obtain rfl:j=0:=by simp[allT] at hj;exact hj
 exact⟨gc h1 o1 rfl,gc h1 o1 rfl,gc h1 o1 rfl,by simp[allT],by simp[allT],by simp[allT],by simp[allT]⟩
attribute [local go_sem] Oper.semAt_some
def bstr (x:List UInt8):ByteArray:=⟨x.toArray⟩
theorem Oc:eT Tryz.prog 143 9 1 16:=⟨Tryz.underlying143,zo,by
 obtain⟨i,h1,h2,h3,h4⟩:=info_parts (P:=Tryz.prog) (e:=9) (z:=.string ⟨#[]⟩) (size:=1) (bytes:=16) zk;exact⟨i,_,h1,h2,h3,h4,rfl⟩⟩
theorem oN {w:World} {t:TypeId} {v:Value} {l:List ByteArray} {m:Mem} (hown:w.ownsRow 0 t 1 v l.length (l.map Value.string)) (hk:∀x∈l,x.size≤maxLen):Eb (m.addv w v) v l:=
 gT hown fun g hg i h=>⟨eQ hown hg m (by simp[h]),hk _ (List.getElem_mem h)⟩
theorem KY (v:Value) (w:World):Calls Tryz.prog 184 #[.agg #[v]] w fun e w'=>e=.returned (.func (.func 216) #[] #[.pointer (some ⟨w.heap.size,0,none⟩)])∧w'=w.alloc (.cells #[v] 27):=by
 refine ay fun R hR=>?_
 go_enter Tryz.func184,Tryz.ntmps184
 go_wp2;exact hR.out _ _ ⟨rfl,rfl⟩
theorem yx:∀args w,(callFunc 216 args).run Tryz.prog w=.ok (.enter 216 args) w:=enters_of Tryz.func216 zk rfl
def mI (n:Int):Nat:=(min n 1000).toNat
theorem Iw {n:Int} (h:1≤n):1≤mI n∧((mI n:Nat):Int)=min n 1000∧mI n≤1000:=by unfold mI;omega
theorem G6 (f:List UInt8→Bool):gz f 0 []:=⟨.nil,fun x hx=>by simp at hx,zS,fun y _ _=>⟨rfl,fun x hx=>by simp at hx⟩⟩
theorem rz {T:Table} {K:Nat} {xs:List (List UInt8)} (h:(∃n,xs=enum T 0 n∧(∀y,aF T 0 y=true→y.length<n)∧xs.length<K)∨(∃n,xs <+: enum T 0 n∧xs.length=K)):gz (aF T 0) K xs:=by
 rcases h with ⟨n,rfl,h1,h2⟩ | ⟨n,h1,h2⟩
 ·have:=qJ (l:=T) (s:=0) (L:=n) (k:=K) (.inr h1)
  rwa [List.take_of_length_le zo] at this
 ·have h3:xs=(enum T 0 n).take K:=by
   rw[← h2];exact List.prefix_iff_eq_take.1 h1
  have:=qJ (l:=T) (s:=0) (L:=n) (k:=K) (.inl (by rw[← h2];exact h1.length_le))
  rwa [← h3] at this
theorem wX {T:Table} {K:Nat} {xs:List (List UInt8)} (h:gz (aF T 0) K xs) (hK:(K+1)*(T.length+1)≤1000000):∀z∈xs,z.length≤1000000:=by
 intro z hz;rw[AX h (G7 (l:=T) (s:=0) (k:=K) (L:=K*T.length) (Nat.le_refl _))] at hz;have h1:=((ji T 0 _ z).1 (List.mem_of_mem_take hz)).1;have:K*T.length≤(K+1)*(T.length+1):=Nat.mul_le_mul zo zo;omega
theorem nI {F:Fence} {d:Nat} {P:Program} {t e:TypeId} {size bytes:Nat} (S:eT P t e size bytes) {w:World} {ops:Array Oper} {rest:List Oper} {o:Oper} {a:Act} {Q:Exit→Act→World→Prop} (hgd:o.guard=none) (s x:Operand)
 (ho:o.op=.call { callee:=.builtin .append,args:=#[s,x],argTypes:=#[t,t] })
 (v:Value) (n:Nat) (xs:List Value) (hs:a.eval s=v) (hown:w.ownsRow 0 e size v n xs)
 (ad:Addr) (m c:Nat) (news:List Value) (hx:a.eval x=.slice (some ad) m c) (hl:news.length=m*size) (hnews:∀j u,news[j]?=some u→w.cell? (ad.add j)=some u) (h1:∀u∈news,u.oneCell'=true)
 (h63:n+m≤maxLen) (hbytes:(n+m)*bytes≤140737488355328)
 (h:∀va vc w',w'.ownsRow 0 e size (.slice va (n+m) vc) (n+m) (xs ++ news)→w.grownBy w' v.ownBlock→(∀k,(Value.slice va (n+m) vc).ownBlock=some k→v.ownBlock=some k∨w.heap.size≤k)→wpListIn F d P ops Q rest (a.put o.dst (.slice va (n+m) vc)) w'):wpListIn F d P ops Q (o::rest) a w:=by
 refine wpListIn_plain hgd fun K hK=>?_;obtain⟨v',w',hr,h2,h3,h4⟩:=jq S w o.type v n xs hown ad m c news hl hnews h1 h63 hbytes;obtain⟨va,vc,rfl⟩:=aQ h2;refine ⟨?_,?_⟩
 ·simp[Oper.about,ho,resolve,Target.leads,Sem.run_pure]
 ·rw[Oper.semAt_plain F _ _ (by rw[ho];intro c hc';cases hc')];simp[execOp,ho,resolve,invoke,builtin,hs,hx,hr,Result.andThen];exact hK _ _ (h va vc w' h2 h3 h4)
def strV (x:List UInt8):Value:=.string ⟨x.toArray⟩
theorem x9 (v0:Value) (A:Table) (n:Int) (m:Mem) (w:World) (hm:m.inn w) (htab:TabM m) (hA:aR m v0 A) (hn1 : -9223372036854775808≤n) (hn2:n≤9223372036854775807) (hlen:(mI n+1)*(A.length+1)≤1000000) :
 Calls Tryz.prog 140 #[.agg #[v0],.int .i64 n] w fun e w'=>∃r ws,e=.returned r∧Below w.heap.size w w'∧Eb (m.grow w w') r (ws.map bstr)∧gz (Sem A) (mI n) ws:=by
 have hlA:A.length≤1000000:=by
  have:A.length+1≤(mI n+1)*(A.length+1):=Nat.le_mul_of_pos_left _ zo;omega
 have hO:=(((Own.start hm).al #[v0] 27).al #[.int .i64 n] 3).al #[.slice none 0 0] 143;have hsz1:(w.alloc (.cells #[v0] 27)).heap.size=w.heap.size+1:=by simp
 have hsz2:((w.alloc (.cells #[v0] 27)).alloc (.cells #[.int .i64 n] 3)).heap.size=w.heap.size+1+1:=by simp
 rw[hsz2,hsz1] at hO;have HG:=zh (LU v0 A m _ hO.inn htab hA hlA);have HO:=zh hO;obtain⟨va,vc,rfl,-⟩:=hA;clear hO hsz1 hsz2;refine ay fun R hR=>?_;by_cases hn:n<1
 ·have hk0:mI n=0:=by unfold mI;omega
  have Hk0:=zh hk0;have hdec:decide (n<1)=true:=decide_eq_true hn;clear hk0
  go_enter Tryz.func140,Tryz.ntmps140
  go_wp2;refine hR.out _ _ ⟨_,[],rfl,HO.out.below,⟨none,0,rfl,Nat.le_refl _,by simp[maxLen],fun h=>absurd rfl h⟩,?_⟩;rw[Hk0.out];exact G6 _
 ·have hdec:decide (n<1)=false:=decide_eq_false hn;refine (callsIn_wide (n:=0)).1 ?_;refine callsIn_of_wp_marks Tryz.func140 rfl trivial ?_;simp only[Tryz.ntmps140,List.size_toArray,List.length_cons,List.length_nil,Nat.reduceAdd,Nat.reduceSub,Array.replicate_succ,Array.replicate_zero,List.push_toArray,List.append_toArray,List.nil_append,List.cons_append];refine wpIn_wide.2 ?_
  go_wp2_with fail
  refine HG.out.mono ?_;rintro e w1 ⟨r,rfl,hb1,hst⟩;have hO1:=HO.out.call hb1;obtain⟨ra,rc,rfl⟩:∃ra rc,r=.slice ra (kQ A).length rc:=by obtain⟨x,y,e,-⟩:=hst;exact⟨x,y,e⟩
  have HO1:=zh (zi hO1 hst);clear HO HG hb1 hst hO1
  go_wp2_with fail
  refine (KY (.slice ra (kQ A).length rc) w1).mono ?_;rintro e w2 ⟨rfl,rfl⟩;have hO2:=HO1.out.1.al #[.slice ra (kQ A).length rc] 27;have hst:=HO1.out.2;obtain⟨m1,hO3,l1,c1⟩:=hO2.FR;obtain⟨m2,hO4,l2,c2⟩:=hO3.swap.FR;have hO5:=hO4.swap.tail.dI 9 1;have hO6:=hO5;have hst2:=bu (Mem.le_trans l1 l2) hst;have c1':=Mem.aA l2 c1;have HS:=zh (zi hO5 (zi hst2 (zi c1' c2)));clear hO2 hst hO3 hO4 hO5 hO6 hst2 c1 c2 c1' l1 l2 HO1 m1;have hwp:=Iw (n:=n) zo;have hgl:=J6 A;have hgis:=LW A;have hmul:(mI n+1)*((kQ A).length+1)≤1000000:=Nat.le_trans (Nat.mul_le_mul_left _ zo) hlen;have HW:=zh (zi hwp (zi hgis hmul));have hw1:=hwp.1;have hw3:=hwp.2.2;clear hwp hgis hmul hgl;go_wp2;refine (wpIn_wide (n:=0)).1 ?_;refine yR (gf:=216) (lb:=#[.pointer (some ⟨w1.heap.size,0,none⟩)]) rfl yx (encs:=fun x:List UInt8=>#[Value.string ⟨x.toArray⟩]) (fun _=>rfl) HS.out.1
   (fun pre L=>(∃v,L=[.row v 9 1 pre.length (pre.map strV),.obj (w.heap.size+1+1) 143 #[v]])∧pre.length<mI n)
   (fun c pre L=>c=.exit 0∧(∃v,L=[.row v 9 1 pre.length (pre.map strV),.obj (w.heap.size+1+1) 143 #[v]])∧pre.length=mI n)
   (fun xs=>∃n,xs=enum (kQ A) 0 n∧∀y,aF (kQ A) 0 y=true→y.length<n) (fun xs=>∃n,xs <+: enum (kQ A) 0 n∧xs≠[]) ⟨⟨_,rfl⟩,by simp;omega⟩ ?seq
   (fun x=>{ tmps:=#[.agg #[.slice va A.length vc],.int .i64 n,.pointer (some ⟨w.heap.size,0,none⟩),.pointer (some ⟨w.heap.size+1,0,none⟩),.slice none 0 0,.pointer (some ⟨w.heap.size+1+1,0,none⟩),.string ⟨x.toArray⟩,.int .i64 n,.bool false,undef,.agg #[.slice va A.length vc],.agg #[.slice ra (kQ A).length rc],.func (.func 216) #[] #[.pointer (some ⟨w1.heap.size,0,none⟩)],.string ⟨x.toArray⟩,undef,undef,undef,undef,undef,undef,undef,undef,undef,undef],defers:=[] }) ?assign ?body ?done ?stop
  case seq=>
   intro l W1 L1 B Bx hB hBI hOw hY;exact Fj HW.out.2.1.canon (mI n) HW.out.2.2 hY HS.out.2.2.1 HS.out.2.1 (fun pre Lt h=>(hBI pre Lt h).elim fun L hL=>hL.2) hB hOw
  case assign=>
   intro l x W K hK
   gi_wp2
   exact hK
  case body=>
   rintro l pre x W mk1 Lt Lr ⟨⟨v,rfl⟩,hlt⟩ hOw hle;simp only[List.cons_append,List.nil_append] at hOw;obtain⟨xa,xc,rfl⟩:=aQ hOw.row;have o1:=hOw.swap.obj.cell (i:=0) rfl;have o2:=hOw.swap.obj.lt;have o3:=hOw.swap.obj.frozen 0;have n1:=Mem.aj hOw.inn (Mem.aA hle HS.out.2.2.2);have n2:=Mem.av hOw.inn (Mem.aA hle HS.out.2.2.2);have hO2:=hOw.al #[.string ⟨x.toArray⟩] 9;have hnews:=hO2.obj.news rfl;have Hlt:=zh hlt;clear hOw
   gi_wp2_with (gi_at_builtin;refine nI Oc rfl (.tmp 14) (.tmp 16) rfl (.slice xa pre.length xc) pre.length (pre.map strV) rfl hO2.swap.row ⟨W.heap.size,0,none⟩ 1 1 [.string ⟨x.toArray⟩] rfl rfl hnews (by simp[Value.oneCell']) (by unfold maxLen;omega) zo ?_)
   intro ya yc w5 hown5 hgrow5 hrow5;have hO3:=(hO2.swap.app hown5 hgrow5 hrow5 zS).drop2;have o1:=hO3.swap.obj.cell (i:=0) rfl;have o2:=hO3.swap.obj.lt;have o3:=hO3.swap.obj.frozen 0;have n1:=Mem.aj hO3.inn (Mem.aA hle HS.out.2.2.2);have n2:=Mem.av hO3.inn (Mem.aA hle HS.out.2.2.2);have hO4:=(hO3.swap.set 0 (.slice ya (pre.length+1) yc)).swap;have HO4:=zh hO4;clear hO4 hO3 hO2 hown5 hgrow5 hrow5 hnews;have Hend:=zh (show ∀xs,xs=pre ++ [x]→([Item.row (.slice ya (pre.length+1) yc) 9 1 (pre.length+1) (pre.map strV ++ [.string ⟨x.toArray⟩]),Item.obj (w.heap.size+1+1) 143 #[.slice ya (pre.length+1) yc]]:List Item)=[Item.row (.slice ya (pre.length+1) yc) 9 1 xs.length (xs.map strV),Item.obj (w.heap.size+1+1) 143 #[.slice ya (pre.length+1) yc]] from fun xs h=>by
    subst h;simp[strV])
   have hne:w.heap.size+1≠w.heap.size+1+1:=zo
   gi_wp2
   all_goals unfold Fb
   all_goals dsimp only
   all_goals first
    | (have ht:((pre.length:Int)+1==min n 1000)=true:=by assumption
       refine ⟨mk1,_,⟨rfl,⟨_,Hend.out _ rfl⟩,?_⟩,HO4.out,Mem.le_refl _⟩;have h1:=HW.out.1.2.1;have h2:=beq_iff_eq.1 ht;simp only[List.length_append,List.length_cons,List.length_nil]
       omega)
    | (have ht:((pre.length:Int)+1==min n 1000)=false:=by assumption
       refine ⟨mk1,_,⟨⟨_,Hend.out _ rfl⟩,?_⟩,HO4.out,Mem.le_refl _⟩;have h1:=HW.out.1.2.1;have h2:=beq_eq_false_iff_ne.1 ht;have h3:=Hlt.out;simp only[List.length_append,List.length_cons,List.length_nil];omega)
  case done=>
   rintro D xs W mk1 L ⟨nn,hxs,hfin⟩ ⟨⟨v,rfl⟩,hlt⟩ hOw hle;obtain⟨xa,xc,rfl⟩:=aQ hOw.swap.row;have o1:=hOw.third.obj.cell (i:=0) rfl;have o2:=hOw.third.obj.lt;have hfirst:=rz (.inl ⟨nn,hxs,hfin,hlt⟩);have hres:gz (Sem A) (mI n) xs:=hfirst.congr fun y=>HW.out.2.1.lang y;have hsz:∀z∈xs,(bstr z).size≤maxLen:=fun z hz=>by
    have:=wX hfirst HW.out.2.2 z hz;simp[bstr,ByteArray.size,maxLen];omega
   clear hxs hfin hlt hfirst;have hbl:=hOw.blob;have hO2:=hOw.swap;have hst:=oN (l:=xs.map bstr) (m:=mk1) (t:=9) (v:=.slice xa xs.length xc) (w:=W) (by
    rw[List.length_map,List.map_map];exact hO2.row) (fun y hy=>by
    obtain⟨z,hz,rfl⟩:=List.mem_map.1 hy;exact hsz z hz)
   rw[show (Mem.addv mk1 W (.slice xa xs.length xc))=Mem.addv mk1 W (.slice xa xs.length xc) from rfl] at hst;have hO3:=hO2.bg;have hO4:=hO3.iW (o':=.deferred none) (World.putObj_heap_same (Array.getElem?_eq_some_iff.1 hbl).1) (grownBy_putObj' _ _ _);have hfin2:=zJ hO4.done hst;have Hk:=zh (zi hO4.below (zi hfin2 hres));clear hO4 hO3 hO2 hOw hst hfin2
   gi_wp2
   go_wp2;refine ⟨zS,.inl ⟨_,_,rfl,run_takeDeferred hbl,?_⟩⟩;exact⟨.slice xa xs.length xc,by simp[results,Tryz.results140,go_sem],hR.out _ _ ⟨_,xs,rfl,Hk.out.1,Hk.out.2.1,Hk.out.2.2⟩⟩
  case stop=>
   rintro D c xs W mk1 L ⟨nn,hpre,hne⟩ ⟨rfl,⟨v,rfl⟩,hlt⟩ hOw hle;obtain⟨xa,xc,rfl⟩:=aQ hOw.swap.row;have o1:=hOw.third.obj.cell (i:=0) rfl;have o2:=hOw.third.obj.lt;have hfirst:=rz (.inr ⟨nn,hpre,hlt⟩);have hres:gz (Sem A) (mI n) xs:=hfirst.congr fun y=>HW.out.2.1.lang y;have hsz:∀z∈xs,(bstr z).size≤maxLen:=fun z hz=>by
    have:=wX hfirst HW.out.2.2 z hz;simp[bstr,ByteArray.size,maxLen];omega
   clear hpre hne hlt hfirst;have hbl:=hOw.blob;have hO2:=hOw.swap;have hst:=oN (l:=xs.map bstr) (m:=mk1) (t:=9) (v:=.slice xa xs.length xc) (w:=W) (by
    rw[List.length_map,List.map_map];exact hO2.row) (fun y hy=>by
    obtain⟨z,hz,rfl⟩:=List.mem_map.1 hy;exact hsz z hz)
   rw[show (Mem.addv mk1 W (.slice xa xs.length xc))=Mem.addv mk1 W (.slice xa xs.length xc) from rfl] at hst;have hO3:=hO2.bg;have hO4:=hO3.iW (o':=.deferred none) (World.putObj_heap_same (Array.getElem?_eq_some_iff.1 hbl).1) (grownBy_putObj' _ _ _);have hfin2:=zJ hO4.done hst;have Hk:=zh (zi hO4.below (zi hfin2 hres));clear hO4 hO3 hO2 hOw hst hfin2
   gi_wp2
   go_wp2;refine ⟨zS,.inl ⟨_,_,rfl,run_takeDeferred hbl,?_⟩⟩;exact⟨.slice xa xs.length xc,by simp[results,Tryz.results140,go_sem],hR.out _ _ ⟨_,xs,rfl,Hk.out.1,Hk.out.2.1,Hk.out.2.2⟩⟩
def KR (f:List UInt8→Bool):Option (List UInt8)→Prop
 | some x=>f x=true∧∀y,f y=true→y=x
 | none=>¬ ∃x,f x=true∧∀y,f y=true→y=x
theorem KR.congr {f g:List UInt8→Bool} {a:Option (List UInt8)} (h:KR f a) (e:∀w,f w=g w):KR g a:=by
 have:f=g:=funext e;rw[← this];exact h
def optV (o:Option (List UInt8)):Value:=.tuple #[.string (match o with | some x=>bstr x | none=>⟨#[]⟩),.bool o.isSome]
theorem yg (v0:Value) (A:Table) (m:Mem) (w:World) (hm:m.inn w) (htab:TabM m) (hA:aR m v0 A) (hlen:A.length≤400000) :
 Calls Tryz.prog 94 #[.agg #[v0]] w fun e w'=>∃o,e=.returned (optV o)∧Below w.heap.size w w'∧lT (Sem A) o:=by
 have hO:=(Own.start hm).al #[v0] 27;have HW:=zh (x9 v0 A 1 m _ hO.inn htab hA zo zo (by have:mI 1=1:=rfl;rw[this];omega));have HO:=zh hO;clear hO;refine ay fun R hR=>?_
 go_enter Tryz.func94,Tryz.ntmps94
 go_wp2_with fail
 refine HW.out.mono ?_;rintro e w1 ⟨r,ws,rfl,hb1,hst,hfirst⟩;have hO1:=HO.out.call hb1;have hl:=C8 hfirst
 cases ws with
 | nil=>
  obtain⟨ra,rc,rfl,r2,r3,r4⟩:=hst;have Hk:=zh (zi hO1.below hl);clear hO1 hl hfirst HW HO hb1 r4;go_wp2
  exact hR.out _ _ ⟨none,rfl,Hk.out.1,Hk.out.2⟩
 | cons x ws=>
  obtain⟨ra,rc,rfl,r2,r3,r4⟩:=hst;obtain⟨rb,ro,rfl,r5⟩:=r4 zS;have z:=(r5 0 zS).1;rw[Nat.add_zero] at z;have z1:=Mem.aj hO1.inn z;have z2:=Mem.av hO1.inn z;simp only[List.map_cons,List.getElem_cons_zero] at z1;have hw0:0<(List.map bstr (x::ws)).length:=by simp
  have hdec:(((List.map bstr (x::ws)).length:Int)==0)=false:=beq_eq_false_iff_ne.2 zo;have Hk:=zh (zi hO1.below hl);clear hO1 hl hfirst HW HO hb1 r4 r5 z;generalize (List.map bstr (x::ws)).length=N at *
  go_wp2;exact hR.out _ _ ⟨some x,rfl,Hk.out.1,Hk.out.2⟩
end Cl
