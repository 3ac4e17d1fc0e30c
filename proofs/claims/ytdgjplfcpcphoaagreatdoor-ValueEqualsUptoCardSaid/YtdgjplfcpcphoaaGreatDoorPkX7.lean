/- Lemmas for the proofs of chapter 11. -/
import Derived.Test.YtdgjplfcpcphoaaGreatDoorProg
import Derived.BigQuiet
import Derived.Deep.Cut
import Derived.Deep.QuietTactic
import Derived.Laws.StructEq
import Derived.Lib.AppendStr
import Derived.Lib.Builder
import Derived.Lib.Hide
import Derived.Lib.ItoaLen
import Derived.Maps.OwnOps
import Derived.Maps.OwnSet
import Derived.OrdersHeld
import Derived.Outline
import Derived.StillTailTactics
import Derived.StringKeys
import Derived.WalkKit
import Derived.WalkLawsBesides
import Derived.WalkSpells
import Derived.Deep.RegionHeld
import Derived.Shelf.SlSortCmp.WholeK
import Derived.Laws.EntriesVeiled
import Derived.Laws.CopyOwn
import Derived.RegionTactic
import Derived.RangeFuncNested
import Derived.RangeFuncBound
import Derived.RangeFuncCalls
import Derived.RangeFuncLeaves
import Derived.OwnWalkIn
import Derived.TacticsInMore
import Derived.LoopNIn
import Derived.LoopIn
import Derived.Test.YtdgjplfcpcphoaaGreatDoorZz
import Derived.Test.YtdgjplfcpcphoaaGreatDoorPkX3
import Derived.Test.YtdgjplfcpcphoaaGreatDoorPkX1
import Derived.Test.YtdgjplfcpcphoaaGreatDoorPkX2
import Derived.Test.YtdgjplfcpcphoaaGreatDoorPkX4
import Derived.Test.YtdgjplfcpcphoaaGreatDoorPkX5
set_option maxRecDepth 100000
set_option maxHeartbeats 16000000
namespace Cl
open Go Go.RowKit Go.Proofs
theorem G8 : (Tryz.prog.fieldsOf 139).toList = [⟨"Lo", 2, 0, false, "", "", 0⟩, ⟨"Hi", 2, 1, false, "", "", 8⟩] := by
 kernel_rfl
theorem IQ:Tryz.prog.stoodInHeld 139=false:=by kernel_rfl
theorem uD:Tryz.prog.eqGuardType Tryz.prog.depth 139=false:=by kernel_rfl
theorem Nc:Tryz.prog.underlying 139=some (.struct (Tryz.prog.fieldsOf 139)):=by kernel_rfl
theorem tq (a b a' b':Int) (w:World):(Op.equalIn 10000 139 (.agg #[.int .i64 a,.int .i64 b]) (.agg #[.int .i64 a',.int .i64 b'])).run Tryz.prog w=.ok (a==a'&&b==b') w:=by
 rw[run_equalIn_agg w 9999 139 _ _ Nc IQ,G8];have e2:=fun (d:Nat) (a b:Int) (w:World)=>run_equalIn_int (P:=Tryz.prog) w d 2 .i64 .i64 a b Tryz.underlying2;simp only[Op.eqFields];simp[part,isAgg,go_sem,e2];by_cases h1:a=a' <;> by_cases h2:b=b' <;> simp[h1,h2]
theorem KO (e f:Spn):e=f↔(e.1=f.1∧e.2=f.2):=Prod.ext_iff
theorem gW (v v':Value) (l l':List Spn) (m:Mem) (w:World) (hm:m.inn w) (hl:dx m v l) (hl':dx m v' l') :
 Calls Tryz.prog 175 #[v,v'] w fun e w'=>e=.returned (.bool (tf (l=l')))∧Below w.heap.size w w':=by
 obtain⟨a,c,rfl,h1,h2,h3⟩:=hl;obtain⟨a',c',rfl,h1',h2',h3'⟩:=hl';unfold maxLen at h2 h2';refine ay fun R hR=>?_;by_cases hlen:l.length=l'.length
 ·have hne:((l.length:Int) != (l'.length:Int))=false:=by simp[hlen]
  have Hlen:=zh hlen;clear hlen
  go_enter Tryz.func175,Tryz.ntmps175
  go_wp2;refine au [0,1,12,13] (fun n vs wr=>∃k:Nat,k≤l.length∧n=l.length - k∧vs=[.slice a l.length c,.slice a' l'.length c',.int .i64 l.length,.int .i64 k]∧(l=l'↔l.drop k=l'.drop k)∧Below w.heap.size w wr) ?_ ?_
  ·exact⟨_,0,Nat.zero_le _,rfl,rfl,Iff.rfl,Below.refl _ _⟩
  rintro X z n vs wr hX - ⟨k,hk,rfl,rfl,hrel,hbel⟩;have Hrel:=zh hrel;clear hrel;simp[litL,lk];have hmr:=Mem.bE hm hbel;by_cases hlt:k<l.length
  ·have hlt':k<l'.length:=by rw[← Hlen.out];exact hlt
   obtain⟨b,off,rfl,h4⟩:=h3 (by intro h;simp[h] at hlt);obtain⟨b',off',rfl,h4'⟩:=h3' (by intro h;simp[h] at hlt');obtain⟨g1,g2,-⟩:=h4 k hlt;obtain⟨g1',g2',-⟩:=h4' k hlt';have c1:=Mem.aj hmr g1;have c2:=Mem.aj hmr g2;have c1':=Mem.aj hmr g1';have c2':=Mem.aj hmr g2';have HD:=zh (dM l l' k hlt hlt');have hq:=fun w=>tq (l[k].1) (l[k].2) (l'[k].1) (l'[k].2) w;have hgd:=uD;have He:=zh (KO l[k] l'[k]);go_wp2
   go_quiet (fail)
   go_wp2
   ·refine hR.out _ _ ⟨aJ ?_,below_drewN hbel _⟩;rw[az];intro h;have h5:=He.out.1 (HD.out.1 (Hrel.out.1 h)).1;have h6:=‹(!l[k].1==l'[k].1)=true∨_›;simp[h5] at h6
   ·refine hX.out _ _ _ zo rfl ⟨k+1,zo,rfl,rfl,?_,below_drewN hbel _⟩;have h6:=‹(!l[k].1==l'[k].1)=false∧_›;simp at h6;exact Hrel.out.trans (HD.out.trans ⟨fun h=>h.2,fun h=>⟨He.out.2 zo,h⟩⟩)
  ·go_wp2;refine hR.out _ _ ⟨aJ ?_,hbel⟩;rw[aI (Hrel.out.2 ?_)];rw[List.drop_eq_nil_of_le zo,List.drop_eq_nil_of_le (by rw[← Hlen.out];omega)]
 ·have hne:((l.length:Int) != (l'.length:Int))=true:=by simp;omega
  go_enter Tryz.func175,Tryz.ntmps175
  go_wp2;exact hR.out _ _ ⟨aJ (by rw[az (fun h=>hlen (by rw[h]))]),Below.refl _ _⟩
theorem CQ (u:Int) (w:World) (h1 : -1000000000000002≤u) (h2:u≤1000000000000002) :
 Calls Tryz.prog 183 #[.int .i64 u] w fun e w'=>e=.returned (.int .i64 (p9 u))∧Below w.heap.size w w':=by
 refine ay fun R hR=>?_;have H:=zh (lZ (u+1))
 go_enter Tryz.func183,Tryz.ntmps183
 go_wp2
 all_goals refine hR.out _ _ ⟨fF ?_,Below.refl _ _⟩
 all_goals unfold p9
 all_goals first
  | rw[if_pos (H.out.1 (beq_iff_eq.1 (by assumption)))]
  | rw[if_neg (fun e=>(beq_eq_false_iff_ne.1 (by assumption)) (H.out.2 e))]
theorem CJ (u:Int) (w:World) (h1 : -1000000000000002≤u) (h2:u≤1000000000000002) :
 Calls Tryz.prog 182 #[.int .i64 u] w fun e w'=>e=.returned (.int .i64 (u+1))∧Below w.heap.size w w':=by
 refine ay fun R hR=>?_
 go_enter Tryz.func182,Tryz.ntmps182
 go_wp2
 all_goals exact hR.out _ _ ⟨fF zo,Below.refl _ _⟩
theorem Af (u v:Int) (w:World) (h1 : -1000000000000002≤u) (h2:u≤1000000000000002) (h3 : -1000000000000002≤v) (h4:v≤1000000000000002) :
 Calls Tryz.prog 138 #[.int .i64 u,.int .i64 v] w fun e w'=>e=.returned (.bool (decide (near u v)))∧Below w.heap.size w w':=by
 refine ay fun R hR=>?_
 go_enter Tryz.func138,Tryz.ntmps138
 go_wp2
 all_goals refine hR.out _ _ ⟨aJ ?_,Below.refl _ _⟩
 all_goals first
  | (symm;rw[decide_eq_true_iff];unfold near;omega)
  | (symm;rw[decide_eq_false_iff_not];unfold near;omega)
  | (symm;rw[decide_eq_decide];unfold near;omega)
theorem pg (s:Spn) (mid:Int) (w:World) :
 Calls Tryz.prog 139 #[.agg #[.int .i64 s.1,.int .i64 s.2],.int .i64 mid] w fun e w'=>e=.returned (.int .i64 (bM s mid))∧Below w.heap.size w w':=by
 obtain⟨a,b⟩:=s;refine ay fun R hR=>?_;have hb0:=bO (Below.refl w.heap.size w) (.cells #[.int .i64 a,.int .i64 b] 139);have hd:bM (a,b) mid=if a > 0 then a else if b<0 then b else mid:=rfl;rw[hd] at hR;clear hd
 go_enter Tryz.func139,Tryz.ntmps139
 go_wp2
 all_goals refine hR.out _ _ ⟨fF ?_,hb0⟩
 ·rw[if_pos zo]
 ·rw[if_neg zo,if_pos zo]
 ·rw[if_neg zo,if_neg zo]
theorem JP (s:Int) (w:World):Calls Tryz.prog 250 #[.int .i64 s] w fun e w'=>e=.returned (.bool false)∧w'=w:=by
 refine ay fun R hR=>?_
 go_enter Tryz.func250,Tryz.ntmps250
 go_wp2;exact hR.out _ _ ⟨zS,rfl⟩
theorem Hy (s t:Int) (w:World):Calls Tryz.prog 215 #[.int .i64 s,.int .i64 t] w fun e w'=>e=.returned (.int .i64 (Lib.compareInt s t))∧w'=w:=by
 refine ay fun R hR=>?_;have hc:Lib.compareInt s t=if s<t then -1 else if t<s then 1 else 0:=by
  unfold Lib.compareInt;rfl
 rw[hc] at hR;clear hc
 go_enter Tryz.func215,Tryz.ntmps215
 go_wp2_with ((go_at_call 250);refine (JP _ _).mono ?_;rintro e w' ⟨rfl,rfl⟩)
 ·exact hR.out _ _ ⟨fF (by rw[if_pos zo]),rfl⟩
 ·exact hR.out _ _ ⟨fF (by rw[if_neg zo,if_pos zo]),rfl⟩
 ·exact hR.out _ _ ⟨fF (by rw[if_neg zo,if_neg zo]),rfl⟩
theorem C9 (x y:Spn) (W:World):Calls Tryz.prog 214 #[.agg #[.int .i64 x.1,.int .i64 x.2],.agg #[.int .i64 y.1,.int .i64 y.2]] W fun e w'=>e=.returned (.int .i64 (Dx x y))∧∃q os',w'=Go.Sort.grow (W.drewN q) os':=by
 have hcon:=fun W'=>Hy x.1 y.1 W';unfold Dx;generalize Lib.compareInt x.1 y.1=r at hcon ⊢;refine ay fun R hR=>?_
 go_enter Tryz.func214,Tryz.ntmps214
 go_wp2_with ((go_at_call 215);refine (hcon _).mono ?_;rintro e w' ⟨rfl,rfl⟩)
 exact hR.out _ _ ⟨rfl,0,_,by rw[Go.Sort.alloc_eq_grow,Go.Sort.alloc_eq_grow,Go.Sort.grow_grow];rfl⟩
theorem vF:∀args w,(callFunc 214 args).run Tryz.prog w=.ok (.enter 214 args) w:=enters_of Tryz.func214 zk rfl
theorem FM {w0 w:World} {m mk:Mem} {L:List Item} {t:TypeId} {g c:Nat} {l:List Spn} (h:Own w0 m w mk (.row (.slice (some ⟨g,0,none⟩) l.length c) t 2 l.length (bC l)::L)) (hl:l.length<4611686018427387904) :
 Calls Tryz.prog 213 #[.slice (some ⟨g,0,none⟩) l.length c,.func (.func 214) #[] #[]] w fun e w'=>e=.returned (.tuple #[]) ∧
  ∃p:List Spn,p.Perm l∧(p.Pairwise fun s t=>s.1≤t.1)∧Own w0 m w' mk (.row (.slice (some ⟨g,0,none⟩) p.length c) t 2 p.length (bC p)::L):=by
 have hlt:g<w.heap.size:=(World.ownsRow.lt h.row _ rfl).2;have hcon:=AnyQ.slices_SortFunc Tryz.Oj 2 Tryz.isAgg139 Tryz.sizeOf139 rO (fun _=>rfl) (fun x v hv=>by simp[rO] at hv;rcases hv with rfl | rfl <;> rfl) Dx OY 214 #[] g 0 c l.toArray w
  vF (fun _ _ _ _ x y=>C9 x y _) (Jf h.row) hlt (by simpa using hl)
 refine Calls.mono (show Calls Tryz.prog 213 #[.slice (some ⟨g,0,none⟩) l.length c,.func (.func 214) #[] #[]] w _ from hcon) ?_;rintro e w' ⟨he,d',n,os,hp,hs,rfl⟩;obtain⟨h1,h2,h3⟩:=I7 hp hs;refine ⟨he,d'.toList,h2,h3,?_⟩;have:=La h d' h1 n os;simpa [h1] using this
theorem fC:eT Tryz.prog 22 139 2 16:=⟨Tryz.underlying22,zo,by
 obtain⟨i,h1,h2,h3,h4⟩:=info_parts (P:=Tryz.prog) (e:=139) (z:=.agg #[.int .i64 0,.int .i64 0]) (size:=2) (bytes:=16) zk;exact⟨i,_,h1,h2,h3,h4,rfl⟩⟩
theorem ym:(Tryz.prog.info? 139).map (fun i=>(i.zero,i.size,i.bytes))=some (some (.agg #[.int .i64 0,.int .i64 0]),2,16):=by kernel_rfl
theorem Gu (n:Nat):(madeCells (Value.agg #[.int .i64 0,.int .i64 0]).cells (n*2)).toList=bC (List.replicate n (0,0)):=by
 apply List.ext_getElem?;intro j;by_cases hj:j<n*2
 ·obtain⟨i,hij⟩:∃i,j=i*2∨j=i*2+1:=⟨j / 2,zo⟩;obtain⟨k1,k2⟩:=ic (List.replicate n ((0:Int),(0:Int))) i (by simp;omega);rcases hij with rfl | rfl
  ·rw[k1];simp[madeCells,Value.cells,hj]
  ·rw[k2];have:(i*2+1) % 2=1:=zo;simp[madeCells,Value.cells,hj,this]
 ·rw[List.getElem?_eq_none (by simp[madeCells];omega),List.getElem?_eq_none (by rw[bR];simp;omega)]
theorem qh {w:World} {ops:Array Oper} {rest:List Oper} {o:Oper} {a:Act} {Q:Exit→Act→World→Prop}
 (hg:o.guard=none) (l c:Operand) (hop:o.op=Op.makeSlice 22 l c) (n:Nat) (hl:a.eval l=.int .i64 n) (hc:a.eval c=.int .i64 n) (b3:n≤1000000)
 (hK:∀w',w'.ownsRow 0 139 2 (.slice (some ⟨w.heap.size,0,none⟩) n n) n (bC (List.replicate n (0,0)))→w.grownBy w' none→wpList Tryz.prog ops Q rest (a.put o.dst (.slice (some ⟨w.heap.size,0,none⟩) n n)) w') :
 wpList Tryz.prog ops Q (o::rest) a w:=by
 obtain⟨i,hi,hz,hs,hb⟩:=info_parts ym;refine wpList_make_full w hg l c 22 hop 0 139 i _ 2 Tryz.underlying22 hi hz hs .i64 .i64 n n n hl hc rfl rfl (by rw[hb];omega) (by unfold maxLen;omega) (Nat.zero_le _) ?_;intro w' h1 h2;rw[Gu] at h1;exact hK w' h1 h2
theorem xU (w:World) (ty:TypeId) (g n c sc:Nat) (a:Addr) (cur:Array Value) (t:TypeId) (cs:List Value)
 (hg:w.heap[g]?=some (.cells cur t (0,0))) (hn:cs.length=n*2) (hsrc:∀j v,cs[j]?=some v→w.cell? (a.add j)=some v) (hfit:cs.length≤cur.size) (h1:∀v∈cs,v.oneCell'=true) :
 (Builtin.copy_ #[22,22] ty #[.slice (some ⟨g,0,none⟩) n c,.slice (some a) n sc]).run Tryz.prog w=.ok (goInt n) (w.setRow g (cs ++ cur.toList.drop cs.length).toArray):=by
 have hl:=run_loadCells_list (P:=Tryz.prog) w a cs hsrc;have hst:=run_storeCells_at Tryz.prog g 0 t cs 0 cur w hg (by simpa using hfit) h1;obtain⟨i,hi,hz,hs,hb⟩:=info_parts ym;simp[Builtin.copy_,run_underlying Tryz.underlying22,Builtin.lenOf,Builtin.firstCells,Go.sizeOf,typeInfo,hi,hs,← hn,hl,hst]
theorem xS (w:World) (ty:TypeId) (g c sc:Nat) (a:Option Addr) :
 (Builtin.copy_ #[22,22] ty #[.slice (some ⟨g,0,none⟩) 0 c,.slice a 0 sc]).run Tryz.prog w=.ok (goInt 0) w:=by
 obtain⟨i,hi,hz,hs,hb⟩:=info_parts ym;cases a <;> simp[Builtin.copy_,run_underlying Tryz.underlying22,Builtin.lenOf,Builtin.firstCells,Go.sizeOf,typeInfo,hi,storeCells,loadCells,loadCellsFrom]
theorem Hr {w:World} (ty:TypeId) (g n sc:Nat) (src:Option Addr) (xs cs:List Value) (hown:w.ownsRow 0 139 2 (.slice (some ⟨g,0,none⟩) n n) n xs)
 (hcl:cs.length=n*2) (hsrc:0<n→∃ad,src=some ad∧∀j u,cs[j]?=some u→w.cell? (ad.add j)=some u) (h1:∀v∈cs,v.oneCell'=true) :
 ∃w',(Builtin.copy_ #[22,22] ty #[.slice (some ⟨g,0,none⟩) n n,.slice src n sc]).run Tryz.prog w=.ok (goInt n) w' ∧
  w'.ownsRow 0 139 2 (.slice (some ⟨g,0,none⟩) n n) n cs∧w.grownBy w' (some g):=by
 by_cases h0:n=0
 ·subst h0;obtain rfl:cs=[]:=List.eq_nil_of_length_eq_zero (by simpa using hcl);have hx:xs=[]:=List.eq_nil_of_length_eq_zero (by simpa using hown.1);subst hx;exact⟨w,xS w ty g 0 sc src,hown,⟨rfl,rfl,rfl,Nat.le_refl _,fun k _ _=>rfl⟩⟩
 ·obtain⟨ad,rfl,hsr⟩:=hsrc zo;clear hsrc;rcases hown.2 with ⟨hv,-⟩ | ⟨g',cap,cur,hv,hbg,hg,hnc,hcm,hcs,htake⟩
  ·cases hv
  ·cases hv;have hrun:=xU w ty g n n sc ad cur 139 cs hg hcl hsr (by rw[hcl,hcs];exact Nat.le_refl _) h1;have hdrop:cur.toList.drop cs.length=[]:=List.drop_eq_nil_of_le (by rw[hcl,← hcs];simp);rw[hdrop,List.append_nil] at hrun;refine ⟨_,hrun,⟨hcl,.inr ⟨g,n,cs.toArray,rfl,hbg,setRow_heap w g cur _ _ _ hg,hnc,hcm,by simpa using hcl,?_⟩⟩,⟨rfl,rfl,rfl,by simp[World.setRow],fun k hk hne=>setRow_other w g k _ (fun e=>hne (by rw[e]))⟩⟩;simp only;exact List.take_of_length_le zo
structure KU (gf:Nat) (nx:Int→Int):Prop where
 run:∀(u:Int) (w:World),-1000000000000002≤u→u≤1000000000000002→Calls Tryz.prog gf #[.int .i64 u] w fun e w'=>e=.returned (.int .i64 (nx u))∧Below w.heap.size w w'
 ent:Hid (∀(x:Int) (w:World),Sem.run Tryz.prog (callFunc gf #[.int .i64 x]) w=.ok (.enter gf #[.int .i64 x]) w)
theorem Gj:KU 182 (fun n=>n+1):=⟨fun u w=>CJ u w,zh fun x w=>by go_simp⟩
theorem Gl:KU 183 p9:=⟨fun u w=>CQ u w,zh fun x w=>by go_simp⟩
def spIn (s:Spn):Prop := -1000000000000002≤s.1∧s.1≤s.2∧s.2≤1000000000000002
theorem Cc {s:Spn} (h:spIn s):spOk s:=by unfold spIn at h;unfold spOk;omega
def GQ (nx:Int→Int) (a:Int):List Spn→Bool
 | []=>false
 | t::_=>decide (a≤nx t.2)
theorem Ef {w:World} {t:TypeId} {a:Option Addr} {n c:Nat} {xs:List Value} (h:w.ownsRow 0 t 2 (.slice a n c) n xs) (hn:0<n):∃g,a=some ⟨g,0,none⟩:=by
 rcases h.2 with ⟨h1,h2⟩ | ⟨g,cap,cur,h1,-⟩
 ·omega
 ·injection h1 with e;exact⟨g,e⟩
theorem ru (gf:Nat) (nx:Int→Int) (hN:KU gf nx) (v:Value) (l:List Spn) (m:Mem) (w:World) (hm:m.inn w) (hl:dx m v l) (hlen:l.length≤1000000) (hin:∀s∈l,spIn s) :
 Calls Tryz.prog 181 #[v,.func (.func gf) #[] #[]] w fun e w'=>∃r p,e=.returned r∧Below w.heap.size w w'∧p.Perm l∧(p.Pairwise fun s t=>s.1≤t.1)∧dx (m.grow w w') r (gX nx p []).reverse:=by
 obtain⟨a,c,rfl⟩:=bW hl;refine ay fun R hR=>?_;have hone:∀v∈bC l,v.oneCell'=true:=fun v hv=>by
  obtain⟨q,-,hq⟩:=List.mem_flatMap.1 hv;simp at hq;rcases hq with rfl | rfl <;> rfl
 have HIN:=zh (zi hin (zi hl hone));clear hin hone hl
 go_enter Tryz.func181,Tryz.ntmps181
 go_wp2_with (refine qh rfl (.tmp 11) (.tmp 11) rfl l.length rfl rfl zo ?_)
 intro w1 h1 hg1;have hO1:=(Own.start hm).make h1 hg1;have hnews:0<l.length→∃ad,a=some ad∧∀j u,(bC l)[j]?=some u→w1.cell? (ad.add j)=some u:=fun h=>by
  obtain⟨b,off,e,h2⟩:=Ga hO1.inn HIN.out.2.1 (by intro e;rw[e] at h;simp at h);exact⟨_,e,h2⟩
 generalize hG:w.heap.size=g at *
 obtain⟨w2,hrun,h2,hg2⟩:=Hr 3 g l.length c a _ (bC l) h1 (bR l) hnews HIN.out.2.2;have hO2:=hO1.app h2 hg2 (N:=w1.heap.size) (fun k hk=>.inl hk) (Nat.le_refl _);have HO2:=zh hO2;have HS:=zh (FM hO2 zo);clear hO2 hO1 h1 h2 hg1 hg2 hnews
 go_wp2_with fail
 refine HS.out.mono ?_;rintro e w3 ⟨rfl,p,hp,hs,hO3⟩;have hpl:=hp.length_eq;have HP:=zh (zi hp (zi hs hpl));rw[hpl] at hO3;have hpin:∀s∈p,spIn s:=fun s hs'=>HIN.out.1 s (hp.mem_iff.1 hs');have HPI:=zh hpin;clear hp hs HS HO2 hrun hpin;go_wp2;refine au [1,6,18,19,20] (fun n vs wr=>∃(k:Nat) (vo:Value) (out:List Spn),k≤l.length∧n=l.length - k∧vs=[.func (.func gf) #[] #[],vo,.slice (some ⟨g,0,none⟩) l.length l.length,.int .i64 l.length,.int .i64 k] ∧
  Own w m wr m [.row vo 139 2 out.length (bC out.reverse),.row (.slice (some ⟨g,0,none⟩) l.length l.length) 139 2 l.length (bC p)]∧gX nx (p.drop k) out=gX nx p []∧out.length≤k∧(∀s∈out,spIn s)) ?_ ?_
 ·exact⟨_,0,.slice none 0 0,[],Nat.zero_le _,rfl,rfl,hO3.dI _ _,rfl,Nat.le_refl _,fun s h=>by cases h⟩
 clear hO3;rintro X z n vs wr hX - ⟨k,vo,out,hk,rfl,rfl,hO,hj,hol,hoi⟩;simp[litL,lk];obtain⟨voa,voc,rfl⟩:=aQ hO.row;by_cases hlt:k<l.length
 ·have hkp:k<p.length:=by rw[hpl];exact hlt
  obtain⟨k1,k2⟩:=ic p k hkp;have r1:=aP hO.swap.row k1;have r2:=aP hO.swap.row k2;have rl:=(World.ownsRow.lt hO.swap.row _ rfl).2;have hq:=HPI.out p[k] (List.getElem_mem hkp);have HJ:=zh (zi (Da nx p k hkp) (zi (GR nx p k hkp) (zi hj hoi)));clear hj k1 k2 hoi;generalize p[k]=q at *
  obtain⟨qa,qb⟩:=q;simp only at r1 r2;have HO2:=zh (hO.al #[.int .i64 qa,.int .i64 qb] 139);clear hO;go_wp2;generalize hW2:wr.alloc (.cells #[.int .i64 qa,.int .i64 qb] 139)=w5 at *
  generalize wr.heap.size=S at *
  refine aN [1,6,8,9,18,19,20,40] (fun vs w'=>vs=[.func (.func gf) #[] #[],.slice voa out.length voc,.pointer (some ⟨S,0,none⟩),.int .i64 out.length,.slice (some ⟨g,0,none⟩) l.length l.length,.int .i64 l.length,.int .i64 k,.bool (GQ nx qa out)] ∧
   Own w m w' m [.obj S 139 #[.int .i64 qa,.int .i64 qb],.row (.slice voa out.length voc) 139 2 out.length (bC out.reverse),.row (.slice (some ⟨g,0,none⟩) l.length l.length) 139 2 l.length (bC p)]) ?_ ?_
  ·intro Y hY
   cases out with
   | nil=>
    refine aX 15 6 (fun j=>[Fact.is (·=.int .i64 0),Fact.is (·=.bool false),Fact.is (·=.bool false),Fact.is (·=Go.undef),Fact.is (·=Go.undef),Fact.is (·=Go.undef),Fact.is (·=Go.undef),Fact.is (·=Go.undef),Fact.is (·=Go.undef),Fact.is (·=Go.undef),Fact.is (·=Go.undef),Fact.is (·=Go.undef),Fact.is (·=Go.undef),Fact.is (·=Go.undef),Fact.is (·=.bool false)].getD j Fact.any) zk zk ?_ ?_
    ·intro i hi o win a wr ho RA;rcases (show i=0∨i=1∨i=2∨i=3∨i=4∨i=5∨i=6∨i=7∨i=8∨i=9∨i=10∨i=11∨i=12∨i=13∨i=14 by omega) with rfl | rfl | rfl | rfl | rfl | rfl | rfl | rfl | rfl | rfl | rfl | rfl | rfl | rfl | rfl
     ·have e9:=RA.k 9;cases ho;exact wv rfl rfl rfl
     ·have e26:a.tmps.getD 26 undef=_:=RA.d 0 rfl;cases ho;exact wv rfl rfl rfl
     ·have e27:a.tmps.getD 27 undef=_:=RA.d 1 rfl;cases ho;exact wv rfl rfl rfl
     ·have e8:=RA.k 8;have e28:a.tmps.getD 28 undef=_:=RA.d 2 rfl;cases ho;exact wn rfl rfl rfl e28 rfl rfl
     ·have e29:a.tmps.getD 29 undef=_:=RA.d 3 rfl;have e28:a.tmps.getD 28 undef=_:=RA.d 2 rfl;cases ho;exact wn rfl rfl rfl e28 rfl rfl
     ·have e1:=RA.k 1;have e28:a.tmps.getD 28 undef=_:=RA.d 2 rfl;cases ho;exact wn rfl rfl rfl e28 rfl rfl
     ·have e6:=RA.k 6;have e28:a.tmps.getD 28 undef=_:=RA.d 2 rfl;cases ho;exact wn rfl rfl rfl e28 rfl rfl
     ·have e9:=RA.k 9;have e28:a.tmps.getD 28 undef=_:=RA.d 2 rfl;cases ho;exact wn rfl rfl rfl e28 rfl rfl
     ·have e33:a.tmps.getD 33 undef=_:=RA.d 7 rfl;have e28:a.tmps.getD 28 undef=_:=RA.d 2 rfl;cases ho;exact wn rfl rfl rfl e28 rfl rfl
     ·have e32:a.tmps.getD 32 undef=_:=RA.d 6 rfl;have e34:a.tmps.getD 34 undef=_:=RA.d 8 rfl;have e28:a.tmps.getD 28 undef=_:=RA.d 2 rfl;cases ho;exact wn rfl rfl rfl e28 rfl rfl
     ·have e35:a.tmps.getD 35 undef=_:=RA.d 9 rfl;have e28:a.tmps.getD 28 undef=_:=RA.d 2 rfl;cases ho;exact wn rfl rfl rfl e28 rfl rfl
     ·have e36:a.tmps.getD 36 undef=_:=RA.d 10 rfl;have e28:a.tmps.getD 28 undef=_:=RA.d 2 rfl;cases ho;exact wn rfl rfl rfl e28 rfl rfl
     ·have e31:a.tmps.getD 31 undef=_:=RA.d 5 rfl;have e37:a.tmps.getD 37 undef=_:=RA.d 11 rfl;have e28:a.tmps.getD 28 undef=_:=RA.d 2 rfl;cases ho;exact wn rfl rfl rfl e28 rfl rfl
     ·have e30:a.tmps.getD 30 undef=_:=RA.d 4 rfl;have e38:a.tmps.getD 38 undef=_:=RA.d 12 rfl;have e28:a.tmps.getD 28 undef=_:=RA.d 2 rfl;cases ho;exact wn rfl rfl rfl e28 rfl rfl
     ·have e28:a.tmps.getD 28 undef=_:=RA.d 2 rfl;have e39:a.tmps.getD 39 undef=_:=RA.d 13 rfl;cases ho;exact wv rfl rfl rfl
    ·intro win a wr E;have e1:=E.keep 1 zk;have e6:=E.keep 6 zk;have e8:=E.keep 8 zk;have e9:=E.keep 9 zk;have e18:=E.keep 18 zk;have e19:=E.keep 19 zk;have e20:=E.keep 20 zk;have e40:a.tmps.getD 40 undef=.bool false:=E.fact 14 _ zo rfl;obtain⟨t1,d⟩:=a;obtain rfl:d=[]:=E.defers;refine di zk (hY.out _ _ E.size ⟨?_,HO2.out.dr.move E.below⟩) _;simp only[List.map_cons,List.map_nil,e1,e6,e8,e9,e18,e19,e20,e40]
     rfl
   | cons t r=>
    simp only[List.length_cons] at *
    have hrl:r.length+1≤1000000:=zo;have hq1:(bC (t::r).reverse)[r.length*2+1]?=some (.int .i64 t.2):=by
     rw[List.reverse_cons,aU,List.getElem?_append_right (by rw[bR];simp),bR];simp[Nat.add_comm]
    obtain⟨vob,rfl⟩:=Ef HO2.out.swap.row zS;have Hq:=zh (zi hq1 (HJ.out.2.2.2 t (List.mem_cons_self ..)));clear hq1;refine aX 15 6 (fun j=>[Fact.is (·=.int .i64 (r.length+1:Nat)),Fact.is (·=.bool true),Fact.is (·=.bool true),Fact.is (·=.pointer (some ⟨S,0,none⟩)),Fact.is (·=.int .i64 qa),Fact.is (·=.func (.func gf) #[] #[]),Fact.is (·=.slice (some ⟨vob,0,none⟩) (r.length+1) voc),Fact.is (·=.int .i64 (r.length+1:Nat)),Fact.is (·=.int .i64 (r.length:Nat)),Fact.is (·=.pointer (some ⟨vob,r.length*2,none⟩)),Fact.is (·=.pointer (some ⟨vob,r.length*2+1,none⟩)),Fact.is (·=.int .i64 t.2),Fact.is (·=.int .i64 (nx t.2)),Fact.is (·=.bool (decide (qa≤nx t.2))),Fact.is (·=.bool (decide (qa≤nx t.2)))].getD j Fact.any) zk zk ?_ ?_
    ·intro i hi o win a wr ho RA;have HO3:=HO2.out.dr.move RA.below;have q1:=HO3.obj.cell (i:=0) rfl;have q2:=aP HO3.swap.row Hq.out.1;have ql:=(World.ownsRow.lt HO3.swap.row _ rfl).2;have hw1:IntKind.i64.wrap (r.length:Int)=(r.length:Int):=IntWalk.i64_in _ zo;rcases (show i=0∨i=1∨i=2∨i=3∨i=4∨i=5∨i=6∨i=7∨i=8∨i=9∨i=10∨i=11∨i=12∨i=13∨i=14 by omega) with rfl | rfl | rfl | rfl | rfl | rfl | rfl | rfl | rfl | rfl | rfl | rfl | rfl | rfl | rfl
     ·have e9:=RA.k 9;cases ho;exact wv rfl rfl rfl
     ·have e26:a.tmps.getD 26 undef=_:=RA.d 0 rfl;cases ho;exact wv rfl rfl rfl
     ·have e27:a.tmps.getD 27 undef=_:=RA.d 1 rfl;cases ho;exact wv rfl rfl rfl
     ·have e8:=RA.k 8;have e28:a.tmps.getD 28 undef=_:=RA.d 2 rfl;cases ho;exact wy rfl rfl rfl e28 rfl
     ·have e29:a.tmps.getD 29 undef=_:=RA.d 3 rfl;have e28:a.tmps.getD 28 undef=_:=RA.d 2 rfl;cases ho;exact wy rfl rfl rfl e28 rfl
     ·have e1:=RA.k 1;have e28:a.tmps.getD 28 undef=_:=RA.d 2 rfl;cases ho;exact wy rfl rfl rfl e28 rfl
     ·have e6:=RA.k 6;have e28:a.tmps.getD 28 undef=_:=RA.d 2 rfl;cases ho;exact wy rfl rfl rfl e28 rfl
     ·have e9:=RA.k 9;have e28:a.tmps.getD 28 undef=_:=RA.d 2 rfl;cases ho;exact wy rfl rfl rfl e28 rfl
     ·have e33:a.tmps.getD 33 undef=_:=RA.d 7 rfl;have e28:a.tmps.getD 28 undef=_:=RA.d 2 rfl;cases ho;exact wy rfl rfl rfl e28 rfl
     ·have e32:a.tmps.getD 32 undef=_:=RA.d 6 rfl;have e34:a.tmps.getD 34 undef=_:=RA.d 8 rfl;have e28:a.tmps.getD 28 undef=_:=RA.d 2 rfl;cases ho;refine dn rfl (bQ rfl rfl e28) (aK (by go_simp;intro hh;omega) ⟨_,rfl,Below.refl _ _,rfl⟩)
     ·have e35:a.tmps.getD 35 undef=_:=RA.d 9 rfl;have e28:a.tmps.getD 28 undef=_:=RA.d 2 rfl;cases ho;exact wy rfl rfl rfl e28 rfl
     ·have e36:a.tmps.getD 36 undef=_:=RA.d 10 rfl;have e28:a.tmps.getD 28 undef=_:=RA.d 2 rfl;cases ho;exact wy rfl rfl rfl e28 rfl
     ·have e31:a.tmps.getD 31 undef=_:=RA.d 5 rfl;have e37:a.tmps.getD 37 undef=_:=RA.d 11 rfl;have e28:a.tmps.getD 28 undef=_:=RA.d 2 rfl;cases ho;have hr:=Hq.out.2;refine dn rfl (bQ rfl rfl e28) (fQ (by have hc:=fun w'=>hN.ent.out t.2 w';go_simp;first | done | rfl) (hN.run t.2 wr (by unfold spIn at hr;omega) (by unfold spIn at hr;omega)) ?_);rintro e w' ⟨rfl,hb⟩;exact⟨_,rfl,_,rfl,hb,rfl⟩
     ·have e30:a.tmps.getD 30 undef=_:=RA.d 4 rfl;have e38:a.tmps.getD 38 undef=_:=RA.d 12 rfl;have e28:a.tmps.getD 28 undef=_:=RA.d 2 rfl;cases ho;exact wy rfl rfl rfl e28 rfl
     ·have e28:a.tmps.getD 28 undef=_:=RA.d 2 rfl;have e39:a.tmps.getD 39 undef=_:=RA.d 13 rfl;cases ho;exact wv rfl rfl rfl
    ·intro win a wr E;have e1:=E.keep 1 zk;have e6:=E.keep 6 zk;have e8:=E.keep 8 zk;have e9:=E.keep 9 zk;have e18:=E.keep 18 zk;have e19:=E.keep 19 zk;have e20:=E.keep 20 zk;have e40:a.tmps.getD 40 undef=.bool (decide (qa≤nx t.2)):=E.fact 14 _ zo rfl;obtain⟨t1,d⟩:=a;obtain rfl:d=[]:=E.defers;refine di zk (hY.out _ _ E.size ⟨?_,HO2.out.dr.move E.below⟩) _;simp only[List.map_cons,List.map_nil,e1,e6,e8,e9,e18,e19,e20,e40]
     rfl
  rintro z4 vs w6 - ⟨rfl,hO⟩;simp[litL,lk];have hjf:GQ nx qa out=false→gX nx (p.drop k) out=gX nx (p.drop (k+1)) ((qa,qb)::out):=by
   intro h
   cases out with
   | nil=>exact HJ.out.1
   | cons t r=>
    rw[HJ.out.2.1,if_neg (by simpa [GQ] using h)]
  cases hb:GQ nx qa out with
  | false=>
   have Hjf:=zh (hjf hb);clear hjf hb;have hO2:=(hO.al #[.int .i64 qa,.int .i64 qb] 139).third;have hnews:=hO2.swap.obj.news rfl;have s1:=hO.obj.cell (i:=0) rfl;have s2:=hO.obj.cell (i:=1) rfl;have s3:=hO.obj.lt;clear HO2
   go_wp2_with (at_builtin;refine aC fC rfl (.tmp 55) (.tmp 57) rfl (.slice voa out.length voc) out.length _ rfl hO2.row ⟨w6.heap.size,0,none⟩ 1 1 [.int .i64 qa,.int .i64 qb] rfl rfl hnews (by simp[Value.oneCell']) (by unfold maxLen;omega) zo ?_)
   intro va vc w7 hown7 hgrow7 hrow7;have hO3:=(hO2.app hown7 hgrow7 hrow7 zS).drop2.drop2;have HO3:=zh hO3;clear hO3 hO2 hO hown7 hgrow7 hrow7 hnews s1 s2 s3;go_wp2;refine hX.out _ _ _ zo rfl ⟨k+1,_,(qa,qb)::out,zo,rfl,rfl,?_,?_,by simp;omega,?_⟩
   ·have:=HO3.out;rw[List.reverse_cons,aU];exact this
   ·rw[← Hjf.out];exact HJ.out.2.2.1
   ·intro s hs;rcases List.mem_cons.1 hs with rfl | hs
    ·exact hq
    ·exact HJ.out.2.2.2 s hs
  | true=>
   cases out with
   | nil=>simp[GQ] at hb
   | cons t r=>
   have hd:qa≤nx t.2:=by simpa [GQ] using hb
   have Hst:=zh (show gX nx (p.drop k) (t::r)=gX nx (p.drop (k+1)) ((t.1,max t.2 qb)::r) from by rw[HJ.out.2.1,if_pos hd]);clear hd hb hjf HO2;simp only[List.length_cons] at *
   have hrl:r.length+1≤1000000:=zo;have hq1:(bC (t::r).reverse)[r.length*2+1]?=some (.int .i64 t.2):=by
    rw[List.reverse_cons,aU,List.getElem?_append_right (by rw[bR];simp),bR];simp[Nat.add_comm]
   have hset:∀y:Int,(bC (t::r).reverse).set (r.length*2+1) (.int .i64 y)=bC ((t.1,y)::r).reverse:=fun y=>by
    rw[List.reverse_cons,aU,List.set_append_right _ _ (by rw[bR];simp),bR,List.reverse_cons,aU];simp[Nat.add_comm]
   obtain⟨vob,rfl⟩:=Ef hO.swap.row zS;have Hq:=zh (zi hq1 (zi hset (HJ.out.2.2.2 t (List.mem_cons_self ..))));have HO:=zh hO;clear hq1 hset hO
   go_upto_region 10 with (fail)
   refine aN [1,6,18,19,20] (fun vs w'=>vs=[.func (.func gf) #[] #[],.slice (some ⟨vob,0,none⟩) (r.length+1) voc,.slice (some ⟨g,0,none⟩) l.length l.length,.int .i64 l.length,.int .i64 k] ∧
    Own w m w' m [.row (.slice (some ⟨vob,0,none⟩) (r.length+1) voc) 139 2 (r.length+1) (bC ((t.1,max t.2 qb)::r).reverse),.row (.slice (some ⟨g,0,none⟩) l.length l.length) 139 2 l.length (bC p)]) ?_ ?_
   ·intro Y hY;refine aX 14 6 (fun j=>[Fact.is (·=.slice (some ⟨vob,0,none⟩) (r.length+1) voc),Fact.is (·=.int .i64 (r.length+1:Nat)),Fact.is (·=.int .i64 (r.length:Nat)),Fact.is (·=.slice (some ⟨vob,0,none⟩) (r.length+1) voc),Fact.is (·=.int .i64 (r.length+1:Nat)),Fact.is (·=.int .i64 (r.length:Nat)),Fact.is (·=.pointer (some ⟨vob,r.length*2,none⟩)),Fact.is (·=.pointer (some ⟨vob,r.length*2+1,none⟩)),Fact.is (·=.int .i64 t.2),Fact.is (·=.pointer (some ⟨S,1,none⟩)),Fact.is (·=.int .i64 qb),Fact.is (·=.int .i64 (max t.2 qb)),Fact.is (·=.pointer (some ⟨vob,r.length*2,none⟩)),Fact.is (·=.pointer (some ⟨vob,r.length*2+1,none⟩))].getD j Fact.any) zk zk ?_ ?_
    ·intro i hi o win a wr ho RA;have HO3:=HO.out.dr.move RA.below;have q1:=HO3.obj.cell (i:=1) rfl;have q2:=aP HO3.swap.row Hq.out.1;have ql:=(World.ownsRow.lt HO3.swap.row _ rfl).2;have hw1:IntKind.i64.wrap (r.length:Int)=(r.length:Int):=IntWalk.i64_in _ zo;rcases (show i=0∨i=1∨i=2∨i=3∨i=4∨i=5∨i=6∨i=7∨i=8∨i=9∨i=10∨i=11∨i=12∨i=13 by omega) with rfl | rfl | rfl | rfl | rfl | rfl | rfl | rfl | rfl | rfl | rfl | rfl | rfl | rfl
     ·have e6:=RA.k 6;cases ho;exact wv rfl rfl rfl
     ·have e9:=RA.k 9;cases ho;exact wv rfl rfl rfl
     ·have e42:a.tmps.getD 42 undef=_:=RA.d 1 rfl;cases ho;exact wv rfl rfl rfl
     ·have e6:=RA.k 6;cases ho;exact wv rfl rfl rfl
     ·have e9:=RA.k 9;cases ho;exact wv rfl rfl rfl
     ·have e45:a.tmps.getD 45 undef=_:=RA.d 4 rfl;cases ho;exact wv rfl rfl rfl
     ·have e44:a.tmps.getD 44 undef=_:=RA.d 3 rfl;have e46:a.tmps.getD 46 undef=_:=RA.d 5 rfl;cases ho;refine aO rfl rfl (aK (by go_simp;intro hh;omega) ⟨_,rfl,Below.refl _ _,rfl⟩)
     ·have e47:a.tmps.getD 47 undef=_:=RA.d 6 rfl;cases ho;exact wv rfl rfl rfl
     ·have e48:a.tmps.getD 48 undef=_:=RA.d 7 rfl;cases ho;exact wv rfl rfl rfl
     ·have e8:=RA.k 8;cases ho;exact wv rfl rfl rfl
     ·have e50:a.tmps.getD 50 undef=_:=RA.d 9 rfl;cases ho;exact wv rfl rfl rfl
     ·have e49:a.tmps.getD 49 undef=_:=RA.d 8 rfl;have e51:a.tmps.getD 51 undef=_:=RA.d 10 rfl;cases ho;exact wv rfl rfl rfl
     ·have e41:a.tmps.getD 41 undef=_:=RA.d 0 rfl;have e43:a.tmps.getD 43 undef=_:=RA.d 2 rfl;cases ho;refine aO rfl rfl (aK (by go_simp;intro hh;omega) ⟨_,rfl,Below.refl _ _,rfl⟩)
     ·have e53:a.tmps.getD 53 undef=_:=RA.d 12 rfl;cases ho;exact wv rfl rfl rfl
    ·intro win a wr E;have e1:=E.keep 1 zk;have e6:=E.keep 6 zk;have e18:=E.keep 18 zk;have e19:=E.keep 19 zk;have e20:=E.keep 20 zk;have e52:a.tmps.getD 52 undef=.int .i64 (max t.2 qb):=E.fact 11 _ zo rfl;have e54:a.tmps.getD 54 undef=.pointer (some ⟨vob,r.length*2+1,none⟩):=E.fact 13 _ zo rfl;have hO1:=HO.out.dr.move E.below;have hfz:=bU hO1.swap.row (r.length*2+1);have hcl:=aP hO1.swap.row Hq.out.1;have hO2:=hO1.swap.setRow (r.length*2+1) (.int .i64 (max t.2 qb));rw[Hq.out.2.1] at hO2;have HZ:=zh hO2.drop2;have HE:=zh E;clear E hO1 hO2;refine jB 14 zk (aO rfl rfl (iM zg ?_));obtain⟨t1,d⟩:=a;obtain rfl:d=[]:=HE.out.defers;refine di zk (hY.out _ _ HE.out.size ⟨?_,HZ.out⟩) _;simp only[List.map_cons,List.map_nil,e1,e6,e18,e19,e20]
     rfl
   rintro z5 vs w7 - ⟨rfl,hO⟩;simp[litL,lk];have HO3:=zh hO;clear hO;go_wp2;refine hX.out _ _ _ zo rfl ⟨k+1,_,(t.1,max t.2 qb)::r,zo,rfl,rfl,HO3.out,?_,by simp;omega,?_⟩
   ·rw[← Hst.out];exact HJ.out.2.2.1
   ·have ht:=Hq.out.2.2;intro s hs;rcases List.mem_cons.1 hs with rfl | hs
    ·unfold spIn at *;simp only;omega
    ·exact HJ.out.2.2.2 s (List.mem_cons_of_mem _ hs)
 ·obtain rfl:k=l.length:=zo;rw[List.drop_eq_nil_of_le zo] at hj;have hj2:out=gX nx p []:=hj;clear hj;subst hj2;have hst:=dQ (m:=m) (l:=(gX nx p []).reverse) (by simpa using hO.row) (fun s hs=>Cc (hoi s (List.mem_reverse.1 hs)));have hfin:=bX hO.bg.done hst;have Hfin:=zh (zi hO.below hfin);clear hO hst hfin;go_wp2;refine hR.out _ _ ⟨_,p,rfl,by rw[← hG];exact Hfin.out.1,HP.out.1,HP.out.2.1,?_⟩;exact Hfin.out.2
theorem jh (w:World) (a:Addr) (v:Value):(w.setCell a v).heap.size=w.heap.size:=by simp[World.setCell]
theorem EF {l:List Spn}:∀s∈jL l,spIn s:=fun s h=>by
 have:=GM s h;unfold spIn;simp only[iF] at this;omega
theorem EH {l:List Spn}:∀s∈iq l,spIn s:=fun s h=>by
 have:=wU s h;unfold spIn;simp only[maxU] at this;omega
theorem IK {l:List Spn} {k:Nat} (h:k≤l.length):(jL (l.take k)).length≤k:=by
 have:=uy (l.take k);rw[List.length_take] at this;omega
theorem zC {l:List Spn} {k:Nat} (h:k≤l.length):(iq (l.take k)).length≤k:=by
 have:=uz (l.take k);rw[List.length_take] at this;omega
theorem wN (vi vf:Value) (I F:List Spn) (m:Mem) (w:World) (hm:m.inn w) (hN:eF m vi vf I F) (hI:I.length≤100000) (hF:F.length≤100000) :
 Calls Tryz.prog 136 #[.agg #[vi,vf]] w fun e w'=>∃ri rf,e=.returned (.agg #[ri,rf])∧Below w.heap.size w w'∧eF (m.grow w w') ri rf (mkN I F).i (mkN I F).rf:=by
 have hO:=((Own.start hm).al #[vi,vf] 24).al #[.slice none 0 0,.slice none 0 0] 24;have hsz1:(w.alloc (.cells #[vi,vf] 24)).heap.size=w.heap.size+1:=by simp
 rw[hsz1] at hO;obtain⟨hi,hf⟩:=hN;have HI:=zh (zi hi hf);obtain⟨ai,ci,rfl,i1,i2,i3⟩:=hi;obtain⟨af,cf,rfl,f1,f2,f3⟩:=hf;unfold maxLen at i2 f2;have HO:=zh (hO.dI 139 2);clear hO hsz1;refine ay fun R hR=>?_
 go_enter Tryz.func136,Tryz.ntmps136
 go_wp2;refine au [1,2,3,4,10,11,12] (fun n vs wr=>∃(k:Nat) (vo:Value),k≤I.length∧n=I.length - k∧vs=[.pointer (some ⟨w.heap.size,0,none⟩),.pointer (some ⟨w.heap.size+1,0,none⟩),vo,.slice none 0 0,.slice ai I.length ci,.int .i64 I.length,.int .i64 k] ∧
  Own w m wr m [.row vo 139 2 (jL (I.take k)).length (bC (jL (I.take k))),.obj (w.heap.size+1) 24 #[.slice none 0 0,.slice none 0 0],.obj w.heap.size 24 #[.slice ai I.length ci,.slice af F.length cf]]) ?_ ?_
 ·exact⟨_,0,.slice none 0 0,Nat.zero_le _,rfl,rfl,HO.out⟩
 clear HO;rintro X z n vs wr hX - ⟨k,vo,hk,rfl,rfl,hO⟩;simp[litL,lk];obtain⟨voa,voc,rfl⟩:=aQ hO.row;by_cases hlt:k<I.length
 ·obtain⟨b,off,rfl,h4⟩:=i3 (by intro h;simp[h] at hlt);have hg:=h4 k hlt;have r1:=Mem.aj hO.inn hg.1;have r2:=Mem.aj hO.inn hg.2.1;have rl:=Mem.av hO.inn hg.1;have hstep:=GL I k hlt;have hkl:=IK hk;have Hstep:=zh (zi hstep hg);clear hstep h4 hg;generalize jL (I.take k)=S0 at *
  generalize I[k]=q at *
  obtain⟨qa,qb⟩:=q;simp only at r1 r2;have HO2:=zh (hO.al #[.int .i64 qa,.int .i64 qb] 139);clear hO
  go_upto_region 5 with (fail)
  generalize hW2:wr.alloc (.cells #[.int .i64 qa,.int .i64 qb] 139)=w5 at *
  generalize wr.heap.size=S at *
  refine aN [1,2,3,4,6,10,11,12] (fun vs w'=>∃x y:Int,x=max qa (-iF)∧y=min qb iF∧vs=[.pointer (some ⟨w.heap.size,0,none⟩),.pointer (some ⟨w.heap.size+1,0,none⟩),.slice voa S0.length voc,.slice none 0 0,.pointer (some ⟨S,0,none⟩),.slice (some ⟨b,off,none⟩) I.length ci,.int .i64 I.length,.int .i64 k] ∧
   Own w m w' m [.obj S 139 #[.int .i64 x,.int .i64 y],.row (.slice voa S0.length voc) 139 2 S0.length (bC S0),.obj (w.heap.size+1) 24 #[.slice none 0 0,.slice none 0 0],.obj w.heap.size 24 #[.slice (some ⟨b,off,none⟩) I.length ci,.slice af F.length cf]]) ?_ ?_
  ·intro Y hY;have q1:=HO2.out.obj.cell (i:=0) rfl;have q2:=HO2.out.obj.cell (i:=1) rfl;have q3:=HO2.out.obj.frozen 0;have q4:=HO2.out.obj.frozen 1;have q5:=HO2.out.obj.lt;go_wp2
   all_goals refine hY.out _ _ rfl ⟨_,_,?_,?_,rfl,(HO2.out.set 0 _).set 1 _⟩
   all_goals first
    | omega
    | (unfold iF;omega)
  rintro z4 vs w6 - ⟨x,y,hx,hy,rfl,hO⟩;simp[litL,lk];have hcl:jA (qa,qb)=(x,y):=by unfold jA;rw[hx,hy]
  have Hcl:=zh hcl;clear hcl hx hy HO2 hW2;have s1:=hO.obj.cell (i:=0) rfl;have s2:=hO.obj.cell (i:=1) rfl;have s3:=hO.obj.lt;by_cases hxy:x≤y
  ·have hdec:decide (x≤y)=true:=decide_eq_true hxy;have hO2:=(hO.al #[.int .i64 x,.int .i64 y] 139).third;have hnews:=hO2.swap.obj.news rfl;have Hxy:=zh hxy;clear hxy hO
   go_wp2_with (at_builtin;refine aC fC rfl (.tmp 28) (.tmp 30) rfl (.slice voa S0.length voc) S0.length _ rfl hO2.row ⟨w6.heap.size,0,none⟩ 1 1 [.int .i64 x,.int .i64 y] rfl rfl hnews (by simp[Value.oneCell']) (by unfold maxLen;omega) zo ?_)
   intro va vc w7 hown7 hgrow7 hrow7;have hO3:=(hO2.app hown7 hgrow7 hrow7 zS).drop2.drop2;have HO3:=zh hO3;clear hO3 hO2 hown7 hgrow7 hrow7 hnews s1 s2 s3;go_wp2;refine hX.out _ _ _ zo rfl ⟨k+1,_,zo,rfl,rfl,?_⟩;rw[Hstep.out.1,Hcl.out,if_pos (show x≤y from Hxy.out),aU,List.length_append];exact HO3.out
  ·have hdec:decide (x≤y)=false:=decide_eq_false hxy;have HO3:=zh hO.tail;have Hxy:=zh hxy;clear hxy hO;go_wp2;refine hX.out _ _ _ zo rfl ⟨k+1,_,zo,rfl,rfl,?_⟩;rw[Hstep.out.1,Hcl.out,if_neg (fun h:x≤y=>absurd h (by have:=Hxy.out;omega)),List.append_nil];exact HO3.out
 ·obtain rfl:k=I.length:=zo;simp only[List.take_length] at hO ⊢;have hst:=dQ (m:=m) (l:=jL I) hO.row (fun s hs=>Cc (EF s hs));have hle0:=Mem.dh (w:=wr) hO.free;have hO1:=hO.bg;generalize mkE:m.addv wr (.slice voa (jL I).length voc)=mk1 at *
  have HM:=zh (zi hst hle0);clear hst hle0 mkE;have q1:=hO1.swap.obj.cell (i:=1) rfl;have q2:=hO1.swap.obj.lt;have HO:=zh (hO1.dI 139 2);clear hO hO1;go_wp2;refine au [2,3,4,34,35,36] (fun n vs w'=>∃(k:Nat) (vo:Value),k≤F.length∧n=F.length - k∧vs=[.pointer (some ⟨w.heap.size+1,0,none⟩),.slice voa (jL I).length voc,vo,.slice af F.length cf,.int .i64 F.length,.int .i64 k] ∧
   Own w m w' mk1 [.row vo 139 2 (iq (F.take k)).length (bC (iq (F.take k))),.obj (w.heap.size+1) 24 #[.slice none 0 0,.slice none 0 0]]) ?_ ?_
  ·exact⟨_,0,.slice none 0 0,Nat.zero_le _,rfl,rfl,HO.out.jO⟩
  clear HO hX q1 q2;rintro X z n vs w8 hX - ⟨k,vo,hk,rfl,rfl,hO⟩;simp[litL,lk];obtain⟨vpa,vpc,rfl⟩:=aQ hO.row;by_cases hlt:k<F.length
  ·obtain⟨b,off,rfl,h4⟩:=f3 (by intro h;simp[h] at hlt);have hg:=h4 k hlt;have hin:=Mem.cz HM.out.2 hO.inn;have r1:=Mem.aj hin hg.1;have r2:=Mem.aj hin hg.2.1;have rl:=Mem.av hin hg.1;have hstep:=wT F k hlt;have hkl:=zC hk;have Hstep:=zh (zi hstep hg);clear hstep h4 hg hin;generalize iq (F.take k)=S0 at *
   generalize F[k]=q at *
   obtain⟨qa,qb⟩:=q;simp only at r1 r2;have HO2:=zh (hO.al #[.int .i64 qa,.int .i64 qb] 139);clear hO
   go_upto_region 12 with (fail)
   generalize hW2:w8.alloc (.cells #[.int .i64 qa,.int .i64 qb] 139)=w5 at *
   generalize w8.heap.size=S at *
   refine aN [2,3,4,8,34,35,36] (fun vs w'=>∃x y:Int,x=max qa (-maxU)∧y=min qb maxU∧vs=[.pointer (some ⟨w.heap.size+1,0,none⟩),.slice voa (jL I).length voc,.slice vpa S0.length vpc,.pointer (some ⟨S,0,none⟩),.slice (some ⟨b,off,none⟩) F.length cf,.int .i64 F.length,.int .i64 k] ∧
    Own w m w' mk1 [.obj S 139 #[.int .i64 x,.int .i64 y],.row (.slice vpa S0.length vpc) 139 2 S0.length (bC S0),.obj (w.heap.size+1) 24 #[.slice none 0 0,.slice none 0 0]]) ?_ ?_
   ·intro Y hY;have q1:=HO2.out.obj.cell (i:=0) rfl;have q2:=HO2.out.obj.cell (i:=1) rfl;have q3:=HO2.out.obj.frozen 0;have q4:=HO2.out.obj.frozen 1;have q5:=HO2.out.obj.lt;go_wp2
    all_goals refine hY.out _ _ rfl ⟨_,_,?_,?_,rfl,(HO2.out.set 0 _).set 1 _⟩
    all_goals first
     | omega
     | (unfold maxU;omega)
   rintro z4 vs w6 - ⟨x,y,hx,hy,rfl,hO⟩;simp[litL,lk];have hb:(-1000000000000000≤x∧x≤9223372036854775807)∧(y≤1000000000000000 ∧ -9223372036854775808≤y):=by
    have:=Hstep.out.2.2.2;simp only[maxU] at hx hy;omega
   have hcl:fO (qa,qb)=(if x % 10000=0 then x+1 else x,if y % 10000=0 then y - 1 else y):=by unfold fO trimF;rw[hx,hy]
   have Hcl:=zh (zi hcl hb);have hx7:=zh (lZ x);have hy7:=zh (lZ y);clear hcl hx hy HO2 hW2;have q3:=hO.obj.frozen 0;have q4:=hO.obj.frozen 1;have s1:=hO.obj.cell (i:=0) rfl;have s2:=hO.obj.cell (i:=1) rfl;have s3:=hO.obj.lt;obtain⟨hbx,hby⟩:=hb;have HO4:=zh hO;clear hO;by_cases ex:x % 10000=0 <;> by_cases ey:y % 10000=0
   ·have d1:(x.tmod 10000==0)=true:=by first | exact beq_iff_eq.2 (hx7.out.2 ex) | exact beq_eq_false_iff_ne.2 (fun e=>ex (hx7.out.1 e))
    have d2:(y.tmod 10000==0)=true:=by first | exact beq_iff_eq.2 (hy7.out.2 ey) | exact beq_eq_false_iff_ne.2 (fun e=>ey (hy7.out.1 e))
    have hO:=((HO4.out.set 0 (.int .i64 (x+1))).set 1 (.int .i64 (y - 1)));have hcl2:fO (qa,qb)=((x+1),(y - 1)):=by rw[Hcl.out.1];simp[ex,ey]
    have Hcl2:=zh hcl2;have s4:=hO.obj.cell (i:=0) rfl;have s5:=hO.obj.cell (i:=1) rfl;have s6:=hO.obj.lt;clear hcl2;by_cases hxy:(x+1)≤(y - 1)
    ·have hdec:decide ((x+1)≤(y - 1))=true:=decide_eq_true hxy;have hO2:=(hO.al #[.int .i64 ((x+1)),.int .i64 ((y - 1))] 139).third
     try simp only[jh] at hO2
     have hnews:=hO2.swap.obj.news rfl;have Hxy:=zh hxy;clear hxy hO
     go_wp2_with (at_builtin;refine aC fC rfl (.tmp 68) (.tmp 70) rfl (.slice vpa S0.length vpc) S0.length _ rfl hO2.row ⟨_,0,none⟩ 1 1 [.int .i64 ((x+1)),.int .i64 ((y - 1))] rfl rfl hnews (by simp[Value.oneCell']) (by unfold maxLen;omega) zo ?_)
     intro va vc w7 hown7 hgrow7 hrow7;have hO3:=(hO2.app hown7 hgrow7 hrow7 zS).drop2.drop2;have HO3:=zh hO3;clear hO3 hO2 hown7 hgrow7 hrow7 hnews s1 s2 s3 s4 s5 s6 HO4;go_wp2;refine hX.out _ _ _ zo rfl ⟨k+1,_,zo,rfl,rfl,?_⟩;rw[Hstep.out.1,Hcl2.out,if_pos (show (x+1)≤(y - 1) from Hxy.out),aU,List.length_append];exact HO3.out
    ·have hdec:decide ((x+1)≤(y - 1))=false:=decide_eq_false hxy;have HO3:=zh hO.tail;have Hxy:=zh hxy;clear hxy hO;go_wp2;refine hX.out _ _ _ zo rfl ⟨k+1,_,zo,rfl,rfl,?_⟩;rw[Hstep.out.1,Hcl2.out,if_neg (fun h:(x+1)≤(y - 1)=>absurd h (by have:=Hxy.out;omega)),List.append_nil];exact HO3.out
   ·have d1:(x.tmod 10000==0)=true:=by first | exact beq_iff_eq.2 (hx7.out.2 ex) | exact beq_eq_false_iff_ne.2 (fun e=>ex (hx7.out.1 e))
    have d2:(y.tmod 10000==0)=false:=by first | exact beq_iff_eq.2 (hy7.out.2 ey) | exact beq_eq_false_iff_ne.2 (fun e=>ey (hy7.out.1 e))
    have hO:=(HO4.out.set 0 (.int .i64 (x+1)));have hcl2:fO (qa,qb)=((x+1),(y)):=by rw[Hcl.out.1];simp[ex,ey]
    have Hcl2:=zh hcl2;have s4:=hO.obj.cell (i:=0) rfl;have s5:=hO.obj.cell (i:=1) rfl;have s6:=hO.obj.lt;clear hcl2;by_cases hxy:(x+1)≤(y)
    ·have hdec:decide ((x+1)≤(y))=true:=decide_eq_true hxy;have hO2:=(hO.al #[.int .i64 ((x+1)),.int .i64 ((y))] 139).third
     try simp only[jh] at hO2
     have hnews:=hO2.swap.obj.news rfl;have Hxy:=zh hxy;clear hxy hO
     go_wp2_with (at_builtin;refine aC fC rfl (.tmp 68) (.tmp 70) rfl (.slice vpa S0.length vpc) S0.length _ rfl hO2.row ⟨_,0,none⟩ 1 1 [.int .i64 ((x+1)),.int .i64 ((y))] rfl rfl hnews (by simp[Value.oneCell']) (by unfold maxLen;omega) zo ?_)
     intro va vc w7 hown7 hgrow7 hrow7;have hO3:=(hO2.app hown7 hgrow7 hrow7 zS).drop2.drop2;have HO3:=zh hO3;clear hO3 hO2 hown7 hgrow7 hrow7 hnews s1 s2 s3 s4 s5 s6 HO4;go_wp2;refine hX.out _ _ _ zo rfl ⟨k+1,_,zo,rfl,rfl,?_⟩;rw[Hstep.out.1,Hcl2.out,if_pos (show (x+1)≤(y) from Hxy.out),aU,List.length_append];exact HO3.out
    ·have hdec:decide ((x+1)≤(y))=false:=decide_eq_false hxy;have HO3:=zh hO.tail;have Hxy:=zh hxy;clear hxy hO;go_wp2;refine hX.out _ _ _ zo rfl ⟨k+1,_,zo,rfl,rfl,?_⟩;rw[Hstep.out.1,Hcl2.out,if_neg (fun h:(x+1)≤(y)=>absurd h (by have:=Hxy.out;omega)),List.append_nil];exact HO3.out
   ·have d1:(x.tmod 10000==0)=false:=by first | exact beq_iff_eq.2 (hx7.out.2 ex) | exact beq_eq_false_iff_ne.2 (fun e=>ex (hx7.out.1 e))
    have d2:(y.tmod 10000==0)=true:=by first | exact beq_iff_eq.2 (hy7.out.2 ey) | exact beq_eq_false_iff_ne.2 (fun e=>ey (hy7.out.1 e))
    have hO:=(HO4.out.set 1 (.int .i64 (y - 1)));have hcl2:fO (qa,qb)=((x),(y - 1)):=by rw[Hcl.out.1];simp[ex,ey]
    have Hcl2:=zh hcl2;have s4:=hO.obj.cell (i:=0) rfl;have s5:=hO.obj.cell (i:=1) rfl;have s6:=hO.obj.lt;clear hcl2;by_cases hxy:(x)≤(y - 1)
    ·have hdec:decide ((x)≤(y - 1))=true:=decide_eq_true hxy;have hO2:=(hO.al #[.int .i64 ((x)),.int .i64 ((y - 1))] 139).third
     try simp only[jh] at hO2
     have hnews:=hO2.swap.obj.news rfl;have Hxy:=zh hxy;clear hxy hO
     go_wp2_with (at_builtin;refine aC fC rfl (.tmp 68) (.tmp 70) rfl (.slice vpa S0.length vpc) S0.length _ rfl hO2.row ⟨_,0,none⟩ 1 1 [.int .i64 ((x)),.int .i64 ((y - 1))] rfl rfl hnews (by simp[Value.oneCell']) (by unfold maxLen;omega) zo ?_)
     intro va vc w7 hown7 hgrow7 hrow7;have hO3:=(hO2.app hown7 hgrow7 hrow7 zS).drop2.drop2;have HO3:=zh hO3;clear hO3 hO2 hown7 hgrow7 hrow7 hnews s1 s2 s3 s4 s5 s6 HO4;go_wp2;refine hX.out _ _ _ zo rfl ⟨k+1,_,zo,rfl,rfl,?_⟩;rw[Hstep.out.1,Hcl2.out,if_pos (show (x)≤(y - 1) from Hxy.out),aU,List.length_append];exact HO3.out
    ·have hdec:decide ((x)≤(y - 1))=false:=decide_eq_false hxy;have HO3:=zh hO.tail;have Hxy:=zh hxy;clear hxy hO;go_wp2;refine hX.out _ _ _ zo rfl ⟨k+1,_,zo,rfl,rfl,?_⟩;rw[Hstep.out.1,Hcl2.out,if_neg (fun h:(x)≤(y - 1)=>absurd h (by have:=Hxy.out;omega)),List.append_nil];exact HO3.out
   ·have d1:(x.tmod 10000==0)=false:=by first | exact beq_iff_eq.2 (hx7.out.2 ex) | exact beq_eq_false_iff_ne.2 (fun e=>ex (hx7.out.1 e))
    have d2:(y.tmod 10000==0)=false:=by first | exact beq_iff_eq.2 (hy7.out.2 ey) | exact beq_eq_false_iff_ne.2 (fun e=>ey (hy7.out.1 e))
    have hO:=(HO4.out);have hcl2:fO (qa,qb)=((x),(y)):=by rw[Hcl.out.1];simp[ex,ey]
    have Hcl2:=zh hcl2;have s4:=hO.obj.cell (i:=0) rfl;have s5:=hO.obj.cell (i:=1) rfl;have s6:=hO.obj.lt;clear hcl2;by_cases hxy:(x)≤(y)
    ·have hdec:decide ((x)≤(y))=true:=decide_eq_true hxy;have hO2:=(hO.al #[.int .i64 ((x)),.int .i64 ((y))] 139).third
     try simp only[jh] at hO2
     have hnews:=hO2.swap.obj.news rfl;have Hxy:=zh hxy;clear hxy hO
     go_wp2_with (at_builtin;refine aC fC rfl (.tmp 68) (.tmp 70) rfl (.slice vpa S0.length vpc) S0.length _ rfl hO2.row ⟨_,0,none⟩ 1 1 [.int .i64 ((x)),.int .i64 ((y))] rfl rfl hnews (by simp[Value.oneCell']) (by unfold maxLen;omega) zo ?_)
     intro va vc w7 hown7 hgrow7 hrow7;have hO3:=(hO2.app hown7 hgrow7 hrow7 zS).drop2.drop2;have HO3:=zh hO3;clear hO3 hO2 hown7 hgrow7 hrow7 hnews s1 s2 s3 s4 s5 s6 HO4;go_wp2;refine hX.out _ _ _ zo rfl ⟨k+1,_,zo,rfl,rfl,?_⟩;rw[Hstep.out.1,Hcl2.out,if_pos (show (x)≤(y) from Hxy.out),aU,List.length_append];exact HO3.out
    ·have hdec:decide ((x)≤(y))=false:=decide_eq_false hxy;have HO3:=zh hO.tail;have Hxy:=zh hxy;clear hxy hO;go_wp2;refine hX.out _ _ _ zo rfl ⟨k+1,_,zo,rfl,rfl,?_⟩;rw[Hstep.out.1,Hcl2.out,if_neg (fun h:(x)≤(y)=>absurd h (by have:=Hxy.out;omega)),List.append_nil];exact HO3.out
  ·obtain rfl:k=F.length:=zo;simp only[List.take_length] at hO ⊢;have hst:=dQ (m:=mk1) (l:=iq F) hO.row (fun s hs=>Cc (EH s hs));have hle0:=Mem.dh (w:=w8) hO.free;have hO1:=hO.bg;generalize mkE:mk1.addv w8 (.slice vpa (iq F).length vpc)=mk2 at *
   have HI1:=zh (ru 182 _ Gj _ (jL I) mk2 w8 hO1.inn (bX hle0 HM.out.1) (by have:=uy I;omega) EF);have HF1:=zh (zi hst hO1);clear hst hle0 mkE hO hO1 hX
   go_wp2_with fail
   refine HI1.out.mono ?_;rintro e wa ⟨r1,p1,rfl,hb1,hp1,hs1,hr1⟩;have hO2:=HF1.out.2.call hb1;have hj1:=JE hp1 hs1;rw[hj1] at hr1;have HF2:=zh (ru 183 _ Gl _ (iq F) _ wa hO2.inn (bX (Mem.dN HF1.out.2.inn) HF1.out.1) (by have:=uz F;omega) EH);have HR1:=zh (zi hr1 hO2);obtain⟨ra,rc,rfl⟩:=bW hr1;clear HI1 HF1 hb1 hj1 hp1 hs1 hO2 hr1
   go_wp2_with fail
   refine HF2.out.mono ?_;rintro e wb ⟨r2,p2,rfl,hb2,hp2,hs2,hr2⟩;have hO2:=HR1.out.2.call hb2;have hj1:=Gt hp2 hs2;rw[hj1] at hr2;have hr1:=bX (Mem.dN HR1.out.2.inn (w:=wb)) HR1.out.1;obtain⟨sa,sc,rfl⟩:=bW hr2;simp only[List.length_map] at hr2;have g0:=hO2.obj.cell (i:=0) rfl;have g1:=hO2.obj.cell (i:=1) rfl;have g2:=hO2.obj.frozen 0;have g3:=hO2.obj.frozen 1;have g4:=hO2.obj.lt;have hO3:=(hO2.set 0 (.slice ra (pG I).length rc)).set 1 (.slice sa (lG F).length sc);have g5:=hO3.obj.cell (i:=0) rfl;have g6:=hO3.obj.cell (i:=1) rfl;have hfin:eF (m.grow w _) _ _ (mkN I F).i (mkN I F).rf:=⟨bX hO3.done hr1,bX hO3.done hr2⟩;have Hk:=zh (zi hO3.below hfin);clear HR1 HF2 hb2 hj1 hp2 hs2 hr1 hr2 hO2 hO3 hfin;go_wp2;refine bodyPost_ret (v:=.agg #[.slice ra (pG I).length rc,.slice sa (lG F).length sc]) (by simp[results,Tryz.results136,go_sem,g5,g6]) rfl ?_;exact hR.out _ _ ⟨_,_,rfl,Hk.out.1,Hk.out.2⟩
def NumV (I F:List Spn) (m:Mem) (v:Value):Prop:=∃xa xc ya yc,v=.agg #[.slice xa I.length xc,.slice ya F.length yc]∧eF m (.slice xa I.length xc) (.slice ya F.length yc) I F
def SpV (l:List Spn) (m:Mem) (v:Value):Prop:=∃a c,v=.slice a l.length c∧dx m (.slice a l.length c) l
theorem eF.spell {m:Mem} {vi vf:Value} {I F:List Spn} (h:eF m vi vf I F):∃xa xc ya yc,vi=.slice xa I.length xc∧vf=.slice ya F.length yc:=by
 obtain⟨a,c,rfl⟩:=bW h.i;obtain⟨b,d,rfl⟩:=bW h.f;exact⟨a,c,b,d,rfl,rfl⟩
theorem CF {m:Mem} {vi vf:Value} {I F:List Spn} (h:eF m vi vf I F):NumV I F m (.agg #[vi,vf]):=by
 obtain⟨a,c,b,d,rfl,rfl⟩:=h.spell;exact⟨a,c,b,d,rfl,h⟩
theorem NumV.le {I F:List Spn} {m m':Mem} (h:m.le m') {v:Value} (k:NumV I F m v):NumV I F m' v:=by
 obtain⟨a,c,b,d,e,h1⟩:=k;exact⟨a,c,b,d,e,h1.le h⟩
theorem SpV.le {l:List Spn} {m m':Mem} (h:m.le m') {v:Value} (k:SpV l m v):SpV l m' v:=by
 obtain⟨a,c,e,h1⟩:=k;exact⟨a,c,e,bX h h1⟩
theorem lC {R:Mem→Value→Prop} (hle:∀{m m':Mem},m.le m'→∀{v:Value},R m v→R m' v) {m:Mem} {w w':World} {win:Win} {i:Nat} (hm:m.inn w) (hb:Below w.heap.size w w') {r:Value}
 (h:R (m.grow w w') r):R (m.wins w' (win.put i (w.heap.size,w'.heap.size)) [i]) r:=hle (Mem.GX hm win i hb) h
theorem Gi (vi vf ui uf:Value) (I F J G:List Spn) (m:Mem) (w:World) (hm:m.inn w) (h1:eF m vi vf I F) (h2:eF m ui uf J G) :
 Calls Tryz.prog 196 #[.agg #[vi,vf],.agg #[ui,uf]] w fun e w'=>e=.returned (.bool (tf (I=J∧F=G)))∧Below w.heap.size w w':=by
 have hO:=((Own.start hm).al #[vi,vf] 24).al #[ui,uf] 24;have hsz1:(w.alloc (.cells #[vi,vf] 24)).heap.size=w.heap.size+1:=by simp
 rw[hsz1] at hO;have HA:=zh (gW _ _ I J m _ hO.inn h1.i h2.i);have HB:=zh (fun w' (h:m.inn w')=>gW _ _ F G m w' h h1.f h2.f);obtain⟨a1,c1,b1,d1,rfl,rfl⟩:=h1.spell;obtain⟨a2,c2,b2,d2,rfl,rfl⟩:=h2.spell;have HO:=zh hO;clear hO hsz1 h1 h2;refine ay fun R hR=>?_
 go_enter Tryz.func196,Tryz.ntmps196
 go_wp2_with fail
 refine HA.out.mono ?_;rintro e w1 ⟨rfl,hb1⟩;have hO1:=HO.out.move hb1;by_cases e1:I=J
 ·rw[aI e1];have HB1:=zh (HB.out w1 hO1.inn);have q0:=hO1.obj.cell (i:=1) rfl;have q1:=hO1.swap.obj.cell (i:=1) rfl;have HO1:=zh hO1;have E1:=zh e1;clear HO hO1 hb1 HA HB e1
  go_wp2_with fail
  refine HB1.out.mono ?_;rintro e w2 ⟨rfl,hb2⟩;have Hb:=zh (HO1.out.move hb2).below;clear HO1 hb2 HB1 q0 q1;go_wp2;exact hR.out _ _ ⟨aJ (aZ ⟨fun h=>⟨E1.out,h⟩,fun h=>h.2⟩),Hb.out⟩
 ·rw[az e1];have Hb:=zh hO1.below;have E1:=zh e1;clear HO hO1 hb1 HA HB e1;go_wp2;exact hR.out _ _ ⟨aJ (by rw[az (fun h=>E1.out h.1)]),Hb.out⟩
theorem CK (vi vf:Value) (I F:List Spn) (m:Mem) (w:World) (hm:m.inn w) (h1:eF m vi vf I F) (hI:I.length≤100000) (hF:F.length≤100000) :
 Calls Tryz.prog 156 #[.agg #[vi,vf]] w fun e w'=>e=.returned (.bool (tf (I=(mkN I F).i∧F=(mkN I F).rf)))∧Below w.heap.size w w':=by
 have hO:=(Own.start hm).al #[vi,vf] 24;obtain⟨a1,c1,b1,d1,rfl,rfl⟩:=h1.spell;have HO:=zh hO;have H1:=zh h1;clear hO h1;refine ay fun R hR=>?_
 go_enter Tryz.func156,Tryz.ntmps156
 go_upto_region 1 with (fail)
 refine aN [2] (fun vs w'=>vs=[.bool (tf (I=(mkN I F).i∧F=(mkN I F).rf))]∧Below w.heap.size w w') ?_ ?_
 ·intro Y hY;refine aX 5 5 (fun j=>[Fact.is (·=.agg #[.slice a1 I.length c1,.slice b1 F.length d1]),Fact.is (·=.agg #[.slice a1 I.length c1,.slice b1 F.length d1]),Fact.mem m [2] (NumV (mkN I F).i (mkN I F).rf),Fact.is (·=.bool (tf (I=(mkN I F).i∧F=(mkN I F).rf))),Fact.is (·=.bool (tf (I=(mkN I F).i∧F=(mkN I F).rf)))].getD j Fact.any) zk zk ?_ ?_
  ·intro i hi o win a wr ho RA;have HO3:=HO.out.dr.move RA.below;have q1:=HO3.obj.cell (i:=0) rfl;have q2:=HO3.obj.cell (i:=1) rfl;rcases (show i=0∨i=1∨i=2∨i=3∨i=4 by omega) with rfl | rfl | rfl | rfl | rfl
   ·have e1:=RA.k 1;cases ho;exact wv rfl rfl rfl
   ·have e1:=RA.k 1;cases ho;exact wv rfl rfl rfl
   ·have e4:a.tmps.getD 4 undef=_:=RA.d 1 rfl;cases ho;refine we rfl rfl (wN _ _ I F m wr HO3.inn H1.out hI hF) ?_;rintro e w' ⟨ri,rf,rfl,hb,hn⟩;exact⟨_,rfl,_,rfl,hb,lC NumV.le HO3.inn hb (CF hn)⟩
   ·have e3:a.tmps.getD 3 undef=_:=RA.d 0 rfl;have e5:(Fact.mem m [2] (NumV (mkN I F).i (mkN I F).rf)).holds (a.tmps.getD 5 undef) win wr:=RA.d 2 rfl;cases ho;obtain⟨x1,y1,x2,y2,f1,s1⟩:NumV _ _ _ _:=e5;have s0:=H1.out.le (Mem.x8 HO3.inn win [2]);refine we rfl rfl (Gi _ _ _ _ I F (mkN I F).i (mkN I F).rf _ wr (Mem.jV HO3.inn win [2]) s0 s1) ?_;rintro e w' ⟨rfl,hb⟩;exact⟨_,rfl,_,rfl,hb,rfl⟩
   ·have e6:a.tmps.getD 6 undef=_:=RA.d 3 rfl;cases ho;exact wv rfl rfl rfl
  ·intro win a wr E;have e2:a.tmps.getD 2 undef=.bool (tf (I=(mkN I F).i∧F=(mkN I F).rf)):=E.fact 4 _ zo rfl;obtain⟨t1,d⟩:=a;obtain rfl:d=[]:=E.defers;refine di zk (hY.out _ _ E.size ⟨?_,(HO.out.dr.move E.below).below⟩) _;simp only[List.map_cons,List.map_nil,e2]
 rintro z vs w1 - ⟨rfl,hb⟩;simp[litL,lk];have Hb:=zh hb;clear hb HO;go_wp2;exact hR.out _ _ ⟨rfl,Hb.out⟩
theorem NSok.inI {x:NS} (h:NSok x):∀s∈x.i,spIn s:=fun s hs=>by
 have h1:=h.bi s hs;have h2:=h.ni.ok s hs;unfold spIn;simp only[iF] at h1;omega
theorem NSok.inF {x:NS} (h:NSok x):∀s∈x.rf,spIn s:=fun s hs=>by
 obtain⟨t,ht,rfl⟩:=MQ hs;have h1:=h.bf t ht;have h2:=h.nf.ok t ht;have e1:(dP t).1=bK t.1:=rfl;have e2:(dP t).2=bK t.2:=rfl;unfold spIn;rw[e1,e2];unfold bK;simp only[rA,AB] at h1;omega
def GapV (nf pf:Nat) (l:List Spn) (lo hi:Int) (M:Mem) (v:Value):Prop:=∃(ga gl gp gn:Nat) (va:Value),v=.func (.func 260) #[] #[.pointer (some ⟨ga,0,none⟩),.pointer (some ⟨gl,0,none⟩),.pointer (some ⟨gp,0,none⟩),.pointer (some ⟨gn,0,none⟩)] ∧
 M.cell gl 0=some va∧dx M va l∧M.cell ga 0=some (.int .i64 lo)∧M.cell ga 1=some (.int .i64 hi)∧M.cell gp 0=some (.func (.func pf) #[] #[])∧M.cell gn 0=some (.func (.func nf) #[] #[])
theorem GapV.le {nf pf:Nat} {l:List Spn} {lo hi:Int} {m m':Mem} (h:m.le m') {v:Value} (k:GapV nf pf l lo hi m v):GapV nf pf l lo hi m' v:=by
 obtain⟨ga,gl,gp,gn,va,e,h1,h2,h3,h4,h5,h6⟩:=k;exact⟨ga,gl,gp,gn,va,e,Mem.aA h h1,bX h h2,Mem.aA h h3,Mem.aA h h4,Mem.aA h h5,Mem.aA h h6⟩
def Jp (r:Option Int):Prop:=∀u,r=some u → -1000000000000002≤u∧u≤1000000000000002
theorem wJ {r:Option Int} {u:Int} (h:Jp r) (h1 : -1000000000000002≤u) (h2:u≤1000000000000002):Jp (dR [u] r):=by
 intro v hv
 cases r with
 | none=>simp only[dR] at hv;cases hv;exact⟨h1,h2⟩
 | some b=>
  simp only[dR] at hv
  split at hv
  ·cases hv;exact⟨h1,h2⟩
  ·exact h v hv
theorem Jv {s:Spn} (h:spIn s) {mid:Int} (h1 : -2≤mid) (h2:mid≤2) : -1000000000000002≤bM s mid∧bM s mid≤1000000000000002:=by
 unfold spIn at h;unfold bM
 split
 ·omega
 ·split <;> omega
theorem wM (u:Int) (gf gb:Nat) (r:Option Int) {w0 w:World} {m mk:Mem} {L:List Item} (hO:Own w0 m w mk (.obj gb 2 #[.int .i64 (r.getD 0)]::.obj gf 4 #[.bool r.isSome]::L))
 (h1 : -1000000000000002≤u) (h2:u≤1000000000000002) (hr:Jp r) :
 Calls Tryz.prog 137 #[.int .i64 u,.pointer (some ⟨gf,0,none⟩),.pointer (some ⟨gb,0,none⟩)] w fun e w'=>e=.returned (.tuple #[]) ∧
  Own w0 m w' mk (.obj gb 2 #[.int .i64 ((dR [u] r).getD 0)]::.obj gf 4 #[.bool (dR [u] r).isSome]::L):=by
 have c1:=hO.obj.cell (i:=0) rfl;have c2:=hO.swap.obj.cell (i:=0) rfl;have c3:=hO.obj.lt;have c4:=hO.swap.obj.lt;have c5:=hO.obj.frozen 0;have c6:=hO.swap.obj.frozen 0;have hne:gb≠gf:=fun e=>(List.pairwise_cons.1 hO.apart).1 _ (List.mem_cons_self ..) gb rfl (by rw[e];rfl);have hne2:gf≠gb:=fun e=>hne e.symm
 cases r with
 | none=>
  have HO:=zh ((hO.set 0 (.int .i64 u)).swap.set 0 (.bool true)).swap;clear hO;refine ay fun R hR=>?_;simp only[Option.getD_none,Option.isSome_none] at c1 c2
  go_enter Tryz.func137,Tryz.ntmps137
  go_wp2;refine bodyPost_ret (v:=.tuple #[]) (by simp[results,Tryz.results137,go_sem]) rfl ?_
  exact hR.out _ _ ⟨rfl,HO.out⟩
 | some b=>
  have hb:=hr b rfl;simp only[Option.getD_some,Option.isSome_some] at c1 c2;have HN:=zh (Af u b w h1 h2 hb.1 hb.2);have HO:=zh hO;clear hO c1 c2 c3 c4 c5 c6;have c1:=HO.out.obj.cell (i:=0) rfl;have c2:=HO.out.swap.obj.cell (i:=0) rfl;have c3:=HO.out.obj.lt;have c4:=HO.out.swap.obj.lt;simp only[Option.getD_some,Option.isSome_some] at c1 c2;refine ay fun R hR=>?_
  go_enter Tryz.func137,Tryz.ntmps137
  go_wp2_with fail
  refine HN.out.mono ?_;rintro e w1 ⟨rfl,hb1⟩;have hO1:=HO.out.move hb1;have d1:=hO1.obj.cell (i:=0) rfl;have d2:=hO1.swap.obj.cell (i:=0) rfl;have d3:=hO1.obj.lt;have d4:=hO1.swap.obj.lt;have d5:=hO1.obj.frozen 0;have d6:=hO1.swap.obj.frozen 0;by_cases hn:near u b
  ·rw[decide_eq_true hn];have HO1:=zh ((hO1.set 0 (.int .i64 u)).swap.set 0 (.bool true)).swap;have HB:=zh (show dR [u] (some b)=some u from by simp[dR,hn]);clear hO1 HO hn HN;go_wp2;refine bodyPost_ret (v:=.tuple #[]) (by simp[results,Tryz.results137,go_sem]) rfl ?_;refine hR.out _ _ ⟨rfl,?_⟩;rw[HB.out];exact HO1.out
  ·rw[decide_eq_false hn];have HO1:=zh hO1;have HB:=zh (show dR [u] (some b)=some b from by simp[dR,hn]);clear hO1 HO hn HN;go_wp2;refine bodyPost_ret (v:=.tuple #[]) (by simp[results,Tryz.results137,go_sem]) rfl ?_;refine hR.out _ _ ⟨rfl,?_⟩;rw[HB.out];exact HO1.out
theorem CP (vi vf:Value) (I F:List Spn) (m:Mem) (w:World) (hm:m.inn w) (h1:eF m vi vf I F) (hI:I.length≤30000) (hF:F.length≤30000) :
 Calls Tryz.prog 93 #[.agg #[vi,vf]] w fun e w'=>e=.returned (.tuple #[.int .i64 ((kL (mkN I F)).getD 0),.bool (kL (mkN I F)).isSome])∧Below w.heap.size w w':=by
 have hO:=(Own.start hm).al #[vi,vf] 24;have HM:=zh (wN _ _ I F m _ hO.inn h1 zo zo);obtain⟨a1,c1,b1,d1,rfl,rfl⟩:=h1.spell;have hxl:=MP hI hF;have hxo:=Eu I F;have l1:=hxl.i;have l2:=hxl.f;rw[← NS.Oq] at l2;have HX:=zh (zi hxo.inI (zi hxo.inF (fun s hs=>hxo.bi s hs)));have HO:=zh hO;clear hO h1 hxl hxo;generalize mkN I F=x at *
 refine ay fun R hR=>?_
 go_enter Tryz.func93,Tryz.ntmps93
 go_wp2_with fail
 refine HM.out.mono ?_;rintro e w1 ⟨ri,rf,rfl,hb1,hr1⟩;have hO1:=HO.out.call hb1;obtain⟨xa,xc,ya,yc,rfl,rfl⟩:=hr1.spell;have hO2:=((hO1.al #[.slice xa x.i.length xc,.slice ya x.rf.length yc] 24).al #[.int .i64 0] 2).al #[.bool false] 4;have e1:(w1.alloc (.cells #[.slice xa x.i.length xc,.slice ya x.rf.length yc] 24)).heap.size=w1.heap.size+1:=by simp
 have e2:((w1.alloc (.cells #[.slice xa x.i.length xc,.slice ya x.rf.length yc] 24)).alloc (.cells #[.int .i64 0] 2)).heap.size=w1.heap.size+1+1:=by simp
 rw[e2,e1] at hO2;generalize m.grow (w.alloc (.cells #[.slice a1 I.length c1,.slice b1 F.length d1] 24)) w1=mk at *
 have HK:=zh (zi hO2.swap.OE hr1);clear hO1 hO2 hr1 hb1 HM HO e1 e2;go_wp2;generalize w1.heap.size=S at *
 refine au [4,5,6,7,16,17,18] (fun n vs wr=>∃(k:Nat) (r:Option Int),k≤x.i.length∧n=x.i.length - k∧vs=[.pointer (some ⟨S,0,none⟩),.pointer (some ⟨S+1,0,none⟩),.pointer (some ⟨S+1+1,0,none⟩),.func (.func 137) #[] #[.pointer (some ⟨S+1+1,0,none⟩),.pointer (some ⟨S+1,0,none⟩)],.slice xa x.i.length xc,.int .i64 x.i.length,.int .i64 k] ∧
  r=dR ((x.i.take k).map (fun s=>bM s 0*10000)) none∧Jp r∧Own w m wr mk [.obj (S+1) 2 #[.int .i64 (r.getD 0)],.obj (S+1+1) 4 #[.bool r.isSome],.obj S 24 #[.slice xa x.i.length xc,.slice ya x.rf.length yc]]) ?_ ?_
 ·exact⟨_,0,none,Nat.zero_le _,rfl,rfl,rfl,(fun u h=>by cases h),HK.out.1⟩
 rintro X z n vs wr hX - ⟨k,r,hk,rfl,rfl,hr,hri,hO⟩;simp[litL,lk];by_cases hlt:k<x.i.length
 ·have hnums:=HK.out.2.i;obtain⟨ad,cc,e,q1,q2,q3⟩:=hnums;injection e with e1 e2 e3;subst e1;obtain⟨b,off,rfl,h4⟩:=q3 (by intro h;simp[h] at hlt);have hg:=h4 k hlt;have r1:=Mem.aj hO.inn hg.1;have r2:=Mem.aj hO.inn hg.2.1;have rl:=Mem.av hO.inn hg.1;have hin:=HX.out.1 x.i[k] (List.getElem_mem hlt);have hstep:dR ((x.i.take (k+1)).map (fun s=>bM s 0*10000)) none=dR [bM x.i[k] 0*10000] r:=by
   rw[List.take_succ_eq_append_getElem hlt,List.map_append,jS,← hr]
   rfl
  have hbi:=HX.out.2.2 x.i[k] (List.getElem_mem hlt);simp only[iF] at hbi;have HS:=zh (zi hstep hri);clear hstep h4 hg q1 q2 q3 e3 hr hri;generalize x.i[k]=q at *
  obtain⟨qa,qb⟩:=q;simp only at r1 r2 hbi;have hO2:=hO.al #[.int .i64 qa,.int .i64 qb] 139;have HO2:=zh hO2;have HQ:=zh (fun w'=>pg (qa,qb) 0 w');have hnb:=Jv hin (mid:=0) zo zo;have hnb2 : -100000000000≤bM (qa,qb) 0∧bM (qa,qb) 0≤100000000000:=by
   unfold spIn at hin;simp only at hin;have e:bM (qa,qb) 0=if qa > 0 then qa else if qb<0 then qb else 0:=rfl;rw[e]
   split
   ·omega
   ·split <;> omega
  clear hO hO2 hin
  go_wp2_with fail
  refine (HQ.out _).mono ?_;rintro e w3 ⟨rfl,hb3⟩;have hO3:=(HO2.out.move hb3).tail;generalize hV:bM (qa,qb) 0=nv at *
  have HT:=zh (wM (nv*10000) (S+1+1) (S+1) r hO3 zo zo HS.out.2);have HBI:=zh (wJ (u:=nv*10000) HS.out.2 zo zo);clear hO3 HO2 hb3 r1 r2 rl HQ
  go_wp2_with fail
  refine HT.out.mono ?_;rintro e w4 ⟨rfl,hO4⟩;have HO4:=zh hO4;clear hO4 HT;go_wp2;refine hX.out _ _ _ zo rfl ⟨k+1,_,zo,rfl,rfl,HS.out.1.symm,?_,?_⟩
  ·first
    | exact HBI.out
    | (rw[hV];exact HBI.out)
  ·first
    | exact HO4.out
    | (rw[hV];exact HO4.out)
 ·obtain rfl:k=x.i.length:=zo;rw[List.take_length] at hr;subst hr;have q1:=hO.third.obj.cell (i:=1) rfl;have q2:=hO.third.obj.lt;have HR:=zh (zi hO (zi hri True.intro));clear hO hri hX;go_wp2;refine au [4,5,6,7,29,30,31] (fun n vs wr=>∃(k:Nat) (r:Option Int),k≤x.rf.length∧n=x.rf.length - k∧vs=[.pointer (some ⟨S,0,none⟩),.pointer (some ⟨S+1,0,none⟩),.pointer (some ⟨S+1+1,0,none⟩),.func (.func 137) #[] #[.pointer (some ⟨S+1+1,0,none⟩),.pointer (some ⟨S+1,0,none⟩)],.slice ya x.rf.length yc,.int .i64 x.rf.length,.int .i64 k] ∧
   r=dR ((x.rf.take k).map (fun s=>bM s 1)) (dR (x.i.map (fun s=>bM s 0*10000)) none)∧Jp r∧Own w m wr mk [.obj (S+1) 2 #[.int .i64 (r.getD 0)],.obj (S+1+1) 4 #[.bool r.isSome],.obj S 24 #[.slice xa x.i.length xc,.slice ya x.rf.length yc]]) ?_ ?_
  ·exact⟨_,0,_,Nat.zero_le _,rfl,rfl,rfl,HR.out.2.1,HR.out.1⟩
  clear HR;rintro Y z n vs wr hY - ⟨k,r,hk,rfl,rfl,hr,hri,hO⟩;simp[litL,lk];by_cases hlt:k<x.rf.length
  ·have hnums:=HK.out.2.f;obtain⟨ad,cc,e,q1,q2,q3⟩:=hnums;injection e with e1 e2 e3;subst e1;obtain⟨b,off,rfl,h4⟩:=q3 (by intro h;simp[h] at hlt);have hg:=h4 k hlt;have r1:=Mem.aj hO.inn hg.1;have r2:=Mem.aj hO.inn hg.2.1;have rl:=Mem.av hO.inn hg.1;have hin:=HX.out.2.1 x.rf[k] (List.getElem_mem hlt);have hstep:dR ((x.rf.take (k+1)).map (fun s=>bM s 1)) (dR (x.i.map (fun s=>bM s 0*10000)) none)=dR [bM x.rf[k] 1] r:=by
    rw[List.take_succ_eq_append_getElem hlt,List.map_append,jS,← hr]
    rfl
   have HS:=zh (zi hstep hri);clear hstep h4 hg q1 q2 q3 e3 hr hri;generalize x.rf[k]=q at *
   obtain⟨qa,qb⟩:=q;simp only at r1 r2;have hO2:=hO.al #[.int .i64 qa,.int .i64 qb] 139;have HO2:=zh hO2;have HQ:=zh (fun w'=>pg (qa,qb) 1 w');have hnb:=Jv hin (mid:=1) zo zo;clear hO hO2 hin
   go_wp2_with fail
   refine (HQ.out _).mono ?_;rintro e w3 ⟨rfl,hb3⟩;have hO3:=(HO2.out.move hb3).tail;generalize hV:bM (qa,qb) 1=nv at *
   have HT:=zh (wM nv (S+1+1) (S+1) r hO3 zo zo HS.out.2);have HBI:=zh (wJ (u:=nv) HS.out.2 zo zo);clear hO3 HO2 hb3 r1 r2 rl HQ
   go_wp2_with fail
   refine HT.out.mono ?_;rintro e w4 ⟨rfl,hO4⟩;have HO4:=zh hO4;clear hO4 HT;go_wp2;refine hY.out _ _ _ zo rfl ⟨k+1,_,zo,rfl,rfl,HS.out.1.symm,?_,?_⟩
   ·first
     | exact HBI.out
     | (rw[hV];exact HBI.out)
   ·first
     | exact HO4.out
     | (rw[hV];exact HO4.out)
  ·obtain rfl:k=x.rf.length:=zo;rw[List.take_length] at hr;subst hr;have q1:=hO.obj.cell (i:=0) rfl;have q2:=hO.obj.lt;have q3:=hO.swap.obj.cell (i:=0) rfl;have q4:=hO.swap.obj.lt;have HB:=zh hO.below;have HL:=zh (show kL x=dR (x.rf.map (fun s=>bM s 1)) (dR (x.i.map (fun s=>bM s 0*10000)) none) from by unfold kL OH;rw[jS]);rw[HL.out] at hR;generalize dR (x.rf.map (fun s=>bM s 1)) (dR (x.i.map (fun s=>bM s 0*10000)) none)=rr at *
   clear hO hri;go_wp2
   go_quiet (fail)
   go_wp2;exact hR.out _ _ ⟨rfl,below_drewN HB.out _⟩
end Cl
