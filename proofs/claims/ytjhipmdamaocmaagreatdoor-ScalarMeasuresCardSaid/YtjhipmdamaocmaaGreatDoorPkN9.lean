/- Lemmas for the proofs of chapter 11. -/
import Derived.Laws.EntriesVeiled
import Derived.Laws.CopyOwn
import Derived.Test.YtjhipmdamaocmaaGreatDoorPkN8
set_option maxRecDepth 100000
set_option maxHeartbeats 16000000
namespace Cl
open Go Go.RowKit Go.Proofs
theorem qA (u:Int) (w:World) (h1 : -1000000000000002≤u) (h2:u≤1000000000000002) :
 Calls Tryz.prog 252 #[.int .i64 u] w fun e w'=>e=.returned (.int .i64 (u / 10000))∧Below w.heap.size w w':=by
 refine aj fun R hR=>?_;have e1:=zh (QD u);have e2:=zh (QC u)
 go_enter Tryz.func252,Tryz.ntmps252
 go_wp2
 all_goals refine hR.out _ _ ⟨dB ?_,zP _ _⟩
 all_goals simp only[e1.out,e2.out] at *
 all_goals (repeat' split) <;> first | omega | (unfold wrap64;omega)
theorem nR (u:Int) (w:World) (h1 : -1000000000000002≤u) (h2:u≤1000000000000002) :
 Calls Tryz.prog 210 #[.int .i64 u] w fun e w'=>e=.returned (.int .i64 (u / 10000))∧Below w.heap.size w w':=by
 refine aj fun R hR=>?_;have e1:=zh (QD u);have e2:=zh (QC u)
 go_enter Tryz.func210,Tryz.ntmps210
 go_wp2
 all_goals refine hR.out _ _ ⟨dB ?_,zP _ _⟩
 all_goals simp only[e1.out,e2.out] at *
 all_goals (repeat' split) <;> first | omega | (unfold wrap64;omega)
theorem Gj (u:Int) (w:World) (h1 : -1000000000000002≤u) (h2:u≤1000000000000002) :
 Calls Tryz.prog 215 #[.int .i64 u] w fun e w'=>e=.returned (.int .i64 (iN u))∧Below w.heap.size w w':=by
 refine aj fun R hR=>?_;have H:=zh (lQ (u+1))
 go_enter Tryz.func215,Tryz.ntmps215
 go_wp2
 all_goals refine hR.out _ _ ⟨dB ?_,zP _ _⟩
 all_goals unfold iN
 all_goals first
  | rw[zI (H.out.1 (beq_iff_eq.1 (by assumption)))]
  | rw[zH (fun e=>(beq_eq_false_iff_ne.1 (by assumption)) (H.out.2 e))]
theorem Ei (u:Int) (w:World) (h1 : -1000000000000002≤u) (h2:u≤1000000000000002) :
 Calls Tryz.prog 284 #[.int .i64 u] w fun e w'=>e=.returned (.int .i64 (gV u))∧Below w.heap.size w w':=by
 refine aj fun R hR=>?_;have H:=zh (lQ (u - 1))
 go_enter Tryz.func284,Tryz.ntmps284
 go_wp2
 all_goals refine hR.out _ _ ⟨dB ?_,zP _ _⟩
 all_goals unfold gV
 all_goals first
  | rw[zI (H.out.1 (beq_iff_eq.1 (by assumption)))]
  | rw[zH (fun e=>(beq_eq_false_iff_ne.1 (by assumption)) (H.out.2 e))]
theorem Gg (u:Int) (w:World) (h1 : -1000000000000002≤u) (h2:u≤1000000000000002) :
 Calls Tryz.prog 214 #[.int .i64 u] w fun e w'=>e=.returned (.int .i64 (u+1))∧Below w.heap.size w w':=by
 refine aj fun R hR=>?_
 go_enter Tryz.func214,Tryz.ntmps214
 go_wp2
 all_goals exact hR.out _ _ ⟨dB zo,zP _ _⟩
theorem Kj (u:Int) (w:World) (h1 : -1000000000000002≤u) (h2:u≤1000000000000002) :
 Calls Tryz.prog 283 #[.int .i64 u] w fun e w'=>e=.returned (.int .i64 (u - 1))∧Below w.heap.size w w':=by
 refine aj fun R hR=>?_
 go_enter Tryz.func283,Tryz.ntmps283
 go_wp2
 all_goals exact hR.out _ _ ⟨dB zo,zP _ _⟩
theorem pV (u:Int) (w:World) :
 Calls Tryz.prog 251 #[.int .i64 u] w fun e w'=>e=.returned (.bool (decide (bG u)))∧Below w.heap.size w w':=by
 refine aj fun R hR=>?_
 go_enter Tryz.func251,Tryz.ntmps251
 go_wp2
 all_goals refine hR.out _ _ ⟨aL ?_,zP _ _⟩
 all_goals first
  | (symm;rw[decide_eq_true_iff];unfold bG maxU;omega)
  | (symm;rw[decide_eq_false_iff_not];unfold bG maxU;omega)
  | (symm;rw[decide_eq_decide];unfold bG maxU;omega)
theorem D6 (u:Int) (w:World) :
 Calls Tryz.prog 224 #[.int .i64 u] w fun e w'=>e=.returned (.bool (decide (bG u)))∧Below w.heap.size w w':=by
 refine aj fun R hR=>?_
 go_enter Tryz.func224,Tryz.ntmps224
 go_wp2
 all_goals refine hR.out _ _ ⟨aL ?_,zP _ _⟩
 all_goals first
  | (symm;rw[decide_eq_true_iff];unfold bG maxU;omega)
  | (symm;rw[decide_eq_false_iff_not];unfold bG maxU;omega)
  | (symm;rw[decide_eq_decide];unfold bG maxU;omega)
theorem lT (u:Int) (w:World) :
 Calls Tryz.prog 157 #[.int .i64 u] w fun e w'=>e=.returned (.bool (decide (bG u)))∧Below w.heap.size w w':=by
 refine aj fun R hR=>?_
 go_enter Tryz.func157,Tryz.ntmps157
 go_wp2
 all_goals refine hR.out _ _ ⟨aL ?_,zP _ _⟩
 all_goals first
  | (symm;rw[decide_eq_true_iff];unfold bG maxU;omega)
  | (symm;rw[decide_eq_false_iff_not];unfold bG maxU;omega)
  | (symm;rw[decide_eq_decide];unfold bG maxU;omega)
theorem uK (u v:Int) (w:World) (h1 : -1000000000000002≤u) (h2:u≤1000000000000002) (h3 : -1000000000000002≤v) (h4:v≤1000000000000002) :
 Calls Tryz.prog 147 #[.int .i64 u,.int .i64 v] w fun e w'=>e=.returned (.bool (decide (near u v)))∧Below w.heap.size w w':=by
 refine aj fun R hR=>?_
 go_enter Tryz.func147,Tryz.ntmps147
 go_wp2
 all_goals refine hR.out _ _ ⟨aL ?_,zP _ _⟩
 all_goals first
  | (symm;rw[decide_eq_true_iff];unfold near;omega)
  | (symm;rw[decide_eq_false_iff_not];unfold near;omega)
  | (symm;rw[decide_eq_decide];unfold near;omega)
theorem BX (u v:Int) (w:World) (h1 : -1000000000000002≤u) (h2:u≤1000000000000002) (h3 : -1000000000000002≤v) (h4:v≤1000000000000002) :
 Calls Tryz.prog 151 #[.int .i64 u,.int .i64 v] w fun e w'=>e=.returned (.bool (decide (near u v)))∧Below w.heap.size w w':=by
 refine aj fun R hR=>?_
 go_enter Tryz.func151,Tryz.ntmps151
 go_wp2
 all_goals refine hR.out _ _ ⟨aL ?_,zP _ _⟩
 all_goals first
  | (symm;rw[decide_eq_true_iff];unfold near;omega)
  | (symm;rw[decide_eq_false_iff_not];unfold near;omega)
  | (symm;rw[decide_eq_decide];unfold near;omega)
theorem rF (s:Spn) (mid:Int) (w:World) :
 Calls Tryz.prog 148 #[.agg #[.int .i64 s.1,.int .i64 s.2],.int .i64 mid] w fun e w'=>e=.returned (.int .i64 (df s mid))∧Below w.heap.size w w':=by
 obtain⟨a,b⟩:=s;refine aj fun R hR=>?_;have hb0:=aR (zP w.heap.size w) (.cells #[.int .i64 a,.int .i64 b] 153);have hd:df (a,b) mid=if a > 0 then a else if b<0 then b else mid:=rfl;rw[hd] at hR;clear hd
 go_enter Tryz.func148,Tryz.ntmps148
 go_wp2
 all_goals refine hR.out _ _ ⟨dB ?_,hb0⟩
 ·rw[zI zo]
 ·rw[zH zo,zI zo]
 ·rw[zH zo,zH zo]
theorem nQ (u:Int) (w:World) :
 Calls Tryz.prog 158 #[.int .i64 u] w fun e w'=>e=.returned (.bool (decide (u % 10000=0)))∧Below w.heap.size w w':=by
 have H:=zh (lQ u);refine aj fun R hR=>?_
 go_enter Tryz.func158,Tryz.ntmps158
 go_wp2
 all_goals refine hR.out _ _ ⟨aL ?_,zP _ _⟩
 all_goals first
  | (rw[Bool.eq_iff_iff,beq_iff_eq,decide_eq_true_iff];exact H.out)
  | (trace_state;done )
theorem Nb (s:Int) (w:World):Calls Tryz.prog 309 #[.int .i64 s] w fun e w'=>e=.returned (.bool false)∧w'=w:=by
 refine aj fun R hR=>?_
 go_enter Tryz.func309,Tryz.ntmps309
 go_wp2;exact hR.out _ _ ⟨zS,rfl⟩
theorem K4 (s t:Int) (w:World):Calls Tryz.prog 273 #[.int .i64 s,.int .i64 t] w fun e w'=>e=.returned (.int .i64 (Lib.compareInt s t))∧w'=w:=by
 refine aj fun R hR=>?_;have hc:Lib.compareInt s t=if s<t then -1 else if t<s then 1 else 0:=by
  unfold Lib.compareInt;rfl
 rw[hc] at hR;clear hc
 go_enter Tryz.func273,Tryz.ntmps273
 go_wp2_with ((go_at_call 309);refine (Nb _ _).mono ?_;rintro e w' ⟨rfl,rfl⟩)
 ·exact hR.out _ _ ⟨dB (by rw[zI zo]),rfl⟩
 ·exact hR.out _ _ ⟨dB (by rw[zH zo,zI zo]),rfl⟩
 ·exact hR.out _ _ ⟨dB (by rw[zH zo,zH zo]),rfl⟩
theorem GA (x y:Spn) (W:World):Calls Tryz.prog 272 #[.agg #[.int .i64 x.1,.int .i64 x.2],.agg #[.int .i64 y.1,.int .i64 y.2]] W fun e w'=>e=.returned (.int .i64 (G9 x y))∧∃q os',w'=Go.Sort.grow (W.drewN q) os':=by
 have hcon:=fun W'=>K4 x.1 y.1 W';unfold G9;generalize Lib.compareInt x.1 y.1=r at hcon ⊢;refine aj fun R hR=>?_
 go_enter Tryz.func272,Tryz.ntmps272
 go_wp2_with ((go_at_call 273);refine (hcon _).mono ?_;rintro e w' ⟨rfl,rfl⟩)
 exact hR.out _ _ ⟨rfl,0,_,by rw[Go.Sort.alloc_eq_grow,Go.Sort.alloc_eq_grow,Go.Sort.grow_grow];rfl⟩
theorem zu:∀args w,(callFunc 272 args).run Tryz.prog w=.ok (.enter 272 args) w:=enters_of Tryz.func272 zk rfl
theorem JN {w0 w:World} {m mk:Mem} {L:List Item} {t:TypeId} {g c:Nat} {l:List Spn} (h:Own w0 m w mk (.row (.slice (some ⟨g,0,none⟩) l.length c) t 2 l.length (aS l)::L)) (hl:l.length<4611686018427387904) :
 Calls Tryz.prog 271 #[.slice (some ⟨g,0,none⟩) l.length c,.func (.func 272) #[] #[]] w fun e w'=>e=.returned (.tuple #[]) ∧
  ∃p:List Spn,p.Perm l∧(p.Pairwise fun s t=>s.1≤t.1)∧Own w0 m w' mk (.row (.slice (some ⟨g,0,none⟩) p.length c) t 2 p.length (aS p)::L):=by
 have hlt:g<w.heap.size:=(World.ownsRow.lt h.row _ rfl).2;have hcon:=AnyQ.slices_SortFunc Tryz.RN 2 Tryz.isAgg153 Tryz.sizeOf153 vg (fun _=>rfl) (fun x v hv=>by simp[vg] at hv;rcases hv with rfl | rfl <;> rfl) G9 Su 272 #[] g 0 c l.toArray w
  zu (fun _ _ _ _ x y=>GA x y _) (Mk h.row) hlt (by simpa using hl)
 refine Calls.mono (show Calls Tryz.prog 271 #[.slice (some ⟨g,0,none⟩) l.length c,.func (.func 272) #[] #[]] w _ from hcon) ?_;rintro e w' ⟨he,d',n,os,hp,hs,rfl⟩;obtain⟨h1,h2,h3⟩:=L8 hp hs;refine ⟨he,d'.toList,h2,h3,?_⟩;have:=O1 h d' h1 n os;simpa [h1] using this
theorem KN : (Tryz.prog.fieldsOf 153).toList = [⟨"Lo", 2, 0, false, "", "", 0⟩, ⟨"Hi", 2, 1, false, "", "", 8⟩] := by
 kernel_rfl
theorem LW:Tryz.prog.stoodInHeld 153=false:=by kernel_rfl
theorem EH:Tryz.prog.eqGuardType Tryz.prog.depth 153=false:=by kernel_rfl
theorem Qu:Tryz.prog.underlying 153=some (.struct (Tryz.prog.fieldsOf 153)):=by kernel_rfl
theorem Dp (a b a' b':Int) (w:World):(Op.equalIn 10000 153 (.agg #[.int .i64 a,.int .i64 b]) (.agg #[.int .i64 a',.int .i64 b'])).run Tryz.prog w=.ok (a==a'&&b==b') w:=by
 rw[run_equalIn_agg w 9999 153 _ _ Qu LW,KN];have e2:=fun (d:Nat) (a b:Int) (w:World)=>run_equalIn_int (P:=Tryz.prog) w d 2 .i64 .i64 a b Tryz.underlying2;simp only[Op.eqFields];simp[isAgg,go_sem,e2];by_cases h1:a=a' <;> by_cases h2:b=b' <;> simp[h1,h2]
theorem Qq (e f:Spn):e=f↔(e.1=f.1∧e.2=f.2):=Prod.ext_iff
theorem oC (v v':Value) (l l':List Spn) (m:Mem) (w:World) (hm:m.inn w) (hl:bM m v l) (hl':bM m v' l') :
 Calls Tryz.prog 245 #[v,v'] w fun e w'=>e=.returned (.bool (tf (l=l')))∧Below w.heap.size w w':=by
 obtain⟨a,c,rfl,h1,h2,h3⟩:=hl;obtain⟨a',c',rfl,h1',h2',h3'⟩:=hl';unfold maxLen at h2 h2';refine aj fun R hR=>?_;by_cases hlen:l.length=l'.length
 ·have hne:((l.length:Int) != (l'.length:Int))=false:=by simp[hlen]
  have Hlen:=zh hlen;clear hlen
  go_enter Tryz.func245,Tryz.ntmps245
  go_wp2;refine au [0,1,12,13] (fun n vs wr=>∃k:Nat,k≤l.length∧n=l.length - k∧vs=[.slice a l.length c,.slice a' l'.length c',.int .i64 l.length,.int .i64 k]∧(l=l'↔l.drop k=l'.drop k)∧Below w.heap.size w wr) ?_ ?_
  ·exact⟨_,0,zC _,rfl,rfl,Iff.rfl,zP _ _⟩
  rintro X z n vs wr hX - ⟨k,hk,rfl,rfl,hrel,hbel⟩;have Hrel:=zh hrel;clear hrel;simp[litL,lk];have hmr:=Mem.bJ hm hbel;by_cases hlt:k<l.length
  ·have hlt':k<l'.length:=by rw[← Hlen.out];exact hlt
   obtain⟨b,off,rfl,h4⟩:=h3 (by intro h;simp[h] at hlt);obtain⟨b',off',rfl,h4'⟩:=h3' (by intro h;simp[h] at hlt');obtain⟨g1,g2,-⟩:=h4 k hlt;obtain⟨g1',g2',-⟩:=h4' k hlt';have c1:=Mem.ak hmr g1;have c2:=Mem.ak hmr g2;have c1':=Mem.ak hmr g1';have c2':=Mem.ak hmr g2';have HD:=zh (kS l l' k hlt hlt');have hq:=fun w=>Dp (l[k].1) (l[k].2) (l'[k].1) (l'[k].2) w;have hgd:=EH;have He:=zh (Qq l[k] l'[k]);go_wp2
   go_quiet (fail)
   go_wp2
   ·refine hR.out _ _ ⟨aL ?_,below_drewN hbel _⟩;rw[aK];intro h;have h5:=He.out.1 (HD.out.1 (Hrel.out.1 h)).1;have h6:=‹(!l[k].1==l'[k].1)=true∨_›;simp[h5] at h6
   ·refine hX.out _ _ _ zo rfl ⟨k+1,zo,rfl,rfl,?_,below_drewN hbel _⟩;have h6:=‹(!l[k].1==l'[k].1)=false∧_›;simp at h6;exact Hrel.out.trans (HD.out.trans ⟨fun h=>h.2,fun h=>⟨He.out.2 zo,h⟩⟩)
  ·go_wp2;refine hR.out _ _ ⟨aL ?_,hbel⟩;rw[aN (Hrel.out.2 ?_)];rw[zO zo,zO (by rw[← Hlen.out];omega)]
 ·have hne:((l.length:Int) != (l'.length:Int))=true:=by simp;omega
  go_enter Tryz.func245,Tryz.ntmps245
  go_wp2;exact hR.out _ _ ⟨aL (by rw[aK (fun h=>hlen (by rw[h]))]),zP _ _⟩
theorem eX:gL Tryz.prog 22 153 2 16:=⟨Tryz.underlying22,zo,by
 obtain⟨i,h1,h2,h3,h4⟩:=info_parts (P:=Tryz.prog) (e:=153) (z:=.agg #[.int .i64 0,.int .i64 0]) (size:=2) (bytes:=16) zk;exact⟨i,_,h1,h2,h3,h4,rfl⟩⟩
theorem vM:(Tryz.prog.info? 153).map (fun i=>(i.zero,i.size,i.bytes))=some (some (.agg #[.int .i64 0,.int .i64 0]),2,16):=by kernel_rfl
theorem Kr (n:Nat):(madeCells (Value.agg #[.int .i64 0,.int .i64 0]).cells (n*2)).toList=aS (List.replicate n (0,0)):=by
 apply List.ext_getElem?;intro j;by_cases hj:j<n*2
 ·obtain⟨i,hij⟩:∃i,j=i*2∨j=i*2+1:=⟨j / 2,zo⟩;obtain⟨k1,k2⟩:=jH (List.replicate n ((0:Int),(0:Int))) i (by simp;omega);rcases hij with rfl | rfl
  ·rw[k1];simp[madeCells,Value.cells,hj]
  ·rw[k2];have:(i*2+1) % 2=1:=zo;simp[madeCells,Value.cells,hj,this]
 ·rw[List.getElem?_eq_none (by simp[madeCells];omega),List.getElem?_eq_none (by rw[bN];simp;omega)]
theorem sN {w:World} {ops:Array Oper} {rest:List Oper} {o:Oper} {a:Act} {Q:Exit→Act→World→Prop}
 (hg:o.guard=none) (l c:Operand) (hop:o.op=Op.makeSlice 22 l c) (n:Nat) (hl:a.eval l=.int .i64 n) (hc:a.eval c=.int .i64 n) (b3:n≤1000000)
 (hK:∀w',w'.ownsRow 0 153 2 (.slice (some ⟨w.heap.size,0,none⟩) n n) n (aS (List.replicate n (0,0)))→w.grownBy w' none→wpList Tryz.prog ops Q rest (a.put o.dst (.slice (some ⟨w.heap.size,0,none⟩) n n)) w') :
 wpList Tryz.prog ops Q (o::rest) a w:=by
 obtain⟨i,hi,hz,hs,hb⟩:=info_parts vM;refine wpList_make_full w hg l c 22 hop 0 153 i _ 2 Tryz.underlying22 hi hz hs .i64 .i64 n n n hl hc rfl rfl (by rw[hb];omega) (by unfold maxLen;omega) (zC _) ?_;intro w' h1 h2;rw[Kr] at h1;exact hK w' h1 h2
theorem BU (w:World) (ty:TypeId) (g n c sc:Nat) (a:Addr) (cur:Array Value) (t:TypeId) (cs:List Value)
 (hg:w.heap[g]?=some (.cells cur t (0,0))) (hn:cs.length=n*2) (hsrc:∀j v,cs[j]?=some v→w.cell? (a.add j)=some v) (hfit:cs.length≤cur.size) (h1:∀v∈cs,v.oneCell'=true) :
 (Builtin.copy_ #[22,22] ty #[.slice (some ⟨g,0,none⟩) n c,.slice (some a) n sc]).run Tryz.prog w=.ok (goInt n) (w.setRow g (cs ++ cur.toList.drop cs.length).toArray):=by
 have hl:=run_loadCells_list (P:=Tryz.prog) w a cs hsrc;have hst:=run_storeCells_at Tryz.prog g 0 t cs 0 cur w hg (by simpa using hfit) h1;obtain⟨i,hi,hz,hs,hb⟩:=info_parts vM;simp[Builtin.copy_,run_underlying Tryz.underlying22,Builtin.lenOf,Builtin.firstCells,Go.sizeOf,typeInfo,hi,hs,← hn,hl,hst]
theorem BS (w:World) (ty:TypeId) (g c sc:Nat) (a:Option Addr) :
 (Builtin.copy_ #[22,22] ty #[.slice (some ⟨g,0,none⟩) 0 c,.slice a 0 sc]).run Tryz.prog w=.ok (goInt 0) w:=by
 obtain⟨i,hi,hz,hs,hb⟩:=info_parts vM;cases a <;> simp[Builtin.copy_,run_underlying Tryz.underlying22,Builtin.lenOf,Builtin.firstCells,Go.sizeOf,typeInfo,hi,storeCells,loadCells,loadCellsFrom]
theorem KW {w:World} (ty:TypeId) (g n sc:Nat) (src:Option Addr) (xs cs:List Value) (hown:w.ownsRow 0 153 2 (.slice (some ⟨g,0,none⟩) n n) n xs)
 (hcl:cs.length=n*2) (hsrc:0<n→∃ad,src=some ad∧∀j u,cs[j]?=some u→w.cell? (ad.add j)=some u) (h1:∀v∈cs,v.oneCell'=true) :
 ∃w',(Builtin.copy_ #[22,22] ty #[.slice (some ⟨g,0,none⟩) n n,.slice src n sc]).run Tryz.prog w=.ok (goInt n) w' ∧
  w'.ownsRow 0 153 2 (.slice (some ⟨g,0,none⟩) n n) n cs∧w.grownBy w' (some g):=by
 by_cases h0:n=0
 ·subst h0;obtain rfl:cs=[]:=yH (by simpa using hcl);have hx:xs=[]:=yH (by simpa using hown.1);subst hx;exact⟨w,BS w ty g 0 sc src,hown,⟨rfl,rfl,rfl,zG _,fun k _ _=>rfl⟩⟩
 ·obtain⟨ad,rfl,hsr⟩:=hsrc zo;clear hsrc;rcases hown.2 with ⟨hv,-⟩ | ⟨g',cap,cur,hv,hbg,hg,hnc,hcm,hcs,htake⟩
  ·cases hv
  ·cases hv;have hrun:=BU w ty g n n sc ad cur 153 cs hg hcl hsr (by rw[hcl,hcs];exact zG _) h1;have hdrop:cur.toList.drop cs.length=[]:=zO (by rw[hcl,← hcs];simp);rw[hdrop,yM] at hrun;refine ⟨_,hrun,⟨hcl,.inr ⟨g,n,cs.toArray,rfl,hbg,setRow_heap w g cur _ _ _ hg,hnc,hcm,by simpa using hcl,?_⟩⟩,⟨rfl,rfl,rfl,by simp[World.setRow],fun k hk hne=>setRow_other w g k _ (fun e=>hne (by rw[e]))⟩⟩;simp only;exact List.take_of_length_le zo
structure oz (gf:Nat) (nx:Int→Int):Prop where
 run:∀(u:Int) (w:World),-1000000000000002≤u→u≤1000000000000002→Calls Tryz.prog gf #[.int .i64 u] w fun e w'=>e=.returned (.int .i64 (nx u))∧Below w.heap.size w w'
 ent:Hid (∀(x:Int) (w:World),Sem.run Tryz.prog (callFunc gf #[.int .i64 x]) w=.ok (.enter gf #[.int .i64 x]) w)
theorem AX:oz 214 (fun n=>n+1):=⟨fun u w=>Gg u w,zh fun x w=>by go_simp⟩
theorem AY:oz 215 iN:=⟨fun u w=>Gj u w,zh fun x w=>by go_simp⟩
theorem MR:oz 283 (fun n=>n - 1):=⟨fun u w=>Kj u w,zh fun x w=>by go_simp⟩
theorem Gp:oz 284 gV:=⟨fun u w=>Ei u w,zh fun x w=>by go_simp⟩
def spIn (s:Spn):Prop := -1000000000000002≤s.1∧s.1≤s.2∧s.2≤1000000000000002
theorem vZ {s:Spn} (h:spIn s):spOk s:=by unfold spIn at h;unfold spOk;omega
def KC (nx:Int→Int) (a:Int):List Spn→Bool
 | []=>false
 | t::_=>decide (a≤nx t.2)
theorem IB {w:World} {t:TypeId} {a:Option Addr} {n c:Nat} {xs:List Value} (h:w.ownsRow 0 t 2 (.slice a n c) n xs) (hn:0<n):∃g,a=some ⟨g,0,none⟩:=by
 rcases h.2 with ⟨h1,h2⟩ | ⟨g,cap,cur,h1,-⟩
 ·omega
 ·injection h1 with e;exact⟨g,e⟩
theorem uL (gf:Nat) (nx:Int→Int) (hN:oz gf nx) (v:Value) (l:List Spn) (m:Mem) (w:World) (hm:m.inn w) (hl:bM m v l) (hlen:l.length≤1000000) (hin:∀s∈l,spIn s) :
 Calls Tryz.prog 213 #[v,.func (.func gf) #[] #[]] w fun e w'=>∃r p,e=.returned r∧Below w.heap.size w w'∧p.Perm l∧(p.Pairwise fun s t=>s.1≤t.1)∧bM (m.grow w w') r (jB nx p []).reverse:=by
 obtain⟨a,c,rfl⟩:=bO hl;refine aj fun R hR=>?_;have hone:∀v∈aS l,v.oneCell'=true:=fun v hv=>by
  obtain⟨q,-,hq⟩:=List.mem_flatMap.1 hv;simp at hq;rcases hq with rfl | rfl <;> rfl
 have HIN:=zh (zi hin (zi hl hone));clear hin hone hl
 go_enter Tryz.func213,Tryz.ntmps213
 go_wp2_with (refine sN rfl (.tmp 11) (.tmp 11) rfl l.length rfl rfl zo ?_)
 intro w1 h1 hg1;have hO1:=(Own.start hm).make h1 hg1;have hnews:0<l.length→∃ad,a=some ad∧∀j u,(aS l)[j]?=some u→w1.cell? (ad.add j)=some u:=fun h=>by
  obtain⟨b,off,e,h2⟩:=tu hO1.inn HIN.out.2.1 (by intro e;rw[e] at h;simp at h);exact⟨_,e,h2⟩
 generalize hG:w.heap.size=g at *
 obtain⟨w2,hrun,h2,hg2⟩:=KW 3 g l.length c a _ (aS l) h1 (bN l) hnews HIN.out.2.2;have hO2:=hO1.app h2 hg2 (N:=w1.heap.size) (fun k hk=>.inl hk) (zG _);have HO2:=zh hO2;have HS:=zh (JN hO2 zo);clear hO2 hO1 h1 h2 hg1 hg2 hnews
 go_wp2_with fail
 refine HS.out.mono ?_;rintro e w3 ⟨rfl,p,hp,hs,hO3⟩;have hpl:=hp.length_eq;have HP:=zh (zi hp (zi hs hpl));rw[hpl] at hO3;have hpin:∀s∈p,spIn s:=fun s hs'=>HIN.out.1 s (hp.mem_iff.1 hs');have HPI:=zh hpin;clear hp hs HS HO2 hrun hpin;go_wp2;refine au [1,6,18,19,20] (fun n vs wr=>∃(k:Nat) (vo:Value) (out:List Spn),k≤l.length∧n=l.length - k∧vs=[.func (.func gf) #[] #[],vo,.slice (some ⟨g,0,none⟩) l.length l.length,.int .i64 l.length,.int .i64 k] ∧
  Own w m wr m [.row vo 153 2 out.length (aS out.reverse),.row (.slice (some ⟨g,0,none⟩) l.length l.length) 153 2 l.length (aS p)]∧jB nx (p.drop k) out=jB nx p []∧out.length≤k∧(∀s∈out,spIn s)) ?_ ?_
 ·exact⟨_,0,.slice none 0 0,[],zC _,rfl,rfl,hO3.dI _ _,rfl,zG _,fun s h=>by cases h⟩
 clear hO3;rintro X z n vs wr hX - ⟨k,vo,out,hk,rfl,rfl,hO,hj,hol,hoi⟩;simp[litL,lk];obtain⟨voa,voc,rfl⟩:=aM hO.row;by_cases hlt:k<l.length
 ·have hkp:k<p.length:=by rw[hpl];exact hlt
  obtain⟨k1,k2⟩:=jH p k hkp;have r1:=aT hO.swap.row k1;have r2:=aT hO.swap.row k2;have rl:=(World.ownsRow.lt hO.swap.row _ rfl).2;have hq:=HPI.out p[k] (zB hkp);have HJ:=zh (zi (GD nx p k hkp) (zi (KD nx p k hkp) (zi hj hoi)));clear hj k1 k2 hoi;generalize p[k]=q at *
  obtain⟨qa,qb⟩:=q;simp only at r1 r2;have HO2:=zh (hO.al #[.int .i64 qa,.int .i64 qb] 153);clear hO;go_wp2;generalize hW2:wr.alloc (.cells #[.int .i64 qa,.int .i64 qb] 153)=w5 at *
  generalize wr.heap.size=S at *
  refine aI [1,6,8,9,18,19,20,40] (fun vs w'=>vs=[.func (.func gf) #[] #[],.slice voa out.length voc,.pointer (some ⟨S,0,none⟩),.int .i64 out.length,.slice (some ⟨g,0,none⟩) l.length l.length,.int .i64 l.length,.int .i64 k,.bool (KC nx qa out)] ∧
   Own w m w' m [.obj S 153 #[.int .i64 qa,.int .i64 qb],.row (.slice voa out.length voc) 153 2 out.length (aS out.reverse),.row (.slice (some ⟨g,0,none⟩) l.length l.length) 153 2 l.length (aS p)]) ?_ ?_
  ·intro Y hY
   cases out with
   | nil=>
    refine aU 15 6 (fun j=>[Fact.is (·=.int .i64 0),Fact.is (·=.bool false),Fact.is (·=.bool false),Fact.is (·=Go.undef),Fact.is (·=Go.undef),Fact.is (·=Go.undef),Fact.is (·=Go.undef),Fact.is (·=Go.undef),Fact.is (·=Go.undef),Fact.is (·=Go.undef),Fact.is (·=Go.undef),Fact.is (·=Go.undef),Fact.is (·=Go.undef),Fact.is (·=Go.undef),Fact.is (·=.bool false)].getD j Fact.any) zk zk ?_ ?_
    ·intro i hi o win a wr ho RA;rcases (show i=0∨i=1∨i=2∨i=3∨i=4∨i=5∨i=6∨i=7∨i=8∨i=9∨i=10∨i=11∨i=12∨i=13∨i=14 by omega) with rfl | rfl | rfl | rfl | rfl | rfl | rfl | rfl | rfl | rfl | rfl | rfl | rfl | rfl | rfl
     ·have e9:=RA.k 9;cases ho;exact wv rfl rfl rfl
     ·have e26:a.tmps.getD 26 undef=_:=RA.d 0 rfl;cases ho;exact wv rfl rfl rfl
     ·have e27:a.tmps.getD 27 undef=_:=RA.d 1 rfl;cases ho;exact wv rfl rfl rfl
     ·have e8:=RA.k 8;have e28:a.tmps.getD 28 undef=_:=RA.d 2 rfl;cases ho;exact wn rfl rfl rfl e28 rfl rfl
     ·have e29:a.tmps.getD 29 undef=_:=RA.d 3 rfl;have e28:a.tmps.getD 28 undef=_:=RA.d 2 rfl;cases ho;exact wn rfl rfl rfl e28 rfl rfl
     ·have e1:=RA.k 1;have e28:a.tmps.getD 28 undef=_:=RA.d 2 rfl;cases ho;exact wn rfl rfl rfl e28 rfl rfl
     ·have e6:=RA.k 6;have e28:a.tmps.getD 28 undef=_:=RA.d 2 rfl;cases ho;exact wn rfl rfl rfl e28 rfl rfl
     ·have e9:=RA.k 9;have e28:a.tmps.getD 28 undef=_:=RA.d 2 rfl;cases ho;exact wn rfl rfl rfl e28 rfl rfl
     ·have e33:a.tmps.getD 33 undef=_:=RA.d 7 rfl;have e28:a.tmps.getD 28 undef=_:=RA.d 2 rfl;cases ho;exact wn rfl rfl rfl e28 rfl rfl
     ·have e32:a.tmps.getD 32 undef=_:=RA.d 6 rfl;have e34:a.tmps.getD 34 undef=_:=RA.d 8 rfl;have e28:a.tmps.getD 28 undef=_:=RA.d 2 rfl;cases ho;exact wn rfl rfl rfl e28 rfl rfl
     ·have e35:a.tmps.getD 35 undef=_:=RA.d 9 rfl;have e28:a.tmps.getD 28 undef=_:=RA.d 2 rfl;cases ho;exact wn rfl rfl rfl e28 rfl rfl
     ·have e36:a.tmps.getD 36 undef=_:=RA.d 10 rfl;have e28:a.tmps.getD 28 undef=_:=RA.d 2 rfl;cases ho;exact wn rfl rfl rfl e28 rfl rfl
     ·have e31:a.tmps.getD 31 undef=_:=RA.d 5 rfl;have e37:a.tmps.getD 37 undef=_:=RA.d 11 rfl;have e28:a.tmps.getD 28 undef=_:=RA.d 2 rfl;cases ho;exact wn rfl rfl rfl e28 rfl rfl
     ·have e30:a.tmps.getD 30 undef=_:=RA.d 4 rfl;have e38:a.tmps.getD 38 undef=_:=RA.d 12 rfl;have e28:a.tmps.getD 28 undef=_:=RA.d 2 rfl;cases ho;exact wn rfl rfl rfl e28 rfl rfl
     ·have e28:a.tmps.getD 28 undef=_:=RA.d 2 rfl;have e39:a.tmps.getD 39 undef=_:=RA.d 13 rfl;cases ho;exact wv rfl rfl rfl
    ·intro win a wr E;have e1:=E.keep 1 zk;have e6:=E.keep 6 zk;have e8:=E.keep 8 zk;have e9:=E.keep 9 zk;have e18:=E.keep 18 zk;have e19:=E.keep 19 zk;have e20:=E.keep 20 zk;have e40:a.tmps.getD 40 undef=.bool false:=E.fact 14 _ zo rfl;obtain⟨t1,d⟩:=a;obtain rfl:d=[]:=E.defers;refine bS zk (hY.out _ _ E.size ⟨?_,HO2.out.dr.move E.below⟩) _;simp only[yG,List.map_nil,e1,e6,e8,e9,e18,e19,e20,e40]
     rfl
   | cons t r=>
    simp only[yJ] at *
    have hrl:r.length+1≤1000000:=zo;have hq1:(aS (t::r).reverse)[r.length*2+1]?=some (.int .i64 t.2):=by
     rw[List.reverse_cons,aX,yI (by rw[bN];simp),bN];simp[Nat.add_comm]
    obtain⟨vob,rfl⟩:=IB HO2.out.swap.row zS;have Hq:=zh (zi hq1 (HJ.out.2.2.2 t (yA ..)));clear hq1;refine aU 15 6 (fun j=>[Fact.is (·=.int .i64 (r.length+1:Nat)),Fact.is (·=.bool true),Fact.is (·=.bool true),Fact.is (·=.pointer (some ⟨S,0,none⟩)),Fact.is (·=.int .i64 qa),Fact.is (·=.func (.func gf) #[] #[]),Fact.is (·=.slice (some ⟨vob,0,none⟩) (r.length+1) voc),Fact.is (·=.int .i64 (r.length+1:Nat)),Fact.is (·=.int .i64 (r.length:Nat)),Fact.is (·=.pointer (some ⟨vob,r.length*2,none⟩)),Fact.is (·=.pointer (some ⟨vob,r.length*2+1,none⟩)),Fact.is (·=.int .i64 t.2),Fact.is (·=.int .i64 (nx t.2)),Fact.is (·=.bool (decide (qa≤nx t.2))),Fact.is (·=.bool (decide (qa≤nx t.2)))].getD j Fact.any) zk zk ?_ ?_
    ·intro i hi o win a wr ho RA;have HO3:=HO2.out.dr.move RA.below;have q1:=HO3.obj.c 0;have q2:=aT HO3.swap.row Hq.out.1;have ql:=(World.ownsRow.lt HO3.swap.row _ rfl).2;have hw1:IntKind.i64.wrap (r.length:Int)=(r.length:Int):=IntWalk.i64_in _ zo;rcases (show i=0∨i=1∨i=2∨i=3∨i=4∨i=5∨i=6∨i=7∨i=8∨i=9∨i=10∨i=11∨i=12∨i=13∨i=14 by omega) with rfl | rfl | rfl | rfl | rfl | rfl | rfl | rfl | rfl | rfl | rfl | rfl | rfl | rfl | rfl
     ·have e9:=RA.k 9;cases ho;exact wv rfl rfl rfl
     ·have e26:a.tmps.getD 26 undef=_:=RA.d 0 rfl;cases ho;exact wv rfl rfl rfl
     ·have e27:a.tmps.getD 27 undef=_:=RA.d 1 rfl;cases ho;exact wv rfl rfl rfl
     ·have e8:=RA.k 8;have e28:a.tmps.getD 28 undef=_:=RA.d 2 rfl;cases ho;exact wy rfl rfl rfl e28 rfl
     ·have e29:a.tmps.getD 29 undef=_:=RA.d 3 rfl;have e28:a.tmps.getD 28 undef=_:=RA.d 2 rfl;cases ho;exact wy rfl rfl rfl e28 rfl
     ·have e1:=RA.k 1;have e28:a.tmps.getD 28 undef=_:=RA.d 2 rfl;cases ho;exact wy rfl rfl rfl e28 rfl
     ·have e6:=RA.k 6;have e28:a.tmps.getD 28 undef=_:=RA.d 2 rfl;cases ho;exact wy rfl rfl rfl e28 rfl
     ·have e9:=RA.k 9;have e28:a.tmps.getD 28 undef=_:=RA.d 2 rfl;cases ho;exact wy rfl rfl rfl e28 rfl
     ·have e33:a.tmps.getD 33 undef=_:=RA.d 7 rfl;have e28:a.tmps.getD 28 undef=_:=RA.d 2 rfl;cases ho;exact wy rfl rfl rfl e28 rfl
     ·have e32:a.tmps.getD 32 undef=_:=RA.d 6 rfl;have e34:a.tmps.getD 34 undef=_:=RA.d 8 rfl;have e28:a.tmps.getD 28 undef=_:=RA.d 2 rfl;cases ho;refine lh rfl (lN rfl rfl e28) (aP (by go_simp;intro hh;omega) ⟨_,rfl,zP _ _,rfl⟩)
     ·have e35:a.tmps.getD 35 undef=_:=RA.d 9 rfl;have e28:a.tmps.getD 28 undef=_:=RA.d 2 rfl;cases ho;exact wy rfl rfl rfl e28 rfl
     ·have e36:a.tmps.getD 36 undef=_:=RA.d 10 rfl;have e28:a.tmps.getD 28 undef=_:=RA.d 2 rfl;cases ho;exact wy rfl rfl rfl e28 rfl
     ·have e31:a.tmps.getD 31 undef=_:=RA.d 5 rfl;have e37:a.tmps.getD 37 undef=_:=RA.d 11 rfl;have e28:a.tmps.getD 28 undef=_:=RA.d 2 rfl;cases ho;have hr:=Hq.out.2;refine lh rfl (lN rfl rfl e28) (cO (by have hc:=fun w'=>hN.ent.out t.2 w';go_simp;first | done | rfl) (hN.run t.2 wr (by unfold spIn at hr;omega) (by unfold spIn at hr;omega)) ?_);rintro e w' ⟨rfl,hb⟩;exact⟨_,rfl,_,rfl,hb,rfl⟩
     ·have e30:a.tmps.getD 30 undef=_:=RA.d 4 rfl;have e38:a.tmps.getD 38 undef=_:=RA.d 12 rfl;have e28:a.tmps.getD 28 undef=_:=RA.d 2 rfl;cases ho;exact wy rfl rfl rfl e28 rfl
     ·have e28:a.tmps.getD 28 undef=_:=RA.d 2 rfl;have e39:a.tmps.getD 39 undef=_:=RA.d 13 rfl;cases ho;exact wv rfl rfl rfl
    ·intro win a wr E;have e1:=E.keep 1 zk;have e6:=E.keep 6 zk;have e8:=E.keep 8 zk;have e9:=E.keep 9 zk;have e18:=E.keep 18 zk;have e19:=E.keep 19 zk;have e20:=E.keep 20 zk;have e40:a.tmps.getD 40 undef=.bool (decide (qa≤nx t.2)):=E.fact 14 _ zo rfl;obtain⟨t1,d⟩:=a;obtain rfl:d=[]:=E.defers;refine bS zk (hY.out _ _ E.size ⟨?_,HO2.out.dr.move E.below⟩) _;simp only[yG,List.map_nil,e1,e6,e8,e9,e18,e19,e20,e40]
     rfl
  rintro z4 vs w6 - ⟨rfl,hO⟩;simp[litL,lk];have hjf:KC nx qa out=false→jB nx (p.drop k) out=jB nx (p.drop (k+1)) ((qa,qb)::out):=by
   intro h
   cases out with
   | nil=>exact HJ.out.1
   | cons t r=>
    rw[HJ.out.2.1,zH (by simpa [KC] using h)]
  cases hb:KC nx qa out with
  | false=>
   have Hjf:=zh (hjf hb);clear hjf hb;have hO2:=(hO.al #[.int .i64 qa,.int .i64 qb] 153).third;have hnews:=hO2.swap.obj.news rfl;have s1:=hO.obj.c 0;have s2:=hO.obj.c 1;have s3:=hO.obj.lt;clear HO2
   go_wp2_with (at_builtin;refine aA eX rfl (.tmp 55) (.tmp 57) rfl (.slice voa out.length voc) out.length _ rfl hO2.row ⟨w6.heap.size,0,none⟩ 1 1 [.int .i64 qa,.int .i64 qb] rfl rfl hnews (by simp[Value.oneCell']) (by unfold maxLen;omega) zo ?_)
   intro va vc w7 hown7 hgrow7 hrow7;have hO3:=(hO2.app hown7 hgrow7 hrow7 zS).drop2.drop2;have HO3:=zh hO3;clear hO3 hO2 hO hown7 hgrow7 hrow7 hnews s1 s2 s3;go_wp2;refine hX.out _ _ _ zo rfl ⟨k+1,_,(qa,qb)::out,zo,rfl,rfl,?_,?_,by simp;omega,?_⟩
   ·have:=HO3.out;rw[List.reverse_cons,aX];exact this
   ·rw[← Hjf.out];exact HJ.out.2.2.1
   ·intro s hs;rcases List.mem_cons.1 hs with rfl | hs
    ·exact hq
    ·exact HJ.out.2.2.2 s hs
  | true=>
   cases out with
   | nil=>simp[KC] at hb
   | cons t r=>
   have hd:qa≤nx t.2:=by simpa [KC] using hb
   have Hst:=zh (show jB nx (p.drop k) (t::r)=jB nx (p.drop (k+1)) ((t.1,max t.2 qb)::r) from by rw[HJ.out.2.1,zI hd]);clear hd hb hjf HO2;simp only[yJ] at *
   have hrl:r.length+1≤1000000:=zo;have hq1:(aS (t::r).reverse)[r.length*2+1]?=some (.int .i64 t.2):=by
    rw[List.reverse_cons,aX,yI (by rw[bN];simp),bN];simp[Nat.add_comm]
   have hset:∀y:Int,(aS (t::r).reverse).set (r.length*2+1) (.int .i64 y)=aS ((t.1,y)::r).reverse:=fun y=>by
    rw[List.reverse_cons,aX,List.set_append_right _ _ (by rw[bN];simp),bN,List.reverse_cons,aX];simp[Nat.add_comm]
   obtain⟨vob,rfl⟩:=IB hO.swap.row zS;have Hq:=zh (zi hq1 (zi hset (HJ.out.2.2.2 t (yA ..))));have HO:=zh hO;clear hq1 hset hO
   go_upto_region 10 with (fail)
   refine aI [1,6,18,19,20] (fun vs w'=>vs=[.func (.func gf) #[] #[],.slice (some ⟨vob,0,none⟩) (r.length+1) voc,.slice (some ⟨g,0,none⟩) l.length l.length,.int .i64 l.length,.int .i64 k] ∧
    Own w m w' m [.row (.slice (some ⟨vob,0,none⟩) (r.length+1) voc) 153 2 (r.length+1) (aS ((t.1,max t.2 qb)::r).reverse),.row (.slice (some ⟨g,0,none⟩) l.length l.length) 153 2 l.length (aS p)]) ?_ ?_
   ·intro Y hY;refine aU 14 6 (fun j=>[Fact.is (·=.slice (some ⟨vob,0,none⟩) (r.length+1) voc),Fact.is (·=.int .i64 (r.length+1:Nat)),Fact.is (·=.int .i64 (r.length:Nat)),Fact.is (·=.slice (some ⟨vob,0,none⟩) (r.length+1) voc),Fact.is (·=.int .i64 (r.length+1:Nat)),Fact.is (·=.int .i64 (r.length:Nat)),Fact.is (·=.pointer (some ⟨vob,r.length*2,none⟩)),Fact.is (·=.pointer (some ⟨vob,r.length*2+1,none⟩)),Fact.is (·=.int .i64 t.2),Fact.is (·=.pointer (some ⟨S,1,none⟩)),Fact.is (·=.int .i64 qb),Fact.is (·=.int .i64 (max t.2 qb)),Fact.is (·=.pointer (some ⟨vob,r.length*2,none⟩)),Fact.is (·=.pointer (some ⟨vob,r.length*2+1,none⟩))].getD j Fact.any) zk zk ?_ ?_
    ·intro i hi o win a wr ho RA;have HO3:=HO.out.dr.move RA.below;have q1:=HO3.obj.c 1;have q2:=aT HO3.swap.row Hq.out.1;have ql:=(World.ownsRow.lt HO3.swap.row _ rfl).2;have hw1:IntKind.i64.wrap (r.length:Int)=(r.length:Int):=IntWalk.i64_in _ zo;rcases (show i=0∨i=1∨i=2∨i=3∨i=4∨i=5∨i=6∨i=7∨i=8∨i=9∨i=10∨i=11∨i=12∨i=13 by omega) with rfl | rfl | rfl | rfl | rfl | rfl | rfl | rfl | rfl | rfl | rfl | rfl | rfl | rfl
     ·have e6:=RA.k 6;cases ho;exact wv rfl rfl rfl
     ·have e9:=RA.k 9;cases ho;exact wv rfl rfl rfl
     ·have e42:a.tmps.getD 42 undef=_:=RA.d 1 rfl;cases ho;exact wv rfl rfl rfl
     ·have e6:=RA.k 6;cases ho;exact wv rfl rfl rfl
     ·have e9:=RA.k 9;cases ho;exact wv rfl rfl rfl
     ·have e45:a.tmps.getD 45 undef=_:=RA.d 4 rfl;cases ho;exact wv rfl rfl rfl
     ·have e44:a.tmps.getD 44 undef=_:=RA.d 3 rfl;have e46:a.tmps.getD 46 undef=_:=RA.d 5 rfl;cases ho;refine aF rfl rfl (aP (by go_simp;intro hh;omega) ⟨_,rfl,zP _ _,rfl⟩)
     ·have e47:a.tmps.getD 47 undef=_:=RA.d 6 rfl;cases ho;exact wv rfl rfl rfl
     ·have e48:a.tmps.getD 48 undef=_:=RA.d 7 rfl;cases ho;exact wv rfl rfl rfl
     ·have e8:=RA.k 8;cases ho;exact wv rfl rfl rfl
     ·have e50:a.tmps.getD 50 undef=_:=RA.d 9 rfl;cases ho;exact wv rfl rfl rfl
     ·have e49:a.tmps.getD 49 undef=_:=RA.d 8 rfl;have e51:a.tmps.getD 51 undef=_:=RA.d 10 rfl;cases ho;exact wv rfl rfl rfl
     ·have e41:a.tmps.getD 41 undef=_:=RA.d 0 rfl;have e43:a.tmps.getD 43 undef=_:=RA.d 2 rfl;cases ho;refine aF rfl rfl (aP (by go_simp;intro hh;omega) ⟨_,rfl,zP _ _,rfl⟩)
     ·have e53:a.tmps.getD 53 undef=_:=RA.d 12 rfl;cases ho;exact wv rfl rfl rfl
    ·intro win a wr E;have e1:=E.keep 1 zk;have e6:=E.keep 6 zk;have e18:=E.keep 18 zk;have e19:=E.keep 19 zk;have e20:=E.keep 20 zk;have e52:a.tmps.getD 52 undef=.int .i64 (max t.2 qb):=E.fact 11 _ zo rfl;have e54:a.tmps.getD 54 undef=.pointer (some ⟨vob,r.length*2+1,none⟩):=E.fact 13 _ zo rfl;have hO1:=HO.out.dr.move E.below;have hfz:=dh hO1.swap.row (r.length*2+1);have hcl:=aT hO1.swap.row Hq.out.1;have hO2:=hO1.swap.setRow (r.length*2+1) (.int .i64 (max t.2 qb));rw[Hq.out.2.1] at hO2;have HZ:=zh hO2.drop2;have HE:=zh E;clear E hO1 hO2;refine dQ 14 zk (aF rfl rfl (aZ zg ?_));obtain⟨t1,d⟩:=a;obtain rfl:d=[]:=HE.out.defers;refine bS zk (hY.out _ _ HE.out.size ⟨?_,HZ.out⟩) _;simp only[yG,List.map_nil,e1,e6,e18,e19,e20]
     rfl
   rintro z5 vs w7 - ⟨rfl,hO⟩;simp[litL,lk];have HO3:=zh hO;clear hO;go_wp2;refine hX.out _ _ _ zo rfl ⟨k+1,_,(t.1,max t.2 qb)::r,zo,rfl,rfl,HO3.out,?_,by simp;omega,?_⟩
   ·rw[← Hst.out];exact HJ.out.2.2.1
   ·have ht:=Hq.out.2.2;intro s hs;rcases List.mem_cons.1 hs with rfl | hs
    ·unfold spIn at *;simp only;omega
    ·exact HJ.out.2.2.2 s (zR _ hs)
 ·obtain rfl:k=l.length:=zo;rw[zO zo] at hj;have hj2:out=jB nx p []:=hj;clear hj;subst hj2;have hst:=cz (m:=m) (l:=(jB nx p []).reverse) (by simpa using hO.row) (fun s hs=>vZ (hoi s (List.mem_reverse.1 hs)));have hfin:=aW hO.bv.done hst;have Hfin:=zh (zi hO.below hfin);clear hO hst hfin;go_wp2;refine hR.out _ _ ⟨_,p,rfl,by rw[← hG];exact Hfin.out.1,HP.out.1,HP.out.2.1,?_⟩;exact Hfin.out.2
theorem jd (w:World) (a:Addr) (v:Value):(w.setCell a v).heap.size=w.heap.size:=by simp[World.setCell]
theorem I4 {l:List Spn}:∀s∈ma l,spIn s:=fun s h=>by
 have:=Kz s h;unfold spIn;simp only[fG] at this;omega
theorem I6 {l:List Spn}:∀s∈jM l,spIn s:=fun s h=>by
 have:=Bd s h;unfold spIn;simp only[maxU] at this;omega
theorem LM {l:List Spn} {k:Nat} (h:k≤l.length):(ma (l.take k)).length≤k:=by
 have:=xA (l.take k);rw[List.length_take] at this;omega
theorem Dk {l:List Spn} {k:Nat} (h:k≤l.length):(jM (l.take k)).length≤k:=by
 have:=xB (l.take k);rw[List.length_take] at this;omega
theorem ib (vi vf:Value) (I F:List Spn) (m:Mem) (w:World) (hm:m.inn w) (hN:bu m vi vf I F) (hI:I.length≤100000) (hF:F.length≤100000) :
 Calls Tryz.prog 145 #[.agg #[vi,vf]] w fun e w'=>∃ri rf,e=.returned (.agg #[ri,rf])∧Below w.heap.size w w'∧bu (m.grow w w') ri rf (mkN I F).i (mkN I F).rf:=by
 have hO:=((Own.start hm).al #[vi,vf] 24).al #[.slice none 0 0,.slice none 0 0] 24;have hsz1:(w.alloc (.cells #[vi,vf] 24)).heap.size=w.heap.size+1:=by simp
 rw[hsz1] at hO;obtain⟨hi,hf⟩:=hN;have HI:=zh (zi hi hf);obtain⟨ai,ci,rfl,i1,i2,i3⟩:=hi;obtain⟨af,cf,rfl,f1,f2,f3⟩:=hf;unfold maxLen at i2 f2;have HO:=zh (hO.dI 153 2);clear hO hsz1;refine aj fun R hR=>?_
 go_enter Tryz.func145,Tryz.ntmps145
 go_wp2;refine au [1,2,3,4,10,11,12] (fun n vs wr=>∃(k:Nat) (vo:Value),k≤I.length∧n=I.length - k∧vs=[.pointer (some ⟨w.heap.size,0,none⟩),.pointer (some ⟨w.heap.size+1,0,none⟩),vo,.slice none 0 0,.slice ai I.length ci,.int .i64 I.length,.int .i64 k] ∧
  Own w m wr m [.row vo 153 2 (ma (I.take k)).length (aS (ma (I.take k))),.obj (w.heap.size+1) 24 #[.slice none 0 0,.slice none 0 0],.obj w.heap.size 24 #[.slice ai I.length ci,.slice af F.length cf]]) ?_ ?_
 ·exact⟨_,0,.slice none 0 0,zC _,rfl,rfl,HO.out⟩
 clear HO;rintro X z n vs wr hX - ⟨k,vo,hk,rfl,rfl,hO⟩;simp[litL,lk];obtain⟨voa,voc,rfl⟩:=aM hO.row;by_cases hlt:k<I.length
 ·obtain⟨b,off,rfl,h4⟩:=i3 (by intro h;simp[h] at hlt);have hg:=h4 k hlt;have r1:=Mem.ak hO.inn hg.1;have r2:=Mem.ak hO.inn hg.2.1;have rl:=Mem.ay hO.inn hg.1;have hstep:=Ky I k hlt;have hkl:=LM hk;have Hstep:=zh (zi hstep hg);clear hstep h4 hg;generalize ma (I.take k)=S0 at *
  generalize I[k]=q at *
  obtain⟨qa,qb⟩:=q;simp only at r1 r2;have HO2:=zh (hO.al #[.int .i64 qa,.int .i64 qb] 153);clear hO
  go_upto_region 5 with (fail)
  generalize hW2:wr.alloc (.cells #[.int .i64 qa,.int .i64 qb] 153)=w5 at *
  generalize wr.heap.size=S at *
  refine aI [1,2,3,4,6,10,11,12] (fun vs w'=>∃x y:Int,x=max qa (-fG)∧y=min qb fG∧vs=[.pointer (some ⟨w.heap.size,0,none⟩),.pointer (some ⟨w.heap.size+1,0,none⟩),.slice voa S0.length voc,.slice none 0 0,.pointer (some ⟨S,0,none⟩),.slice (some ⟨b,off,none⟩) I.length ci,.int .i64 I.length,.int .i64 k] ∧
   Own w m w' m [.obj S 153 #[.int .i64 x,.int .i64 y],.row (.slice voa S0.length voc) 153 2 S0.length (aS S0),.obj (w.heap.size+1) 24 #[.slice none 0 0,.slice none 0 0],.obj w.heap.size 24 #[.slice (some ⟨b,off,none⟩) I.length ci,.slice af F.length cf]]) ?_ ?_
  ·intro Y hY;have q1:=HO2.out.obj.c 0;have q2:=HO2.out.obj.c 1;have q3:=HO2.out.obj.frozen 0;have q4:=HO2.out.obj.frozen 1;have q5:=HO2.out.obj.lt;go_wp2
   all_goals refine hY.out _ _ rfl ⟨_,_,?_,?_,rfl,(HO2.out.set 0 _).set 1 _⟩
   all_goals first
    | omega
    | (unfold fG;omega)
  rintro z4 vs w6 - ⟨x,y,hx,hy,rfl,hO⟩;simp[litL,lk];have hcl:lL (qa,qb)=(x,y):=by unfold lL;rw[hx,hy]
  have Hcl:=zh hcl;clear hcl hx hy HO2 hW2;have s1:=hO.obj.c 0;have s2:=hO.obj.c 1;have s3:=hO.obj.lt;by_cases hxy:x≤y
  ·have hdec:decide (x≤y)=true:=zL hxy;have hO2:=(hO.al #[.int .i64 x,.int .i64 y] 153).third;have hnews:=hO2.swap.obj.news rfl;have Hxy:=zh hxy;clear hxy hO
   go_wp2_with (at_builtin;refine aA eX rfl (.tmp 28) (.tmp 30) rfl (.slice voa S0.length voc) S0.length _ rfl hO2.row ⟨w6.heap.size,0,none⟩ 1 1 [.int .i64 x,.int .i64 y] rfl rfl hnews (by simp[Value.oneCell']) (by unfold maxLen;omega) zo ?_)
   intro va vc w7 hown7 hgrow7 hrow7;have hO3:=(hO2.app hown7 hgrow7 hrow7 zS).drop2.drop2;have HO3:=zh hO3;clear hO3 hO2 hown7 hgrow7 hrow7 hnews s1 s2 s3;go_wp2;refine hX.out _ _ _ zo rfl ⟨k+1,_,zo,rfl,rfl,?_⟩;rw[Hstep.out.1,Hcl.out,zI (show x≤y from Hxy.out),aX,zJ];exact HO3.out
  ·have hdec:decide (x≤y)=false:=zK hxy;have HO3:=zh hO.tail;have Hxy:=zh hxy;clear hxy hO;go_wp2;refine hX.out _ _ _ zo rfl ⟨k+1,_,zo,rfl,rfl,?_⟩;rw[Hstep.out.1,Hcl.out,zH (fun h:x≤y=>absurd h (by have:=Hxy.out;omega)),yM];exact HO3.out
 ·obtain rfl:k=I.length:=zo;simp only[yB] at hO ⊢;have hst:=cz (m:=m) (l:=ma I) hO.row (fun s hs=>vZ (I4 s hs));have hle0:=Mem.dG (w:=wr) hO.free;have hO1:=hO.bv;generalize mkE:m.addv wr (.slice voa (ma I).length voc)=mk1 at *
  have HM:=zh (zi hst hle0);clear hst hle0 mkE;have q1:=hO1.swap.obj.c 1;have q2:=hO1.swap.obj.lt;have HO:=zh (hO1.dI 153 2);clear hO hO1;go_wp2;refine au [2,3,4,34,35,36] (fun n vs w'=>∃(k:Nat) (vo:Value),k≤F.length∧n=F.length - k∧vs=[.pointer (some ⟨w.heap.size+1,0,none⟩),.slice voa (ma I).length voc,vo,.slice af F.length cf,.int .i64 F.length,.int .i64 k] ∧
   Own w m w' mk1 [.row vo 153 2 (jM (F.take k)).length (aS (jM (F.take k))),.obj (w.heap.size+1) 24 #[.slice none 0 0,.slice none 0 0]]) ?_ ?_
  ·exact⟨_,0,.slice none 0 0,zC _,rfl,rfl,HO.out.kV⟩
  clear HO hX q1 q2;rintro X z n vs w8 hX - ⟨k,vo,hk,rfl,rfl,hO⟩;simp[litL,lk];obtain⟨vpa,vpc,rfl⟩:=aM hO.row;by_cases hlt:k<F.length
  ·obtain⟨b,off,rfl,h4⟩:=f3 (by intro h;simp[h] at hlt);have hg:=h4 k hlt;have hin:=Mem.cK HM.out.2 hO.inn;have r1:=Mem.ak hin hg.1;have r2:=Mem.ak hin hg.2.1;have rl:=Mem.ay hin hg.1;have hstep:=Bc F k hlt;have hkl:=Dk hk;have Hstep:=zh (zi hstep hg);clear hstep h4 hg hin;generalize jM (F.take k)=S0 at *
   generalize F[k]=q at *
   obtain⟨qa,qb⟩:=q;simp only at r1 r2;have HO2:=zh (hO.al #[.int .i64 qa,.int .i64 qb] 153);clear hO
   go_upto_region 12 with (fail)
   generalize hW2:w8.alloc (.cells #[.int .i64 qa,.int .i64 qb] 153)=w5 at *
   generalize w8.heap.size=S at *
   refine aI [2,3,4,8,34,35,36] (fun vs w'=>∃x y:Int,x=max qa (-maxU)∧y=min qb maxU∧vs=[.pointer (some ⟨w.heap.size+1,0,none⟩),.slice voa (ma I).length voc,.slice vpa S0.length vpc,.pointer (some ⟨S,0,none⟩),.slice (some ⟨b,off,none⟩) F.length cf,.int .i64 F.length,.int .i64 k] ∧
    Own w m w' mk1 [.obj S 153 #[.int .i64 x,.int .i64 y],.row (.slice vpa S0.length vpc) 153 2 S0.length (aS S0),.obj (w.heap.size+1) 24 #[.slice none 0 0,.slice none 0 0]]) ?_ ?_
   ·intro Y hY;have q1:=HO2.out.obj.c 0;have q2:=HO2.out.obj.c 1;have q3:=HO2.out.obj.frozen 0;have q4:=HO2.out.obj.frozen 1;have q5:=HO2.out.obj.lt;go_wp2
    all_goals refine hY.out _ _ rfl ⟨_,_,?_,?_,rfl,(HO2.out.set 0 _).set 1 _⟩
    all_goals first
     | omega
     | (unfold maxU;omega)
   rintro z4 vs w6 - ⟨x,y,hx,hy,rfl,hO⟩;simp[litL,lk];have hb:(-1000000000000000≤x∧x≤9223372036854775807)∧(y≤1000000000000000 ∧ -9223372036854775808≤y):=by
    have:=Hstep.out.2.2.2;simp only[maxU] at hx hy;omega
   have hcl:iH (qa,qb)=(if x % 10000=0 then x+1 else x,if y % 10000=0 then y - 1 else y):=by unfold iH trimF;rw[hx,hy]
   have Hcl:=zh (zi hcl hb);have hx7:=zh (lQ x);have hy7:=zh (lQ y);clear hcl hx hy HO2 hW2;have q3:=hO.obj.frozen 0;have q4:=hO.obj.frozen 1;have s1:=hO.obj.c 0;have s2:=hO.obj.c 1;have s3:=hO.obj.lt;obtain⟨hbx,hby⟩:=hb;have HO4:=zh hO;clear hO;by_cases ex:x % 10000=0 <;> by_cases ey:y % 10000=0
   ·have d1:(x.tmod 10000==0)=true:=by first | exact beq_iff_eq.2 (hx7.out.2 ex) | exact beq_eq_false_iff_ne.2 (fun e=>ex (hx7.out.1 e))
    have d2:(y.tmod 10000==0)=true:=by first | exact beq_iff_eq.2 (hy7.out.2 ey) | exact beq_eq_false_iff_ne.2 (fun e=>ey (hy7.out.1 e))
    have hO:=((HO4.out.set 0 (.int .i64 (x+1))).set 1 (.int .i64 (y - 1)));have hcl2:iH (qa,qb)=((x+1),(y - 1)):=by rw[Hcl.out.1];simp[ex,ey]
    have Hcl2:=zh hcl2;have s4:=hO.obj.c 0;have s5:=hO.obj.c 1;have s6:=hO.obj.lt;clear hcl2;by_cases hxy:(x+1)≤(y - 1)
    ·have hdec:decide ((x+1)≤(y - 1))=true:=zL hxy;have hO2:=(hO.al #[.int .i64 ((x+1)),.int .i64 ((y - 1))] 153).third
     try simp only[jd] at hO2
     have hnews:=hO2.swap.obj.news rfl;have Hxy:=zh hxy;clear hxy hO
     go_wp2_with (at_builtin;refine aA eX rfl (.tmp 68) (.tmp 70) rfl (.slice vpa S0.length vpc) S0.length _ rfl hO2.row ⟨_,0,none⟩ 1 1 [.int .i64 ((x+1)),.int .i64 ((y - 1))] rfl rfl hnews (by simp[Value.oneCell']) (by unfold maxLen;omega) zo ?_)
     intro va vc w7 hown7 hgrow7 hrow7;have hO3:=(hO2.app hown7 hgrow7 hrow7 zS).drop2.drop2;have HO3:=zh hO3;clear hO3 hO2 hown7 hgrow7 hrow7 hnews s1 s2 s3 s4 s5 s6 HO4;go_wp2;refine hX.out _ _ _ zo rfl ⟨k+1,_,zo,rfl,rfl,?_⟩;rw[Hstep.out.1,Hcl2.out,zI (show (x+1)≤(y - 1) from Hxy.out),aX,zJ];exact HO3.out
    ·have hdec:decide ((x+1)≤(y - 1))=false:=zK hxy;have HO3:=zh hO.tail;have Hxy:=zh hxy;clear hxy hO;go_wp2;refine hX.out _ _ _ zo rfl ⟨k+1,_,zo,rfl,rfl,?_⟩;rw[Hstep.out.1,Hcl2.out,zH (fun h:(x+1)≤(y - 1)=>absurd h (by have:=Hxy.out;omega)),yM];exact HO3.out
   ·have d1:(x.tmod 10000==0)=true:=by first | exact beq_iff_eq.2 (hx7.out.2 ex) | exact beq_eq_false_iff_ne.2 (fun e=>ex (hx7.out.1 e))
    have d2:(y.tmod 10000==0)=false:=by first | exact beq_iff_eq.2 (hy7.out.2 ey) | exact beq_eq_false_iff_ne.2 (fun e=>ey (hy7.out.1 e))
    have hO:=(HO4.out.set 0 (.int .i64 (x+1)));have hcl2:iH (qa,qb)=((x+1),(y)):=by rw[Hcl.out.1];simp[ex,ey]
    have Hcl2:=zh hcl2;have s4:=hO.obj.c 0;have s5:=hO.obj.c 1;have s6:=hO.obj.lt;clear hcl2;by_cases hxy:(x+1)≤(y)
    ·have hdec:decide ((x+1)≤(y))=true:=zL hxy;have hO2:=(hO.al #[.int .i64 ((x+1)),.int .i64 ((y))] 153).third
     try simp only[jd] at hO2
     have hnews:=hO2.swap.obj.news rfl;have Hxy:=zh hxy;clear hxy hO
     go_wp2_with (at_builtin;refine aA eX rfl (.tmp 68) (.tmp 70) rfl (.slice vpa S0.length vpc) S0.length _ rfl hO2.row ⟨_,0,none⟩ 1 1 [.int .i64 ((x+1)),.int .i64 ((y))] rfl rfl hnews (by simp[Value.oneCell']) (by unfold maxLen;omega) zo ?_)
     intro va vc w7 hown7 hgrow7 hrow7;have hO3:=(hO2.app hown7 hgrow7 hrow7 zS).drop2.drop2;have HO3:=zh hO3;clear hO3 hO2 hown7 hgrow7 hrow7 hnews s1 s2 s3 s4 s5 s6 HO4;go_wp2;refine hX.out _ _ _ zo rfl ⟨k+1,_,zo,rfl,rfl,?_⟩;rw[Hstep.out.1,Hcl2.out,zI (show (x+1)≤(y) from Hxy.out),aX,zJ];exact HO3.out
    ·have hdec:decide ((x+1)≤(y))=false:=zK hxy;have HO3:=zh hO.tail;have Hxy:=zh hxy;clear hxy hO;go_wp2;refine hX.out _ _ _ zo rfl ⟨k+1,_,zo,rfl,rfl,?_⟩;rw[Hstep.out.1,Hcl2.out,zH (fun h:(x+1)≤(y)=>absurd h (by have:=Hxy.out;omega)),yM];exact HO3.out
   ·have d1:(x.tmod 10000==0)=false:=by first | exact beq_iff_eq.2 (hx7.out.2 ex) | exact beq_eq_false_iff_ne.2 (fun e=>ex (hx7.out.1 e))
    have d2:(y.tmod 10000==0)=true:=by first | exact beq_iff_eq.2 (hy7.out.2 ey) | exact beq_eq_false_iff_ne.2 (fun e=>ey (hy7.out.1 e))
    have hO:=(HO4.out.set 1 (.int .i64 (y - 1)));have hcl2:iH (qa,qb)=((x),(y - 1)):=by rw[Hcl.out.1];simp[ex,ey]
    have Hcl2:=zh hcl2;have s4:=hO.obj.c 0;have s5:=hO.obj.c 1;have s6:=hO.obj.lt;clear hcl2;by_cases hxy:(x)≤(y - 1)
    ·have hdec:decide ((x)≤(y - 1))=true:=zL hxy;have hO2:=(hO.al #[.int .i64 ((x)),.int .i64 ((y - 1))] 153).third
     try simp only[jd] at hO2
     have hnews:=hO2.swap.obj.news rfl;have Hxy:=zh hxy;clear hxy hO
     go_wp2_with (at_builtin;refine aA eX rfl (.tmp 68) (.tmp 70) rfl (.slice vpa S0.length vpc) S0.length _ rfl hO2.row ⟨_,0,none⟩ 1 1 [.int .i64 ((x)),.int .i64 ((y - 1))] rfl rfl hnews (by simp[Value.oneCell']) (by unfold maxLen;omega) zo ?_)
     intro va vc w7 hown7 hgrow7 hrow7;have hO3:=(hO2.app hown7 hgrow7 hrow7 zS).drop2.drop2;have HO3:=zh hO3;clear hO3 hO2 hown7 hgrow7 hrow7 hnews s1 s2 s3 s4 s5 s6 HO4;go_wp2;refine hX.out _ _ _ zo rfl ⟨k+1,_,zo,rfl,rfl,?_⟩;rw[Hstep.out.1,Hcl2.out,zI (show (x)≤(y - 1) from Hxy.out),aX,zJ];exact HO3.out
    ·have hdec:decide ((x)≤(y - 1))=false:=zK hxy;have HO3:=zh hO.tail;have Hxy:=zh hxy;clear hxy hO;go_wp2;refine hX.out _ _ _ zo rfl ⟨k+1,_,zo,rfl,rfl,?_⟩;rw[Hstep.out.1,Hcl2.out,zH (fun h:(x)≤(y - 1)=>absurd h (by have:=Hxy.out;omega)),yM];exact HO3.out
   ·have d1:(x.tmod 10000==0)=false:=by first | exact beq_iff_eq.2 (hx7.out.2 ex) | exact beq_eq_false_iff_ne.2 (fun e=>ex (hx7.out.1 e))
    have d2:(y.tmod 10000==0)=false:=by first | exact beq_iff_eq.2 (hy7.out.2 ey) | exact beq_eq_false_iff_ne.2 (fun e=>ey (hy7.out.1 e))
    have hO:=(HO4.out);have hcl2:iH (qa,qb)=((x),(y)):=by rw[Hcl.out.1];simp[ex,ey]
    have Hcl2:=zh hcl2;have s4:=hO.obj.c 0;have s5:=hO.obj.c 1;have s6:=hO.obj.lt;clear hcl2;by_cases hxy:(x)≤(y)
    ·have hdec:decide ((x)≤(y))=true:=zL hxy;have hO2:=(hO.al #[.int .i64 ((x)),.int .i64 ((y))] 153).third
     try simp only[jd] at hO2
     have hnews:=hO2.swap.obj.news rfl;have Hxy:=zh hxy;clear hxy hO
     go_wp2_with (at_builtin;refine aA eX rfl (.tmp 68) (.tmp 70) rfl (.slice vpa S0.length vpc) S0.length _ rfl hO2.row ⟨_,0,none⟩ 1 1 [.int .i64 ((x)),.int .i64 ((y))] rfl rfl hnews (by simp[Value.oneCell']) (by unfold maxLen;omega) zo ?_)
     intro va vc w7 hown7 hgrow7 hrow7;have hO3:=(hO2.app hown7 hgrow7 hrow7 zS).drop2.drop2;have HO3:=zh hO3;clear hO3 hO2 hown7 hgrow7 hrow7 hnews s1 s2 s3 s4 s5 s6 HO4;go_wp2;refine hX.out _ _ _ zo rfl ⟨k+1,_,zo,rfl,rfl,?_⟩;rw[Hstep.out.1,Hcl2.out,zI (show (x)≤(y) from Hxy.out),aX,zJ];exact HO3.out
    ·have hdec:decide ((x)≤(y))=false:=zK hxy;have HO3:=zh hO.tail;have Hxy:=zh hxy;clear hxy hO;go_wp2;refine hX.out _ _ _ zo rfl ⟨k+1,_,zo,rfl,rfl,?_⟩;rw[Hstep.out.1,Hcl2.out,zH (fun h:(x)≤(y)=>absurd h (by have:=Hxy.out;omega)),yM];exact HO3.out
  ·obtain rfl:k=F.length:=zo;simp only[yB] at hO ⊢;have hst:=cz (m:=mk1) (l:=jM F) hO.row (fun s hs=>vZ (I6 s hs));have hle0:=Mem.dG (w:=w8) hO.free;have hO1:=hO.bv;generalize mkE:mk1.addv w8 (.slice vpa (jM F).length vpc)=mk2 at *
   have HI1:=zh (uL 214 _ AX _ (ma I) mk2 w8 hO1.inn (aW hle0 HM.out.1) (by have:=xA I;omega) I4);have HF1:=zh (zi hst hO1);clear hst hle0 mkE hO hO1 hX
   go_wp2_with fail
   refine HI1.out.mono ?_;rintro e wa ⟨r1,p1,rfl,hb1,hp1,hs1,hr1⟩;have hO2:=HF1.out.2.call hb1;have hj1:=M4 hp1 hs1;rw[hj1] at hr1;have HF2:=zh (uL 215 _ AY _ (jM F) _ wa hO2.inn (aW (Mem.dF HF1.out.2.inn) HF1.out.1) (by have:=xB F;omega) I6);have HR1:=zh (zi hr1 hO2);obtain⟨ra,rc,rfl⟩:=bO hr1;clear HI1 HF1 hb1 hj1 hp1 hs1 hO2 hr1
   go_wp2_with fail
   refine HF2.out.mono ?_;rintro e wb ⟨r2,p2,rfl,hb2,hp2,hs2,hr2⟩;have hO2:=HR1.out.2.call hb2;have hj1:=Kq hp2 hs2;rw[hj1] at hr2;have hr1:=aW (Mem.dF HR1.out.2.inn (w:=wb)) HR1.out.1;obtain⟨sa,sc,rfl⟩:=bO hr2;simp only[List.length_map] at hr2;have g0:=hO2.obj.c 0;have g1:=hO2.obj.c 1;have g2:=hO2.obj.frozen 0;have g3:=hO2.obj.frozen 1;have g4:=hO2.obj.lt;have hO3:=(hO2.set 0 (.slice ra (lD I).length rc)).set 1 (.slice sa (jN F).length sc);have g5:=hO3.obj.c 0;have g6:=hO3.obj.c 1;have hfin:bu (m.grow w _) _ _ (mkN I F).i (mkN I F).rf:=⟨aW hO3.done hr1,aW hO3.done hr2⟩;have Hk:=zh (zi hO3.below hfin);clear HR1 HF2 hb2 hj1 hp2 hs2 hr1 hr2 hO2 hO3 hfin;go_wp2;refine yQ (v:=.agg #[.slice ra (lD I).length rc,.slice sa (jN F).length sc]) (by simp[results,Tryz.results145,go_sem,g5,g6]) rfl ?_;exact hR.out _ _ ⟨_,_,rfl,Hk.out.1,Hk.out.2⟩
def NumV (I F:List Spn) (m:Mem) (v:Value):Prop:=∃xa xc ya yc,v=.agg #[.slice xa I.length xc,.slice ya F.length yc]∧bu m (.slice xa I.length xc) (.slice ya F.length yc) I F
def SpV (l:List Spn) (m:Mem) (v:Value):Prop:=∃a c,v=.slice a l.length c∧bM m (.slice a l.length c) l
theorem bu.spell {m:Mem} {vi vf:Value} {I F:List Spn} (h:bu m vi vf I F):∃xa xc ya yc,vi=.slice xa I.length xc∧vf=.slice ya F.length yc:=by
 obtain⟨a,c,rfl⟩:=bO h.i;obtain⟨b,d,rfl⟩:=bO h.f;exact⟨a,c,b,d,rfl,rfl⟩
theorem gB {m:Mem} {vi vf:Value} {I F:List Spn} (h:bu m vi vf I F):NumV I F m (.agg #[vi,vf]):=by
 obtain⟨a,c,b,d,rfl,rfl⟩:=h.spell;exact⟨a,c,b,d,rfl,h⟩
theorem nE {m:Mem} {v:Value} {l:List Spn} (h:bM m v l):SpV l m v:=by
 obtain⟨a,c,rfl⟩:=bO h;exact⟨a,c,rfl,h⟩
theorem NumV.le {I F:List Spn} {m m':Mem} (h:m.le m') {v:Value} (k:NumV I F m v):NumV I F m' v:=by
 obtain⟨a,c,b,d,e,h1⟩:=k;exact⟨a,c,b,d,e,h1.le h⟩
theorem SpV.le {l:List Spn} {m m':Mem} (h:m.le m') {v:Value} (k:SpV l m v):SpV l m' v:=by
 obtain⟨a,c,e,h1⟩:=k;exact⟨a,c,e,aW h h1⟩
theorem fQ {R:Mem→Value→Prop} (hle:∀{m m':Mem},m.le m'→∀{v:Value},R m v→R m' v) {m:Mem} {w w':World} {win:Win} {i:Nat} (hm:m.inn w) (hb:Below w.heap.size w w') {r:Value}
 (h:R (m.grow w w') r):R (m.wins w' (win.put i (w.heap.size,w'.heap.size)) [i]) r:=hle (Mem.tL hm win i hb) h
theorem fZ {R:Mem→Value→Prop} (hle:∀{m m':Mem},m.le m'→∀{v:Value},R m v→R m' v) {m:Mem} {w w':World} {win:Win} {i:Nat} {ds:List Nat} (hm:m.inn w) (hd:∀d∈ds,d≠i) (hs:∀d∈ds,(win d).2≤w.heap.size)
 (hb:Below w.heap.size w w') {r:Value} (h:R ((m.wins w win ds).grow w w') r):R (m.wins w' (win.put i (w.heap.size,w'.heap.size)) (i::ds)) r:=hle (Mem.EJ hm win hd hs hb) h
theorem vJ {m:Mem} {R:Mem→Value→Prop} {w:World} {v:Value} {i:Nat} {q:Nat × Nat} (ds:List Nat) (win:Win) (hi:i ∉ ds) (hs:∀d∈ds,(win d).2≤w.heap.size) (h:R (m.wins w win ds) v) :
 (Fact.mem m ds R).holds v (win.put i q) w:=
 (Fact.mem m ds R).mono _ win _ w w (fun d hd=>⟨(Win.rA win _ (fun e=>hi (by rw[← e];exact hd))).symm,hs d hd⟩) (zP _ _) h
theorem Ki (vi vf ui uf:Value) (I F J G:List Spn) (m:Mem) (w:World) (hm:m.inn w) (h1:bu m vi vf I F) (h2:bu m ui uf J G) :
 Calls Tryz.prog 207 #[.agg #[vi,vf],.agg #[ui,uf]] w fun e w'=>e=.returned (.bool (tf (I=J∧F=G)))∧Below w.heap.size w w':=by
 have hO:=((Own.start hm).al #[vi,vf] 24).al #[ui,uf] 24;have hsz1:(w.alloc (.cells #[vi,vf] 24)).heap.size=w.heap.size+1:=by simp
 rw[hsz1] at hO;have HA:=zh (oC _ _ I J m _ hO.inn h1.i h2.i);have HB:=zh (fun w' (h:m.inn w')=>oC _ _ F G m w' h h1.f h2.f);obtain⟨a1,c1,b1,d1,rfl,rfl⟩:=h1.spell;obtain⟨a2,c2,b2,d2,rfl,rfl⟩:=h2.spell;have HO:=zh hO;clear hO hsz1 h1 h2;refine aj fun R hR=>?_
 go_enter Tryz.func207,Tryz.ntmps207
 go_wp2_with fail
 refine HA.out.mono ?_;rintro e w1 ⟨rfl,hb1⟩;have hO1:=HO.out.move hb1;by_cases e1:I=J
 ·rw[aN e1];have HB1:=zh (HB.out w1 hO1.inn);have q0:=hO1.obj.c 1;have q1:=hO1.swap.obj.c 1;have HO1:=zh hO1;have E1:=zh e1;clear HO hO1 hb1 HA HB e1
  go_wp2_with fail
  refine HB1.out.mono ?_;rintro e w2 ⟨rfl,hb2⟩;have Hb:=zh (HO1.out.move hb2).below;clear HO1 hb2 HB1 q0 q1;go_wp2;exact hR.out _ _ ⟨aL (fK ⟨fun h=>⟨E1.out,h⟩,fun h=>h.2⟩),Hb.out⟩
 ·rw[aK e1];have Hb:=zh hO1.below;have E1:=zh e1;clear HO hO1 hb1 HA HB e1;go_wp2;exact hR.out _ _ ⟨aL (by rw[aK (fun h=>E1.out h.1)]),Hb.out⟩
theorem Gh (vi vf:Value) (I F:List Spn) (m:Mem) (w:World) (hm:m.inn w) (h1:bu m vi vf I F) (hI:I.length≤100000) (hF:F.length≤100000) :
 Calls Tryz.prog 140 #[.agg #[vi,vf]] w fun e w'=>e=.returned (.bool (tf (I=(mkN I F).i∧F=(mkN I F).rf)))∧Below w.heap.size w w':=by
 have hO:=(Own.start hm).al #[vi,vf] 24;obtain⟨a1,c1,b1,d1,rfl,rfl⟩:=h1.spell;have HO:=zh hO;have H1:=zh h1;clear hO h1;refine aj fun R hR=>?_
 go_enter Tryz.func140,Tryz.ntmps140
 go_upto_region 1 with (fail)
 refine aI [2] (fun vs w'=>vs=[.bool (tf (I=(mkN I F).i∧F=(mkN I F).rf))]∧Below w.heap.size w w') ?_ ?_
 ·intro Y hY;refine aU 5 5 (fun j=>[Fact.is (·=.agg #[.slice a1 I.length c1,.slice b1 F.length d1]),Fact.is (·=.agg #[.slice a1 I.length c1,.slice b1 F.length d1]),Fact.mem m [2] (NumV (mkN I F).i (mkN I F).rf),Fact.is (·=.bool (tf (I=(mkN I F).i∧F=(mkN I F).rf))),Fact.is (·=.bool (tf (I=(mkN I F).i∧F=(mkN I F).rf)))].getD j Fact.any) zk zk ?_ ?_
  ·intro i hi o win a wr ho RA;have HO3:=HO.out.dr.move RA.below;have q1:=HO3.obj.c 0;have q2:=HO3.obj.c 1;rcases (show i=0∨i=1∨i=2∨i=3∨i=4 by omega) with rfl | rfl | rfl | rfl | rfl
   ·have e1:=RA.k 1;cases ho;exact wv rfl rfl rfl
   ·have e1:=RA.k 1;cases ho;exact wv rfl rfl rfl
   ·have e4:a.tmps.getD 4 undef=_:=RA.d 1 rfl;cases ho;refine we rfl rfl (ib _ _ I F m wr HO3.inn H1.out hI hF) ?_;rintro e w' ⟨ri,rf,rfl,hb,hn⟩;exact⟨_,rfl,_,rfl,hb,fQ NumV.le HO3.inn hb (gB hn)⟩
   ·have e3:a.tmps.getD 3 undef=_:=RA.d 0 rfl;have e5:(Fact.mem m [2] (NumV (mkN I F).i (mkN I F).rf)).holds (a.tmps.getD 5 undef) win wr:=RA.d 2 rfl;cases ho;obtain⟨x1,y1,x2,y2,f1,s1⟩:NumV _ _ _ _:=e5;have s0:=H1.out.le (Mem.jq HO3.inn win [2]);refine we rfl rfl (Ki _ _ _ _ I F (mkN I F).i (mkN I F).rf _ wr (Mem.eB HO3.inn win [2]) s0 s1) ?_;rintro e w' ⟨rfl,hb⟩;exact⟨_,rfl,_,rfl,hb,rfl⟩
   ·have e6:a.tmps.getD 6 undef=_:=RA.d 3 rfl;cases ho;exact wv rfl rfl rfl
  ·intro win a wr E;have e2:a.tmps.getD 2 undef=.bool (tf (I=(mkN I F).i∧F=(mkN I F).rf)):=E.fact 4 _ zo rfl;obtain⟨t1,d⟩:=a;obtain rfl:d=[]:=E.defers;refine bS zk (hY.out _ _ E.size ⟨?_,(HO.out.dr.move E.below).below⟩) _;simp only[yG,List.map_nil,e2]
 rintro z vs w1 - ⟨rfl,hb⟩;simp[litL,lk];have Hb:=zh hb;clear hb HO;go_wp2;exact hR.out _ _ ⟨rfl,Hb.out⟩
theorem L6 {x y:Spn} (hx:spOk x) (hy:spOk y):spOk (kg x y):=by
 unfold spOk kg at *;dsimp only;omega
theorem KY {a b:List Spn} (ha:∀s∈a,spOk s) (hb:∀s∈b,spOk s):∀s∈dP a b,spOk s:=by
 intro s hs;obtain⟨x,hx,h1⟩:=List.mem_flatMap.1 hs;obtain⟨y,hy,rfl⟩:=List.mem_map.1 (List.mem_filter.1 h1).1;exact L6 (ha x hx) (hb y hy)
def comK (a b:List Spn) (k j:Nat) (x:Spn):List Spn:=dP (a.take k) b ++ ((b.take j).map (kg x)).filter fun z=>decide (z.1≤z.2)
theorem PQ (a b:List Spn) (k j:Nat) (x:Spn) (hk:k<a.length):(comK a b k j x).length≤a.length*b.length:=by
 have h1:=qL (a.take k) b;have h2:=List.length_filter_le (fun z:Spn=>decide (z.1≤z.2)) ((b.take j).map (kg x));rw[List.length_map,List.length_take] at h2;rw[List.length_take] at h1;have h3:(k+1)*b.length≤a.length*b.length:=Nat.mul_le_mul_right _ zo;rw[Nat.add_mul,Nat.one_mul] at h3;have h4:min k a.length=k:=zo;rw[h4] at h1;unfold comK;rw[zJ];omega
theorem NT (a b:List Spn) (k j:Nat) (x:Spn) (hj:j<b.length):comK a b k (j+1) x=comK a b k j x ++ if (kg x b[j]).1≤(kg x b[j]).2 then [kg x b[j]] else []:=by
 unfold comK;rw[MX x b j hj,List.append_assoc]
theorem NR (a b:List Spn) (k:Nat) (x:Spn):comK a b k 0 x=dP (a.take k) b:=by simp[comK]
theorem PR (a b:List Spn) (k:Nat) (hk:k<a.length):comK a b k b.length a[k]=dP (a.take (k+1)) b:=by
 rw[GZ a b k hk];simp[comK]
theorem uM (va vb:Value) (A B:List Spn) (m:Mem) (w:World) (hm:m.inn w) (hA:bM m va A) (hB:bM m vb B) (hlA:A.length≤1000000) (hlB:B.length≤1000000) (hlen:A.length*B.length≤1000000) :
 Calls Tryz.prog 203 #[va,vb] w fun e w'=>∃r,e=.returned r∧Below w.heap.size w w'∧bM (m.grow w w') r (dP A B):=by
 have HOK:=zh (KY (jf hA) (jf hB));obtain⟨aa,ac,rfl,a1,a2,a3⟩:=hA;obtain⟨ba,bc,rfl,b1,b2,b3⟩:=hB;unfold maxLen at a2 b2;have HO:=zh ((Own.start hm).dI 153 2);refine aj fun R hR=>?_
 go_enter Tryz.func203,Tryz.ntmps203
 go_wp2;refine au [1,5,11,12,13] (fun n vs wr=>∃(k:Nat) (vo:Value),k≤A.length∧n=A.length - k∧vs=[.slice ba B.length bc,vo,.slice aa A.length ac,.int .i64 A.length,.int .i64 k] ∧
  Own w m wr m [.row vo 153 2 (dP (A.take k) B).length (aS (dP (A.take k) B))]) ?_ ?_
 ·exact⟨_,0,.slice none 0 0,zC _,rfl,rfl,HO.out⟩
 clear HO;rintro X z n vs wr hX - ⟨k,vo,hk,rfl,rfl,hO⟩;simp[litL,lk];by_cases hlt:k<A.length
 ·obtain⟨b,off,rfl,h4⟩:=a3 (by intro h;simp[h] at hlt);have hg:=h4 k hlt;have r1:=Mem.ak hO.inn hg.1;have r2:=Mem.ak hO.inn hg.2.1;have rl:=Mem.ay hO.inn hg.1;have hkl:=fun j=>PQ A B k j A[k] hlt;have hst:=fun j hj=>NT A B k j A[k] hj;have hen:=PR A B k hlt;rw[← NR A B k A[k]] at hO;have HC:=zh (zi hkl (zi hst hen));clear h4 hg hkl hst hen;generalize A[k]=q at *
  obtain⟨qa,qb⟩:=q;simp only at r1 r2;have HO2:=zh (hO.al #[.int .i64 qa,.int .i64 qb] 153);obtain⟨voa,voc,rfl⟩:=aM hO.row;clear hO;go_wp2;generalize hW2:wr.alloc (.cells #[.int .i64 qa,.int .i64 qb] 153)=w5 at *
  generalize wr.heap.size=S at *
  refine au [1,5,7,11,12,13,17,18,19] (fun n vs wr=>∃(j:Nat) (vo:Value),j≤B.length∧n=B.length - j∧vs=[.slice ba B.length bc,vo,.pointer (some ⟨S,0,none⟩),.slice (some ⟨b,off,none⟩) A.length ac,.int .i64 A.length,.int .i64 k,.slice ba B.length bc,.int .i64 B.length,.int .i64 j] ∧
   Own w m wr m [.obj S 153 #[.int .i64 qa,.int .i64 qb],.row vo 153 2 (comK A B k j (qa,qb)).length (aS (comK A B k j (qa,qb)))]) ?_ ?_
  ·exact⟨_,0,_,zC _,rfl,rfl,HO2.out⟩
  clear HO2 hW2 r1 r2 rl;rintro Y z2 n vs w6 hY - ⟨j,vo,hj,rfl,rfl,hO⟩;simp[litL,lk];obtain⟨voa,voc,rfl⟩:=aM hO.swap.row;by_cases hlj:j<B.length
  ·obtain⟨b',off',rfl,h4⟩:=b3 (by intro h;simp[h] at hlj);have hg:=h4 j hlj;have r1:=Mem.ak hO.inn hg.1;have r2:=Mem.ak hO.inn hg.2.1;have rl:=Mem.ay hO.inn hg.1;have hst:=HC.out.2.1 j hlj;have hkl:=HC.out.1 j;have Hst:=zh hst;clear h4 hg hst;generalize B[j]=y at *
   obtain⟨ya,yb⟩:=y;simp only at r1 r2;generalize comK A B k j (qa,qb)=S0 at *
   have HO2:=zh (hO.al #[.int .i64 ya,.int .i64 yb] 153);clear hO
   go_upto_region 8 with (fail)
   generalize hW2:w6.alloc (.cells #[.int .i64 ya,.int .i64 yb] 153)=w7 at *
   generalize w6.heap.size=Y0 at *
   refine aI [1,5,7,10,11,12,13,17,18,19] (fun vs w'=>∃(c d:Int) (Z:Nat),c=max qa ya∧d=min qb yb∧vs=[.slice (some ⟨b',off',none⟩) B.length bc,.slice voa S0.length voc,.pointer (some ⟨S,0,none⟩),.pointer (some ⟨Z,0,none⟩),.slice (some ⟨b,off,none⟩) A.length ac,.int .i64 A.length,.int .i64 k,.slice (some ⟨b',off',none⟩) B.length bc,.int .i64 B.length,.int .i64 j] ∧
    Own w m w' m [.obj Z 153 #[.int .i64 c,.int .i64 d],.obj S 153 #[.int .i64 qa,.int .i64 qb],.row (.slice voa S0.length voc) 153 2 S0.length (aS S0)]) ?_ ?_
   ·intro V hV;have q1:=HO2.out.obj.c 0;have q2:=HO2.out.obj.c 1;have q5:=HO2.out.obj.lt;have q6:=HO2.out.swap.obj.c 0;have q7:=HO2.out.swap.obj.c 1;have q8:=HO2.out.swap.obj.lt;go_wp2
    all_goals refine hV.out _ _ rfl ⟨_,_,_,?_,?_,rfl,(HO2.out.tail.al #[.int .i64 _,.int .i64 _] _)⟩
    all_goals omega
   rintro z4 vs w8 - ⟨c,d,Z,hc,hd,rfl,hO⟩;simp[litL,lk];have hcl:kg (qa,qb) (ya,yb)=(c,d):=by unfold kg;rw[hc,hd]
   have Hcl:=zh hcl;clear hcl hc hd HO2 hW2;have s1:=hO.obj.c 0;have s2:=hO.obj.c 1;have s3:=hO.obj.lt;by_cases hxy:c≤d
   ·have hdec:decide (c≤d)=true:=zL hxy;have hO2:=(hO.al #[.int .i64 c,.int .i64 d] 153).fourth;have hnews:=hO2.swap.obj.news rfl;have Hxy:=zh hxy;clear hxy hO
    go_wp2_with (at_builtin;refine aA eX rfl (.tmp 39) (.tmp 41) rfl (.slice voa S0.length voc) S0.length _ rfl hO2.row ⟨w8.heap.size,0,none⟩ 1 1 [.int .i64 c,.int .i64 d] rfl rfl hnews (by simp[Value.oneCell']) (by unfold maxLen;omega) zo ?_)
    intro va vc w9 hown7 hgrow7 hrow7;have hO3:=(hO2.app hown7 hgrow7 hrow7 zS).drop2.drop2.swap;have HO3:=zh hO3;clear hO3 hO2 hown7 hgrow7 hrow7 hnews s1 s2 s3;go_wp2;refine hY.out _ _ _ zo rfl ⟨j+1,_,zo,rfl,rfl,?_⟩;rw[Hst.out,Hcl.out,zI (show c≤d from Hxy.out),aX,zJ];exact HO3.out
   ·have hdec:decide (c≤d)=false:=zK hxy;have HO3:=zh hO.tail;have Hxy:=zh hxy;clear hxy hO;go_wp2;refine hY.out _ _ _ zo rfl ⟨j+1,_,zo,rfl,rfl,?_⟩;rw[Hst.out,Hcl.out,zH (fun h:c≤d=>absurd h (by have:=Hxy.out;omega)),yM];exact HO3.out
  ·obtain rfl:j=B.length:=zo;have hO3:Own w m w6 m [.row (.slice voa (comK A B k B.length (qa,qb)).length voc) 153 2 (dP (A.take (k+1)) B).length (aS (dP (A.take (k+1)) B))]:=by
    have:=hO.tail;rw[← HC.out.2.2];exact this
   have HO3:=zh hO3;clear hO hO3;go_wp2;exact hX.out _ _ _ zo rfl ⟨k+1,_,zo,rfl,rfl,HO3.out⟩
 ·obtain rfl:k=A.length:=zo;simp only[yB] at hO ⊢;have hst:=cz (m:=m) (l:=dP A B) hO.row HOK.out;have hfin:=aW hO.bv.done hst;have Hfin:=zh (zi hO.below hfin);clear hO hst hfin;go_wp2;exact hR.out _ _ ⟨_,rfl,Hfin.out.1,Hfin.out.2⟩
theorem Ej (vi vf ui uf:Value) (I F J G:List Spn) (m:Mem) (w:World) (hm:m.inn w) (h1:bu m vi vf I F) (h2:bu m ui uf J G) (hI:I.length≤300) (hF:F.length≤300) (hJ:J.length≤300) (hG:G.length≤300) :
 Calls Tryz.prog 137 #[.agg #[vi,vf],.agg #[ui,uf]] w fun e w'=>∃ri rf,e=.returned (.agg #[ri,rf])∧Below w.heap.size w w'∧bu (m.grow w w') ri rf (andN (mkN I F) (mkN J G)).i (andN (mkN I F) (mkN J G)).rf:=by
 have hO:=(((Own.start hm).al #[vi,vf] 24).al #[ui,uf] 24).al #[.slice none 0 0,.slice none 0 0] 24;have hsz1:(w.alloc (.cells #[vi,vf] 24)).heap.size=w.heap.size+1:=by simp
 have hsz2:((w.alloc (.cells #[vi,vf] 24)).alloc (.cells #[ui,uf] 24)).heap.size=w.heap.size+1+1:=by simp
 rw[hsz2,hsz1] at hO;obtain⟨a1,c1,b1,d1,rfl,rfl⟩:=h1.spell;obtain⟨a2,c2,b2,d2,rfl,rfl⟩:=h2.spell;have HO:=zh hO;have H1:=zh (zi h1 h2);clear hO h1 h2 hsz1 hsz2;refine aj fun R hR=>?_
 go_enter Tryz.func137,Tryz.ntmps137
 go_upto_region 1 with (fail)
 refine aI [4,5,6] (fun vs w'=>∃(g1 g2:Nat) (mk:Mem) (xa xb ya yb:Option Addr) (xc xd yc yd:Nat),vs=[.pointer (some ⟨w.heap.size+1+1,0,none⟩),.pointer (some ⟨g1,0,none⟩),.pointer (some ⟨g2,0,none⟩)] ∧
  Own w m w' mk [.obj g2 24 #[.slice ya (mkN J G).i.length yc,.slice yb (mkN J G).rf.length yd],.obj g1 24 #[.slice xa (mkN I F).i.length xc,.slice xb (mkN I F).rf.length xd],.obj (w.heap.size+1+1) 24 #[.slice none 0 0,.slice none 0 0]] ∧
  bu mk (.slice xa (mkN I F).i.length xc) (.slice xb (mkN I F).rf.length xd) (mkN I F).i (mkN I F).rf∧bu mk (.slice ya (mkN J G).i.length yc) (.slice yb (mkN J G).rf.length yd) (mkN J G).i (mkN J G).rf) ?_ ?_
 ·intro X hX;refine aU 6 6 (fun j=>[Fact.is (·=.agg #[.slice a1 I.length c1,.slice b1 F.length d1]),Fact.mem m [1] (NumV (mkN I F).i (mkN I F).rf),Fact.is (·=.agg #[.slice a2 J.length c2,.slice b2 G.length d2]),Fact.mem m [3] (NumV (mkN J G).i (mkN J G).rf),Fact.obj 4 24 #[.slice none 0 0,.slice none 0 0],Fact.obj 5 24 #[.slice none 0 0,.slice none 0 0]].getD j Fact.any) zk zk ?_ ?_
  ·intro i hi o win a wr ho RA;have HO2:=HO.out.dr.move RA.below;have q1:=HO2.swap.obj.c 0;have q2:=HO2.swap.obj.c 1;have q3:=HO2.third.obj.c 0;have q4:=HO2.third.obj.c 1;rcases (show i=0∨i=1∨i=2∨i=3∨i=4∨i=5 by omega) with rfl | rfl | rfl | rfl | rfl | rfl
   ·have e2:=RA.k 2;cases ho;exact wv rfl rfl rfl
   ·have e7:a.tmps.getD 7 undef=_:=RA.d 0 rfl;cases ho;refine we rfl rfl (ib _ _ I F m wr HO2.inn H1.out.1 zo zo) ?_;rintro e w' ⟨ri,rf,rfl,hb,hn⟩;exact⟨_,rfl,_,rfl,hb,fQ NumV.le HO2.inn hb (gB hn)⟩
   ·have e3:=RA.k 3;cases ho;exact wv rfl rfl rfl
   ·have e9:a.tmps.getD 9 undef=_:=RA.d 2 rfl;cases ho;refine we rfl rfl (ib _ _ J G m wr HO2.inn H1.out.2 zo zo) ?_;rintro e w' ⟨ri,rf,rfl,hb,hn⟩;exact⟨_,rfl,_,rfl,hb,fQ NumV.le HO2.inn hb (gB hn)⟩
   ·cases ho;exact aF rfl rfl (aP zg ⟨_,rfl,aR (zP _ _) _,AQ win⟩)
   ·cases ho;exact aF rfl rfl (aP zg ⟨_,rfl,aR (zP _ _) _,AQ win⟩)
  ·intro win a wr E;have e4:=E.keep 4 zk;have e5:(Fact.obj 4 24 #[.slice none 0 0,.slice none 0 0]).holds (a.tmps.getD 5 undef) win wr:=E.fact 4 _ zo rfl;have e6:(Fact.obj 5 24 #[.slice none 0 0,.slice none 0 0]).holds (a.tmps.getD 6 undef) win wr:=E.fact 5 _ zo rfl;have e8:(Fact.mem m [1] (NumV (mkN I F).i (mkN I F).rf)).holds (a.tmps.getD 8 undef) win wr:=E.fact 1 _ zo rfl;have e10:(Fact.mem m [3] (NumV (mkN J G).i (mkN J G).rf)).holds (a.tmps.getD 10 undef) win wr:=E.fact 3 _ zo rfl;obtain⟨xa,xc,xb,xd,f1,st1⟩:NumV _ _ _ _:=e8;obtain⟨ya,yc,yb,yd,f2,st2⟩:NumV _ _ _ _:=e10;obtain⟨p1,n1,o1⟩:_∧_∧_:=e5;obtain⟨p2,n2,o2⟩:_∧_∧_:=e6;have g1:=E.rng 4 zo;have g2:=E.rng 5 zo;have far:∀j,j=4∨j=5→∀d∈[1,3],¬ ((win d).1≤(win j).1∧(win j).1<(win d).2):=by
    intro j hj d hd;have hd':d=1∨d=3:=by simpa using hd
    have:=E.apart j d zo zo zo;have:(win j).2=(win j).1+1:=by rcases hj with rfl | rfl <;> assumption
    omega
   have hO1:=(HO.out.dr.drop2.drop2).region E.below win [1,3] (fun d hd=>(E.rng d (by simp at hd;omega)).1);have no:∀j,j=4∨j=5→m.wins wr win [1,3] (win j).1=none:=fun j hj=>
    Mem.vR (Mem.fU HO.out.dr.inn (E.rng j zo).1) (far j hj)
   have hL1:=(HO.out.dr.drop2.drop2).yj g1.1;have hL2:=(HO.out.dr.drop2.drop2).yj g2.1;have a12:=E.apart 4 5 zo zo zo;have hge:=HO.out.dr.below.size;have hO2:=hO1.newObj o1 zo (no 4 zo) hL1;have hO2:=hO2.newObj o2 zo (no 5 zo) (Jq zo hL2);have st1:=st1.le (Mem.fE (es:=[1,3]) hO1.inn0 win zS);have st2:=st2.le (Mem.fE (es:=[1,3]) hO1.inn0 win zS);have HK:=zh (zi st1 st2);generalize m.wins wr win [1,3]=mk at *
   generalize (win 4).1=q1 at *
   generalize (win 5).1=q2 at *
   have HE:=zh E;clear st1 st2 hL1 hL2 no far hO1 a12 g1 g2 o1 o2 n1 n2 hge E;have b1:=hO2.swap.obj.frozen 0;have b1':=hO2.swap.obj.frozen 1;have b2:=hO2.swap.obj.c 0;have b2':=hO2.swap.obj.c 1;have b3:=hO2.swap.obj.lt;have hO3:=(hO2.swap.set 0 (.slice xa (mkN I F).i.length xc)).set 1 (.slice xb (mkN I F).rf.length xd);refine dQ 6 zk (aF rfl rfl (aZ zg ?_));clear b1 b2 b3 b1' b2';have b1:=hO3.swap.obj.frozen 0;have b1':=hO3.swap.obj.frozen 1;have b2:=hO3.swap.obj.c 0;have b2':=hO3.swap.obj.c 1;have b3:=hO3.swap.obj.lt;have hO4:=(hO3.swap.set 0 (.slice ya (mkN J G).i.length yc)).set 1 (.slice yb (mkN J G).rf.length yd);refine dQ 7 zk (aF rfl rfl (aZ zg ?_));obtain⟨t,d⟩:=a;obtain rfl:d=[]:=HE.out.defers;refine bS zk (hX.out _ _ HE.out.size ⟨q1,q2,mk,xa,xb,ya,yb,xc,xd,yc,yd,?_,hO4,HK.out⟩) _;simp only[yG,List.map_nil,e4,p1,p2]
   rfl
 rintro z vs w1 - ⟨G1,G2,mk,xa,xb,ya,yb,xc,xd,yc,yd,rfl,hO,hr1,hr2⟩;simp[litL,lk];clear HO;have hx:=gG I F;have hy:=gG J G;have hxl:=eu hI hF;have hyl:=eu hJ hG;have hraw:=Rs hx hy;have l1:=hxl.i;have l2:=hxl.f;have l3:=hyl.i;have l4:=hyl.f;rw[← NS.jR] at l2 l4;generalize mkN I F=x at *
 generalize mkN J G=y at *
 have hm1:x.i.length*y.i.length≤90000:=Nat.mul_le_mul l1 l3;have hm2:x.rf.length*y.rf.length≤90000:=Nat.mul_le_mul l2 l4;have hc1:=qL x.i y.i;have hc2:=qL x.rf y.rf;have HO:=zh hO;have HR1:=zh (zi hr1 (zi hr2 hraw));clear hO hr1 hr2 hraw hx hy hxl hyl
 go_upto_region 2 with (fail)
 refine aI [4] (fun vs w'=>∃(mk':Mem) (ra rb:Option Addr) (rc rd:Nat),vs=[.pointer (some ⟨w.heap.size+1+1,0,none⟩)] ∧
  Own w m w' mk' [.obj (w.heap.size+1+1) 24 #[.slice ra (andN x y).i.length rc,.slice rb (andN x y).rf.length rd]] ∧
  bu mk' (.slice ra (andN x y).i.length rc) (.slice rb (andN x y).rf.length rd) (andN x y).i (andN x y).rf) ?_ ?_
 ·intro X hX;refine aU 12 6 (fun j=>[Fact.is (·=.pointer (some ⟨G1,0,none⟩)),Fact.is (·=.slice xa x.i.length xc),Fact.is (·=.pointer (some ⟨G2,0,none⟩)),Fact.is (·=.slice ya y.i.length yc),Fact.mem mk [4] (SpV (dP x.i y.i)),Fact.is (·=.pointer (some ⟨G1,1,none⟩)),Fact.is (·=.slice xb x.rf.length xd),Fact.is (·=.pointer (some ⟨G2,1,none⟩)),Fact.is (·=.slice yb y.rf.length yd),Fact.mem mk [9] (SpV (dP x.rf y.rf)),Fact.mem mk [4,9] (NumV (dP x.i y.i) (dP x.rf y.rf)),Fact.mem mk [11,4,9] (NumV (andN x y).i (andN x y).rf)].getD j Fact.any) zk zk ?_ ?_
  ·intro i hi o win a wr ho RA;have HO2:=HO.out.dr.move RA.below;have q1:=HO2.obj.c 0;have q2:=HO2.obj.c 1;have q3:=HO2.swap.obj.c 0;have q4:=HO2.swap.obj.c 1;rcases (show i=0∨i=1∨i=2∨i=3∨i=4∨i=5∨i=6∨i=7∨i=8∨i=9∨i=10∨i=11 by omega) with rfl | rfl | rfl | rfl | rfl | rfl | rfl | rfl | rfl | rfl | rfl | rfl
   ·have e5:=RA.k 5;cases ho;exact wv rfl rfl rfl
   ·have e11:a.tmps.getD 11 undef=_:=RA.d 0 rfl;cases ho;exact wv rfl rfl rfl
   ·have e6:=RA.k 6;cases ho;exact wv rfl rfl rfl
   ·have e13:a.tmps.getD 13 undef=_:=RA.d 2 rfl;cases ho;exact wv rfl rfl rfl
   ·have e12:a.tmps.getD 12 undef=_:=RA.d 1 rfl;have e14:a.tmps.getD 14 undef=_:=RA.d 3 rfl;cases ho;refine we rfl rfl (uM _ _ x.i y.i mk wr HO2.inn HR1.out.1.i HR1.out.2.1.i zo zo zo) ?_;rintro e w' ⟨r,rfl,hb,hn⟩;exact⟨_,rfl,_,rfl,hb,fQ SpV.le HO2.inn hb (nE hn)⟩
   ·have e5:=RA.k 5;cases ho;exact wv rfl rfl rfl
   ·have e16:a.tmps.getD 16 undef=_:=RA.d 5 rfl;cases ho;exact wv rfl rfl rfl
   ·have e6:=RA.k 6;cases ho;exact wv rfl rfl rfl
   ·have e18:a.tmps.getD 18 undef=_:=RA.d 7 rfl;cases ho;exact wv rfl rfl rfl
   ·have e17:a.tmps.getD 17 undef=_:=RA.d 6 rfl;have e19:a.tmps.getD 19 undef=_:=RA.d 8 rfl;cases ho;refine we rfl rfl (uM _ _ x.rf y.rf mk wr HO2.inn HR1.out.1.f HR1.out.2.1.f zo zo zo) ?_;rintro e w' ⟨r,rfl,hb,hn⟩;exact⟨_,rfl,_,rfl,hb,fQ SpV.le HO2.inn hb (nE hn)⟩
   ·have e15:(Fact.mem mk [4] (SpV (dP x.i y.i))).holds (a.tmps.getD 15 undef) win wr:=RA.d 4 rfl;have e20:(Fact.mem mk [9] (SpV (dP x.rf y.rf))).holds (a.tmps.getD 20 undef) win wr:=RA.d 9 rfl;cases ho;obtain⟨r1,s1,k1,t1⟩:SpV _ _ _:=e15;obtain⟨r2,s2,k2,t2⟩:SpV _ _ _:=e20;have f15:=(zT (xs:=a.tmps) (i:=15) (d:=undef)).symm.trans k1;have f20:=(zT (xs:=a.tmps) (i:=20) (d:=undef)).symm.trans k2;have t1:=aW (Mem.fE (es:=[4,9]) HO2.inn win zS) t1;have t2:=aW (Mem.fE (es:=[4,9]) HO2.inn win zS) t2;exact aF rfl rfl (aP zg ⟨_,rfl,zP _ _,vJ [4,9] (R:=NumV (dP x.i y.i) (dP x.rf y.rf)) win zS (fun d hd=>(RA.rng d (by simp at hd;rcases hd with rfl | rfl <;> kernel_rfl)).2.2) ⟨r1,s1,r2,s2,rfl,t1,t2⟩⟩)
   ·have e21:(Fact.mem mk [4,9] (NumV (dP x.i y.i) (dP x.rf y.rf))).holds (a.tmps.getD 21 undef) win wr:=RA.d 10 rfl;cases ho;obtain⟨r1,s1,r2,s2,k1,t1⟩:NumV _ _ _ _:=e21;refine we rfl rfl (ib _ _ _ _ _ wr (Mem.eB HO2.inn win [4,9]) t1 zo zo) ?_;rintro e w' ⟨ri,rf,rfl,hb,hn⟩;rw[HR1.out.2.2] at hn;exact⟨_,rfl,_,rfl,hb,fZ (ds:=[4,9]) NumV.le HO2.inn zS (fun d hd=>(RA.rng d (by simp at hd;rcases hd with rfl | rfl <;> kernel_rfl)).2.2) hb (gB hn)⟩
  ·intro win a wr E;have e4:=E.keep 4 zk;have e22:(Fact.mem mk [11,4,9] (NumV (andN x y).i (andN x y).rf)).holds (a.tmps.getD 22 undef) win wr:=E.fact 11 _ zo rfl;obtain⟨ra,rc,rb,rd,f1,st1⟩:NumV _ _ _ _:=e22;have hO1:=HO.out.tail.tail.dr.region E.below win [11,4,9] (fun d hd=>(E.rng d (by simp at hd;omega)).1);have HE:=zh E;generalize mk.wins wr win [11,4,9]=mk2 at *
   have HK:=zh st1;clear E st1;have b1:=hO1.obj.frozen 0;have b1':=hO1.obj.frozen 1;have b2:=hO1.obj.c 0;have b2':=hO1.obj.c 1;have b3:=hO1.obj.lt;have hO3:=(hO1.set 0 (.slice ra (andN x y).i.length rc)).set 1 (.slice rb (andN x y).rf.length rd);refine dQ 12 zk (aF rfl rfl (aZ zg ?_));obtain⟨t,d⟩:=a;obtain rfl:d=[]:=HE.out.defers;refine bS zk (hX.out _ _ HE.out.size ⟨mk2,ra,rb,rc,rd,?_,hO3,HK.out⟩) _;simp only[yG,List.map_nil,e4]
   rfl
 rintro z2 vs w2 - ⟨mk',ra,rb,rc,rd,rfl,hO,hr⟩;simp[litL,lk];have g5:=hO.obj.c 0;have g6:=hO.obj.c 1;have Hk:=zh (zi hO.below (hr.le hO.done));clear hO hr HO HR1;go_wp2;refine yQ (v:=.agg #[.slice ra (andN x y).i.length rc,.slice rb (andN x y).rf.length rd]) (by simp[results,Tryz.results137,go_sem,g5,g6]) rfl ?_;exact hR.out _ _ ⟨_,_,rfl,Hk.out.1,Hk.out.2⟩
end Cl
