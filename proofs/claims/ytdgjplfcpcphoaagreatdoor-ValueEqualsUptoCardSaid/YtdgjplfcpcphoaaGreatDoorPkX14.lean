/- Lemmas for the proofs of chapter 11. -/
import Derived.Test.YtdgjplfcpcphoaaGreatDoorProg
import Derived.BigQuiet
import Derived.Deep.Cut
import Derived.Deep.QuietTactic
import Derived.Laws.StructEq
import Derived.Lib.AppendStr
import Derived.Lib.Builder
import Derived.Lib.Hide
import Derived.Lib.ItoaLen
import Derived.Maps.OwnOps
import Derived.Maps.OwnSet
import Derived.OrdersHeld
import Derived.Outline
import Derived.StillTailTactics
import Derived.StringKeys
import Derived.WalkKit
import Derived.WalkLawsBesides
import Derived.WalkSpells
import Derived.Deep.RegionHeld
import Derived.Test.YtdgjplfcpcphoaaGreatDoorRows
import Derived.Deep.Slices
import Derived.Lib.SmallJoins
import Derived.ChangeMaps5
import Derived.Carry
import Derived.KernelRfl
import Derived.ChangeArms
import Derived.RangeFuncNested
import Derived.RangeFuncBound
import Derived.RangeFuncCalls
import Derived.RangeFuncLeaves
import Derived.OwnWalkIn
import Derived.TacticsInMore
import Derived.LoopNIn
import Derived.LoopIn
import Derived.Shelf.Strings.Builder1
import Derived.Shelf.Small.Wraps
import Derived.Shelf.LaysM
import Derived.Shelf.Strconv.Itoa3
import Derived.Shelf.SlSortCmp.WholeK
import Derived.Laws.EntriesVeiled
import Derived.Laws.CopyOwn
import Derived.RegionTactic
import Derived.Laws.CopyRow
import Derived.Laws.Tables
import Derived.BigFrame
import Derived.Shelf.Strconv.AppendIntPublic10
import Derived.Shelf.Spec.SlicesGrow
import Derived.Test.YtdgjplfcpcphoaaGreatDoorZz
import Derived.Test.YtdgjplfcpcphoaaGreatDoorPkX3
import Derived.Test.YtdgjplfcpcphoaaGreatDoorPkX4
import Derived.Test.YtdgjplfcpcphoaaGreatDoorPkX5
import Derived.Test.YtdgjplfcpcphoaaGreatDoorPkX1
import Derived.Test.YtdgjplfcpcphoaaGreatDoorPkX2
import Derived.Test.YtdgjplfcpcphoaaGreatDoorPkX10
import Derived.Test.YtdgjplfcpcphoaaGreatDoorPkX13
import Derived.Test.YtdgjplfcpcphoaaGreatDoorPkX9
import Derived.Test.YtdgjplfcpcphoaaGreatDoorPkX6
import Derived.Test.YtdgjplfcpcphoaaGreatDoorPkX7
import Derived.Test.YtdgjplfcpcphoaaGreatDoorPkX11
import Derived.Test.YtdgjplfcpcphoaaGreatDoorPkX8
import Derived.Test.YtdgjplfcpcphoaaGreatDoorPkX12
set_option maxRecDepth 100000
set_option maxHeartbeats 16000000
namespace Go.Proofs.YtdgjplfcpcphoaaGreatDoor
open Go Go.RowKit Go.Proofs Cl
theorem sG {H:Type}:∀l:List (DataW H),Rows.uptoBulkAll l=(l.map Rows.uptoBulk).sum
 | []=>by simp[Rows.uptoBulkAll]
 | d::l=>by simp[Rows.uptoBulkAll,sG l]
theorem jR {H:Type} {l:List (DataW H)} (hk:Rows.uptoSmall H l=true) {d:DataW H} (h:d∈l):Rows.uptoBulk d≤1048576:=by
 have h1:=of_decide_eq_true hk;rw[sG] at h1;exact Nat.le_trans (Ea (f:=Rows.uptoBulk) h) h1
theorem Ie {H:Type}:mM (Rows.uptoBulk (H:=H)) where
 sl es sp:=by rw[Rows.uptoBulk,sG];omega
 nil:=by simp[Rows.uptoBulk]
 ag ps:=by rw[Rows.uptoBulk,sG];omega
end Go.Proofs.YtdgjplfcpcphoaaGreatDoor
namespace Cl
open Go Go.RowKit
structure qd (P:Program) (t:TypeId) (n:Nat):Prop where
 agg:∀w,(isAgg t).run P w=.ok true w
 size:∀w,(Go.sizeOf t).run P w=.ok n w
theorem grownBy_setRow' {w:World} {g:Nat} {cur cs:Array Value} {t:TypeId} (_:w.heap[g]?=some (.cells cur t (0,0))):w.grownBy (w.setRow g cs) (some g):=by
 refine ⟨rfl,rfl,rfl,by simp[World.setRow],fun k hk hne=>?_⟩;have:g≠k:=fun e=>hne (by rw[e]);simp[World.setRow,Array.getElem?_modify,this]
section
variable {P:Program} {t:TypeId} {n:Nat} {w:World} {ops:Array Oper} {rest:List Oper} {op:Oper} {a:Act} {Q:Exit→Act→World→Prop}
theorem qd.load (S:qd P t n) {b o:Nat} {cs:List Value} (hl:cs.length=n) (hc:∀j u,cs[j]?=some u→w.cell? ⟨b,o+j,none⟩=some u):(loadVar t ⟨b,o,none⟩).run P w=.ok (.agg cs.toArray) w:=by
 have h:=run_loadCells_list (P:=P) w ⟨b,o,none⟩ cs (fun j v hj=>by rw[Addr.add_lit];exact hc j v hj);rw[hl] at h;simp[loadVar,S.agg,S.size,h,Result.andThen]
theorem ae (S:qd P t n) (hg:Region.wanted op (yielded ops a.tmps)=true) (p:Operand) (hop:op.op=Op.load t p) {b o:Nat} (hp:a.eval p=.pointer (some ⟨b,o,none⟩)) (cs:List Value) (hl:cs.length=n) (hc:∀j u,cs[j]?=some u→w.cell? ⟨b,o+j,none⟩=some u)
 (hK:wpList P ops Q rest (a.put op.dst (.agg cs.toArray)) w):wpList P ops Q (op::rest) a w:=by
 refine BigFrame.wpList_want hg fun K' hK'=>?_;unfold Oper.wp;simp[execOp,hop,hp,Instr.loadAt,Instr.sureAddr,S.load hl hc,Result.andThen];exact hK' _ _ hK
theorem aH (S:qd P t n) (hg:Region.wanted op (yielded ops a.tmps)=true) (p v:Operand) (hop:op.op=Op.store t p v) {g:Nat} {T:TypeId} {cur cs:Array Value} (hp:a.eval p=.pointer (some ⟨g,0,none⟩)) (hv:a.eval v=.agg cs) (hcur:cur.size=n) (hl:cs.size=n) (h1:∀u∈cs.toList,u.oneCell'=true) (hO:bD w g T cur)
 (hK:∀w',bD w' g T cs→w.grownBy w' (some g)→wpList P ops Q rest (a.put op.dst undef) w'):wpList P ops Q (op::rest) a w:=by
 refine BigFrame.wpList_want hg fun K' hK'=>?_;have hst:=run_storeCells_from (P:=P) g T cs.toList 0 cur w hO.get (by simp;omega) h1;simp only[List.take_zero,List.nil_append,Array.toArray_toList] at hst;unfold Oper.wp;simp[execOp,hop,hp,hv,Instr.storeAt,Instr.sureAddr,storeVar,S.size,Value.cells,hl,hst,Result.andThen];refine hK' _ _ (hK _ ⟨setRow_heap w g cur cs T (0,0) hO.get⟩ ?_);exact grownBy_setRow' hO.get
end
theorem gJ {P:Program} {fn:Func} {k:Nat} {t:TypeId} {tmps:Array Value} {w:World} {v:Value} {b:Addr} (hf:fn.results=#[.cell k t]) (hk:tmps.getD k undef=.pointer (some b)) (hr:(loadVar t b).run P w=.ok v w):(results fn tmps).run P w=.ok v w:=by
 rw[Array.getD_eq_getD_getElem?] at hk;simp[results,hf,asAddr,hk,hr]
theorem cZ {P:Program} {fn:Func} {k j:Nat} {t:TypeId} {tmps:Array Value} {w:World} {v:Value} {b:Addr} (hf:fn.results=#[.cell k t,.tmp j]) (hk:tmps.getD k undef=.pointer (some b)) (hr:(loadVar t b).run P w=.ok v w):(results fn tmps).run P w=.ok (.tuple #[v,tmps.getD j undef]) w:=by
 rw[Array.getD_eq_getD_getElem?] at hk;simp[results,hf,asAddr,hk,hr,Result.andThen]
abbrev zcV:Array Value:=#[.bool false,.bool false,.bool false,.bool false,.slice none 0 0,.slice none 0 0,.slice none 0 0,.slice none 0 0,.slice none 0 0]
abbrev zcD:Array Value:=#[.bool false,.bool false,.bool false,.bool false,.slice none 0 0,.slice none 0 0,.slice none 0 0,.slice none 0 0,.slice none 0 0,.bool false,.bool false,.bool false,.bool false,.slice none 0 0,.slice none 0 0,.slice none 0 0,.slice none 0 0,.slice none 0 0]
abbrev zcF:Array Value:=#[.string ⟨#[]⟩,.int .i64 0,.bool false,.bool false,.bool false,.bool false,.slice none 0 0,.slice none 0 0,.slice none 0 0,.slice none 0 0,.slice none 0 0,.bool false,.bool false,.bool false,.bool false,.slice none 0 0,.slice none 0 0,.slice none 0 0,.slice none 0 0,.slice none 0 0]
abbrev zcK:Array Value:=#[.slice none 0 0,.bool false,.bool false,.bool false,.bool false,.slice none 0 0,.slice none 0 0,.slice none 0 0,.slice none 0 0,.slice none 0 0,.bool false,.bool false,.bool false,.bool false,.slice none 0 0,.slice none 0 0,.slice none 0 0,.slice none 0 0,.slice none 0 0]
theorem Et {m:Mem} {n:Nat} {x:Sl} {v:Vl} (k:VAt m n x v):∀u∈nine v x,u.oneCell'=true:=by
 cases n with
 | zero=>exact k.elim
 | succ n=>
  obtain⟨⟨⟨a1,b1,e1,-⟩,⟨a2,b2,e2,-⟩,⟨a3,b3,e3,-⟩⟩,⟨a4,b4,e4,-⟩,⟨a5,b5,e5,-⟩⟩:=k;intro u hu;simp only[nine,e1,e2,e3,e4,e5,List.mem_cons,List.not_mem_nil,or_false] at hu;rcases hu with rfl | rfl | rfl | rfl | rfl | rfl | rfl | rfl | rfl <;> rfl
theorem cK {m:Mem} {n n':Nat} {x y:Sl} {d:Vd} (k:VAt m n x d.1) (k':VAt m n' y d.2):∀u∈dcs d x y,u.oneCell'=true:=fun u hu=>
 (List.mem_append.1 hu).elim (Et k u) (Et k' u)
theorem nZ {m:Mem} {n n':Nat} {x y:Sl} {f:Fd} (k:VAt m n x f.2.1) (k':VAt m n' y f.2.2):∀u∈fcs f x y,u.oneCell'=true:=fun u hu=>by
 rcases List.mem_cons.1 hu with rfl | hu
 ·rfl
 ·rcases List.mem_cons.1 hu with rfl | hu
  ·rfl
  ·exact cK k k' u hu
theorem nV {m:Mem} {n n':Nat} {x y:Sl} {k:Kl} {c:Value} (hc:aR m c k.1) (g:VAt m n x k.2.1) (g':VAt m n' y k.2.2):∀u∈kcs k c x y,u.oneCell'=true:=fun u hu=>by
 rcases List.mem_cons.1 hu with rfl | hu
 ·obtain⟨a,c',rfl,-⟩:=hc;rfl
 ·exact cK g g' u hu
theorem Own.setObj {w0 w w':World} {m mk:Mem} {L:List Item} {g:Nat} {t:TypeId} {arr arr':Array Value} (h:Own w0 m w mk (.obj g t arr::L)) (ho:bD w' g t arr') (hg:w.grownBy w' (some g)):Own w0 m w' mk (.obj g t arr'::L):=by
 have hf:=h.fresh _ (List.mem_cons_self ..) g rfl;have hap:=List.pairwise_cons.1 h.apart;refine ⟨h.m0,h.below.grown hg h.below.size (fun k hk=>by cases hk;exact hf.1),h.ext,Mem.uB h.inn hg (fun k hk=>by cases hk;exact hf.2),?_,?_,.cons ?_ hap.2⟩
 ·simp only[List.mem_cons,forall_eq_or_imp];exact⟨ho,fun it hi=>Item.jJ (h.ok it (List.mem_cons_of_mem _ hi)) fun k hk=>hg.block k (Item.lt (h.ok it (List.mem_cons_of_mem _ hi)) hk) (fun e=>hap.1 it hi g rfl (by cases e;exact hk))⟩
 ·simp only[List.mem_cons,forall_eq_or_imp];exact⟨fun k hk=>by simp only[Item.blk,Option.some.injEq] at hk;subst hk;exact hf,fun it hi=>h.fresh it (List.mem_cons_of_mem _ hi)⟩
 ·intro b hb k h1 h2;exact hap.1 b hb k h1 h2
theorem bD.sub {w:World} {g:Nat} {t:TypeId} {arr:Array Value} (h:bD w g t arr) {o:Nat} {cs:List Value} (hs:∀j u,cs[j]?=some u→arr[o+j]?=some u):∀j u,cs[j]?=some u→w.cell? ⟨g,o+j,none⟩=some u:=fun j u hj=>h.cell (hs j u hj)
theorem bD.all {w:World} {g:Nat} {t:TypeId} {cs:List Value} (h:bD w g t cs.toArray):∀j u,cs[j]?=some u→w.cell? ⟨g,0+j,none⟩=some u:=fun j u hj=>h.cell (by simpa using hj)
theorem tL {P:Program} {w:World} (t ty e:TypeId) (i:TypeInfo) (size c:Nat) (ht:P.underlying t=some (.slice e)) (hi:P.info? e=some i)
 (v:Value) (n:Nat) (xs:List Value) (hown:w.ownsRow 0 e size v n xs):(Builtin.append_ #[t,t] ty #[v,.slice none 0 c]).run P w=.ok v w:=by
 rcases hown.2 with ⟨rfl,rfl⟩ | ⟨g,cap,cur,rfl,_,_,hnc,_⟩
 ·simp[Builtin.append_,run_underlying ht,Go.sizeOf,typeInfo,hi,Builtin.lenOf,Builtin.firstCells]
 ·simp[Builtin.append_,run_underlying ht,Go.sizeOf,typeInfo,hi,Builtin.lenOf,Builtin.firstCells,hnc,storeCells]
theorem dH {P:Program} {t e:TypeId} {size bytes:Nat} (S:eT P t e size bytes) {w:World} {ops:Array Oper} {rest:List Oper} {o:Oper} {a:Act} {Q:Exit→Act→World→Prop} (hgd:o.guard=none) (s x:Operand)
 (ho:o.op=.call { callee:=.builtin .append,args:=#[s,x],argTypes:=#[t,t] })
 (v:Value) (n:Nat) (xs:List Value) (hs:a.eval s=v) (hown:w.ownsRow 0 e size v n xs)
 (ad:Option Addr) (m c:Nat) (news:List Value) (hx:a.eval x=.slice ad m c) (hl:news.length=m*size) (hn:ad=none→m=0) (hnews:∀A,ad=some A→∀j u,news[j]?=some u→w.cell? (A.add j)=some u) (h1:∀u∈news,u.oneCell'=true)
 (h63:n+m≤maxLen) (hbytes:(n+m)*bytes≤140737488355328)
 (h:∀va vc w',w'.ownsRow 0 e size (.slice va (n+m) vc) (n+m) (xs ++ news)→w.grownBy w' v.ownBlock→(∀k,(Value.slice va (n+m) vc).ownBlock=some k→v.ownBlock=some k∨w.heap.size≤k)→wpList P ops Q rest (a.put o.dst (.slice va (n+m) vc)) w'):wpList P ops Q (o::rest) a w:=by
 cases ad with
 | some A=>exact aC S hgd s x ho v n xs hs hown A m c news hx hl (hnews A rfl) h1 h63 hbytes h
 | none=>
  obtain rfl:=hn rfl;have hz:news=[]:=List.eq_nil_of_length_eq_zero zo;subst hz;obtain⟨i,z,hi,-⟩:=S.info;obtain⟨va,vc,rfl⟩:=aQ hown;refine wpList_plain hgd fun K' hK'=>?_;have hr:=fun ty=>tL (P:=P) t ty e i size c S.ht hi _ n xs hown;unfold Oper.wp execOp;simp only[ho,resolve,invoke,builtin,Sem.run_bind,Sem.run_pure,Result.andThen_ok,List.map_toArray,List.map_cons,List.map_nil,hs,hx,hr];exact hK' _ _ (h va vc w (by simpa using hown) ⟨rfl,rfl,rfl,Nat.le_refl _,fun _ _ _=>rfl⟩ (fun k hk=>.inl (by simpa using hk)))
theorem EO:∀(l:List Value) (k:Nat) (arr:Array Value) (j:Nat),k+l.length≤arr.size→((l.zipIdx k).foldl (fun (a:Array Value) (x:Value × Nat)=>a.setIfInBounds (0+x.2) x.1) arr)[j]?=if k≤j∧j<k+l.length then l[j - k]? else arr[j]?
 | [],k,arr,j,_=>by simp;intro h1 h2;omega
 | v::l,k,arr,j,h=>by
  rw[List.zipIdx_cons,List.foldl_cons,EO l (k+1) _ j (by simp at h ⊢;omega)];simp only[Nat.zero_add,List.length_cons] at h ⊢;by_cases e:j=k
  ·subst e;rw[if_neg zo,if_pos zo,Nat.sub_self];simp[show j<arr.size by omega]
  ·by_cases c:k≤j∧j<k+(l.length+1)
   ·rw[if_pos zo,if_pos c,show j - k=(j - (k+1))+1 by omega];simp
   ·rw[if_neg zo,if_neg c,Array.getElem?_setIfInBounds_ne zo]
theorem LZ (cs arr:Array Value) (h:arr.size=cs.size):cs.zipIdx.foldl (fun (a:Array Value) (x:Value × Nat)=>a.setIfInBounds (0+x.2) x.1) arr=cs:=by
 obtain⟨l⟩:=cs;rw[← Array.foldl_toList];apply Array.ext_getElem?;intro j;have:=EO l 0 arr j (by simp at h;omega);simp only[Array.toList_zipIdx];rw[this];simp at h;by_cases c:j<l.length
 ·simp[c]
 ·simp[c];omega
theorem iA {P:Program} {t e:TypeId} {n bytes:Nat} (S:eT P t e n bytes) (B:qd P e n) {z:Value} (hz:∀w,(zeroValue e).run P w=.ok z w) (hzs:z.cells.size=n) (hn:n≤1000) {w:World} {ops:Array Oper} {rest:List Oper} {op:Oper} {a:Act} {Q:Exit→Act→World→Prop}
 (hg:Region.wanted op (yielded ops a.tmps)=true) (x:Operand) (hop:op.op=Op.buildSlice t 1 #[(0,x)]) {cs:Array Value} (hx:a.eval x=.agg cs) (hl:cs.size=n)
 (hK:wpList P ops Q rest (a.put op.dst (.slice (some ⟨w.heap.size,0,none⟩) 1 1)) (w.alloc (.cells cs e))):wpList P ops Q (op::rest) a w:=by
 refine BigFrame.wpList_want hg fun K' hK'=>?_;have hpos:=S.pos;have hf:cs.zipIdx.foldl (fun (a:Array Value) (x:Value × Nat)=>a.setIfInBounds (0+x.2) x.1) ((Array.range (1*n)).map (z.cells[· % z.cells.size]!))=cs:=LZ cs _ (by simp[hl]);unfold Oper.wp;simp[execOp,hop,hx,Instr.buildSlice,run_underlying S.ht,B.size,hz,Instr.fill,Value.cells,hl,Result.andThen,newRow,show ¬ (16777216<n) by omega,show n≠0 by omega] at hf ⊢;simp only[hf];exact hK' _ _ hK
theorem VRow.one_cell {m:Mem} {n:Nat} {xs:List Value} {l:List Vd} (h:VRow (VAt m n) xs l):∀u∈xs,u.oneCell'=true:=fun u hu=>by
 obtain⟨k,hk,rfl⟩:=List.getElem_of_mem hu;have hlen:=h.len;obtain⟨x,y,h1,h2,h3⟩:=h.at' (k / 18) zo;have hj:k % 18<(dcs l[k / 18] x y).length:=by rw[uM];omega
 have:=h1 (k % 18) _ (List.getElem?_eq_getElem hj);rw[show k / 18*18+k % 18=k by omega,List.getElem?_eq_getElem hk] at this;rw[Option.some.inj this];exact cK h2 h3 _ (List.getElem_mem hj)
theorem bP.seg {R:Sl→Vl→Prop} {m:Mem} {v:Value} {l:List Vd} (h:bP R m v l):∃ad c xs,v=.slice ad l.length c∧l.length≤c∧c≤maxLen∧VRow R xs l∧(ad=none→l.length=0)∧∀w,m.inn w→∀A,ad=some A→∀j u,xs[j]?=some u→w.cell? (A.add j)=some u:=by
 obtain⟨a,c,rfl,h1,h2,h3⟩:=id h;by_cases hne:l=[]
 ·subst hne;exact⟨a,c,[],rfl,h1,h2,.nil R,fun _=>rfl,fun w _ A _ j u hj=>by simp at hj⟩
 ·obtain⟨b,off,xs,rfl,h4,h5⟩:=bP.row h hne;exact⟨_,c,xs,rfl,h1,h2,h4,(fun h=>by cases h),fun w hw A e j u hj=>by
   cases e;rw[Addr.add_lit];exact Mem.aj hw (h5 j u hj)⟩
theorem bP.FQ {m mk:Mem} {w:World} {t:TypeId} {v:Value} {l:List Vd} {xs:List Value} {n:Nat} (hown:w.ownsRow 0 t 18 v l.length xs) (hr:VRow (VAt mk n) xs l) (hf:mk.free v) (hg:(mk.addv w v).le m):bP (VAt m n) m v l:=
 (xB (m:=mk) hown hr).le hg fun _ _ h=>h.le (Mem.le_trans (Mem.dh hf) hg)
theorem yR {α:Type} {P:Program} {g:Operand} {ps:Array Tmp} {assign body:Code} {Q:Exit→Act→World→Prop} {a:Act} {w:World} {gf:Nat} {lb:Array Value}
 (hg:a.eval g=.func (.func gf) #[] lb) (eg:∀args w,(callFunc gf args).run P w=.ok (.enter gf args) w) {encs:α→Array Value} (hps:∀x,(encs x).size=ps.size)
 {w0:World} {m mk:Mem} {L0:List Item} (hO:Own w0 m w mk L0) (I:List α→List Item→Prop) (Ix:Code→List α→List Item→Prop) (S Sp:List α→Prop) (h0:I [] L0)
 (hseq:∀(l:Nat) (W1:World) (L1:List Item) (B Bx:List α→List Item→Prop),B [] L1→(∀pre Lt,B pre Lt→∃L,I pre L)→Own w0 m W1 mk L1→uV P l encs w0 m mk B Bx →
  Calls P gf (#[.func (.yield l) #[] #[]] ++ lb) W1 (M0 w0 m mk B Bx S Sp))
 (a₁:α→Act)
 (hassign:∀(l:Nat) (x:α) (W:World) (K:Act→World→Prop),K (a₁ x) W →
  assign.wpIn (Fence.wide.inRound l) 0 P (Exit.then K (fun _ _ _=>False)) { tmps:=(ps.zip (encs x)).foldl (fun t (p,v)=>t.setIfInBounds p v) a.tmps,defers:=[] } W)
 (hbody:∀(l:Nat) (pre:List α) (x:α) (W:World) (mk1:Mem) (Lt Lr:List Item),I pre Lt→Own w0 m W mk1 (Lt ++ Lr)→mk.le mk1 →
  body.wpIn (Fence.wide.inRound l) 0 P (Fb w0 m mk1 Lr I Ix (pre ++ [x])) (a₁ x) W)
 (hdone:∀(D:Nat) (xs:List α) (W:World) (mk1:Mem) (L:List Item),S xs→I xs L→Own w0 m W mk1 (.blob D (.deferred (some []))::L)→mk.le mk1→Q .normal { a with defers:={ target:=.collected D,args:=#[] }::a.defers } W)
 (hstop:∀(D:Nat) (c:Code) (xs:List α) (W:World) (mk1:Mem) (L:List Item),Sp xs→Ix c xs L→Own w0 m W mk1 (.blob D (.deferred (some []))::L)→mk.le mk1 →
  c.wpIn Fence.wide 0 P Q { a with defers:={ target:=.collected D,args:=#[] }::a.defers } W) :
 (Code.rangeFunc g ps assign body).wpIn Fence.wide 0 P Q a w:=by
 refine wpIn_rangeFunc ?_;intro fn _;obtain⟨rec,hrec⟩:∃rec:LoopState→Option Code→Loop,rec=fun st pe=>{ state:=st,pending:=pe,fn,tmps:=a.tmps,params:=ps,assign,body,defers:=w.heap.size }:=⟨_,rfl⟩;have hO1:=(hO.BB (.deferred (some []))).BB (.loop (rec .ready none));have hsz:(w.alloc (.deferred (some []))).heap.size=w.heap.size+1:=by simp
 rw[hsz] at hO1;have hent:=run_enterLoop_outer (P:=P) (w:=w) fn a.tmps ps assign body;have hre:(Obj.loop { state:=.ready,pending:=none,fn,tmps:=a.tmps,params:=ps,assign,body,defers:=w.heap.size })=.loop (rec .ready none):=by rw[hrec]
 rw[hre] at hent;generalize (w.alloc (.deferred (some []))).alloc (.loop (rec .ready none))=W1 at *
 generalize w.heap.size=D at *
 have hround:uV P (D+1) encs w0 m mk (fun pre Lt=>∃L,I pre L∧Lt=.blob (D+1) (.loop (rec .ready none))::.blob D (.deferred (some []))::L)
  (fun pre Lt=>∃c L,Ix c pre L∧Lt=.blob (D+1) (.loop (rec .done (some c)))::.blob D (.deferred (some []))::L):=by
  rintro pre x W mk1 Lt Lr ⟨L,hI,rfl⟩ hOw hle;have hl:=hOw.blob;have hy:=run_yield (P:=P) (args:=encs x) hl (by rw[hrec];exact hps x);rw[hrec] at hy;refine ⟨fn,_,assign,body,hy,roundIn_of_wpIn trivial (hassign _ x W _ ⟨_,run_beginRound hl (by rw[hrec]),?_⟩)⟩;have hO2:=hOw.iW (o':=.loop { rec .ready none with state:=.busy }) (World.putObj_heap_same (Array.getElem?_eq_some_iff.1 hl).1) (grownBy_putObj' _ _ _);have hO3:=hO2.perm (Eh _ _ L Lr);refine wpIn_mono (hbody _ pre x _ mk1 L _ hI hO3 hle) ?_;have fin:∀(jump:Option Code) (W3:World) (mk2:Mem) (L2:List Item),Own w0 m W3 mk2 (L2 ++ (.blob (D+1) (.loop { rec .ready none with state:=.busy })::.blob D (.deferred (some []))::Lr)) →
   ∃W4,(Instr.endRound (D+1) jump).run P W3=.ok (.bool jump.isNone) W4∧Own w0 m W4 mk2 (.blob (D+1) (.loop (rec (if jump.isNone then .ready else .done) jump))::.blob D (.deferred (some []))::(L2 ++ Lr)):=by
   intro jump W3 mk2 L2 h3;have h4:=h3.perm (Eh _ _ L2 Lr).symm;have hl3:=h4.blob;have hr:=run_endRound (P:=P) jump hl3;refine ⟨_,hr,?_⟩;have:=h4.iW (o':=.loop { rec .ready none with state:=if jump.isNone then .ready else .done,pending:=jump }) (World.putObj_heap_same (Array.getElem?_eq_some_iff.1 hl3).1) (grownBy_putObj' _ _ _);rw[hrec] at this ⊢;exact this
  rintro e a3 W3 hp
  cases e with
  | normal=>
   obtain⟨mk2,L2,hi,ho,hm⟩:=hp;obtain⟨W4,hr,ho4⟩:=fin none W3 mk2 L2 ho
   exact⟨_,_,hr,.inl ⟨rfl,mk2,_,⟨L2,hi,rfl⟩,ho4,hm⟩⟩
  | ret=>
   obtain⟨mk2,L2,hi,ho,hm⟩:=hp;obtain⟨W4,hr,ho4⟩:=fin (some .ret) W3 mk2 L2 ho
   exact⟨_,_,hr,.inr ⟨rfl,mk2,_,⟨.ret,L2,hi,rfl⟩,ho4,hm⟩⟩
  | exit id=>
   obtain⟨mk2,L2,hi,ho,hm⟩:=hp;obtain⟨W4,hr,ho4⟩:=fin (some (.exit id)) W3 mk2 L2 ho
   exact⟨_,_,hr,.inr ⟨rfl,mk2,_,⟨.exit id,L2,hi,rfl⟩,ho4,hm⟩⟩
  | goto t=>
   obtain⟨mk2,L2,hi,ho,hm⟩:=hp;obtain⟨W4,hr,ho4⟩:=fin (some (.goto t)) W3 mk2 L2 ho
   exact⟨_,_,hr,.inr ⟨rfl,mk2,_,⟨.goto t,L2,hi,rfl⟩,ho4,hm⟩⟩
  | panic ch=>exact hp.elim
  | outgrown=>exact hp.elim
 refine ⟨D+1,[{ target:=.collected D,args:=#[] }],W1,{ target:=.fn (.func gf) lb,args:=#[.func (.yield (D+1)) #[] #[]] },W1,gf,
  #[.func (.yield (D+1)) #[] #[]] ++ lb,W1,hent,?_,fun _ _=>trivial,?_,fun h=>absurd h (by simp[Fence.wide]),?_⟩
 ·simp only[resolve,hg];simp[go_sem]
 ·simp[invoke,go_sem,eg]
 ·refine callsIn_wide.2 ((hseq (D+1) W1 _ _ _ ⟨L0,h0,rfl⟩ (fun _ _ h=>h.elim fun L hL=>⟨L,hL.1⟩) hO1 hround).mono ?_);rintro e W3 ⟨⟨v,rfl⟩,hend⟩;rcases hend with ⟨xs,mk2,Lt,hS,⟨L,hI,rfl⟩,ho,hm⟩ | ⟨xs,mk2,Lt,hS,⟨c,L,hI,rfl⟩,ho,hm⟩
  ·have hl3:=ho.blob;have hO4:=ho.iW (o':=.loop { rec .ready none with state:=.exhausted }) (World.putObj_heap_same (Array.getElem?_eq_some_iff.1 hl3).1) (grownBy_putObj' _ _ _);refine ⟨none,_,?_,hdone D xs _ mk2 L hS hI hO4.tail hm⟩;have:=run_endLoop (P:=P) hl3 (by rw[hrec];simp);rw[this,hrec]
  ·have hl3:=ho.blob;have hO4:=ho.iW (o':=.loop { rec .done (some c) with state:=.exhausted }) (World.putObj_heap_same (Array.getElem?_eq_some_iff.1 hl3).1) (grownBy_putObj' _ _ _);refine ⟨some c,_,?_,hstop D c xs _ mk2 L hS hI hO4.tail hm⟩;have:=run_endLoop (P:=P) hl3 (by rw[hrec];simp);rw[this,hrec]
theorem o5 {H:Type} {P:Program} {e:TypeId} (he:P.underlying e=some .bool) {v:Value} {z:DataW H × List MemPlace} (h:plainElem P e v=some z):∃a,v=.bool a∧z=(.lit (.bool a),[]):=by
 unfold plainElem at h;rw[he] at h;cases v <;> simp at h
 subst h;exact⟨_,rfl,rfl⟩
structure BMap (P:Program) (k e:TypeId) (o:Obj) (n:Nat) (f:Lit→Bool):Prop where
 ex:∃D:DataW Unit,(∀(w:World) b,w.heap[b]?=some o→w.ownsMap P k (plainElem P e) b n D)∧Maps.Tidy D∧∀kl,D.atKey kl (.lit (.bool false))=.lit (.bool (f kl))
open Classical in
noncomputable def bput (f:Lit→Bool) (kl:Lit) (x:Bool):Lit→Bool:=fun k=>if k=kl then x else f k
theorem Bu (f:Lit→Bool) (kl:Lit) (x:Bool):bput f kl x kl=x:=by simp[bput]
theorem xk (f:Lit→Bool) {kl k:Lit} (x:Bool) (h:k≠kl):bput f kl x k=f k:=by simp[bput,h]
section
variable {P:Program} {k e:TypeId} {o:Obj} {n:Nat} {f:Lit→Bool}
theorem Bv {w:World} {b:Nat} {D:DataW Unit} {R:Value→Option (DataW Unit × List MemPlace)} (h:w.ownsMap P k R b n D):∃o,w.heap[b]?=some o∧∀(w:World) b,w.heap[b]?=some o→w.ownsMap P k R b n D:=by
 obtain⟨es,clock,hb,F,hs,hD⟩:=h;exact⟨_,hb,fun w' b' h'=>⟨es,clock,h',F,hs,hD⟩⟩
theorem BMap.made (P:Program) (k e:TypeId):BMap P k e (.map #[] 0) 0 (fun _=>false):=by
 refine ⟨.map [],fun w b h=>?_,Maps.tidy_empty,fun kl=>?_⟩
 ·obtain⟨es,clock,hb,F,hs,hD⟩:=World.ownsMap_made (H:=Unit) w P k (plainElem P e);have:(w.alloc (.map #[] 0)).heap[w.heap.size]?=some (.map #[] 0):=show (w.heap.push _)[w.heap.size]?=_ by simp
  rw[this] at hb;cases hb;exact⟨_,_,h,F,hs,hD⟩
 ·exact Maps.atKey_of_not_has rfl _
variable {w:World} {t:TypeId} {ops:Array Oper} {rest:List Oper} {op:Oper} {a:Act} {Q:Exit→Act→World→Prop} {b:Nat}
theorem BMap.run_get (h:BMap P k e o n f) (K:Maps.Keyed P k) (ht:P.underlying t=some (.map k e)) (he:P.underlying e=some .bool) (hz:∀w,(zeroValue e).run P w=.ok (.bool false) w) (hb:w.heap[b]?=some o)
 {key:Value} {kl:Lit} (hkey:keyOf P k key=some kl):(Instr.lookup t (.map (some b)) key false).run P w=.ok (.bool (f kl)) w:=by
 obtain⟨D,hD,-,hat⟩:=h.ex;obtain⟨v,ps,hr,hv⟩:=(hD w b hb).lookup K ht (hz w) (plainElem_bool he false) hkey;obtain⟨c,rfl,hc⟩:=o5 he hv;simp only[Prod.mk.injEq] at hc;rw[hat kl] at hc;simp only[DataW.lit.injEq,Lit.bool.injEq] at hc;rw[hr,hc.1]
theorem BMap.mono (h:BMap P k e o n f) {n':Nat} (hn:n≤n'):BMap P k e o n' f:=by
 obtain⟨D,hD,h1⟩:=h.ex;exact⟨D,fun w b hb=>(hD w b hb).mono hn,h1⟩
theorem BMap.run_put (h:BMap P k e o n f) (K:Maps.Keyed P k) (ht:P.underlying t=some (.map k e)) (he:P.underlying e=some .bool) (hb:w.heap[b]?=some o) (hn:n<maxLen)
 {key:Value} {kl:Lit} (hkey:keyOf P k key=some kl) (x:Bool) :
 ∃w' o',(Instr.mapUpdate t (.map (some b)) key (.bool x)).run P w=.ok () w'∧w'.heap[b]?=some o'∧BMap P k e o' (n+1) (bput f kl x)∧w.grownBy w' (some b):=by
 obtain⟨D,hD,htd,hat⟩:=h.ex;have hkl:WideAt.IsKeyLit kl:=K.key hkey;obtain⟨w',hr,ho,hgr⟩:=(hD w b hb).update K ht hn hkey (plainElem_bool he x);obtain⟨o',ho',hD'⟩:=Bv ho;refine ⟨w',o',hr,ho',⟨_,hD',htd.put hkl _,fun k'=>?_⟩,hgr⟩;by_cases c:k'=kl
 ·subst c;rw[Maps.atKey_put_same htd.isMap hkl,Bu]
 ·rw[Maps.atKey_put_other c,xk f x c,hat]
end
end Cl
namespace Go.Proofs
open Go.Shelf
def Tryz.Ay:Go.Shelf.Ren:=⟨fun | 129=>270 | 176=>223 | 249=>253 | 283=>280 | 284=>281 | 285=>282 | 286=>283 | 288=>271 | 317=>287 | 318=>288 | 319=>289 | 320=>290 | 337=>293 | 338=>294 | n=>n,fun | 0=>0 | 2=>2 | 3=>3 | 4=>4 | 5=>5 | 9=>9 | 20=>20 | 37=>185 | 46=>234 | 51=>256 | 53=>258 | 171=>273 | 173=>275 | 212=>283 | 213=>284 | 232=>288 | 233=>289 | n=>n,fun | 17=>0 | 18=>1 | 19=>2 | n=>n⟩
theorem Tryz.LG:Go.Proofs.LaysM.n176 Tryz.prog Tryz.Ay:={
 mixed:=by kernel_rfl
 f129:=Tryz.func270.trans (congrArg some zk)
 f176:=Tryz.func223.trans (congrArg some zk)
 f249:=Tryz.func253.trans (congrArg some zk)
 f283:=Tryz.func280.trans (congrArg some zk)
 f284:=Tryz.func281.trans (congrArg some zk)
 f285:=Tryz.func282.trans (congrArg some zk)
 f286:=Tryz.func283.trans (congrArg some zk)
 f288:=Tryz.func271.trans (congrArg some zk)
 f317:=Tryz.func287.trans (congrArg some zk)
 f318:=Tryz.func288.trans (congrArg some zk)
 f319:=Tryz.func289.trans (congrArg some zk)
 f320:=Tryz.func290.trans (congrArg some zk)
 f337:=Tryz.func293.trans (congrArg some zk)
 f338:=Tryz.func294.trans (congrArg some zk)
 t0:=Tryz.underlying0
 a0:=Tryz.isAgg0
 z0:=Tryz.sizeOf0
 v0:=Tryz.zeroValue0
 t2:=Tryz.underlying2
 a2:=Tryz.isAgg2
 z2:=Tryz.sizeOf2
 v2:=Tryz.zeroValue2
 t3:=Tryz.underlying3
 a3:=Tryz.isAgg3
 z3:=Tryz.sizeOf3
 v3:=Tryz.zeroValue3
 t4:=Tryz.underlying4
 a4:=Tryz.isAgg4
 z4:=Tryz.sizeOf4
 v4:=Tryz.zeroValue4
 t5:=Tryz.underlying5
 a5:=Tryz.isAgg5
 z5:=Tryz.sizeOf5
 v5:=Tryz.zeroValue5
 t9:=Tryz.underlying9
 a9:=Tryz.isAgg9
 z9:=Tryz.sizeOf9
 v9:=Tryz.zeroValue9
 t20:=Tryz.underlying20
 a20:=Tryz.isAgg20
 z20:=Tryz.sizeOf20
 v20:=Tryz.zeroValue20
 t37:=Tryz.underlying185
 a37:=Tryz.isAgg185
 z37:=Tryz.sizeOf185
 v37:=Tryz.zeroValue185
 t46:=Tryz.underlying234
 a46:=Tryz.isAgg234
 z46:=Tryz.sizeOf234
 v46:=Tryz.zeroValue234
 t51:=Tryz.underlying256
 a51:=Tryz.isAgg256
 z51:=Tryz.sizeOf256
 v51:=Tryz.zeroValue256
 t53:=Tryz.underlying258
 a53:=Tryz.isAgg258
 z53:=Tryz.sizeOf258
 v53:=Tryz.zeroValue258
 t171:=Tryz.underlying273
 a171:=Tryz.isAgg273
 z171:=Tryz.sizeOf273
 v171:=Tryz.zeroValue273
 t173:=Tryz.underlying275
 a173:=Tryz.isAgg275
 z173:=Tryz.sizeOf275
 v173:=Tryz.zeroValue275
 t212:=Tryz.underlying283
 a212:=Tryz.isAgg283
 z212:=Tryz.sizeOf283
 v212:=Tryz.zeroValue283
 t213:=Tryz.underlying284
 a213:=Tryz.isAgg284
 z213:=Tryz.sizeOf284
 t232:=Tryz.underlying288
 a232:=Tryz.isAgg288
 z232:=Tryz.sizeOf288
 v232:=Tryz.zeroValue288
 t233:=Tryz.underlying289
 a233:=Tryz.isAgg289
 z233:=Tryz.sizeOf289
 v233:=Tryz.zeroValue289
 g17:=by kernel_rfl
 g18:=by kernel_rfl
 g19:=by kernel_rfl
 i0:=by kernel_rfl
 i2:=by kernel_rfl
 i3:=by kernel_rfl
 i4:=by kernel_rfl
 i5:=by kernel_rfl
 i9:=by kernel_rfl
 i20:=by kernel_rfl
 i37:=by kernel_rfl
 i46:=by kernel_rfl
 i51:=by kernel_rfl
 i53:=by kernel_rfl
 i171:=by kernel_rfl
 i173:=by kernel_rfl
 i212:=by kernel_rfl
 i232:=by kernel_rfl
 i233:=by kernel_rfl
 m17:=by kernel_rfl
 m18:=by kernel_rfl
 m19:=by kernel_rfl }
open Go.RowKit Go.Sort Go.Lib in
theorem Tryz.qx (B n:Nat) (i:Int) (h0 : -9223372036854775808≤i) (h1:i≤9223372036854775807) (sv:Value) (xs:List Value) (w:World) (hown:w.ownsRow B 5 1 sv n xs) (hBw:B≤w.heap.size) (hlim:n+21≤140737488355328)
 (htab : Lib.TabBelow Tryz.prog B w "internal/strconv.uint64pow10" .u64 Lib.pow10Tab) :
 Calls Tryz.prog 223 #[sv,.int .i64 i,.int .i64 10] w fun e w'=>∃v',e=.returned v'∧w'.ownsRow B 5 1 v' (n+(Lib.itoa i).length) (xs ++ Lib.byteCells (Lib.itoa i))∧Below B w w'∧Lib.OthersKept 5 none w w':=Any.strconv_AppendInt_10 Tryz.LG B n i h0 h1 sv xs w hown hBw hlim htab
end Go.Proofs
namespace Go.Proofs
open Go.Shelf
def Tryz.GZ:Go.Shelf.Ren:=⟨fun | 4=>203 | n=>n,fun | 22=>49 | 25=>35 | 3=>3 | 4=>4 | 9=>9 | 20=>20 | 0=>0 | 2=>2 | n=>n,fun | n=>n⟩
theorem Tryz.MR:Go.Proofs.Lays8.n4 Tryz.prog Tryz.GZ:={
 mixed:=by kernel_rfl
 f4:=⟨Tryz.f203.name,by decide,Tryz.func203.trans (congrArg some zk)⟩
 t0:=Tryz.underlying0
 a0:=Tryz.isAgg0
 z0:=Tryz.sizeOf0
 v0:=Tryz.zeroValue0
 t3:=Tryz.underlying3
 a3:=Tryz.isAgg3
 z3:=Tryz.sizeOf3
 v3:=Tryz.zeroValue3
 t4:=Tryz.underlying4
 a4:=Tryz.isAgg4
 z4:=Tryz.sizeOf4
 v4:=Tryz.zeroValue4
 t9:=Tryz.underlying9
 a9:=Tryz.isAgg9
 z9:=Tryz.sizeOf9
 v9:=Tryz.zeroValue9
 t20:=Tryz.underlying20
 a20:=Tryz.isAgg20
 z20:=Tryz.sizeOf20
 v20:=Tryz.zeroValue20
 t22:=Tryz.underlying49
 a22:=Tryz.isAgg49
 z22:=Tryz.sizeOf49
 v22:=Tryz.zeroValue49 }
end Go.Proofs
