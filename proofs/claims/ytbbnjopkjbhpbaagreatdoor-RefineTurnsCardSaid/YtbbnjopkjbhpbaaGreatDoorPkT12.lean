/- Lemmas. -/
import Derived.Test.YtbbnjopkjbhpbaaGreatDoorPkT11
set_option maxRecDepth 99999
set_option maxHeartbeats 9999999
namespace Go.Proofs.YtbbnjopkjbhpbaaGreatDoor
open Go Go.RowKit Go.Proofs Cl
theorem Jr{H:Type}:∀l:List (DataW H),Rows.uptoBulkAll l=(l.map Rows.uptoBulk).sum
 |[]=>by simp[Rows.uptoBulkAll]
 |d::l=>by simp[Rows.uptoBulkAll,Jr l]
theorem fzz{H:Type}:uC (Rows.uptoBulk (H:=H)) where
 sl es sp:=by rw[Rows.uptoBulk,Jr];omega
 nil:=by simp[Rows.uptoBulk]
 ag ps:=by rw[Rows.uptoBulk,Jr];omega
end Go.Proofs.YtbbnjopkjbhpbaaGreatDoor
namespace Cl
open Go Go.RowKit
structure og (P:Program) (t:TypeId) (n:Nat):Prop where
 agg:∀w,(isAgg t).run P w=.ok true w
 size:∀w,(Go.sizeOf t).run P w=.ok n w
theorem grownBy_setRow'{w:zW}{g:Nat}{b cs:Array Value}{t:TypeId}(_:w.heap[g]?=some (.cells b t (0,0))):w.grownBy (w.setRow g cs) (some g):=by
 refine⟨rfl,rfl,rfl,by simp[World.setRow],fun k hk a=>?_⟩;have:g≠k:=fun e=>a (by rw[e]);simp[World.setRow,Array.getElem?_modify,this]
section
variable {P:Program} {t:TypeId} {n:Nat} {w:zW} {ops:Array Oper} {rest:List Oper} {op:Oper} {a:Act} {Q:Exit->Act->World->Prop}
theorem og.load(S:og P t n){b o:Nat}{cs:List Value}(a:cs.length=n)(d:∀j u,cs[j]?=some u->w.cell? ⟨b,o+j,none⟩=some u):(loadVar t ⟨b,o,none⟩).run P w=.ok (.agg cs.toArray) w:=by
 have h:=run_loadCells_list (P:=P) w ⟨b,o,none⟩ cs (fun j v c=>by rw[Addr.add_lit];exact d j v c);rw[a]at h;simp[loadVar,S.agg,S.size,h,Result.andThen]
theorem aj(S:og P t n)(g:Region.wanted op (yielded ops a.tmps)=true)(p:Operand)(c:op.op=Op.load t p){b o:Nat}(e:a.eval p=.pointer (some ⟨b,o,none⟩))(cs:List Value)(f:cs.length=n)(h:∀j u,cs[j]?=some u->w.cell? ⟨b,o+j,none⟩=some u)
(i:wpList P ops Q rest (a.put op.dst (.agg cs.toArray)) w):wpList P ops Q (op::rest) a w:=by
 refine BigFrame.wpList_want g fun k d=>?_;unfold Oper.wp;simp[execOp,c,e,Instr.loadAt,Instr.sureAddr,S.load f h,Result.andThen];exact d _ _ i
theorem aA(S:og P t n)(l:Region.wanted op (yielded ops a.tmps)=true)(p v:Operand)(d:op.op=Op.store t p v){g:Nat}{T:TypeId}{b cs:Array Value}(j:a.eval p=.p g)(i:a.eval v=.agg cs)(h:b.size=n)(k:cs.size=n)(o:∀u∈cs.toList,u.oneCell'=true)(e:bg w g T b)
(m:∀w',bg w' g T cs->w.grownBy w' (some g)->wpList P ops Q rest (a.put op.dst undef) w'):wpList P ops Q (op::rest) a w:=by
 refine BigFrame.wpList_want l fun q f=>?_;have c:=run_storeCells_from (P:=P) g T cs.toList 0 b w e.get qdQ o;simp only[List.take_zero,xN,Array.toArray_toList]at c;unfold Oper.wp;simp[execOp,d,j,i,Instr.storeAt,Instr.sureAddr,storeVar,S.size,Value.cells,k,c,Result.andThen];refine f _ _ (m _ ⟨setRow_heap w g b cs T (0,0) e.get⟩ ?_);exact grownBy_setRow' e.get
end
theorem jq{P:Program}{c:Func}{k:Nat}{t:TypeId}{a:Array Value}{w:zW}{v:zV}{b:Addr}(e:c.results=#[.cell k t])(hk:a.getD k undef=.pointer (some b))(d:(loadVar t b).run P w=.ok v w):(results c a).run P w=.ok v w:=by
 rw[zY]at hk;simp[results,e,asAddr,hk,d]
theorem dz{P:Program}{c:Func}{k j:Nat}{t:TypeId}{a:Array Value}{w:zW}{v:zV}{b:Addr}(hf:c.results=#[.cell k t,.tmp j])(hk:a.getD k undef=.pointer (some b))(hr:(loadVar t b).run P w=.ok v w):(results c a).run P w=.ok (.tuple #[v,a.getD j undef]) w:=by
 exact qdv
abbrev FV:Array Value:=#[.bool false,.bool false,.bool false,.bool false,.slice none 0 0,.slice none 0 0,.slice none 0 0,.slice none 0 0,.slice none 0 0]
abbrev lZ:Array Value:=#[.bool false,.bool false,.bool false,.bool false,.slice none 0 0,.slice none 0 0,.slice none 0 0,.slice none 0 0,.slice none 0 0,.bool false,.bool false,.bool false,.bool false,.slice none 0 0,.slice none 0 0,.slice none 0 0,.slice none 0 0,.slice none 0 0]
abbrev RJ:Array Value:=#[.string ⟨#[]⟩,.int .i64 0,.bool false,.bool false,.bool false,.bool false,.slice none 0 0,.slice none 0 0,.slice none 0 0,.slice none 0 0,.slice none 0 0,.bool false,.bool false,.bool false,.bool false,.slice none 0 0,.slice none 0 0,.slice none 0 0,.slice none 0 0,.slice none 0 0]
abbrev RF:Array Value:=#[.slice none 0 0,.bool false,.bool false,.bool false,.bool false,.slice none 0 0,.slice none 0 0,.slice none 0 0,.slice none 0 0,.slice none 0 0,.bool false,.bool false,.bool false,.bool false,.slice none 0 0,.slice none 0 0,.slice none 0 0,.slice none 0 0,.slice none 0 0]
theorem CL{m:Mem}{n:Nat}{x:Sl}{v:Vl}(k:aY m n x v):∀u∈aZ v x,u.oneCell'=true:=by
 cases n with
 |zero=>exact k.elim
 |succ n=>
  obtain⟨⟨⟨s,l,f,-⟩,⟨r,j,e,-⟩,⟨q,i,d,-⟩⟩,⟨p,h,c,-⟩,⟨o,g,b,-⟩⟩:=k;intro u a;simp only[aZ,f,e,d,c,b,yA,List.not_mem_nil,or_false]at a;rcases a with rfl|rfl|rfl|rfl|rfl|rfl|rfl|rfl|rfl<;>rfl
theorem fG{m:Mem}{n a:Nat}{x y:Sl}{d:Vd}(k:aY m n x d.1)(b:aY m a y d.2):∀u∈dw d x y,u.oneCell'=true:=fun u c=>
 (yP.1 c).elim (CL k u) (CL b u)
theorem mM{m:Mem}{n b:Nat}{x y:Sl}{f:Fd}(k:aY m n x f.2.1)(c:aY m b y f.2.2):∀u∈qx f x y,u.oneCell'=true:=fun u a=>by
 rcases yA.1 a with rfl|a
 .rfl
 .rcases yA.1 a with rfl|a
  .rfl
  .exact fG k c u a
theorem mK{m:Mem}{n d:Nat}{x y:Sl}{k:Kl}{c:zV}(e:aV m c k.1)(g:aY m n x k.2.1)(f:aY m d y k.2.2):∀u∈nE k c x y,u.oneCell'=true:=fun u b=>by
 rcases yA.1 b with rfl|b
 .obtain⟨a,h,rfl,-⟩:=e;rfl
 .exact fG g f u b
theorem Own.aQ{w0 w w':zW}{m mk:Mem}{L:List bA}{g:Nat}{t:TypeId}{arr a:Array Value}(h:Own w0 m w mk (.obj g t arr::L))(ho:bg w' g t a)(hg:w.grownBy w' (some g)):Own w0 m w' mk (.obj g t a::L):=by
 have hf:=h.ik _ (yF ..) g rfl;have hap:=yS.1 h.apart;refine⟨h.m0,h.aF.grown hg h.aF.size (fun k hk=>by cases hk;exact hf.1),h.ext,ezU h.az hg (fun k hk=>by cases hk;exact hf.2),?_,?_,.cons ?_ hap.2⟩
 .exact qgS
 .exact qgx
 .exact qct
theorem bg.sub{w:zW}{g:Nat}{t:TypeId}{arr:Array Value}(h:bg w g t arr){o:Nat}{cs:List Value}(a:∀j u,cs[j]?=some u->arr[o+j]?=some u):∀j u,cs[j]?=some u->w.cell? ⟨g,o+j,none⟩=some u:=fun j u b=>h.cell (a j u b)
theorem bg.all{w:zW}{g:Nat}{t:TypeId}{cs:List Value}(h:bg w g t cs.toArray):∀j u,cs[j]?=some u->w.cell? ⟨g,0+j,none⟩=some u:=fun j u hj=>h.cell qdP
theorem BA{H:Type}{P:Program}{e:TypeId}(b:P.underlying e=some .bool){v:zV}{z:DataW H×List MemPlace}(h:plainElem P e v=some z):∃a,v=.bool a/\z=(.lit (.bool a),[]):=by
 unfold plainElem at h;rw[b]at h;cases v<;>simp at h
 subst h;exact⟨_,rfl,rfl⟩
structure FU (P:Program) (k e:TypeId) (o:Obj) (n:Nat) (f:Lit->Bool):Prop where
 ex:∃D:DataW Unit,(∀(w:zW) b,w.heap[b]?=some o->w.ownsMap P k (plainElem P e) b n D)/\Maps.Tidy D/\∀kl,D.atKey kl (.lit (.bool false))=.lit (.bool (f kl))
open Classical in
noncomputable def Yr(f:Lit->Bool)(a:Lit)(x:Bool):Lit->Bool:=fun k=>if k=a then x else f k
theorem Mr(f:Lit->Bool)(a:Lit)(x:Bool):Yr f a x a=x:=by simp[Yr]
theorem Jv(f:Lit->Bool){a k:Lit}(x:Bool)(h:k≠a):Yr f a x k=f k:=by simp[Yr,h]
section
variable {P:Program} {k e:TypeId} {o:Obj} {n:Nat} {f:Lit->Bool}
theorem Ox{w:zW}{b:Nat}{D:DataW Unit}{R:Value->Option (DataW Unit×List MemPlace)}(h:w.ownsMap P k R b n D):∃o,w.heap[b]?=some o/\∀(w:zW) b,w.heap[b]?=some o->w.ownsMap P k R b n D:=by
 exact qb9
theorem FU.made(P:Program)(k e:TypeId):FU P k e (.map #[] 0) 0 (fun _=>false):=by
 refine⟨.map [],fun w b h=>?_,Maps.tidy_empty,fun g=>?_⟩
 .obtain⟨es,a,c,F,d,f⟩:=World.ownsMap_made (H:=Unit) w P k (plainElem P e);have:(w.alloc (.map #[] 0)).heap[w.heap.size]?=some (.map #[] 0):=show(w.heap.push _)[w.heap.size]?=_ by simp
  rw[this]at c;cases c;exact⟨_,_,h,F,d,f⟩
 .exact Maps.atKey_of_not_has rfl _
variable {w:zW} {t:TypeId} {ops:Array Oper} {rest:List Oper} {op:Oper} {a:Act} {Q:Exit->Act->World->Prop} {b:Nat}
theorem FU.Ag(h:FU P k e o n f)(K:Maps.Keyed P k)(ht:P.underlying t=some (.map k e))(l:P.underlying e=some .bool)(m:∀w,(zeroValue e).run P w=.ok (.bool false) w)(r:w.heap[b]?=some o)
{a:zV}{i:Lit}(d:keyOf P k a=some i):(Instr.lookup t (.map (some b)) a false).run P w=.ok (.bool (f i)) w:=by
 obtain⟨D,s,-,j⟩:=h.ex;obtain⟨v,u,q,p⟩:=(s w b r).lookup K ht (m w) (plainElem_bool l false) d;obtain⟨c,rfl,g⟩:=BA l p;simp only[Prod.mk.injEq]at g;rw[j i]at g;simp only[DataW.lit.injEq,Lit.bool.injEq]at g;rw[q,g.1]
theorem FU.mono(h:FU P k e o n f){a:Nat}(hn:n<=a):FU P k e o a f:=by
 exact qcD
theorem FU.Af(h:FU P k e o n f)(K:Maps.Keyed P k)(ht:P.underlying t=some (.map k e))(y:P.underlying e=some .bool)(z:w.heap[b]?=some o)(v:n<maxLen)
{d:zV}{j:Lit}(a:keyOf P k d=some j)(x:Bool):
 ∃w' o',(Instr.mapUpdate t (.map (some b)) d (.bool x)).run P w=.ok () w'/\w'.heap[b]?=some o'/\FU P k e o' (n+1) (Yr f j x)/\w.grownBy w' (some b):=by
 obtain⟨D,A,g,p⟩:=h.ex;have i:WideAt.IsKeyLit j:=K.key a;obtain⟨w',s,u,m⟩:=(A w b z).update K ht v a (plainElem_bool y x);obtain⟨o',l,q⟩:=Ox u;refine⟨w',o',s,l,⟨_,q,g.put i _,fun r=>?_⟩,m⟩;by_cases c:r=j
 .subst c;rw[Maps.atKey_put_same g.isMap i,Mr]
 .rw[Maps.atKey_put_other c,Jv f x c,p]
end
end Cl
