/- Lemmas for the proofs of chapter 11. -/
import Derived.Shelf.Strconv.AppendIntPublic10
import Derived.Shelf.Spec.SlicesGrow
import Derived.Test.YtdgjplfcpcphoaaGreatDoorPkE11
set_option maxRecDepth 100000
set_option maxHeartbeats 16000000
namespace Go.Proofs.YtdgjplfcpcphoaaGreatDoor
open Go Go.RowKit Go.Proofs Cl
theorem Cj{H:Type}:∀l:List (DataW H),Rows.uptoBulkAll l=(l.map Rows.uptoBulk).sum
 |[]=>by simp[Rows.uptoBulkAll]
 |d::l=>by simp[Rows.uptoBulkAll,Cj l]
theorem sF{H:Type}{l:List (DataW H)}(b:Rows.uptoSmall H l=true){d:DataW H}(h:d∈l):Rows.uptoBulk d<=1048576:=by
 have a:=of_decide_eq_true b;rw[Cj]at a;exact yJ (Qc (f:=Rows.uptoBulk) h) a
theorem Pn{H:Type}:q9 (Rows.uptoBulk (H:=H)) where
 sl es sp:=by rw[Rows.uptoBulk,Cj];omega
 nil:=by simp[Rows.uptoBulk]
 ag ps:=by rw[Rows.uptoBulk,Cj];omega
end Go.Proofs.YtdgjplfcpcphoaaGreatDoor
namespace Cl
open Go Go.RowKit
structure o7 (P:Program) (t:TypeId) (n:Nat):Prop where
 agg:∀w,(isAgg t).run P w=.ok true w
 size:∀w,(Go.sizeOf t).run P w=.ok n w
theorem grownBy_setRow'{w:zW}{g:Nat}{b cs:Array Value}{t:TypeId}(_:w.heap[g]?=some (.cells b t (0,0))):w.grownBy (w.setRow g cs) (some g):=by
 refine⟨rfl,rfl,rfl,by simp[World.setRow],fun k c a=>?_⟩;have:g≠k:=fun e=>a (by rw[e]);simp[World.setRow,Array.getElem?_modify,this]
section
variable {P:Program} {t:TypeId} {n:Nat} {w:zW} {ops:Array Oper} {rest:List Oper} {op:Oper} {a:Act} {Q:Exit->Act->World->Prop}
theorem o7.load(S:o7 P t n){b o:Nat}{cs:List Value}(a:cs.length=n)(d:∀j u,cs[j]?=some u->w.cell? ⟨b,o+j,none⟩=some u):(loadVar t ⟨b,o,none⟩).run P w=.ok (.agg cs.toArray) w:=by
 have h:=run_loadCells_list (P:=P) w ⟨b,o,none⟩ cs (fun j v c=>by rw[Addr.add_lit];exact d j v c);rw[a]at h;simp[loadVar,S.agg,S.size,h,Result.andThen]
theorem ae(S:o7 P t n)(g:Region.wanted op (yielded ops a.tmps)=true)(p:Operand)(c:op.op=Op.load t p){b o:Nat}(e:a.eval p=.pointer (some ⟨b,o,none⟩))(cs:List Value)(f:cs.length=n)(h:∀j u,cs[j]?=some u->w.cell? ⟨b,o+j,none⟩=some u)
(i:wpList P ops Q rest (a.put op.dst (.agg cs.toArray)) w):wpList P ops Q (op::rest) a w:=by
 refine BigFrame.wpList_want g fun k d=>?_;unfold Oper.wp;simp[execOp,c,e,Instr.loadAt,Instr.sureAddr,S.load f h,Result.andThen];exact d _ _ i
theorem aM(S:o7 P t n)(l:Region.wanted op (yielded ops a.tmps)=true)(p v:Operand)(d:op.op=Op.store t p v){g:Nat}{T:TypeId}{b cs:Array Value}(j:a.eval p=.pointer (some ⟨g,0,none⟩))(i:a.eval v=.agg cs)(h:b.size=n)(k:cs.size=n)(o:∀u∈cs.toList,u.oneCell'=true)(e:bH w g T b)
(m:∀w',bH w' g T cs->w.grownBy w' (some g)->wpList P ops Q rest (a.put op.dst undef) w'):wpList P ops Q (op::rest) a w:=by
 refine BigFrame.wpList_want l fun q f=>?_;have c:=run_storeCells_from (P:=P) g T cs.toList 0 b w e.get qd4 o;simp only[List.take_zero,xN,Array.toArray_toList]at c;unfold Oper.wp;simp[execOp,d,j,i,Instr.storeAt,Instr.sureAddr,storeVar,S.size,Value.cells,k,c,Result.andThen];refine f _ _ (m _ ⟨setRow_heap w g b cs T (0,0) e.get⟩ ?_);exact grownBy_setRow' e.get
end
theorem oD{P:Program}{d:Func}{k:Nat}{t:TypeId}{a:Array Value}{w:zW}{v:zV}{b:Addr}(f:d.results=#[.cell k t])(c:a.getD k undef=.pointer (some b))(e:(loadVar t b).run P w=.ok v w):(results d a).run P w=.ok v w:=by
 rw[zY]at c;simp[results,f,asAddr,c,e]
theorem kw{P:Program}{d:Func}{k j:Nat}{t:TypeId}{a:Array Value}{w:zW}{v:zV}{b:Addr}(f:d.results=#[.cell k t,.tmp j])(c:a.getD k undef=.pointer (some b))(e:(loadVar t b).run P w=.ok v w):(results d a).run P w=.ok (.tuple #[v,a.getD j undef]) w:=by
 rw[zY]at c;simp[results,f,asAddr,c,e,Result.andThen]
abbrev zcV:Array Value:=#[.bool false,.bool false,.bool false,.bool false,.slice none 0 0,.slice none 0 0,.slice none 0 0,.slice none 0 0,.slice none 0 0]
abbrev uG:Array Value:=#[.bool false,.bool false,.bool false,.bool false,.slice none 0 0,.slice none 0 0,.slice none 0 0,.slice none 0 0,.slice none 0 0,.bool false,.bool false,.bool false,.bool false,.slice none 0 0,.slice none 0 0,.slice none 0 0,.slice none 0 0,.slice none 0 0]
abbrev Wx:Array Value:=#[.string ⟨#[]⟩,.int .i64 0,.bool false,.bool false,.bool false,.bool false,.slice none 0 0,.slice none 0 0,.slice none 0 0,.slice none 0 0,.slice none 0 0,.bool false,.bool false,.bool false,.bool false,.slice none 0 0,.slice none 0 0,.slice none 0 0,.slice none 0 0,.slice none 0 0]
abbrev Ww:Array Value:=#[.slice none 0 0,.bool false,.bool false,.bool false,.bool false,.slice none 0 0,.slice none 0 0,.slice none 0 0,.slice none 0 0,.slice none 0 0,.bool false,.bool false,.bool false,.bool false,.slice none 0 0,.slice none 0 0,.slice none 0 0,.slice none 0 0,.slice none 0 0]
theorem NY{m:Mem}{n:Nat}{x:Sl}{v:Vl}(k:bG m n x v):∀u∈bu v x,u.oneCell'=true:=by
 cases n with
 |zero=>exact k.elim
 |succ n=>
  obtain⟨⟨⟨s,l,f,-⟩,⟨r,j,e,-⟩,⟨q,i,d,-⟩⟩,⟨p,h,c,-⟩,⟨o,g,b,-⟩⟩:=k;intro u a;simp only[bu,f,e,d,c,b,yA,List.not_mem_nil,or_false]at a;rcases a with rfl|rfl|rfl|rfl|rfl|rfl|rfl|rfl|rfl<;>rfl
theorem gW{m:Mem}{n a:Nat}{x y:Sl}{d:Vd}(k:bG m n x d.1)(b:bG m a y d.2):∀u∈fK d x y,u.oneCell'=true:=fun u c=>
 (yP.1 c).elim (NY k u) (NY b u)
theorem pF{m:Mem}{n b:Nat}{x y:Sl}{f:Fd}(k:bG m n x f.2.1)(c:bG m b y f.2.2):∀u∈qU f x y,u.oneCell'=true:=fun u a=>by
 rcases yA.1 a with rfl|a
 .rfl
 .rcases yA.1 a with rfl|a
  .rfl
  .exact gW k c u a
theorem pg{m:Mem}{n d:Nat}{x y:Sl}{k:Kl}{c:zV}(e:aQ m c k.1)(g:bG m n x k.2.1)(f:bG m d y k.2.2):∀u∈qN k c x y,u.oneCell'=true:=fun u b=>by
 rcases yA.1 b with rfl|b
 .obtain⟨a,h,rfl,-⟩:=e;rfl
 .exact gW g f u b
theorem Own.bN{w0 w w':zW}{m mk:Mem}{L:List bF}{g:Nat}{t:TypeId}{arr a:Array Value}(h:Own w0 m w mk (.obj g t arr::L))(ho:bH w' g t a)(hg:w.grownBy w' (some g)):Own w0 m w' mk (.obj g t a::L):=by
 have hf:=h.gV _ (yF ..) g rfl;have hap:=yS.1 h.apart;refine⟨h.m0,h.az.grown hg h.az.size (fun k hk=>by cases hk;exact hf.1),h.ext,Mem_inn_grown h.ay hg (fun k hk=>by cases hk;exact hf.2),?_,?_,.cons ?_ hap.2⟩
 .exact qba
 .exact qak
 .exact qcO
theorem bH.sub{w:zW}{g:Nat}{t:TypeId}{arr:Array Value}(h:bH w g t arr){o:Nat}{cs:List Value}(a:∀j u,cs[j]?=some u->arr[o+j]?=some u):∀j u,cs[j]?=some u->w.cell? ⟨g,o+j,none⟩=some u:=fun j u b=>h.cell (a j u b)
theorem bH.all{w:zW}{g:Nat}{t:TypeId}{cs:List Value}(h:bH w g t cs.toArray):∀j u,cs[j]?=some u->w.cell? ⟨g,0+j,none⟩=some u:=fun j u hj=>h.cell qeb
theorem ED{P:Program}{w:zW}(t d e:TypeId)(i:TypeInfo)(size c:Nat)(ht:P.underlying t=some (.slice e))(hi:P.info? e=some i)
(v:zV)(n:Nat)(xs:List Value)(a:w.ownsRow 0 e size v n xs):(Builtin.append_ #[t,t] d #[v,.slice none 0 c]).run P w=.ok v w:=by
 rcases a.2 with⟨rfl,rfl⟩|⟨g,cap,f,rfl,_,_,b,_⟩
 .simp[Builtin.append_,run_underlying ht,Go.sizeOf,typeInfo,hi,Builtin.lenOf,Builtin.firstCells]
 .simp[Builtin.append_,run_underlying ht,Go.sizeOf,typeInfo,hi,Builtin.lenOf,Builtin.firstCells,b,storeCells]
theorem gT{P:Program}{t e:TypeId}{size bytes:Nat}(S:gz P t e size bytes){w:zW}{ops:Array Oper}{rest:List Oper}{o:Oper}{a:Act}{Q:Exit->Act->World->Prop}(hgd:o.guard=none)(s x:Operand)
(ho:o.op=.call { callee:=.builtin .append,args:=#[s,x],argTypes:=#[t,t] })
(v:zV)(n:Nat)(xs:List Value)(hs:a.eval s=v)(hown:w.ownsRow 0 e size v n xs)
(ad:Option Addr)(m c:Nat)(cZ:List Value)(hx:a.eval x=.slice ad m c)(hl:cZ.length=m*size)(hn:ad=none->m=0)(hnews:∀A,ad=some A->∀j u,cZ[j]?=some u->w.cell? (A.add j)=some u)(h1:∀u∈cZ,u.oneCell'=true)
(h63:n+m<=maxLen)(hbytes:(n+m)*bytes<=140737488355328)
(h:∀va vc w',w'.ownsRow 0 e size (.slice va (n+m) vc) (n+m) (xs++cZ)->w.grownBy w' v.ownBlock->(∀k,(Value.slice va (n+m) vc).ownBlock=some k->v.ownBlock=some k\/w.heap.size<=k)->wpList P ops Q rest (a.put o.dst (.slice va (n+m) vc)) w'):wpList P ops Q (o::rest) a w:=by
 cases ad with
 |some A=>exact aG S hgd s x ho v n xs hs hown A m c cZ hx hl (hnews A rfl) h1 h63 hbytes h
 |none=>
  obtain rfl:=hn rfl;have hz:cZ=[]:=yM zo;subst hz;obtain⟨i,z,hi,-⟩:=S.info;obtain⟨va,vc,rfl⟩:=aT hown;refine wpList_plain hgd fun K' hK'=>?_;have hr:=fun ty=>ED (P:=P) t ty e i size c S.ht hi _ n xs hown;unfold Oper.wp execOp;simp only[ho,resolve,invoke,builtin,Sem.run_bind,Sem.run_pure,Result.andThen_ok,List.map_toArray,yL,xB,hs,hx,hr];exact hK' _ _ (h va vc w (by simpa using hown) ⟨rfl,rfl,rfl,zI _,fun _ _ _=>rfl⟩ (fun k hk=>.inl (by simpa using hk)))
theorem OQ:∀(l:List Value) (k:Nat) (arr:Array Value) (j:Nat),k+l.length<=arr.size->((l.zipIdx k).foldl (fun(a:Array Value) (x:Value×Nat)=>a.setIfInBounds (0+x.2) x.1) arr)[j]?=if k<=j/\j<k+l.length then l[j-k]? else arr[j]?
 |[],k,arr,j,_=>by simp;intro d b;omega
 |v::l,k,arr,j,h=>by
  rw[List.zipIdx_cons,List.foldl_cons,OQ l (k+1) _ j (by simp at h⊢;omega)];simp only[yZ,yO]at h⊢;by_cases e:j=k
  .subst e;rw[zJ zo,zK zo,Nat.sub_self];simp[show j<arr.size by omega]
  .by_cases c:k<=j/\j<k+(l.length+1)
   .rw[zK zo,zK c,show j-k=(j-(k+1))+1 by omega];simp
   .rw[zJ zo,zJ c,Array.getElem?_setIfInBounds_ne zo]
theorem XI(cs arr:Array Value)(h:arr.size=cs.size):cs.zipIdx.foldl (fun(a:Array Value) (x:Value×Nat)=>a.setIfInBounds (0+x.2) x.1) arr=cs:=by
 obtain⟨l⟩:=cs;rw[<-Array.foldl_toList];apply Array.ext_getElem?;intro j;have:=OQ l 0 arr j (by simp at h;omega);simp only[Array.toList_zipIdx];rw[this];simp at h;by_cases c:j<l.length
 .simp[c]
 .simp[c];omega
theorem mQ{P:Program}{t e:TypeId}{n bytes:Nat}(S:gz P t e n bytes)(B:o7 P e n){z:zV}(i:∀w,(zeroValue e).run P w=.ok z w)(h:z.cells.size=n)(m:n<=1000){w:zW}{ops:Array Oper}{rest:List Oper}{op:Oper}{a:Act}{Q:Exit->Act->World->Prop}
(k:Region.wanted op (yielded ops a.tmps)=true)(x:Operand)(b:op.op=Op.buildSlice t 1 #[(0,x)]){cs:Array Value}(j:a.eval x=.agg cs)(f:cs.size=n)
(l:wpList P ops Q rest (a.put op.dst (.slice (some ⟨w.heap.size,0,none⟩) 1 1)) (w.alloc (.cells cs e))):wpList P ops Q (op::rest) a w:=by
 refine BigFrame.wpList_want k fun o c=>?_;have d:=S.pos;have g:cs.zipIdx.foldl (fun(a:Array Value) (x:Value×Nat)=>a.setIfInBounds (0+x.2) x.1) ((Array.range (1*n)).map (z.cells[·%z.cells.size]!))=cs:=XI cs _ (by simp[f]);unfold Oper.wp;simp[execOp,b,j,Instr.buildSlice,run_underlying S.ht,B.size,i,Instr.fill,Value.cells,f,Result.andThen,newRow,show ¬(16777216<n)by omega,show n≠0 by omega]at g⊢;simp only[g];exact c _ _ l
theorem lS.one_cell{m:Mem}{n:Nat}{xs:List Value}{l:List Vd}(h:lS (bG m n) xs l):∀u∈xs,u.oneCell'=true:=fun u c=>by
 obtain⟨k,d,rfl⟩:=yX c;have a:=h.len;obtain⟨x,y,g,f,e⟩:=h.at' (k/18) zo;have b:k%18<(fK l[k/18] x y).length:=by rw[Ca];omega
 have:=g (k%18) _ (yH b);rw[show k/18*18+k%18=k by omega,yH d]at this;rw[Option.some.inj this];exact gW f e _ (zF b)
theorem bO.YA{R:Sl->Vl->Prop}{m:Mem}{v:zV}{l:List Vd}(h:bO R m v l):∃g c xs,v=.slice g l.length c/\l.length<=c/\c<=maxLen/\lS R xs l/\(g=none->l.length=0)/\∀w,m.ay w->∀A,g=some A->∀j u,xs[j]?=some u->w.cell? (A.add j)=some u:=by
 obtain⟨a,c,rfl,k,i,q⟩:=id h;by_cases d:l=[]
 .subst d;exact⟨a,c,[],rfl,k,i,.nil R,fun _=>rfl,fun w _ A _ j u f=>by simp at f⟩
 .obtain⟨b,off,xs,rfl,p,o⟩:=bO.row h d;exact⟨_,c,xs,rfl,k,i,p,(fun h=>by cases h),fun w n A e j u f=>by
   cases e;rw[Addr.add_lit];exact Mem_cell_w n (o j u f)⟩
theorem bO.JH{m mk:Mem}{w:zW}{t:TypeId}{v:zV}{l:List Vd}{xs:List Value}{n:Nat}(a:w.ownsRow 0 t 18 v l.length xs)(c:lS (bG mk n) xs l)(d:mk.free v)(b:(mk.iw w v).le m):bO (bG m n) m v l:=
 (IW (m:=mk) a c).le b fun _ _ h=>h.le (Mem.le_trans (Mem_le_addv d) b)
theorem KM{α:Type}{P:Program}{g:Operand}{ps:Array Tmp}{assign body:Code}{Q:Exit->Act->World->Prop}{a:Act}{w:zW}{gf:Nat}{lb:Array Value}
(hg:a.eval g=.func (.func gf) #[] lb)(eg:∀args w,(callFunc gf args).run P w=.ok (.enter gf args) w){encs:α->Array Value}(hps:∀x,(encs x).size=ps.size)
{w0:zW}{m mk:Mem}{L0:List bF}(hO:Own w0 m w mk L0)(I:List α->List bF->Prop)(Ix:Code->List α->List bF->Prop)(S Sp:List α->Prop)(h0:I [] L0)
(hseq:∀(l:Nat) (W1:zW) (L1:List bF) (B Bx:List α->List bF->Prop),B [] L1->(∀pre Lt,B pre Lt->∃L,I pre L)->Own w0 m W1 mk L1->Co P l encs w0 m mk B Bx ->
  Calls P gf (#[.func (.yield l) #[] #[]]++lb) W1 (MG w0 m mk B Bx S Sp))
(a₁:α->Act)
(hassign:∀(l:Nat) (x:α) (W:zW) (K:Act->World->Prop),K (a₁ x) W ->
  assign.wpIn (Fence.wide.inRound l) 0 P (Exit.then K (fun _ _ _=>False)) { tmps:=(ps.zip (encs x)).foldl (fun t (p,v)=>t.setIfInBounds p v) a.tmps,defers:=[] } W)
(hbody:∀(l:Nat) (pre:List α) (x:α) (W:zW) (mk1:Mem) (Lt Lr:List bF),I pre Lt->Own w0 m W mk1 (Lt++Lr)->mk.le mk1 ->
  body.wpIn (Fence.wide.inRound l) 0 P (Ct w0 m mk1 Lr I Ix (pre++[x])) (a₁ x) W)
(hdone:∀(D:Nat) (xs:List α) (W:zW) (mk1:Mem) (L:List bF),S xs->I xs L->Own w0 m W mk1 (.gQ D (.deferred (some []))::L)->mk.le mk1->Q .normal { a with defers:={ target:=.collected D,args:=#[] }::a.defers } W)
(hstop:∀(D:Nat) (c:Code) (xs:List α) (W:zW) (mk1:Mem) (L:List bF),Sp xs->Ix c xs L->Own w0 m W mk1 (.gQ D (.deferred (some []))::L)->mk.le mk1 ->
  c.wpIn Fence.wide 0 P Q { a with defers:={ target:=.collected D,args:=#[] }::a.defers } W):
 (Code.rangeFunc g ps assign body).wpIn Fence.wide 0 P Q a w:=by
 refine wpIn_rangeFunc ?_;intro fn _;obtain⟨rec,hrec⟩:∃rec:LoopState->Option Code->Loop,rec=fun st pe=>{ state:=st,pending:=pe,fn,tmps:=a.tmps,params:=ps,assign,body,defers:=w.heap.size }:=⟨_,rfl⟩;have hO1:=(hO.Bb (.deferred (some []))).Bb (.loop (rec .ready none));have hsz:(w.alloc (.deferred (some []))).heap.size=w.heap.size+1:=by simp
 rw[hsz]at hO1;have hent:=run_enterLoop_outer (P:=P) (w:=w) fn a.tmps ps assign body;have hre:(Obj.loop { state:=.ready,pending:=none,fn,tmps:=a.tmps,params:=ps,assign,body,defers:=w.heap.size })=.loop (rec .ready none):=by rw[hrec]
 rw[hre]at hent;generalize (w.alloc (.deferred (some []))).alloc (.loop (rec .ready none))=W1 at*
 generalize w.heap.size=D at*
 have hround:Co P (D+1) encs w0 m mk (fun pre Lt=>∃L,I pre L/\Lt=.gQ (D+1) (.loop (rec .ready none))::.gQ D (.deferred (some []))::L)
  (fun pre Lt=>∃c L,Ix c pre L/\Lt=.gQ (D+1) (.loop (rec .done (some c)))::.gQ D (.deferred (some []))::L):=by
  rintro pre x W mk1 Lt Lr ⟨L,hI,rfl⟩ hOw hle;have hl:=hOw.gQ;have hy:=run_yield (P:=P) (args:=encs x) hl (by rw[hrec];exact hps x);rw[hrec]at hy;refine⟨fn,_,assign,body,hy,roundIn_of_wpIn trivial (hassign _ x W _ ⟨_,run_beginRound hl (by rw[hrec]),?_⟩)⟩;have hO2:=hOw.jP (o':=.loop { rec .ready none with state:=.busy }) (World.putObj_heap_same (yC.1 hl).1) (grownBy_putObj' _ _ _);have hO3:=hO2.perm (r9 _ _ L Lr);refine wpIn_mono (hbody _ pre x _ mk1 L _ hI hO3 hle) ?_;have fin:∀(jump:Option Code) (W3:zW) (mk2:Mem) (L2:List bF),Own w0 m W3 mk2 (L2++(.gQ (D+1) (.loop { rec .ready none with state:=.busy })::.gQ D (.deferred (some []))::Lr)) ->
   ∃W4,(Instr.endRound (D+1) jump).run P W3=.ok (.bool jump.isNone) W4/\Own w0 m W4 mk2 (.gQ (D+1) (.loop (rec (if jump.isNone then .ready else .done) jump))::.gQ D (.deferred (some []))::(L2++Lr)):=by
   exact qap
  rintro e a3 W3 hp
  cases e with
  |normal=>
   obtain⟨mk2,L2,hi,ho,hm⟩:=hp;obtain⟨W4,hr,ho4⟩:=fin none W3 mk2 L2 ho
   exact qdx
  |ret=>
   obtain⟨mk2,L2,hi,ho,hm⟩:=hp;obtain⟨W4,hr,ho4⟩:=fin (some .ret) W3 mk2 L2 ho
   exact qdp
  |exit id=>
   obtain⟨mk2,L2,hi,ho,hm⟩:=hp;obtain⟨W4,hr,ho4⟩:=fin (some (.exit id)) W3 mk2 L2 ho
   exact qdd
  |goto t=>
   obtain⟨mk2,L2,hi,ho,hm⟩:=hp;obtain⟨W4,hr,ho4⟩:=fin (some (.goto t)) W3 mk2 L2 ho
   exact qdh
  |panic ch=>exact hp.elim
  |outgrown=>exact hp.elim
 refine⟨D+1,[{ target:=.collected D,args:=#[] }],W1,{ target:=.fn (.func gf) lb,args:=#[.func (.yield (D+1)) #[] #[]] },W1,gf,
  #[.func (.yield (D+1)) #[] #[]]++lb,W1,hent,?_,fun _ _=>trivial,?_,fun h=>absurd h (by simp[Fence.wide]),?_⟩
 .simp only[resolve,hg];simp[go_sem]
 .simp[invoke,go_sem,eg]
 .refine callsIn_wide.2 ((hseq (D+1) W1 _ _ _ ⟨L0,h0,rfl⟩ (fun _ _ h=>h.elim fun L hL=>⟨L,hL.1⟩) hO1 hround).mono ?_);rintro e W3 ⟨⟨v,rfl⟩,hend⟩;rcases hend with⟨xs,mk2,Lt,hS,⟨L,hI,rfl⟩,ho,hm⟩|⟨xs,mk2,Lt,hS,⟨c,L,hI,rfl⟩,ho,hm⟩
  .exact qaB
  .exact qaz
theorem AC{H:Type}{P:Program}{e:TypeId}(b:P.underlying e=some .bool){v:zV}{z:DataW H×List MemPlace}(h:plainElem P e v=some z):∃a,v=.bool a/\z=(.lit (.bool a),[]):=by
 unfold plainElem at h;rw[b]at h;cases v<;>simp at h
 subst h;exact⟨_,rfl,rfl⟩
structure EP (P:Program) (k e:TypeId) (o:Obj) (n:Nat) (f:Lit->Bool):Prop where
 ex:∃D:DataW Unit,(∀(w:zW) b,w.heap[b]?=some o->w.ownsMap P k (plainElem P e) b n D)/\Maps.Tidy D/\∀kl,D.atKey kl (.lit (.bool false))=.lit (.bool (f kl))
open Classical in
noncomputable def V9(f:Lit->Bool)(a:Lit)(x:Bool):Lit->Bool:=fun k=>if k=a then x else f k
theorem Kz(f:Lit->Bool)(a:Lit)(x:Bool):V9 f a x a=x:=by simp[V9]
theorem Ip(f:Lit->Bool){a k:Lit}(x:Bool)(h:k≠a):V9 f a x k=f k:=by simp[V9,h]
section
variable {P:Program} {k e:TypeId} {o:Obj} {n:Nat} {f:Lit->Bool}
theorem Mx{w:zW}{b:Nat}{D:DataW Unit}{R:Value->Option (DataW Unit×List MemPlace)}(h:w.ownsMap P k R b n D):∃o,w.heap[b]?=some o/\∀(w:zW) b,w.heap[b]?=some o->w.ownsMap P k R b n D:=by
 exact qcs
theorem EP.made(P:Program)(k e:TypeId):EP P k e (.map #[] 0) 0 (fun _=>false):=by
 refine⟨.map [],fun w b h=>?_,Maps.tidy_empty,fun g=>?_⟩
 .obtain⟨es,a,c,F,d,f⟩:=World.ownsMap_made (H:=Unit) w P k (plainElem P e);have:(w.alloc (.map #[] 0)).heap[w.heap.size]?=some (.map #[] 0):=show(w.heap.push _)[w.heap.size]?=_ by simp
  rw[this]at c;cases c;exact⟨_,_,h,F,d,f⟩
 .exact Maps.atKey_of_not_has rfl _
variable {w:zW} {t:TypeId} {ops:Array Oper} {rest:List Oper} {op:Oper} {a:Act} {Q:Exit->Act->World->Prop} {b:Nat}
theorem EP.wZ(h:EP P k e o n f)(K:Maps.Keyed P k)(ht:P.underlying t=some (.map k e))(l:P.underlying e=some .bool)(m:∀w,(zeroValue e).run P w=.ok (.bool false) w)(r:w.heap[b]?=some o)
{a:zV}{i:Lit}(d:keyOf P k a=some i):(Instr.lookup t (.map (some b)) a false).run P w=.ok (.bool (f i)) w:=by
 obtain⟨D,s,-,j⟩:=h.ex;obtain⟨v,ps,q,p⟩:=(s w b r).lookup K ht (m w) (plainElem_bool l false) d;obtain⟨c,rfl,g⟩:=AC l p;simp only[Prod.mk.injEq]at g;rw[j i]at g;simp only[DataW.lit.injEq,Lit.bool.injEq]at g;rw[q,g.1]
theorem EP.mono(h:EP P k e o n f){a:Nat}(hn:n<=a):EP P k e o a f:=by
 exact qcZ
theorem EP.wY(h:EP P k e o n f)(K:Maps.Keyed P k)(ht:P.underlying t=some (.map k e))(y:P.underlying e=some .bool)(z:w.heap[b]?=some o)(v:n<maxLen)
{d:zV}{j:Lit}(a:keyOf P k d=some j)(x:Bool):
 ∃w' o',(Instr.mapUpdate t (.map (some b)) d (.bool x)).run P w=.ok () w'/\w'.heap[b]?=some o'/\EP P k e o' (n+1) (V9 f j x)/\w.grownBy w' (some b):=by
 obtain⟨D,A,g,p⟩:=h.ex;have i:WideAt.IsKeyLit j:=K.key a;obtain⟨w',s,u,m⟩:=(A w b z).update K ht v a (plainElem_bool y x);obtain⟨o',l,q⟩:=Mx u;refine⟨w',o',s,l,⟨_,q,g.put i _,fun r=>?_⟩,m⟩;by_cases c:r=j
 .subst c;rw[Maps.atKey_put_same g.isMap i,Kz]
 .rw[Maps.atKey_put_other c,Ip f x c,p]
end
end Cl
namespace Go.Proofs
open Go.Shelf Tryz
def Tryz.L9:Go.Shelf.Ren:=⟨fun|129=>270|176=>223|249=>253|283=>280|284=>281|285=>282|286=>283|288=>271|317=>287|318=>288|319=>289|320=>290|337=>293|338=>294|n=>n,fun|0=>0|2=>2|3=>3|4=>4|5=>5|9=>9|20=>20|37=>185|46=>234|51=>256|53=>258|171=>273|173=>275|212=>283|213=>284|232=>288|233=>289|n=>n,fun|17=>0|18=>1|19=>2|n=>n⟩
theorem Tryz.Xv:Go.Proofs.LaysM.n176 prog Tryz.L9:={
 mixed:=by kernel_rfl
 f129:=func270.trans (congrArg some zk)
 f176:=func223.trans (congrArg some zk)
 f249:=func253.trans (congrArg some zk)
 f283:=func280.trans (congrArg some zk)
 f284:=func281.trans (congrArg some zk)
 f285:=func282.trans (congrArg some zk)
 f286:=func283.trans (congrArg some zk)
 f288:=func271.trans (congrArg some zk)
 f317:=func287.trans (congrArg some zk)
 f318:=func288.trans (congrArg some zk)
 f319:=func289.trans (congrArg some zk)
 f320:=func290.trans (congrArg some zk)
 f337:=func293.trans (congrArg some zk)
 f338:=func294.trans (congrArg some zk)
 t0:=underlying0
 a0:=Tryz.isAgg0
 z0:=Tryz.sizeOf0
 v0:=Tryz.zeroValue0
 t2:=underlying2
 a2:=Tryz.isAgg2
 z2:=Tryz.sizeOf2
 v2:=Tryz.zeroValue2
 t3:=underlying3
 a3:=Tryz.isAgg3
 z3:=Tryz.sizeOf3
 v3:=Tryz.zeroValue3
 t4:=underlying4
 a4:=Tryz.isAgg4
 z4:=Tryz.sizeOf4
 v4:=Tryz.zeroValue4
 t5:=underlying5
 a5:=Tryz.isAgg5
 z5:=Tryz.sizeOf5
 v5:=Tryz.zeroValue5
 t9:=underlying9
 a9:=Tryz.isAgg9
 z9:=Tryz.sizeOf9
 v9:=Tryz.zeroValue9
 t20:=underlying20
 a20:=Tryz.isAgg20
 z20:=Tryz.sizeOf20
 v20:=Tryz.zeroValue20
 t37:=underlying185
 a37:=Tryz.isAgg185
 z37:=Tryz.sizeOf185
 v37:=Tryz.zeroValue185
 t46:=underlying234
 a46:=Tryz.isAgg234
 z46:=Tryz.sizeOf234
 v46:=Tryz.zeroValue234
 t51:=underlying256
 a51:=Tryz.isAgg256
 z51:=Tryz.sizeOf256
 v51:=Tryz.zeroValue256
 t53:=underlying258
 a53:=Tryz.isAgg258
 z53:=Tryz.sizeOf258
 v53:=Tryz.zeroValue258
 t171:=underlying273
 a171:=Tryz.isAgg273
 z171:=Tryz.sizeOf273
 v171:=Tryz.zeroValue273
 t173:=underlying275
 a173:=Tryz.isAgg275
 z173:=Tryz.sizeOf275
 v173:=Tryz.zeroValue275
 t212:=underlying283
 a212:=Tryz.isAgg283
 z212:=Tryz.sizeOf283
 v212:=Tryz.zeroValue283
 t213:=underlying284
 a213:=Tryz.isAgg284
 z213:=Tryz.sizeOf284
 t232:=underlying288
 a232:=Tryz.isAgg288
 z232:=Tryz.sizeOf288
 v232:=Tryz.zeroValue288
 t233:=underlying289
 a233:=Tryz.isAgg289
 z233:=Tryz.sizeOf289
 v233:=Tryz.zeroValue289
 g17:=by kernel_rfl
 g18:=by kernel_rfl
 g19:=by kernel_rfl
 i0:=by kernel_rfl
 i2:=by kernel_rfl
 i3:=by kernel_rfl
 i4:=by kernel_rfl
 i5:=by kernel_rfl
 i9:=by kernel_rfl
 i20:=by kernel_rfl
 i37:=by kernel_rfl
 i46:=by kernel_rfl
 i51:=by kernel_rfl
 i53:=by kernel_rfl
 i171:=by kernel_rfl
 i173:=by kernel_rfl
 i212:=by kernel_rfl
 i232:=by kernel_rfl
 i233:=by kernel_rfl
 m17:=by kernel_rfl
 m18:=by kernel_rfl
 m19:=by kernel_rfl }
open Go.RowKit Go.Sort Go.Lib in
theorem Tryz.Br (B n:Nat) (i:Int) (h0 : -9223372036854775808≤i) (h1:i≤9223372036854775807) (sv:zV) (xs:List Value) (w:zW) (hown:w.ownsRow B 5 1 sv n xs) (hBw:B≤w.heap.size) (hlim:n+21≤140737488355328)
 (htab : Lib.TabBelow prog B w "internal/strconv.uint64pow10" .u64 Lib.pow10Tab) :
 zC 223 #[sv,.int .i64 i,.int .i64 10] w fun e w'=>∃v',e=.returned v'∧w'.ownsRow B 5 1 v' (n+(Lib.itoa i).length) (xs ++ Lib.byteCells (Lib.itoa i))∧Below B w w'∧Lib.OthersKept 5 none w w':=Any.strconv_AppendInt_10 Tryz.Xv B n i h0 h1 sv xs w hown hBw hlim htab
end Go.Proofs
namespace Go.Proofs
open Go.Shelf Tryz
def Tryz.Rm:Go.Shelf.Ren:=⟨fun|4=>203|n=>n,fun|22=>49|25=>35|3=>3|4=>4|9=>9|20=>20|0=>0|2=>2|n=>n,fun|n=>n⟩
theorem Tryz.XF:Go.Proofs.Lays8.n4 prog Tryz.Rm:={
 mixed:=by kernel_rfl
 f4:=⟨Tryz.f203.name,by decide,func203.trans (congrArg some zk)⟩
 t0:=underlying0
 a0:=Tryz.isAgg0
 z0:=Tryz.sizeOf0
 v0:=Tryz.zeroValue0
 t3:=underlying3
 a3:=Tryz.isAgg3
 z3:=Tryz.sizeOf3
 v3:=Tryz.zeroValue3
 t4:=underlying4
 a4:=Tryz.isAgg4
 z4:=Tryz.sizeOf4
 v4:=Tryz.zeroValue4
 t9:=underlying9
 a9:=Tryz.isAgg9
 z9:=Tryz.sizeOf9
 v9:=Tryz.zeroValue9
 t20:=underlying20
 a20:=Tryz.isAgg20
 z20:=Tryz.sizeOf20
 v20:=Tryz.zeroValue20
 t22:=underlying49
 a22:=Tryz.isAgg49
 z22:=Tryz.sizeOf49
 v22:=Tryz.zeroValue49 }
end Go.Proofs
