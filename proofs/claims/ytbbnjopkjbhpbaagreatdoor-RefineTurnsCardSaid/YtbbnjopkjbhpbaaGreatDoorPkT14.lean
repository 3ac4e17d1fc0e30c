/- Lemmas. -/
import Derived.Shelf.Spec.SlicesGrow
import Derived.Shelf.Strconv.AppendIntPublic10
import Derived.Test.YtbbnjopkjbhpbaaGreatDoorPkT13
set_option maxRecDepth 99999
set_option maxHeartbeats 9999999
namespace Cl
open Go Go.RowKit
theorem tN{α:Type}{A e:Nat->Nat->α->Prop}{size:Nat}{v:zV}{l:List α}(h:Mem.slice A size v l)(f:∀x∈l,∀b o,A b o x->e b o x):Mem.slice e size v l:=by
 obtain⟨a,c,p,n,m,k⟩:=h;refine⟨a,c,p,n,m,fun d=>?_⟩;obtain⟨b,off,j,g⟩:=k d;exact⟨b,off,j,fun i hi=>f _ (zF hi) _ _ (g i hi)⟩
theorem bD.low{R R':Sl->Vl->Prop}{m:Mem}{v:zV}{l:List Vd}(h:bD R m v l)(a:∀d∈l,(∀x,R x d.1->R' x d.1)/\∀x,R x d.2->R' x d.2):bD R' m v l:=
 tN h fun d b _ _=>fun⟨x,y,g,f,e,c⟩=>⟨x,y,g,(a d b).1 x f,e,(a d b).2 y c⟩
theorem aY.low{m:Mem}:∀{n N:Nat} {x:Sl} {v:Vl},aY m N x v->Ht n v->aY m n x v
 |0,_,_,_,_,h=>h.elim
 |n+1,0,_,_,k,_=>k.elim
 |n+1,N+1,x,v,k,h=>by
  have g:∀d∈v.kids,(∀x,aY m N x d.1->aY m n x d.1)/\∀x,aY m N x d.2->aY m n x d.2:=fun d a=>⟨fun x k=>k.low (h d a).1,fun x k=>k.low (h d a).2⟩;refine⟨k.1,tN k.2.1 fun c e b o=>?_,tN k.2.2 fun c e b o=>?_⟩
  .rintro⟨u,i,B,A,z,w⟩;exact⟨u,i,B,A,z.low fun d a=>g d (dM e (yP.2 (.inl a))),w.low fun d a=>g d (dM e (yP.2 (.inr a)))⟩
  .rintro⟨u,i,B,A,z,w⟩;refine⟨u,i,B,A,tN z fun f t b o k=>?_,tN w fun f t b o k=>?_⟩
   .obtain⟨x,y,r,q,l,j⟩:=k.v;have:=g f.2 (oC e t);exact⟨k.s,k.sz,k.p,k.pr,x,y,r,this.1 x q,l,this.2 y j⟩
   .obtain⟨x,y,r,q,l,j⟩:=k.v;have:=g f.2 (oG e t);exact⟨k.s,x,y,r,this.1 x q,l,this.2 y j⟩
end Cl
namespace Go.Proofs
open Go.Shelf Tryz
def Tryz.Zi:Go.Shelf.Ren:=⟨fun|6=>128|15=>167|14=>171|28=>207|29=>208|20=>211|21=>212|22=>213|23=>214|24=>215|25=>216|26=>217|27=>218|46=>261|47=>257|48=>258|49=>262|50=>263|57=>290|n=>n,fun|22=>30|24=>50|25=>178|3=>3|39=>205|0=>0|53=>256|55=>258|4=>4|46=>250|45=>249|50=>231|5=>5|9=>9|66=>299|70=>303|76=>318|77=>319|n=>n,fun|n=>n⟩
theorem Tryz.fzb:Go.Proofs.SlLaysF0.n6 prog Tryz.Zi:={
 mixed:=by kernel_rfl
 f6:=⟨Tryz.f128.name,by decide,func128.trans (congrArg some zk)⟩
 f14:=⟨Tryz.f171.name,by decide,func171.trans (congrArg some zk)⟩
 f15:=func167.trans (congrArg some zk)
 f20:=⟨Tryz.f211.name,by decide,func211.trans (congrArg some zk)⟩
 f21:=⟨Tryz.f212.name,by decide,func212.trans (congrArg some zk)⟩
 f22:=⟨Tryz.f213.name,by decide,func213.trans (congrArg some zk)⟩
 f23:=⟨Tryz.f214.name,by decide,func214.trans (congrArg some zk)⟩
 f24:=⟨Tryz.f215.name,by decide,func215.trans (congrArg some zk)⟩
 f25:=⟨Tryz.f216.name,by decide,func216.trans (congrArg some zk)⟩
 f26:=⟨Tryz.f217.name,by decide,func217.trans (congrArg some zk)⟩
 f27:=⟨Tryz.f218.name,by decide,func218.trans (congrArg some zk)⟩
 f28:=func207.trans (congrArg some zk)
 f29:=func208.trans (congrArg some zk)
 f46:=⟨Tryz.f261.name,by decide,func261.trans (congrArg some zk)⟩
 f47:=func257.trans (congrArg some zk)
 f48:=func258.trans (congrArg some zk)
 f49:=⟨Tryz.f262.name,by decide,func262.trans (congrArg some zk)⟩
 f50:=⟨Tryz.f263.name,by decide,func263.trans (congrArg some zk)⟩
 f57:=⟨Tryz.f290.name,by decide,func290.trans (congrArg some zk)⟩
 t0:=underlying0
 a0:=Tryz.isAgg0
 z0:=Tryz.sizeOf0
 v0:=Tryz.zeroValue0
 t3:=underlying3
 a3:=Tryz.isAgg3
 z3:=Tryz.sizeOf3
 v3:=Tryz.zeroValue3
 t4:=underlying4
 a4:=Tryz.isAgg4
 z4:=Tryz.sizeOf4
 v4:=Tryz.zeroValue4
 t5:=underlying5
 a5:=Tryz.isAgg5
 z5:=Tryz.sizeOf5
 v5:=Tryz.zeroValue5
 t9:=underlying9
 a9:=Tryz.isAgg9
 z9:=Tryz.sizeOf9
 v9:=Tryz.zeroValue9
 t22:=underlying30
 a22:=Tryz.isAgg30
 z22:=Tryz.sizeOf30
 v22:=Tryz.zeroValue30
 t25:=underlying178
 a25:=Tryz.isAgg178
 z25:=Tryz.sizeOf178
 v25:=Tryz.zeroValue178
 t39:=underlying205
 a39:=Tryz.isAgg205
 z39:=Tryz.sizeOf205
 v39:=Tryz.zeroValue205
 t45:=underlying249
 a45:=Tryz.isAgg249
 z45:=Tryz.sizeOf249
 v45:=Tryz.zeroValue249
 t46:=underlying250
 a46:=Tryz.isAgg250
 z46:=Tryz.sizeOf250
 v46:=Tryz.zeroValue250
 t50:=underlying231
 a50:=Tryz.isAgg231
 z50:=Tryz.sizeOf231
 v50:=Tryz.zeroValue231
 t53:=underlying256
 a53:=Tryz.isAgg256
 z53:=Tryz.sizeOf256
 v53:=Tryz.zeroValue256
 t55:=underlying258
 a55:=Tryz.isAgg258
 z55:=Tryz.sizeOf258
 v55:=Tryz.zeroValue258
 t66:=underlying299
 a66:=Tryz.isAgg299
 z66:=Tryz.sizeOf299
 v66:=Tryz.zeroValue299
 t70:=underlying303
 a70:=Tryz.isAgg303
 z70:=Tryz.sizeOf303
 v70:=Tryz.zeroValue303
 t76:=underlying318
 a76:=Tryz.isAgg318
 z76:=Tryz.sizeOf318
 v76:=Tryz.zeroValue318
 t77:=underlying319
 a77:=Tryz.isAgg319
 z77:=Tryz.sizeOf319
 v77:=Tryz.zeroValue319 }
def Tryz.Zm:Go.Shelf.Ren:=⟨fun|6=>131|15=>167|14=>173|28=>207|29=>208|20=>229|21=>230|22=>231|23=>232|24=>233|25=>234|26=>235|27=>236|46=>280|47=>257|48=>258|49=>281|50=>282|57=>293|n=>n,fun|22=>31|24=>62|25=>180|3=>3|39=>205|0=>0|53=>256|55=>258|4=>4|46=>250|45=>249|50=>231|5=>5|9=>9|66=>299|70=>303|76=>318|77=>319|n=>n,fun|n=>n⟩
theorem Tryz.fzd:Go.Proofs.SlLaysF0.n6 prog Tryz.Zm:={
 mixed:=by kernel_rfl
 f6:=⟨Tryz.f131.name,by decide,func131.trans (congrArg some zk)⟩
 f14:=⟨Tryz.f173.name,by decide,func173.trans (congrArg some zk)⟩
 f15:=func167.trans (congrArg some zk)
 f20:=⟨Tryz.f229.name,by decide,func229.trans (congrArg some zk)⟩
 f21:=⟨Tryz.f230.name,by decide,func230.trans (congrArg some zk)⟩
 f22:=⟨Tryz.f231.name,by decide,func231.trans (congrArg some zk)⟩
 f23:=⟨Tryz.f232.name,by decide,func232.trans (congrArg some zk)⟩
 f24:=⟨Tryz.f233.name,by decide,func233.trans (congrArg some zk)⟩
 f25:=⟨Tryz.f234.name,by decide,func234.trans (congrArg some zk)⟩
 f26:=⟨Tryz.f235.name,by decide,func235.trans (congrArg some zk)⟩
 f27:=⟨Tryz.f236.name,by decide,func236.trans (congrArg some zk)⟩
 f28:=func207.trans (congrArg some zk)
 f29:=func208.trans (congrArg some zk)
 f46:=⟨Tryz.f280.name,by decide,func280.trans (congrArg some zk)⟩
 f47:=func257.trans (congrArg some zk)
 f48:=func258.trans (congrArg some zk)
 f49:=⟨Tryz.f281.name,by decide,func281.trans (congrArg some zk)⟩
 f50:=⟨Tryz.f282.name,by decide,func282.trans (congrArg some zk)⟩
 f57:=⟨Tryz.f293.name,by decide,func293.trans (congrArg some zk)⟩
 t0:=underlying0
 a0:=Tryz.isAgg0
 z0:=Tryz.sizeOf0
 v0:=Tryz.zeroValue0
 t3:=underlying3
 a3:=Tryz.isAgg3
 z3:=Tryz.sizeOf3
 v3:=Tryz.zeroValue3
 t4:=underlying4
 a4:=Tryz.isAgg4
 z4:=Tryz.sizeOf4
 v4:=Tryz.zeroValue4
 t5:=underlying5
 a5:=Tryz.isAgg5
 z5:=Tryz.sizeOf5
 v5:=Tryz.zeroValue5
 t9:=underlying9
 a9:=Tryz.isAgg9
 z9:=Tryz.sizeOf9
 v9:=Tryz.zeroValue9
 t22:=underlying31
 a22:=Tryz.isAgg31
 z22:=Tryz.sizeOf31
 v22:=Tryz.zeroValue31
 t25:=underlying180
 a25:=Tryz.isAgg180
 z25:=Tryz.sizeOf180
 v25:=Tryz.zeroValue180
 t39:=underlying205
 a39:=Tryz.isAgg205
 z39:=Tryz.sizeOf205
 v39:=Tryz.zeroValue205
 t45:=underlying249
 a45:=Tryz.isAgg249
 z45:=Tryz.sizeOf249
 v45:=Tryz.zeroValue249
 t46:=underlying250
 a46:=Tryz.isAgg250
 z46:=Tryz.sizeOf250
 v46:=Tryz.zeroValue250
 t50:=underlying231
 a50:=Tryz.isAgg231
 z50:=Tryz.sizeOf231
 v50:=Tryz.zeroValue231
 t53:=underlying256
 a53:=Tryz.isAgg256
 z53:=Tryz.sizeOf256
 v53:=Tryz.zeroValue256
 t55:=underlying258
 a55:=Tryz.isAgg258
 z55:=Tryz.sizeOf258
 v55:=Tryz.zeroValue258
 t66:=underlying299
 a66:=Tryz.isAgg299
 z66:=Tryz.sizeOf299
 v66:=Tryz.zeroValue299
 t70:=underlying303
 a70:=Tryz.isAgg303
 z70:=Tryz.sizeOf303
 v70:=Tryz.zeroValue303
 t76:=underlying318
 a76:=Tryz.isAgg318
 z76:=Tryz.sizeOf318
 v76:=Tryz.zeroValue318
 t77:=underlying319
 a77:=Tryz.isAgg319
 z77:=Tryz.sizeOf319
 v77:=Tryz.zeroValue319 }
def Tryz.Zk:Go.Shelf.Ren:=⟨fun|6=>125|15=>167|14=>166|28=>207|29=>208|20=>199|21=>200|22=>201|23=>202|24=>203|25=>204|26=>205|27=>206|46=>256|47=>257|48=>258|49=>259|50=>260|57=>289|n=>n,fun|22=>60|24=>68|25=>175|3=>3|39=>205|0=>0|53=>256|55=>258|4=>4|46=>250|45=>249|50=>231|5=>5|9=>9|66=>299|70=>303|76=>318|77=>319|n=>n,fun|n=>n⟩
theorem Tryz.fzc:Go.Proofs.SlLaysF0.n6 prog Tryz.Zk:={
 mixed:=by kernel_rfl
 f6:=⟨Tryz.f125.name,by decide,func125.trans (congrArg some zk)⟩
 f14:=⟨Tryz.f166.name,by decide,func166.trans (congrArg some zk)⟩
 f15:=func167.trans (congrArg some zk)
 f20:=⟨Tryz.f199.name,by decide,func199.trans (congrArg some zk)⟩
 f21:=⟨Tryz.f200.name,by decide,func200.trans (congrArg some zk)⟩
 f22:=⟨Tryz.f201.name,by decide,func201.trans (congrArg some zk)⟩
 f23:=⟨Tryz.f202.name,by decide,func202.trans (congrArg some zk)⟩
 f24:=⟨Tryz.f203.name,by decide,func203.trans (congrArg some zk)⟩
 f25:=⟨Tryz.f204.name,by decide,func204.trans (congrArg some zk)⟩
 f26:=⟨Tryz.f205.name,by decide,func205.trans (congrArg some zk)⟩
 f27:=⟨Tryz.f206.name,by decide,func206.trans (congrArg some zk)⟩
 f28:=func207.trans (congrArg some zk)
 f29:=func208.trans (congrArg some zk)
 f46:=⟨Tryz.f256.name,by decide,func256.trans (congrArg some zk)⟩
 f47:=func257.trans (congrArg some zk)
 f48:=func258.trans (congrArg some zk)
 f49:=⟨Tryz.f259.name,by decide,func259.trans (congrArg some zk)⟩
 f50:=⟨Tryz.f260.name,by decide,func260.trans (congrArg some zk)⟩
 f57:=⟨Tryz.f289.name,by decide,func289.trans (congrArg some zk)⟩
 t0:=underlying0
 a0:=Tryz.isAgg0
 z0:=Tryz.sizeOf0
 v0:=Tryz.zeroValue0
 t3:=underlying3
 a3:=Tryz.isAgg3
 z3:=Tryz.sizeOf3
 v3:=Tryz.zeroValue3
 t4:=underlying4
 a4:=Tryz.isAgg4
 z4:=Tryz.sizeOf4
 v4:=Tryz.zeroValue4
 t5:=underlying5
 a5:=Tryz.isAgg5
 z5:=Tryz.sizeOf5
 v5:=Tryz.zeroValue5
 t9:=underlying9
 a9:=Tryz.isAgg9
 z9:=Tryz.sizeOf9
 v9:=Tryz.zeroValue9
 t22:=underlying60
 a22:=Tryz.isAgg60
 z22:=Tryz.sizeOf60
 v22:=Tryz.zeroValue60
 t25:=underlying175
 a25:=Tryz.isAgg175
 z25:=Tryz.sizeOf175
 v25:=Tryz.zeroValue175
 t39:=underlying205
 a39:=Tryz.isAgg205
 z39:=Tryz.sizeOf205
 v39:=Tryz.zeroValue205
 t45:=underlying249
 a45:=Tryz.isAgg249
 z45:=Tryz.sizeOf249
 v45:=Tryz.zeroValue249
 t46:=underlying250
 a46:=Tryz.isAgg250
 z46:=Tryz.sizeOf250
 v46:=Tryz.zeroValue250
 t50:=underlying231
 a50:=Tryz.isAgg231
 z50:=Tryz.sizeOf231
 v50:=Tryz.zeroValue231
 t53:=underlying256
 a53:=Tryz.isAgg256
 z53:=Tryz.sizeOf256
 v53:=Tryz.zeroValue256
 t55:=underlying258
 a55:=Tryz.isAgg258
 z55:=Tryz.sizeOf258
 v55:=Tryz.zeroValue258
 t66:=underlying299
 a66:=Tryz.isAgg299
 z66:=Tryz.sizeOf299
 v66:=Tryz.zeroValue299
 t70:=underlying303
 a70:=Tryz.isAgg303
 z70:=Tryz.sizeOf303
 v70:=Tryz.zeroValue303
 t76:=underlying318
 a76:=Tryz.isAgg318
 z76:=Tryz.sizeOf318
 v76:=Tryz.zeroValue318
 t77:=underlying319
 a77:=Tryz.isAgg319
 z77:=Tryz.sizeOf319
 v77:=Tryz.zeroValue319 }
end Go.Proofs
namespace Cl
open Go Go.RowKit
theorem vz{P:Program}{w:zW}(t d e:TypeId)(i:TypeInfo)(size c:Nat)(ht:P.underlying t=some (.slice e))(hi:P.info? e=some i)
(v:zV)(n:Nat)(xs:List Value)(a:w.ownsRow 0 e size v n xs):(Builtin.append_ #[t,t] d #[v,.slice none 0 c]).run P w=.ok v w:=by
 rcases a.2 with⟨rfl,rfl⟩|⟨g,h,f,rfl,_,_,b,_⟩
 .simp[Builtin.append_,run_underlying ht,Go.sizeOf,typeInfo,hi,Builtin.lenOf,Builtin.firstCells]
 .simp[Builtin.append_,run_underlying ht,Go.sizeOf,typeInfo,hi,Builtin.lenOf,Builtin.firstCells,b,storeCells]
theorem nG{P:Program}{t e:TypeId}{size bytes:Nat}(S:fB P t e size bytes){w:zW}{ops:Array Oper}{rest:List Oper}{o:Oper}{a:Act}{Q:Exit->Act->World->Prop}(hgd:o.guard=none)(s x:Operand)
(ho:o.op=.call { callee:=.builtin .append,args:=#[s,x],argTypes:=#[t,t] })
(v:zV)(n:Nat)(xs:List Value)(hs:a.eval s=v)(hown:w.ownsRow 0 e size v n xs)
(ad:Option Addr)(m c:Nat)(dQ:List Value)(hx:a.eval x=.slice ad m c)(hl:dQ.length=m*size)(hn:ad=none->m=0)(hnews:∀A,ad=some A->∀j u,dQ[j]?=some u->w.cell? (A.add j)=some u)(h1:∀u∈dQ,u.oneCell'=true)
(h63:n+m<=maxLen)(hbytes:(n+m)*bytes<=140737488355328)
(h:∀va vc w',w'.ownsRow 0 e size (.slice va (n+m) vc) (n+m) (xs++dQ)->w.grownBy w' v.ownBlock->(∀k,(Value.slice va (n+m) vc).ownBlock=some k->v.ownBlock=some k\/w.heap.size<=k)->wpList P ops Q rest (a.put o.dst (.slice va (n+m) vc)) w'):wpList P ops Q (o::rest) a w:=by
 cases ad with
 |some A=>exact aU S hgd s x ho v n xs hs hown A m c dQ hx hl (hnews A rfl) h1 h63 hbytes h
 |none=>
  obtain rfl:=hn rfl;have hz:dQ=[]:=yM zo;subst hz;obtain⟨i,z,hi,-⟩:=S.info;obtain⟨va,vc,rfl⟩:=bv hown;refine wpList_plain hgd fun K' hK'=>?_;have hr:=fun ty=>vz (P:=P) t ty e i size c S.ht hi _ n xs hown;unfold Oper.wp execOp;simp only[ho,resolve,invoke,builtin,Sem.run_bind,Sem.run_pure,Result.andThen_ok,List.map_toArray,yL,xB,hs,hx,hr];exact hK' _ _ (h va vc w (by simpa using hown) ⟨rfl,rfl,rfl,zI _,fun _ _ _=>rfl⟩ (fun k hk=>.inl qez))
theorem QA:∀(l:List Value) (k:Nat) (arr:Array Value) (j:Nat),k+l.length<=arr.size->((l.zipIdx k).foldl (fun(a:Array Value) (x:Value×Nat)=>a.setIfInBounds (0+x.2) x.1) arr)[j]?=if k<=j/\j<k+l.length then l[j-k]? else arr[j]?
 |[],k,arr,j,_=>by simp;intro d b;omega
 |v::l,k,arr,j,h=>by
  rw[List.zipIdx_cons,List.foldl_cons,QA l (k+1) _ j (by simp at h⊢;omega)];simp only[yZ,yO]at h⊢;by_cases e:j=k
  .subst e;rw[zJ zo,zK zo,Nat.sub_self];simp[show j<arr.size by omega]
  .by_cases c:k<=j/\j<k+(l.length+1)
   .rw[zK zo,zK c,show j-k=(j-(k+1))+1 by omega];simp
   .rw[zJ zo,zJ c,Array.getElem?_setIfInBounds_ne zo]
theorem QB(cs arr:Array Value)(h:arr.size=cs.size):cs.zipIdx.foldl (fun(a:Array Value) (x:Value×Nat)=>a.setIfInBounds (0+x.2) x.1) arr=cs:=by
 obtain⟨l⟩:=cs;rw[<-Array.foldl_toList];apply Array.ext_getElem?;intro j;have:=QA l 0 arr j (by simp at h;omega);simp only[Array.toList_zipIdx];rw[this];simp at h;by_cases c:j<l.length
 .simp[c]
 .simp[c];omega
theorem fU{P:Program}{t e:TypeId}{n bytes:Nat}(S:fB P t e n bytes)(B:og P e n){z:zV}(h:∀w,(zeroValue e).run P w=.ok z w)(g:z.cells.size=n)(l:n<=1000){w:zW}{ops:Array Oper}{rest:List Oper}{op:Oper}{a:Act}{Q:Exit->Act->World->Prop}
(j:Region.wanted op (yielded ops a.tmps)=true)(x:Operand)(b:op.op=Op.buildSlice t 1 #[(0,x)]){cs:Array Value}(i:a.eval x=.agg cs)(hl:cs.size=n)
(k:wpList P ops Q rest (a.put op.dst (.slice (some ⟨w.heap.size,0,none⟩) 1 1)) (w.alloc (.cells cs e))):wpList P ops Q (op::rest) a w:=by
 refine BigFrame.wpList_want j fun m c=>?_;have d:=S.pos;have f:cs.zipIdx.foldl (fun(a:Array Value) (x:Value×Nat)=>a.setIfInBounds (0+x.2) x.1) ((Array.range (1*n)).map (z.cells[·%z.cells.size]!))=cs:=QB cs _ qek;unfold Oper.wp;simp[execOp,b,i,Instr.buildSlice,run_underlying S.ht,B.size,h,Instr.fill,Value.cells,hl,Result.andThen,newRow,show ¬(16777216<n)by omega,show n≠0 by omega]at f⊢;simp only[f];exact c _ _ k
theorem kK.one_cell{m:Mem}{n:Nat}{xs:List Value}{l:List Vd}(h:kK (aY m n) xs l):∀u∈xs,u.oneCell'=true:=fun u c=>by
 obtain⟨k,hk,rfl⟩:=yX c;have a:=h.len;obtain⟨x,y,f,e,d⟩:=h.at' (k/18) zo;have b:k%18<(dw l[k/18] x y).length:=by rw[Dc];omega
 have:=f (k%18) _ (yH b);rw[show k/18*18+k%18=k by omega,yH hk]at this;rw[Option.some.inj this];exact fG e d _ (zF b)
theorem bD.seg{R:Sl->Vl->Prop}{m:Mem}{v:zV}{l:List Vd}(h:bD R m v l):∃g c xs,v=.slice g l.length c/\l.length<=c/\c<=maxLen/\kK R xs l/\(g=none->l.length=0)/\∀w,m.az w->∀A,g=some A->∀j u,xs[j]?=some u->w.cell? (A.add j)=some u:=by
 obtain⟨a,c,rfl,k,i,q⟩:=id h;by_cases d:l=[]
 .subst d;exact⟨a,c,[],rfl,k,i,.nil R,fun _=>rfl,fun w _ A _ j u f=>by simp at f⟩
 .obtain⟨b,off,xs,rfl,p,o⟩:=bD.row h d;exact⟨_,c,xs,rfl,k,i,p,(fun h=>by cases h),fun w n A e j u f=>by
   cases e;rw[Addr.add_lit];exact azk n (o j u f)⟩
theorem bD.GQ{m mk:Mem}{w:zW}{t:TypeId}{v:zV}{l:List Vd}{xs:List Value}{n:Nat}(a:w.ownsRow 0 t 18 v l.length xs)(c:kK (aY mk n) xs l)(d:mk.free v)(b:(mk.iA w v).le m):bD (aY m n) m v l:=
 (JS (m:=mk) a c).le b fun _ _ h=>h.le (Mem.le_trans (czS d) b)
end Cl
namespace Go.Proofs
open Go.Shelf Tryz
def Tryz.TR:Go.Shelf.Ren:=⟨fun|4=>159|n=>n,fun|22=>48|25=>35|3=>3|4=>4|9=>9|20=>20|0=>0|2=>2|n=>n,fun|n=>n⟩
theorem Tryz.azs:Go.Proofs.Lays8.n4 prog Tryz.TR:={
 mixed:=by kernel_rfl
 f4:=⟨Tryz.f159.name,by decide,func159.trans (congrArg some zk)⟩
 t0:=underlying0
 a0:=Tryz.isAgg0
 z0:=Tryz.sizeOf0
 v0:=Tryz.zeroValue0
 t3:=underlying3
 a3:=Tryz.isAgg3
 z3:=Tryz.sizeOf3
 v3:=Tryz.zeroValue3
 t4:=underlying4
 a4:=Tryz.isAgg4
 z4:=Tryz.sizeOf4
 v4:=Tryz.zeroValue4
 t9:=underlying9
 a9:=Tryz.isAgg9
 z9:=Tryz.sizeOf9
 v9:=Tryz.zeroValue9
 t20:=underlying20
 a20:=Tryz.isAgg20
 z20:=Tryz.sizeOf20
 v20:=Tryz.zeroValue20
 t22:=underlying48
 a22:=Tryz.isAgg48
 z22:=Tryz.sizeOf48
 v22:=Tryz.zeroValue48 }
end Go.Proofs
namespace Cl
open Go Go.RowKit
theorem MG{α:Type}{P:Program}{g:Operand}{ps:Array Tmp}{assign body:Code}{Q:Exit->Act->World->Prop}{a:Act}{w:zW}{gf:Nat}{lb:Array Value}
(hg:a.eval g=.func (.func gf) #[] lb)(eg:∀args w,(callFunc gf args).run P w=.ok (.enter gf args) w){encs:α->Array Value}(hps:∀x,(encs x).size=ps.size)
{w0:zW}{m mk:Mem}{L0:List bA}(hO:Own w0 m w mk L0)(I:List α->List bA->Prop)(Ix:Code->List α->List bA->Prop)(S Sp:List α->Prop)(h0:I [] L0)
(hseq:∀(l:Nat) (W1:zW) (L1:List bA) (B Bx:List α->List bA->Prop),B [] L1->(∀pre Lt,B pre Lt->∃L,I pre L)->Own w0 m W1 mk L1->Dq P l encs w0 m mk B Bx ->
  Calls P gf (#[.func (.yield l) #[] #[]]++lb) W1 (OI w0 m mk B Bx S Sp))
(a₁:α->Act)
(hassign:∀(l:Nat) (x:α) (W:zW) (K:Act->World->Prop),K (a₁ x) W ->
  assign.wpIn (Fence.wide.inRound l) 0 P (Exit.then K (fun _ _ _=>False)) { tmps:=(ps.zip (encs x)).foldl (fun t (p,v)=>t.setIfInBounds p v) a.tmps,defers:=[] } W)
(hbody:∀(l:Nat) (pre:List α) (x:α) (W:zW) (mk1:Mem) (Lt Lr:List bA),I pre Lt->Own w0 m W mk1 (Lt++Lr)->mk.le mk1 ->
  body.wpIn (Fence.wide.inRound l) 0 P (Du w0 m mk1 Lr I Ix (pre++[x])) (a₁ x) W)
(hdone:∀(D:Nat) (xs:List α) (W:zW) (mk1:Mem) (L:List bA),S xs->I xs L->Own w0 m W mk1 (.gN D (.deferred (some []))::L)->mk.le mk1->Q .normal { a with defers:={ target:=.collected D,args:=#[] }::a.defers } W)
(hstop:∀(D:Nat) (c:Code) (xs:List α) (W:zW) (mk1:Mem) (L:List bA),Sp xs->Ix c xs L->Own w0 m W mk1 (.gN D (.deferred (some []))::L)->mk.le mk1 ->
  c.wpIn Fence.wide 0 P Q { a with defers:={ target:=.collected D,args:=#[] }::a.defers } W):
 (Code.rangeFunc g ps assign body).wpIn Fence.wide 0 P Q a w:=by
 refine wpIn_rangeFunc ?_;intro fn _;obtain⟨rec,hrec⟩:∃rec:LoopState->Option Code->Loop,rec=fun st pe=>{ state:=st,pending:=pe,fn,tmps:=a.tmps,params:=ps,assign,body,defers:=w.heap.size }:=⟨_,rfl⟩;have hO1:=(hO.BZ (.deferred (some []))).BZ (.loop (rec .ready none));have hsz:(w.alloc (.deferred (some []))).heap.size=w.heap.size+1:=by simp
 rw[hsz]at hO1;have hent:=run_enterLoop_outer (P:=P) (w:=w) fn a.tmps ps assign body;have hre:(Obj.loop { state:=.ready,pending:=none,fn,tmps:=a.tmps,params:=ps,assign,body,defers:=w.heap.size })=.loop (rec .ready none):=by rw[hrec]
 rw[hre]at hent;generalize (w.alloc (.deferred (some []))).alloc (.loop (rec .ready none))=W1 at*
 generalize w.heap.size=D at*
 have hround:Dq P (D+1) encs w0 m mk (fun pre Lt=>∃L,I pre L/\Lt=.gN (D+1) (.loop (rec .ready none))::.gN D (.deferred (some []))::L)
  (fun pre Lt=>∃c L,Ix c pre L/\Lt=.gN (D+1) (.loop (rec .done (some c)))::.gN D (.deferred (some []))::L):=by
  rintro pre x W mk1 Lt Lr ⟨L,hI,rfl⟩ hOw hle;have hl:=hOw.gN;have hy:=run_yield (P:=P) (args:=encs x) hl (by rw[hrec];exact hps x);rw[hrec]at hy;refine⟨fn,_,assign,body,hy,roundIn_of_wpIn trivial (hassign _ x W _ ⟨_,run_beginRound hl (by rw[hrec]),?_⟩)⟩;have hO2:=hOw.jJ (o':=.loop { rec .ready none with state:=.busy }) (World.putObj_heap_same (yC.1 hl).1) (grownBy_putObj' _ _ _);have hO3:=hO2.perm (tV _ _ L Lr);refine wpIn_mono (hbody _ pre x _ mk1 L _ hI hO3 hle) ?_;have fin:∀(jump:Option Code) (W3:zW) (mk2:Mem) (L2:List bA),Own w0 m W3 mk2 (L2++(.gN (D+1) (.loop { rec .ready none with state:=.busy })::.gN D (.deferred (some []))::Lr)) ->
   ∃W4,(Instr.endRound (D+1) jump).run P W3=.ok (.bool jump.isNone) W4/\Own w0 m W4 mk2 (.gN (D+1) (.loop (rec (if jump.isNone then .ready else .done) jump))::.gN D (.deferred (some []))::(L2++Lr)):=by
   exact qgB
  rintro e a3 W3 hp
  cases e with
  |normal=>
   obtain⟨mk2,L2,hi,ho,hm⟩:=hp;obtain⟨W4,hr,ho4⟩:=fin none W3 mk2 L2 ho
   exact qdi
  |ret=>
   obtain⟨mk2,L2,hi,ho,hm⟩:=hp;obtain⟨W4,hr,ho4⟩:=fin (some .ret) W3 mk2 L2 ho
   exact qc7
  |exit id=>
   obtain⟨mk2,L2,hi,ho,hm⟩:=hp;obtain⟨W4,hr,ho4⟩:=fin (some (.exit id)) W3 mk2 L2 ho
   exact qcM
  |goto t=>
   obtain⟨mk2,L2,hi,ho,hm⟩:=hp;obtain⟨W4,hr,ho4⟩:=fin (some (.goto t)) W3 mk2 L2 ho
   exact qcR
  |panic ch=>exact hp.elim
  |outgrown=>exact hp.elim
 refine⟨D+1,[{ target:=.collected D,args:=#[] }],W1,{ target:=.fn (.func gf) lb,args:=#[.func (.yield (D+1)) #[] #[]] },W1,gf,
  #[.func (.yield (D+1)) #[] #[]]++lb,W1,hent,?_,fun _ _=>trivial,?_,fun h=>absurd h (by simp[Fence.wide]),?_⟩
 .simp only[resolve,hg];simp[go_sem]
 .simp[invoke,go_sem,eg]
 .refine callsIn_wide.2 ((hseq (D+1) W1 _ _ _ ⟨L0,h0,rfl⟩ (fun _ _ h=>h.elim fun L hL=>⟨L,hL.1⟩) hO1 hround).mono ?_);rintro e W3 ⟨⟨v,rfl⟩,hend⟩;rcases hend with⟨xs,mk2,Lt,hS,⟨L,hI,rfl⟩,ho,hm⟩|⟨xs,mk2,Lt,hS,⟨c,L,hI,rfl⟩,ho,hm⟩
  .exact qgG
  .exact qgF
theorem FK{P:Program}{t e:TypeId}{size bytes:Nat}(S:fB P t e size bytes)(w:zW)(s:TypeId)(v:zV)(n:Nat)(xs:List Value)(b:w.ownsRow 0 e size v n xs)
(r:Option Addr)(m c:Nat)(dQ:List Value)(p:dQ.length=m*size)(d:0<m->∃a,r=some a/\∀j u,dQ[j]?=some u->w.cell? (a.add j)=some u)(D:∀u∈dQ,u.oneCell'=true)
(q:n+m<=maxLen)(f:(n+m)*bytes<=140737488355328):
 ∃v' w',(Builtin.append_ #[t,t] s #[v,.slice r m c]).run P w=.ok v' w'/\w'.ownsRow 0 e size v' (n+m) (xs++dQ)/\w.grownBy w' v.ownBlock /\
  (∀k,v'.ownBlock=some k->v.ownBlock=some k\/w.heap.size<=k):=by
 cases r with
 |some a=>
  refine kX S w s v n xs b a m c dQ p ?_ D q f;rcases Nat.eq_zero_or_pos m with h|h
  .subst h;have:dQ=[]:=yM (by rw[p,Nat.zero_mul]);subst this;intro j u A;simp at A
  .obtain⟨G,e,C⟩:=d h;cases e
   exact C
 |none=>
  have y:m=0:=by
   rcases Nat.eq_zero_or_pos m with h|h
   .exact h
   .obtain⟨G,e,-⟩:=d h;cases e
  subst y;have:dQ=[]:=yM (by rw[p,Nat.zero_mul]);subst this;obtain⟨i,z,hi,H,l,B,x⟩:=S.info;refine⟨v,w,?_,by simpa using b,World.grownBy.refl w _,fun k hk=>.inl hk⟩;rcases b.2 with⟨rfl,rfl⟩|⟨g,F,E,rfl,-,-,o,-⟩
  .simp[Builtin.append_,run_underlying S.ht,Go.sizeOf,Go.typeInfo,hi,Builtin.lenOf,Builtin.firstCells]
  .simp[Builtin.append_,run_underlying S.ht,Go.sizeOf,Go.typeInfo,hi,Builtin.lenOf,Builtin.firstCells,o,storeCells]
theorem Bn{P:Program}{t e:TypeId}{size bytes:Nat}(S:fB P t e size bytes){w:zW}{ops:Array Oper}{rest:List Oper}{o:Oper}{a:Act}{Q:Exit->Act->World->Prop}(hgd:o.guard=none)(s x:Operand)
(ho:o.op=.call { callee:=.builtin .append,args:=#[s,x],argTypes:=#[t,t] })
(v:zV)(n:Nat)(xs:List Value)(hs:a.eval s=v)(hown:w.ownsRow 0 e size v n xs)
(ad:Option Addr)(m c:Nat)(dQ:List Value)(hx:a.eval x=.slice ad m c)(hl:dQ.length=m*size)(hnews:0<m->∃a,ad=some a/\∀j u,dQ[j]?=some u->w.cell? (a.add j)=some u)(h1:∀u∈dQ,u.oneCell'=true)
(h63:n+m<=maxLen)(hbytes:(n+m)*bytes<=140737488355328)
(h:∀va vc w',w'.ownsRow 0 e size (.slice va (n+m) vc) (n+m) (xs++dQ)->w.grownBy w' v.ownBlock->(∀k,(Value.slice va (n+m) vc).ownBlock=some k->v.ownBlock=some k\/w.heap.size<=k)->wpList P ops Q rest (a.put o.dst (.slice va (n+m) vc)) w'):wpList P ops Q (o::rest) a w:=by
 refine wpList_plain hgd fun _ hK=>?_;obtain⟨v',w',hr,h2,h3,h4⟩:=FK S w o.type v n xs hown ad m c dQ hl hnews h1 h63 hbytes;obtain⟨va,vc,rfl⟩:=bv h2;unfold Oper.wp execOp;simp only[ho,resolve,invoke,builtin,Sem.run_bind,Sem.run_pure,Result.andThen_ok,List.map_toArray,yL,xB,hs,hx,hr];exact hK _ _ (h va vc w' h2 h3 h4)
end Cl
namespace Go.Proofs
open Go.Shelf Tryz
def Tryz.TS:Go.Shelf.Ren:=⟨fun|4=>241|n=>n,fun|22=>22|25=>100|3=>3|4=>4|9=>9|20=>20|0=>0|2=>2|n=>n,fun|n=>n⟩
theorem Tryz.azt:Go.Proofs.Lays8.n4 prog Tryz.TS:={
 mixed:=by kernel_rfl
 f4:=⟨Tryz.f241.name,by decide,func241.trans (congrArg some zk)⟩
 t0:=underlying0
 a0:=Tryz.isAgg0
 z0:=Tryz.sizeOf0
 v0:=Tryz.zeroValue0
 t3:=underlying3
 a3:=Tryz.isAgg3
 z3:=Tryz.sizeOf3
 v3:=Tryz.zeroValue3
 t4:=underlying4
 a4:=Tryz.isAgg4
 z4:=Tryz.sizeOf4
 v4:=Tryz.zeroValue4
 t9:=underlying9
 a9:=Tryz.isAgg9
 z9:=Tryz.sizeOf9
 v9:=Tryz.zeroValue9
 t20:=underlying20
 a20:=Tryz.isAgg20
 z20:=Tryz.sizeOf20
 v20:=Tryz.zeroValue20
 t22:=underlying22
 a22:=Tryz.isAgg22
 z22:=Tryz.sizeOf22
 v22:=Tryz.zeroValue22 }
end Go.Proofs
namespace Go.Proofs
open Go.Shelf Tryz
def Tryz.NR:Go.Shelf.Ren:=⟨fun|129=>208|176=>255|249=>288|283=>298|284=>299|285=>300|286=>301|288=>297|317=>302|318=>303|319=>304|320=>305|337=>306|338=>307|n=>n,fun|0=>0|2=>2|3=>3|4=>4|5=>5|9=>9|20=>20|37=>245|46=>205|51=>256|53=>258|171=>328|173=>330|212=>334|213=>335|232=>336|233=>337|n=>n,fun|17=>0|18=>1|19=>2|n=>n⟩
theorem Tryz.aza:Go.Proofs.LaysM.n176 prog Tryz.NR:={
 mixed:=by kernel_rfl
 f129:=func208.trans (congrArg some zk)
 f176:=func255.trans (congrArg some zk)
 f249:=func288.trans (congrArg some zk)
 f283:=func298.trans (congrArg some zk)
 f284:=func299.trans (congrArg some zk)
 f285:=func300.trans (congrArg some zk)
 f286:=func301.trans (congrArg some zk)
 f288:=func297.trans (congrArg some zk)
 f317:=func302.trans (congrArg some zk)
 f318:=func303.trans (congrArg some zk)
 f319:=func304.trans (congrArg some zk)
 f320:=func305.trans (congrArg some zk)
 f337:=func306.trans (congrArg some zk)
 f338:=func307.trans (congrArg some zk)
 t0:=underlying0
 a0:=Tryz.isAgg0
 z0:=Tryz.sizeOf0
 v0:=Tryz.zeroValue0
 t2:=underlying2
 a2:=Tryz.isAgg2
 z2:=Tryz.sizeOf2
 v2:=Tryz.zeroValue2
 t3:=underlying3
 a3:=Tryz.isAgg3
 z3:=Tryz.sizeOf3
 v3:=Tryz.zeroValue3
 t4:=underlying4
 a4:=Tryz.isAgg4
 z4:=Tryz.sizeOf4
 v4:=Tryz.zeroValue4
 t5:=underlying5
 a5:=Tryz.isAgg5
 z5:=Tryz.sizeOf5
 v5:=Tryz.zeroValue5
 t9:=underlying9
 a9:=Tryz.isAgg9
 z9:=Tryz.sizeOf9
 v9:=Tryz.zeroValue9
 t20:=underlying20
 a20:=Tryz.isAgg20
 z20:=Tryz.sizeOf20
 v20:=Tryz.zeroValue20
 t37:=underlying245
 a37:=Tryz.isAgg245
 z37:=Tryz.sizeOf245
 v37:=Tryz.zeroValue245
 t46:=underlying205
 a46:=Tryz.isAgg205
 z46:=Tryz.sizeOf205
 v46:=Tryz.zeroValue205
 t51:=underlying256
 a51:=Tryz.isAgg256
 z51:=Tryz.sizeOf256
 v51:=Tryz.zeroValue256
 t53:=underlying258
 a53:=Tryz.isAgg258
 z53:=Tryz.sizeOf258
 v53:=Tryz.zeroValue258
 t171:=underlying328
 a171:=Tryz.isAgg328
 z171:=Tryz.sizeOf328
 v171:=Tryz.zeroValue328
 t173:=underlying330
 a173:=Tryz.isAgg330
 z173:=Tryz.sizeOf330
 v173:=Tryz.zeroValue330
 t212:=underlying334
 a212:=Tryz.isAgg334
 z212:=Tryz.sizeOf334
 v212:=Tryz.zeroValue334
 t213:=underlying335
 a213:=Tryz.isAgg335
 z213:=Tryz.sizeOf335
 t232:=underlying336
 a232:=Tryz.isAgg336
 z232:=Tryz.sizeOf336
 v232:=Tryz.zeroValue336
 t233:=underlying337
 a233:=Tryz.isAgg337
 z233:=Tryz.sizeOf337
 v233:=Tryz.zeroValue337
 g17:=by kernel_rfl
 g18:=by kernel_rfl
 g19:=by kernel_rfl
 i0:=by kernel_rfl
 i2:=by kernel_rfl
 i3:=by kernel_rfl
 i4:=by kernel_rfl
 i5:=by kernel_rfl
 i9:=by kernel_rfl
 i20:=by kernel_rfl
 i37:=by kernel_rfl
 i46:=by kernel_rfl
 i51:=by kernel_rfl
 i53:=by kernel_rfl
 i171:=by kernel_rfl
 i173:=by kernel_rfl
 i212:=by kernel_rfl
 i232:=by kernel_rfl
 i233:=by kernel_rfl
 m17:=by kernel_rfl
 m18:=by kernel_rfl
 m19:=by kernel_rfl }
open Go.RowKit Go.Sort Go.Lib in
theorem Tryz.Cv (B n:Nat) (i:Int) (h0 : -9223372036854775808≤i) (h1:i≤9223372036854775807) (sv:zV) (xs:List Value) (w:zW) (hown:w.ownsRow B 5 1 sv n xs) (hBw:B≤w.heap.size) (hlim:n+21≤140737488355328)
 (htab : Lib.TabBelow prog B w "internal/strconv.uint64pow10" .u64 Lib.pow10Tab) :
 zC 255 #[sv,.int .i64 i,.int .i64 10] w fun e w'=>∃v',e=.returned v'∧w'.ownsRow B 5 1 v' (n+(Lib.itoa i).length) (xs ++ Lib.byteCells (Lib.itoa i))∧Below B w w'∧Lib.OthersKept 5 none w w':=Any.strconv_AppendInt_10 Tryz.aza B n i h0 h1 sv xs w hown hBw hlim htab
end Go.Proofs
