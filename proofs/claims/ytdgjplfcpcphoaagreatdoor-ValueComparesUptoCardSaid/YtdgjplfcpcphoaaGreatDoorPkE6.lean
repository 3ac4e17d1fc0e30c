/- Lemmas for the proofs of chapter 11. -/
import Derived.Laws.EntriesVeiled
import Derived.Laws.CopyOwn
import Derived.Test.YtdgjplfcpcphoaaGreatDoorPkE4
set_option maxRecDepth 100000
set_option maxHeartbeats 16000000
namespace Cl
open Go Go.RowKit Go.Proofs Tryz
theorem Ru : (prog.fieldsOf 139).toList = [⟨"Lo", 2, 0, false, "", "", 0⟩, ⟨"Hi", 2, 1, false, "", "", 8⟩] := by
 kernel_rfl
theorem TU:prog.stoodInHeld 139=false:=by kernel_rfl
theorem Kc:prog.eqGuardType prog.depth 139=false:=by kernel_rfl
theorem YH:prog.underlying 139=some (.struct (prog.fieldsOf 139)):=by kernel_rfl
theorem JG(a b a' b':Int)(w:zW):(Op.equalIn 10000 139 (.agg #[.int .i64 a,.int .i64 b]) (.agg #[.int .i64 a',.int .i64 b'])).run prog w=.ok (a==a'&&b==b') w:=by
 rw[run_equalIn_agg w 9999 139 _ _ YH TU,Ru];have e2:=fun(d:Nat) (a b:Int) (w:zW)=>run_equalIn_int (P:=prog) w d 2 .i64 .i64 a b underlying2;exact qcb
theorem Yu(e f:bT):e=f↔(e.1=f.1/\e.2=f.2):=Prod.ext_iff
theorem lX(v v':zV)(l l':List bT)(m:Mem)(w:zW)(y:m.ay w)(A:df m v l)(i:df m v' l'):
 zX 175 #[v,v'] w (.bool (tf (l=l'))):=by
 obtain⟨a,c,rfl,O,E,D⟩:=A;obtain⟨L,K,rfl,F,q,p⟩:=i;unfold maxLen at E q;refine aj fun R hR=>?_;by_cases hlen:l.length=l'.length
 .have g:((l.length:Int) != (l'.length:Int))=false:=by simp[hlen]
  have Hlen:=zh hlen;clear hlen
  go_enter func175,ntmps175
  go_wp2;refine av [0,1,12,13] (fun n u t=>∃k:Nat,k<=l.length/\n=l.length-k/\u=[.slice a l.length c,.slice L l'.length K,.int .i64 l.length,.int .i64 k]/\(l=l'↔l.drop k=l'.drop k)/\zB w t) ?_ ?_
  .exact qaA
  rintro X z n u t hX-⟨k,N,rfl,rfl,f,hbel⟩;have Hrel:=zh f;clear f;simp[aX,lk];have d:=Mem_inn_below y hbel;by_cases hlt:k<l.length
  .have hlt':k<l'.length:=by rw[<-Hlen.o];exact hlt
   obtain⟨b,off,rfl,C⟩:=D qdX;obtain⟨S,x,rfl,j⟩:=p qd3;obtain⟨H,G,-⟩:=C k hlt;obtain⟨s,r,-⟩:=j k hlt';have Q:=Mem_cell_w d H;have P:=Mem_cell_w d G;have J:=Mem_cell_w d s;have I:=Mem_cell_w d r;have HD:=zh qfo;have M:=fun w=>JG (l[k].1) (l[k].2) (l'[k].1) (l'[k].2) w;have B:=Kc;have He:=zh (Yu l[k] l'[k]);go_wp2
   go_quiet (fail)
   go_wp2
   .exact qbp
   .exact qa3
  .exact qam
 .have g:((l.length:Int) != (l'.length:Int))=true:=by simp;omega
  go_enter func175,ntmps175
  exact qaC
theorem NR(u:Int)(w:zW)(c : -1000000000000002<=u)(b:u<=1000000000000002):
 zX 183 #[.int .i64 u] w (.int .i64 (jy u)):=by
 refine aj fun R a=>?_;have H:=zh (p9 (u+1))
 go_enter func183,ntmps183
 go_wp2
 all_goals refine a.o _ _ ⟨dU ?_,zR _ _⟩
 all_goals unfold jy
 all_goals first
  |rw[zK (H.o.1 (beq_iff_eq.1 (by assumption)))]
  |rw[zJ (fun e=>(zO.1 (by assumption)) (H.o.2 e))]
theorem LP(u:Int)(w:zW)(c : -1000000000000002<=u)(b:u<=1000000000000002):
 zX 232 #[.int .i64 u] w (.int .i64 (jg u)):=by
 refine aj fun R a=>?_;have H:=zh (p9 (u-1))
 go_enter func232,ntmps232
 go_wp2
 all_goals refine a.o _ _ ⟨dU ?_,zR _ _⟩
 all_goals unfold jg
 all_goals first
  |rw[zK (H.o.1 (beq_iff_eq.1 (by assumption)))]
  |rw[zJ (fun e=>(zO.1 (by assumption)) (H.o.2 e))]
theorem NP(u:Int)(w:zW)(c : -1000000000000002<=u)(b:u<=1000000000000002):
 zX 182 #[.int .i64 u] w (.int .i64 (u+1)):=by
 refine aj fun R a=>?_
 go_enter func182,ntmps182
 go_wp2
 all_goals exact a.o _ _ ⟨dU zo,zR _ _⟩
theorem QN(u:Int)(w:zW)(c : -1000000000000002<=u)(b:u<=1000000000000002):
 zX 231 #[.int .i64 u] w (.int .i64 (u-1)):=by
 refine aj fun R a=>?_
 go_enter func231,ntmps231
 go_wp2
 all_goals exact a.o _ _ ⟨dU zo,zR _ _⟩
theorem BL(u v:Int)(w:zW)(f : -1000000000000002<=u)(d:u<=1000000000000002)(c : -1000000000000002<=v)(b:v<=1000000000000002):
 zX 138 #[.int .i64 u,.int .i64 v] w (.bool (decide (iB u v))):=by
 refine aj fun R a=>?_
 go_enter func138,ntmps138
 go_wp2
 all_goals refine a.o _ _ ⟨aS ?_,zR _ _⟩
 all_goals first
  |(symm;rw[decide_eq_true_iff];unfold iB;omega)
  |(symm;rw[decide_eq_false_iff_not];unfold iB;omega)
  |(symm;rw[decide_eq_decide];unfold iB;omega)
theorem zw(s:bT)(mid:Int)(w:zW):
 zX 139 #[.agg #[.int .i64 s.1,.int .i64 s.2],.int .i64 mid] w (.int .i64 (dP s mid)):=by
 obtain⟨a,b⟩:=s;refine aj fun R f=>?_;have c:=bE (zR w.heap.size w) (.cells #[.int .i64 a,.int .i64 b] 139);have d:dP (a,b) mid=if a > 0 then a else if b<0 then b else mid:=rfl;rw[d]at f;clear d
 go_enter func139,ntmps139
 go_wp2
 all_goals refine f.o _ _ ⟨dU ?_,c⟩
 .rw[zK zo]
 .rw[zJ zo,zK zo]
 .rw[zJ zo,zJ zo]
theorem U5(s:Int)(w:zW):zC 250 #[.int .i64 s] w fun e w'=>e=.returned (.bool false)/\w'=w:=by
 refine aj fun R a=>?_
 go_enter func250,ntmps250
 go_wp2;exact a.o _ _ ⟨zS,rfl⟩
theorem R8(s t:Int)(w:zW):zC 215 #[.int .i64 s,.int .i64 t] w fun e w'=>e=.returned (.int .i64 (Lib.compareInt s t))/\w'=w:=by
 refine aj fun R a=>?_;have b:Lib.compareInt s t=if s<t then -1 else if t<s then 1 else 0:=by
  unfold Lib.compareInt;rfl
 rw[b]at a;clear b
 go_enter func215,ntmps215
 go_wp2_with ((go_at_call 250);refine(U5 _ _).mono ?_;rintro e w' ⟨rfl,rfl⟩)
 .exact a.o _ _ ⟨dU (by rw[zK zo]),rfl⟩
 .exact a.o _ _ ⟨dU (by rw[zJ zo,zK zo]),rfl⟩
 .exact a.o _ _ ⟨dU (by rw[zJ zo,zJ zo]),rfl⟩
theorem Oz(x y:bT)(W:zW):zC 214 #[.agg #[.int .i64 x.1,.int .i64 x.2],.agg #[.int .i64 y.1,.int .i64 y.2]] W fun e w'=>e=.returned (.int .i64 (Hy x y))/\∃q b,w'=Go.Sort.grow (W.drewN q) b:=by
 have a:=fun d=>R8 x.1 y.1 d;unfold Hy;generalize Lib.compareInt x.1 y.1=r at a⊢;refine aj fun R c=>?_
 go_enter func214,ntmps214
 go_wp2_with ((go_at_call 215);refine(a _).mono ?_;rintro e w' ⟨rfl,rfl⟩)
 exact c.o _ _ ⟨rfl,0,_,by rw[Go.Sort.alloc_eq_grow,Go.Sort.alloc_eq_grow,Go.Sort.grow_grow];rfl⟩
theorem G7:∀args w,(callFunc 214 args).run prog w=.ok (.enter 214 args) w:=enters_of func214 zk rfl
theorem Qh{w0 w:zW}{m mk:Mem}{L:List bF}{t:TypeId}{g c:Nat}{l:List bT}(h:Own w0 m w mk (.row (.slice (some ⟨g,0,none⟩) l.length c) t 2 l.length (bI l)::L))(hl:l.length<4611686018427387904):
 zC 213 #[.slice (some ⟨g,0,none⟩) l.length c,.func (.func 214) #[] #[]] w fun e w'=>e=.returned (.tuple #[]) /\
  ∃p:List bT,p.Perm l/\(p.Pairwise fun s t=>s.1<=t.1)/\Own w0 m w' mk (.row (.slice (some ⟨g,0,none⟩) p.length c) t 2 p.length (bI p)::L):=by
 have b:g<w.heap.size:=(World.ownsRow.lt h.row _ rfl).2;have a:=AnyQ.slices_SortFunc Tryz.azE 2 Tryz.isAgg139 Tryz.sizeOf139 uM (fun _=>rfl) (fun x v d=>by simp[uM]at d;rcases d with rfl|rfl<;>rfl) Hy bzb 214 #[] g 0 c l.toArray w
  G7 (fun _ _ _ _ x y=>Oz x y _) (Um h.row) b qea
 refine Calls.mono (show zC 213 #[.slice (some ⟨g,0,none⟩) l.length c,.func (.func 214) #[] #[]] w _ from a) ?_;rintro e w' ⟨q,i,n,j,o,k,rfl⟩;obtain⟨f,u,r⟩:=Uf o k;refine⟨q,i.toList,u,r,?_⟩;have:=WW h i f n j;simpa [f]using this
theorem gu:gz prog 22 139 2 16:=⟨underlying22,zo,by
 obtain⟨i,d,c,b,a⟩:=info_parts (P:=prog) (e:=139) (z:=.agg #[.int .i64 0,.int .i64 0]) (size:=2) (bytes:=16) zk;exact⟨i,_,d,c,b,a,rfl⟩⟩
theorem GD:(prog.info? 139).map (fun i=>(i.zero,i.size,i.bytes))=some (some (.agg #[.int .i64 0,.int .i64 0]),2,16):=by kernel_rfl
theorem QX(n:Nat):(madeCells (Value.agg #[.int .i64 0,.int .i64 0]).cells (n*2)).toList=bI (List.replicate n (0,0)):=by
 apply List.ext_getElem?;intro j;by_cases b:j<n*2
 .obtain⟨i,a⟩:∃i,j=i*2\/j=i*2+1:=⟨j/2,zo⟩;obtain⟨d,c⟩:=mF (List.replicate n ((0:Int),(0:Int))) i qd4;rcases a with rfl|rfl
  .rw[d];simp[madeCells,Value.cells,b]
  .rw[c];have:(i*2+1)%2=1:=zo;simp[madeCells,Value.cells,b,this]
 .rw[vC (by simp[madeCells];omega),vC (by rw[dA];simp;omega)]
theorem Bg{w:zW}{ops:Array Oper}{rest:List Oper}{o:Oper}{a:Act}{Q:Exit->Act->World->Prop}
(h:o.guard=none)(l c:Operand)(b:o.op=Op.makeSlice 22 l c)(n:Nat)(g:a.eval l=.int .i64 n)(j:a.eval c=.int .i64 n)(q:n<=1000000)
(m:∀w',w'.ownsRow 0 139 2 (.slice (some ⟨w.heap.size,0,none⟩) n n) n (bI (List.replicate n (0,0)))->w.grownBy w' none->wpList prog ops Q rest (a.put o.dst (.slice (some ⟨w.heap.size,0,none⟩) n n)) w'):
 wpList prog ops Q (o::rest) a w:=by
 obtain⟨i,hi,e,f,k⟩:=info_parts GD;refine wpList_make_full w h l c 22 b 0 139 i _ 2 underlying22 hi e f .i64 .i64 n n n g j rfl rfl (by rw[k];omega) qdY (zG _) ?_;intro w' d p;rw[QX]at d;exact m w' d p
theorem I8(w:zW)(h:TypeId)(g n c sc:Nat)(a:Addr)(b:Array Value)(t:TypeId)(cs:List Value)
(o:w.heap[g]?=some (.cells b t (0,0)))(l:cs.length=n*2)(d:∀j v,cs[j]?=some v->w.cell? (a.add j)=some v)(e:cs.length<=b.size)(p:∀v∈cs,v.oneCell'=true):
 (Builtin.copy_ #[22,22] h #[.slice (some ⟨g,0,none⟩) n c,.slice (some a) n sc]).run prog w=.ok (goInt n) (w.setRow g (cs++b.toList.drop cs.length).toArray):=by
 have m:=run_loadCells_list (P:=prog) w a cs d;have f:=run_storeCells_at prog g 0 t cs 0 b w o (by simpa using e) p;obtain⟨i,hi,q,k,r⟩:=info_parts GD;simp[Builtin.copy_,run_underlying underlying22,Builtin.lenOf,Builtin.firstCells,Go.sizeOf,typeInfo,hi,k,<-l,m,f]
theorem I7(w:zW)(b:TypeId)(g c sc:Nat)(a:Option Addr):
 (Builtin.copy_ #[22,22] b #[.slice (some ⟨g,0,none⟩) 0 c,.slice a 0 sc]).run prog w=.ok (goInt 0) w:=by
 obtain⟨i,hi,d,e,f⟩:=info_parts GD;cases a<;>simp[Builtin.copy_,run_underlying underlying22,Builtin.lenOf,Builtin.firstCells,Go.sizeOf,typeInfo,hi,storeCells,loadCells,loadCellsFrom]
theorem RZ{w:zW}(o:TypeId)(g n sc:Nat)(f:Option Addr)(xs cs:List Value)(b:w.ownsRow 0 139 2 (.slice (some ⟨g,0,none⟩) n n) n xs)
(a:cs.length=n*2)(c:0<n->∃m,f=some m/\∀j u,cs[j]?=some u->w.cell? (m.add j)=some u)(B:∀v∈cs,v.oneCell'=true):
 ∃w',(Builtin.copy_ #[22,22] o #[.slice (some ⟨g,0,none⟩) n n,.slice f n sc]).run prog w=.ok (goInt n) w' /\
  w'.ownsRow 0 139 2 (.slice (some ⟨g,0,none⟩) n n) n cs/\w.grownBy w' (some g):=by
 by_cases C:n=0
 .subst C;obtain rfl:cs=[]:=yM (by simpa using a);have A:xs=[]:=yM (by simpa using b.1);subst A;exact⟨w,I7 w o g 0 sc f,b,⟨rfl,rfl,rfl,zI _,fun k _ _=>rfl⟩⟩
 .obtain⟨m,rfl,r⟩:=c zo;clear c;rcases b.2 with⟨p,-⟩|⟨E,cap,i,p,y,z,t,x,l,q⟩
  .cases p
  .cases p;have d:=I8 w o g n n sc m i 139 cs z a r (by rw[a,l];exact zI _) B;have h:i.toList.drop cs.length=[]:=zQ (by rw[a,<-l];simp);rw[h,yR]at d;refine⟨_,d,⟨a,.inr ⟨g,n,cs.toArray,rfl,y,setRow_heap w g i _ _ _ z,t,x,by simpa using a,?_⟩⟩,⟨rfl,rfl,rfl,by simp[World.setRow],fun k D s=>setRow_other w g k _ (fun e=>s (by rw[e]))⟩⟩;simp only;exact xH zo
structure qD (gf:Nat) (nx:Int->Int):Prop where
 run:∀(u:Int) (w:zW),-1000000000000002<=u->u<=1000000000000002->zX gf #[.int .i64 u] w (.int .i64 (nx u))
 ent:Hid (∀(x:Int) (w:zW),Sem.run prog (callFunc gf #[.int .i64 x]) w=.ok (.enter gf #[.int .i64 x]) w)
theorem Gh:qD 182 (fun n=>n+1):=⟨fun u w=>NP u w,zh fun x w=>by go_simp⟩
theorem Gi:qD 183 jy:=⟨fun u w=>NR u w,zh fun x w=>by go_simp⟩
theorem UI:qD 231 (fun n=>n-1):=⟨fun u w=>QN u w,zh fun x w=>by go_simp⟩
theorem NZ:qD 232 jg:=⟨fun u w=>LP u w,zh fun x w=>by go_simp⟩
def lI(s:bT):Prop := -1000000000000002<=s.1/\s.1<=s.2/\s.2<=1000000000000002
theorem Bt{s:bT}(h:lI s):kM s:=by unfold lI at h;unfold kM;omega
def J6(nx:Int->Int)(a:Int):List bT->Bool
 |[]=>false
 |t::_=>decide (a<=nx t.2)
theorem Nq{w:zW}{t:TypeId}{a:Option Addr}{n c:Nat}{xs:List Value}(h:w.ownsRow 0 t 2 (.slice a n c) n xs)(f:0<n):∃g,a=some ⟨g,0,none⟩:=by
 rcases h.2 with⟨b,i⟩|⟨g,cap,d,b,-⟩
 .omega
 .injection b with e;exact⟨g,e⟩
theorem BM(gf:Nat)(nx:Int->Int)(hN:qD gf nx)(v:zV)(l:List bT)(m:Mem)(w:zW)(hm:m.ay w)(hl:df m v l)(hlen:l.length<=1000000)(t':∀s∈l,lI s):
 Calls prog 181 #[v,.func (.func gf) #[] #[]] w fun e w'=>∃r p,e=.returned r/\Below w.heap.size w w'/\p.Perm l/\(p.Pairwise fun s t=>s.1<=t.1)/\df (m.grow w w') r (jN nx p []).reverse:=by
 obtain⟨a,c,rfl⟩:=dR hl;refine aj fun R hR=>?_;have f':∀v∈bI l,v.oneCell'=true:=fun v hv=>by
  obtain⟨q,-,hq⟩:=xW.1 hv;simp at hq;rcases hq with rfl|rfl<;>rfl
 have o':=zh (zi t' (zi hl f'));clear t' f' hl
 go_enter func181,ntmps181
 go_wp2_with (refine Bg rfl (.tmp 11) (.tmp 11) rfl l.length rfl rfl zo ?_)
 intro w1 h1 v';have D:=(Own.start hm).make h1 v';have A:0<l.length->∃ad,a=some ad/\∀j u,(bI l)[j]?=some u->w1.cell? (ad.add j)=some u:=fun h=>by
  obtain⟨b,off,e,h2⟩:=F5 D.ay o'.o.2.1 (by intro e;rw[e]at h;simp at h);exact⟨_,e,h2⟩
 generalize hG:w.heap.size=g at*
 obtain⟨w2,r',h2,u'⟩:=RZ 3 g l.length c a _ (bI l) h1 (dA l) A o'.o.2.2;have x:=D.app h2 u' (N:=w1.heap.size) (fun k hk=>.inl hk) (zI _);have F:=zh x;have HS:=zh (Qh x zo);clear x D h1 h2 v' u' A
 go_wp2_with fail
 refine HS.o.mono ?_;rintro e w3 ⟨rfl,p,hp,K,J⟩;have i':=hp.length_eq;have HP:=zh (zi hp (zi K i'));rw[i']at J;have e':∀s∈p,lI s:=fun s D'=>o'.o.1 s (hp.mem_iff.1 D');have Y':=zh e';clear hp K HS F r' e';go_wp2;refine av [1,6,18,19,20] (fun n vs L=>∃(k:Nat) (vo:zV) (out:List bT),k<=l.length/\n=l.length-k/\vs=[.func (.func gf) #[] #[],vo,.slice (some ⟨g,0,none⟩) l.length l.length,.int .i64 l.length,.int .i64 k] /\
  Own w m L m [.row vo 139 2 out.length (bI out.reverse),.row (.slice (some ⟨g,0,none⟩) l.length l.length) 139 2 l.length (bI p)]/\jN nx (p.drop k) out=jN nx p []/\out.length<=k/\(∀s∈out,lI s)) ?_ ?_
 .exact⟨_,0,.slice none 0 0,[],zG _,rfl,rfl,J.dL _ _,rfl,zI _,fun s h=>by cases h⟩
 clear J;rintro X z n vs L hX-⟨k,vo,out,hk,rfl,rfl,hO,hj,hol,j'⟩;simp[aX,lk];obtain⟨h',C,rfl⟩:=aT hO.row;by_cases F':k<l.length
 .have W:k<p.length:=by rw[i'];exact F'
  obtain⟨k1,k2⟩:=mF p k W;have r1:=bg hO.au.row k1;have r2:=bg hO.au.row k2;have rl:=(World.ownsRow.lt hO.au.row _ rfl).2;have hq:=Y'.o p[k] (zF W);have HJ:=zh (zi (OA nx p k W) (zi (Rh nx p k W) (zi hj j')));clear hj k1 k2 j';generalize p[k]=q at*
  obtain⟨G,H⟩:=q;simp only at r1 r2;have F:=zh (hO.al #[.int .i64 G,.int .i64 H] 139);clear hO;go_wp2;generalize hW2:L.alloc (.cells #[.int .i64 G,.int .i64 H] 139)=w5 at*
  generalize L.heap.size=S at*
  refine aR [1,6,8,9,18,19,20,40] (fun vs w'=>vs=[.func (.func gf) #[] #[],.slice h' out.length C,.pointer (some ⟨S,0,none⟩),.int .i64 out.length,.slice (some ⟨g,0,none⟩) l.length l.length,.int .i64 l.length,.int .i64 k,.bool (J6 nx G out)] /\
   Own w m w' m [.obj S 139 #[.int .i64 G,.int .i64 H],.row (.slice h' out.length C) 139 2 out.length (bI out.reverse),.row (.slice (some ⟨g,0,none⟩) l.length l.length) 139 2 l.length (bI p)]) ?_ ?_
  .intro Y hY
   cases out with
   |nil=>
    refine bz 15 6 (fun j=>[aD.is (·=.int .i64 0),aD.is (·=.bool false),aD.is (·=.bool false),aD.is (·=Go.undef),aD.is (·=Go.undef),aD.is (·=Go.undef),aD.is (·=Go.undef),aD.is (·=Go.undef),aD.is (·=Go.undef),aD.is (·=Go.undef),aD.is (·=Go.undef),aD.is (·=Go.undef),aD.is (·=Go.undef),aD.is (·=Go.undef),aD.is (·=.bool false)].getD j aD.any) zk zk ?_ ?_
    .intro i hi o M a L ho RA;rcases(show i=0\/i=1\/i=2\/i=3\/i=4\/i=5\/i=6\/i=7\/i=8\/i=9\/i=10\/i=11\/i=12\/i=13\/i=14 by omega)with rfl|rfl|rfl|rfl|rfl|rfl|rfl|rfl|rfl|rfl|rfl|rfl|rfl|rfl|rfl
     .have Z:=RA.k 9;exact qaa
     .have V':a.tmps.getD 26 undef=_:=RA.d 0 rfl;exact qaa
     .have U':a.tmps.getD 27 undef=_:=RA.d 1 rfl;exact qaa
     .have e8:=RA.k 8;exact qad
     .have T':a.tmps.getD 29 undef=_:=RA.d 3 rfl;exact qad
     .have e1:=RA.k 1;exact qad
     .have e6:=RA.k 6;exact qad
     .have Z:=RA.k 9;exact qad
     .have P':a.tmps.getD 33 undef=_:=RA.d 7 rfl;exact qad
     .have Q':a.tmps.getD 32 undef=_:=RA.d 6 rfl;have O':a.tmps.getD 34 undef=_:=RA.d 8 rfl;exact qad
     .have N':a.tmps.getD 35 undef=_:=RA.d 9 rfl;exact qad
     .have M':a.tmps.getD 36 undef=_:=RA.d 10 rfl;exact qad
     .have R':a.tmps.getD 31 undef=_:=RA.d 5 rfl;have L':a.tmps.getD 37 undef=_:=RA.d 11 rfl;exact qad
     .have S':a.tmps.getD 30 undef=_:=RA.d 4 rfl;have K':a.tmps.getD 38 undef=_:=RA.d 12 rfl;exact qad
     .have e28:zt a 28 _:=RA.d 2 rfl;have J':a.tmps.getD 39 undef=_:=RA.d 13 rfl;exact qaa
    .intro M a L E;have e1:=E.keep 1 zk;have e6:=E.keep 6 zk;have e8:=E.keep 8 zk;have Z:=E.keep 9 zk;have V:=E.keep 18 zk;have U:=E.keep 19 zk;have T:=E.keep 20 zk;have l':a.tmps.getD 40 undef=.bool false:=E.fact 14 _ zo rfl;obtain⟨t1,d⟩:=a;obtain rfl:d=[]:=E.defers;refine bY zk (hY.o _ _ E.size ⟨?_,F.o.dr.aP E.az⟩) _;simp only[yL,xB,e1,e6,e8,Z,V,U,T,l']
     rfl
   |cons t r=>
    simp only[yO]at*
    have E':r.length+1<=1000000:=zo;have P:(bI (t::r).reverse)[r.length*2+1]?=some (.int .i64 t.2):=by
     exact qdn
    obtain⟨f,rfl⟩:=Nq F.o.au.row zS;have Hq:=zh (zi P (HJ.o.2.2.2 t (yF ..)));clear P;refine bz 15 6 (fun j=>[aD.is (·=.int .i64 (r.length+1:Nat)),aD.is (·=.bool true),aD.is (·=.bool true),aD.is (·=.pointer (some ⟨S,0,none⟩)),aD.is (·=.int .i64 G),aD.is (·=.func (.func gf) #[] #[]),aD.is (·=.slice (some ⟨f,0,none⟩) (r.length+1) C),aD.is (·=.int .i64 (r.length+1:Nat)),aD.is (·=.int .i64 (r.length:Nat)),aD.is (·=.pointer (some ⟨f,r.length*2,none⟩)),aD.is (·=.pointer (some ⟨f,r.length*2+1,none⟩)),aD.is (·=.int .i64 t.2),aD.is (·=.int .i64 (nx t.2)),aD.is (·=.bool (decide (G<=nx t.2))),aD.is (·=.bool (decide (G<=nx t.2)))].getD j aD.any) zk zk ?_ ?_
    .intro i hi o M a L ho RA;have B:=F.o.dr.aP RA.az;have q1:=B.obj.c 0;have q2:=bg B.au.row Hq.o.1;have ql:=(World.ownsRow.lt B.au.row _ rfl).2;have C':IntKind.i64.wrap (r.length:Int)=(r.length:Int):=IntWalk.i64_in _ zo;rcases(show i=0\/i=1\/i=2\/i=3\/i=4\/i=5\/i=6\/i=7\/i=8\/i=9\/i=10\/i=11\/i=12\/i=13\/i=14 by omega)with rfl|rfl|rfl|rfl|rfl|rfl|rfl|rfl|rfl|rfl|rfl|rfl|rfl|rfl|rfl
     .have Z:=RA.k 9;exact qaa
     .have V':a.tmps.getD 26 undef=_:=RA.d 0 rfl;exact qaa
     .have U':a.tmps.getD 27 undef=_:=RA.d 1 rfl;exact qaa
     .have e8:=RA.k 8;exact qae
     .have T':a.tmps.getD 29 undef=_:=RA.d 3 rfl;exact qae
     .have e1:=RA.k 1;exact qae
     .have e6:=RA.k 6;exact qae
     .have Z:=RA.k 9;exact qae
     .have P':a.tmps.getD 33 undef=_:=RA.d 7 rfl;exact qae
     .have Q':a.tmps.getD 32 undef=_:=RA.d 6 rfl;have O':a.tmps.getD 34 undef=_:=RA.d 8 rfl;have e28:zt a 28 _:=RA.d 2 rfl;cases ho;refine gF rfl (fD rfl rfl e28) (aN (by go_simp;intro hh;omega) ⟨_,rfl,zR _ _,rfl⟩)
     .have N':a.tmps.getD 35 undef=_:=RA.d 9 rfl;exact qae
     .have M':a.tmps.getD 36 undef=_:=RA.d 10 rfl;exact qae
     .have R':a.tmps.getD 31 undef=_:=RA.d 5 rfl;have L':a.tmps.getD 37 undef=_:=RA.d 11 rfl;have e28:zt a 28 _:=RA.d 2 rfl;cases ho;have hr:=Hq.o.2;refine gF rfl (fD rfl rfl e28) (dX (by have hc:=fun w'=>hN.ent.o t.2 w';go_simp;first|done|rfl) (hN.run t.2 L (by unfold lI at hr;omega) (by unfold lI at hr;omega)) ?_);exact qab
     .have S':a.tmps.getD 30 undef=_:=RA.d 4 rfl;have K':a.tmps.getD 38 undef=_:=RA.d 12 rfl;exact qae
     .have e28:zt a 28 _:=RA.d 2 rfl;have J':a.tmps.getD 39 undef=_:=RA.d 13 rfl;exact qaa
    .intro M a L E;have e1:=E.keep 1 zk;have e6:=E.keep 6 zk;have e8:=E.keep 8 zk;have Z:=E.keep 9 zk;have V:=E.keep 18 zk;have U:=E.keep 19 zk;have T:=E.keep 20 zk;have l':a.tmps.getD 40 undef=.bool (decide (G<=nx t.2)):=E.fact 14 _ zo rfl;obtain⟨t1,d⟩:=a;obtain rfl:d=[]:=E.defers;refine bY zk (hY.o _ _ E.size ⟨?_,F.o.dr.aP E.az⟩) _;simp only[yL,xB,e1,e6,e8,Z,V,U,T,l']
     rfl
  rintro z4 vs w6-⟨rfl,hO⟩;simp[aX,lk];have k':J6 nx G out=false->jN nx (p.drop k) out=jN nx (p.drop (k+1)) ((G,H)::out):=by
   intro h
   cases out with
   |nil=>exact HJ.o.1
   |cons t r=>
    rw[HJ.o.2.1,zJ (by simpa [J6]using h)]
  cases hb:J6 nx G out with
  |false=>
   have X':=zh (k' hb);clear k' hb;have x:=(hO.al #[.int .i64 G,.int .i64 H] 139).bA;have A:=x.au.obj.cZ rfl;have s1:=hO.obj.c 0;have s2:=hO.obj.c 1;have s3:=hO.obj.lt;clear F
   go_wp2_with (at_builtin;refine aG gu rfl (.tmp 55) (.tmp 57) rfl (.slice h' out.length C) out.length _ rfl x.row ⟨w6.heap.size,0,none⟩ 1 1 [.int .i64 G,.int .i64 H] rfl rfl A qdZ qdY zo ?_)
   intro va vc w7 Q I O;have J:=(x.app Q I O zS).bL.bL;have B:=zh J;clear J x hO Q I O A s1 s2 s3;go_wp2;refine hX.o _ _ _ zo rfl ⟨k+1,_,(G,H)::out,zo,rfl,rfl,?_,?_,by simp;omega,?_⟩
   .have:=B.o;rw[List.reverse_cons,bM];exact this
   .rw[<-X'.o];exact HJ.o.2.2.1
   .intro s K;rcases yA.1 K with rfl|K
    .exact hq
    .exact HJ.o.2.2.2 s K
  |true=>
   cases out with
   |nil=>simp[J6]at hb
   |cons t r=>
   have hd:G<=nx t.2:=by simpa [J6]using hb
   have W':=zh (show jN nx (p.drop k) (t::r)=jN nx (p.drop (k+1)) ((t.1,max t.2 H)::r) from by rw[HJ.o.2.1,zK hd]);clear hd hb k' F;simp only[yO]at*
   have E':r.length+1<=1000000:=zo;have P:(bI (t::r).reverse)[r.length*2+1]?=some (.int .i64 t.2):=by
    exact qdn
   have d':∀y:Int,(bI (t::r).reverse).set (r.length*2+1) (.int .i64 y)=bI ((t.1,y)::r).reverse:=fun y=>by
    rw[List.reverse_cons,bM,List.set_append_right _ _ (by rw[dA];simp),dA,List.reverse_cons,bM];simp[Nat.add_comm]
   obtain⟨f,rfl⟩:=Nq hO.au.row zS;have Hq:=zh (zi P (zi d' (HJ.o.2.2.2 t (yF ..))));have HO:=zh hO;clear P d' hO
   go_upto_region 10 with(fail)
   refine aR [1,6,18,19,20] (fun vs w'=>vs=[.func (.func gf) #[] #[],.slice (some ⟨f,0,none⟩) (r.length+1) C,.slice (some ⟨g,0,none⟩) l.length l.length,.int .i64 l.length,.int .i64 k] /\
    Own w m w' m [.row (.slice (some ⟨f,0,none⟩) (r.length+1) C) 139 2 (r.length+1) (bI ((t.1,max t.2 H)::r).reverse),.row (.slice (some ⟨g,0,none⟩) l.length l.length) 139 2 l.length (bI p)]) ?_ ?_
   .intro Y hY;refine bz 14 6 (fun j=>[aD.is (·=.slice (some ⟨f,0,none⟩) (r.length+1) C),aD.is (·=.int .i64 (r.length+1:Nat)),aD.is (·=.int .i64 (r.length:Nat)),aD.is (·=.slice (some ⟨f,0,none⟩) (r.length+1) C),aD.is (·=.int .i64 (r.length+1:Nat)),aD.is (·=.int .i64 (r.length:Nat)),aD.is (·=.pointer (some ⟨f,r.length*2,none⟩)),aD.is (·=.pointer (some ⟨f,r.length*2+1,none⟩)),aD.is (·=.int .i64 t.2),aD.is (·=.pointer (some ⟨S,1,none⟩)),aD.is (·=.int .i64 H),aD.is (·=.int .i64 (max t.2 H)),aD.is (·=.pointer (some ⟨f,r.length*2,none⟩)),aD.is (·=.pointer (some ⟨f,r.length*2+1,none⟩))].getD j aD.any) zk zk ?_ ?_
    .intro i hi o M a L ho RA;have B:=HO.o.dr.aP RA.az;have q1:=B.obj.c 1;have q2:=bg B.au.row Hq.o.1;have ql:=(World.ownsRow.lt B.au.row _ rfl).2;have C':IntKind.i64.wrap (r.length:Int)=(r.length:Int):=IntWalk.i64_in _ zo;rcases(show i=0\/i=1\/i=2\/i=3\/i=4\/i=5\/i=6\/i=7\/i=8\/i=9\/i=10\/i=11\/i=12\/i=13 by omega)with rfl|rfl|rfl|rfl|rfl|rfl|rfl|rfl|rfl|rfl|rfl|rfl|rfl|rfl
     .have e6:=RA.k 6;exact qaa
     .have Z:=RA.k 9;exact qaa
     .have e42:zt a 42 _:=RA.d 1 rfl;exact qaa
     .have e6:=RA.k 6;exact qaa
     .have Z:=RA.k 9;exact qaa
     .have e45:zt a 45 _:=RA.d 4 rfl;exact qaa
     .have e44:zt a 44 _:=RA.d 3 rfl;have e46:zt a 46 _:=RA.d 5 rfl;exact qcH
     .have e47:zt a 47 _:=RA.d 6 rfl;exact qaa
     .have e48:zt a 48 _:=RA.d 7 rfl;exact qaa
     .have e8:=RA.k 8;exact qaa
     .have e50:zt a 50 _:=RA.d 9 rfl;exact qaa
     .have e49:zt a 49 _:=RA.d 8 rfl;have e51:zt a 51 _:=RA.d 10 rfl;exact qaa
     .have e41:zt a 41 _:=RA.d 0 rfl;have e43:zt a 43 _:=RA.d 2 rfl;exact qcH
     .have e53:zt a 53 _:=RA.d 12 rfl;exact qaa
    .intro M a L E;have e1:=E.keep 1 zk;have e6:=E.keep 6 zk;have V:=E.keep 18 zk;have U:=E.keep 19 zk;have T:=E.keep 20 zk;have e52:a.tmps.getD 52 undef=.int .i64 (max t.2 H):=E.fact 11 _ zo rfl;have e54:a.tmps.getD 54 undef=.pointer (some ⟨f,r.length*2+1,none⟩):=E.fact 13 _ zo rfl;have D:=HO.o.dr.aP E.az;have hfz:=dK D.au.row (r.length*2+1);have hcl:=bg D.au.row Hq.o.1;have x:=D.au.setRow (r.length*2+1) (.int .i64 (max t.2 H));rw[Hq.o.2.1]at x;have HZ:=zh x.bL;have HE:=zh E;clear E D x;refine eF 14 zk (aJ rfl rfl (cO zg ?_));obtain⟨t1,d⟩:=a;obtain rfl:d=[]:=HE.o.defers;refine bY zk (hY.o _ _ HE.o.size ⟨?_,HZ.o⟩) _;simp only[yL,xB,e1,e6,V,U,T]
     rfl
   rintro z5 vs w7-⟨rfl,hO⟩;simp[aX,lk];have B:=zh hO;clear hO;go_wp2;refine hX.o _ _ _ zo rfl ⟨k+1,_,(t.1,max t.2 H)::r,zo,rfl,rfl,B.o,?_,by simp;omega,?_⟩
   .rw[<-W'.o];exact HJ.o.2.2.1
   .have ht:=Hq.o.2.2;intro s K;rcases yA.1 K with rfl|K
    .unfold lI at*;simp only;omega
    .exact HJ.o.2.2.2 s (zU _ K)
 .obtain rfl:k=l.length:=zo;rw[zQ zo]at hj;have H':out=jN nx p []:=hj;clear hj;subst H';have q':=eH (m:=m) (l:=(jN nx p []).reverse) (by simpa using hO.row) (fun s K=>Bt (j' s (List.mem_reverse.1 K)));have hfin:=bV hO.bJ.done q';have g':=zh qfM;clear hO q' hfin;go_wp2;refine hR.o _ _ ⟨_,p,rfl,by rw[<-hG];exact g'.o.1,HP.o.1,HP.o.2.1,?_⟩;exact g'.o.2
theorem mV(w:zW)(a:Addr)(v:zV):(w.setCell a v).heap.size=w.heap.size:=by simp[World.setCell]
theorem Ow{l:List bT}:∀s∈mI l,lI s:=fun s h=>by
 have:=Re s h;unfold lI;simp only[il]at this;omega
theorem Oy{l:List bT}:∀s∈jX l,lI s:=fun s h=>by
 have:=Gy s h;unfold lI;simp only[iD]at this;omega
theorem TR{l:List bT}{k:Nat}(h:k<=l.length):(mI (l.take k)).length<=k:=by
 have:=Dg (l.take k);rw[List.length_take]at this;omega
theorem Jy{l:List bT}{k:Nat}(h:k<=l.length):(jX (l.take k)).length<=k:=by
 have:=Dh (l.take k);rw[List.length_take]at this;omega
theorem l8(vi vf:zV)(I F:List bT)(m:Mem)(w:zW)(hm:m.ay w)(hN:bZ m vi vf I F)(hI:I.length<=100000)(hF:F.length<=100000):
 zC 136 #[.agg #[vi,vf]] w fun e w'=>∃ri rf,e=.returned (.agg #[ri,rf])/\zB w w'/\bZ (m.grow w w') ri rf (dz I F).i (dz I F).rf:=by
 have f:=((Own.start hm).al #[vi,vf] 24).al #[.slice none 0 0,.slice none 0 0] 24;have n':(w.alloc (.cells #[vi,vf] 24)).heap.size=w.heap.size+1:=by simp
 rw[n']at f;obtain⟨hi,hf⟩:=hN;have HI:=zh (zi hi hf);obtain⟨ai,ci,rfl,i1,i2,i3⟩:=hi;obtain⟨af,cf,rfl,f1,f2,f3⟩:=hf;unfold maxLen at i2 f2;have HO:=zh (f.dL 139 2);clear f n';refine aj fun R hR=>?_
 go_enter func136,ntmps136
 go_wp2;refine av [1,2,3,4,10,11,12] (fun n vs wr=>∃(k:Nat) (vo:zV),k<=I.length/\n=I.length-k/\vs=[.pointer (some ⟨w.heap.size,0,none⟩),.pointer (some ⟨w.heap.size+1,0,none⟩),vo,.slice none 0 0,.slice ai I.length ci,.int .i64 I.length,.int .i64 k] /\
  Own w m wr m [.row vo 139 2 (mI (I.take k)).length (bI (mI (I.take k))),.obj (w.heap.size+1) 24 #[.slice none 0 0,.slice none 0 0],.obj w.heap.size 24 #[.slice ai I.length ci,.slice af F.length cf]]) ?_ ?_
 .exact⟨_,0,.slice none 0 0,zG _,rfl,rfl,HO.o⟩
 clear HO;rintro X z n vs wr hX-⟨k,vo,hk,rfl,rfl,f⟩;simp[aX,lk];obtain⟨V,U,rfl⟩:=aT f.row;by_cases hlt:k<I.length
 .obtain⟨b,off,rfl,h4⟩:=i3 qdX;have hg:=h4 k hlt;have r1:=Mem_cell_w f.ay hg.1;have r2:=Mem_cell_w f.ay hg.2.1;have rl:=Mem_cell_lt f.ay hg.1;have G:=Rc I k hlt;have Y':=TR hk;have t:=zh (zi G hg);clear G h4 hg;generalize mI (I.take k)=H at*
  generalize I[k]=q at*
  obtain⟨Z,W⟩:=q;simp only at r1 r2;have D:=zh (f.al #[.int .i64 Z,.int .i64 W] 139);clear f
  go_upto_region 5 with(fail)
  generalize u':wr.alloc (.cells #[.int .i64 Z,.int .i64 W] 139)=w5 at*
  generalize wr.heap.size=S at*
  refine aR [1,2,3,4,6,10,11,12] (fun vs w'=>∃x y:Int,x=max Z (-il)/\y=min W il/\vs=[.pointer (some ⟨w.heap.size,0,none⟩),.pointer (some ⟨w.heap.size+1,0,none⟩),.slice V H.length U,.slice none 0 0,.pointer (some ⟨S,0,none⟩),.slice (some ⟨b,off,none⟩) I.length ci,.int .i64 I.length,.int .i64 k] /\
   Own w m w' m [.obj S 139 #[.int .i64 x,.int .i64 y],.row (.slice V H.length U) 139 2 H.length (bI H),.obj (w.heap.size+1) 24 #[.slice none 0 0,.slice none 0 0],.obj w.heap.size 24 #[.slice (some ⟨b,off,none⟩) I.length ci,.slice af F.length cf]]) ?_ ?_
  .intro Y hY;have q1:=D.o.obj.c 0;have q2:=D.o.obj.c 1;have q3:=D.o.obj.frozen 0;have q4:=D.o.obj.frozen 1;have q5:=D.o.obj.lt;go_wp2
   all_goals refine hY.o _ _ rfl ⟨_,_,?_,?_,rfl,(D.o.set 0 _).set 1 _⟩
   all_goals first
    |omega
    |(unfold il;omega)
  rintro z4 vs w6-⟨x,y,hx,hy,rfl,f⟩;simp[aX,lk];have i':lQ (Z,W)=(x,y):=by unfold lQ;rw[hx,hy]
  have T:=zh i';clear i' hx hy D u';have s1:=f.obj.c 0;have s2:=f.obj.c 1;have s3:=f.obj.lt;by_cases g:x<=y
  .have E:decide (x<=y)=true:=zN g;have a:=(f.al #[.int .i64 x,.int .i64 y] 139).bA;have r:=a.au.obj.cZ rfl;have Hxy:=zh g;clear g f
   go_wp2_with (at_builtin;refine aG gu rfl (.tmp 28) (.tmp 30) rfl (.slice V H.length U) H.length _ rfl a.row ⟨w6.heap.size,0,none⟩ 1 1 [.int .i64 x,.int .i64 y] rfl rfl r qdZ qdY zo ?_)
   intro va vc w7 p d j;have u:=(a.app p d j zS).bL.bL;have A:=zh u;clear u a p d j r s1 s2 s3;go_wp2;refine hX.o _ _ _ zo rfl ⟨k+1,_,zo,rfl,rfl,?_⟩;rw[t.o.1,T.o,zK (show x<=y from Hxy.o),bM,zL];exact A.o
  .have E:decide (x<=y)=false:=zM g;have A:=zh f.tail;have Hxy:=zh g;clear g f;go_wp2;refine hX.o _ _ _ zo rfl ⟨k+1,_,zo,rfl,rfl,?_⟩;rw[t.o.1,T.o,zJ (fun h:x<=y=>absurd h qes),yR];exact A.o
 .obtain rfl:k=I.length:=zo;simp only[yG]at f⊢;have e':=eH (m:=m) (l:=mI I) f.row (fun s hs=>Bt (Ow s hs));have L:=Mem_le_addv (w:=wr) f.free;have M:=f.bJ;generalize t':m.iw wr (.slice V (mI I).length U)=j' at*
  have HM:=zh (zi e' L);clear e' L t';have q1:=M.au.obj.c 1;have q2:=M.au.obj.lt;have HO:=zh (M.dL 139 2);clear f M;go_wp2;refine av [2,3,4,34,35,36] (fun n vs w'=>∃(k:Nat) (vo:zV),k<=F.length/\n=F.length-k/\vs=[.pointer (some ⟨w.heap.size+1,0,none⟩),.slice V (mI I).length U,vo,.slice af F.length cf,.int .i64 F.length,.int .i64 k] /\
   Own w m w' j' [.row vo 139 2 (jX (F.take k)).length (bI (jX (F.take k))),.obj (w.heap.size+1) 24 #[.slice none 0 0,.slice none 0 0]]) ?_ ?_
  .exact⟨_,0,.slice none 0 0,zG _,rfl,rfl,HO.o.kY⟩
  clear HO hX q1 q2;rintro X z n vs w8 hX-⟨k,vo,hk,rfl,rfl,f⟩;simp[aX,lk];obtain⟨P,O,rfl⟩:=aT f.row;by_cases hlt:k<F.length
  .obtain⟨b,off,rfl,h4⟩:=f3 qdX;have hg:=h4 k hlt;have k':=Mem_inn_le HM.o.2 f.ay;have r1:=Mem_cell_w k' hg.1;have r2:=Mem_cell_w k' hg.2.1;have rl:=Mem_cell_lt k' hg.1;have G:=Gx F k hlt;have Y':=Jy hk;have t:=zh (zi G hg);clear G h4 hg k';generalize jX (F.take k)=H at*
   generalize F[k]=q at*
   obtain⟨Z,W⟩:=q;simp only at r1 r2;have D:=zh (f.al #[.int .i64 Z,.int .i64 W] 139);clear f
   go_upto_region 12 with(fail)
   generalize u':w8.alloc (.cells #[.int .i64 Z,.int .i64 W] 139)=w5 at*
   generalize w8.heap.size=S at*
   refine aR [2,3,4,8,34,35,36] (fun vs w'=>∃x y:Int,x=max Z (-iD)/\y=min W iD/\vs=[.pointer (some ⟨w.heap.size+1,0,none⟩),.slice V (mI I).length U,.slice P H.length O,.pointer (some ⟨S,0,none⟩),.slice (some ⟨b,off,none⟩) F.length cf,.int .i64 F.length,.int .i64 k] /\
    Own w m w' j' [.obj S 139 #[.int .i64 x,.int .i64 y],.row (.slice P H.length O) 139 2 H.length (bI H),.obj (w.heap.size+1) 24 #[.slice none 0 0,.slice none 0 0]]) ?_ ?_
   .intro Y hY;have q1:=D.o.obj.c 0;have q2:=D.o.obj.c 1;have q3:=D.o.obj.frozen 0;have q4:=D.o.obj.frozen 1;have q5:=D.o.obj.lt;go_wp2
    all_goals refine hY.o _ _ rfl ⟨_,_,?_,?_,rfl,(D.o.set 0 _).set 1 _⟩
    all_goals first
     |omega
     |(unfold iD;omega)
   rintro z4 vs w6-⟨x,y,hx,hy,rfl,f⟩;simp[aX,lk];have hb:(-1000000000000000<=x/\x<=9223372036854775807)/\(y<=1000000000000000 /\ -9223372036854775808<=y):=by
    have:=t.o.2.2.2;simp only[iD]at hx hy;omega
   have i':iO (Z,W)=(if x%10000=0 then x+1 else x,if y%10000=0 then y-1 else y):=by unfold iO trimF;rw[hx,hy]
   have T:=zh (zi i' hb);have K:=zh (p9 x);have J:=zh (p9 y);clear i' hx hy D u';have q3:=f.obj.frozen 0;have q4:=f.obj.frozen 1;have s1:=f.obj.c 0;have s2:=f.obj.c 1;have s3:=f.obj.lt;obtain⟨hbx,hby⟩:=hb;have N:=zh f;clear f;by_cases ex:x%10000=0<;>by_cases ey:y%10000=0
   .have d1:(x.tmod 10000==0)=true:=by first|exact beq_iff_eq.2 (K.o.2 ex)|exact zO.2 (fun e=>ex (K.o.1 e))
    have d2:(y.tmod 10000==0)=true:=by first|exact beq_iff_eq.2 (J.o.2 ey)|exact zO.2 (fun e=>ey (J.o.1 e))
    have f:=((N.o.set 0 (.int .i64 (x+1))).set 1 (.int .i64 (y-1)));have B:iO (Z,W)=((x+1),(y-1)):=by rw[T.o.1];simp[ex,ey]
    have C:=zh B;have s4:=f.obj.c 0;have s5:=f.obj.c 1;have s6:=f.obj.lt;clear B;by_cases g:(x+1)<=(y-1)
    .have E:decide ((x+1)<=(y-1))=true:=zN g;have a:=(f.al #[.int .i64 ((x+1)),.int .i64 ((y-1))] 139).bA
     try simp only[mV]at a
     have r:=a.au.obj.cZ rfl;have Hxy:=zh g;clear g f
     go_wp2_with (at_builtin;refine aG gu rfl (.tmp 68) (.tmp 70) rfl (.slice P H.length O) H.length _ rfl a.row ⟨_,0,none⟩ 1 1 [.int .i64 ((x+1)),.int .i64 ((y-1))] rfl rfl r qdZ qdY zo ?_)
     intro va vc w7 p d j;have u:=(a.app p d j zS).bL.bL;have A:=zh u;clear u a p d j r s1 s2 s3 s4 s5 s6 N;go_wp2;refine hX.o _ _ _ zo rfl ⟨k+1,_,zo,rfl,rfl,?_⟩;rw[t.o.1,C.o,zK (show(x+1)<=(y-1) from Hxy.o),bM,zL];exact A.o
    .have E:decide ((x+1)<=(y-1))=false:=zM g;have A:=zh f.tail;have Hxy:=zh g;clear g f;go_wp2;refine hX.o _ _ _ zo rfl ⟨k+1,_,zo,rfl,rfl,?_⟩;rw[t.o.1,C.o,zJ (fun h:(x+1)<=(y-1)=>absurd h qes),yR];exact A.o
   .have d1:(x.tmod 10000==0)=true:=by first|exact beq_iff_eq.2 (K.o.2 ex)|exact zO.2 (fun e=>ex (K.o.1 e))
    have d2:(y.tmod 10000==0)=false:=by first|exact beq_iff_eq.2 (J.o.2 ey)|exact zO.2 (fun e=>ey (J.o.1 e))
    have f:=(N.o.set 0 (.int .i64 (x+1)));have B:iO (Z,W)=((x+1),(y)):=by rw[T.o.1];simp[ex,ey]
    have C:=zh B;have s4:=f.obj.c 0;have s5:=f.obj.c 1;have s6:=f.obj.lt;clear B;by_cases g:(x+1)<=(y)
    .have E:decide ((x+1)<=(y))=true:=zN g;have a:=(f.al #[.int .i64 ((x+1)),.int .i64 ((y))] 139).bA
     try simp only[mV]at a
     have r:=a.au.obj.cZ rfl;have Hxy:=zh g;clear g f
     go_wp2_with (at_builtin;refine aG gu rfl (.tmp 68) (.tmp 70) rfl (.slice P H.length O) H.length _ rfl a.row ⟨_,0,none⟩ 1 1 [.int .i64 ((x+1)),.int .i64 ((y))] rfl rfl r qdZ qdY zo ?_)
     intro va vc w7 p d j;have u:=(a.app p d j zS).bL.bL;have A:=zh u;clear u a p d j r s1 s2 s3 s4 s5 s6 N;go_wp2;refine hX.o _ _ _ zo rfl ⟨k+1,_,zo,rfl,rfl,?_⟩;rw[t.o.1,C.o,zK (show(x+1)<=(y) from Hxy.o),bM,zL];exact A.o
    .have E:decide ((x+1)<=(y))=false:=zM g;have A:=zh f.tail;have Hxy:=zh g;clear g f;go_wp2;refine hX.o _ _ _ zo rfl ⟨k+1,_,zo,rfl,rfl,?_⟩;rw[t.o.1,C.o,zJ (fun h:(x+1)<=(y)=>absurd h qes),yR];exact A.o
   .have d1:(x.tmod 10000==0)=false:=by first|exact beq_iff_eq.2 (K.o.2 ex)|exact zO.2 (fun e=>ex (K.o.1 e))
    have d2:(y.tmod 10000==0)=true:=by first|exact beq_iff_eq.2 (J.o.2 ey)|exact zO.2 (fun e=>ey (J.o.1 e))
    have f:=(N.o.set 1 (.int .i64 (y-1)));have B:iO (Z,W)=((x),(y-1)):=by rw[T.o.1];simp[ex,ey]
    have C:=zh B;have s4:=f.obj.c 0;have s5:=f.obj.c 1;have s6:=f.obj.lt;clear B;by_cases g:(x)<=(y-1)
    .have E:decide ((x)<=(y-1))=true:=zN g;have a:=(f.al #[.int .i64 ((x)),.int .i64 ((y-1))] 139).bA
     try simp only[mV]at a
     have r:=a.au.obj.cZ rfl;have Hxy:=zh g;clear g f
     go_wp2_with (at_builtin;refine aG gu rfl (.tmp 68) (.tmp 70) rfl (.slice P H.length O) H.length _ rfl a.row ⟨_,0,none⟩ 1 1 [.int .i64 ((x)),.int .i64 ((y-1))] rfl rfl r qdZ qdY zo ?_)
     intro va vc w7 p d j;have u:=(a.app p d j zS).bL.bL;have A:=zh u;clear u a p d j r s1 s2 s3 s4 s5 s6 N;go_wp2;refine hX.o _ _ _ zo rfl ⟨k+1,_,zo,rfl,rfl,?_⟩;rw[t.o.1,C.o,zK (show(x)<=(y-1) from Hxy.o),bM,zL];exact A.o
    .have E:decide ((x)<=(y-1))=false:=zM g;have A:=zh f.tail;have Hxy:=zh g;clear g f;go_wp2;refine hX.o _ _ _ zo rfl ⟨k+1,_,zo,rfl,rfl,?_⟩;rw[t.o.1,C.o,zJ (fun h:(x)<=(y-1)=>absurd h qes),yR];exact A.o
   .have d1:(x.tmod 10000==0)=false:=by first|exact beq_iff_eq.2 (K.o.2 ex)|exact zO.2 (fun e=>ex (K.o.1 e))
    have d2:(y.tmod 10000==0)=false:=by first|exact beq_iff_eq.2 (J.o.2 ey)|exact zO.2 (fun e=>ey (J.o.1 e))
    have f:=(N.o);have B:iO (Z,W)=((x),(y)):=by rw[T.o.1];simp[ex,ey]
    have C:=zh B;have s4:=f.obj.c 0;have s5:=f.obj.c 1;have s6:=f.obj.lt;clear B;by_cases g:(x)<=(y)
    .have E:decide ((x)<=(y))=true:=zN g;have a:=(f.al #[.int .i64 ((x)),.int .i64 ((y))] 139).bA
     try simp only[mV]at a
     have r:=a.au.obj.cZ rfl;have Hxy:=zh g;clear g f
     go_wp2_with (at_builtin;refine aG gu rfl (.tmp 68) (.tmp 70) rfl (.slice P H.length O) H.length _ rfl a.row ⟨_,0,none⟩ 1 1 [.int .i64 ((x)),.int .i64 ((y))] rfl rfl r qdZ qdY zo ?_)
     intro va vc w7 p d j;have u:=(a.app p d j zS).bL.bL;have A:=zh u;clear u a p d j r s1 s2 s3 s4 s5 s6 N;go_wp2;refine hX.o _ _ _ zo rfl ⟨k+1,_,zo,rfl,rfl,?_⟩;rw[t.o.1,C.o,zK (show(x)<=(y) from Hxy.o),bM,zL];exact A.o
    .have E:decide ((x)<=(y))=false:=zM g;have A:=zh f.tail;have Hxy:=zh g;clear g f;go_wp2;refine hX.o _ _ _ zo rfl ⟨k+1,_,zo,rfl,rfl,?_⟩;rw[t.o.1,C.o,zJ (fun h:(x)<=(y)=>absurd h qes),yR];exact A.o
  .obtain rfl:k=F.length:=zo;simp only[yG]at f⊢;have e':=eH (m:=j') (l:=jX F) f.row (fun s hs=>Bt (Oy s hs));have L:=Mem_le_addv (w:=w8) f.free;have M:=f.bJ;generalize t':j'.iw w8 (.slice P (jX F).length O)=W' at*
   have L':=zh (BM 182 _ Gh _ (mI I) W' w8 M.ay (bV L HM.o.1) (by have:=Dg I;omega) Ow);have m':=zh (zi e' M);clear e' L t' f M hX
   go_wp2_with fail
   refine L'.o.mono ?_;rintro e wa ⟨r1,p1,rfl,I',G',E',Q⟩;have a:=m'.o.2.call I';have g':=UT G' E';rw[g']at Q;have M':=zh (BM 183 _ Gi _ (jX F) _ wa a.ay (bV (Mem_le_grow m'.o.2.ay) m'.o.1) (by have:=Dh F;omega) Oy);have l':=zh (zi Q a);obtain⟨ra,rc,rfl⟩:=dR Q;clear L' m' I' g' G' E' a Q
   go_wp2_with fail
   refine M'.o.mono ?_;rintro e wb ⟨r2,p2,rfl,H',F',D',f'⟩;have a:=l'.o.2.call H';have g':=QW F' D';rw[g']at f';have Q:=bV (Mem_le_grow l'.o.2.ay (w:=wb)) l'.o.1;obtain⟨sa,sc,rfl⟩:=dR f';simp only[xC]at f';have g0:=a.obj.c 0;have g1:=a.obj.c 1;have g2:=a.obj.frozen 0;have g3:=a.obj.frozen 1;have g4:=a.obj.lt;have u:=(a.set 0 (.slice ra (mZ I).length rc)).set 1 (.slice sa (lw F).length sc);have g5:=u.obj.c 0;have g6:=u.obj.c 1;have o':bZ (m.grow w _) _ _ (dz I F).i (dz I F).rf:=⟨bV u.done Q,bV u.done f'⟩;have Hk:=zh (zi u.az o');clear l' M' H' g' F' D' Q f' a u o';go_wp2;refine yV (v:=.agg #[.slice ra (mZ I).length rc,.slice sa (lw F).length sc]) (by simp[results,results136,go_sem,g5,g6]) rfl ?_;exact qax
def dY(I F:List bT)(m:Mem)(v:zV):Prop:=∃d c b a,v=.agg #[.slice d I.length c,.slice b F.length a]/\bZ m (.slice d I.length c) (.slice b F.length a) I F
def qZ(l:List bT)(m:Mem)(v:zV):Prop:=∃a c,v=.slice a l.length c/\df m (.slice a l.length c) l
theorem bZ.eG{m:Mem}{e g:zV}{I F:List bT}(h:bZ m e g I F):∃n l k j,e=.slice n I.length l/\g=.slice k F.length j:=by
 obtain⟨a,c,rfl⟩:=dR h.i;obtain⟨b,d,rfl⟩:=dR h.f;exact⟨a,c,b,d,rfl,rfl⟩
theorem je{m:Mem}{e f:zV}{I F:List bT}(h:bZ m e f I F):dY I F m (.agg #[e,f]):=by
 obtain⟨a,c,b,d,rfl,rfl⟩:=h.eG;exact⟨a,c,b,d,rfl,h⟩
theorem ry{m:Mem}{v:zV}{l:List bT}(h:df m v l):qZ l m v:=by
 obtain⟨a,c,rfl⟩:=dR h;exact⟨a,c,rfl,h⟩
theorem dY.le{I F:List bT}{m m':Mem}(h:m.le m'){v:zV}(k:dY I F m v):dY I F m' v:=by
 obtain⟨a,c,b,d,e,f⟩:=k;exact⟨a,c,b,d,e,f.le h⟩
theorem qZ.le{l:List bT}{m m':Mem}(h:m.le m'){v:zV}(k:qZ l m v):qZ l m' v:=by
 obtain⟨a,c,e,b⟩:=k;exact⟨a,c,e,bV h b⟩
theorem ig{R:Mem->Value->Prop}(b:∀{m m':Mem},m.le m'->∀{v:zV},R m v->R m' v){m:Mem}{w w':zW}{a:oV}{i:Nat}(c:m.ay w)(d:zB w w'){r:zV}
(h:R (m.grow w w') r):R (m.gU w' (a.put i (w.heap.size,w'.heap.size)) [i]) r:=b (Mem_grow_wins0 c a i d) h
theorem jV{R:Mem->Value->Prop}(b:∀{m m':Mem},m.le m'->∀{v:zV},R m v->R m' v){m:Mem}{w w':zW}{a:oV}{i:Nat}{ds:List Nat}(e:m.ay w)(f:∀d∈ds,d≠i)(c:∀d∈ds,(a d).2<=w.heap.size)
(g:zB w w'){r:zV}(h:R ((m.gU w a ds).grow w w') r):R (m.gU w' (a.put i (w.heap.size,w'.heap.size)) (i::ds)) r:=b (Mem_grow_wins e a f c g) h
theorem Oa{m:Mem}{R:Mem->Value->Prop}{w:zW}{v:zV}{i:Nat}{q:Nat×Nat}(ds:List Nat)(a:oV)(hi:i ∉ ds)(c:∀d∈ds,(a d).2<=w.heap.size)(h:R (m.gU w a ds) v):
 (aD.mem m ds R).holds v (a.put i q) w:=
 (aD.mem m ds R).mono _ a _ w w (fun d b=>⟨(oV.tQ a _ (fun e=>hi (by rw[<-e];exact b))).symm,c d b⟩) (zR _ _) h
theorem QL(b d l n:zV)(I F J G:List bT)(m:Mem)(w:zW)(q:m.ay w)(k:bZ m b d I F)(j:bZ m l n J G):
 zX 196 #[.agg #[b,d],.agg #[l,n]] w (.bool (tf (I=J/\F=G))):=by
 have g:=((Own.start q).al #[b,d] 24).al #[l,n] 24;have a:(w.alloc (.cells #[b,d] 24)).heap.size=w.heap.size+1:=by simp
 rw[a]at g;have HA:=zh (lX _ _ I J m _ g.ay k.i j.i);have HB:=zh (fun w' (h:m.ay w')=>lX _ _ F G m w' h k.f j.f);obtain⟨z,u,x,s,rfl,rfl⟩:=k.eG;obtain⟨y,t,v,r,rfl,rfl⟩:=j.eG;have HO:=zh g;clear g a k j;refine aj fun R hR=>?_
 go_enter func196,ntmps196
 go_wp2_with fail
 refine HA.o.mono ?_;rintro e p ⟨rfl,hb1⟩;have hO1:=HO.o.aP hb1;by_cases e1:I=J
 .rw[aO e1];have HB1:=zh (HB.o p hO1.ay);have q0:=hO1.obj.c 1;have q1:=hO1.au.obj.c 1;have HO1:=zh hO1;have E1:=zh e1;clear HO hO1 hb1 HA HB e1
  go_wp2_with fail
  exact qbe
 .exact qbJ
theorem NQ(f g:zV)(I F:List bT)(m:Mem)(w:zW)(v:m.ay w)(h:bZ m f g I F)(x:I.length<=100000)(y:F.length<=100000):
 zX 156 #[.agg #[f,g]] w (.bool (tf (I=(dz I F).i/\F=(dz I F).rf))):=by
 have l:=(Own.start v).al #[f,g] 24;obtain⟨r,p,q,n,rfl,rfl⟩:=h.eG;have HO:=zh l;have s:=zh h;clear l h;refine aj fun R hR=>?_
 go_enter func156,ntmps156
 go_upto_region 1 with(fail)
 refine aR [2] (fun vs w'=>vs=[.bool (tf (I=(dz I F).i/\F=(dz I F).rf))]/\zB w w') ?_ ?_
 .intro Y hY;refine bz 5 5 (fun j=>[aD.is (·=.agg #[.slice r I.length p,.slice q F.length n]),aD.is (·=.agg #[.slice r I.length p,.slice q F.length n]),aD.mem m [2] (dY (dz I F).i (dz I F).rf),aD.is (·=.bool (tf (I=(dz I F).i/\F=(dz I F).rf))),aD.is (·=.bool (tf (I=(dz I F).i/\F=(dz I F).rf)))].getD j aD.any) zk zk ?_ ?_
  .intro i hi o win a wr ho b;have HO3:=HO.o.dr.aP b.az;have K:=HO3.obj.c 0;have J:=HO3.obj.c 1;rcases(show i=0\/i=1\/i=2\/i=3\/i=4 by omega)with rfl|rfl|rfl|rfl|rfl
   .have B:=b.k 1;exact qaa
   .have B:=b.k 1;exact qaa
   .have M:zt a 4 _:=b.d 1 rfl;cases ho;refine we rfl rfl (l8 _ _ I F m wr HO3.ay s.o x y) ?_;exact qcB
   .have N:zt a 3 _:=b.d 0 rfl;have A:(aD.mem m [2] (dY (dz I F).i (dz I F).rf)).holds (a.tmps.getD 5 undef) win wr:=b.d 2 rfl;cases ho;obtain⟨H,D,G,C,f1,t⟩:dY _ _ _ _:=A;have u:=s.o.le (Mem_le_wins HO3.ay win [2]);refine we rfl rfl (QL _ _ _ _ I F (dz I F).i (dz I F).rf _ wr (Mem_wins_inn HO3.ay win [2]) u t) ?_;exact qab
   .have L:zt a 6 _:=b.d 3 rfl;exact qaa
  .exact qaM
 exact qb6
theorem Ue{x y:bT}(b:kM x)(a:kM y):kM (kR x y):=by
 unfold kM kR at*;dsimp only;omega
theorem R4{a b:List bT}(g:∀s∈a,kM s)(f:∀s∈b,kM s):∀s∈fe a b,kM s:=by
 intro s e;obtain⟨x,d,h⟩:=xW.1 e;obtain⟨y,c,rfl⟩:=yD.1 (xR.1 h).1;exact Ue (g x d) (f y c)
def Dq(a b:List bT)(k j:Nat)(x:bT):List bT:=fe (a.take k) b++((b.take j).map (kR x)).filter fun z=>decide (z.1<=z.2)
theorem XX(a b:List bT)(k j:Nat)(x:bT)(g:k<a.length):(Dq a b k j x).length<=a.length*b.length:=by
 have c:=wL (a.take k) b;have f:=vB (fun z:bT=>decide (z.1<=z.2)) ((b.take j).map (kR x));rw[xC,List.length_take]at f;rw[List.length_take]at c;have e:(k+1)*b.length<=a.length*b.length:=Nat.mul_le_mul_right _ zo;rw[Nat.add_mul,Nat.one_mul]at e;have d:min k a.length=k:=zo;rw[d]at c;unfold Dq;rw[zL];omega
theorem VP(a b:List bT)(k j:Nat)(x:bT)(c:j<b.length):Dq a b k (j+1) x=Dq a b k j x++if(kR x b[j]).1<=(kR x b[j]).2 then[kR x b[j]]else[]:=by
 unfold Dq;rw[UN x b j c,xD]
theorem VO(a b:List bT)(k:Nat)(x:bT):Dq a b k 0 x=fe (a.take k) b:=by simp[Dq]
theorem XY(a b:List bT)(k:Nat)(c:k<a.length):Dq a b k b.length a[k]=fe (a.take (k+1)) b:=by
 rw[O9 a b k c];simp[Dq]
theorem BN(va vb:zV)(A B:List bT)(m:Mem)(w:zW)(hm:m.ay w)(hA:df m va A)(hB:df m vb B)(C':A.length<=1000000)(B':B.length<=1000000)(m':A.length*B.length<=1000000):
 zC 227 #[va,vb] w fun e w'=>∃r,e=.returned r/\zB w w'/\df (m.grow w w') r (fe A B):=by
 have i':=zh (R4 (l7 hA) (l7 hB));obtain⟨aa,ac,rfl,a1,a2,a3⟩:=hA;obtain⟨ba,U,rfl,b1,b2,b3⟩:=hB;unfold maxLen at a2 b2;have HO:=zh ((Own.start hm).dL 139 2);refine aj fun R hR=>?_
 go_enter func227,ntmps227
 go_wp2;refine av [1,5,11,12,13] (fun n H M=>∃(k:Nat) (J:zV),k<=A.length/\n=A.length-k/\H=[.slice ba B.length U,J,.slice aa A.length ac,.int .i64 A.length,.int .i64 k] /\
  Own w m M m [.row J 139 2 (fe (A.take k) B).length (bI (fe (A.take k) B))]) ?_ ?_
 .exact⟨_,0,.slice none 0 0,zG _,rfl,rfl,HO.o⟩
 clear HO;rintro X z n H M hX-⟨k,J,hk,rfl,rfl,hO⟩;simp[aX,lk];by_cases hlt:k<A.length
 .obtain⟨b,off,rfl,T⟩:=a3 qdX;have F:=T k hlt;have r1:=Mem_cell_w hO.ay F.1;have r2:=Mem_cell_w hO.ay F.2.1;have rl:=Mem_cell_lt hO.ay F.1;have K:=fun j=>XX A B k j A[k] hlt;have f:=fun j hj=>VP A B k j A[k] hj;have O:=XY A B k hlt;rw[<-VO A B k A[k]]at hO;have HC:=zh (zi K (zi f O));clear T F K f O;generalize A[k]=q at*
  obtain⟨E,D⟩:=q;simp only at r1 r2;have a:=zh (hO.al #[.int .i64 E,.int .i64 D] 139);obtain⟨s,p,rfl⟩:=aT hO.row;clear hO;go_wp2;generalize L:M.alloc (.cells #[.int .i64 E,.int .i64 D] 139)=w5 at*
  generalize M.heap.size=S at*
  refine av [1,5,7,11,12,13,17,18,19] (fun n H M=>∃(j:Nat) (J:zV),j<=B.length/\n=B.length-j/\H=[.slice ba B.length U,J,.pointer (some ⟨S,0,none⟩),.slice (some ⟨b,off,none⟩) A.length ac,.int .i64 A.length,.int .i64 k,.slice ba B.length U,.int .i64 B.length,.int .i64 j] /\
   Own w m M m [.obj S 139 #[.int .i64 E,.int .i64 D],.row J 139 2 (Dq A B k j (E,D)).length (bI (Dq A B k j (E,D)))]) ?_ ?_
  .exact⟨_,0,_,zG _,rfl,rfl,a.o⟩
  clear a L r1 r2 rl;rintro Y z2 n H w6 hY-⟨j,J,hj,rfl,rfl,hO⟩;simp[aX,lk];obtain⟨s,p,rfl⟩:=aT hO.au.row;by_cases hlj:j<B.length
  .obtain⟨b',I,rfl,T⟩:=b3 qeh;have F:=T j hlj;have r1:=Mem_cell_w hO.ay F.1;have r2:=Mem_cell_w hO.ay F.2.1;have rl:=Mem_cell_lt hO.ay F.1;have f:=HC.o.2.1 j hlj;have K:=HC.o.1 j;have W:=zh f;clear T F f;generalize B[j]=y at*
   obtain⟨ya,yb⟩:=y;simp only at r1 r2;generalize Dq A B k j (E,D)=N at*
   have a:=zh (hO.al #[.int .i64 ya,.int .i64 yb] 139);clear hO
   go_upto_region 8 with(fail)
   generalize L:w6.alloc (.cells #[.int .i64 ya,.int .i64 yb] 139)=w7 at*
   generalize w6.heap.size=Y0 at*
   refine aR [1,5,7,10,11,12,13,17,18,19] (fun H w'=>∃(c d:Int) (Z:Nat),c=max E ya/\d=min D yb/\H=[.slice (some ⟨b',I,none⟩) B.length U,.slice s N.length p,.pointer (some ⟨S,0,none⟩),.pointer (some ⟨Z,0,none⟩),.slice (some ⟨b,off,none⟩) A.length ac,.int .i64 A.length,.int .i64 k,.slice (some ⟨b',I,none⟩) B.length U,.int .i64 B.length,.int .i64 j] /\
    Own w m w' m [.obj Z 139 #[.int .i64 c,.int .i64 d],.obj S 139 #[.int .i64 E,.int .i64 D],.row (.slice s N.length p) 139 2 N.length (bI N)]) ?_ ?_
   .intro V hV;have q1:=a.o.obj.c 0;have q2:=a.o.obj.c 1;have q5:=a.o.obj.lt;have q6:=a.o.au.obj.c 0;have q7:=a.o.au.obj.c 1;have q8:=a.o.au.obj.lt;go_wp2
    all_goals refine hV.o _ _ rfl ⟨_,_,_,?_,?_,rfl,(a.o.tail.al #[.int .i64 _,.int .i64 _] _)⟩
    all_goals omega
   rintro z4 H w8-⟨c,d,Z,hc,hd,rfl,hO⟩;simp[aX,lk];have Q:kR (E,D) (ya,yb)=(c,d):=by unfold kR;rw[hc,hd]
   have a':=zh Q;clear Q hc hd a L;have s1:=hO.obj.c 0;have s2:=hO.obj.c 1;have s3:=hO.obj.lt;by_cases i:c<=d
   .have P:decide (c<=d)=true:=zN i;have G:=(hO.al #[.int .i64 c,.int .i64 d] 139).dZ;have v:=G.au.obj.cZ rfl;have Hxy:=zh i;clear i hO
    go_wp2_with (at_builtin;refine aG gu rfl (.tmp 39) (.tmp 41) rfl (.slice s N.length p) N.length _ rfl G.row ⟨w8.heap.size,0,none⟩ 1 1 [.int .i64 c,.int .i64 d] rfl rfl v qdZ qdY zo ?_)
    intro va vc w9 u g t;have x:=(G.app u g t zS).bL.bL.au;have C:=zh x;clear x G u g t v s1 s2 s3;go_wp2;refine hY.o _ _ _ zo rfl ⟨j+1,_,zo,rfl,rfl,?_⟩;rw[W.o,a'.o,zK (show c<=d from Hxy.o),bM,zL];exact C.o
   .have P:decide (c<=d)=false:=zM i;have C:=zh hO.tail;have Hxy:=zh i;clear i hO;go_wp2;refine hY.o _ _ _ zo rfl ⟨j+1,_,zo,rfl,rfl,?_⟩;rw[W.o,a'.o,zJ (fun h:c<=d=>absurd h qes),yR];exact C.o
  .obtain rfl:j=B.length:=zo;have x:Own w m w6 m [.row (.slice s (Dq A B k B.length (E,D)).length p) 139 2 (fe (A.take (k+1)) B).length (bI (fe (A.take (k+1)) B))]:=by
    have:=hO.tail;rw[<-HC.o.2.2];exact this
   have C:=zh x;clear hO x;go_wp2;exact hX.o _ _ _ zo rfl ⟨k+1,_,zo,rfl,rfl,C.o⟩
 .obtain rfl:k=A.length:=zo;simp only[yG]at hO⊢;have f:=eH (m:=m) (l:=fe A B) hO.row i'.o;have hfin:=bV hO.bJ.done f;have Hfin:=zh qfM;clear hO f hfin;go_wp2;exact qai
theorem UG(Z vf ui uf:zV)(I F J G:List bT)(m:Mem)(w:zW)(hm:m.ay w)(h1:bZ m Z vf I F)(h2:bZ m ui uf J G)(hI:I.length<=300)(hF:F.length<=300)(hJ:J.length<=300)(hG:G.length<=300):
 zC 198 #[.agg #[Z,vf],.agg #[ui,uf]] w fun e w'=>∃ri rf,e=.returned (.agg #[ri,rf])/\zB w w'/\bZ (m.grow w w') ri rf (nG (dz I F) (dz J G)).i (nG (dz I F) (dz J G)).rf:=by
 have hO:=(((Own.start hm).al #[Z,vf] 24).al #[ui,uf] 24).al #[.slice none 0 0,.slice none 0 0] 24;have u:(w.alloc (.cells #[Z,vf] 24)).heap.size=w.heap.size+1:=by simp
 have s:((w.alloc (.cells #[Z,vf] 24)).alloc (.cells #[ui,uf] 24)).heap.size=w.heap.size+1+1:=by simp
 rw[s,u]at hO;obtain⟨a1,c1,b1,d1,rfl,rfl⟩:=h1.eG;obtain⟨a2,c2,b2,d2,rfl,rfl⟩:=h2.eG;have HO:=zh hO;have H1:=zh (zi h1 h2);clear hO h1 h2 u s;refine aj fun R hR=>?_
 go_enter func198,ntmps198
 go_upto_region 1 with(fail)
 refine aR [4,5,6] (fun Y w'=>∃(g1 g2:Nat) (mk:Mem) (N M H D:Option Addr) (L K C B:Nat),Y=[.pointer (some ⟨w.heap.size+1+1,0,none⟩),.pointer (some ⟨g1,0,none⟩),.pointer (some ⟨g2,0,none⟩)] /\
  Own w m w' mk [.obj g2 24 #[.slice H (dz J G).i.length C,.slice D (dz J G).rf.length B],.obj g1 24 #[.slice N (dz I F).i.length L,.slice M (dz I F).rf.length K],.obj (w.heap.size+1+1) 24 #[.slice none 0 0,.slice none 0 0]] /\
  bZ mk (.slice N (dz I F).i.length L) (.slice M (dz I F).rf.length K) (dz I F).i (dz I F).rf/\bZ mk (.slice H (dz J G).i.length C) (.slice D (dz J G).rf.length B) (dz J G).i (dz J G).rf) ?_ ?_
 .intro X hX;refine bz 6 6 (fun j=>[aD.is (·=.agg #[.slice a1 I.length c1,.slice b1 F.length d1]),aD.mem m [1] (dY (dz I F).i (dz I F).rf),aD.is (·=.agg #[.slice a2 J.length c2,.slice b2 G.length d2]),aD.mem m [3] (dY (dz J G).i (dz J G).rf),aD.obj 4 24 #[.slice none 0 0,.slice none 0 0],aD.obj 5 24 #[.slice none 0 0,.slice none 0 0]].getD j aD.any) zk zk ?_ ?_
  .intro i hi o win a g ho b;have HO2:=HO.o.dr.aP b.az;have q1:=HO2.au.obj.c 0;have q2:=HO2.au.obj.c 1;have q3:=HO2.bA.obj.c 0;have q4:=HO2.bA.obj.c 1;rcases(show i=0\/i=1\/i=2\/i=3\/i=4\/i=5 by omega)with rfl|rfl|rfl|rfl|rfl|rfl
   .have e2:=b.k 2;exact qaa
   .have e7:zt a 7 _:=b.d 0 rfl;cases ho;refine we rfl rfl (l8 _ _ I F m g HO2.ay H1.o.1 zo zo) ?_;rintro e w' ⟨ri,rf,rfl,hb,hn⟩;exact qav
   .have e3:=b.k 3;exact qaa
   .have e9:zt a 9 _:=b.d 2 rfl;cases ho;refine we rfl rfl (l8 _ _ J G m g HO2.ay H1.o.2 zo zo) ?_;rintro e w' ⟨ri,rf,rfl,hb,hn⟩;exact qav
   .exact qay
   .exact qay
  .intro win a g E;have e4:=E.keep 4 zk;have e5:(aD.obj 4 24 #[.slice none 0 0,.slice none 0 0]).holds (a.tmps.getD 5 undef) win g:=E.fact 4 _ zo rfl;have e6:(aD.obj 5 24 #[.slice none 0 0,.slice none 0 0]).holds (a.tmps.getD 6 undef) win g:=E.fact 5 _ zo rfl;have e8:(aD.mem m [1] (dY (dz I F).i (dz I F).rf)).holds (a.tmps.getD 8 undef) win g:=E.fact 1 _ zo rfl;have I':(aD.mem m [3] (dY (dz J G).i (dz J G).rf)).holds (a.tmps.getD 10 undef) win g:=E.fact 3 _ zo rfl;obtain⟨N,L,M,K,f1,n⟩:dY _ _ _ _:=e8;obtain⟨H,C,D,B,f2,q⟩:dY _ _ _ _:=I';obtain⟨p1,n1,o1⟩:_/\_/\_:=e5;obtain⟨p2,n2,o2⟩:_/\_/\_:=e6;have g1:=E.ik 4 zo;have g2:=E.ik 5 zo;have j':∀j,j=4\/j=5->∀d∈[1,3],¬((win d).1<=(win j).1/\(win j).1<(win d).2):=by
    intro j hj d hd;have hd':d=1\/d=3:=by simpa using hd
    have:=E.apart j d zo zo zo;have:(win j).2=(win j).1+1:=by rcases hj with rfl|rfl<;>assumption
    omega
   have hO1:=(HO.o.dr.bL.bL).region E.az win [1,3] (fun d hd=>(E.ik d qeg).1);have no:∀j,j=4\/j=5->m.gU g win [1,3] (win j).1=none:=fun j hj=>
    Mem_wins_none qfV (j' j hj)
   have g':=(HO.o.dr.bL.bL).A9 g1.1;have f':=(HO.o.dr.bL.bL).A9 g2.1;have K':=E.apart 4 5 zo zo zo;have v':=HO.o.dr.az.size;have l:=hO1.newObj o1 zo (no 4 zo) g';have l:=l.newObj o2 zo (no 5 zo) (Ps zo f');have n:=n.le qfq;have q:=q.le qfq;have HK:=zh (zi n q);generalize m.gU g win [1,3]=mk at*
   generalize (win 4).1=q1 at*
   generalize (win 5).1=q2 at*
   have HE:=zh E;clear n q g' f' no j' hO1 K' g1 g2 o1 o2 n1 n2 v' E;have b1:=l.au.obj.frozen 0;have W:=l.au.obj.frozen 1;have b2:=l.au.obj.c 0;have V:=l.au.obj.c 1;have b3:=l.au.obj.lt;have h:=(l.au.set 0 (.slice N (dz I F).i.length L)).set 1 (.slice M (dz I F).rf.length K);refine eF 6 zk (aJ rfl rfl (cO zg ?_));clear b1 b2 b3 W V;have b1:=h.au.obj.frozen 0;have W:=h.au.obj.frozen 1;have b2:=h.au.obj.c 0;have V:=h.au.obj.c 1;have b3:=h.au.obj.lt;have y':=(h.au.set 0 (.slice H (dz J G).i.length C)).set 1 (.slice D (dz J G).rf.length B);refine eF 7 zk (aJ rfl rfl (cO zg ?_));obtain⟨t,d⟩:=a;obtain rfl:d=[]:=HE.o.defers;refine bY zk (hX.o _ _ HE.o.size ⟨q1,q2,mk,N,M,H,D,L,K,C,B,?_,y',HK.o⟩) _;simp only[yL,xB,e4,p1,p2]
   rfl
 rintro z Y w1-⟨G1,G2,mk,N,M,H,D,L,K,C,B,rfl,hO,e',d'⟩;simp[aX,lk];clear HO;have hx:=jf I F;have hy:=jf J G;have U:=jL hI hF;have T:=jL hJ hG;have A:=ZJ hx hy;have l1:=U.i;have l2:=U.f;have l3:=T.i;have l4:=T.f;rw[<-NS.tH]at l2 l4;generalize dz I F=x at*
 generalize dz J G=y at*
 have hm1:x.i.length*y.i.length<=90000:=xV l1 l3;have hm2:x.rf.length*y.rf.length<=90000:=xV l2 l4;have hc1:=wL x.i y.i;have hc2:=wL x.rf y.rf;have HO:=zh hO;have p:=zh (zi e' (zi d' A));clear hO e' d' A hx hy U T
 go_upto_region 2 with(fail)
 refine aR [4] (fun Y w'=>∃(mk':Mem) (S Q:Option Addr) (P O:Nat),Y=[.pointer (some ⟨w.heap.size+1+1,0,none⟩)] /\
  Own w m w' mk' [.obj (w.heap.size+1+1) 24 #[.slice S (nG x y).i.length P,.slice Q (nG x y).rf.length O]] /\
  bZ mk' (.slice S (nG x y).i.length P) (.slice Q (nG x y).rf.length O) (nG x y).i (nG x y).rf) ?_ ?_
 .intro X hX;refine bz 12 6 (fun j=>[aD.is (·=.pointer (some ⟨G1,0,none⟩)),aD.is (·=.slice N x.i.length L),aD.is (·=.pointer (some ⟨G2,0,none⟩)),aD.is (·=.slice H y.i.length C),aD.mem mk [4] (qZ (fe x.i y.i)),aD.is (·=.pointer (some ⟨G1,1,none⟩)),aD.is (·=.slice M x.rf.length K),aD.is (·=.pointer (some ⟨G2,1,none⟩)),aD.is (·=.slice D y.rf.length B),aD.mem mk [9] (qZ (fe x.rf y.rf)),aD.mem mk [4,9] (dY (fe x.i y.i) (fe x.rf y.rf)),aD.mem mk [11,4,9] (dY (nG x y).i (nG x y).rf)].getD j aD.any) zk zk ?_ ?_
  .intro i hi o win a g ho b;have HO2:=HO.o.dr.aP b.az;have q1:=HO2.obj.c 0;have q2:=HO2.obj.c 1;have q3:=HO2.au.obj.c 0;have q4:=HO2.au.obj.c 1;rcases(show i=0\/i=1\/i=2\/i=3\/i=4\/i=5\/i=6\/i=7\/i=8\/i=9\/i=10\/i=11 by omega)with rfl|rfl|rfl|rfl|rfl|rfl|rfl|rfl|rfl|rfl|rfl|rfl
   .have e5:=b.k 5;exact qaa
   .have e11:zt a 11 _:=b.d 0 rfl;exact qaa
   .have e6:=b.k 6;exact qaa
   .have e13:zt a 13 _:=b.d 2 rfl;exact qaa
   .have e12:zt a 12 _:=b.d 1 rfl;have e14:zt a 14 _:=b.d 3 rfl;cases ho;refine we rfl rfl (BN _ _ x.i y.i mk g HO2.ay p.o.1.i p.o.2.1.i zo zo zo) ?_;exact qaQ
   .have e5:=b.k 5;exact qaa
   .have e16:zt a 16 _:=b.d 5 rfl;exact qaa
   .have e6:=b.k 6;exact qaa
   .have e18:zt a 18 _:=b.d 7 rfl;exact qaa
   .have e17:zt a 17 _:=b.d 6 rfl;have e19:zt a 19 _:=b.d 8 rfl;cases ho;refine we rfl rfl (BN _ _ x.rf y.rf mk g HO2.ay p.o.1.f p.o.2.1.f zo zo zo) ?_;exact qaQ
   .have H':(aD.mem mk [4] (qZ (fe x.i y.i))).holds (a.tmps.getD 15 undef) win g:=b.d 4 rfl;have G':(aD.mem mk [9] (qZ (fe x.rf y.rf))).holds (a.tmps.getD 20 undef) win g:=b.d 9 rfl;cases ho;obtain⟨r1,s1,k1,t1⟩:qZ _ _ _:=H';obtain⟨r2,s2,k2,t2⟩:qZ _ _ _:=G';have f15:=(zY (xs:=a.tmps) (i:=15) (d:=undef)).symm.trans k1;have f20:=(zY (xs:=a.tmps) (i:=20) (d:=undef)).symm.trans k2;have t1:=bV (Mem_wins_le (es:=[4,9]) HO2.ay win zS) t1;have t2:=bV (Mem_wins_le (es:=[4,9]) HO2.ay win zS) t2;exact aJ rfl rfl (aN zg ⟨_,rfl,zR _ _,Oa [4,9] (R:=dY (fe x.i y.i) (fe x.rf y.rf)) win zS (fun d hd=>(b.ik d qep).2.2) ⟨r1,s1,r2,s2,rfl,t1,t2⟩⟩)
   .have F':(aD.mem mk [4,9] (dY (fe x.i y.i) (fe x.rf y.rf))).holds (a.tmps.getD 21 undef) win g:=b.d 10 rfl;cases ho;obtain⟨r1,s1,r2,s2,k1,t1⟩:dY _ _ _ _:=F';refine we rfl rfl (l8 _ _ _ _ _ g (Mem_wins_inn HO2.ay win [4,9]) t1 zo zo) ?_;rintro e w' ⟨ri,rf,rfl,hb,hn⟩;rw[p.o.2.2]at hn;exact⟨_,rfl,_,rfl,hb,jV (ds:=[4,9]) dY.le HO2.ay zS (fun d hd=>(b.ik d qep).2.2) hb (je hn)⟩
  .intro win a g E;have e4:=E.keep 4 zk;have E':(aD.mem mk [11,4,9] (dY (nG x y).i (nG x y).rf)).holds (a.tmps.getD 22 undef) win g:=E.fact 11 _ zo rfl;obtain⟨S,P,Q,O,f1,n⟩:dY _ _ _ _:=E';have hO1:=HO.o.tail.tail.dr.region E.az win [11,4,9] (fun d hd=>(E.ik d qeg).1);have HE:=zh E;generalize mk.gU g win [11,4,9]=t' at*
   have HK:=zh n;clear E n;have b1:=hO1.obj.frozen 0;have W:=hO1.obj.frozen 1;have b2:=hO1.obj.c 0;have V:=hO1.obj.c 1;have b3:=hO1.obj.lt;have h:=(hO1.set 0 (.slice S (nG x y).i.length P)).set 1 (.slice Q (nG x y).rf.length O);refine eF 12 zk (aJ rfl rfl (cO zg ?_));obtain⟨t,d⟩:=a;obtain rfl:d=[]:=HE.o.defers;refine bY zk (hX.o _ _ HE.o.size ⟨t',S,Q,P,O,?_,h,HK.o⟩) _;simp only[yL,xB,e4]
   rfl
 rintro z2 Y w2-⟨mk',S,Q,P,O,rfl,hO,hr⟩;simp[aX,lk];have g5:=hO.obj.c 0;have g6:=hO.obj.c 1;have Hk:=zh qfn;clear hO hr HO p;go_wp2;refine yV (v:=.agg #[.slice S (nG x y).i.length P,.slice Q (nG x y).rf.length O]) (by simp[results,results198,go_sem,g5,g6]) rfl ?_;exact qax
attribute [local go_sem] Oper.semAt_some
theorem u7{F:Fence}{d:Nat}{P:Program}{t e:TypeId}{size bytes:Nat}(S:gz P t e size bytes){w:zW}{ops:Array Oper}{rest:List Oper}{o:Oper}{a:Act}{Q:Exit->Act->World->Prop}(hgd:o.guard=none)(s x:Operand)
(ho:o.op=.call { callee:=.builtin .append,args:=#[s,x],argTypes:=#[t,t] })
(v:zV)(n:Nat)(xs:List Value)(hs:a.eval s=v)(hown:w.ownsRow 0 e size v n xs)
(ad:Addr)(m c:Nat)(cZ:List Value)(hx:a.eval x=.slice (some ad) m c)(hl:cZ.length=m*size)(hnews:∀j u,cZ[j]?=some u->w.cell? (ad.add j)=some u)(h1:∀u∈cZ,u.oneCell'=true)
(h63:n+m<=maxLen)(hbytes:(n+m)*bytes<=140737488355328)
(h:∀va vc w',w'.ownsRow 0 e size (.slice va (n+m) vc) (n+m) (xs++cZ)->w.grownBy w' v.ownBlock->(∀k,(Value.slice va (n+m) vc).ownBlock=some k->v.ownBlock=some k\/w.heap.size<=k)->wpListIn F d P ops Q rest (a.put o.dst (.slice va (n+m) vc)) w'):wpListIn F d P ops Q (o::rest) a w:=by
 refine wpListIn_plain hgd fun K hK=>?_;obtain⟨v',w',hr,h2,h3,h4⟩:=kU S w o.type v n xs hown ad m c cZ hl hnews h1 h63 hbytes;obtain⟨va,vc,rfl⟩:=aT h2;refine⟨?_,?_⟩
 .simp[Oper.about,ho,resolve,Target.leads,Sem.run_pure]
 .exact qbq
def XU(x:bT):Array Value:=#[.agg #[.int .i64 x.1,.int .i64 x.2]]
theorem Vq{y gl ga gp gn pf nf:Nat}{nx p:Int->Int}(hN:qD nf nx)(hP:qD pf p){w0:zW}{m mk:Mem}{B Bx:List bT->List bF->Prop}{va:zV}{L1:List bF}{W:zW}{l:List bT}{lo hi:Int}
(hY:Iy prog y XU w0 m mk (fun f x=>f++[x] <+: fZ nx p l lo hi) B Bx)(k':∀f O,¬Bx f O)(cl:mk.cell gl 0=some va)(hl:df mk va l)(ca:mk.cell ga 0=some (.int .i64 lo))(cb:mk.cell ga 1=some (.int .i64 hi))
(cp:mk.cell gp 0=some (.func (.func pf) #[] #[]))(cn:mk.cell gn 0=some (.func (.func nf) #[] #[]))(t:∀s∈l,lI s)(_:l.length<=1000000)(Z:B [] L1)(g:Own w0 m W mk L1):
 zC 260 #[.func (.yield y) #[] #[],.pointer (some ⟨ga,0,none⟩),.pointer (some ⟨gl,0,none⟩),.pointer (some ⟨gp,0,none⟩),.pointer (some ⟨gn,0,none⟩)] W
  (MG w0 m mk B Bx (fun xs=>xs=fZ nx p l lo hi) (fun _=>False)):=by
 have F:=zh (zi hY (zi k' (zi cl (zi hl (zi ca (zi cb (zi cp (zi cn t))))))));have c1:=Mem_cell_w g.ay ca;have c2:=Mem_cell_lt g.ay ca;have c3:=Mem_cell_w g.ay cl;have c4:=Mem_cell_lt g.ay cl;obtain⟨aa,ac,rfl,a1,a2,a3⟩:=hl;unfold maxLen at a2;have HO:=zh (zi g Z);refine aj fun R hR=>?_;clear g Z hY k' cl ca cb cp cn t
 go_enter func260,ntmps260
 go_wp2;refine av [0,1,3,4,6,13,14,15] (fun q vs W1=>∃(k:Nat) (a:Int) (f:List bT) (r:Mem) (O:List bF),k<=l.length/\q=l.length-k/\vs=[.func (.yield y) #[] #[],.pointer (some ⟨ga,0,none⟩),.pointer (some ⟨gp,0,none⟩),.pointer (some ⟨gn,0,none⟩),.int .i64 a,.slice aa l.length ac,.int .i64 l.length,.int .i64 k] /\
  f++fZ nx p (l.drop k) a hi=fZ nx p l lo hi/\B f O/\Own w0 m W1 r O/\mk.le r) ?_ ?_
 .exact⟨_,0,lo,[],mk,L1,zG _,rfl,rfl,rfl,HO.o.2,HO.o.1,Mem.le_refl _⟩
 clear HO c1 c2 c3 c4;rintro X z q vs W1 hX-⟨k,a,f,r,O,hk,rfl,rfl,U,Z,g,i⟩;simp[aX,lk];have c1:=Mem_cell_w g.ay (Mem_cell_le i F.o.2.2.2.2.1);have c2:=Mem_cell_lt g.ay (Mem_cell_le i F.o.2.2.2.2.1);by_cases hlt:k<l.length
 .obtain⟨b,off,rfl,h4⟩:=a3 qdX;have K:=h4 k hlt;have t:=Mem_inn_le i g.ay;have r1:=Mem_cell_w t K.1;have r2:=Mem_cell_w t K.2.1;have rl:=Mem_cell_lt t K.1;have c5:=Mem_cell_w g.ay (Mem_cell_le i F.o.2.2.2.2.2.2.1);have c6:=Mem_cell_lt g.ay (Mem_cell_le i F.o.2.2.2.2.2.2.1);have g':=F.o.2.2.2.2.2.2.2.2 l[k] (zF hlt);have f':=Rq nx p l k hlt a hi;rw[f']at U;have j:=zh (zi U (zi Z i));clear U Z f' h4 K t;generalize l[k]=s at*
  obtain⟨u,P⟩:=s;simp only at r1 r2;unfold lI at g';simp only at g';have hcp:=fun w'=>hP.ent.o u w';have hcn:=fun w'=>hN.ent.o P w';have E:=zh (g.al #[.int .i64 u,.int .i64 P] 139);clear g
  go_wp2_with fail
  refine(hP.run u _ zo zo).mono ?_;rintro e w2 ⟨rfl,i'⟩;generalize u':W1.alloc (.cells #[.int .i64 u,.int .i64 P] 139)=w5 at*
  generalize W1.heap.size=S at*
  have C:=E.o.aP i';have s1:=C.obj.c 0;have s2:=C.obj.c 1;have s3:=C.obj.lt;have D':=zh C;have d:=zh (C.al #[.int .i64 a,.int .i64 (p u)] 139);clear E u' i' c5 c6 r1 r2 rl C
  go_upto_region 5 with(fail)
  generalize j':w2.alloc (.cells #[.int .i64 a,.int .i64 (p u)] 139)=w6 at*
  generalize w2.heap.size=G at*
  refine aR [0,1,3,4,6,8,13,14,15,35] (fun vs w'=>∃(J:Mem) (N:List bF),vs=[.func (.yield y) #[] #[],.pointer (some ⟨ga,0,none⟩),.pointer (some ⟨gp,0,none⟩),.pointer (some ⟨gn,0,none⟩),.int .i64 a,.pointer (some ⟨S,0,none⟩),.slice (some ⟨b,off,none⟩) l.length ac,.int .i64 l.length,.int .i64 k,.bool false] /\
   B (f++if a<=p u then[(a,p u)]else[]) N/\Own w0 m w' J (.obj S 139 #[.int .i64 u,.int .i64 P]::N)/\mk.le J) ?_ ?_
  .intro V hV;have d1:=d.o.obj.c 0;have d2:=d.o.obj.c 1;have d3:=d.o.obj.lt;by_cases A:a<=p u
   .have H:decide (a<=p u)=true:=zN A;obtain⟨fn,e',M,n',hy,Y⟩:=F.o.1 f (a,p u) w6 r O [.obj S 139 #[.int .i64 u,.int .i64 P]] ⟨fZ nx p (l.drop (k+1)) (nx P) hi,by rw[<-j.o.1,zK A,xD]⟩ j.o.2.1 (d.o.tail.perm (List.perm_append_singleton _ _)) j.o.2.2;simp only[XU]at hy;have T:=zh A;clear A;refine(wpIn_wide (n:=0)).1 ?_
    gi_wp2
    refine⟨rfl,Y.mono ?_⟩;rintro e W' (⟨rfl,mk',I,L,Q,h3⟩|⟨rfl,mk',I,L,Q,h3⟩)
    .have Hk:=zh (zi L (zi (Q.perm (List.perm_append_singleton _ _).symm) h3));clear L Q h3 d1 d2 d3
     gi_wp2
     refine hV.o _ _ rfl ⟨mk',I,rfl,?_,Hk.o.2.1,Mem.le_trans j.o.2.2 Hk.o.2.2⟩;rw[zK T.o];exact Hk.o.1
    .exact absurd L (F.o.2.1 _ _)
   .have H:decide (a<=p u)=false:=zM A;have T:=zh A;clear A;go_wp2;refine hV.o _ _ rfl ⟨r,O,rfl,?_,d.o.tail,j.o.2.2⟩;rw[zJ (fun h=>absurd h (by have:=T.o;omega)),yR];exact j.o.2.1
  rintro z4 vs w7-⟨J,N,rfl,l',D,w⟩;simp[aX,lk];have c5:=Mem_cell_w D.ay (Mem_cell_le w F.o.2.2.2.2.2.2.2.1);have c6:=Mem_cell_lt D.ay (Mem_cell_le w F.o.2.2.2.2.2.2.2.1);have s2:=D.obj.c 1;have s3:=D.obj.lt;have E:=zh (zi D (zi l' w));clear D l' w d D' j' s1
  go_wp2_with fail
  refine(hN.run P _ zo zo).mono ?_;rintro e w8 ⟨rfl,h'⟩;have C':=zh (E.o.1.aP h').tail;clear h' c5 c6 s2 s3;go_wp2;refine hX.o _ _ _ zo rfl ⟨k+1,nx P,_,J,N,zo,rfl,rfl,?_,E.o.2.1,C'.o,E.o.2.2⟩;rw[xD];exact j.o.1
 .obtain rfl:k=l.length:=zo;rw[zQ (zI _)]at U;simp only[fZ]at U;have c3:=Mem_cell_w g.ay (Mem_cell_le i F.o.2.2.2.2.2.1);have j:=zh (zi U (zi Z i));have HO:=zh g;have d:=zh (g.al #[.int .i64 a,.int .i64 hi] 139);clear U Z g;by_cases A:a<=hi
  .have H:decide (a<=hi)=true:=zN A;have T:=zh A;clear A
   go_upto_region 10 with(fail)
   generalize j':W1.alloc (.cells #[.int .i64 a,.int .i64 hi] 139)=w6 at*
   generalize W1.heap.size=G at*
   obtain⟨fn,e',M,n',hy,Y⟩:=F.o.1 f (a,hi) w6 r O [] ⟨[],by rw[<-j.o.1,zK T.o,yR]⟩ j.o.2.1 (by rw[yR];exact d.o.tail) j.o.2.2;simp only[XU]at hy;have d1:=d.o.obj.c 0;have d2:=d.o.obj.c 1;have d3:=d.o.obj.lt;refine(wpIn_wide (n:=0)).1 ?_
   gi_wp2
   refine⟨rfl,Y.mono ?_⟩;rintro e W' (⟨rfl,mk',I,L,Q,h3⟩|⟨rfl,mk',I,L,Q,h3⟩)
   .rw[yR]at Q;have Hk:=zh (zi L (zi Q h3));clear L Q h3 d1 d2 d3
    gi_wp2
    refine yV (v:=.tuple #[]) qe3 rfl ?_;refine hR.o _ _ ⟨⟨_,rfl⟩,.inl ⟨_,mk',I,?_,Hk.o.1,Hk.o.2.1,Mem.le_trans j.o.2.2 Hk.o.2.2⟩⟩;rw[<-j.o.1,zK T.o]
   .exact absurd L (F.o.2.1 _ _)
  .have H:decide (a<=hi)=false:=zM A;have T:=zh A;clear A;go_wp2;refine yV (v:=.tuple #[]) qe3 rfl ?_;refine hR.o _ _ ⟨⟨_,rfl⟩,.inl ⟨f,r,O,?_,j.o.2.1,d.o.tail,j.o.2.2⟩⟩;rw[<-j.o.1,zJ (fun h=>absurd h (by have:=T.o;omega)),yR]
theorem Zn(a:Option Addr)(n c:Nat)(lo hi:Int)(b d:Nat)(w:zW):
 zC 230 #[.slice a n c,.agg #[.int .i64 lo,.int .i64 hi],.func (.func d) #[] #[],.func (.func b) #[] #[]] w fun e w'=>
  e=.returned (.func (.func 260) #[] #[.pointer (some ⟨w.heap.size+1,0,none⟩),.pointer (some ⟨w.heap.size,0,none⟩),.pointer (some ⟨w.heap.size+1+1+1,0,none⟩),.pointer (some ⟨w.heap.size+1+1,0,none⟩)]) /\
  w'=(((w.alloc (.cells #[.slice a n c] 22)).alloc (.cells #[.int .i64 lo,.int .i64 hi] 139)).alloc (.cells #[.func (.func d) #[] #[]] 170)).alloc (.cells #[.func (.func b) #[] #[]] 170):=by
 refine aj fun R hR=>?_
 go_enter func230,ntmps230
 exact qdv
theorem Mh:∀args w,(callFunc 260 args).run prog w=.ok (.enter 260 args) w:=enters_of func260 zk rfl
theorem xu(nx a:Int->Int):∀(l:List bT) (lo hi:Int),(fZ nx a l lo hi).length<=l.length+1
 |[],lo,hi=>by unfold fZ;split<;>simp
 |s::r,lo,hi=>by
  have:=xu nx a r (nx s.2) hi;unfold fZ
  split<;>simp<;>omega
theorem IQ{gl ga gp gn pf nf:Nat}{nx pv:Int->Int}(hN:qD nf nx)(hP:qD pf pv){m:Mem}{w:zW}{va:zV}{l:List bT}{lo hi:Int}(hm:m.ay w)
(cl:m.cell gl 0=some va)(hl:df m va l)(ca:m.cell ga 0=some (.int .i64 lo))(cb:m.cell ga 1=some (.int .i64 hi))
(cp:m.cell gp 0=some (.func (.func pf) #[] #[]))(cn:m.cell gn 0=some (.func (.func nf) #[] #[]))(hin:∀s∈l,lI s)(hlen:l.length<=1000000)(hok:∀s∈fZ nx pv l lo hi,kM s):
 Calls prog 259 #[.slice none 0 0,.func (.func 260) #[] #[.pointer (some ⟨ga,0,none⟩),.pointer (some ⟨gl,0,none⟩),.pointer (some ⟨gp,0,none⟩),.pointer (some ⟨gn,0,none⟩)]] w fun e w'=>
  ∃r,e=.returned r/\Below w.heap.size w w'/\df (m.grow w w') r (fZ nx pv l lo hi):=by
 have hO:=((Own.start hm).al #[.slice none 0 0] 22).dL 139 2;have hgl:=xu nx pv l lo hi;have HS:=zh (zi hO (zi cl (zi hl (zi ca (zi cb (zi cp (zi cn (zi hin hok))))))));clear hO cl hl ca cb cp cn hin hok;generalize hG:w.heap.size=g at*
 refine aj fun R hR=>?_;refine(callsIn_wide (n:=0)).1 ?_;refine callsIn_of_wp_marks func259 rfl trivial ?_;simp only[ntmps259,List.size_toArray,yO,List.length_nil,Nat.reduceAdd,Nat.reduceSub,Array.replicate_succ,Array.replicate_zero,List.push_toArray,List.append_toArray,xN,xK];refine wpIn_wide.2 ?_;go_wp2;refine(wpIn_wide (n:=0)).1 ?_;refine KJ (gf:=260) (lb:=#[.pointer (some ⟨ga,0,none⟩),.pointer (some ⟨gl,0,none⟩),.pointer (some ⟨gp,0,none⟩),.pointer (some ⟨gn,0,none⟩)]) rfl Mh (encs:=XU) (fun _=>rfl) HS.o.1
  (fun pre L=>∃v,L=[.row v 139 2 pre.length (bI pre),.obj g 22 #[v]]) (fun _ _ _=>False) (fun xs=>xs=fZ nx pv l lo hi) (fun _=>False) (fun pre x=>pre++[x] <+: fZ nx pv l lo hi) ⟨_,rfl⟩ ?seq
  (fun pre x a1 L=>∃(S:Nat) (v:zV),a1={ tmps:=#[.slice none 0 0,.func (.func 260) #[] #[.pointer (some ⟨ga,0,none⟩),.pointer (some ⟨gl,0,none⟩),.pointer (some ⟨gp,0,none⟩),.pointer (some ⟨gn,0,none⟩)],.pointer (some ⟨g,0,none⟩),undef,.slice none 0 0,.pointer (some ⟨S,0,none⟩),.func (.func 260) #[] #[.pointer (some ⟨ga,0,none⟩),.pointer (some ⟨gl,0,none⟩),.pointer (some ⟨gp,0,none⟩),.pointer (some ⟨gn,0,none⟩)],.agg #[.int .i64 x.1,.int .i64 x.2],undef,undef,undef,undef,undef],defers:=[] } /\
   L=[.obj S 139 #[.int .i64 x.1,.int .i64 x.2],.row v 139 2 pre.length (bI pre),.obj g 22 #[v]]) ?assign ?body ?done ?stop
 case seq=>
  intro y W1 L1 B Bx hB hBI hBx hOw hY;exact Vq hN hP hY (fun pre Lt h=>(hBx pre Lt h).elim fun c h=>h.elim fun L h=>h) HS.o.2.1 HS.o.2.2.1 HS.o.2.2.2.1 HS.o.2.2.2.2.1 HS.o.2.2.2.2.2.1 HS.o.2.2.2.2.2.2.1 HS.o.2.2.2.2.2.2.2.1 hlen hB hOw
 case assign=>
  rintro y pre x W mk1 Lt Lr K-⟨v,rfl⟩ hOw hle hK;have hO2:=hOw.al #[.int .i64 x.1,.int .i64 x.2] 139;have HK:=zh (hK _ _ _ ⟨_,v,rfl,rfl⟩ hO2);clear hK hO2 hOw;simp only[XU]
  gi_wp2
  exact HK.o
 case body=>
  rintro y pre x a1 W mk1 Lt Lr hC ⟨S,v,rfl,rfl⟩ hOw hle;simp only[xK,xN]at hOw;obtain⟨xa,xc,rfl⟩:=aT hOw.au.row;have hpl:pre.length+1<=1000001:=by
   have h1:=hC.length_le;rw[zL,List.length_singleton]at h1;omega
  have o1:=hOw.bA.obj.c 0;have o2:=hOw.bA.obj.lt;have o3:=hOw.bA.obj.frozen 0;have s1:=hOw.obj.c 0;have s2:=hOw.obj.c 1;have s3:=hOw.obj.lt;have hO2:=(hOw.tail.al #[.int .i64 x.1,.int .i64 x.2] 139).au;have hnews:=hO2.au.obj.cZ rfl;clear hOw hC
  gi_wp2_with (gi_at_builtin;refine u7 gu rfl (.tmp 8) (.tmp 10) rfl (.slice xa pre.length xc) pre.length (bI pre) rfl hO2.row ⟨W.heap.size,0,none⟩ 1 1 [.int .i64 x.1,.int .i64 x.2] rfl rfl hnews qdZ qdY zo ?_)
  intro ya yc w5 hown5 hgrow5 hrow5;have hO3:=(hO2.app hown5 hgrow5 hrow5 zS).bL;have t1:=hO3.au.obj.c 0;have t2:=hO3.au.obj.lt;have t3:=hO3.au.obj.frozen 0;have hO4:=(hO3.au.set 0 (.slice ya (pre.length+1) yc)).au;have HO4:=zh hO4;clear hO4 hO3 hO2 hown5 hgrow5 hrow5 hnews o1 o2 o3 s1 s2 s3
  gi_wp2
  unfold Ct;refine⟨mk1,_,⟨.slice ya (pre.length+1) yc,rfl⟩,?_,Mem.le_refl _⟩;rw[zL,bM];exact HO4.o
 case done=>
  rintro D xs W mk1 L rfl ⟨v,rfl⟩ hOw hle;obtain⟨xa,xc,rfl⟩:=aT hOw.au.row;have o1:=hOw.bA.obj.c 0;have o2:=hOw.bA.obj.lt;have hbl:=hOw.gQ;have hO2:=hOw.au;have hst:=eH (m:=mk1) (l:=fZ nx pv l lo hi) hO2.row HS.o.2.2.2.2.2.2.2.2;have hO3:=hO2.bJ;have hO4:=hO3.jP (o':=.deferred none) (World.putObj_heap_same (yC.1 hbl).1) (grownBy_putObj' _ _ _);have hfin2:=bV hO4.done hst;have Hk:=zh (zi hO4.az hfin2);clear hO4 hO3 hO2 hOw hst hfin2
  gi_wp2
  go_wp2;refine⟨zS,.inl ⟨_,_,rfl,run_takeDeferred hbl,?_⟩⟩;exact⟨.slice xa (fZ nx pv l lo hi).length xc,by simp[results,results259,go_sem],hR.o _ _ ⟨_,rfl,by rw[<-hG];exact Hk.o.1,Hk.o.2⟩⟩
 case stop=>rintro D c xs W mk1 L h;exact h.elim
theorem gM.inI{x:NS}(h:gM x):∀s∈x.i,lI s:=fun s a=>by
 have b:=h.bi s a;have c:=h.ni.ok s a;unfold lI;simp only[il]at b;omega
theorem gM.inF{x:NS}(h:gM x):∀s∈x.rf,lI s:=fun s a=>by
 obtain⟨t,ht,rfl⟩:=Xm a;have b:=h.bf t ht;have e:=h.nf.ok t ht;have d:(fG t).1=bU t.1:=rfl;have c:(fG t).2=bU t.2:=rfl;unfold lI;rw[d,c];unfold bU;simp only[mq,qh]at b;omega
theorem kz{m:Mem}{w w':zW}{g i:Nat}{v:zV}(a:w.heap.size<=g)(h:w'.cell? ⟨g,i,none⟩=some v):(m.grow w w').cell g i=some v:=by
 have e:m.grow w w' g=w'.heap[g]?:=by unfold Mem.grow;rw[zJ zo]
 unfold Mem.cell;rw[e];unfold World.cell? at h;simp only at h;exact h
def Dy(f e:Nat)(l:List bT)(lo hi:Int)(M:Mem)(v:zV):Prop:=∃(a d b c:Nat) (va:zV),v=.func (.func 260) #[] #[.pointer (some ⟨a,0,none⟩),.pointer (some ⟨d,0,none⟩),.pointer (some ⟨b,0,none⟩),.pointer (some ⟨c,0,none⟩)] /\
 M.cell d 0=some va/\df M va l/\M.cell a 0=some (.int .i64 lo)/\M.cell a 1=some (.int .i64 hi)/\M.cell b 0=some (.func (.func e) #[] #[])/\M.cell c 0=some (.func (.func f) #[] #[])
theorem Dy.le{b a:Nat}{l:List bT}{lo hi:Int}{m m':Mem}(h:m.le m'){v:zV}(k:Dy b a l lo hi m v):Dy b a l lo hi m' v:=by
 obtain⟨q,p,n,o,va,e,j,i,g,f,d,c⟩:=k;exact⟨q,p,n,o,va,e,Mem_cell_le h j,bV h i,Mem_cell_le h g,Mem_cell_le h f,Mem_cell_le h d,Mem_cell_le h c⟩
theorem OM(va:zV)(l:List bT)(lo hi:Int)(f d:Nat)(m:Mem)(w:zW)(g:m.ay w)(h:df m va l):
 zC 230 #[va,.agg #[.int .i64 lo,.int .i64 hi],.func (.func d) #[] #[],.func (.func f) #[] #[]] w fun e w'=>∃v,e=.returned v/\zB w w'/\Dy d f l lo hi (m.grow w w') v:=by
 obtain⟨a,c,rfl⟩:=dR h;refine(Zn a l.length c lo hi f d w).mono ?_;rintro e w' ⟨rfl,rfl⟩;have b:=((((Own.start g).al #[.slice a l.length c] 22).al #[.int .i64 lo,.int .i64 hi] 139).al #[.func (.func d) #[] #[]] 170).al #[.func (.func f) #[] #[]] 170;have k:(w.alloc (.cells #[.slice a l.length c] 22)).heap.size=w.heap.size+1:=by simp
 have j:((w.alloc (.cells #[.slice a l.length c] 22)).alloc (.cells #[.int .i64 lo,.int .i64 hi] 139)).heap.size=w.heap.size+1+1:=by simp
 have i:(((w.alloc (.cells #[.slice a l.length c] 22)).alloc (.cells #[.int .i64 lo,.int .i64 hi] 139)).alloc (.cells #[.func (.func d) #[] #[]] 170)).heap.size=w.heap.size+1+1+1:=by simp
 rw[i,j,k]at b;refine⟨_,rfl,b.az,_,_,_,_,_,rfl,kz (zI _) (b.dZ.obj.c 0),bV (Mem_le_grow g) h,kz zo (b.bA.obj.c 0),kz zo (b.bA.obj.c 1),
  kz zo (b.obj.c 0),kz zo (b.au.obj.c 0)⟩
theorem Ew{j i:Nat}{nx d:Int->Int}(E:qD j nx)(D:qD i d){v:zV}{l:List bT}{lo hi:Int}(m:Mem)(w:zW)(A:m.ay w)(B:Dy j i l lo hi m v)(h:∀s∈l,lI s)(b:l.length<=1000000)(g:∀s∈fZ nx d l lo hi,kM s):
 zC 229 #[v] w fun e w'=>∃r,e=.returned r/\zB w w'/\df (m.grow w w') r (fZ nx d l lo hi):=by
 obtain⟨I,H,F,G,va,rfl,x,u,t,q,p,n⟩:=B;have z:=zh (IQ E D A x u t q p n h b g);clear x u t q p n;refine aj fun R C=>?_
 go_enter func229,ntmps229
 go_wp2_with fail
 refine z.o.mono ?_;rintro e w' ⟨r,rfl,k,f⟩;have y:=zh (zi k f);obtain⟨a,c,rfl⟩:=dR f;clear k f z;go_wp2;exact C.o _ _ ⟨_,rfl,y.o.1,y.o.2⟩
theorem NL{m:Mem}{g:Nat}{lo hi:Int}(d:m.cell g 0=some (.int .i64 lo))(c:m.cell g 1=some (.int .i64 hi))(b:kM (lo,hi)):df m (.slice (some ⟨g,0,none⟩) 1 1) [(lo,hi)]:=by
 refine⟨some ⟨g,0,none⟩,1,rfl,zI _,by simp[maxLen],fun _=>⟨g,0,rfl,fun i a=>?_⟩⟩;have:i=0:=by simpa using a
 subst this;exact⟨d,c,b⟩
def vz:List bT:=[(-100000000000,100000000000)]
def azt:List bT:=[(-999999999999999,999999999999999)]
theorem QM(m:Mem)(w:zW)(g:m.ay w):
 zC 258 #[] w fun e w'=>∃d,e=.returned (.agg #[d,.slice none 0 0])/\zB w w'/\df (m.grow w w') d vz:=by
 have a:=((Own.start g).al #[.slice (some ⟨w.heap.size+1,0,none⟩) 1 1,.slice none 0 0] 24).al #[.int .i64 (-100000000000),.int .i64 100000000000] 139;have f:(w.alloc (.cells #[.slice (some ⟨w.heap.size+1,0,none⟩) 1 1,.slice none 0 0] 24)).heap.size=w.heap.size+1:=by simp
 rw[f]at a;have b:=zh a;have j:=a.au.obj.c 0;have i:=a.au.obj.c 1;clear a f;refine aj fun R h=>?_
 go_enter func258,ntmps258
 go_wp2;refine yV (v:=.agg #[.slice (some ⟨w.heap.size+1,0,none⟩) 1 1,.slice none 0 0]) (by simp[results,results258,go_sem]) rfl ?_;exact h.o _ _ ⟨_,rfl,b.o.az,NL (kz zo (b.o.obj.c 0)) (kz zo (b.o.obj.c 1)) (by unfold kM;omega)⟩
theorem UH(m:Mem)(w:zW)(q:m.ay w):
 zC 228 #[] w fun e w'=>∃h rf,e=.returned (.agg #[h,rf])/\zB w w'/\bZ (m.grow w w') h rf vz azt:=by
 have i:=(Own.start q).al #[.slice none 0 0,.slice none 0 0] 24;have l:=zh (QM m _ i.ay);have j:=zh i;clear i;refine aj fun R hR=>?_
 go_enter func228,ntmps228
 go_wp2_with fail
 refine l.o.mono ?_;rintro e d ⟨h,rfl,g,f⟩;have b:=j.o.call g;obtain⟨a,c,rfl⟩:=dR f;have hO4:=((((b.set 0 (.slice a vz.length c)).set 1 (.slice (some ⟨d.heap.size+1,0,none⟩) 1 1)).al #[.slice a vz.length c,.slice (some ⟨d.heap.size+1,0,none⟩) 1 1] 24).al #[.int .i64 (-999999999999999),.int .i64 999999999999999] 139);have k:(((d.setCell ⟨w.heap.size,0,none⟩ (.slice a vz.length c)).setCell ⟨w.heap.size,1,none⟩ (.slice (some ⟨d.heap.size+1,0,none⟩) 1 1)).alloc (.cells #[.slice a vz.length c,.slice (some ⟨d.heap.size+1,0,none⟩) 1 1] 24)).heap.size=d.heap.size+1:=by simp
 simp only[mV]at hO4 k;rw[k]at hO4;have n:=j.o.obj.lt;have p:=g.size;have A:=b.obj.c 0;have z:=b.obj.c 1;have y:=b.obj.frozen 0;have x:=b.obj.frozen 1;have u:=b.obj.lt;have t:=hO4.bA.obj.c 0;have s:=hO4.bA.obj.c 1;have r:=j.o.az.size;have hfin:bZ (m.grow w _) _ _ vz azt:=⟨bV hO4.done f,NL (kz zo (hO4.obj.c 0)) (kz zo (hO4.obj.c 1)) (by unfold kM;omega)⟩;have Hk:=zh qfU;clear b hO4 hfin f g l;go_wp2;refine yV (v:=.agg #[.slice a vz.length c,.slice (some ⟨d.heap.size+1,0,none⟩) 1 1]) (by simp[results,results228,go_sem,t,s]) rfl ?_;exact qax
def Gb(r:Option Int):Prop:=∀u,r=some u -> -1000000000000002<=u/\u<=1000000000000002
theorem AO{r:Option Int}{u:Int}(h:Gb r)(d : -1000000000000002<=u)(c:u<=1000000000000002):Gb (d9 [u] r):=by
 intro v a
 cases r with
 |none=>simp only[d9]at a;cases a;exact⟨d,c⟩
 |some b=>
  simp only[d9]at a
  split at a
  .cases a;exact⟨d,c⟩
  .exact h v a
theorem Tf{s:bT}(h:lI s){mid:Int}(b : -2<=mid)(a:mid<=2): -1000000000000002<=dP s mid/\dP s mid<=1000000000000002:=by
 unfold lI at h;unfold dP
 split
 .omega
 .split<;>omega
theorem Gf(u:Int)(gf d:Nat)(r:Option Int){w0 w:zW}{m mk:Mem}{L:List bF}(a:Own w0 m w mk (.obj d 2 #[.int .i64 (r.getD 0)]::.obj gf 4 #[.bool r.isSome]::L))
(s : -1000000000000002<=u)(q:u<=1000000000000002)(p:Gb r):
 zC 137 #[.int .i64 u,.pointer (some ⟨gf,0,none⟩),.pointer (some ⟨d,0,none⟩)] w fun e w'=>e=.returned (.tuple #[]) /\
  Own w0 m w' mk (.obj d 2 #[.int .i64 ((d9 [u] r).getD 0)]::.obj gf 4 #[.bool (d9 [u] r).isSome]::L):=by
 have g:=a.obj.c 0;have f:=a.au.obj.c 0;have n:=a.obj.lt;have l:=a.au.obj.lt;have x:=a.obj.frozen 0;have t:=a.au.obj.frozen 0;have h:d≠gf:=fun e=>(yS.1 a.apart).1 _ (yF ..) d rfl qew;have j:gf≠d:=fun e=>h e.symm
 cases r with
 |none=>
  have HO:=zh ((a.set 0 (.int .i64 u)).au.set 0 (.bool true)).au;clear a;refine aj fun R hR=>?_;simp only[Option.getD_none,Option.isSome_none]at g f
  go_enter func137,ntmps137
  go_wp2;refine yV (v:=.tuple #[]) (by simp[results,results137,go_sem]) rfl ?_
  exact hR.o _ _ ⟨rfl,HO.o⟩
 |some b=>
  have k:=p b rfl;simp only[xA,Option.isSome_some]at g f;have HN:=zh (BL u b w s q k.1 k.2);have HO:=zh a;clear a g f n l x t;have g:=HO.o.obj.c 0;have f:=HO.o.au.obj.c 0;have n:=HO.o.obj.lt;have l:=HO.o.au.obj.lt;simp only[xA,Option.isSome_some]at g f;refine aj fun R hR=>?_
  go_enter func137,ntmps137
  go_wp2_with fail
  refine HN.o.mono ?_;rintro e y ⟨rfl,i⟩;have hO1:=HO.o.aP i;have E:=hO1.obj.c 0;have D:=hO1.au.obj.c 0;have C:=hO1.obj.lt;have B:=hO1.au.obj.lt;have A:=hO1.obj.frozen 0;have z:=hO1.au.obj.frozen 0;by_cases hn:iB u b
  .rw[zN hn];have HO1:=zh ((hO1.set 0 (.int .i64 u)).au.set 0 (.bool true)).au;have HB:=zh (show d9 [u] (some b)=some u from by simp[d9,hn]);exact qbC
  .rw[zM hn];have HO1:=zh hO1;have HB:=zh (show d9 [u] (some b)=some b from by simp[d9,hn]);exact qbC
theorem wm(vi vf:zV)(I F:List bT)(m:Mem)(w:zW)(hm:m.ay w)(h1:bZ m vi vf I F)(hI:I.length<=30000)(hF:F.length<=30000):
 zX 93 #[.agg #[vi,vf]] w (.tuple #[.int .i64 ((dm (dz I F)).getD 0),.bool (dm (dz I F)).isSome]):=by
 have a:=(Own.start hm).al #[vi,vf] 24;have HM:=zh (l8 _ _ I F m _ a.ay h1 zo zo);obtain⟨a1,c1,b1,d1,rfl,rfl⟩:=h1.eG;have K:=jL hI hF;have G:=jf I F;have l1:=K.i;have l2:=K.f;rw[<-NS.tH]at l2;have HX:=zh (zi G.inI (zi G.inF (fun s hs=>G.bi s hs)));have HO:=zh a;clear a h1 K G;generalize dz I F=x at*
 refine aj fun R hR=>?_
 go_enter func93,ntmps93
 go_wp2_with fail
 refine HM.o.mono ?_;rintro e T ⟨ri,rf,rfl,g',L⟩;have i':=HO.o.call g';obtain⟨Q,P,O,N,rfl,rfl⟩:=L.eG;have g:=((i'.al #[.slice Q x.i.length P,.slice O x.rf.length N] 24).al #[.int .i64 0] 2).al #[.bool false] 4;have V:(T.alloc (.cells #[.slice Q x.i.length P,.slice O x.rf.length N] 24)).heap.size=T.heap.size+1:=by simp
 have e2:((T.alloc (.cells #[.slice Q x.i.length P,.slice O x.rf.length N] 24)).alloc (.cells #[.int .i64 0] 2)).heap.size=T.heap.size+1+1:=by simp
 rw[e2,V]at g;generalize m.grow (w.alloc (.cells #[.slice a1 I.length c1,.slice b1 F.length d1] 24)) T=mk at*
 have HK:=zh (zi g.au.azu L);clear i' g L g' HM HO V e2;go_wp2;generalize T.heap.size=S at*
 refine av [4,5,6,7,16,17,18] (fun n Z W=>∃(k:Nat) (r:Option Int),k<=x.i.length/\n=x.i.length-k/\Z=[.pointer (some ⟨S,0,none⟩),.pointer (some ⟨S+1,0,none⟩),.pointer (some ⟨S+1+1,0,none⟩),.func (.func 137) #[] #[.pointer (some ⟨S+1+1,0,none⟩),.pointer (some ⟨S+1,0,none⟩)],.slice Q x.i.length P,.int .i64 x.i.length,.int .i64 k] /\
  r=d9 ((x.i.take k).map (fun s=>dP s 0*10000)) none/\Gb r/\Own w m W mk [.obj (S+1) 2 #[.int .i64 (r.getD 0)],.obj (S+1+1) 4 #[.bool r.isSome],.obj S 24 #[.slice Q x.i.length P,.slice O x.rf.length N]]) ?_ ?_
 .exact⟨_,0,none,zG _,rfl,rfl,rfl,(fun u h=>by cases h),HK.o.1⟩
 rintro X z n Z W hX-⟨k,r,hk,rfl,rfl,H,j,a⟩;simp[aX,lk];by_cases hlt:k<x.i.length
 .have l:=HK.o.2.i;obtain⟨ad,cc,e,q1,q2,U⟩:=l;injection e with V e2 e3;subst V;obtain⟨b,off,rfl,h4⟩:=U qdX;have J:=h4 k hlt;have r1:=Mem_cell_w a.ay J.1;have r2:=Mem_cell_w a.ay J.2.1;have rl:=Mem_cell_lt a.ay J.1;have p:=HX.o.1 x.i[k] (zF hlt);have d:d9 ((x.i.take (k+1)).map (fun s=>dP s 0*10000)) none=d9 [dP x.i[k] 0*10000] r:=by
   rw[zH hlt,yI,nT,<-H]
   rfl
  have f':=HX.o.2.2 x.i[k] (zF hlt);simp only[il]at f';have M:=zh (zi d j);clear d h4 J q1 q2 U e3 H j;generalize x.i[k]=q at*
  obtain⟨v,t⟩:=q;simp only at r1 r2 f';have g:=a.al #[.int .i64 v,.int .i64 t] 139;have D:=zh g;have HQ:=zh (fun w'=>zw (v,t) 0 w');have q':=Tf p (mid:=0) zo zo;have v' : -100000000000<=dP (v,t) 0/\dP (v,t) 0<=100000000000:=by
   unfold lI at p;simp only at p;have e:dP (v,t) 0=if v > 0 then v else if t<0 then t else 0:=rfl;rw[e]
   split
   .omega
   .split<;>omega
  clear a g p
  go_wp2_with fail
  refine(HQ.o _).mono ?_;rintro e w3 ⟨rfl,y⟩;have B:=(D.o.aP y).tail;generalize hV:dP (v,t) 0=nv at*
  have HT:=zh (Gf (nv*10000) (S+1+1) (S+1) r B zo zo M.o.2);have E:=zh (AO (u:=nv*10000) M.o.2 zo zo);clear B D y r1 r2 rl HQ
  go_wp2_with fail
  refine HT.o.mono ?_;rintro e w4 ⟨rfl,A⟩;have C:=zh A;clear A HT;go_wp2;refine hX.o _ _ _ zo rfl ⟨k+1,_,zo,rfl,rfl,M.o.1.symm,?_,?_⟩
  .first
    |exact E.o
    |(rw[hV];exact E.o)
  .first
    |exact C.o
    |(rw[hV];exact C.o)
 .obtain rfl:k=x.i.length:=zo;rw[yG]at H;subst H;have q1:=a.bA.obj.c 1;have q2:=a.bA.obj.lt;have HR:=zh (zi a (zi j True.intro));clear a j hX;go_wp2;refine av [4,5,6,7,29,30,31] (fun n Z W=>∃(k:Nat) (r:Option Int),k<=x.rf.length/\n=x.rf.length-k/\Z=[.pointer (some ⟨S,0,none⟩),.pointer (some ⟨S+1,0,none⟩),.pointer (some ⟨S+1+1,0,none⟩),.func (.func 137) #[] #[.pointer (some ⟨S+1+1,0,none⟩),.pointer (some ⟨S+1,0,none⟩)],.slice O x.rf.length N,.int .i64 x.rf.length,.int .i64 k] /\
   r=d9 ((x.rf.take k).map (fun s=>dP s 1)) (d9 (x.i.map (fun s=>dP s 0*10000)) none)/\Gb r/\Own w m W mk [.obj (S+1) 2 #[.int .i64 (r.getD 0)],.obj (S+1+1) 4 #[.bool r.isSome],.obj S 24 #[.slice Q x.i.length P,.slice O x.rf.length N]]) ?_ ?_
  .exact⟨_,0,_,zG _,rfl,rfl,rfl,HR.o.2.1,HR.o.1⟩
  clear HR;rintro Y z n Z W hY-⟨k,r,hk,rfl,rfl,H,j,a⟩;simp[aX,lk];by_cases hlt:k<x.rf.length
  .have l:=HK.o.2.f;obtain⟨ad,cc,e,q1,q2,U⟩:=l;injection e with V e2 e3;subst V;obtain⟨b,off,rfl,h4⟩:=U qdX;have J:=h4 k hlt;have r1:=Mem_cell_w a.ay J.1;have r2:=Mem_cell_w a.ay J.2.1;have rl:=Mem_cell_lt a.ay J.1;have p:=HX.o.2.1 x.rf[k] (zF hlt);have d:d9 ((x.rf.take (k+1)).map (fun s=>dP s 1)) (d9 (x.i.map (fun s=>dP s 0*10000)) none)=d9 [dP x.rf[k] 1] r:=by
    rw[zH hlt,yI,nT,<-H]
    rfl
   have M:=zh (zi d j);clear d h4 J q1 q2 U e3 H j;generalize x.rf[k]=q at*
   obtain⟨v,t⟩:=q;simp only at r1 r2;have g:=a.al #[.int .i64 v,.int .i64 t] 139;have D:=zh g;have HQ:=zh (fun w'=>zw (v,t) 1 w');have q':=Tf p (mid:=1) zo zo;clear a g p
   go_wp2_with fail
   refine(HQ.o _).mono ?_;rintro e w3 ⟨rfl,y⟩;have B:=(D.o.aP y).tail;generalize hV:dP (v,t) 1=nv at*
   have HT:=zh (Gf nv (S+1+1) (S+1) r B zo zo M.o.2);have E:=zh (AO (u:=nv) M.o.2 zo zo);clear B D y r1 r2 rl HQ
   go_wp2_with fail
   refine HT.o.mono ?_;rintro e w4 ⟨rfl,A⟩;have C:=zh A;clear A HT;go_wp2;refine hY.o _ _ _ zo rfl ⟨k+1,_,zo,rfl,rfl,M.o.1.symm,?_,?_⟩
   .first
     |exact E.o
     |(rw[hV];exact E.o)
   .first
     |exact C.o
     |(rw[hV];exact C.o)
  .obtain rfl:k=x.rf.length:=zo;rw[yG]at H;subst H;have q1:=a.obj.c 0;have q2:=a.obj.lt;have U:=a.au.obj.c 0;have q4:=a.au.obj.lt;have HB:=zh a.az;have HL:=zh (show dm x=d9 (x.rf.map (fun s=>dP s 1)) (d9 (x.i.map (fun s=>dP s 0*10000)) none) from by unfold dm azv;rw[nT]);rw[HL.o]at hR;generalize d9 (x.rf.map (fun s=>dP s 1)) (d9 (x.i.map (fun s=>dP s 0*10000)) none)=rr at*
   clear a j;go_wp2
   go_quiet (fail)
   go_wp2;exact hR.o _ _ ⟨rfl,below_drewN HB.o _⟩
theorem JS{m:Mem}{v:zV}{lo hi:Int}(h:df m v [(lo,hi)]):∃b off c,v=.slice (some ⟨b,off,none⟩) 1 c/\m.cell b off=some (.int .i64 lo)/\m.cell b (off+1)=some (.int .i64 hi)/\1<=c:=by
 obtain⟨a,c,rfl,g,i,f⟩:=h;obtain⟨b,off,rfl,e⟩:=f zS;have d:=e 0 zS;simp only[Nat.zero_mul,Nat.add_zero]at d;exact⟨b,off,c,rfl,d.1,d.2.1,g⟩
theorem UE(vi vf:zV)(I F:List bT)(m:Mem)(w:zW)(hm:m.ay w)(h1:bZ m vi vf I F)(hI:I.length<=30000)(hF:F.length<=30000):
 zC 199 #[.agg #[vi,vf]] w fun e w'=>∃O rf,e=.returned (.agg #[O,rf])/\zB w w'/\bZ (m.grow w w') O rf (gP (dz I F)).i (gP (dz I F)).rf:=by
 have hO:=((Own.start hm).al #[vi,vf] 24).al #[.slice none 0 0,.slice none 0 0] 24;have z:(w.alloc (.cells #[vi,vf] 24)).heap.size=w.heap.size+1:=by simp
 rw[z]at hO;obtain⟨a1,c1,b1,d1,rfl,rfl⟩:=h1.eG;have HM:=zh (l8 _ _ I F m _ hO.ay h1 zo zo);have l:=zh hO;clear hO h1 z;have H:=jL hI hF;have p:=jf I F;have l1:=H.i;have l2:=H.f;rw[<-NS.tH]at l2;have A:dz (fZ (fun n=>n+1) (fun n=>n-1) (dz I F).i (-100000000000) 100000000000) (fZ jy jg (dz I F).rf (-999999999999999) 999999999999999)=gP (dz I F):=Y3 p;have b':=p.inI;have c':=p.inF;have W:∀s∈fZ (fun n=>n+1) (fun n=>n-1) (dz I F).i (-100000000000) 100000000000,kM s:=by
  rw[wG];exact fun s hs=>Bt ((ky p).inI s hs)
 have V:∀s∈fZ jy jg (dz I F).rf (-999999999999999) 999999999999999,kM s:=by
  have e:fZ jy jg (dz I F).rf (-999999999999999) 999999999999999=(gP (dz I F)).rf:=Tn _;rw[e];exact fun s hs=>Bt ((ky p).inF s hs)
 have K':=xu (fun n=>n+1) (fun n=>n-1) (dz I F).i (-100000000000) 100000000000;have J':=xu jy jg (dz I F).rf (-999999999999999) 999999999999999;refine aj fun R hR=>?_;generalize dz I F=x at*
 have HX:=zh (zi A (zi b' (zi c' (zi W V))));clear A b' c' W V H p
 go_enter func199,ntmps199
 go_wp2_with fail
 refine HM.o.mono ?_;rintro e w1 ⟨O,rf,rfl,Z,q⟩;have g:=l.o.call Z;have HA:=zh (UH _ w1 g.ay);have y:=zh (zi g q);obtain⟨xa,xc,ya,yc,rfl,rfl⟩:=q.eG;clear HM g q Z l
 go_wp2_with fail
 refine HA.o.mono ?_;rintro e K ⟨O,rf,rfl,Y,J⟩;have a':=y.o.1.call Y;have q:=y.o.2.le (Mem_le_grow y.o.1.ay (w:=K));obtain⟨q1,o1,M,rfl,z1,z2,z3⟩:=JS J.i;obtain⟨q2,o2,P,rfl,z4,z5,z6⟩:=JS J.f;have u:=(a'.al #[.slice xa x.i.length xc,.slice ya x.rf.length yc] 24).al #[.slice (some ⟨q1,o1,none⟩) 1 M,.slice (some ⟨q2,o2,none⟩) 1 P] 24;have e1:(K.alloc (.cells #[.slice xa x.i.length xc,.slice ya x.rf.length yc] 24)).heap.size=K.heap.size+1:=by simp
 rw[e1]at u;generalize ((m.grow (((w.alloc (.cells #[.slice a1 I.length c1,.slice b1 F.length d1] 24)).alloc (.cells #[.slice none 0 0,.slice none 0 0] 24))) w1).grow w1 K)=mk at*
 have l:=zh (zi u (zi q (zi z1 (zi z2 (zi z4 z5)))));clear a' q u J Y HA y z1 z2 z4 z5 e1
 go_upto_region 2 with(fail)
 generalize V':(K.alloc (.cells #[.slice xa x.i.length xc,.slice ya x.rf.length yc] 24)).alloc (.cells #[.slice (some ⟨q1,o1,none⟩) 1 M,.slice (some ⟨q2,o2,none⟩) 1 P] 24)=w3 at*
 generalize K.heap.size=S at*
 refine aR [2] (fun vs w'=>∃(mk':Mem) (G D:Option Addr) (C B:Nat),vs=[.pointer (some ⟨w.heap.size+1,0,none⟩)] /\
  Own w m w' mk' [.obj (w.heap.size+1) 24 #[.slice G (gP x).i.length C,.slice D (gP x).rf.length B]] /\
  bZ mk' (.slice G (gP x).i.length C) (.slice D (gP x).rf.length B) (gP x).i (gP x).rf) ?_ ?_
 .intro X hX;refine bz 18 6 (fun j=>[aD.is (·=.pointer (some ⟨S,0,none⟩)),aD.is (·=.slice xa x.i.length xc),aD.is (·=.pointer (some ⟨S+1,0,none⟩)),aD.is (·=.slice (some ⟨q1,o1,none⟩) 1 M),aD.is (·=.pointer (some ⟨q1,o1,none⟩)),aD.is (·=.agg #[.int .i64 (-100000000000),.int .i64 100000000000]),aD.mem mk [6] (Dy 182 231 x.i (-100000000000) 100000000000),aD.mem mk [7,6] (qZ (fZ (fun n=>n+1) (fun n=>n-1) x.i (-100000000000) 100000000000)),aD.is (·=.pointer (some ⟨S,1,none⟩)),aD.is (·=.slice ya x.rf.length yc),aD.is (·=.pointer (some ⟨S+1,1,none⟩)),aD.is (·=.slice (some ⟨q2,o2,none⟩) 1 P),aD.is (·=.pointer (some ⟨q2,o2,none⟩)),aD.is (·=.agg #[.int .i64 (-999999999999999),.int .i64 999999999999999]),aD.mem mk [14] (Dy 183 232 x.rf (-999999999999999) 999999999999999),aD.mem mk [15,14] (qZ (fZ jy jg x.rf (-999999999999999) 999999999999999)),aD.mem mk [7,6,15,14] (dY (fZ (fun n=>n+1) (fun n=>n-1) x.i (-100000000000) 100000000000) (fZ jy jg x.rf (-999999999999999) 999999999999999)),aD.mem mk [17,7,6,15,14] (dY (gP x).i (gP x).rf)].getD j aD.any) zk zk ?_ ?_
  .intro i hi o win a h ho b;have HO2:=l.o.1.dr.aP b.az;have p1:=HO2.obj.c 0;have p2:=HO2.obj.c 1;have p3:=HO2.au.obj.c 0;have p4:=HO2.au.obj.c 1;have L:=Mem_cell_w HO2.ay l.o.2.2.1;have t2:=Mem_cell_w HO2.ay l.o.2.2.2.1;have t3:=Mem_cell_w HO2.ay l.o.2.2.2.2.1;have t4:=Mem_cell_w HO2.ay l.o.2.2.2.2.2;have t5:=Mem_cell_lt HO2.ay l.o.2.2.1;have t6:=Mem_cell_lt HO2.ay l.o.2.2.2.2.1;rcases(show i=0\/i=1\/i=2\/i=3\/i=4\/i=5\/i=6\/i=7\/i=8\/i=9\/i=10\/i=11\/i=12\/i=13\/i=14\/i=15\/i=16\/i=17 by omega)with rfl|rfl|rfl|rfl|rfl|rfl|rfl|rfl|rfl|rfl|rfl|rfl|rfl|rfl|rfl|rfl|rfl|rfl
   .have e3:=b.k 3;exact qaa
   .have e8:zt a 8 _:=b.d 0 rfl;exact qaa
   .have e4:=b.k 4;exact qaa
   .have e10:zt a 10 _:=b.d 2 rfl;exact qaa
   .have e11:zt a 11 _:=b.d 3 rfl;exact qaa
   .have e12:zt a 12 _:=b.d 4 rfl;exact qaa
   .have e9:zt a 9 _:=b.d 1 rfl;have e13:zt a 13 _:=b.d 5 rfl;cases ho;refine we rfl rfl (OM _ x.i (-100000000000) 100000000000 231 182 mk h HO2.ay l.o.2.1.i) ?_;exact qcN
   .have A':(aD.mem mk [6] (Dy 182 231 x.i (-100000000000) 100000000000)).holds (a.tmps.getD 14 undef) win h:=b.d 6 rfl;cases ho;have Q:Dy 182 231 x.i (-100000000000) 100000000000 (mk.gU h win [6]) (a.tmps.getD 14 undef):=A';obtain⟨R',U⟩:∃v,a.tmps.getD 14 undef=v:=⟨_,rfl⟩;rw[U]at Q;refine we rfl rfl (Ew Gh UI _ h (Mem_wins_inn HO2.ay win [6]) Q HX.o.2.1 zo HX.o.2.2.2.1) ?_;rintro e w' ⟨r,rfl,hb,hn⟩;exact⟨_,rfl,_,rfl,hb,jV (ds:=[6]) qZ.le HO2.ay zS (fun d hd=>(b.ik d qer).2.2) hb (ry hn)⟩
   .have e3:=b.k 3;exact qaa
   .have e16:zt a 16 _:=b.d 8 rfl;exact qaa
   .have e4:=b.k 4;exact qaa
   .have e18:zt a 18 _:=b.d 10 rfl;exact qaa
   .have e19:zt a 19 _:=b.d 11 rfl;exact qaa
   .have e20:zt a 20 _:=b.d 12 rfl;exact qaa
   .have e17:zt a 17 _:=b.d 9 rfl;have e21:zt a 21 _:=b.d 13 rfl;cases ho;refine we rfl rfl (OM _ x.rf (-999999999999999) 999999999999999 232 183 mk h HO2.ay l.o.2.1.f) ?_;exact qcN
   .have y':(aD.mem mk [14] (Dy 183 232 x.rf (-999999999999999) 999999999999999)).holds (a.tmps.getD 22 undef) win h:=b.d 14 rfl;cases ho;have Q:Dy 183 232 x.rf (-999999999999999) 999999999999999 (mk.gU h win [14]) (a.tmps.getD 22 undef):=y';obtain⟨Q',T⟩:∃v,a.tmps.getD 22 undef=v:=⟨_,rfl⟩;rw[T]at Q;refine we rfl rfl (Ew Gi NZ _ h (Mem_wins_inn HO2.ay win [14]) Q HX.o.2.2.1 zo HX.o.2.2.2.2) ?_;rintro e w' ⟨r,rfl,hb,hn⟩;exact⟨_,rfl,_,rfl,hb,jV (ds:=[14]) qZ.le HO2.ay zS (fun d hd=>(b.ik d qer).2.2) hb (ry hn)⟩
   .have z':(aD.mem mk [7,6] (qZ (fZ (fun n=>n+1) (fun n=>n-1) x.i (-100000000000) 100000000000))).holds (a.tmps.getD 15 undef) win h:=b.d 7 rfl;have x':(aD.mem mk [15,14] (qZ (fZ jy jg x.rf (-999999999999999) 999999999999999))).holds (a.tmps.getD 23 undef) win h:=b.d 15 rfl;cases ho;obtain⟨r1,s1,M,L⟩:qZ _ _ _:=z';obtain⟨r2,s2,P,t2⟩:qZ _ _ _:=x';have f15:=(zY (xs:=a.tmps) (i:=15) (d:=undef)).symm.trans M;have f20:=(zY (xs:=a.tmps) (i:=23) (d:=undef)).symm.trans P;have L:=bV qfS L;have t2:=bV qfS t2;exact aJ rfl rfl (aN zg ⟨_,rfl,zR _ _,Oa [7,6,15,14] (R:=dY _ _) win zS (fun d hd=>(b.ik d qek).2.2) ⟨r1,s1,r2,s2,rfl,L,t2⟩⟩)
   .have v':(aD.mem mk [7,6,15,14] (dY (fZ (fun n=>n+1) (fun n=>n-1) x.i (-100000000000) 100000000000) (fZ jy jg x.rf (-999999999999999) 999999999999999))).holds (a.tmps.getD 24 undef) win h:=b.d 16 rfl;cases ho;obtain⟨r1,s1,r2,s2,M,L⟩:dY _ _ _ _:=v';refine we rfl rfl (l8 _ _ _ _ _ h (Mem_wins_inn HO2.ay win [7,6,15,14]) L zo zo) ?_;rintro e w' ⟨O,rf,rfl,hb,hn⟩;rw[HX.o.1]at hn;exact⟨_,rfl,_,rfl,hb,jV (ds:=[7,6,15,14]) dY.le HO2.ay zS (fun d hd=>(b.ik d qek).2.2) hb (je hn)⟩
  .intro win a h E;have e2:=E.keep 2 zk;have u':(aD.mem mk [17,7,6,15,14] (dY (gP x).i (gP x).rf)).holds (a.tmps.getD 25 undef) win h:=E.fact 17 _ zo rfl;obtain⟨G,C,D,B,f1,N⟩:dY _ _ _ _:=u';have g:=l.o.1.tail.tail.bL.dr.region E.az win [17,7,6,15,14] (fun d hd=>(E.ik d qeg).1);have HE:=zh E;generalize mk.gU h win [17,7,6,15,14]=r' at*
   have HK:=zh N;clear E N;have b1:=g.obj.frozen 0;have b1':=g.obj.frozen 1;have b2:=g.obj.c 0;have b2':=g.obj.c 1;have b3:=g.obj.lt;have u:=(g.set 0 (.slice G (gP x).i.length C)).set 1 (.slice D (gP x).rf.length B);refine eF 18 zk (aJ rfl rfl (cO zg ?_));obtain⟨t,d⟩:=a;obtain rfl:d=[]:=HE.o.defers;refine bY zk (hX.o _ _ HE.o.size ⟨r',G,D,C,B,?_,u,HK.o⟩) _;simp only[yL,xB,e2]
   rfl
 rintro z2 vs w4-⟨mk',G,D,C,B,rfl,hO,hr⟩;simp[aX,lk];have g5:=hO.obj.c 0;have g6:=hO.obj.c 1;have Hk:=zh qfn;clear hO hr l;go_wp2;refine yV (v:=.agg #[.slice G (gP x).i.length C,.slice D (gP x).rf.length B]) (by simp[results,results199,go_sem,g5,g6]) rfl ?_;exact qax
end Cl
