/- Lemmas. -/
import Derived.Laws.EntriesVeiled
import Derived.Laws.CopyOwn
import Derived.Test.YtbbnjopkjbhpbaaGreatDoorPkT4
set_option maxRecDepth 99999
set_option maxHeartbeats 9999999
namespace Cl
open Go Go.RowKit Go.Proofs Tryz
theorem TY : (prog.fieldsOf 100).toList = [⟨"Lo", 2, 0, false, "", "", 0⟩, ⟨"Hi", 2, 1, false, "", "", 8⟩] := by
 kernel_rfl
theorem WI:prog.stoodInHeld 100=false:=by kernel_rfl
theorem XG:prog.eqGuardType prog.depth 100=false:=by kernel_rfl
theorem bzB:prog.underlying 100=some (.struct (prog.fieldsOf 100)):=by kernel_rfl
theorem WR(a b a' b':Int)(w:zW):(Op.equalIn 10000 100 (.agg #[.int .i64 a,.int .i64 b]) (.agg #[.int .i64 a',.int .i64 b'])).run prog w=.ok (a==a'&&b==b') w:=by
 rw[run_equalIn_agg w 9999 100 _ _ bzB WI,TY];have e2:=fun(d:Nat) (a b:Int) (w:zW)=>run_equalIn_int (P:=prog) w d 2 .i64 .i64 a b underlying2;exact qbV
theorem ezN(e f:dh):e=f↔(e.1=f.1/\e.2=f.2):=Prod.ext_iff
theorem mO(v v':zV)(l l':List dh)(m:Mem)(w:zW)(y:m.az w)(A:dD m v l)(i:dD m v' l'):
 zX 104 #[v,v'] w (.bool (tf (l=l'))):=by
 obtain⟨a,c,rfl,P,G,F⟩:=A;obtain⟨N,M,rfl,H,q,p⟩:=i;unfold maxLen at G q;refine au fun R hR=>?_;by_cases hlen:l.length=l'.length
 .have g:((l.length:Int) != (l'.length:Int))=false:=by simp[hlen]
  have Hlen:=zh hlen;clear hlen
  go_enter func104,ntmps104
  go_wp2;refine aB [0,1,12,13] (fun n u t=>∃k:Nat,k<=l.length/\n=l.length-k/\u=[.slice a l.length c,.slice N l'.length M,.j l.length,.j k]/\(l=l'↔l.drop k=l'.drop k)/\zB w t) ?_ ?_
  .exact qbQ
  rintro X z n u t C-⟨k,hk,rfl,rfl,f,hbel⟩;have Hrel:=zh f;clear f;simp[bz,lk];have d:=dzE y hbel;by_cases hlt:k<l.length
  .have hlt':k<l'.length:=by rw[<-Hlen.o];exact hlt
   obtain⟨b,off,rfl,E⟩:=F qdJ;obtain⟨T,x,rfl,j⟩:=p qdV;obtain⟨J,I,-⟩:=E k hlt;obtain⟨s,r,-⟩:=j k hlt';have S:=azk d J;have Q:=azk d I;have L:=azk d s;have K:=azk d r;have HD:=zh qhV;have O:=fun w=>WR (l[k].1) (l[k].2) (l'[k].1) (l'[k].2) w;have B:=XG;have He:=zh (ezN l[k] l'[k]);go_wp2
   go_quiet (fail)
   go_wp2
   .refine hR.o _ _ ⟨aP ?_,below_drewN hbel _⟩;rw[aG];intro h;have D:=He.o.1 (HD.o.1 (Hrel.o.1 h)).1;have h6:=‹(!l[k].1==l'[k].1)=true\/_›;simp[D]at h6
   .refine C.o _ _ _ zo rfl ⟨k+1,zo,rfl,rfl,?_,below_drewN hbel _⟩;have h6:=‹(!l[k].1==l'[k].1)=false/\_›;exact qcj
  .exact qgR
 .have g:((l.length:Int) != (l'.length:Int))=true:=by simp;omega
  go_enter func104,ntmps104
  exact qg1
theorem wS(u:Int)(w:zW)(f : -1000000000000002<=u)(d:u<=1000000000000002):
 zX 142 #[.int .i64 u] w (.j (u/10000)):=by
 refine au fun R a=>?_;have c:=zh (ez7 u);have b:=zh (dzx u)
 go_enter func142,ntmps142
 go_wp2
 all_goals refine a.o _ _ ⟨je ?_,zR _ _⟩
 all_goals simp only[c.o,b.o]at*
 all_goals (repeat' split)<;>first|omega|(unfold wrap64;omega)
theorem PU(u:Int)(w:zW)(c : -1000000000000002<=u)(b:u<=1000000000000002):
 zX 96 #[.int .i64 u] w (.j (jh u)):=by
 refine au fun R a=>?_;have H:=zh (uO (u+1))
 go_enter func96,ntmps96
 go_wp2
 all_goals refine a.o _ _ ⟨je ?_,zR _ _⟩
 all_goals unfold jh
 all_goals first
  |rw[zK (H.o.1 (beq_iff_eq.1 (by assumption)))]
  |rw[zJ (fun e=>(zO.1 (by assumption)) (H.o.2 e))]
theorem Ny(u:Int)(w:zW)(c : -1000000000000002<=u)(b:u<=1000000000000002):
 zX 180 #[.int .i64 u] w (.j (iU u)):=by
 refine au fun R a=>?_;have H:=zh (uO (u-1))
 go_enter func180,ntmps180
 go_wp2
 all_goals refine a.o _ _ ⟨je ?_,zR _ _⟩
 all_goals unfold iU
 all_goals first
  |rw[zK (H.o.1 (beq_iff_eq.1 (by assumption)))]
  |rw[zJ (fun e=>(zO.1 (by assumption)) (H.o.2 e))]
theorem PR(u:Int)(w:zW)(c : -1000000000000002<=u)(b:u<=1000000000000002):
 zX 95 #[.int .i64 u] w (.j (u+1)):=by
 refine au fun R a=>?_
 go_enter func95,ntmps95
 go_wp2
 all_goals exact a.o _ _ ⟨je zo,zR _ _⟩
theorem Te(u:Int)(w:zW)(c : -1000000000000002<=u)(b:u<=1000000000000002):
 zX 179 #[.int .i64 u] w (.j (u-1)):=by
 refine au fun R a=>?_
 go_enter func179,ntmps179
 go_wp2
 all_goals exact a.o _ _ ⟨je zo,zR _ _⟩
theorem xx(u:Int)(w:zW):
 zX 141 #[.int .i64 u] w (.bool (decide (cO u))):=by
 refine au fun R a=>?_
 go_enter func141,ntmps141
 go_wp2
 all_goals refine a.o _ _ ⟨aP ?_,zR _ _⟩
 all_goals first
  |(symm;rw[decide_eq_true_iff];unfold cO iH;omega)
  |(symm;rw[decide_eq_false_iff_not];unfold cO iH;omega)
  |(symm;rw[decide_eq_decide];unfold cO iH;omega)
theorem CG(u v:Int)(w:zW)(f : -1000000000000002<=u)(d:u<=1000000000000002)(c : -1000000000000002<=v)(b:v<=1000000000000002):
 zX 115 #[.int .i64 u,.int .i64 v] w (.bool (decide (kr u v))):=by
 refine au fun R a=>?_
 go_enter func115,ntmps115
 go_wp2
 all_goals refine a.o _ _ ⟨aP ?_,zR _ _⟩
 all_goals first
  |(symm;rw[decide_eq_true_iff];unfold kr;omega)
  |(symm;rw[decide_eq_false_iff_not];unfold kr;omega)
  |(symm;rw[decide_eq_decide];unfold kr;omega)
theorem A8(s:dh)(mid:Int)(w:zW):
 zX 116 #[.agg #[.int .i64 s.1,.int .i64 s.2],.int .i64 mid] w (.j (dC s mid)):=by
 obtain⟨a,b⟩:=s;refine au fun R f=>?_;have c:=bY (zR w.heap.size w) (.cells #[.int .i64 a,.int .i64 b] 100);have d:dC (a,b) mid=if a > 0 then a else if b<0 then b else mid:=rfl;rw[d]at f;clear d
 go_enter func116,ntmps116
 go_wp2
 all_goals refine f.o _ _ ⟨je ?_,c⟩
 .rw[zK zo]
 .rw[zJ zo,zK zo]
 .rw[zJ zo,zJ zo]
theorem XD(s:Int)(w:zW):zC 186 #[.int .i64 s] w fun e w'=>e=.returned (.bool false)/\w'=w:=by
 refine au fun R a=>?_
 go_enter func186,ntmps186
 go_wp2;exact a.o _ _ ⟨zS,rfl⟩
theorem UB(s t:Int)(w:zW):zC 151 #[.int .i64 s,.int .i64 t] w fun e w'=>e=.returned (.j (Lib.compareInt s t))/\w'=w:=by
 refine au fun R a=>?_;have b:Lib.compareInt s t=if s<t then -1 else if t<s then 1 else 0:=by
  unfold Lib.compareInt;rfl
 rw[b]at a;clear b
 go_enter func151,ntmps151
 go_wp2_with ((go_at_call 186);refine(XD _ _).mono ?_;rintro e w' ⟨rfl,rfl⟩)
 .exact a.o _ _ ⟨je (by rw[zK zo]),rfl⟩
 .exact a.o _ _ ⟨je (by rw[zJ zo,zK zo]),rfl⟩
 .exact a.o _ _ ⟨je (by rw[zJ zo,zJ zo]),rfl⟩
theorem Qt(x y:dh)(W:zW):zC 150 #[.agg #[.int .i64 x.1,.int .i64 x.2],.agg #[.int .i64 y.1,.int .i64 y.2]] W fun e w'=>e=.returned (.j (Ji x y))/\∃q b,w'=Go.Sort.grow (W.drewN q) b:=by
 have a:=fun d=>UB x.1 y.1 d;unfold Ji;generalize Lib.compareInt x.1 y.1=r at a⊢;refine au fun R c=>?_
 go_enter func150,ntmps150
 go_wp2_with ((go_at_call 151);refine(a _).mono ?_;rintro e w' ⟨rfl,rfl⟩)
 exact c.o _ _ ⟨rfl,0,_,by rw[Go.Sort.alloc_eq_grow,Go.Sort.alloc_eq_grow,Go.Sort.grow_grow];rfl⟩
theorem I9:∀args w,(callFunc 150 args).run prog w=.ok (.enter 150 args) w:=enters_of func150 zk rfl
theorem Sd{w0 w:zW}{m mk:Mem}{L:List bA}{t:TypeId}{g c:Nat}{l:List dh}(h:Own w0 m w mk (.row (.slice (some ⟨g,0,none⟩) l.length c) t 2 l.length (bN l)::L))(hl:l.length<4611686018427387904):
 zC 149 #[.slice (some ⟨g,0,none⟩) l.length c,.func (.func 150) #[] #[]] w fun e w'=>e=.returned (.tuple #[]) /\
  ∃p:List dh,p.Perm l/\(p.Pairwise fun s t=>s.1<=t.1)/\Own w0 m w' mk (.row (.slice (some ⟨g,0,none⟩) p.length c) t 2 p.length (bN p)::L):=by
 have b:g<w.heap.size:=(World.ownsRow.lt h.row _ rfl).2;have a:=AnyQ.slices_SortFunc Tryz.dz5 2 Tryz.isAgg100 Tryz.sizeOf100 vK (fun _=>rfl) (fun x v d=>by simp[vK]at d;rcases d with rfl|rfl<;>rfl) Ji ez8 150 #[] g 0 c l.toArray w
  I9 (fun _ _ _ _ x y=>Qt x y _) (W9 h.row) b qdR
 refine Calls.mono (show zC 149 #[.slice (some ⟨g,0,none⟩) l.length c,.func (.func 150) #[] #[]] w _ from a) ?_;rintro e w' ⟨q,i,n,j,o,k,rfl⟩;obtain⟨f,u,r⟩:=WT o k;refine⟨q,i.toList,u,r,?_⟩;have:=Zo h i f n j;simpa [f]using this
theorem qi:fB prog 22 100 2 16:=⟨underlying22,zo,by
 obtain⟨i,d,c,b,a⟩:=info_parts (P:=prog) (e:=100) (z:=.agg #[.int .i64 0,.int .i64 0]) (size:=2) (bytes:=16) zk;exact⟨i,_,d,c,b,a,rfl⟩⟩
theorem CX:(prog.info? 100).map (fun i=>(i.zero,i.size,i.bytes))=some (some (.agg #[.int .i64 0,.int .i64 0]),2,16):=by kernel_rfl
theorem Tt(n:Nat):(madeCells (Value.agg #[.int .i64 0,.int .i64 0]).cells (n*2)).toList=bN (List.replicate n (0,0)):=by
 apply List.ext_getElem?;intro j;by_cases b:j<n*2
 .obtain⟨i,a⟩:∃i,j=i*2\/j=i*2+1:=⟨j/2,zo⟩;obtain⟨d,c⟩:=mZ (List.replicate n ((0:Int),(0:Int))) i qdQ;rcases a with rfl|rfl
  .rw[d];simp[madeCells,Value.cells,b]
  .rw[c];have:(i*2+1)%2=1:=zo;simp[madeCells,Value.cells,b,this]
 .rw[vC (by simp[madeCells];omega),vC (by rw[dN];simp;omega)]
theorem Cj{w:zW}{ops:Array Oper}{rest:List Oper}{o:Oper}{a:Act}{Q:Exit->Act->World->Prop}
(h:o.guard=none)(l c:Operand)(b:o.op=Op.makeSlice 22 l c)(n:Nat)(g:a.eval l=.j n)(j:a.eval c=.j n)(p:n<=1000000)
(k:∀w',w'.ownsRow 0 100 2 (.slice (some ⟨w.heap.size,0,none⟩) n n) n (bN (List.replicate n (0,0)))->w.grownBy w' none->wpList prog ops Q rest (a.put o.dst (.slice (some ⟨w.heap.size,0,none⟩) n n)) w'):
 wpList prog ops Q (o::rest) a w:=by
 obtain⟨i,hi,e,f,hb⟩:=info_parts CX;refine wpList_make_full w h l c 22 b 0 100 i _ 2 underlying22 hi e f .i64 .i64 n n n g j rfl rfl qeK qdM (zG _) ?_;intro w' d m;rw[Tt]at d;exact k w' d m
theorem JZ(w:zW)(h:TypeId)(g n c sc:Nat)(a:Addr)(b:Array Value)(t:TypeId)(cs:List Value)
(o:w.heap[g]?=some (.cells b t (0,0)))(l:cs.length=n*2)(d:∀j v,cs[j]?=some v->w.cell? (a.add j)=some v)(e:cs.length<=b.size)(p:∀v∈cs,v.oneCell'=true):
 (Builtin.copy_ #[22,22] h #[.slice (some ⟨g,0,none⟩) n c,.slice (some a) n sc]).run prog w=.ok (goInt n) (w.setRow g (cs++b.toList.drop cs.length).toArray):=by
 have m:=run_loadCells_list (P:=prog) w a cs d;have f:=run_storeCells_at prog g 0 t cs 0 b w o (by simpa using e) p;obtain⟨i,hi,q,k,r⟩:=info_parts CX;simp[Builtin.copy_,run_underlying underlying22,Builtin.lenOf,Builtin.firstCells,Go.sizeOf,typeInfo,hi,k,<-l,m,f]
theorem JY(w:zW)(b:TypeId)(g c sc:Nat)(a:Option Addr):
 (Builtin.copy_ #[22,22] b #[.slice (some ⟨g,0,none⟩) 0 c,.slice a 0 sc]).run prog w=.ok (goInt 0) w:=by
 obtain⟨i,hi,d,e,f⟩:=info_parts CX;cases a<;>simp[Builtin.copy_,run_underlying underlying22,Builtin.lenOf,Builtin.firstCells,Go.sizeOf,typeInfo,hi,storeCells,loadCells,loadCellsFrom]
theorem Uw{w:zW}(o:TypeId)(g n sc:Nat)(f:Option Addr)(xs cs:List Value)(b:w.ownsRow 0 100 2 (.slice (some ⟨g,0,none⟩) n n) n xs)
(a:cs.length=n*2)(c:0<n->∃m,f=some m/\∀j u,cs[j]?=some u->w.cell? (m.add j)=some u)(B:∀v∈cs,v.oneCell'=true):
 ∃w',(Builtin.copy_ #[22,22] o #[.slice (some ⟨g,0,none⟩) n n,.slice f n sc]).run prog w=.ok (goInt n) w' /\
  w'.ownsRow 0 100 2 (.slice (some ⟨g,0,none⟩) n n) n cs/\w.grownBy w' (some g):=by
 by_cases C:n=0
 .subst C;obtain rfl:cs=[]:=yM (by simpa using a);have A:xs=[]:=yM (by simpa using b.1);subst A;exact⟨w,JY w o g 0 sc f,b,⟨rfl,rfl,rfl,zI _,fun k _ _=>rfl⟩⟩
 .obtain⟨m,rfl,r⟩:=c zo;clear c;rcases b.2 with⟨p,-⟩|⟨E,D,i,p,y,z,t,x,l,q⟩
  .cases p
  .cases p;have d:=JZ w o g n n sc m i 100 cs z a r (by rw[a,l];exact zI _) B;have h:i.toList.drop cs.length=[]:=zQ (by rw[a,<-l];simp);rw[h,yR]at d;refine⟨_,d,⟨a,.inr ⟨g,n,cs.toArray,rfl,y,setRow_heap w g i _ _ _ z,t,x,by simpa using a,?_⟩⟩,⟨rfl,rfl,rfl,by simp[World.setRow],fun k hk s=>setRow_other w g k _ (fun e=>s (by rw[e]))⟩⟩;simp only;exact xH zo
structure rE (gf:Nat) (nx:Int->Int):Prop where
 run:∀(u:Int) (w:zW),-1000000000000002<=u->u<=1000000000000002->zX gf #[.int .i64 u] w (.j (nx u))
 ent:Hid (∀(x:Int) (w:zW),Sem.run prog (callFunc gf #[.int .i64 x]) w=.ok (.enter gf #[.int .i64 x]) w)
theorem Ia:rE 95 (fun n=>n+1):=⟨fun u w=>PR u w,zh fun x w=>by go_simp⟩
theorem Ib:rE 96 jh:=⟨fun u w=>PU u w,zh fun x w=>by go_simp⟩
theorem Xm:rE 179 (fun n=>n-1):=⟨fun u w=>Te u w,zh fun x w=>by go_simp⟩
theorem PY:rE 180 iU:=⟨fun u w=>Ny u w,zh fun x w=>by go_simp⟩
def o8(s:dh):Prop := -1000000000000002<=s.1/\s.1<=s.2/\s.2<=1000000000000002
theorem Cx{s:dh}(h:o8 s):pR s:=by unfold o8 at h;unfold pR;omega
def LD(nx:Int->Int)(a:Int):List dh->Bool
 |[]=>false
 |t::_=>decide (a<=nx t.2)
theorem Pv{w:zW}{t:TypeId}{a:Option Addr}{n c:Nat}{xs:List Value}(h:w.ownsRow 0 t 2 (.slice a n c) n xs)(i:0<n):∃g,a=some ⟨g,0,none⟩:=by
 rcases h.2 with⟨b,j⟩|⟨g,f,d,b,-⟩
 .omega
 .injection b with e;exact⟨g,e⟩
theorem CJ(gf:Nat)(nx:Int->Int)(hN:rE gf nx)(v:zV)(l:List dh)(m:Mem)(w:zW)(hm:m.az w)(hl:dD m v l)(hlen:l.length<=1000000)(t':∀s∈l,o8 s):
 Calls prog 94 #[v,.func (.func gf) #[] #[]] w fun e w'=>∃r p,e=.returned r/\Below w.heap.size w w'/\p.Perm l/\(p.Pairwise fun s t=>s.1<=t.1)/\dD (m.grow w w') r (jH nx p []).reverse:=by
 obtain⟨a,c,rfl⟩:=eT hl;refine au fun R hR=>?_;have f':∀v∈bN l,v.oneCell'=true:=fun v hv=>by
  exact qcJ
 have o':=zh (zi t' (zi hl f'));clear t' f' hl
 go_enter func94,ntmps94
 go_wp2_with (refine Cj rfl (.tmp 11) (.tmp 11) rfl l.length rfl rfl zo ?_)
 intro w1 h1 v';have D:=(Own.start hm).make h1 v';have A:0<l.length->∃ad,a=some ad/\∀j u,(bN l)[j]?=some u->w1.cell? (ad.add j)=some u:=fun h=>by
  obtain⟨b,off,e,h2⟩:=G5 D.az o'.o.2.1 (by intro e;rw[e]at h;simp at h);exact⟨_,e,h2⟩
 generalize hG:w.heap.size=g at*
 obtain⟨w2,r',h2,u'⟩:=Uw 3 g l.length c a _ (bN l) h1 (dN l) A o'.o.2.2;have x:=D.app h2 u' (N:=w1.heap.size) (fun k hk=>.inl hk) (zI _);have F:=zh x;have HS:=zh (Sd x zo);clear x D h1 h2 v' u' A
 go_wp2_with fail
 refine HS.o.mono ?_;rintro e w3 ⟨rfl,p,hp,K,J⟩;have i':=hp.length_eq;have HP:=zh (zi hp (zi K i'));rw[i']at J;have e':∀s∈p,o8 s:=fun s C'=>o'.o.1 s (hp.mem_iff.1 C');have X':=zh e';clear hp K HS F r' e';go_wp2;refine aB [1,6,18,19,20] (fun n vs L=>∃(k:Nat) (vo:zV) (out:List dh),k<=l.length/\n=l.length-k/\vs=[.func (.func gf) #[] #[],vo,.slice (some ⟨g,0,none⟩) l.length l.length,.j l.length,.j k] /\
  Own w m L m [.row vo 100 2 out.length (bN out.reverse),.row (.slice (some ⟨g,0,none⟩) l.length l.length) 100 2 l.length (bN p)]/\jH nx (p.drop k) out=jH nx p []/\out.length<=k/\(∀s∈out,o8 s)) ?_ ?_
 .exact⟨_,0,.n,[],zG _,rfl,rfl,J.fE _ _,rfl,zI _,fun s h=>by cases h⟩
 clear J;rintro X z n vs L hX-⟨k,vo,out,hk,rfl,rfl,hO,hj,hol,j'⟩;simp[bz,lk];obtain⟨h',C,rfl⟩:=bv hO.row;by_cases E':k<l.length
 .have W:k<p.length:=by rw[i'];exact E'
  obtain⟨k1,k2⟩:=mZ p k W;have r1:=bO hO.av.row k1;have r2:=bO hO.av.row k2;have rl:=(World.ownsRow.lt hO.av.row _ rfl).2;have hq:=X'.o p[k] (zF W);have HJ:=zh (zi (Qu nx p k W) (zi (TK nx p k W) (zi hj j')));clear hj k1 k2 j';generalize p[k]=q at*
  obtain⟨G,H⟩:=q;simp only at r1 r2;have F:=zh (hO.al #[.int .i64 G,.int .i64 H] 100);clear hO;go_wp2;generalize hW2:L.alloc (.cells #[.int .i64 G,.int .i64 H] 100)=w5 at*
  generalize L.heap.size=S at*
  refine aW [1,6,8,9,18,19,20,40] (fun vs w'=>vs=[.func (.func gf) #[] #[],.slice h' out.length C,.p S,.j out.length,.slice (some ⟨g,0,none⟩) l.length l.length,.j l.length,.j k,.bool (LD nx G out)] /\
   Own w m w' m [.obj S 100 #[.int .i64 G,.int .i64 H],.row (.slice h' out.length C) 100 2 out.length (bN out.reverse),.row (.slice (some ⟨g,0,none⟩) l.length l.length) 100 2 l.length (bN p)]) ?_ ?_
  .intro Y hY
   cases out with
   |nil=>
    refine bE 15 6 (fun j=>[aI.is (·=.j 0),aI.is (·=.bool false),aI.is (·=.bool false),aI.is (·=Go.undef),aI.is (·=Go.undef),aI.is (·=Go.undef),aI.is (·=Go.undef),aI.is (·=Go.undef),aI.is (·=Go.undef),aI.is (·=Go.undef),aI.is (·=Go.undef),aI.is (·=Go.undef),aI.is (·=Go.undef),aI.is (·=Go.undef),aI.is (·=.bool false)].getD j aI.any) zk zk ?_ ?_
    .intro i hi o M a L ho RA;rcases(show i=0\/i=1\/i=2\/i=3\/i=4\/i=5\/i=6\/i=7\/i=8\/i=9\/i=10\/i=11\/i=12\/i=13\/i=14 by omega)with rfl|rfl|rfl|rfl|rfl|rfl|rfl|rfl|rfl|rfl|rfl|rfl|rfl|rfl|rfl
     .have Z:=RA.k 9;exact qaa
     .have U':a.tmps.getD 26 undef=_:=RA.d 0 rfl;exact qaa
     .have T':a.tmps.getD 27 undef=_:=RA.d 1 rfl;exact qaa
     .have e8:=RA.k 8;exact qac
     .have S':a.tmps.getD 29 undef=_:=RA.d 3 rfl;exact qac
     .have e1:=RA.k 1;exact qac
     .have e6:=RA.k 6;exact qac
     .have Z:=RA.k 9;exact qac
     .have O':a.tmps.getD 33 undef=_:=RA.d 7 rfl;exact qac
     .have P':a.tmps.getD 32 undef=_:=RA.d 6 rfl;have N':a.tmps.getD 34 undef=_:=RA.d 8 rfl;exact qac
     .have M':a.tmps.getD 35 undef=_:=RA.d 9 rfl;exact qac
     .have L':a.tmps.getD 36 undef=_:=RA.d 10 rfl;exact qac
     .have Q':a.tmps.getD 31 undef=_:=RA.d 5 rfl;have K':a.tmps.getD 37 undef=_:=RA.d 11 rfl;exact qac
     .have R':a.tmps.getD 30 undef=_:=RA.d 4 rfl;have J':a.tmps.getD 38 undef=_:=RA.d 12 rfl;exact qac
     .have e28:zt a 28 _:=RA.d 2 rfl;have I':a.tmps.getD 39 undef=_:=RA.d 13 rfl;exact qaa
    .intro M a L E;have e1:=E.keep 1 zk;have e6:=E.keep 6 zk;have e8:=E.keep 8 zk;have Z:=E.keep 9 zk;have V:=E.keep 18 zk;have U:=E.keep 19 zk;have T:=E.keep 20 zk;have l':a.tmps.getD 40 undef=.bool false:=E.fact 14 _ zo rfl;obtain⟨t1,d⟩:=a;obtain rfl:d=[]:=E.defers;refine dB zk (hY.o _ _ E.size ⟨?_,F.o.dr.aT E.aF⟩) _;simp only[yL,xB,e1,e6,e8,Z,V,U,T,l']
     rfl
   |cons t r=>
    simp only[yO]at*
    have D':r.length+1<=1000000:=zo;have P:(bN (t::r).reverse)[r.length*2+1]?=some (.j t.2):=by
     exact qhr
    obtain⟨f,rfl⟩:=Pv F.o.av.row zS;have Hq:=zh (zi P (HJ.o.2.2.2 t (yF ..)));clear P;refine bE 15 6 (fun j=>[aI.is (·=.j (r.length+1:Nat)),aI.is (·=.bool true),aI.is (·=.bool true),aI.is (·=.p S),aI.is (·=.j G),aI.is (·=.func (.func gf) #[] #[]),aI.is (·=.slice (some ⟨f,0,none⟩) (r.length+1) C),aI.is (·=.j (r.length+1:Nat)),aI.is (·=.j (r.length:Nat)),aI.is (·=.pointer (some ⟨f,r.length*2,none⟩)),aI.is (·=.pointer (some ⟨f,r.length*2+1,none⟩)),aI.is (·=.j t.2),aI.is (·=.j (nx t.2)),aI.is (·=.bool (decide (G<=nx t.2))),aI.is (·=.bool (decide (G<=nx t.2)))].getD j aI.any) zk zk ?_ ?_
    .intro i hi o M a L ho RA;have B:=F.o.dr.aT RA.aF;have q1:=B.obj.c 0;have q2:=bO B.av.row Hq.o.1;have ql:=(World.ownsRow.lt B.av.row _ rfl).2;have B':IntKind.i64.wrap (r.length:Int)=(r.length:Int):=IntWalk.i64_in _ zo;rcases(show i=0\/i=1\/i=2\/i=3\/i=4\/i=5\/i=6\/i=7\/i=8\/i=9\/i=10\/i=11\/i=12\/i=13\/i=14 by omega)with rfl|rfl|rfl|rfl|rfl|rfl|rfl|rfl|rfl|rfl|rfl|rfl|rfl|rfl|rfl
     .have Z:=RA.k 9;exact qaa
     .have U':a.tmps.getD 26 undef=_:=RA.d 0 rfl;exact qaa
     .have T':a.tmps.getD 27 undef=_:=RA.d 1 rfl;exact qaa
     .have e8:=RA.k 8;exact qai
     .have S':a.tmps.getD 29 undef=_:=RA.d 3 rfl;exact qai
     .have e1:=RA.k 1;exact qai
     .have e6:=RA.k 6;exact qai
     .have Z:=RA.k 9;exact qai
     .have O':a.tmps.getD 33 undef=_:=RA.d 7 rfl;exact qai
     .have P':a.tmps.getD 32 undef=_:=RA.d 6 rfl;have N':a.tmps.getD 34 undef=_:=RA.d 8 rfl;have e28:zt a 28 _:=RA.d 2 rfl;cases ho;refine fT rfl (fC rfl rfl e28) (aS (by go_simp;intro hh;omega) ⟨_,rfl,zR _ _,rfl⟩)
     .have M':a.tmps.getD 35 undef=_:=RA.d 9 rfl;exact qai
     .have L':a.tmps.getD 36 undef=_:=RA.d 10 rfl;exact qai
     .have Q':a.tmps.getD 31 undef=_:=RA.d 5 rfl;have K':a.tmps.getD 37 undef=_:=RA.d 11 rfl;have e28:zt a 28 _:=RA.d 2 rfl;cases ho;have hr:=Hq.o.2;refine fT rfl (fC rfl rfl e28) (fP (by have hc:=fun w'=>hN.ent.o t.2 w';go_simp;first|done|rfl) (hN.run t.2 L (by unfold o8 at hr;omega) (by unfold o8 at hr;omega)) ?_);exact qag
     .have R':a.tmps.getD 30 undef=_:=RA.d 4 rfl;have J':a.tmps.getD 38 undef=_:=RA.d 12 rfl;exact qai
     .have e28:zt a 28 _:=RA.d 2 rfl;have I':a.tmps.getD 39 undef=_:=RA.d 13 rfl;exact qaa
    .intro M a L E;have e1:=E.keep 1 zk;have e6:=E.keep 6 zk;have e8:=E.keep 8 zk;have Z:=E.keep 9 zk;have V:=E.keep 18 zk;have U:=E.keep 19 zk;have T:=E.keep 20 zk;have l':a.tmps.getD 40 undef=.bool (decide (G<=nx t.2)):=E.fact 14 _ zo rfl;obtain⟨t1,d⟩:=a;obtain rfl:d=[]:=E.defers;refine dB zk (hY.o _ _ E.size ⟨?_,F.o.dr.aT E.aF⟩) _;simp only[yL,xB,e1,e6,e8,Z,V,U,T,l']
     rfl
  rintro z4 vs w6-⟨rfl,hO⟩;simp[bz,lk];have k':LD nx G out=false->jH nx (p.drop k) out=jH nx (p.drop (k+1)) ((G,H)::out):=by
   intro h
   cases out with
   |nil=>exact HJ.o.1
   |cons t r=>
    rw[HJ.o.2.1,zJ (by simpa [LD]using h)]
  cases hb:LD nx G out with
  |false=>
   have W':=zh (k' hb);clear k' hb;have x:=(hO.al #[.int .i64 G,.int .i64 H] 100).aR;have A:=x.av.obj.dQ rfl;have s1:=hO.obj.c 0;have s2:=hO.obj.c 1;have s3:=hO.obj.lt;clear F
   go_wp2_with (at_builtin;refine aU qi rfl (.tmp 55) (.tmp 57) rfl (.slice h' out.length C) out.length _ rfl x.row ⟨w6.heap.size,0,none⟩ 1 1 [.j G,.j H] rfl rfl A qdN qdM zo ?_)
   intro va vc w7 Q I O;have J:=(x.app Q I O zS).bM.bM;have B:=zh J;clear J x hO Q I O A s1 s2 s3;go_wp2;refine hX.o _ _ _ zo rfl ⟨k+1,_,(G,H)::out,zo,rfl,rfl,?_,?_,by simp;omega,?_⟩
   .have:=B.o;rw[List.reverse_cons,eH];exact this
   .rw[<-W'.o];exact HJ.o.2.2.1
   .intro s K;rcases yA.1 K with rfl|K
    .exact hq
    .exact HJ.o.2.2.2 s K
  |true=>
   cases out with
   |nil=>simp[LD]at hb
   |cons t r=>
   have hd:G<=nx t.2:=by simpa [LD]using hb
   have V':=zh (show jH nx (p.drop k) (t::r)=jH nx (p.drop (k+1)) ((t.1,max t.2 H)::r) from by rw[HJ.o.2.1,zK hd]);clear hd hb k' F;simp only[yO]at*
   have D':r.length+1<=1000000:=zo;have P:(bN (t::r).reverse)[r.length*2+1]?=some (.j t.2):=by
    exact qhr
   have d':∀y:Int,(bN (t::r).reverse).set (r.length*2+1) (.j y)=bN ((t.1,y)::r).reverse:=fun y=>by
    rw[List.reverse_cons,eH,List.set_append_right _ _ (by rw[dN];simp),dN,List.reverse_cons,eH];simp[Nat.add_comm]
   obtain⟨f,rfl⟩:=Pv hO.av.row zS;have Hq:=zh (zi P (zi d' (HJ.o.2.2.2 t (yF ..))));have HO:=zh hO;clear P d' hO
   go_upto_region 10 with(fail)
   refine aW [1,6,18,19,20] (fun vs w'=>vs=[.func (.func gf) #[] #[],.slice (some ⟨f,0,none⟩) (r.length+1) C,.slice (some ⟨g,0,none⟩) l.length l.length,.j l.length,.j k] /\
    Own w m w' m [.row (.slice (some ⟨f,0,none⟩) (r.length+1) C) 100 2 (r.length+1) (bN ((t.1,max t.2 H)::r).reverse),.row (.slice (some ⟨g,0,none⟩) l.length l.length) 100 2 l.length (bN p)]) ?_ ?_
   .intro Y hY;refine bE 14 6 (fun j=>[aI.is (·=.slice (some ⟨f,0,none⟩) (r.length+1) C),aI.is (·=.j (r.length+1:Nat)),aI.is (·=.j (r.length:Nat)),aI.is (·=.slice (some ⟨f,0,none⟩) (r.length+1) C),aI.is (·=.j (r.length+1:Nat)),aI.is (·=.j (r.length:Nat)),aI.is (·=.pointer (some ⟨f,r.length*2,none⟩)),aI.is (·=.pointer (some ⟨f,r.length*2+1,none⟩)),aI.is (·=.j t.2),aI.is (·=.pointer (some ⟨S,1,none⟩)),aI.is (·=.j H),aI.is (·=.j (max t.2 H)),aI.is (·=.pointer (some ⟨f,r.length*2,none⟩)),aI.is (·=.pointer (some ⟨f,r.length*2+1,none⟩))].getD j aI.any) zk zk ?_ ?_
    .intro i hi o M a L ho RA;have B:=HO.o.dr.aT RA.aF;have q1:=B.obj.c 1;have q2:=bO B.av.row Hq.o.1;have ql:=(World.ownsRow.lt B.av.row _ rfl).2;have B':IntKind.i64.wrap (r.length:Int)=(r.length:Int):=IntWalk.i64_in _ zo;rcases(show i=0\/i=1\/i=2\/i=3\/i=4\/i=5\/i=6\/i=7\/i=8\/i=9\/i=10\/i=11\/i=12\/i=13 by omega)with rfl|rfl|rfl|rfl|rfl|rfl|rfl|rfl|rfl|rfl|rfl|rfl|rfl|rfl
     .have e6:=RA.k 6;exact qaa
     .have Z:=RA.k 9;exact qaa
     .have e42:zt a 42 _:=RA.d 1 rfl;exact qaa
     .have e6:=RA.k 6;exact qaa
     .have Z:=RA.k 9;exact qaa
     .have e45:zt a 45 _:=RA.d 4 rfl;exact qaa
     .have e44:zt a 44 _:=RA.d 3 rfl;have e46:zt a 46 _:=RA.d 5 rfl;exact qhh
     .have e47:zt a 47 _:=RA.d 6 rfl;exact qaa
     .have e48:zt a 48 _:=RA.d 7 rfl;exact qaa
     .have e8:=RA.k 8;exact qaa
     .have e50:zt a 50 _:=RA.d 9 rfl;exact qaa
     .have e49:zt a 49 _:=RA.d 8 rfl;have e51:zt a 51 _:=RA.d 10 rfl;exact qaa
     .have e41:zt a 41 _:=RA.d 0 rfl;have e43:zt a 43 _:=RA.d 2 rfl;exact qhh
     .have e53:zt a 53 _:=RA.d 12 rfl;exact qaa
    .intro M a L E;have e1:=E.keep 1 zk;have e6:=E.keep 6 zk;have V:=E.keep 18 zk;have U:=E.keep 19 zk;have T:=E.keep 20 zk;have e52:a.tmps.getD 52 undef=.j (max t.2 H):=E.fact 11 _ zo rfl;have e54:a.tmps.getD 54 undef=.pointer (some ⟨f,r.length*2+1,none⟩):=E.fact 13 _ zo rfl;have D:=HO.o.dr.aT E.aF;have hfz:=fD D.av.row (r.length*2+1);have hcl:=bO D.av.row Hq.o.1;have x:=D.av.setRow (r.length*2+1) (.j (max t.2 H));rw[Hq.o.2.1]at x;have HZ:=zh x.bM;have HE:=zh E;clear E D x;refine eQ 14 zk (aM rfl rfl (dx zg ?_));obtain⟨t1,d⟩:=a;obtain rfl:d=[]:=HE.o.defers;refine dB zk (hY.o _ _ HE.o.size ⟨?_,HZ.o⟩) _;simp only[yL,xB,e1,e6,V,U,T]
     rfl
   rintro z5 vs w7-⟨rfl,hO⟩;simp[bz,lk];have B:=zh hO;clear hO;go_wp2;refine hX.o _ _ _ zo rfl ⟨k+1,_,(t.1,max t.2 H)::r,zo,rfl,rfl,B.o,?_,by simp;omega,?_⟩
   .rw[<-V'.o];exact HJ.o.2.2.1
   .have ht:=Hq.o.2.2;intro s K;rcases yA.1 K with rfl|K
    .unfold o8 at*;exact qdu
    .exact HJ.o.2.2.2 s (zU _ K)
 .obtain rfl:k=l.length:=zo;rw[zQ zo]at hj;have G':out=jH nx p []:=hj;clear hj;subst G';have q':=jO (m:=m) (l:=(jH nx p []).reverse) (by simpa using hO.row) (fun s K=>Cx (j' s (List.mem_reverse.1 K)));have hfin:=bS hO.bP.done q';have g':=zh qgd;clear hO q' hfin;go_wp2;refine hR.o _ _ ⟨_,p,rfl,by rw[<-hG];exact g'.o.1,HP.o.1,HP.o.2.1,?_⟩;exact g'.o.2
theorem nJ(w:zW)(a:Addr)(v:zV):(w.setCell a v).heap.size=w.heap.size:=by simp[World.setCell]
theorem Qq{l:List dh}:∀s∈nz l,o8 s:=fun s h=>by
 have:=TH s h;unfold o8;simp only[fV]at this;omega
theorem Qs{l:List dh}:∀s∈nA l,o8 s:=fun s h=>by
 have:=TJ s h;unfold o8;simp only[iH]at this;omega
theorem WB{l:List dh}{k:Nat}(h:k<=l.length):(nz (l.take k)).length<=k:=by
 have:=Eo (l.take k);rw[List.length_take]at this;omega
theorem WC{l:List dh}{k:Nat}(h:k<=l.length):(nA (l.take k)).length<=k:=by
 have:=Ep (l.take k);rw[List.length_take]at this;omega
theorem jD(vi vf:zV)(I F:List dh)(m:Mem)(w:zW)(hm:m.az w)(hN:dA m vi vf I F)(hI:I.length<=100000)(hF:F.length<=100000):
 zC 62 #[.agg #[vi,vf]] w fun e w'=>∃ri rf,e=.returned (.agg #[ri,rf])/\zB w w'/\dA (m.grow w w') ri rf (gz I F).i (gz I F).rf:=by
 have f:=((Own.start hm).al #[vi,vf] 24).al #[.slice none 0 0,.slice none 0 0] 24;have n':(w.alloc (.cells #[vi,vf] 24)).heap.size=w.heap.size+1:=by simp
 rw[n']at f;obtain⟨hi,hf⟩:=hN;have HI:=zh (zi hi hf);obtain⟨ai,ci,rfl,i1,i2,i3⟩:=hi;obtain⟨af,cf,rfl,f1,f2,f3⟩:=hf;unfold maxLen at i2 f2;have HO:=zh (f.fE 100 2);clear f n';refine au fun R hR=>?_
 go_enter func62,ntmps62
 go_wp2;refine aB [1,2,3,4,10,11,12] (fun n vs wr=>∃(k:Nat) (vo:zV),k<=I.length/\n=I.length-k/\vs=[.p w.heap.size,.p (w.heap.size+1),vo,.n,.slice ai I.length ci,.j I.length,.j k] /\
  Own w m wr m [.row vo 100 2 (nz (I.take k)).length (bN (nz (I.take k))),.obj (w.heap.size+1) 24 #[.slice none 0 0,.slice none 0 0],.obj w.heap.size 24 #[.slice ai I.length ci,.slice af F.length cf]]) ?_ ?_
 .exact⟨_,0,.n,zG _,rfl,rfl,HO.o⟩
 clear HO;rintro X z n vs wr hX-⟨k,vo,hk,rfl,rfl,f⟩;simp[bz,lk];obtain⟨V,U,rfl⟩:=bv f.row;by_cases hlt:k<I.length
 .obtain⟨b,off,rfl,h4⟩:=i3 qdJ;have hg:=h4 k hlt;have r1:=azk f.az hg.1;have r2:=azk f.az hg.2.1;have rl:=bzu f.az hg.1;have G:=TG I k hlt;have Y':=WB hk;have t:=zh (zi G hg);clear G h4 hg;generalize nz (I.take k)=H at*
  generalize I[k]=q at*
  obtain⟨Z,W⟩:=q;simp only at r1 r2;have D:=zh (f.al #[.int .i64 Z,.int .i64 W] 100);clear f
  go_upto_region 5 with(fail)
  generalize u':wr.alloc (.cells #[.int .i64 Z,.int .i64 W] 100)=w5 at*
  generalize wr.heap.size=S at*
  refine aW [1,2,3,4,6,10,11,12] (fun vs w'=>∃x y:Int,x=max Z (-fV)/\y=min W fV/\vs=[.p w.heap.size,.p (w.heap.size+1),.slice V H.length U,.n,.p S,.slice (some ⟨b,off,none⟩) I.length ci,.j I.length,.j k] /\
   Own w m w' m [.obj S 100 #[.int .i64 x,.int .i64 y],.row (.slice V H.length U) 100 2 H.length (bN H),.obj (w.heap.size+1) 24 #[.slice none 0 0,.slice none 0 0],.obj w.heap.size 24 #[.slice (some ⟨b,off,none⟩) I.length ci,.slice af F.length cf]]) ?_ ?_
  .intro Y hY;have q1:=D.o.obj.c 0;have q2:=D.o.obj.c 1;have q3:=D.o.obj.frozen 0;have q4:=D.o.obj.frozen 1;have q5:=D.o.obj.lt;go_wp2
   all_goals refine hY.o _ _ rfl ⟨_,_,?_,?_,rfl,(D.o.set 0 _).set 1 _⟩
   all_goals first
    |omega
    |(unfold fV;omega)
  rintro z4 vs w6-⟨x,y,hx,hy,rfl,f⟩;simp[bz,lk];have i':vM (Z,W)=(x,y):=by unfold vM;rw[hx,hy]
  have T:=zh i';clear i' hx hy D u';have s1:=f.obj.c 0;have s2:=f.obj.c 1;have s3:=f.obj.lt;by_cases g:x<=y
  .have E:decide (x<=y)=true:=zN g;have a:=(f.al #[.int .i64 x,.int .i64 y] 100).aR;have r:=a.av.obj.dQ rfl;have Hxy:=zh g;clear g f
   go_wp2_with (at_builtin;refine aU qi rfl (.tmp 28) (.tmp 30) rfl (.slice V H.length U) H.length _ rfl a.row ⟨w6.heap.size,0,none⟩ 1 1 [.j x,.j y] rfl rfl r qdN qdM zo ?_)
   intro va vc w7 p d j;have u:=(a.app p d j zS).bM.bM;have A:=zh u;clear u a p d j r s1 s2 s3;go_wp2;refine hX.o _ _ _ zo rfl ⟨k+1,_,zo,rfl,rfl,?_⟩;rw[t.o.1,T.o,zK (show x<=y from Hxy.o),eH,zL];exact A.o
  .have E:decide (x<=y)=false:=zM g;have A:=zh f.tail;have Hxy:=zh g;clear g f;go_wp2;refine hX.o _ _ _ zo rfl ⟨k+1,_,zo,rfl,rfl,?_⟩;rw[t.o.1,T.o,zJ (fun h:x<=y=>absurd h qeh),yR];exact A.o
 .obtain rfl:k=I.length:=zo;simp only[yG]at f⊢;have e':=jO (m:=m) (l:=nz I) f.row (fun s hs=>Cx (Qq s hs));have L:=czS (w:=wr) f.free;have M:=f.bP;generalize t':m.iA wr (.slice V (nz I).length U)=j' at*
  have HM:=zh (zi e' L);clear e' L t';have q1:=M.av.obj.c 1;have q2:=M.av.obj.lt;have HO:=zh (M.fE 100 2);clear f M;go_wp2;refine aB [2,3,4,34,35,36] (fun n vs w'=>∃(k:Nat) (vo:zV),k<=F.length/\n=F.length-k/\vs=[.p (w.heap.size+1),.slice V (nz I).length U,vo,.slice af F.length cf,.j F.length,.j k] /\
   Own w m w' j' [.row vo 100 2 (nA (F.take k)).length (bN (nA (F.take k))),.obj (w.heap.size+1) 24 #[.slice none 0 0,.slice none 0 0]]) ?_ ?_
  .exact⟨_,0,.n,zG _,rfl,rfl,HO.o.Bd⟩
  clear HO hX q1 q2;rintro X z n vs w8 hX-⟨k,vo,hk,rfl,rfl,f⟩;simp[bz,lk];obtain⟨P,O,rfl⟩:=bv f.row;by_cases hlt:k<F.length
  .obtain⟨b,off,rfl,h4⟩:=f3 qdJ;have hg:=h4 k hlt;have k':=bzw HM.o.2 f.az;have r1:=azk k' hg.1;have r2:=azk k' hg.2.1;have rl:=bzu k' hg.1;have G:=TI F k hlt;have Y':=WC hk;have t:=zh (zi G hg);clear G h4 hg k';generalize nA (F.take k)=H at*
   generalize F[k]=q at*
   obtain⟨Z,W⟩:=q;simp only at r1 r2;have D:=zh (f.al #[.int .i64 Z,.int .i64 W] 100);clear f
   go_upto_region 12 with(fail)
   generalize u':w8.alloc (.cells #[.int .i64 Z,.int .i64 W] 100)=w5 at*
   generalize w8.heap.size=S at*
   refine aW [2,3,4,8,34,35,36] (fun vs w'=>∃x y:Int,x=max Z (-iH)/\y=min W iH/\vs=[.p (w.heap.size+1),.slice V (nz I).length U,.slice P H.length O,.p S,.slice (some ⟨b,off,none⟩) F.length cf,.j F.length,.j k] /\
    Own w m w' j' [.obj S 100 #[.int .i64 x,.int .i64 y],.row (.slice P H.length O) 100 2 H.length (bN H),.obj (w.heap.size+1) 24 #[.slice none 0 0,.slice none 0 0]]) ?_ ?_
   .intro Y hY;have q1:=D.o.obj.c 0;have q2:=D.o.obj.c 1;have q3:=D.o.obj.frozen 0;have q4:=D.o.obj.frozen 1;have q5:=D.o.obj.lt;go_wp2
    all_goals refine hY.o _ _ rfl ⟨_,_,?_,?_,rfl,(D.o.set 0 _).set 1 _⟩
    all_goals first
     |omega
     |(unfold iH;omega)
   rintro z4 vs w6-⟨x,y,hx,hy,rfl,f⟩;simp[bz,lk];have hb:(-1000000000000000<=x/\x<=9223372036854775807)/\(y<=1000000000000000 /\ -9223372036854775808<=y):=by
    have:=t.o.2.2.2;simp only[iH]at hx hy;omega
   have i':pI (Z,W)=(if x%10000=0 then x+1 else x,if y%10000=0 then y-1 else y):=by unfold pI trimF;rw[hx,hy]
   have T:=zh (zi i' hb);have K:=zh (uO x);have J:=zh (uO y);clear i' hx hy D u';have q3:=f.obj.frozen 0;have q4:=f.obj.frozen 1;have s1:=f.obj.c 0;have s2:=f.obj.c 1;have s3:=f.obj.lt;obtain⟨hbx,hby⟩:=hb;have N:=zh f;clear f;by_cases ex:x%10000=0<;>by_cases ey:y%10000=0
   .have d1:(x.tmod 10000==0)=true:=by first|exact beq_iff_eq.2 (K.o.2 ex)|exact zO.2 (fun e=>ex (K.o.1 e))
    have d2:(y.tmod 10000==0)=true:=by first|exact beq_iff_eq.2 (J.o.2 ey)|exact zO.2 (fun e=>ey (J.o.1 e))
    have f:=((N.o.set 0 (.j (x+1))).set 1 (.j (y-1)));have B:pI (Z,W)=((x+1),(y-1)):=by rw[T.o.1];simp[ex,ey]
    have C:=zh B;have s4:=f.obj.c 0;have s5:=f.obj.c 1;have s6:=f.obj.lt;clear B;by_cases g:(x+1)<=(y-1)
    .have E:decide ((x+1)<=(y-1))=true:=zN g;have a:=(f.al #[.int .i64 ((x+1)),.int .i64 ((y-1))] 100).aR
     try simp only[nJ]at a
     have r:=a.av.obj.dQ rfl;have Hxy:=zh g;clear g f
     go_wp2_with (at_builtin;refine aU qi rfl (.tmp 68) (.tmp 70) rfl (.slice P H.length O) H.length _ rfl a.row ⟨_,0,none⟩ 1 1 [.j ((x+1)),.j ((y-1))] rfl rfl r qdN qdM zo ?_)
     intro va vc w7 p d j;have u:=(a.app p d j zS).bM.bM;have A:=zh u;clear u a p d j r s1 s2 s3 s4 s5 s6 N;go_wp2;refine hX.o _ _ _ zo rfl ⟨k+1,_,zo,rfl,rfl,?_⟩;rw[t.o.1,C.o,zK (show(x+1)<=(y-1) from Hxy.o),eH,zL];exact A.o
    .have E:decide ((x+1)<=(y-1))=false:=zM g;have A:=zh f.tail;have Hxy:=zh g;clear g f;go_wp2;refine hX.o _ _ _ zo rfl ⟨k+1,_,zo,rfl,rfl,?_⟩;rw[t.o.1,C.o,zJ (fun h:(x+1)<=(y-1)=>absurd h qeh),yR];exact A.o
   .have d1:(x.tmod 10000==0)=true:=by first|exact beq_iff_eq.2 (K.o.2 ex)|exact zO.2 (fun e=>ex (K.o.1 e))
    have d2:(y.tmod 10000==0)=false:=by first|exact beq_iff_eq.2 (J.o.2 ey)|exact zO.2 (fun e=>ey (J.o.1 e))
    have f:=(N.o.set 0 (.j (x+1)));have B:pI (Z,W)=((x+1),(y)):=by rw[T.o.1];simp[ex,ey]
    have C:=zh B;have s4:=f.obj.c 0;have s5:=f.obj.c 1;have s6:=f.obj.lt;clear B;by_cases g:(x+1)<=(y)
    .have E:decide ((x+1)<=(y))=true:=zN g;have a:=(f.al #[.int .i64 ((x+1)),.int .i64 ((y))] 100).aR
     try simp only[nJ]at a
     have r:=a.av.obj.dQ rfl;have Hxy:=zh g;clear g f
     go_wp2_with (at_builtin;refine aU qi rfl (.tmp 68) (.tmp 70) rfl (.slice P H.length O) H.length _ rfl a.row ⟨_,0,none⟩ 1 1 [.j ((x+1)),.j ((y))] rfl rfl r qdN qdM zo ?_)
     intro va vc w7 p d j;have u:=(a.app p d j zS).bM.bM;have A:=zh u;clear u a p d j r s1 s2 s3 s4 s5 s6 N;go_wp2;refine hX.o _ _ _ zo rfl ⟨k+1,_,zo,rfl,rfl,?_⟩;rw[t.o.1,C.o,zK (show(x+1)<=(y) from Hxy.o),eH,zL];exact A.o
    .have E:decide ((x+1)<=(y))=false:=zM g;have A:=zh f.tail;have Hxy:=zh g;clear g f;go_wp2;refine hX.o _ _ _ zo rfl ⟨k+1,_,zo,rfl,rfl,?_⟩;rw[t.o.1,C.o,zJ (fun h:(x+1)<=(y)=>absurd h qeh),yR];exact A.o
   .have d1:(x.tmod 10000==0)=false:=by first|exact beq_iff_eq.2 (K.o.2 ex)|exact zO.2 (fun e=>ex (K.o.1 e))
    have d2:(y.tmod 10000==0)=true:=by first|exact beq_iff_eq.2 (J.o.2 ey)|exact zO.2 (fun e=>ey (J.o.1 e))
    have f:=(N.o.set 1 (.j (y-1)));have B:pI (Z,W)=((x),(y-1)):=by rw[T.o.1];simp[ex,ey]
    have C:=zh B;have s4:=f.obj.c 0;have s5:=f.obj.c 1;have s6:=f.obj.lt;clear B;by_cases g:(x)<=(y-1)
    .have E:decide ((x)<=(y-1))=true:=zN g;have a:=(f.al #[.int .i64 ((x)),.int .i64 ((y-1))] 100).aR
     try simp only[nJ]at a
     have r:=a.av.obj.dQ rfl;have Hxy:=zh g;clear g f
     go_wp2_with (at_builtin;refine aU qi rfl (.tmp 68) (.tmp 70) rfl (.slice P H.length O) H.length _ rfl a.row ⟨_,0,none⟩ 1 1 [.j ((x)),.j ((y-1))] rfl rfl r qdN qdM zo ?_)
     intro va vc w7 p d j;have u:=(a.app p d j zS).bM.bM;have A:=zh u;clear u a p d j r s1 s2 s3 s4 s5 s6 N;go_wp2;refine hX.o _ _ _ zo rfl ⟨k+1,_,zo,rfl,rfl,?_⟩;rw[t.o.1,C.o,zK (show(x)<=(y-1) from Hxy.o),eH,zL];exact A.o
    .have E:decide ((x)<=(y-1))=false:=zM g;have A:=zh f.tail;have Hxy:=zh g;clear g f;go_wp2;refine hX.o _ _ _ zo rfl ⟨k+1,_,zo,rfl,rfl,?_⟩;rw[t.o.1,C.o,zJ (fun h:(x)<=(y-1)=>absurd h qeh),yR];exact A.o
   .have d1:(x.tmod 10000==0)=false:=by first|exact beq_iff_eq.2 (K.o.2 ex)|exact zO.2 (fun e=>ex (K.o.1 e))
    have d2:(y.tmod 10000==0)=false:=by first|exact beq_iff_eq.2 (J.o.2 ey)|exact zO.2 (fun e=>ey (J.o.1 e))
    have f:=(N.o);have B:pI (Z,W)=((x),(y)):=by rw[T.o.1];simp[ex,ey]
    have C:=zh B;have s4:=f.obj.c 0;have s5:=f.obj.c 1;have s6:=f.obj.lt;clear B;by_cases g:(x)<=(y)
    .have E:decide ((x)<=(y))=true:=zN g;have a:=(f.al #[.int .i64 ((x)),.int .i64 ((y))] 100).aR
     try simp only[nJ]at a
     have r:=a.av.obj.dQ rfl;have Hxy:=zh g;clear g f
     go_wp2_with (at_builtin;refine aU qi rfl (.tmp 68) (.tmp 70) rfl (.slice P H.length O) H.length _ rfl a.row ⟨_,0,none⟩ 1 1 [.j ((x)),.j ((y))] rfl rfl r qdN qdM zo ?_)
     intro va vc w7 p d j;have u:=(a.app p d j zS).bM.bM;have A:=zh u;clear u a p d j r s1 s2 s3 s4 s5 s6 N;go_wp2;refine hX.o _ _ _ zo rfl ⟨k+1,_,zo,rfl,rfl,?_⟩;rw[t.o.1,C.o,zK (show(x)<=(y) from Hxy.o),eH,zL];exact A.o
    .have E:decide ((x)<=(y))=false:=zM g;have A:=zh f.tail;have Hxy:=zh g;clear g f;go_wp2;refine hX.o _ _ _ zo rfl ⟨k+1,_,zo,rfl,rfl,?_⟩;rw[t.o.1,C.o,zJ (fun h:(x)<=(y)=>absurd h qeh),yR];exact A.o
  .obtain rfl:k=F.length:=zo;simp only[yG]at f⊢;have e':=jO (m:=j') (l:=nA F) f.row (fun s hs=>Cx (Qs s hs));have L:=czS (w:=w8) f.free;have M:=f.bP;generalize t':j'.iA w8 (.slice P (nA F).length O)=W' at*
   have L':=zh (CJ 95 _ Ia _ (nz I) W' w8 M.az (bS L HM.o.1) (by have:=Eo I;omega) Qq);have m':=zh (zi e' M);clear e' L t' f M hX
   go_wp2_with fail
   refine L'.o.mono ?_;rintro e wa ⟨r1,p1,rfl,I',G',E',Q⟩;have a:=m'.o.2.call I';have g':=Xt G' E';rw[g']at Q;have M':=zh (CJ 96 _ Ib _ (nA F) _ wa a.az (bS (bzx m'.o.2.az) m'.o.1) (by have:=Ep F;omega) Qs);have l':=zh (zi Q a);obtain⟨ra,rc,rfl⟩:=eT Q;clear L' m' I' g' G' E' a Q
   go_wp2_with fail
   refine M'.o.mono ?_;rintro e wb ⟨r2,p2,rfl,H',F',D',f'⟩;have a:=l'.o.2.call H';have g':=Tq F' D';rw[g']at f';have Q:=bS (bzx l'.o.2.az (w:=wb)) l'.o.1;obtain⟨sa,sc,rfl⟩:=eT f';simp only[xC]at f';have g0:=a.obj.c 0;have g1:=a.obj.c 1;have g2:=a.obj.frozen 0;have g3:=a.obj.frozen 1;have g4:=a.obj.lt;have u:=(a.set 0 (.slice ra (IG I).length rc)).set 1 (.slice sa (CZ F).length sc);have g5:=u.obj.c 0;have g6:=u.obj.c 1;have o':dA (m.grow w _) _ _ (gz I F).i (gz I F).rf:=⟨bS u.done Q,bS u.done f'⟩;have Hk:=zh (zi u.aF o');clear l' M' H' g' F' D' Q f' a u o';go_wp2;refine yV (v:=.agg #[.slice ra (IG I).length rc,.slice sa (CZ F).length sc]) (by simp[results,results62,go_sem,g5,g6]) rfl ?_;exact qaU
def iJ(I F:List dh)(m:Mem)(v:zV):Prop:=∃d c b a,v=.agg #[.slice d I.length c,.slice b F.length a]/\dA m (.slice d I.length c) (.slice b F.length a) I F
def DI(l:List dh)(m:Mem)(v:zV):Prop:=∃a c,v=.slice a l.length c/\dD m (.slice a l.length c) l
theorem dA.dm{m:Mem}{e g:zV}{I F:List dh}(h:dA m e g I F):∃n l k j,e=.slice n I.length l/\g=.slice k F.length j:=by
 obtain⟨a,c,rfl⟩:=eT h.i;obtain⟨b,d,rfl⟩:=eT h.f;exact⟨a,c,b,d,rfl,rfl⟩
theorem qj{m:Mem}{e f:zV}{I F:List dh}(h:dA m e f I F):iJ I F m (.agg #[e,f]):=by
 obtain⟨a,c,b,d,rfl,rfl⟩:=h.dm;exact⟨a,c,b,d,rfl,h⟩
theorem DW{m:Mem}{v:zV}{l:List dh}(h:dD m v l):DI l m v:=by
 obtain⟨a,c,rfl⟩:=eT h;exact⟨a,c,rfl,h⟩
theorem iJ.le{I F:List dh}{m m':Mem}(h:m.le m'){v:zV}(k:iJ I F m v):iJ I F m' v:=by
 obtain⟨a,c,b,d,e,f⟩:=k;exact⟨a,c,b,d,e,f.le h⟩
theorem DI.le{l:List dh}{m m':Mem}(h:m.le m'){v:zV}(k:DI l m v):DI l m' v:=by
 obtain⟨a,c,e,b⟩:=k;exact⟨a,c,e,bS h b⟩
theorem fM{R:Mem->Value->Prop}(b:∀{m m':Mem},m.le m'->∀{v:zV},R m v->R m' v){m:Mem}{w w':zW}{a:pY}{i:Nat}(c:m.az w)(d:zB w w'){r:zV}
(h:R (m.grow w w') r):R (m.fJ w' (a.put i (w.heap.size,w'.heap.size)) [i]) r:=b (ezX c a i d) h
theorem lh{R:Mem->Value->Prop}(b:∀{m m':Mem},m.le m'->∀{v:zV},R m v->R m' v){m:Mem}{w w':zW}{a:pY}{i:Nat}{ds:List Nat}(e:m.az w)(f:∀d∈ds,d≠i)(c:∀d∈ds,(a d).2<=w.heap.size)
(g:zB w w'){r:zV}(h:R ((m.fJ w a ds).grow w w') r):R (m.fJ w' (a.put i (w.heap.size,w'.heap.size)) (i::ds)) r:=b (ezY e a f c g) h
theorem qU{m:Mem}{R:Mem->Value->Prop}{w:zW}{v:zV}{i:Nat}{q:Nat×Nat}(ds:List Nat)(a:pY)(hi:i ∉ ds)(c:∀d∈ds,(a d).2<=w.heap.size)(h:R (m.fJ w a ds) v):
 (aI.mem m ds R).holds v (a.put i q) w:=
 (aI.mem m ds R).mono _ a _ w w (fun d b=>⟨(pY.wL a _ (fun e=>hi (by rw[<-e];exact b))).symm,c d b⟩) (zR _ _) h
theorem Td(n p t u:zV)(I F J G:List dh)(m:Mem)(w:zW)(H:m.az w)(s:dA m n p I F)(r:dA m t u J G):
 zX 184 #[.agg #[n,p],.agg #[t,u]] w (.bool (tf (I=J/\F=G))):=by
 have q:=((Own.start H).al #[n,p] 24).al #[t,u] 24;have b:(w.alloc (.cells #[n,p] 24)).heap.size=w.heap.size+1:=by simp
 rw[b]at q;have z:=zh (mO _ _ I J m _ q.az s.i r.i);have y:=zh (fun w' (h:m.az w')=>mO _ _ F G m w' h s.f r.f);obtain⟨T,O,Q,M,rfl,rfl⟩:=s.dm;obtain⟨S,N,P,L,rfl,rfl⟩:=r.dm;have x:=zh q;clear q b s r;refine au fun R B=>?_
 go_enter func184,ntmps184
 go_wp2_with fail
 refine z.o.mono ?_;rintro e C ⟨rfl,d⟩;have a:=x.o.aT d;by_cases g:I=J
 .rw[aN g];have l:=zh (y.o C a.az);have E:=a.obj.c 1;have D:=a.av.obj.c 1;have k:=zh a;have A:=zh g;clear x a d z y g
  go_wp2_with fail
  refine l.o.mono ?_;rintro e K ⟨rfl,j⟩;have v:=zh (k.o.aT j).aF;clear k j l E D;go_wp2;exact B.o _ _ ⟨aP (dY ⟨fun h=>⟨A.o,h⟩,fun h=>h.2⟩),v.o⟩
 .rw[aG g];have v:=zh a.aF;have A:=zh g;clear x a d z y g;go_wp2;exact B.o _ _ ⟨aP (by rw[aG (fun h=>A.o h.1)]),v.o⟩
theorem PS(h l:zV)(I F:List dh)(m:Mem)(w:zW)(B:m.az w)(n:dA m h l I F)(G:I.length<=100000)(H:F.length<=100000):
 zX 147 #[.agg #[h,l]] w (.bool (tf (I=(gz I F).i/\F=(gz I F).rf))):=by
 have r:=(Own.start B).al #[h,l] 24;obtain⟨v,t,u,s,rfl,rfl⟩:=n.dm;have p:=zh r;have x:=zh n;clear r n;refine au fun R D=>?_
 go_enter func147,ntmps147
 go_upto_region 1 with(fail)
 refine aW [2] (fun q w'=>q=[.bool (tf (I=(gz I F).i/\F=(gz I F).rf))]/\zB w w') ?_ ?_
 .intro Y C;refine bE 5 5 (fun j=>[aI.is (·=.agg #[.slice v I.length t,.slice u F.length s]),aI.is (·=.agg #[.slice v I.length t,.slice u F.length s]),aI.mem m [2] (iJ (gz I F).i (gz I F).rf),aI.is (·=.bool (tf (I=(gz I F).i/\F=(gz I F).rf))),aI.is (·=.bool (tf (I=(gz I F).i/\F=(gz I F).rf)))].getD j aI.any) zk zk ?_ ?_
  .intro i hi o b a g ho f;have HO3:=p.o.dr.aT f.aF;have V:=HO3.obj.c 0;have U:=HO3.obj.c 1;rcases(show i=0\/i=1\/i=2\/i=3\/i=4 by omega)with rfl|rfl|rfl|rfl|rfl
   .have L:=f.k 1;exact qaa
   .have L:=f.k 1;exact qaa
   .have X:zt a 4 _:=f.d 1 rfl;cases ho;refine we rfl rfl (jD _ _ I F m g HO3.az x.o G H) ?_;exact qhf
   .have Z:zt a 3 _:=f.d 0 rfl;have J:(aI.mem m [2] (iJ (gz I F).i (gz I F).rf)).holds (a.tmps.getD 5 undef) b g:=f.d 2 rfl;cases ho;obtain⟨Q,O,P,N,f1,y⟩:iJ _ _ _ _:=J;have A:=x.o.le (dzF HO3.az b [2]);refine we rfl rfl (Td _ _ _ _ I F (gz I F).i (gz I F).rf _ g (dzd HO3.az b [2]) A y) ?_;exact qag
   .have W:zt a 6 _:=f.d 3 rfl;exact qaa
  .intro b a g E;have K:a.tmps.getD 2 undef=.bool (tf (I=(gz I F).i/\F=(gz I F).rf)):=E.fact 4 _ zo rfl;obtain⟨T,d⟩:=a;obtain rfl:d=[]:=E.defers;refine dB zk (C.o _ _ E.size ⟨?_,(p.o.dr.aT E.aF).aF⟩) _;simp only[yL,xB,K]
 rintro z q S-⟨rfl,hb⟩;simp[bz,lk];have M:=zh hb;clear hb p;go_wp2;exact D.o _ _ ⟨rfl,M.o⟩
theorem WS{x y:dh}(b:pR x)(a:pR y):pR (kM x y):=by
 unfold pR kM at*;dsimp only;omega
theorem Ux{a b:List dh}(g:∀s∈a,pR s)(f:∀s∈b,pR s):∀s∈eG a b,pR s:=by
 intro s e;obtain⟨x,d,h⟩:=xW.1 e;obtain⟨y,c,rfl⟩:=yD.1 (xR.1 h).1;exact WS (g x d) (f y c)
def Ex(a b:List dh)(k j:Nat)(x:dh):List dh:=eG (a.take k) b++((b.take j).map (kM x)).filter fun z=>decide (z.1<=z.2)
theorem azP(a b:List dh)(k j:Nat)(x:dh)(hk:k<a.length):(Ex a b k j x).length<=a.length*b.length:=by
 have c:=yo (a.take k) b;have f:=vB (fun z:dh=>decide (z.1<=z.2)) ((b.take j).map (kM x));rw[xC,List.length_take]at f;rw[List.length_take]at c;have e:(k+1)*b.length<=a.length*b.length:=Nat.mul_le_mul_right _ zo;rw[Nat.add_mul,Nat.one_mul]at e;have d:min k a.length=k:=zo;rw[d]at c;unfold Ex;rw[zL];omega
theorem Ye(a b:List dh)(k j:Nat)(x:dh)(c:j<b.length):Ex a b k (j+1) x=Ex a b k j x++if(kM x b[j]).1<=(kM x b[j]).2 then[kM x b[j]]else[]:=by
 unfold Ex;rw[Xq x b j c,xD]
theorem Yd(a b:List dh)(k:Nat)(x:dh):Ex a b k 0 x=eG (a.take k) b:=by simp[Ex]
theorem azQ(a b:List dh)(k:Nat)(hk:k<a.length):Ex a b k b.length a[k]=eG (a.take (k+1)) b:=by
 rw[Q3 a b k hk];simp[Ex]
theorem CK(va vb:zV)(A B:List dh)(m:Mem)(w:zW)(hm:m.az w)(hA:dD m va A)(hB:dD m vb B)(D':A.length<=1000000)(C':B.length<=1000000)(n':A.length*B.length<=1000000):
 zC 63 #[va,vb] w fun e w'=>∃r,e=.returned r/\zB w w'/\dD (m.grow w w') r (eG A B):=by
 have j':=zh (Ux (BB hA) (BB hB));obtain⟨aa,ac,rfl,a1,a2,a3⟩:=hA;obtain⟨ba,W,rfl,b1,b2,b3⟩:=hB;unfold maxLen at a2 b2;have HO:=zh ((Own.start hm).fE 100 2);refine au fun R hR=>?_
 go_enter func63,ntmps63
 go_wp2;refine aB [1,5,11,12,13] (fun n H N=>∃(k:Nat) (J:zV),k<=A.length/\n=A.length-k/\H=[.slice ba B.length W,J,.slice aa A.length ac,.j A.length,.j k] /\
  Own w m N m [.row J 100 2 (eG (A.take k) B).length (bN (eG (A.take k) B))]) ?_ ?_
 .exact⟨_,0,.n,zG _,rfl,rfl,HO.o⟩
 clear HO;rintro X z n H N hX-⟨k,J,hk,rfl,rfl,hO⟩;simp[bz,lk];by_cases hlt:k<A.length
 .obtain⟨b,off,rfl,U⟩:=a3 qdJ;have F:=U k hlt;have r1:=azk hO.az F.1;have r2:=azk hO.az F.2.1;have rl:=bzu hO.az F.1;have L:=fun j=>azP A B k j A[k] hlt;have f:=fun j hj=>Ye A B k j A[k] hj;have P:=azQ A B k hlt;rw[<-Yd A B k A[k]]at hO;have HC:=zh (zi L (zi f P));clear U F L f P;generalize A[k]=q at*
  obtain⟨E,D⟩:=q;simp only at r1 r2;have a:=zh (hO.al #[.int .i64 E,.int .i64 D] 100);obtain⟨s,p,rfl⟩:=bv hO.row;clear hO;go_wp2;generalize M:N.alloc (.cells #[.int .i64 E,.int .i64 D] 100)=w5 at*
  generalize N.heap.size=S at*
  refine aB [1,5,7,11,12,13,17,18,19] (fun n H N=>∃(j:Nat) (J:zV),j<=B.length/\n=B.length-j/\H=[.slice ba B.length W,J,.p S,.slice (some ⟨b,off,none⟩) A.length ac,.j A.length,.j k,.slice ba B.length W,.j B.length,.j j] /\
   Own w m N m [.obj S 100 #[.int .i64 E,.int .i64 D],.row J 100 2 (Ex A B k j (E,D)).length (bN (Ex A B k j (E,D)))]) ?_ ?_
  .exact⟨_,0,_,zG _,rfl,rfl,a.o⟩
  clear a M r1 r2 rl;rintro Y z2 n H w6 hY-⟨j,J,hj,rfl,rfl,hO⟩;simp[bz,lk];obtain⟨s,p,rfl⟩:=bv hO.av.row;by_cases K:j<B.length
  .obtain⟨b',I,rfl,U⟩:=b3 (by intro h;simp[h]at K);have F:=U j K;have r1:=azk hO.az F.1;have r2:=azk hO.az F.2.1;have rl:=bzu hO.az F.1;have f:=HC.o.2.1 j K;have L:=HC.o.1 j;have a':=zh f;clear U F f;generalize B[j]=y at*
   obtain⟨ya,yb⟩:=y;simp only at r1 r2;generalize Ex A B k j (E,D)=O at*
   have a:=zh (hO.al #[.int .i64 ya,.int .i64 yb] 100);clear hO
   go_upto_region 8 with(fail)
   generalize M:w6.alloc (.cells #[.int .i64 ya,.int .i64 yb] 100)=w7 at*
   generalize w6.heap.size=Y0 at*
   refine aW [1,5,7,10,11,12,13,17,18,19] (fun H w'=>∃(c d:Int) (Z:Nat),c=max E ya/\d=min D yb/\H=[.slice (some ⟨b',I,none⟩) B.length W,.slice s O.length p,.p S,.p Z,.slice (some ⟨b,off,none⟩) A.length ac,.j A.length,.j k,.slice (some ⟨b',I,none⟩) B.length W,.j B.length,.j j] /\
    Own w m w' m [.obj Z 100 #[.int .i64 c,.int .i64 d],.obj S 100 #[.int .i64 E,.int .i64 D],.row (.slice s O.length p) 100 2 O.length (bN O)]) ?_ ?_
   .intro V hV;have q1:=a.o.obj.c 0;have q2:=a.o.obj.c 1;have q5:=a.o.obj.lt;have q6:=a.o.av.obj.c 0;have q7:=a.o.av.obj.c 1;have q8:=a.o.av.obj.lt;go_wp2
    all_goals refine hV.o _ _ rfl ⟨_,_,_,?_,?_,rfl,(a.o.tail.al #[.int .i64 _,.int .i64 _] _)⟩
    all_goals omega
   rintro z4 H w8-⟨c,d,Z,hc,hd,rfl,hO⟩;simp[bz,lk];have T:kM (E,D) (ya,yb)=(c,d):=by unfold kM;rw[hc,hd]
   have c':=zh T;clear T hc hd a M;have s1:=hO.obj.c 0;have s2:=hO.obj.c 1;have s3:=hO.obj.lt;by_cases i:c<=d
   .have Q:decide (c<=d)=true:=zN i;have G:=(hO.al #[.int .i64 c,.int .i64 d] 100).bV;have v:=G.av.obj.dQ rfl;have Hxy:=zh i;clear i hO
    go_wp2_with (at_builtin;refine aU qi rfl (.tmp 39) (.tmp 41) rfl (.slice s O.length p) O.length _ rfl G.row ⟨w8.heap.size,0,none⟩ 1 1 [.j c,.j d] rfl rfl v qdN qdM zo ?_)
    intro va vc w9 u g t;have x:=(G.app u g t zS).bM.bM.av;have C:=zh x;clear x G u g t v s1 s2 s3;go_wp2;refine hY.o _ _ _ zo rfl ⟨j+1,_,zo,rfl,rfl,?_⟩;rw[a'.o,c'.o,zK (show c<=d from Hxy.o),eH,zL];exact C.o
   .have Q:decide (c<=d)=false:=zM i;have C:=zh hO.tail;have Hxy:=zh i;clear i hO;go_wp2;refine hY.o _ _ _ zo rfl ⟨j+1,_,zo,rfl,rfl,?_⟩;rw[a'.o,c'.o,zJ (fun h:c<=d=>absurd h qeh),yR];exact C.o
  .obtain rfl:j=B.length:=zo;have x:Own w m w6 m [.row (.slice s (Ex A B k B.length (E,D)).length p) 100 2 (eG (A.take (k+1)) B).length (bN (eG (A.take (k+1)) B))]:=by
    have:=hO.tail;rw[<-HC.o.2.2];exact this
   have C:=zh x;clear hO x;go_wp2;exact hX.o _ _ _ zo rfl ⟨k+1,_,zo,rfl,rfl,C.o⟩
 .obtain rfl:k=A.length:=zo;simp only[yG]at hO⊢;have f:=jO (m:=m) (l:=eG A B) hO.row j'.o;have hfin:=bS hO.bP.done f;have Hfin:=zh qgd;clear hO f hfin;go_wp2;exact qa5
theorem K4(vi vf ui uf:zV)(I F J G:List dh)(m:Mem)(w:zW)(hm:m.az w)(h1:dA m vi vf I F)(h2:dA m ui uf J G)(hI:I.length<=300)(hF:F.length<=300)(hJ:J.length<=300)(hG:G.length<=300):
 zC 44 #[.agg #[vi,vf],.agg #[ui,uf]] w fun e w'=>∃ri rf,e=.returned (.agg #[ri,rf])/\zB w w'/\dA (m.grow w w') ri rf (qA (gz I F) (gz J G)).i (qA (gz I F) (gz J G)).rf:=by
 have C:=(((Own.start hm).al #[vi,vf] 24).al #[ui,uf] 24).al #[.slice none 0 0,.slice none 0 0] 24;have N:(w.alloc (.cells #[vi,vf] 24)).heap.size=w.heap.size+1:=by simp
 have M:((w.alloc (.cells #[vi,vf] 24)).alloc (.cells #[ui,uf] 24)).heap.size=w.heap.size+1+1:=by simp
 rw[M,N]at C;obtain⟨a1,c1,b1,d1,rfl,rfl⟩:=h1.dm;obtain⟨a2,c2,b2,d2,rfl,rfl⟩:=h2.dm;have H:=zh C;have H1:=zh (zi h1 h2);clear C h1 h2 N M;refine au fun R hR=>?_
 go_enter func44,ntmps44
 go_upto_region 1 with(fail)
 refine aW [4,5,6] (fun vs w'=>∃(g1 g2:Nat) (mk:Mem) (Y W T S:Option Addr) (V U Q P:Nat),vs=[.pointer (some ⟨w.heap.size+1+1,0,none⟩),.pointer (some ⟨g1,0,none⟩),.pointer (some ⟨g2,0,none⟩)] /\
  Own w m w' mk [.obj g2 24 #[.slice T (gz J G).i.length Q,.slice S (gz J G).rf.length P],.obj g1 24 #[.slice Y (gz I F).i.length V,.slice W (gz I F).rf.length U],.obj (w.heap.size+1+1) 24 #[.slice none 0 0,.slice none 0 0]] /\
  dA mk (.slice Y (gz I F).i.length V) (.slice W (gz I F).rf.length U) (gz I F).i (gz I F).rf/\dA mk (.slice T (gz J G).i.length Q) (.slice S (gz J G).rf.length P) (gz J G).i (gz J G).rf) ?_ ?_
 .intro X hX;refine bE 6 6 (fun j=>[aI.is (·=.agg #[.slice a1 I.length c1,.slice b1 F.length d1]),aI.mem m [1] (iJ (gz I F).i (gz I F).rf),aI.is (·=.agg #[.slice a2 J.length c2,.slice b2 G.length d2]),aI.mem m [3] (iJ (gz J G).i (gz J G).rf),aI.obj 4 24 #[.slice none 0 0,.slice none 0 0],aI.obj 5 24 #[.slice none 0 0,.slice none 0 0]].getD j aI.any) zk zk ?_ ?_
  .intro i hi o b a n p h;have g:=H.o.dr.aT h.aF;have q1:=g.av.obj.c 0;have q2:=g.av.obj.c 1;have q3:=g.aR.obj.c 0;have q4:=g.aR.obj.c 1;rcases(show i=0\/i=1\/i=2\/i=3\/i=4\/i=5 by omega)with rfl|rfl|rfl|rfl|rfl|rfl
   .have e2:=h.k 2;cases p;exact wv rfl rfl rfl
   .have e7:zt a 7 _:=h.d 0 rfl;cases p;refine we rfl rfl (jD _ _ I F m n g.az H1.o.1 zo zo) ?_;rintro e w' ⟨ri,rf,rfl,A,K⟩;exact⟨_,rfl,_,rfl,A,fM iJ.le g.az A (qj K)⟩
   .have e3:=h.k 3;cases p;exact wv rfl rfl rfl
   .have e9:zt a 9 _:=h.d 2 rfl;cases p;refine we rfl rfl (jD _ _ J G m n g.az H1.o.2 zo zo) ?_;rintro e w' ⟨ri,rf,rfl,A,K⟩;exact⟨_,rfl,_,rfl,A,fM iJ.le g.az A (qj K)⟩
   .cases p;exact aM rfl rfl (aS zg ⟨_,rfl,bY (zR _ _) _,Nv b⟩)
   .cases p;exact aM rfl rfl (aS zg ⟨_,rfl,bY (zR _ _) _,Nv b⟩)
  .intro b a n E;have e4:=E.keep 4 zk;have e5:(aI.obj 4 24 #[.slice none 0 0,.slice none 0 0]).holds (a.tmps.getD 5 undef) b n:=E.fact 4 _ zo rfl;have e6:(aI.obj 5 24 #[.slice none 0 0,.slice none 0 0]).holds (a.tmps.getD 6 undef) b n:=E.fact 5 _ zo rfl;have e8:(aI.mem m [1] (iJ (gz I F).i (gz I F).rf)).holds (a.tmps.getD 8 undef) b n:=E.fact 1 _ zo rfl;have R':(aI.mem m [3] (iJ (gz J G).i (gz J G).rf)).holds (a.tmps.getD 10 undef) b n:=E.fact 3 _ zo rfl;obtain⟨Y,V,W,U,f1,u⟩:iJ _ _ _ _:=e8;obtain⟨T,Q,S,P,f2,L⟩:iJ _ _ _ _:=R';obtain⟨p1,n1,o1⟩:_/\_/\_:=e5;obtain⟨p2,n2,o2⟩:_/\_/\_:=e6;have g1:=E.iQ 4 zo;have g2:=E.iQ 5 zo;have s':∀j,j=4\/j=5->∀d∈[1,3],¬((b d).1<=(b j).1/\(b j).1<(b d).2):=by
    intro j hj d D;have hd':d=1\/d=3:=by simpa using D
    have:=E.apart j d zo zo zo;have:(b j).2=(b j).1+1:=by rcases hj with rfl|rfl<;>assumption
    omega
   have l:=(H.o.dr.bM.bM).region E.aF b [1,3] (fun d D=>(E.iQ d (by simp at D;omega)).1);have no:∀j,j=4\/j=5->m.fJ n b [1,3] (b j).1=none:=fun j hj=>
    ezV (eza H.o.dr.az (E.iQ j zo).1) (s' j hj)
   have p':=(H.o.dr.bM.bM).Oy g1.1;have o':=(H.o.dr.bM.bM).Oy g2.1;have T':=E.apart 4 5 zo zo zo;have F':=H.o.dr.aF.size;have s:=l.newObj o1 zo (no 4 zo) p';have s:=s.newObj o2 zo (no 5 zo) (bzc zo o');have u:=u.le (cz7 (es:=[1,3]) l.fzr b zS);have L:=L.le (cz7 (es:=[1,3]) l.fzr b zS);have HK:=zh (zi u L);generalize m.fJ n b [1,3]=mk at*
   generalize (b 4).1=q1 at*
   generalize (b 5).1=q2 at*
   have HE:=zh E;clear u L p' o' no s' l T' g1 g2 o1 o2 n1 n2 F' E;have b1:=s.av.obj.frozen 0;have g':=s.av.obj.frozen 1;have b2:=s.av.obj.c 0;have f':=s.av.obj.c 1;have b3:=s.av.obj.lt;have q:=(s.av.set 0 (.slice Y (gz I F).i.length V)).set 1 (.slice W (gz I F).rf.length U);refine eQ 6 zk (aM rfl rfl (dx zg ?_));clear b1 b2 b3 g' f';have b1:=q.av.obj.frozen 0;have g':=q.av.obj.frozen 1;have b2:=q.av.obj.c 0;have f':=q.av.obj.c 1;have b3:=q.av.obj.lt;have H':=(q.av.set 0 (.slice T (gz J G).i.length Q)).set 1 (.slice S (gz J G).rf.length P);refine eQ 7 zk (aM rfl rfl (dx zg ?_));obtain⟨t,d⟩:=a;obtain rfl:d=[]:=HE.o.defers;refine dB zk (hX.o _ _ HE.o.size ⟨q1,q2,mk,Y,W,T,S,V,U,Q,P,?_,H',HK.o⟩) _;simp only[yL,xB,e4,p1,p2]
   rfl
 rintro z vs w1-⟨G1,G2,mk,Y,W,T,S,V,U,Q,P,rfl,C,n',m'⟩;simp[bz,lk];clear H;have hx:=kH I F;have hy:=kH J G;have e':=jP hI hF;have d':=jP hJ hG;have O:=czU hx hy;have l1:=e'.i;have l2:=e'.f;have l3:=d'.i;have l4:=d'.f;rw[<-NS.sG]at l2 l4;generalize gz I F=x at*
 generalize gz J G=y at*
 have hm1:x.i.length*y.i.length<=90000:=xV l1 l3;have hm2:x.rf.length*y.rf.length<=90000:=xV l2 l4;have hc1:=yo x.i y.i;have hc2:=yo x.rf y.rf;have H:=zh C;have B:=zh (zi n' (zi m' O));clear C n' m' O hx hy e' d'
 go_upto_region 2 with(fail)
 refine aW [4] (fun vs w'=>∃(mk':Mem) (ra rb:Option Addr) (rc Z:Nat),vs=[.pointer (some ⟨w.heap.size+1+1,0,none⟩)] /\
  Own w m w' mk' [.obj (w.heap.size+1+1) 24 #[.slice ra (qA x y).i.length rc,.slice rb (qA x y).rf.length Z]] /\
  dA mk' (.slice ra (qA x y).i.length rc) (.slice rb (qA x y).rf.length Z) (qA x y).i (qA x y).rf) ?_ ?_
 .intro X hX;refine bE 12 6 (fun j=>[aI.is (·=.pointer (some ⟨G1,0,none⟩)),aI.is (·=.slice Y x.i.length V),aI.is (·=.pointer (some ⟨G2,0,none⟩)),aI.is (·=.slice T y.i.length Q),aI.mem mk [4] (DI (eG x.i y.i)),aI.is (·=.pointer (some ⟨G1,1,none⟩)),aI.is (·=.slice W x.rf.length U),aI.is (·=.pointer (some ⟨G2,1,none⟩)),aI.is (·=.slice S y.rf.length P),aI.mem mk [9] (DI (eG x.rf y.rf)),aI.mem mk [4,9] (iJ (eG x.i y.i) (eG x.rf y.rf)),aI.mem mk [11,4,9] (iJ (qA x y).i (qA x y).rf)].getD j aI.any) zk zk ?_ ?_
  .intro i hi o b a n p h;have g:=H.o.dr.aT h.aF;have q1:=g.obj.c 0;have q2:=g.obj.c 1;have q3:=g.av.obj.c 0;have q4:=g.av.obj.c 1;rcases(show i=0\/i=1\/i=2\/i=3\/i=4\/i=5\/i=6\/i=7\/i=8\/i=9\/i=10\/i=11 by omega)with rfl|rfl|rfl|rfl|rfl|rfl|rfl|rfl|rfl|rfl|rfl|rfl
   .have e5:=h.k 5;cases p;exact wv rfl rfl rfl
   .have e11:zt a 11 _:=h.d 0 rfl;cases p;exact wv rfl rfl rfl
   .have e6:=h.k 6;cases p;exact wv rfl rfl rfl
   .have e13:zt a 13 _:=h.d 2 rfl;cases p;exact wv rfl rfl rfl
   .have e12:zt a 12 _:=h.d 1 rfl;have e14:zt a 14 _:=h.d 3 rfl;cases p;refine we rfl rfl (CK _ _ x.i y.i mk n g.az B.o.1.i B.o.2.1.i zo zo zo) ?_;rintro e w' ⟨r,rfl,A,K⟩;exact⟨_,rfl,_,rfl,A,fM DI.le g.az A (DW K)⟩
   .have e5:=h.k 5;cases p;exact wv rfl rfl rfl
   .have e16:zt a 16 _:=h.d 5 rfl;cases p;exact wv rfl rfl rfl
   .have e6:=h.k 6;cases p;exact wv rfl rfl rfl
   .have e18:zt a 18 _:=h.d 7 rfl;cases p;exact wv rfl rfl rfl
   .have e17:zt a 17 _:=h.d 6 rfl;have e19:zt a 19 _:=h.d 8 rfl;cases p;refine we rfl rfl (CK _ _ x.rf y.rf mk n g.az B.o.1.f B.o.2.1.f zo zo zo) ?_;rintro e w' ⟨r,rfl,A,K⟩;exact⟨_,rfl,_,rfl,A,fM DI.le g.az A (DW K)⟩
   .have Q':(aI.mem mk [4] (DI (eG x.i y.i))).holds (a.tmps.getD 15 undef) b n:=h.d 4 rfl;have P':(aI.mem mk [9] (DI (eG x.rf y.rf))).holds (a.tmps.getD 20 undef) b n:=h.d 9 rfl;cases p;obtain⟨r1,s1,k1,t1⟩:DI _ _ _:=Q';obtain⟨r2,s2,k2,t2⟩:DI _ _ _:=P';have f15:=(zY (xs:=a.tmps) (i:=15) (d:=undef)).symm.trans k1;have f20:=(zY (xs:=a.tmps) (i:=20) (d:=undef)).symm.trans k2;have t1:=bS (cz7 (es:=[4,9]) g.az b zS) t1;have t2:=bS (cz7 (es:=[4,9]) g.az b zS) t2;exact aM rfl rfl (aS zg ⟨_,rfl,zR _ _,qU [4,9] (R:=iJ (eG x.i y.i) (eG x.rf y.rf)) b zS (fun d D=>(h.iQ d (by simp at D;rcases D with rfl|rfl<;>kernel_rfl)).2.2) ⟨r1,s1,r2,s2,rfl,t1,t2⟩⟩)
   .have O':(aI.mem mk [4,9] (iJ (eG x.i y.i) (eG x.rf y.rf))).holds (a.tmps.getD 21 undef) b n:=h.d 10 rfl;cases p;obtain⟨r1,s1,r2,s2,k1,t1⟩:iJ _ _ _ _:=O';refine we rfl rfl (jD _ _ _ _ _ n (dzd g.az b [4,9]) t1 zo zo) ?_;rintro e w' ⟨ri,rf,rfl,A,K⟩;rw[B.o.2.2]at K;exact⟨_,rfl,_,rfl,A,lh (ds:=[4,9]) iJ.le g.az zS (fun d D=>(h.iQ d (by simp at D;rcases D with rfl|rfl<;>kernel_rfl)).2.2) A (qj K)⟩
  .intro b a n E;have e4:=E.keep 4 zk;have N':(aI.mem mk [11,4,9] (iJ (qA x y).i (qA x y).rf)).holds (a.tmps.getD 22 undef) b n:=E.fact 11 _ zo rfl;obtain⟨ra,rc,rb,Z,f1,u⟩:iJ _ _ _ _:=N';have l:=H.o.tail.tail.dr.region E.aF b [11,4,9] (fun d D=>(E.iQ d (by simp at D;omega)).1);have HE:=zh E;generalize mk.fJ n b [11,4,9]=D' at*
   have HK:=zh u;clear E u;have b1:=l.obj.frozen 0;have g':=l.obj.frozen 1;have b2:=l.obj.c 0;have f':=l.obj.c 1;have b3:=l.obj.lt;have q:=(l.set 0 (.slice ra (qA x y).i.length rc)).set 1 (.slice rb (qA x y).rf.length Z);refine eQ 12 zk (aM rfl rfl (dx zg ?_));obtain⟨t,d⟩:=a;obtain rfl:d=[]:=HE.o.defers;refine dB zk (hX.o _ _ HE.o.size ⟨D',ra,rb,rc,Z,?_,q,HK.o⟩) _;simp only[yL,xB,e4]
   rfl
 rintro z2 vs w2-⟨mk',ra,rb,rc,Z,rfl,C,hr⟩;simp[bz,lk];have g5:=C.obj.c 0;have g6:=C.obj.c 1;have Hk:=zh (zi C.aF (hr.le C.done));clear C hr H B;go_wp2;refine yV (v:=.agg #[.slice ra (qA x y).i.length rc,.slice rb (qA x y).rf.length Z]) (by simp[results,results44,go_sem,g5,g6]) rfl ?_;exact hR.o _ _ ⟨_,_,rfl,Hk.o.1,Hk.o.2⟩
attribute [local go_sem] Oper.semAt_some
theorem vY{F:Fence}{d:Nat}{P:Program}{t e:TypeId}{size bytes:Nat}(S:fB P t e size bytes){w:zW}{ops:Array Oper}{rest:List Oper}{o:Oper}{a:Act}{Q:Exit->Act->World->Prop}(hgd:o.guard=none)(s x:Operand)
(ho:o.op=.call { callee:=.builtin .append,args:=#[s,x],argTypes:=#[t,t] })
(v:zV)(n:Nat)(xs:List Value)(hs:a.eval s=v)(hown:w.ownsRow 0 e size v n xs)
(ad:Addr)(m c:Nat)(dQ:List Value)(hx:a.eval x=.slice (some ad) m c)(hl:dQ.length=m*size)(hnews:∀j u,dQ[j]?=some u->w.cell? (ad.add j)=some u)(h1:∀u∈dQ,u.oneCell'=true)
(h63:n+m<=maxLen)(hbytes:(n+m)*bytes<=140737488355328)
(h:∀va vc w',w'.ownsRow 0 e size (.slice va (n+m) vc) (n+m) (xs++dQ)->w.grownBy w' v.ownBlock->(∀k,(Value.slice va (n+m) vc).ownBlock=some k->v.ownBlock=some k\/w.heap.size<=k)->wpListIn F d P ops Q rest (a.put o.dst (.slice va (n+m) vc)) w'):wpListIn F d P ops Q (o::rest) a w:=by
 refine wpListIn_plain hgd fun K hK=>?_;obtain⟨v',w',hr,h2,h3,h4⟩:=kX S w o.type v n xs hown ad m c dQ hl hnews h1 h63 hbytes;obtain⟨va,vc,rfl⟩:=bv h2;refine⟨?_,?_⟩
 .simp[Oper.about,ho,resolve,Target.leads,Sem.run_pure]
 .exact qbh
def azG(x:dh):Array Value:=#[.agg #[.int .i64 x.1,.int .i64 x.2]]
theorem XM{y gl ga gp gn pf nf:Nat}{nx p:Int->Int}(hN:rE nf nx)(hP:rE pf p){w0:zW}{m mk:Mem}{B Bx:List dh->List bA->Prop}{va:zV}{L1:List bA}{W:zW}{l:List dh}{lo hi:Int}
(hY:JB prog y azG w0 m mk (fun f x=>f++[x] <+: gq nx p l lo hi) B Bx)(k':∀f O,¬Bx f O)(cl:mk.cell gl 0=some va)(hl:dD mk va l)(ca:mk.cell ga 0=some (.j lo))(cb:mk.cell ga 1=some (.j hi))
(cp:mk.cell gp 0=some (.func (.func pf) #[] #[]))(cn:mk.cell gn 0=some (.func (.func nf) #[] #[]))(t:∀s∈l,o8 s)(_:l.length<=1000000)(Z:B [] L1)(g:Own w0 m W mk L1):
 zC 240 #[.func (.yield y) #[] #[],.pointer (some ⟨ga,0,none⟩),.pointer (some ⟨gl,0,none⟩),.pointer (some ⟨gp,0,none⟩),.pointer (some ⟨gn,0,none⟩)] W
  (OI w0 m mk B Bx (fun xs=>xs=gq nx p l lo hi) (fun _=>False)):=by
 have F:=zh (zi hY (zi k' (zi cl (zi hl (zi ca (zi cb (zi cp (zi cn t))))))));have c1:=azk g.az ca;have c2:=bzu g.az ca;have c3:=azk g.az cl;have c4:=bzu g.az cl;obtain⟨aa,ac,rfl,a1,a2,a3⟩:=hl;unfold maxLen at a2;have HO:=zh (zi g Z);refine au fun R hR=>?_;clear g Z hY k' cl ca cb cp cn t
 go_enter func240,ntmps240
 go_wp2;refine aB [0,1,3,4,6,13,14,15] (fun q vs W1=>∃(k:Nat) (a:Int) (f:List dh) (r:Mem) (O:List bA),k<=l.length/\q=l.length-k/\vs=[.func (.yield y) #[] #[],.p ga,.p gp,.p gn,.j a,.slice aa l.length ac,.j l.length,.j k] /\
  f++gq nx p (l.drop k) a hi=gq nx p l lo hi/\B f O/\Own w0 m W1 r O/\mk.le r) ?_ ?_
 .exact⟨_,0,lo,[],mk,L1,zG _,rfl,rfl,rfl,HO.o.2,HO.o.1,Mem.le_refl _⟩
 clear HO c1 c2 c3 c4;rintro X z q vs W1 hX-⟨k,a,f,r,O,hk,rfl,rfl,U,Z,g,i⟩;simp[bz,lk];have c1:=azk g.az (bzv i F.o.2.2.2.2.1);have c2:=bzu g.az (bzv i F.o.2.2.2.2.1);by_cases hlt:k<l.length
 .obtain⟨b,off,rfl,h4⟩:=a3 qdJ;have K:=h4 k hlt;have t:=bzw i g.az;have r1:=azk t K.1;have r2:=azk t K.2.1;have rl:=bzu t K.1;have c5:=azk g.az (bzv i F.o.2.2.2.2.2.2.1);have c6:=bzu g.az (bzv i F.o.2.2.2.2.2.2.1);have g':=F.o.2.2.2.2.2.2.2.2 l[k] (zF hlt);have f':=TU nx p l k hlt a hi;rw[f']at U;have j:=zh (zi U (zi Z i));clear U Z f' h4 K t;generalize l[k]=s at*
  obtain⟨u,P⟩:=s;simp only at r1 r2;unfold o8 at g';simp only at g';have hcp:=fun w'=>hP.ent.o u w';have hcn:=fun w'=>hN.ent.o P w';have E:=zh (g.al #[.int .i64 u,.int .i64 P] 100);clear g
  go_wp2_with fail
  refine(hP.run u _ zo zo).mono ?_;rintro e w2 ⟨rfl,i'⟩;generalize u':W1.alloc (.cells #[.int .i64 u,.int .i64 P] 100)=w5 at*
  generalize W1.heap.size=S at*
  have C:=E.o.aT i';have s1:=C.obj.c 0;have s2:=C.obj.c 1;have s3:=C.obj.lt;have D':=zh C;have d:=zh (C.al #[.int .i64 a,.int .i64 (p u)] 100);clear E u' i' c5 c6 r1 r2 rl C
  go_upto_region 5 with(fail)
  generalize j':w2.alloc (.cells #[.int .i64 a,.int .i64 (p u)] 100)=w6 at*
  generalize w2.heap.size=G at*
  refine aW [0,1,3,4,6,8,13,14,15,35] (fun vs w'=>∃(J:Mem) (N:List bA),vs=[.func (.yield y) #[] #[],.p ga,.p gp,.p gn,.j a,.p S,.slice (some ⟨b,off,none⟩) l.length ac,.j l.length,.j k,.bool false] /\
   B (f++if a<=p u then[(a,p u)]else[]) N/\Own w0 m w' J (.obj S 100 #[.int .i64 u,.int .i64 P]::N)/\mk.le J) ?_ ?_
  .intro V hV;have d1:=d.o.obj.c 0;have d2:=d.o.obj.c 1;have d3:=d.o.obj.lt;by_cases A:a<=p u
   .have H:decide (a<=p u)=true:=zN A;obtain⟨fn,e',M,n',hy,Y⟩:=F.o.1 f (a,p u) w6 r O [.obj S 100 #[.int .i64 u,.int .i64 P]] ⟨gq nx p (l.drop (k+1)) (nx P) hi,by rw[<-j.o.1,zK A,xD]⟩ j.o.2.1 (d.o.tail.perm (List.perm_append_singleton _ _)) j.o.2.2;simp only[azG]at hy;have T:=zh A;clear A;refine(wpIn_wide (n:=0)).1 ?_
    gi_wp2
    refine⟨rfl,Y.mono ?_⟩;rintro e W' (⟨rfl,mk',I,L,Q,h3⟩|⟨rfl,mk',I,L,Q,h3⟩)
    .have Hk:=zh (zi L (zi (Q.perm (List.perm_append_singleton _ _).symm) h3));clear L Q h3 d1 d2 d3
     gi_wp2
     refine hV.o _ _ rfl ⟨mk',I,rfl,?_,Hk.o.2.1,Mem.le_trans j.o.2.2 Hk.o.2.2⟩;rw[zK T.o];exact Hk.o.1
    .exact absurd L (F.o.2.1 _ _)
   .have H:decide (a<=p u)=false:=zM A;have T:=zh A;clear A;go_wp2;refine hV.o _ _ rfl ⟨r,O,rfl,?_,d.o.tail,j.o.2.2⟩;rw[zJ (fun h=>absurd h (by have:=T.o;omega)),yR];exact j.o.2.1
  rintro z4 vs w7-⟨J,N,rfl,l',D,w⟩;simp[bz,lk];have c5:=azk D.az (bzv w F.o.2.2.2.2.2.2.2.1);have c6:=bzu D.az (bzv w F.o.2.2.2.2.2.2.2.1);have s2:=D.obj.c 1;have s3:=D.obj.lt;have E:=zh (zi D (zi l' w));clear D l' w d D' j' s1
  go_wp2_with fail
  refine(hN.run P _ zo zo).mono ?_;rintro e w8 ⟨rfl,h'⟩;have C':=zh (E.o.1.aT h').tail;clear h' c5 c6 s2 s3;go_wp2;refine hX.o _ _ _ zo rfl ⟨k+1,nx P,_,J,N,zo,rfl,rfl,?_,E.o.2.1,C'.o,E.o.2.2⟩;rw[xD];exact j.o.1
 .obtain rfl:k=l.length:=zo;rw[zQ (zI _)]at U;simp only[gq]at U;have c3:=azk g.az (bzv i F.o.2.2.2.2.2.1);have j:=zh (zi U (zi Z i));have HO:=zh g;have d:=zh (g.al #[.int .i64 a,.int .i64 hi] 100);clear U Z g;by_cases A:a<=hi
  .have H:decide (a<=hi)=true:=zN A;have T:=zh A;clear A
   go_upto_region 10 with(fail)
   generalize j':W1.alloc (.cells #[.int .i64 a,.int .i64 hi] 100)=w6 at*
   generalize W1.heap.size=G at*
   obtain⟨fn,e',M,n',hy,Y⟩:=F.o.1 f (a,hi) w6 r O [] ⟨[],by rw[<-j.o.1,zK T.o,yR]⟩ j.o.2.1 (by rw[yR];exact d.o.tail) j.o.2.2;simp only[azG]at hy;have d1:=d.o.obj.c 0;have d2:=d.o.obj.c 1;have d3:=d.o.obj.lt;refine(wpIn_wide (n:=0)).1 ?_
   gi_wp2
   refine⟨rfl,Y.mono ?_⟩;rintro e W' (⟨rfl,mk',I,L,Q,h3⟩|⟨rfl,mk',I,L,Q,h3⟩)
   .rw[yR]at Q;have Hk:=zh (zi L (zi Q h3));clear L Q h3 d1 d2 d3
    gi_wp2
    refine yV (v:=.tuple #[]) qeX rfl ?_;refine hR.o _ _ ⟨⟨_,rfl⟩,.inl ⟨_,mk',I,?_,Hk.o.1,Hk.o.2.1,Mem.le_trans j.o.2.2 Hk.o.2.2⟩⟩;rw[<-j.o.1,zK T.o]
   .exact absurd L (F.o.2.1 _ _)
  .have H:decide (a<=hi)=false:=zM A;have T:=zh A;clear A;go_wp2;refine yV (v:=.tuple #[]) qeX rfl ?_;refine hR.o _ _ ⟨⟨_,rfl⟩,.inl ⟨f,r,O,?_,j.o.2.1,d.o.tail,j.o.2.2⟩⟩;rw[<-j.o.1,zJ (fun h=>absurd h (by have:=T.o;omega)),yR]
theorem czx(a:Option Addr)(n c:Nat)(lo hi:Int)(b d:Nat)(w:zW):
 zC 178 #[.slice a n c,.agg #[.int .i64 lo,.int .i64 hi],.func (.func d) #[] #[],.func (.func b) #[] #[]] w fun e w'=>
  e=.returned (.func (.func 240) #[] #[.pointer (some ⟨w.heap.size+1,0,none⟩),.pointer (some ⟨w.heap.size,0,none⟩),.pointer (some ⟨w.heap.size+1+1+1,0,none⟩),.pointer (some ⟨w.heap.size+1+1,0,none⟩)]) /\
  w'=(((w.alloc (.cells #[.slice a n c] 22)).alloc (.cells #[.int .i64 lo,.int .i64 hi] 100)).alloc (.cells #[.func (.func d) #[] #[]] 141)).alloc (.cells #[.func (.func b) #[] #[]] 141):=by
 refine au fun R hR=>?_
 go_enter func178,ntmps178
 exact qby
theorem N8:∀args w,(callFunc 240 args).run prog w=.ok (.enter 240 args) w:=enters_of func240 zk rfl
theorem Am(nx a:Int->Int):∀(l:List dh) (lo hi:Int),(gq nx a l lo hi).length<=l.length+1
 |[],lo,hi=>by unfold gq;split<;>simp
 |s::r,lo,hi=>by
  have:=Am nx a r (nx s.2) hi;unfold gq
  split<;>simp<;>omega
theorem JP{gl ga gp gn pf nf:Nat}{nx pv:Int->Int}(hN:rE nf nx)(hP:rE pf pv){m:Mem}{w:zW}{va:zV}{l:List dh}{lo hi:Int}(hm:m.az w)
(cl:m.cell gl 0=some va)(hl:dD m va l)(ca:m.cell ga 0=some (.j lo))(cb:m.cell ga 1=some (.j hi))
(cp:m.cell gp 0=some (.func (.func pf) #[] #[]))(cn:m.cell gn 0=some (.func (.func nf) #[] #[]))(hin:∀s∈l,o8 s)(hlen:l.length<=1000000)(hok:∀s∈gq nx pv l lo hi,pR s):
 Calls prog 239 #[.slice none 0 0,.func (.func 240) #[] #[.pointer (some ⟨ga,0,none⟩),.pointer (some ⟨gl,0,none⟩),.pointer (some ⟨gp,0,none⟩),.pointer (some ⟨gn,0,none⟩)]] w fun e w'=>
  ∃r,e=.returned r/\Below w.heap.size w w'/\dD (m.grow w w') r (gq nx pv l lo hi):=by
 have hO:=((Own.start hm).al #[.slice none 0 0] 22).fE 100 2;have hgl:=Am nx pv l lo hi;have HS:=zh (zi hO (zi cl (zi hl (zi ca (zi cb (zi cp (zi cn (zi hin hok))))))));clear hO cl hl ca cb cp cn hin hok;generalize hG:w.heap.size=g at*
 refine au fun R hR=>?_;refine(callsIn_wide (n:=0)).1 ?_;refine callsIn_of_wp_marks func239 rfl trivial ?_;simp only[ntmps239,List.size_toArray,yO,List.length_nil,Nat.reduceAdd,Nat.reduceSub,Array.replicate_succ,Array.replicate_zero,List.push_toArray,List.append_toArray,xN,xK];refine wpIn_wide.2 ?_;go_wp2;refine(wpIn_wide (n:=0)).1 ?_;refine MF (gf:=240) (lb:=#[.pointer (some ⟨ga,0,none⟩),.pointer (some ⟨gl,0,none⟩),.pointer (some ⟨gp,0,none⟩),.pointer (some ⟨gn,0,none⟩)]) rfl N8 (encs:=azG) (fun _=>rfl) HS.o.1
  (fun pre L=>∃v,L=[.row v 100 2 pre.length (bN pre),.obj g 22 #[v]]) (fun _ _ _=>False) (fun xs=>xs=gq nx pv l lo hi) (fun _=>False) (fun pre x=>pre++[x] <+: gq nx pv l lo hi) ⟨_,rfl⟩ ?seq
  (fun pre x a1 L=>∃(S:Nat) (v:zV),a1={ tmps:=#[.slice none 0 0,.func (.func 240) #[] #[.pointer (some ⟨ga,0,none⟩),.pointer (some ⟨gl,0,none⟩),.pointer (some ⟨gp,0,none⟩),.pointer (some ⟨gn,0,none⟩)],.pointer (some ⟨g,0,none⟩),undef,.slice none 0 0,.pointer (some ⟨S,0,none⟩),.func (.func 240) #[] #[.pointer (some ⟨ga,0,none⟩),.pointer (some ⟨gl,0,none⟩),.pointer (some ⟨gp,0,none⟩),.pointer (some ⟨gn,0,none⟩)],.agg #[.int .i64 x.1,.int .i64 x.2],undef,undef,undef,undef,undef],defers:=[] } /\
   L=[.obj S 100 #[.int .i64 x.1,.int .i64 x.2],.row v 100 2 pre.length (bN pre),.obj g 22 #[v]]) ?assign ?body ?done ?stop
 case seq=>
  intro y W1 L1 B Bx hB hBI hBx hOw hY;exact XM hN hP hY (fun pre Lt h=>(hBx pre Lt h).elim fun c h=>h.elim fun L h=>h) HS.o.2.1 HS.o.2.2.1 HS.o.2.2.2.1 HS.o.2.2.2.2.1 HS.o.2.2.2.2.2.1 HS.o.2.2.2.2.2.2.1 HS.o.2.2.2.2.2.2.2.1 hlen hB hOw
 case assign=>
  rintro y pre x W mk1 Lt Lr K-⟨v,rfl⟩ hOw hle hK;have hO2:=hOw.al #[.int .i64 x.1,.int .i64 x.2] 100;have HK:=zh (hK _ _ _ ⟨_,v,rfl,rfl⟩ hO2);clear hK hO2 hOw;simp only[azG]
  gi_wp2
  exact HK.o
 case body=>
  rintro y pre x a1 W mk1 Lt Lr hC ⟨S,v,rfl,rfl⟩ hOw hle;simp only[xK,xN]at hOw;obtain⟨xa,xc,rfl⟩:=bv hOw.av.row;have hpl:pre.length+1<=1000001:=by
   have h1:=hC.length_le;rw[zL,List.length_singleton]at h1;omega
  have o1:=hOw.aR.obj.c 0;have o2:=hOw.aR.obj.lt;have o3:=hOw.aR.obj.frozen 0;have s1:=hOw.obj.c 0;have s2:=hOw.obj.c 1;have s3:=hOw.obj.lt;have hO2:=(hOw.tail.al #[.int .i64 x.1,.int .i64 x.2] 100).av;have hnews:=hO2.av.obj.dQ rfl;clear hOw hC
  gi_wp2_with (gi_at_builtin;refine vY qi rfl (.tmp 8) (.tmp 10) rfl (.slice xa pre.length xc) pre.length (bN pre) rfl hO2.row ⟨W.heap.size,0,none⟩ 1 1 [.j x.1,.j x.2] rfl rfl hnews qdN qdM zo ?_)
  intro ya yc w5 hown5 hgrow5 hrow5;have hO3:=(hO2.app hown5 hgrow5 hrow5 zS).bM;have t1:=hO3.av.obj.c 0;have t2:=hO3.av.obj.lt;have t3:=hO3.av.obj.frozen 0;have hO4:=(hO3.av.set 0 (.slice ya (pre.length+1) yc)).av;have HO4:=zh hO4;clear hO4 hO3 hO2 hown5 hgrow5 hrow5 hnews o1 o2 o3 s1 s2 s3
  gi_wp2
  unfold Du;refine⟨mk1,_,⟨.slice ya (pre.length+1) yc,rfl⟩,?_,Mem.le_refl _⟩;rw[zL,eH];exact HO4.o
 case done=>
  rintro D xs W mk1 L rfl ⟨v,rfl⟩ hOw hle;obtain⟨xa,xc,rfl⟩:=bv hOw.av.row;have o1:=hOw.aR.obj.c 0;have o2:=hOw.aR.obj.lt;have hbl:=hOw.gN;have hO2:=hOw.av;have hst:=jO (m:=mk1) (l:=gq nx pv l lo hi) hO2.row HS.o.2.2.2.2.2.2.2.2;have hO3:=hO2.bP;have hO4:=hO3.jJ (o':=.deferred none) (World.putObj_heap_same (yC.1 hbl).1) (grownBy_putObj' _ _ _);have hfin2:=bS hO4.done hst;have Hk:=zh (zi hO4.aF hfin2);clear hO4 hO3 hO2 hOw hst hfin2
  gi_wp2
  go_wp2;refine⟨zS,.inl ⟨_,_,rfl,run_takeDeferred hbl,?_⟩⟩;exact⟨.slice xa (gq nx pv l lo hi).length xc,by simp[results,results239,go_sem],hR.o _ _ ⟨_,rfl,by rw[<-hG];exact Hk.o.1,Hk.o.2⟩⟩
 case stop=>rintro D c xs W mk1 L h;exact h.elim
theorem fH.inI{x:NS}(h:fH x):∀s∈x.i,o8 s:=fun s a=>by
 have b:=h.bi s a;have c:=h.ni.ok s a;unfold o8;simp only[fV]at b;omega
theorem fH.inF{x:NS}(h:fH x):∀s∈x.rf,o8 s:=fun s a=>by
 obtain⟨t,ht,rfl⟩:=ZV a;have b:=h.bf t ht;have e:=h.nf.ok t ht;have d:(jm t).1=cZ t.1:=rfl;have c:(jm t).2=cZ t.2:=rfl;unfold o8;rw[d,c];unfold cZ;simp only[oI,uk]at b;omega
theorem gQ{m:Mem}{w w':zW}{g i:Nat}{v:zV}(a:w.heap.size<=g)(h:w'.cell? ⟨g,i,none⟩=some v):(m.grow w w').cell g i=some v:=by
 have e:m.grow w w' g=w'.heap[g]?:=by unfold Mem.grow;rw[zJ zo]
 unfold Mem.cell;rw[e];unfold World.cell? at h;simp only at h;exact h
def EJ(f e:Nat)(l:List dh)(lo hi:Int)(M:Mem)(v:zV):Prop:=∃(a d b c:Nat) (va:zV),v=.func (.func 240) #[] #[.pointer (some ⟨a,0,none⟩),.pointer (some ⟨d,0,none⟩),.pointer (some ⟨b,0,none⟩),.pointer (some ⟨c,0,none⟩)] /\
 M.cell d 0=some va/\dD M va l/\M.cell a 0=some (.j lo)/\M.cell a 1=some (.j hi)/\M.cell b 0=some (.func (.func e) #[] #[])/\M.cell c 0=some (.func (.func f) #[] #[])
theorem EJ.le{b a:Nat}{l:List dh}{lo hi:Int}{m m':Mem}(h:m.le m'){v:zV}(k:EJ b a l lo hi m v):EJ b a l lo hi m' v:=by
 obtain⟨q,p,n,o,va,e,j,i,g,f,d,c⟩:=k;exact⟨q,p,n,o,va,e,bzv h j,bS h i,bzv h g,bzv h f,bzv h d,bzv h c⟩
theorem Qy(va:zV)(l:List dh)(lo hi:Int)(f d:Nat)(m:Mem)(w:zW)(g:m.az w)(h:dD m va l):
 zC 178 #[va,.agg #[.int .i64 lo,.int .i64 hi],.func (.func d) #[] #[],.func (.func f) #[] #[]] w fun e w'=>∃v,e=.returned v/\zB w w'/\EJ d f l lo hi (m.grow w w') v:=by
 obtain⟨a,c,rfl⟩:=eT h;refine(czx a l.length c lo hi f d w).mono ?_;rintro e w' ⟨rfl,rfl⟩;have b:=((((Own.start g).al #[.slice a l.length c] 22).al #[.int .i64 lo,.int .i64 hi] 100).al #[.func (.func d) #[] #[]] 141).al #[.func (.func f) #[] #[]] 141;have k:(w.alloc (.cells #[.slice a l.length c] 22)).heap.size=w.heap.size+1:=by simp
 have j:((w.alloc (.cells #[.slice a l.length c] 22)).alloc (.cells #[.int .i64 lo,.int .i64 hi] 100)).heap.size=w.heap.size+1+1:=by simp
 have i:(((w.alloc (.cells #[.slice a l.length c] 22)).alloc (.cells #[.int .i64 lo,.int .i64 hi] 100)).alloc (.cells #[.func (.func d) #[] #[]] 141)).heap.size=w.heap.size+1+1+1:=by simp
 rw[i,j,k]at b;refine⟨_,rfl,b.aF,_,_,_,_,_,rfl,gQ (zI _) (b.bV.obj.c 0),bS (bzx g) h,gQ zo (b.aR.obj.c 0),gQ zo (b.aR.obj.c 1),
  gQ zo (b.obj.c 0),gQ zo (b.av.obj.c 0)⟩
theorem FB{j i:Nat}{nx d:Int->Int}(E:rE j nx)(D:rE i d){v:zV}{l:List dh}{lo hi:Int}(m:Mem)(w:zW)(A:m.az w)(B:EJ j i l lo hi m v)(h:∀s∈l,o8 s)(b:l.length<=1000000)(g:∀s∈gq nx d l lo hi,pR s):
 zC 177 #[v] w fun e w'=>∃r,e=.returned r/\zB w w'/\dD (m.grow w w') r (gq nx d l lo hi):=by
 obtain⟨I,H,F,G,va,rfl,x,u,t,q,p,n⟩:=B;have z:=zh (JP E D A x u t q p n h b g);clear x u t q p n;refine au fun R C=>?_
 go_enter func177,ntmps177
 go_wp2_with fail
 refine z.o.mono ?_;rintro e w' ⟨r,rfl,k,f⟩;have y:=zh (zi k f);obtain⟨a,c,rfl⟩:=eT f;clear k f z;go_wp2;exact C.o _ _ ⟨_,rfl,y.o.1,y.o.2⟩
theorem Ho{m:Mem}{g:Nat}{lo hi:Int}(c:m.cell g 0=some (.j lo))(b:m.cell g 1=some (.j hi))(hk:pR (lo,hi)):dD m (.slice (some ⟨g,0,none⟩) 1 1) [(lo,hi)]:=by
 refine⟨some ⟨g,0,none⟩,1,rfl,zI _,by simp[maxLen],fun _=>⟨g,0,rfl,fun i a=>?_⟩⟩;have:i=0:=by simpa using a
 subst this;exact⟨c,b,hk⟩
def l7:List dh:=[(-100000000000,100000000000)]
def LK:List dh:=[(-999999999999999,999999999999999)]
theorem Wi:OE.i=l7:=rfl
theorem azx:OE.rf=LK:=by decide
theorem Hy(m:Mem)(w:zW)(g:m.az w):
 zC 40 #[] w fun e w'=>∃d,e=.returned (.agg #[d,.slice none 0 0])/\zB w w'/\dD (m.grow w w') d l7:=by
 have a:=((Own.start g).al #[.slice (some ⟨w.heap.size+1,0,none⟩) 1 1,.slice none 0 0] 24).al #[.int .i64 (-100000000000),.int .i64 100000000000] 100;have f:(w.alloc (.cells #[.slice (some ⟨w.heap.size+1,0,none⟩) 1 1,.slice none 0 0] 24)).heap.size=w.heap.size+1:=by simp
 rw[f]at a;have b:=zh a;have j:=a.av.obj.c 0;have i:=a.av.obj.c 1;clear a f;refine au fun R h=>?_
 go_enter func40,ntmps40
 go_wp2;refine yV (v:=.agg #[.slice (some ⟨w.heap.size+1,0,none⟩) 1 1,.slice none 0 0]) (by simp[results,results40,go_sem]) rfl ?_;exact h.o _ _ ⟨_,rfl,b.o.aF,Ho (gQ zo (b.o.obj.c 0)) (gQ zo (b.o.obj.c 1)) (by unfold pR;omega)⟩
theorem K5(m:Mem)(w:zW)(s:m.az w):
 zC 37 #[] w fun e w'=>∃j rf,e=.returned (.agg #[j,rf])/\zB w w'/\dA (m.grow w w') j rf l7 LK:=by
 have k:=(Own.start s).al #[.slice none 0 0,.slice none 0 0] 24;have p:=zh (Hy m _ k.az);have l:=zh k;clear k;refine au fun R hR=>?_
 go_enter func37,ntmps37
 go_wp2_with fail
 refine p.o.mono ?_;rintro e g ⟨j,rfl,i,h⟩;have d:=l.o.call i;obtain⟨a,c,rfl⟩:=eT h;have b:=((((d.set 0 (.slice a l7.length c)).set 1 (.slice (some ⟨g.heap.size+1,0,none⟩) 1 1)).al #[.slice a l7.length c,.slice (some ⟨g.heap.size+1,0,none⟩) 1 1] 24).al #[.int .i64 (-999999999999999),.int .i64 999999999999999] 100);have n:(((g.setCell ⟨w.heap.size,0,none⟩ (.slice a l7.length c)).setCell ⟨w.heap.size,1,none⟩ (.slice (some ⟨g.heap.size+1,0,none⟩) 1 1)).alloc (.cells #[.slice a l7.length c,.slice (some ⟨g.heap.size+1,0,none⟩) 1 1] 24)).heap.size=g.heap.size+1:=by simp
 simp only[nJ]at b n;rw[n]at b;have q:=l.o.obj.lt;have r:=i.size;have C:=d.obj.c 0;have B:=d.obj.c 1;have A:=d.obj.frozen 0;have z:=d.obj.frozen 1;have y:=d.obj.lt;have x:=b.aR.obj.c 0;have u:=b.aR.obj.c 1;have t:=l.o.aF.size;have f:dA (m.grow w _) _ _ l7 LK:=⟨bS b.done h,Ho (gQ zo (b.obj.c 0)) (gQ zo (b.obj.c 1)) (by unfold pR;omega)⟩;have Hk:=zh (zi b.aF f);clear d b f h i p;go_wp2;refine yV (v:=.agg #[.slice a l7.length c,.slice (some ⟨g.heap.size+1,0,none⟩) 1 1]) (by simp[results,results37,go_sem,x,u]) rfl ?_;exact qaU
def KY(r:Option Int):Prop:=∀u,r=some u -> -1000000000000002<=u/\u<=1000000000000002
theorem Ha{r:Option Int}{u:Int}(h:KY r)(d : -1000000000000002<=u)(c:u<=1000000000000002):KY (gu [u] r):=by
 intro v a
 cases r with
 |none=>simp only[gu]at a;cases a;exact⟨d,c⟩
 |some b=>
  simp only[gu]at a
  split at a
  .cases a;exact⟨d,c⟩
  .exact h v a
theorem VA{s:dh}(h:o8 s){mid:Int}(b : -2<=mid)(a:mid<=2): -1000000000000002<=dC s mid/\dC s mid<=1000000000000002:=by
 unfold o8 at h;unfold dC
 split
 .omega
 .split<;>omega
theorem Hr(u:Int)(gf d:Nat)(r:Option Int){w0 w:zW}{m mk:Mem}{L:List bA}(a:Own w0 m w mk (.obj d 2 #[.int .i64 (r.getD 0)]::.obj gf 4 #[.bool r.isSome]::L))
(s : -1000000000000002<=u)(q:u<=1000000000000002)(p:KY r):
 zC 114 #[.int .i64 u,.pointer (some ⟨gf,0,none⟩),.pointer (some ⟨d,0,none⟩)] w fun e w'=>e=.returned (.tuple #[]) /\
  Own w0 m w' mk (.obj d 2 #[.int .i64 ((gu [u] r).getD 0)]::.obj gf 4 #[.bool (gu [u] r).isSome]::L):=by
 have g:=a.obj.c 0;have f:=a.av.obj.c 0;have n:=a.obj.lt;have l:=a.av.obj.lt;have x:=a.obj.frozen 0;have t:=a.av.obj.frozen 0;have h:d≠gf:=fun e=>(yS.1 a.apart).1 _ (yF ..) d rfl qeI;have j:gf≠d:=fun e=>h e.symm
 cases r with
 |none=>
  have HO:=zh ((a.set 0 (.j u)).av.set 0 (.bool true)).av;clear a;refine au fun R hR=>?_;simp only[Option.getD_none,Option.isSome_none]at g f
  go_enter func114,ntmps114
  go_wp2;refine yV (v:=.tuple #[]) (by simp[results,results114,go_sem]) rfl ?_
  exact hR.o _ _ ⟨rfl,HO.o⟩
 |some b=>
  have k:=p b rfl;simp only[xA,Option.isSome_some]at g f;have HN:=zh (CG u b w s q k.1 k.2);have HO:=zh a;clear a g f n l x t;have g:=HO.o.obj.c 0;have f:=HO.o.av.obj.c 0;have n:=HO.o.obj.lt;have l:=HO.o.av.obj.lt;simp only[xA,Option.isSome_some]at g f;refine au fun R hR=>?_
  go_enter func114,ntmps114
  go_wp2_with fail
  refine HN.o.mono ?_;rintro e y ⟨rfl,i⟩;have hO1:=HO.o.aT i;have E:=hO1.obj.c 0;have D:=hO1.av.obj.c 0;have C:=hO1.obj.lt;have B:=hO1.av.obj.lt;have A:=hO1.obj.frozen 0;have z:=hO1.av.obj.frozen 0;by_cases hn:kr u b
  .rw[zN hn];have HO1:=zh ((hO1.set 0 (.j u)).av.set 0 (.bool true)).av;have HB:=zh (show gu [u] (some b)=some u from by simp[gu,hn]);exact qbr
  .rw[zM hn];have HO1:=zh hO1;have HB:=zh (show gu [u] (some b)=some b from by simp[gu,hn]);exact qbr
theorem wR(vi vf:zV)(I F:List dh)(m:Mem)(w:zW)(hm:m.az w)(h1:dA m vi vf I F)(hI:I.length<=30000)(hF:F.length<=30000):
 zX 76 #[.agg #[vi,vf]] w (.tuple #[.int .i64 ((fF (gz I F)).getD 0),.bool (fF (gz I F)).isSome]):=by
 have a:=(Own.start hm).al #[vi,vf] 24;have HM:=zh (jD _ _ I F m _ a.az h1 zo zo);obtain⟨a1,c1,b1,d1,rfl,rfl⟩:=h1.dm;have K:=jP hI hF;have G:=kH I F;have l1:=K.i;have l2:=K.f;rw[<-NS.sG]at l2;have HX:=zh (zi G.inI (zi G.inF (fun s hs=>G.bi s hs)));have HO:=zh a;clear a h1 K G;generalize gz I F=x at*
 refine au fun R hR=>?_
 go_enter func76,ntmps76
 go_wp2_with fail
 refine HM.o.mono ?_;rintro e T ⟨ri,rf,rfl,g',L⟩;have i':=HO.o.call g';obtain⟨Q,P,O,N,rfl,rfl⟩:=L.dm;have g:=((i'.al #[.slice Q x.i.length P,.slice O x.rf.length N] 24).al #[.int .i64 0] 2).al #[.bool false] 4;have V:(T.alloc (.cells #[.slice Q x.i.length P,.slice O x.rf.length N] 24)).heap.size=T.heap.size+1:=by simp
 have e2:((T.alloc (.cells #[.slice Q x.i.length P,.slice O x.rf.length N] 24)).alloc (.cells #[.int .i64 0] 2)).heap.size=T.heap.size+1+1:=by simp
 rw[e2,V]at g;generalize m.grow (w.alloc (.cells #[.slice a1 I.length c1,.slice b1 F.length d1] 24)) T=mk at*
 have HK:=zh (zi g.av.dzO L);clear i' g L g' HM HO V e2;go_wp2;generalize T.heap.size=S at*
 refine aB [4,5,6,7,16,17,18] (fun n Z W=>∃(k:Nat) (r:Option Int),k<=x.i.length/\n=x.i.length-k/\Z=[.p S,.p (S+1),.p (S+1+1),.func (.func 114) #[] #[.pointer (some ⟨S+1+1,0,none⟩),.pointer (some ⟨S+1,0,none⟩)],.slice Q x.i.length P,.j x.i.length,.j k] /\
  r=gu ((x.i.take k).map (fun s=>dC s 0*10000)) none/\KY r/\Own w m W mk [.obj (S+1) 2 #[.int .i64 (r.getD 0)],.obj (S+1+1) 4 #[.bool r.isSome],.obj S 24 #[.slice Q x.i.length P,.slice O x.rf.length N]]) ?_ ?_
 .exact⟨_,0,none,zG _,rfl,rfl,rfl,(fun u h=>by cases h),HK.o.1⟩
 rintro X z n Z W hX-⟨k,r,hk,rfl,rfl,H,j,a⟩;simp[bz,lk];by_cases hlt:k<x.i.length
 .have l:=HK.o.2.i;obtain⟨ad,cc,e,q1,q2,U⟩:=l;injection e with V e2 e3;subst V;obtain⟨b,off,rfl,h4⟩:=U qdJ;have J:=h4 k hlt;have r1:=azk a.az J.1;have r2:=azk a.az J.2.1;have rl:=bzu a.az J.1;have p:=HX.o.1 x.i[k] (zF hlt);have d:gu ((x.i.take (k+1)).map (fun s=>dC s 0*10000)) none=gu [dC x.i[k] 0*10000] r:=by
   rw[zH hlt,yI,rA,<-H]
   rfl
  have f':=HX.o.2.2 x.i[k] (zF hlt);simp only[fV]at f';have M:=zh (zi d j);clear d h4 J q1 q2 U e3 H j;generalize x.i[k]=q at*
  obtain⟨v,t⟩:=q;simp only at r1 r2 f';have g:=a.al #[.int .i64 v,.int .i64 t] 100;have D:=zh g;have HQ:=zh (fun w'=>A8 (v,t) 0 w');have q':=VA p (mid:=0) zo zo;have v' : -100000000000<=dC (v,t) 0/\dC (v,t) 0<=100000000000:=by
   unfold o8 at p;simp only at p;have e:dC (v,t) 0=if v > 0 then v else if t<0 then t else 0:=rfl;rw[e]
   split
   .omega
   .split<;>omega
  clear a g p
  go_wp2_with fail
  refine(HQ.o _).mono ?_;rintro e w3 ⟨rfl,y⟩;have B:=(D.o.aT y).tail;generalize hV:dC (v,t) 0=nv at*
  have HT:=zh (Hr (nv*10000) (S+1+1) (S+1) r B zo zo M.o.2);have E:=zh (Ha (u:=nv*10000) M.o.2 zo zo);clear B D y r1 r2 rl HQ
  go_wp2_with fail
  refine HT.o.mono ?_;rintro e w4 ⟨rfl,A⟩;have C:=zh A;clear A HT;go_wp2;refine hX.o _ _ _ zo rfl ⟨k+1,_,zo,rfl,rfl,M.o.1.symm,?_,?_⟩
  .first
    |exact E.o
    |(rw[hV];exact E.o)
  .first
    |exact C.o
    |(rw[hV];exact C.o)
 .obtain rfl:k=x.i.length:=zo;rw[yG]at H;subst H;have q1:=a.aR.obj.c 1;have q2:=a.aR.obj.lt;have HR:=zh (zi a (zi j True.intro));clear a j hX;go_wp2;refine aB [4,5,6,7,29,30,31] (fun n Z W=>∃(k:Nat) (r:Option Int),k<=x.rf.length/\n=x.rf.length-k/\Z=[.p S,.p (S+1),.p (S+1+1),.func (.func 114) #[] #[.pointer (some ⟨S+1+1,0,none⟩),.pointer (some ⟨S+1,0,none⟩)],.slice O x.rf.length N,.j x.rf.length,.j k] /\
   r=gu ((x.rf.take k).map (fun s=>dC s 1)) (gu (x.i.map (fun s=>dC s 0*10000)) none)/\KY r/\Own w m W mk [.obj (S+1) 2 #[.int .i64 (r.getD 0)],.obj (S+1+1) 4 #[.bool r.isSome],.obj S 24 #[.slice Q x.i.length P,.slice O x.rf.length N]]) ?_ ?_
  .exact⟨_,0,_,zG _,rfl,rfl,rfl,HR.o.2.1,HR.o.1⟩
  clear HR;rintro Y z n Z W hY-⟨k,r,hk,rfl,rfl,H,j,a⟩;simp[bz,lk];by_cases hlt:k<x.rf.length
  .have l:=HK.o.2.f;obtain⟨ad,cc,e,q1,q2,U⟩:=l;injection e with V e2 e3;subst V;obtain⟨b,off,rfl,h4⟩:=U qdJ;have J:=h4 k hlt;have r1:=azk a.az J.1;have r2:=azk a.az J.2.1;have rl:=bzu a.az J.1;have p:=HX.o.2.1 x.rf[k] (zF hlt);have d:gu ((x.rf.take (k+1)).map (fun s=>dC s 1)) (gu (x.i.map (fun s=>dC s 0*10000)) none)=gu [dC x.rf[k] 1] r:=by
    rw[zH hlt,yI,rA,<-H]
    rfl
   have M:=zh (zi d j);clear d h4 J q1 q2 U e3 H j;generalize x.rf[k]=q at*
   obtain⟨v,t⟩:=q;simp only at r1 r2;have g:=a.al #[.int .i64 v,.int .i64 t] 100;have D:=zh g;have HQ:=zh (fun w'=>A8 (v,t) 1 w');have q':=VA p (mid:=1) zo zo;clear a g p
   go_wp2_with fail
   refine(HQ.o _).mono ?_;rintro e w3 ⟨rfl,y⟩;have B:=(D.o.aT y).tail;generalize hV:dC (v,t) 1=nv at*
   have HT:=zh (Hr nv (S+1+1) (S+1) r B zo zo M.o.2);have E:=zh (Ha (u:=nv) M.o.2 zo zo);clear B D y r1 r2 rl HQ
   go_wp2_with fail
   refine HT.o.mono ?_;rintro e w4 ⟨rfl,A⟩;have C:=zh A;clear A HT;go_wp2;refine hY.o _ _ _ zo rfl ⟨k+1,_,zo,rfl,rfl,M.o.1.symm,?_,?_⟩
   .first
     |exact E.o
     |(rw[hV];exact E.o)
   .first
     |exact C.o
     |(rw[hV];exact C.o)
  .obtain rfl:k=x.rf.length:=zo;rw[yG]at H;subst H;have q1:=a.obj.c 0;have q2:=a.obj.lt;have U:=a.av.obj.c 0;have q4:=a.av.obj.lt;have HB:=zh a.aF;have HL:=zh (show fF x=gu (x.rf.map (fun s=>dC s 1)) (gu (x.i.map (fun s=>dC s 0*10000)) none) from by unfold fF dzP;rw[rA]);rw[HL.o]at hR;generalize gu (x.rf.map (fun s=>dC s 1)) (gu (x.i.map (fun s=>dC s 0*10000)) none)=rr at*
   clear a j;go_wp2
   go_quiet (fail)
   go_wp2;exact hR.o _ _ ⟨rfl,below_drewN HB.o _⟩
end Cl
