/- Lemmas. -/
import Derived.Test.YtbbnjopkjbhpbaaGreatDoorPkT17
set_option maxRecDepth 99999
set_option maxHeartbeats 9999999
namespace Cl
open Go Go.RowKit Go.Proofs Tryz
def gU(l:List (Int×Int)):List Value:=l.flatMap fun p=>[.j p.1,.j p.2]
def Np(p:Int×Int):Prop := -9223372036854775808<=p.1/\p.1<=9223372036854775807 /\ -9223372036854775808<=p.2/\p.2<=9223372036854775807
theorem D8(l:List (Int×Int))(p:Int×Int):gU (l++[p])=gU l++[.j p.1,.j p.2]:=by simp[gU]
theorem sI:∀(l:List (Int×Int)) (i:Nat) (h:i<l.length),(gU l)[i*2]?=some (.j l[i].1)/\(gU l)[i*2+1]?=some (.j l[i].2)
 |[],i,h=>by simp at h
 |p::l,0,_=>by simp[gU]
 |p::l,i+1,h=>by
  have:=sI l i qd5;simp only[gU,xO,List.getElem_cons_succ]at this⊢;rw[show(i+1)*2=i*2+2 by omega];exact this
theorem G6{w:zW}{t:TypeId}{v:zV}{l:List (Int×Int)}{m:Mem}(a:w.ownsRow 0 t 2 v l.length (gU l))(hk:∀p∈l,Np p):dD (m.iA w v) v l:=
 eY a fun g b i h=>by
  obtain⟨d,c⟩:=sI l i h;exact⟨eO a b m d,eO a b m c,hk _ (zF h)⟩
theorem bzE:fB prog 145 144 2 16:=⟨underlying145,zo,by
 obtain⟨i,d,c,b,a⟩:=info_parts (P:=prog) (e:=144) (z:=.agg #[.int .i64 0,.int .i64 0]) (size:=2) (bytes:=16) zk;exact⟨i,_,d,c,b,a,rfl⟩⟩
def ma(l:List (Int×Int))(p:Int×Int):Nat:=l.findIdx (fun q=>p=q)
def jv(l:List (Int×Int))(p:Int×Int):List (Int×Int):=if ma l p<l.length then l else l++[p]
theorem J7(l:List (Int×Int))(x:Int×Int):firstIdx (fun y=>x=y) l 0=if ma l x<l.length then((ma l x:Nat):Int)else -1:=by
 rcases Bc (fun y=>x=y) l 0 with⟨h1,h2⟩|⟨i,h1,h2,h3,h4⟩
 .rw[h1,zJ];intro h;obtain⟨y,a,b⟩:=List.findIdx_lt_length.1 h;exact h2 y a (by simpa using b)
 .have:ma l x=i:=by
   unfold ma;rw[List.findIdx_eq h1];exact⟨by simpa using h3,fun j c=>by simpa using h4 j zo c⟩
  rw[h2,this,zK h1];simp
theorem D7(l:List (Int×Int))(p:Int×Int):ma l p<=l.length:=List.findIdx_le_length
theorem PK(l:List (Int×Int))(p:Int×Int):l <+: jv l p:=by
 unfold jv;split
 .exact List.prefix_refl _
 .exact qc8
theorem PL(l:List (Int×Int))(p:Int×Int):(jv l p)[ma l p]?=some p:=by
 unfold jv
 split
 .rename_i h;have:=List.findIdx_getElem (p:=fun q=>decide (p=q)) (xs:=l) (w:=h);rw[yH h];exact congrArg some (of_decide_eq_true this).symm
 .rename_i h;have:ma l p=l.length:=by have:=D7 l p;omega
  rw[this];simp
theorem SH{l:List (Int×Int)}{p:Int×Int}(h:¬ma l p<l.length):p ∉ l:=fun a=>h (List.findIdx_lt_length.2 ⟨p,a,zS⟩)
theorem S9(g:Nat)(v:zV)(l:List (Int×Int))(p:Int×Int)(w0 w:zW)(m mk:Mem)(L:List bA)(B:Own w0 m w mk (.row v 144 2 l.length (gU l)::.obj g 145 #[v]::L))
(_:Np p)(hk:∀q∈l,Np q)(J:l.length<=100000000):
 zC 98 #[.agg #[.int .i64 p.1,.int .i64 p.2],.pointer (some ⟨g,0,none⟩)] w fun e w'=>∃v',e=.returned (.j (ma l p)) /\
  Own w0 m w' mk (.row v' 144 2 (jv l p).length (gU (jv l p))::.obj g 145 #[v']::L):=by
 refine au fun R K=>?_;obtain⟨va,I,rfl⟩:=bv B.row;have a:=B.al' (.cells #[.int .i64 p.1,.int .i64 p.2] 144);have E:=a.bP;have t:=JH _ l p _ _ E.az (G6 a.row hk);rw[J7]at t;have O:=D7 l p;have x:(w.alloc (.cells #[.int .i64 p.1,.int .i64 p.2] 144)).heap.size=w.heap.size+1:=by simp
 have z:(w.alloc (.cells #[.int .i64 p.1,.int .i64 p.2] 144)).heap[w.heap.size]?=some (.cells #[.int .i64 p.1,.int .i64 p.2] 144 (0,0)):=(bg.new _ _ _).get;have V:=a.av.obj.c 0;have U:=a.av.obj.lt;have P:=B.av.obj.lt;by_cases C:ma l p<l.length
 .rw[zK C]at t;have i:jv l p=l:=by unfold jv;rw[zK C]
  generalize ma l p=D at*
  have s:=zh (zi t (zi a i));clear t a E z i x B
  go_enter func98,ntmps98
  go_wp2_with fail
  refine s.o.1.mono ?_;rintro e u ⟨rfl,b⟩;have d:=s.o.2.1.aT b;go_wp2;refine K.o _ _ ⟨.slice va l.length I,rfl,?_⟩;rw[s.o.2.2];exact d
 .rw[zJ C]at t;have i:jv l p=l++[p]:=by unfold jv;rw[zJ C]
  have y:ma l p=l.length:=zo;generalize N:ma l p=D at*
  have s:=zh (zi t (zi a (zi i y)));clear t a E i x y N B
  go_enter func98,ntmps98
  go_wp2_with fail
  refine s.o.1.mono ?_;rintro e u ⟨rfl,b⟩;have d:=s.o.2.1.aT b;have Y:u.cell? ⟨w.heap.size,0,none⟩=some (.j p.1):=mH b zS zS;have X:u.cell? ⟨w.heap.size,1,none⟩=some (.j p.2):=mH b zS zS;have M:w.heap.size<u.heap.size:=by have:=b.size;simp at this;omega
  have T:=d.av.obj.c 0;have S:=d.av.obj.frozen 0;have Q:=d.av.obj.lt;clear b V U;have r:=d.al #[.int .i64 p.1,.int .i64 p.2] 144;have k:=r.obj.dQ rfl;clear d
  go_wp2_with (at_builtin;refine aU bzE rfl (.tmp 12) (.tmp 14) rfl (.slice va l.length I) l.length (gU l) rfl r.av.row ⟨u.heap.size,0,none⟩ 1 1 [.j p.1,.j p.2] rfl rfl k qdN qdM zo ?_)
  intro H G W j f h;have n:=(r.av.app j f h zS).bM.av;have T:=n.obj.c 0;have S:=n.obj.frozen 0;have Q:=n.obj.lt;have A:=(n.set 0 (.slice H (l.length+1) G)).av;have F:=zh A;clear A n r k j f h;go_wp2;refine K.o _ _ ⟨.slice H (l.length+1) G,je (by rw[s.o.2.2.2]),?_⟩;rw[s.o.2.2.1,D8,show(l++[p]).length=l.length+1 by simp];exact F.o
def jf(es:List Ed)(b:Nat):Prop:=∃e∈es,mU e b
theorem Oc{es:List Ed}{j:Nat}(h:j<es.length)(b:Nat):jf (es.take (j+1)) b↔jf (es.take j) b\/mU es[j] b:=yg h b
def BO(l:aK)(s:Int):List Ed:=if s<0 then[]else match l[s.toNat]? with
 |some st=>st.bu
 |none=>[]
theorem uN(l:aK)(s:Int)(b:Nat):cu l s b=bH (BO l s) b:=by
 unfold cu BO
 split
 .rfl
 .cases l[s.toNat]?<;>rfl
theorem QX(W:zV)(l:aK)(s:Int)(g:Nat)(P:Nat->Prop)(w0 w:zW)(m mk:Mem)(L:List bA)(d:Own w0 m w mk (.obj g 149 (lq P 256)::L))(hl:aV mk W l)
(j' : -1<=s)(i':s<=l.length)(_:l.length<=1000000):
 zC 101 #[.agg #[W],.int .i64 s,.pointer (some ⟨g,0,none⟩)] w fun e w'=>e=.returned (.tuple #[]) /\
  Own w0 m w' mk (.obj g 149 (lq (fun b=>P b\/jf (BO l s) b) 256)::L):=by
 obtain⟨a,c,rfl,h1,h2,Q⟩:=hl;unfold maxLen at h2;by_cases h0:s<0
 .have r:BO l s=[]:=by simp[BO,h0]
  have y:lq (fun b=>P b\/jf (BO l s) b) 256=lq P 256:=dZ fun b _=>by rw[r];simp[jf]
  rw[y];refine au fun R hR=>?_;have HO:=zh (d.al' (.cells #[.slice a l.length c] 27));clear d r y
  go_enter func101,ntmps101
  exact qaV
 obtain⟨s,rfl⟩:=zT (by omega:0<=s);by_cases hs:s<l.length
 .obtain⟨b,off,rfl,h4⟩:=Q qei;obtain⟨-,ve,g2,ea,T,rfl,g4,g5,g6⟩:=h4 s hs;have r:BO l (s:Int)=(l[s]).bu:=by
   have C:¬((s:Int)<0):=zo;simp[BO,C,hs]
  rw[r];generalize l[s].bu=es at*
  refine au fun R hR=>?_;unfold maxLen at g5;have N:=azk d.az g2;have m':=bzu d.az g2;have HO:=zh (d.al' (.cells #[.slice (some ⟨b,off,none⟩) l.length c] 27));clear d Q h4 r
  go_enter func101,ntmps101
  go_wp2;refine aB [2,22,23,24] (fun n p F=>∃(j:Nat),j<=es.length/\n=es.length-j/\p=[.p g,.slice ea es.length T,.j es.length,.j j] /\
   Own w0 m F mk (.obj g 149 (lq (fun b=>P b\/jf (es.take j) b) 256)::L)) ?_ ?_
  .refine⟨_,0,zG _,rfl,rfl,?_⟩;rw[dZ (P':=P) (by intro b _;simp[jf])];exact HO.o
  clear HO N;rintro X z n p F Z-⟨j,hj,rfl,rfl,d⟩;simp[bz,lk];by_cases hlt:j<es.length
  .obtain⟨b',q,rfl,S⟩:=g6 qdJ;obtain⟨e1,e2,e3,e4,e5,-⟩:=S j hlt;have d1:=azk d.az e1;have d2:=azk d.az e2;have d3:=azk d.az e3;have O:=bzu d.az e1;have D:=zh (fun b=>Oc hlt b);generalize es[j]=e at*
   have B:=(d.al #[.int .u8 e.lo,.int .u8 e.hi,.int .i64 e.to] 102);have k:=zh B;clear d B;go_wp2;generalize F.heap.size=E at*
   generalize F.alloc (.cells #[.int .u8 e.lo,.int .u8 e.hi,.int .i64 e.to] 102)=V at*
   have K:=k.o.obj.c 0;have J:=k.o.obj.lt;have I:=k.o.av.obj.lt;have H:=k.o.av.obj.frozen e.lo;have G:=k.o.av.obj.cell (jw (i:=e.lo) zo);refine aW [2,7,22,23,24] (fun p w'=>p=[.p g,.p E,.slice (some ⟨b',q,none⟩) es.length T,.j es.length,.j j]/\w'=(V.setCell ⟨g,e.lo,none⟩ (.bool true)).drew) ?_ ?_
   .intro Y hY
    go_region
    exact qcz
   rintro z1 p M-⟨rfl,rfl⟩;simp[bz,lk];have u:=(k.o.av.set e.lo (.bool true)).dr;rw[jQ]at u;have f:=zh u;clear u k d1 d2 d3 O K J I H G;generalize (V.setCell ⟨g,e.lo,none⟩ (.bool true)).drew=w4 at*
   have K:=f.o.av.obj.c 1;have J:=f.o.av.obj.lt;by_cases l':e.hi<255
   .have A:decide ((e.hi:Int)<255)=true:=zN zo;go_wp2;have h':IntKind.u8.wrap ((e.hi:Int)+1)=(e.hi:Int)+1:=IntWalk.u8_in _ zo;have I:=f.o.obj.lt;have H:=f.o.obj.frozen (e.hi+1);have G:=f.o.obj.cell (jw (i:=e.hi+1) zo);refine aW [2,22,23,24] (fun p w'=>p=[.p g,.slice (some ⟨b',q,none⟩) es.length T,.j es.length,.j j]/\w'=(w4.setCell ⟨g,e.hi+1,none⟩ (.bool true)).drew) ?_ ?_
    .intro Y hY
     go_region
     exact qcz
    rintro z1 p M-⟨rfl,rfl⟩;simp[bz,lk];have t:=((f.o.set (e.hi+1) (.bool true)).dr).bM;rw[jQ]at t;have U:=zh t;clear t K J I H G f;go_wp2;refine Z.o _ _ _ zo rfl ⟨j+1,zo,rfl,rfl,?_⟩;rw[dZ (P:=fun b=>P b\/jf (es.take (j+1)) b) (P':=fun b=>((P b\/jf (es.take j) b)\/b=e.lo)\/b=e.hi+1) (by
     intro b _;rw[D.o];unfold mU;constructor
     .rintro(h|h|h|h)
      .exact qdm
      .exact qdl
      .exact .inl (.inr h.symm)
      .exact .inr h.symm
     .rintro(((h|h)|h)|h)
      .exact .inl h
      .exact qcS
      .exact .inr (.inr (.inl h.symm))
      .exact .inr (.inr (.inr h.symm)))]
    exact U.o
   .have A:decide ((e.hi:Int)<255)=false:=zM zo;go_wp2;refine Z.o _ _ _ zo rfl ⟨j+1,zo,rfl,rfl,?_⟩;rw[dZ (P:=fun b=>P b\/jf (es.take (j+1)) b) (P':=fun b=>(P b\/jf (es.take j) b)\/b=e.lo) (by
     intro b hb;rw[D.o];unfold mU;constructor
     .rintro(h|h|h|h)
      .exact qcT
      .exact .inl (.inr h)
      .exact .inr h.symm
      .omega
     .rintro((h|h)|h)
      .exact .inl h
      .exact qcS
      .exact .inr (.inr (.inl h.symm)))]
    exact f.o.bM
  .obtain rfl:j=es.length:=zo;rw[yG]at d;have HO:=zh d;clear d;exact qaV
 .have x:s=l.length:=zo;have r:BO l (s:Int)=[]:=by
   have C:¬((s:Int)<0):=zo;simp[BO,x]
  have y:lq (fun b=>P b\/jf (BO l (s:Int)) b) 256=lq P 256:=dZ fun b _=>by rw[r];simp[jf]
  rw[y];refine au fun R hR=>?_;have HO:=zh (d.al' (.cells #[.slice a l.length c] 27));clear d r y Q;subst x
  go_enter func101,ntmps101
  exact qaV
theorem Yy(l:aK)(s:Int)(h:(l.length:Int)<=s):bL l s=false:=by
 have:=jZ l s [] h;exact this
theorem xg(v:zV)(l:aK)(s:Int)(m:Mem)(w:zW)(g:m.az w)(d:aV m v l)(b : -9223372036854775808<=s)(f:s<=9223372036854775807):
 zX 100 #[.agg #[v],.int .i64 s] w (.bool (bL l s)):=by
 by_cases h:s<l.length
 .exact Em v l s m w g d b h
 .rw[Yy l s zo];obtain⟨a,c,rfl,n,k,j⟩:=d;unfold maxLen at k;clear j;refine au fun R i=>?_
  go_enter func100,ntmps100
  go_wp2
  all_goals exact i.o _ _ ⟨rfl,bY (zR _ _) _⟩
theorem uY:∀(es:List Ed) (c:Nat),0<c->¬jf es c->bH es c=bH es (c-1)
 |[],_,_,_=>rfl
 |e::es,c,hc,h=>by
  have f:¬(e.lo=c\/e.hi+1=c):=fun a=>h ⟨e,zS,a⟩;have b:=uY es c hc (fun⟨x,a,d⟩=>h ⟨x,by simp[a],d⟩);simp only[bH];by_cases g:e.lo<=c/\c<=e.hi
  .rw[zK g,zK ⟨zo,zo⟩]
  .rw[zJ g,zJ zo,b]
theorem Nj{A B:aK}{p:Int×Int}{c:Nat}(a:0<c)(h:¬((c=0\/jf (BO A p.1) c)\/jf (BO B p.2) c)):lg A B p c=lg A B p (c-1):=by
 unfold lg;rw[uN,uN,uN,uN,uY _ c a (fun x=>h (.inl (.inr x))),uY _ c a (fun x=>h (.inr x))]
theorem U7:(zeroCells149).setIfInBounds 0 (.bool true)=lq (fun b=>b=0) 256:=by
 have:zeroCells149=Array.replicate 256 (Value.bool false):=by kernel_rfl
 rw[this,qV,jQ];exact dZ fun b _=>by simp
theorem Own.ezL{w0 w:zW}{m mk:Mem}{L:List Cl.bA}{g:Nat}{t:TypeId}{x y:zV}(h:Own w0 m w mk (.obj g t #[x,y]::L)):Own w0 m w mk (.row (.slice (some ⟨g,0,none⟩) 1 1) t 2 1 [x,y]::L):=by
 have a:=yS.1 h.apart;refine⟨h.m0,h.aF,h.ext,h.az,?_,?_,.cons (fun b c k e d=>a.1 b c k e d) a.2⟩
 .simp only[yA,forall_eq_or_imp];refine⟨⟨rfl,.inr ⟨g,1,#[x,y],rfl,zG _,h.obj.get,zI _,by simp[maxLen],rfl,rfl⟩⟩,fun it hi=>h.ok it (zU _ hi)⟩
 .exact qg9
theorem Own.dz8{w0 w:zW}{m mk:Mem}{L:List Cl.bA}{g:Nat}{t:TypeId}{arr:Array Value}(h:Own w0 m w mk (.obj g t arr::L))(cs:Array Value):Own w0 m (w.setRow g cs) mk (.obj g t cs::L):=by
 have d:w.grownBy (w.setRow g cs) (some g):=⟨rfl,rfl,rfl,zS,fun k _ c=>setRow_other w g k cs (fun e=>c (by rw[e]))⟩;have hf:=h.ik _ (yF ..) g rfl;have a:=yS.1 h.apart;refine⟨h.m0,h.aF.grown d h.aF.size (fun k hk=>by cases hk;exact hf.1),h.ext,ezU h.az d (fun k hk=>by cases hk;exact hf.2),?_,?_,.cons (fun b f k j i=>a.1 b f k j i) a.2⟩
 .simp only[yA,forall_eq_or_imp];exact⟨⟨setRow_heap w g arr cs t (0,0) h.obj.get⟩,fun it hi=>bA.oq (h.ok it (zU _ hi)) fun k hk=>d.block k (bA.lt (h.ok it (zU _ hi)) hk) (fun e=>a.1 it hi g rfl (by cases e;exact hk))⟩
 .exact qgx
theorem kz.add{A B:aK}{op:Bool->Bool->Bool}{st:Int×Int}{l:List (Int×Int)}{out:aK}(h:kz A B op st l out){q:Int×Int}
(b:(-1<=q.1/\q.1<=A.length)/\(-1<=q.2/\q.2<=B.length)):kz A B op st (jv l q) out:=by
 by_cases a:ma l q<l.length
 .have:jv l q=l:=by unfold jv;rw[zK a]
  rw[this];exact h
 .have:jv l q=l++[q]:=by unfold jv;rw[zJ a]
  rw[this];exact h.grow (SH a) b
theorem nZ.ok{A B:aK}{p:Int×Int}{l:List (Int×Int)}{es:List Ed}{c:Nat}(h:nZ A B p l es c)(i:l.length<=100000000):(∀e∈es,ezE e)/\es.length<=256:=by
 have b:=lJ h.wf;have d:=h.le;refine⟨fun e a=>?_,?_⟩
 .have g:=h.hi e a;have f:=b e a;exact⟨zo,zo,zo,zo⟩
 .have:=YT h.wf (fun e a=>by have g:=h.hi e a;have f:=b e a;exact⟨zo,zo⟩) zo zo;omega
theorem wM(fi:Nat)(f:Bool->Bool->Bool)(hf:∀x y w,zX fi #[.bool x,.bool y] w (.bool (f x y)))(hff:f false false=false)
(hcf:Hid (∀x y w,Sem.run prog (callFunc fi #[.bool x,.bool y]) w=.ok (.enter fi #[.bool x,.bool y]) w))
(v0 v1:zV)(A B:aK)(m:Mem)(w:zW)(hm:m.az w)(G':eD m)(hA:aV m v0 A)(hB:aV m v1 B)(hlen:(A.length+2)*(B.length+2)<=1000000)(hlA:A.length<=1000000)(hlB:B.length<=1000000):
 zC 64 #[.agg #[v0],.agg #[v1],.func (.func fi) #[] #[]] w fun e w'=>∃r C,e=.returned (.agg #[r])/\zB w w'/\aV (m.grow w w') r C /\
  eP (fun x=>f (Sem A x) (Sem B x)) C/\C.length<=(A.length+2)*(B.length+2)+1:=by
 have F:=(((Own.start hm).al #[v0] 27).al #[v1] 27).al #[.slice none 0 0] 27;have hsz1:(w.alloc (.cells #[v0] 27)).heap.size=w.heap.size+1:=by simp
 have hsz2:((w.alloc (.cells #[v0] 27)).alloc (.cells #[v1] 27)).heap.size=w.heap.size+2:=by simp
 rw[hsz2,hsz1]at F;have HO:=zh F;have HA:=zh (fun w (hw:m.az w)=>nM v0 A m w hw G' hA hlA);have HB:=zh (fun mk w (hw:mk.az w) (hle:m.le mk)=>nM v1 B mk w hw (G'.le hle) (bq hle hB) hlB);clear F hsz1 hsz2;refine au fun R hR=>?_;obtain⟨va,vc,rfl,-⟩:=hA;obtain⟨vb,vd,rfl,-⟩:=hB
 go_enter func64,ntmps64
 go_wp2;refine aW [2,3,4,6] (fun vs w'=>∃(r1 r2:zV) (mk:Mem),vs=[.func (.func fi) #[] #[],.p w.heap.size,.p (w.heap.size+1),.p (w.heap.size+2)] /\
  Own w m w' mk [.obj (w.heap.size+2) 27 #[.slice none 0 0],.obj (w.heap.size+1) 27 #[r2],.obj w.heap.size 27 #[r1]]/\aV mk r1 (cz A)/\aV mk r2 (cz B)) ?_ ?_
 .intro X hX;refine gV (fun j w'=>(j≠4->j≠5->bg w' w.heap.size 27 #[.slice va A.length vc])/\(j≠5->bg w' (w.heap.size+1) 27 #[.slice vb B.length vd])) zk ?_;have F:=HO.o.dr;refine oV 0 (fun w'=>bg w' w.heap.size 27 #[.slice va A.length vc]) rfl zk (fun _ _ _ h=>h) (fun j w' hj hd=>hd.1 qhH qhH) F.aR.obj (ax rfl fun w' u=>by have q:=u.cell (i:=0) rfl;go_simp;rfl) ?_;refine oV 2 (fun w'=>bg w' (w.heap.size+1) 27 #[.slice vb B.length vd]) rfl zk (fun _ _ _ h=>h) (fun j w' hj hd=>hd.2 qhH) F.av.obj (ax rfl fun w' u=>by have q:=u.cell (i:=0) rfl;go_simp;rfl) ?_;refine aO 1 zk (aM rfl rfl (fP qeb (HA.o _ F.az) ?_));rintro e w1 ⟨r1,rfl,hb1,M'⟩;have G:=F.call hb1;have hle:=bzx (w:=w1) F.az;refine⟨_,rfl,.inr ⟨fun _ _=>G.aR.obj,fun _=>G.av.obj⟩,?_⟩;go_simp;refine aO 3 zk (aM rfl rfl (fP qeb (HB.o _ _ G.az hle) ?_));rintro e w2 ⟨r2,rfl,hb2,L'⟩;have M:=G.call hb2;have hle2:=bzx (w:=w2) G.az;refine⟨_,rfl,.inr ⟨fun _ _=>M.aR.obj,fun _=>M.av.obj⟩,?_⟩;obtain⟨xa,xc,rfl⟩:∃xa xc,r1=.slice xa (cz A).length xc:=by obtain⟨x,y,e,-⟩:=M';exact⟨x,y,e⟩
  obtain⟨ya,yc,rfl⟩:∃xa xc,r2=.slice xa (cz B).length xc:=by obtain⟨x,y,e,-⟩:=L';exact⟨x,y,e⟩
  go_simp;have f1:=M.aR.obj.frozen 0;have c1:=M.aR.obj.c 0;have O:=M.aR.set 0 (.slice xa (cz A).length xc);have f3:=O.aR.obj.frozen 0;have c3:=O.aR.obj.c 0;have b':=(O.aR.set 0 (.slice ya (cz B).length yc)).aR;refine aO 4 zk (aM rfl rfl (dx zg ⟨.inr ⟨fun h=>absurd rfl h,fun _=>O.aR.obj⟩,?_⟩));refine aO 5 zk (aM rfl rfl (dx zg ⟨.inr ⟨fun _ h=>absurd rfl h,fun h=>absurd rfl h⟩,?_⟩));refine dE zk ?_ _;exact hX.o _ _ rfl ⟨_,_,_,rfl,b',bq hle2 M',L'⟩
 rintro z vs w1-⟨r1,r2,mk,rfl,F,M',L'⟩;simp[bz,lk];clear HO HA HB;have hgA:=nC A;have hgB:=nC B;have hgAl:=jT A;have hgBl:=jT B;have I':∀x,aH (cz A) 0 x=Sem A x:=fun x=>by
  unfold cz Sem;by_cases h:bZ A
  .simp[aN h]
  .simp[aG h];exact gK x
 have H':∀x,aH (cz B) 0 x=Sem B x:=fun x=>by
  unfold cz Sem;by_cases h:bZ B
  .simp[aN h]
  .simp[aG h];exact gK x
 have HG:=zh (zi hgA (zi hgB (zi I' H')));clear hgA hgB I' H';have hmul:((cz A).length+2)*((cz B).length+2)<=(A.length+2)*(B.length+2):=xV zo zo;generalize cz A=K at*
 generalize cz B=J at*
 have G:=(((F.al #[.int .i64 0,.int .i64 0] 144).ezL).al #[.slice (some ⟨w1.heap.size,0,none⟩) 1 1] 145).av.fE 105 2;have hsz:(w1.alloc (.cells #[.int .i64 0,.int .i64 0] 144)).heap.size=w1.heap.size+1:=by simp
 rw[hsz]at G;have W:=zh (zi G (SF (A:=K) (B:=J) (op:=f) (st:=(0,0)) (by simp only;omega)));have C':=zh (zi M' L');obtain⟨xa,xc,rfl,-⟩:=M';obtain⟨ya,yc,rfl,-⟩:=L';clear G F hsz;go_wp2;generalize w1.heap.size=N at*
 refine aB [2,3,4,6,7,8,9,10] (fun n vs wr=>∃(k:Nat) (l:List (Int×Int)) (out:aK) (vl vo:zV) (xs:List Value) (mk':Mem),n=1000001-k /\
  vs=[.func (.func fi) #[] #[],.p w.heap.size,.p (w.heap.size+1),.p (w.heap.size+2),.p (N+1),.func (.func 98) #[] #[.pointer (some ⟨N+1,0,none⟩)],vo,.j k] /\
  Own w m wr mk' [.row vo 105 2 k xs,.row vl 144 2 l.length (gU l),.obj (N+1) 145 #[vl],.obj (w.heap.size+2) 27 #[.slice none 0 0],.obj (w.heap.size+1) 27 #[.slice ya J.length yc],.obj w.heap.size 27 #[.slice xa K.length xc]] /\
  rD mk' xs out/\mk.le mk'/\kz K J f (0,0) l out/\out.length=k) ?_ ?_
 .refine⟨_,0,[(0,0)],[],.slice (some ⟨N,0,none⟩) 1 1,.n,[],mk,rfl,?_,W.o.1,rD.nil _,Mem.le_refl _,W.o.2,rfl⟩
  rfl
 clear W;rintro X z n vs wr hX-⟨k,l,out,vl,vo,xs,mk',rfl,rfl,F,K',p',U,N'⟩;simp[bz,lk];obtain⟨vla,vlc,rfl⟩:=bv F.av.row;have hob:=F.aR.obj;have b1:=hob.cell (i:=0) rfl;have b2:=hob.lt;have hpl:=uT U.nodup U.iQ;have hkl:=U.le;by_cases hlt:k<l.length
 .obtain⟨vlb,rfl⟩:=tO F.av.row zo;have hpc:=sI l k hlt;have r1:=bO F.av.row hpc.1;have r2:=bO F.av.row hpc.2;have rl:=(World.ownsRow.lt F.av.row _ rfl).2;have R':l[k]?=some l[k]:=by simp[hlt]
  have hrng:=U.iQ l[k] (zF hlt);have HP:=zh (zi U (zi N' R'));generalize l[k]=p at*
  obtain⟨I,H⟩:=p;simp only at r1 r2 hrng;have G:=F.al #[.int .i64 I,.int .i64 H] 144;have W:=zh G;clear G F U N' R' hpc hob;go_wp2;generalize hW2:wr.alloc (.cells #[.int .i64 I,.int .i64 H] 144)=w2 at*
  generalize wr.heap.size=P at*
  refine aW [2,3,4,6,7,8,9,10,11,12] (fun vs w'=>∃S:Nat,
   vs=[.func (.func fi) #[] #[],.p w.heap.size,.p (w.heap.size+1),.p (w.heap.size+2),.p (N+1),.func (.func 98) #[] #[.pointer (some ⟨N+1,0,none⟩)],vo,.j k,.p P,.p S] /\
   Own w m w' mk' [.obj S 105 #[.bool (f (bL K I) (bL J H)),.slice none 0 0],.obj P 144 #[.int .i64 I,.int .i64 H],.row vo 105 2 k xs,.row (.slice (some ⟨vlb,0,none⟩) l.length vlc) 144 2 l.length (gU l),.obj (N+1) 145 #[.slice (some ⟨vlb,0,none⟩) l.length vlc],.obj (w.heap.size+2) 27 #[.slice none 0 0],.obj (w.heap.size+1) 27 #[.slice ya J.length yc],.obj w.heap.size 27 #[.slice xa K.length xc]]) ?_ ?_
  .intro Y hY;refine bE 12 8 (fun j=>[aI.is (·=.func (.func fi) #[] #[]),aI.is (·=.agg #[.slice xa K.length xc]),aI.is (·=.p P),aI.is (·=.j I),aI.is (·=.bool (bL K I)),aI.is (·=.agg #[.slice ya J.length yc]),aI.is (·=.pointer (some ⟨P,1,none⟩)),aI.is (·=.j H),aI.is (·=.bool (bL J H)),aI.is (·=.bool (f (bL K I) (bL J H))),aI.is (·=.agg #[.bool (f (bL K I) (bL J H)),.slice none 0 0]),aI.obj 11 105 #[.bool false,.slice none 0 0]].getD j aI.any) zk zk ?_ ?_
   .intro i hi o win a wr ho RA;have V':=W.o.dr.aT RA.aF;have kA:=V'.jG (g:=w.heap.size) (t:=27) (arr:=#[.slice xa K.length xc]) zS;have kB:=V'.jG (g:=w.heap.size+1) (t:=27) (arr:=#[.slice ya J.length yc]) zS;have kP:=V'.jG (g:=P) (t:=144) (arr:=#[.int .i64 I,.int .i64 H]) zS;have ka:=kA.cell (i:=0) rfl;have kb:=kB.cell (i:=0) rfl;have kp:=kP.cell (i:=0) rfl;have kq:=kP.cell (i:=1) rfl;have kl:=kP.lt;rcases(show i=0\/i=1\/i=2\/i=3\/i=4\/i=5\/i=6\/i=7\/i=8\/i=9\/i=10\/i=11 by omega)with rfl|rfl|rfl|rfl|rfl|rfl|rfl|rfl|rfl|rfl|rfl|rfl
    .have e2:=RA.k 2;exact qaa
    .have e3:=RA.k 3;exact qaa
    .have e11:=RA.k 11;exact qaa
    .have e36:zt a 36 _:=RA.d 2 rfl;exact qaa
    .have e35:zt a 35 _:=RA.d 1 rfl;have e37:zt a 37 _:=RA.d 3 rfl;cases ho;refine we rfl rfl (xg (.slice xa K.length xc) K I mk _ (bzw p' V'.az) C'.o.1 zo zo) ?_;exact qag
    .have e4:=RA.k 4;exact qaa
    .have e11:=RA.k 11;exact qaa
    .have e40:zt a 40 _:=RA.d 6 rfl;exact qaa
    .have e39:zt a 39 _:=RA.d 5 rfl;have e41:zt a 41 _:=RA.d 7 rfl;cases ho;refine we rfl rfl (xg (.slice ya J.length yc) J H mk _ (bzw p' V'.az) C'.o.2 zo zo) ?_;exact qag
    .have e34:zt a 34 _:=RA.d 0 rfl;have e38:zt a 38 _:=RA.d 4 rfl;have e42:zt a 42 _:=RA.d 8 rfl;cases ho;refine aM rfl rfl (fP (by have hc:=fun w'=>hcf.o (bL K I) (bL J H) w';go_simp;first|done|rfl) (hf (bL K I) (bL J H) _) ?_);exact qag
    .have e43:zt a 43 _:=RA.d 9 rfl;have f43:=(zY (xs:=a.tmps) (i:=43) (d:=undef)).symm.trans e43;exact qaa
    .exact qgU
   .intro win a wr E;have e2:=E.keep 2 zk;have e3:=E.keep 3 zk;have e4:=E.keep 4 zk;have e6:=E.keep 6 zk;have e7:=E.keep 7 zk;have e8:=E.keep 8 zk;have e9:=E.keep 9 zk;have e10:=E.keep 10 zk;have e11:=E.keep 11 zk;have e12:(aI.obj 11 105 #[.bool false,.slice none 0 0]).holds (a.tmps.getD 12 undef) win wr:=E.fact 11 _ zo rfl;have e44:a.tmps.getD 44 undef=.agg #[.bool (f (bL K I) (bL J H)),.slice none 0 0]:=E.fact 10 _ zo rfl;obtain⟨p11,n11,o11⟩:_/\_/\_:=e12;have g11:=E.iQ 11 zo;have hO1:=W.o.dr.aT E.aF;have hge:=W.o.dr.aF.size;have z':=hO1.newObj o11 zo (eza W.o.dr.az g11.1) (W.o.dr.Oy g11.1);generalize (win 11).1=S at*
    have hE0:=z'.obj.frozen 0;have hE1:=z'.obj.frozen 1;have hE2:=z'.obj.c 0;have hE3:=z'.obj.c 1;have hE4:=z'.obj.lt;have hZ:=(z'.set 0 (.bool (f (bL K I) (bL J H)))).set 1 (.n);have hsz:=E.size;obtain⟨t1,dd⟩:=a;obtain rfl:dd=[]:=E.defers;refine eQ 12 zk (aM rfl rfl (dx zg ?_));refine dB zk (hY.o _ _ (by simpa using hsz) ⟨S,?_,hZ⟩) _;simp only[yL,xB];rw[e2,e3,e4,e6,e7,e8,e9,e10,e11,p11]
    rfl
  rintro z1 vs w3-⟨S,rfl,F⟩;simp[bz,lk];have G:=F.al zeroCells149 149;have hg2:=G.obj.get;have M:=G.dz8 (zeroCells149.setIfInBounds 0 (.bool true));have O:=M;rw[U7]at O;have HC1:=zh (QX (.slice xa K.length xc) K I w3.heap.size (fun b=>b=0) w _ m mk' _ O (bq p' C'.o.1) zo zo zo);rw[<-U7]at HC1;have HC2:=zh (fun L P w' (h:Own w m w' mk' (.obj w3.heap.size 149 (lq P 256)::L))=>QX (.slice ya J.length yc) J H w3.heap.size P w w' m mk' L h (bq p' C'.o.2) zo zo zo);have HO3:=zh M;have q1:=(M.jG (g:=w.heap.size) (t:=27) (arr:=#[.slice xa K.length xc]) zS).cell (i:=0) rfl;have q1l:=(M.jG (g:=w.heap.size) (t:=27) (arr:=#[.slice xa K.length xc]) zS).lt;have q3:=(M.jG (g:=P) (t:=144) (arr:=#[.int .i64 I,.int .i64 H]) zS).cell (i:=0) rfl;have q3l:=(M.jG (g:=P) (t:=144) (arr:=#[.int .i64 I,.int .i64 H]) zS).lt;clear F M O W G
  go_wp2_with (refine wpList_store_row rfl 149 (.tmp 13) (.tmp 45) rfl w3.heap.size (zeroCells149.setIfInBounds 0 (.bool true)) rfl rfl 149 zeroCells149 hg2 zk zS zk ?_)
  clear hg2;refine HC1.o.mono ?_;rintro e w4 ⟨rfl,F⟩;have q1:=(F.jG (g:=w.heap.size+1) (t:=27) (arr:=#[.slice ya J.length yc]) zS).cell (i:=0) rfl;have q1l:=(F.jG (g:=w.heap.size+1) (t:=27) (arr:=#[.slice ya J.length yc]) zS).lt;have q3:=(F.jG (g:=P) (t:=144) (arr:=#[.int .i64 I,.int .i64 H]) zS).cell (i:=1) rfl;have q3l:=(F.jG (g:=P) (t:=144) (arr:=#[.int .i64 I,.int .i64 H]) zS).lt;have HC3:=zh (HC2.o _ _ w4 F);clear HO3 HC1 HC2 F
  go_wp2_with fail
  refine HC3.o.mono ?_;rintro e w5 ⟨rfl,F⟩;clear HC3 q1 q1l q3 q3l;generalize w3.heap.size=D at*
  obtain⟨PM,hPM⟩:∃PM:Nat->Prop,PM=fun b=>(b=0\/jf (BO K I) b)\/jf (BO J H) b:=⟨_,rfl⟩;rw[<-hPM]at F;have HPM:=zh hPM;have HO:=zh ((F.perm (List.Perm.refl _)).fE 102 3);clear hPM F;go_wp2;refine aB [2,3,4,6,7,8,9,10,11,12,13,54] (fun n vs w'=>∃(c:Nat) (l':List (Int×Int)) (vl' ve:zV) (es:List Ed),c<=256/\n=256-c /\
   vs=[.func (.func fi) #[] #[],.p w.heap.size,.p (w.heap.size+1),.p (w.heap.size+2),.p (N+1),.func (.func 98) #[] #[.pointer (some ⟨N+1,0,none⟩)],vo,.j k,.p P,.p S,.p D,.j c] /\
   Own w m w' mk' [.row ve 102 3 es.length (gF es),.obj D 149 (lq PM 256),.obj S 105 #[.bool (f (bL K I) (bL J H)),ve],.obj P 144 #[.int .i64 I,.int .i64 H],.row vo 105 2 k xs,.row vl' 144 2 l'.length (gU l'),.obj (N+1) 145 #[vl'],.obj (w.heap.size+2) 27 #[.slice none 0 0],.obj (w.heap.size+1) 27 #[.slice ya J.length yc],.obj w.heap.size 27 #[.slice xa K.length xc]] /\
   nZ K J (I,H) l' es c/\kz K J f (0,0) l' out/\l'[k]?=some (I,H)) ?_ ?_
  .exact⟨_,0,l,.slice (some ⟨vlb,0,none⟩) l.length vlc,.n,[],zo,rfl,rfl,HO.o,nZ.start _ _ _ _,HP.o.1,HP.o.2.2⟩
  clear HO;rintro Y z2 n vs w6 hY-⟨c,l',vl',ve,es,hc,rfl,rfl,F,T',U,R'⟩;simp[bz,lk];obtain⟨F',E',rfl⟩:=bv (F.BX (v:=vl') (t:=144) (size:=2) (n:=l'.length) (xs:=gU l') zS);obtain⟨g',f',rfl⟩:=bv F.row;have hpl2:=uT U.nodup U.iQ;have hok:=T'.ok zo;have hel:=hok.2;have HC:=zh (zi T' (zi U (zi R' hok.1)));clear T' R' hok U;by_cases Q':c<256
  .have m1:=(F.jG (g:=D) (t:=149) (arr:=lq PM 256) zS).cell (jw Q');have m2:=(F.jG (g:=D) (t:=149) (arr:=lq PM 256) zS).lt;obtain⟨bm,hbm⟩:∃b,tf (PM c)=b:=⟨_,rfl⟩;rw[hbm]at m1;have Hbm:=zh hbm;clear hbm
   go_upto_if 59 with(fail)
   refine aW [2,3,4,6,7,8,9,10,11,12,13,54,14] (fun vs w'=>∃(l2:List (Int×Int)) (x' ve2:zV) (fs:List Ed) (e:Ed),vs=[.func (.func fi) #[] #[],.p w.heap.size,.p (w.heap.size+1),.p (w.heap.size+2),.p (N+1),.func (.func 98) #[] #[.pointer (some ⟨N+1,0,none⟩)],vo,.j k,.p P,.p S,.p D,.j c,.j c] /\
    Own w m w' mk' [.row ve2 102 3 (fs.length+1) (gF (fs++[e])),.obj D 149 (lq PM 256),.obj S 105 #[.bool (f (bL K I) (bL J H)),ve2],.obj P 144 #[.int .i64 I,.int .i64 H],.row vo 105 2 k xs,.row x' 144 2 l2.length (gU l2),.obj (N+1) 145 #[x'],.obj (w.heap.size+2) 27 #[.slice none 0 0],.obj (w.heap.size+1) 27 #[.slice ya J.length yc],.obj w.heap.size 27 #[.slice xa K.length xc]] /\
    nZ K J (I,H) l2 (fs++[⟨e.lo,c,e.to⟩]) (c+1)/\kz K J f (0,0) l2 out/\l2[k]?=some (I,H)) ?_ ?_
   .intro V hV
    cases bm with
    |false=>
     have hnm:¬PM c:=fun h=>by have:=Hbm.o;rw[aN h]at this;cases this
     have hun:0<c/\lg K J (I,H) c=lg K J (I,H) (c-1):=by
      rw[HPM.o]at hnm;have h0:0<c:=by
       apply zP;intro h;exact hnm (.inl (.inl zo))
      exact⟨h0,Nj (p:=(I,H)) h0 hnm⟩
     have hes:∃fs e,es=fs++[e]/\e.hi+1=c:=by
      rcases HC.o.1.last with⟨h,-⟩|h
      .omega
      .exact h
     obtain⟨fs,e,rfl,he⟩:=hes;have hcw:=HC.o.1.widen he Q' hun.2;have Q:=zh (zi hcw F);clear hcw F hnm hun he;go_wp2;refine hV.o _ _ rfl ⟨l',.slice F' l'.length E',.slice g' (fs++[e]).length f',fs,e,rfl,?_,Q.o.1,HC.o.2.1,HC.o.2.2.1⟩;have:=Q.o.2
     exact qbe
    |true=>
     have hwu:IntKind.u8.wrap (c:Int)=(c:Int):=IntWalk.u8_in _ zo;have F:=F.dr;have HO:=zh F;go_wp2;have j':∀{w':zW} {L:List Cl.bA},Own w m w' mk' L->bA.obj w.heap.size 27 #[.slice xa K.length xc]∈L->bA.obj (w.heap.size+1) 27 #[.slice ya J.length yc]∈L->bA.obj P 144 #[.int .i64 I,.int .i64 H]∈L->bA.obj S 105 #[.bool (f (bL K I) (bL J H)),.slice g' es.length f']∈L ->
      (bg w' w.heap.size 27 #[.slice xa K.length xc]/\bg w' (w.heap.size+1) 27 #[.slice ya J.length yc]/\bg w' P 144 #[.int .i64 I,.int .i64 H]/\bg w' S 105 #[.bool (f (bL K I) (bL J H)),.slice g' es.length f']):=
      fun h h1 h2 h3 h4=>⟨h.jG h1,h.jG h2,h.jG h3,h.jG h4⟩
     refine jX (fun w'=>bg w' w.heap.size 27 #[.slice xa K.length xc]/\bg w' (w.heap.size+1) 27 #[.slice ya J.length yc]/\bg w' P 144 #[.int .i64 I,.int .i64 H]/\bg w' S 105 #[.bool (f (bL K I) (bL J H)),.slice g' es.length f']) 23 zk ?_;have hS:=j' F zS zS zS zS;refine aL 0 rfl zk (fun _ _ _ h=>h) hS (ax rfl fun w' u=>by have q:=u.1.cell (i:=0) rfl;have q1:=u.2.1.cell (i:=0) rfl;have q2:=u.2.2.1.cell (i:=0) rfl;have q3:=u.2.2.1.cell (i:=1) rfl;have q4:=u.2.2.2.cell (i:=1) rfl;go_simp;rfl) ?_;refine aL 1 rfl zk (fun _ _ _ h=>h) hS (ax rfl fun w' u=>by have q:=u.1.cell (i:=0) rfl;have q1:=u.2.1.cell (i:=0) rfl;have q2:=u.2.2.1.cell (i:=0) rfl;have q3:=u.2.2.1.cell (i:=1) rfl;have q4:=u.2.2.2.cell (i:=1) rfl;go_simp;rfl) ?_;refine aL 2 rfl zk (fun _ _ _ h=>h) hS (ax rfl fun w' u=>by have q:=u.1.cell (i:=0) rfl;have q1:=u.2.1.cell (i:=0) rfl;have q2:=u.2.2.1.cell (i:=0) rfl;have q3:=u.2.2.1.cell (i:=1) rfl;have q4:=u.2.2.2.cell (i:=1) rfl;go_simp;rfl) ?_;refine aL 3 rfl zk (fun _ _ _ h=>h) hS (ax rfl fun w' u=>by have q:=u.1.cell (i:=0) rfl;have q1:=u.2.1.cell (i:=0) rfl;have q2:=u.2.2.1.cell (i:=0) rfl;have q3:=u.2.2.1.cell (i:=1) rfl;have q4:=u.2.2.2.cell (i:=1) rfl;go_simp;rfl) ?_;refine aL 4 rfl zk (fun _ _ _ h=>h) hS (ax rfl fun w' u=>by have q:=u.1.cell (i:=0) rfl;have q1:=u.2.1.cell (i:=0) rfl;have q2:=u.2.2.1.cell (i:=0) rfl;have q3:=u.2.2.1.cell (i:=1) rfl;have q4:=u.2.2.2.cell (i:=1) rfl;go_simp;rfl) ?_;refine aL 5 rfl zk (fun _ _ _ h=>h) hS (ax rfl fun w' u=>by have q:=u.1.cell (i:=0) rfl;have q1:=u.2.1.cell (i:=0) rfl;have q2:=u.2.2.1.cell (i:=0) rfl;have q3:=u.2.2.1.cell (i:=1) rfl;have q4:=u.2.2.2.cell (i:=1) rfl;go_simp;rfl) ?_;refine aL 6 rfl zk (fun _ _ _ h=>h) hS (ax rfl fun w' u=>by have q:=u.1.cell (i:=0) rfl;have q1:=u.2.1.cell (i:=0) rfl;have q2:=u.2.2.1.cell (i:=0) rfl;have q3:=u.2.2.1.cell (i:=1) rfl;have q4:=u.2.2.2.cell (i:=1) rfl;go_simp;rfl) ?_;refine aL 7 rfl zk (fun _ _ _ h=>h) hS (ax rfl fun w' u=>by have q:=u.1.cell (i:=0) rfl;have q1:=u.2.1.cell (i:=0) rfl;have q2:=u.2.2.1.cell (i:=0) rfl;have q3:=u.2.2.1.cell (i:=1) rfl;have q4:=u.2.2.2.cell (i:=1) rfl;go_simp;rfl) ?_;refine aL 8 rfl zk (fun _ _ _ h=>h) hS (ax rfl fun w' u=>by have q:=u.1.cell (i:=0) rfl;have q1:=u.2.1.cell (i:=0) rfl;have q2:=u.2.2.1.cell (i:=0) rfl;have q3:=u.2.2.1.cell (i:=1) rfl;have q4:=u.2.2.2.cell (i:=1) rfl;go_simp;rfl) ?_;refine aL 9 rfl zk (fun _ _ _ h=>h) hS (ax rfl fun w' u=>by have q:=u.1.cell (i:=0) rfl;have q1:=u.2.1.cell (i:=0) rfl;have q2:=u.2.2.1.cell (i:=0) rfl;have q3:=u.2.2.1.cell (i:=1) rfl;have q4:=u.2.2.2.cell (i:=1) rfl;go_simp;rfl) ?_;refine aL 11 rfl zk (fun _ _ _ h=>h) hS (ax rfl fun w' u=>by have q:=u.1.cell (i:=0) rfl;have q1:=u.2.1.cell (i:=0) rfl;have q2:=u.2.2.1.cell (i:=0) rfl;have q3:=u.2.2.1.cell (i:=1) rfl;have q4:=u.2.2.2.cell (i:=1) rfl;go_simp;rfl) ?_;refine aL 12 rfl zk (fun _ _ _ h=>h) hS (ax rfl fun w' u=>by have q:=u.1.cell (i:=0) rfl;have q1:=u.2.1.cell (i:=0) rfl;have q2:=u.2.2.1.cell (i:=0) rfl;have q3:=u.2.2.1.cell (i:=1) rfl;have q4:=u.2.2.2.cell (i:=1) rfl;go_simp;rfl) ?_;refine aL 13 rfl zk (fun _ _ _ h=>h) hS (ax rfl fun w' u=>by have q:=u.1.cell (i:=0) rfl;have q1:=u.2.1.cell (i:=0) rfl;have q2:=u.2.2.1.cell (i:=0) rfl;have q3:=u.2.2.1.cell (i:=1) rfl;have q4:=u.2.2.2.cell (i:=1) rfl;go_simp;rfl) ?_;refine aL 14 rfl zk (fun _ _ _ h=>h) hS (ax rfl fun w' u=>by have q:=u.1.cell (i:=0) rfl;have q1:=u.2.1.cell (i:=0) rfl;have q2:=u.2.2.1.cell (i:=0) rfl;have q3:=u.2.2.1.cell (i:=1) rfl;have q4:=u.2.2.2.cell (i:=1) rfl;go_simp;rfl) ?_;refine aL 15 rfl zk (fun _ _ _ h=>h) hS (ax rfl fun w' u=>by have q:=u.1.cell (i:=0) rfl;have q1:=u.2.1.cell (i:=0) rfl;have q2:=u.2.2.1.cell (i:=0) rfl;have q3:=u.2.2.1.cell (i:=1) rfl;have q4:=u.2.2.2.cell (i:=1) rfl;go_simp;rfl) ?_;refine bG 10 zk (aM rfl rfl (fP qeb (Pk (.slice xa K.length xc) K I c mk _ (bzw p' F.az) C'.o.1 zo zo) ?_));rintro e w7 ⟨rfl,hb7⟩;have G:=F.aT hb7;refine⟨_,rfl,pX (j' G zS zS zS zS) fun _=>?_⟩;go_simp;refine bG 16 zk (aM rfl rfl (fP qeb (Pk (.slice ya J.length yc) J H c mk _ (bzw p' G.az) C'.o.2 zo zo) ?_));rintro e w8 ⟨rfl,hb8⟩;have M:=G.aT hb8;refine⟨_,rfl,pX (j' M zS zS zS zS) fun _=>?_⟩;go_simp;have hrA:=mY HG.o.1.wf I c;have hrB:=mY HG.o.2.1.wf H c;have hps:lg K J (I,H) c=(cu K I c,cu J H c):=rfl;have hpr:(-1<=(lg K J (I,H) c).1/\(lg K J (I,H) c).1<=K.length)/\(-1<=(lg K J (I,H) c).2/\(lg K J (I,H) c).2<=J.length):=by
      rw[hps];exact qdu
     have e':=HC.o.2.1.add hpr;have hpk:∀q∈l',Np q:=fun q hq=>by
      have:=HC.o.2.1.iQ q hq;exact⟨zo,zo,zo,zo⟩
     have hgt:=PL l' (lg K J (I,H) c);have hpre:=PK l' (lg K J (I,H) c);have hcs:=(HC.o.1.mono hpre).seg (h:=c) (zI _) Q' hgt (fun b h1 h2=>by rw[show b=c by omega]);have v':(jv l' (lg K J (I,H) c))[k]?=some (I,H):=by
      obtain⟨x,hx⟩:=hpre;rw[<-hx,yK (yB.1 HC.o.2.2.1).1];exact HC.o.2.2.1
     have hpno:=D7 l' (lg K J (I,H) c);refine bG 17 zk (aM rfl rfl (aS qdK (pX (j' M zS zS zS zS) fun _=>?_)));go_simp;have hq:=(M.SE (l₁:=[_,_,_,_,_,_])).SE (l₁:=[_,_,_,_,_,_]);refine bG 18 zk (aM rfl rfl (fP qeb (S9 (N+1) (.slice F' l'.length E') l' (lg K J (I,H) c) w w8 m mk' _ hq ⟨zo,zo,zo,zo⟩ hpk zo) ?_));rintro e w9 ⟨x',rfl,hq2⟩;have O:=(hq2.MU (l₁:=[_,_,_,_,_,_])).MU (l₁:=[_,_,_,_,_,_]);simp only[xK,xN]at O;refine⟨_,rfl,pX (j' O zS zS zS zS) fun _=>?_⟩;generalize ma l' (lg K J (I,H) c)=t at*
     generalize jv l' (lg K J (I,H) c)=l2 at*
     clear hq hq2 M G hb7 hb8;go_simp;refine bG 19 zk (aM rfl rfl (aS qdK (pX (j' O zS zS zS zS) fun _=>?_)));go_simp;have b':=O.al #[.int .u8 c,.int .u8 0,.int .i64 t] 102;refine bG 20 zk (aM rfl rfl (aS qdK (pX (j' b' zS zS zS zS) fun _=>?_)));go_simp;refine bG 21 zk (aM rfl rfl (fQ M5 (.tmp 61) (.tmp 80) rfl (.slice g' es.length f') es.length (gF es) rfl b'.av.row ⟨w9.heap.size,0,none⟩ 1 1 [.int .u8 c,.int .u8 0,.j t] rfl rfl (b'.obj.dQ rfl) qdN qdM zo (fun na' nc' w10 a' T Z=>?_)));have hO7:=(b'.av.app a' T Z (zI _)).bM;refine pX (j' hO7 zS zS zS zS) fun hS3=>?_;go_simp;refine bG 22 zk (aM rfl rfl (aS qdK (pX hS3 fun _=>?_)));go_simp;have f3:=hS3.2.2.2.frozen 1;have c3:=hS3.2.2.2.cell (i:=1) rfl;have hO8:=((hO7.aR.set 1 (.slice na' (es.length+1) nc')).av).aR.av;refine bG 23 zk (aM rfl rfl (dx zg (sw rfl ?_)));refine jY zk ?_ _;have Q:=zh (zi hO8 hcs);clear hO8 hO7 b' O F hS hS3 f3 c3 a' T Z hcs;refine hV.o _ _ rfl ⟨l2,x',.slice na' (es.length+1) nc',es,⟨c,0,t⟩,rfl,?_,Q.o.2,e',v'⟩;have:=Q.o.1;simpa [nO]using this
   rintro z3 vs w7-⟨l2,x',ve2,fs,e,rfl,F,q',e',v'⟩;simp[bz,lk];obtain⟨vea2,vec2,rfl⟩:=bv F.row;obtain⟨eb,rfl⟩:=tO F.row zo;have hwu:IntKind.u8.wrap (c:Int)=(c:Int):=IntWalk.u8_in _ zo;have s1:=F.aR.obj.c 1;have s2:=F.aR.obj.lt;have y1:=bO F.row (pE (fs++[e]) fs.length zS).2.1;have y2:=fD F.row (fs.length*3+1);have y3:=(World.ownsRow.lt F.row _ rfl).2;have hlt5:fs.length<fs.length+1:=zo;have hfl:fs.length+1<=256:=by have:=(q'.ok (by have:=uT e'.nodup e'.iQ;omega)).2;simpa using this
   have b':=F.setRow (fs.length*3+1) (.int .u8 c);rw[Fu]at b';have Q:=zh (zi b' (zi q' (zi e' v')));clear b' F q' e' v';go_wp2;refine hY.o _ _ _ zo rfl ⟨c+1,l2,x',.slice (some ⟨eb,0,none⟩) (fs.length+1) vec2,fs++[⟨e.lo,c,e.to⟩],zo,rfl,rfl,?_,Q.o.2.1,Q.o.2.2.1,Q.o.2.2.2⟩;have:=Q.o.1;exact qbe
  .obtain rfl:c=256:=zo;have hPIn:=HC.o.2.1.push (p:=(I,H)) (by rw[HP.o.2.1];exact HC.o.2.2.1) HC.o.1;have hes:=q9 (l:=es) (m:=mk') F.row HC.o.2.2.2;have P':=czS (w:=w6) F.free;have J':=(K'.mono P').push (s:=⟨f (bL K I) (bL J H),es⟩) hes;have G:=F.bP;have s0:=G.av.obj.c 0;have s1:=G.av.obj.c 1;have sl:=G.av.obj.lt;obtain⟨voa,Z',rfl⟩:=bv (G.BX (v:=vo) (t:=105) (size:=2) (n:=k) (xs:=xs) zS);have M:=G.al #[.bool (f (bL K I) (bL J H)),.slice g' es.length f'] 105;have O:=M.SE (l₁:=[_,_,_,_]);have hvr:=O.row;have O':=M.obj.dQ rfl;have Hk:=zh (zi J' (zi (Mem.le_trans p' P') hPIn));clear J' hes P' G F hPIn M;generalize mk'.iA w6 (.slice g' es.length f')=mk2 at*
   go_wp2_with (at_builtin;refine aU Gr rfl (.tmp 94) (.tmp 96) rfl (.slice voa k Z') k xs rfl hvr ⟨w6.heap.size,0,none⟩ 1 1 [.bool (f (bL K I) (bL J H)),.slice g' es.length f'] rfl rfl O' qdN qdM zo ?_)
   intro xa' xc' w7 a' T Z;have r':=(O.app a' T Z zS).bM.bM.bM.bM;have HO5:=zh r';clear a' T Z O r' hvr O';go_wp2;refine hX.o _ _ _ zo rfl ⟨k+1,l',out++[⟨f (bL K I) (bL J H),es⟩],.slice F' l'.length E',.slice xa' (k+1) xc',_,mk2,rfl,rfl,HO5.o,Hk.o.1,Hk.o.2.1,Hk.o.2.2,?_⟩;rw[zL,HP.o.2.1];rfl
 .have hkl2:k=l.length:=zo;have S':=U.done hff zo;obtain⟨voa,Z',rfl⟩:=bv F.row;have y':=pQ (l:=out) (m:=mk') (by rw[N'];exact F.row) K' F.free;have G:=F.bP;have hml:m.le (mk'.iA wr (.slice voa k Z')):=Mem.le_trans F.ext.le (czS F.free);have HM:=zh (Bh (.slice voa k Z') out _ wr G.az (G'.le hml) y' zo);have W:=zh G;have HD:=zh (zi S' N');clear G y' hml F S' N' hob U K' hkl2
  go_wp2_with fail
  refine HM.o.mono ?_;rintro e w2 ⟨r,C,rfl,hb2,y',U',hmin,hnot⟩;have hwf:=HD.o.1.1;rw[aN hwf];obtain⟨ra,rc,rfl⟩:∃ra rc,r=.slice ra C.length rc:=by obtain⟨x,y,e,-⟩:=y';exact⟨x,y,e⟩
  have M:=W.o.call hb2;have O:=(M.SE (l₁:=[_,_])).al #[.slice ra C.length rc] 27;have g1:=O.av.obj.c 0;have g2:=O.av.obj.frozen 0;have g3:=O.av.obj.lt;have r':=O.av.set 0 (.slice ra C.length rc);have g4:=r'.obj.c 0;have hfin:=bq r'.done y';have Hk:=zh (zi r'.aF (zi hfin (zi (hmin hwf) U')));clear r' O M hfin hmin hnot y' U' W hwf;go_wp2;refine yV (v:=.agg #[.slice ra C.length rc]) (by simp[results,results64,go_sem,g4]) rfl ?_;refine hR.o _ _ ⟨_,C,rfl,Hk.o.1,Hk.o.2.1,⟨Hk.o.2.2.1.canon,fun x=>?_⟩,?_⟩
  .rw[Hk.o.2.2.1.qp,HD.o.1.2.2.2.2,HG.o.2.2.1,HG.o.2.2.2]
  .have h1:=Hk.o.2.2.2;have h2:=HD.o.2;omega
theorem xm(l:aK):eP (Sem l) (cz l):=by
 refine⟨nC l,fun x=>?_⟩;unfold cz Sem;by_cases h:bZ l
 .simp[aN h]
 .simp[aG h];exact gK x
theorem Ae(x:List UInt8):Sem [] x=false:=by rw[dG iy];exact gK x
theorem Ff(l:aK):∀s∈cz l,s.bu.length<=1000000:=fun s a=>by
 have:=Wj (nC l).wf (nC l).bytes s a;omega
structure Fits (A B:aK):Prop where
 mul:(A.length+2)*(B.length+2)<=1000000
 a:A.length<=1000000
 b:B.length<=1000000
theorem Fits.of{A B:aK}{x y:Nat}(b:A.length<=x)(a:B.length<=y)(h:(x+2)*(y+2)<=1000000):Fits A B:=by
 have e:(A.length+2)*(B.length+2)<=(x+2)*(y+2):=xV zo zo;have d:A.length+2<=(A.length+2)*(B.length+2):=Nat.le_mul_of_pos_right _ zo;have c:B.length+2<=(A.length+2)*(B.length+2):=Nat.le_mul_of_pos_left _ zo;exact⟨zo,zo,zo⟩
theorem Fe(l n:zV)(A B:aK)(m:Mem)(w:zW)(J:m.az w)(p:eD m)(G:aV m l A)(F:aV m n B)(D:Fits A B):
 zC 45 #[.agg #[l],.agg #[n]] w fun e w'=>∃r C,e=.returned (.agg #[r])/\zB w w'/\aV (m.grow w w') r C /\
  eP (fun x=>Sem A x&&Sem B x) C/\C.length<=(A.length+2)*(B.length+2)+1:=by
 have u:=(((Own.start J).al #[l] 27).al #[n] 27).al #[.slice none 0 0] 27;have i:(w.alloc (.cells #[l] 27)).heap.size=w.heap.size+1:=by simp
 have g:((w.alloc (.cells #[l] 27)).alloc (.cells #[n] 27)).heap.size=w.heap.size+2:=by simp
 rw[g,i]at u;have I:=zh (wM 65 (fun x y=>x&&y) bzt rfl (zh fun x y w=>by go_simp) l n A B m _ u.az p G F D.mul D.a D.b);have HO:=zh u;obtain⟨va,T,rfl,Y,P,O⟩:=G;obtain⟨U,S,rfl,X,N,M⟩:=F;unfold maxLen at P N;clear u i g O M;refine au fun R hR=>?_;by_cases f:A.length=0\/B.length=0
 .have z:eP (fun x=>Sem A x&&Sem B x) []:=Iw.congr fun x=>by
   rcases f with h|h
   .rw[yM h,Ae];rfl
   .rw[yM h,Ae];cases Sem A x<;>rfl
  have Hl:=zh z;by_cases E:A.length=0
  .have j:((A.length:Int)==0)=true:=by simp[E]
   have L:=HO.o.obj.c 0;clear z f E
   go_enter func45,ntmps45
   exact qg0
  .have H:B.length=0:=zo;have j:((A.length:Int)==0)=false:=zO.2 zo;have k:((B.length:Int)==0)=true:=by simp[H]
   clear z f E H
   go_enter func45,ntmps45
   exact qg0
 .have j:((A.length:Int)==0)=false:=zO.2 zo;have k:((B.length:Int)==0)=false:=zO.2 zo;clear f
  go_enter func45,ntmps45
  go_wp2_with fail
  refine I.o.mono ?_;rintro e Q ⟨r,C,rfl,q,hst,hlang,hClen⟩;have d:=HO.o.call q;obtain⟨t,s,rfl⟩:∃t s,r=.slice t C.length s:=by obtain⟨x,y,e,-⟩:=hst;exact⟨x,y,e⟩
  have L:=d.obj.c 0;have W:=d.obj.frozen 0;have V:=d.obj.lt;have hO2:=d.set 0 (.slice t C.length s);have K:=hO2.obj.c 0;have Hk:=zh qhS;clear hO2 d hst hlang hClen I HO q;go_wp2;refine yV (v:=.agg #[.slice t C.length s]) (by simp[results,results45,go_sem,K]) rfl ?_;exact qbE
theorem BG(E H:zV)(A B:aK)(m:Mem)(w:zW)(Z:m.az w)(j:eD m)(P:aV m E A)(O:aV m H B)(q:Fits A B):
 zC 124 #[.agg #[E],.agg #[H]] w fun e w'=>∃r C,e=.returned (.agg #[r])/\zB w w'/\aV (m.grow w w') r C /\
  eP (fun x=>(Sem A x||Sem B x)) C/\C.length<=(A.length+2)*(B.length+2)+1:=by
 have J:=(((Own.start Z).al #[E] 27).al #[H] 27).al #[.slice none 0 0] 27;have D:(w.alloc (.cells #[E] 27)).heap.size=w.heap.size+1:=by simp
 have z:((w.alloc (.cells #[E] 27)).alloc (.cells #[H] 27)).heap.size=w.heap.size+2:=by simp
 rw[z,D]at J;have N:=zh (wM 165 (fun x y=>(x||y)) cz1 rfl (zh fun x y w=>by go_simp) E H A B m _ J.az j P O q.mul q.a q.b);have u:=zh (nM E A m _ J.az j P q.a);have t:=zh (nM H B m _ J.az j O q.b);have M:=zh (fun l r mk w (h:mk.az w) (I:l.length<=1000000) (hst:aV mk r (cz l))=>Jf r (cz l) mk w h hst (by have:=jT l;omega) (Ff l));have K:=zh J;have c':=q.mul;have e':=q.a;have d':=q.b;have b':=jT A;have a':=jT B;have Y:A.length+2<=(A.length+2)*(B.length+2):=Nat.le_mul_of_pos_right _ zo;have X:B.length+2<=(A.length+2)*(B.length+2):=Nat.le_mul_of_pos_left _ zo;obtain⟨va,vc,rfl,a1,a2,a3⟩:=P;obtain⟨vb,vd,rfl,b1,b2,b3⟩:=O;unfold maxLen at a2 b2;clear J D z a3 b3 q;refine au fun R hR=>?_;by_cases n:A.length=0
 .have I:eP (fun x=>(Sem A x||Sem B x)) (cz B):=(xm B).congr fun x=>by
   rw[yM n,Ae];cases Sem B x<;>rfl
  have Q:=zh I;have L:((A.length:Int)==0)=true:=by simp[n]
  clear I n
  go_enter func124,ntmps124
  go_wp2_with fail
  refine t.o.mono ?_;rintro e S ⟨r,rfl,i,hst⟩;have d:=K.o.call i;obtain⟨g,f,rfl⟩:∃g f,r=.slice g (cz B).length f:=by obtain⟨x,y,e,-⟩:=hst;exact⟨x,y,e⟩
  have G:=zh (M.o B _ _ _ d.az zo hst);have p:=zh d;clear d M u t K i hst
  go_wp2_with fail
  refine G.o.mono ?_;rintro e W ⟨r,rfl,k,hst⟩;have d:=p.o.call k;obtain⟨g,f,rfl⟩:∃g f,r=.slice g (cz B).length f:=by obtain⟨x,y,e,-⟩:=hst;exact⟨x,y,e⟩
  have V:=d.obj.c 0;have U:=d.obj.frozen 0;have T:=d.obj.lt;have hO2:=d.set 0 (.slice g (cz B).length f);have g4:=hO2.obj.c 0;have Hk:=zh qh7;clear hO2 d hst N p k;go_wp2;refine yV (v:=.agg #[.slice g (cz B).length f]) qem rfl ?_;exact hR.o _ _ ⟨_,cz B,rfl,Hk.o.1,Hk.o.2,Q.o,zo⟩
 .have L:((A.length:Int)==0)=false:=zO.2 zo;by_cases s:B.length=0
  .have I:eP (fun x=>(Sem A x||Sem B x)) (cz A):=(xm A).congr fun x=>by
    rw[yM s,Ae];cases Sem A x<;>rfl
   have Q:=zh I;have F:((B.length:Int)==0)=true:=by simp[s]
   clear I n s
   go_enter func124,ntmps124
   go_wp2_with fail
   refine u.o.mono ?_;rintro e S ⟨r,rfl,i,hst⟩;have d:=K.o.call i;obtain⟨g,f,rfl⟩:∃g f,r=.slice g (cz A).length f:=by obtain⟨x,y,e,-⟩:=hst;exact⟨x,y,e⟩
   have G:=zh (M.o A _ _ _ d.az zo hst);have p:=zh d;clear d M u t K i hst
   go_wp2_with fail
   refine G.o.mono ?_;rintro e W ⟨r,rfl,k,hst⟩;have d:=p.o.call k;obtain⟨g,f,rfl⟩:∃g f,r=.slice g (cz A).length f:=by obtain⟨x,y,e,-⟩:=hst;exact⟨x,y,e⟩
   have V:=d.obj.c 0;have U:=d.obj.frozen 0;have T:=d.obj.lt;have hO2:=d.set 0 (.slice g (cz A).length f);have g4:=hO2.obj.c 0;have Hk:=zh qh7;clear hO2 d hst N p k;go_wp2;refine yV (v:=.agg #[.slice g (cz A).length f]) qem rfl ?_;exact hR.o _ _ ⟨_,cz A,rfl,Hk.o.1,Hk.o.2,Q.o,zo⟩
  .have F:((B.length:Int)==0)=false:=zO.2 zo;clear n s M u t
   go_enter func124,ntmps124
   go_wp2_with fail
   refine N.o.mono ?_;rintro e S ⟨r,C,rfl,i,hst,hlang,hClen⟩;have d:=K.o.call i;obtain⟨g,f,rfl⟩:∃g f,r=.slice g C.length f:=by obtain⟨x,y,e,-⟩:=hst;exact⟨x,y,e⟩
   have V:=d.obj.c 0;have U:=d.obj.frozen 0;have T:=d.obj.lt;have hO2:=d.set 0 (.slice g C.length f);have g4:=hO2.obj.c 0;have Hk:=zh qhS;clear hO2 d hst hlang hClen N K i;go_wp2;refine yV (v:=.agg #[.slice g C.length f]) qem rfl ?_;exact qbE
theorem sJ(t D:zV)(A B:aK)(m:Mem)(w:zW)(W:m.az w)(i:eD m)(M:aV m t A)(L:aV m D B)(n:Fits A B):
 zC 90 #[.agg #[t],.agg #[D]] w fun e w'=>∃r C,e=.returned (.agg #[r])/\zB w w'/\aV (m.grow w w') r C /\
  eP (fun x=>(Sem A x && !Sem B x)) C/\C.length<=(A.length+2)*(B.length+2)+1:=by
 have F:=(((Own.start W).al #[t] 27).al #[D] 27).al #[.slice none 0 0] 27;have s:(w.alloc (.cells #[t] 27)).heap.size=w.heap.size+1:=by simp
 have q:((w.alloc (.cells #[t] 27)).alloc (.cells #[D] 27)).heap.size=w.heap.size+2:=by simp
 rw[q,s]at F;have O:=zh (wM 139 (fun x y=>(x && !y)) UZ rfl (zh fun x y w=>by go_simp) t D A B m _ F.az i M L n.mul n.a n.b);have z:=zh (nM t A m _ F.az i M n.a);have K:=zh (nM D B m _ F.az i L n.b);have Q:=zh (fun l r mk w (h:mk.az w) (E:l.length<=1000000) (hst:aV mk r (cz l))=>Jf r (cz l) mk w h hst (by have:=jT l;omega) (Ff l));have G:=zh F;have Z:=n.mul;have b':=n.a;have a':=n.b;have Y:=jT A;have X:=jT B;have V:A.length+2<=(A.length+2)*(B.length+2):=Nat.le_mul_of_pos_right _ zo;have U:B.length+2<=(A.length+2)*(B.length+2):=Nat.le_mul_of_pos_left _ zo;obtain⟨va,vc,rfl,a1,a2,a3⟩:=M;obtain⟨vb,vd,rfl,b1,b2,b3⟩:=L;unfold maxLen at a2 b2;clear F s q a3 b3 n;refine au fun R hR=>?_;by_cases k:A.length=0
 .have E:eP (fun x=>(Sem A x && !Sem B x)) []:=Iw.congr fun x=>by
   rw[yM k,Ae];rfl
  have N:=zh E;have H:((A.length:Int)==0)=true:=by simp[k]
  have S:=G.o.obj.c 0;clear E k
  go_enter func90,ntmps90
  go_wp2;refine yV (v:=.agg #[.slice none 0 0]) (by simp[results,results90,go_sem]) rfl ?_;exact hR.o _ _ ⟨_,[],rfl,G.o.aF,jo _,N.o,zS⟩
 .have H:((A.length:Int)==0)=false:=zO.2 zo;by_cases p:B.length=0
  .have E:eP (fun x=>(Sem A x && !Sem B x)) (cz A):=(xm A).congr fun x=>by
    rw[yM p,Ae];cases Sem A x<;>rfl
   have N:=zh E;have u:((B.length:Int)==0)=true:=by simp[p]
   clear E k p
   go_enter func90,ntmps90
   go_wp2_with fail
   refine z.o.mono ?_;rintro e T ⟨r,rfl,j,hst⟩;have d:=G.o.call j;obtain⟨g,f,rfl⟩:∃g f,r=.slice g (cz A).length f:=by obtain⟨x,y,e,-⟩:=hst;exact⟨x,y,e⟩
   have P:=zh (Q.o A _ _ _ d.az zo hst);have J:=zh d;clear d Q z K G j hst
   go_wp2_with fail
   refine P.o.mono ?_;rintro e w2 ⟨r,rfl,I,hst⟩;have d:=J.o.call I;obtain⟨g,f,rfl⟩:∃g f,r=.slice g (cz A).length f:=by obtain⟨x,y,e,-⟩:=hst;exact⟨x,y,e⟩
   have S:=d.obj.c 0;have g2:=d.obj.frozen 0;have g3:=d.obj.lt;have hO2:=d.set 0 (.slice g (cz A).length f);have g4:=hO2.obj.c 0;have Hk:=zh qh7;clear hO2 d hst O J I;go_wp2;refine yV (v:=.agg #[.slice g (cz A).length f]) qeV rfl ?_;exact hR.o _ _ ⟨_,cz A,rfl,Hk.o.1,Hk.o.2,N.o,zo⟩
  .have u:((B.length:Int)==0)=false:=zO.2 zo;clear k p Q z K
   go_enter func90,ntmps90
   go_wp2_with fail
   refine O.o.mono ?_;rintro e T ⟨r,C,rfl,j,hst,hlang,hClen⟩;have d:=G.o.call j;obtain⟨g,f,rfl⟩:∃g f,r=.slice g C.length f:=by obtain⟨x,y,e,-⟩:=hst;exact⟨x,y,e⟩
   have S:=d.obj.c 0;have g2:=d.obj.frozen 0;have g3:=d.obj.lt;have hO2:=d.set 0 (.slice g C.length f);have g4:=hO2.obj.c 0;have Hk:=zh qhS;clear hO2 d hst hlang hClen O G j;go_wp2;refine yV (v:=.agg #[.slice g C.length f]) qeV rfl ?_;exact qbE
theorem V5:eP (fun _=>true) allT:=by
 have g:∀w,aH allT 0 w=true:=by
  intro w
  induction w with
  |nil=>rfl
  |cons b w ih=>
   have n:=b.toNat_lt;have:cu allT 0 b.toNat=0:=by
    show bH [(⟨0,255,0⟩:Ed)] b.toNat=0;simp only[bH];rw[zK ⟨zG _,zo⟩]
   simp only[aH,this,ih]
 have ht:∀(k b t:Nat),cu allT k b=t->t=0:=by
  intro k b t h;by_cases hk:k<1
  .obtain rfl:k=0:=zo;have c:bH [(⟨0,255,0⟩:Ed)] b=t:=h;simp only[bH]at c
   split at c<;>omega
  .rw[iq allT k b (by simp[allT];omega)]at h;omega
 refine⟨⟨?_,?_,?_,?_,?_,?_,?_⟩,g⟩
 .intro s a;simp only[allT,zZ]at a;subst a;exact⟨zG _,zS,by simp[allT],zS,trivial⟩
 .intro s a e d;simp only[allT,zZ]at a;subst a;simp only[zZ]at d;subst d;exact⟨zS,zS⟩
 .intro s a;simp only[allT,zZ]at a;subst a;trivial
 .intro k hk;obtain rfl:k=0:=by simp[allT]at hk;exact hk
  exact⟨[],g []⟩
 .intro i j hi l _;simp[allT]at hi l;omega
 .intro k b t _ h m c f;have:=ht k b t h;omega
 .intro t c f;simp[allT]at f;omega
theorem bzf(x:List UInt8):Sem allT x=true:=V5.KO x
attribute [local go_sem] Oper.semAt_some
def kI(x:List UInt8):ByteArray:=⟨x.toArray⟩
theorem dzZ:fB prog 167 9 1 16:=⟨underlying167,zo,by
 obtain⟨i,d,c,b,a⟩:=info_parts (P:=prog) (e:=9) (z:=.string ⟨#[]⟩) (size:=1) (bytes:=16) zk;exact⟨i,_,d,c,b,a,rfl⟩⟩
theorem AX{w:zW}{t:TypeId}{v:zV}{l:List ByteArray}{m:Mem}(a:w.ownsRow 0 t 1 v l.length (l.map Value.string))(hk:∀x∈l,x.size<=maxLen):Bu (m.iA w v) v l:=
 oN a fun g b i h=>⟨eO a b m qeE,hk _ (zF h)⟩
theorem YQ(v:zV)(w:zW):zC 160 #[.agg #[v]] w fun e w'=>e=.returned (.func (.func 191) #[] #[.pointer (some ⟨w.heap.size,0,none⟩)])/\w'=w.alloc (.cells #[v] 27):=by
 refine au fun R hR=>?_
 go_enter func160,ntmps160
 exact qby
theorem J9:∀args w,(callFunc 191 args).run prog w=.ok (.enter 191 args) w:=enters_of func191 zk rfl
def qI(n:Int):Nat:=(min n 1000).toNat
theorem Wm{n:Int}(h:1<=n):1<=qI n/\((qI n:Nat):Int)=min n 1000/\qI n<=1000:=by unfold qI;omega
theorem TV(f:List UInt8->Bool):jL f 0 []:=⟨.nil,fun x a=>by simp at a,zS,fun y _ _=>⟨rfl,fun x a=>by simp at a⟩⟩
theorem C9{T:aK}{K:Nat}{xs:List (List UInt8)}(h:(∃n,xs=lu T 0 n/\(∀y,aH T 0 y=true->y.length<n)/\xs.length<K)\/(∃n,xs <+: lu T 0 n/\xs.length=K)):jL (aH T 0) K xs:=by
 rcases h with⟨n,rfl,a,b⟩|⟨n,a,b⟩
 .have:=BN (l:=T) (s:=0) (L:=n) (k:=K) (.inr a)
  rwa [xH zo]at this
 .have c:xs=(lu T 0 n).take K:=by
   rw[<-b];exact List.prefix_iff_eq_take.1 a
  have:=BN (l:=T) (s:=0) (L:=n) (k:=K) (.inl (by rw[<-b];exact a.length_le))
  rwa [<-c]at this
theorem IZ{T:aK}{K:Nat}{xs:List (List UInt8)}(h:jL (aH T 0) K xs)(b:(K+1)*(T.length+1)<=4000000):∀z∈xs,z.length<=4000000:=by
 intro z a;rw[NY h (TW (l:=T) (s:=0) (k:=K) (L:=K*T.length) (zI _))]at a;have c:=((pz T 0 _ z).1 (xX a)).1;have:K*T.length<=(K+1)*(T.length+1):=xV zo zo;omega
theorem Ay{F:Fence}{d:Nat}{P:Program}{t e:TypeId}{size bytes:Nat}(S:fB P t e size bytes){w:zW}{ops:Array Oper}{rest:List Oper}{o:Oper}{a:Act}{Q:Exit->Act->World->Prop}(hgd:o.guard=none)(s x:Operand)
(ho:o.op=.call { callee:=.builtin .append,args:=#[s,x],argTypes:=#[t,t] })
(v:zV)(n:Nat)(xs:List Value)(hs:a.eval s=v)(hown:w.ownsRow 0 e size v n xs)
(ad:Addr)(m c:Nat)(dQ:List Value)(hx:a.eval x=.slice (some ad) m c)(hl:dQ.length=m*size)(hnews:∀j u,dQ[j]?=some u->w.cell? (ad.add j)=some u)(h1:∀u∈dQ,u.oneCell'=true)
(h63:n+m<=maxLen)(hbytes:(n+m)*bytes<=140737488355328)
(h:∀va vc w',w'.ownsRow 0 e size (.slice va (n+m) vc) (n+m) (xs++dQ)->w.grownBy w' v.ownBlock->(∀k,(Value.slice va (n+m) vc).ownBlock=some k->v.ownBlock=some k\/w.heap.size<=k)->wpListIn F d P ops Q rest (a.put o.dst (.slice va (n+m) vc)) w'):wpListIn F d P ops Q (o::rest) a w:=by
 refine wpListIn_plain hgd fun K hK=>?_;obtain⟨v',w',hr,h2,h3,h4⟩:=kX S w o.type v n xs hown ad m c dQ hl hnews h1 h63 hbytes;obtain⟨va,vc,rfl⟩:=bv h2;refine⟨?_,?_⟩
 .simp[Oper.about,ho,resolve,Target.leads,Sem.run_pure]
 .exact qbh
def WH(x:List UInt8):Value:=.string ⟨x.toArray⟩
theorem J5(v0:zV)(A:aK)(n:Int)(m:Mem)(w:zW)(hm:m.az w)(htab:eD m)(hA:aV m v0 A)(hn1 : -9223372036854775808<=n)(hn2:n<=9223372036854775807)(hlen:(qI n+1)*(A.length+1)<=4000000)(hlA:A.length<=1000000):
 zC 117 #[.agg #[v0],.int .i64 n] w fun e w'=>∃r ws,e=.returned r/\zB w w'/\Bu (m.grow w w') r (ws.map kI)/\jL (Sem A) (qI n) ws:=by
 have hO:=(((Own.start hm).al #[v0] 27).al #[.int .i64 n] 3).al #[.slice none 0 0] 167;have hsz1:(w.alloc (.cells #[v0] 27)).heap.size=w.heap.size+1:=by simp
 have hsz2:((w.alloc (.cells #[v0] 27)).alloc (.cells #[.int .i64 n] 3)).heap.size=w.heap.size+1+1:=by simp
 rw[hsz2,hsz1]at hO;have HG:=zh (nM v0 A m _ hO.az htab hA hlA);have HO:=zh hO;obtain⟨va,vc,rfl,-⟩:=hA;clear hO hsz1 hsz2;refine au fun R hR=>?_;by_cases hn:n<1
 .have hk0:qI n=0:=by unfold qI;omega
  have Hk0:=zh hk0;have hdec:decide (n<1)=true:=zN hn;clear hk0
  go_enter func117,ntmps117
  go_wp2;refine hR.o _ _ ⟨_,[],rfl,HO.o.aF,⟨none,0,rfl,zI _,by simp[maxLen],fun h=>absurd rfl h⟩,?_⟩;rw[Hk0.o];exact TV _
 .have hdec:decide (n<1)=false:=zM hn;refine(callsIn_wide (n:=0)).1 ?_;refine callsIn_of_wp_marks func117 rfl trivial ?_;simp only[ntmps117,List.size_toArray,yO,List.length_nil,Nat.reduceAdd,Nat.reduceSub,Array.replicate_succ,Array.replicate_zero,List.push_toArray,List.append_toArray,xN,xK];refine wpIn_wide.2 ?_
  go_wp2_with fail
  refine HG.o.mono ?_;rintro e w1 ⟨r,rfl,hb1,hst⟩;have hO1:=HO.o.call hb1;obtain⟨ra,rc,rfl⟩:∃ra rc,r=.slice ra (cz A).length rc:=by obtain⟨x,y,e,-⟩:=hst;exact⟨x,y,e⟩
  have HO1:=zh (zi hO1 hst);clear HO HG hb1 hst hO1
  go_wp2_with fail
  refine(YQ (.slice ra (cz A).length rc) w1).mono ?_;rintro e w2 ⟨rfl,rfl⟩;have hO2:=HO1.o.1.al #[.slice ra (cz A).length rc] 27;have hst:=HO1.o.2;obtain⟨m1,hO3,l1,c1⟩:=hO2.AY;obtain⟨m2,hO4,l2,c2⟩:=hO3.av.AY;have hO5:=hO4.av.tail.fE 9 1;have hO6:=hO5;have hst2:=bq (Mem.le_trans l1 l2) hst;have c1':=bzv l2 c1;have HS:=zh (zi hO5 (zi hst2 (zi c1' c2)));clear hO2 hst hO3 hO4 hO5 hO6 hst2 c1 c2 c1' l1 l2 HO1 m1;have hwp:=Wm (n:=n) zo;have hgl:=jT A;have hgis:=xm A;have hmul:(qI n+1)*((cz A).length+1)<=4000000:=yJ (Nat.mul_le_mul_left _ zo) hlen;have HW:=zh (zi hwp (zi hgis hmul));have hw1:=hwp.1;have hw3:=hwp.2.2;clear hwp hgis hmul hgl;go_wp2;refine(wpIn_wide (n:=0)).1 ?_;refine MG (gf:=191) (lb:=#[.pointer (some ⟨w1.heap.size,0,none⟩)]) rfl J9 (encs:=fun x:List UInt8=>#[Value.string ⟨x.toArray⟩]) (fun _=>rfl) HS.o.1
   (fun pre L=>(∃v,L=[.row v 9 1 pre.length (pre.map WH),.obj (w.heap.size+1+1) 167 #[v]])/\pre.length<qI n)
   (fun c pre L=>c=.exit 0/\(∃v,L=[.row v 9 1 pre.length (pre.map WH),.obj (w.heap.size+1+1) 167 #[v]])/\pre.length=qI n)
   (fun xs=>∃n,xs=lu (cz A) 0 n/\∀y,aH (cz A) 0 y=true->y.length<n) (fun xs=>∃n,xs <+: lu (cz A) 0 n/\xs≠[]) ⟨⟨_,rfl⟩,by simp;omega⟩ ?seq
   (fun x=>{ tmps:=#[.agg #[.slice va A.length vc],.int .i64 n,.pointer (some ⟨w.heap.size,0,none⟩),.pointer (some ⟨w.heap.size+1,0,none⟩),.slice none 0 0,.pointer (some ⟨w.heap.size+1+1,0,none⟩),.string ⟨x.toArray⟩,.int .i64 n,.bool false,undef,.agg #[.slice va A.length vc],.agg #[.slice ra (cz A).length rc],.func (.func 191) #[] #[.pointer (some ⟨w1.heap.size,0,none⟩)],.string ⟨x.toArray⟩,undef,undef,undef,undef,undef,undef,undef,undef,undef,undef],defers:=[] }) ?assign ?body ?done ?stop
  case seq=>
   intro l W1 L1 B Bx hB hBI hOw hY;exact RN HW.o.2.1.canon (qI n) HW.o.2.2 hY HS.o.2.2.1 HS.o.2.1 (fun pre Lt h=>(hBI pre Lt h).elim fun L hL=>hL.2) hB hOw
  case assign=>
   intro l x W K hK
   gi_wp2
   exact hK
  case body=>
   rintro l pre x W mk1 Lt Lr ⟨⟨v,rfl⟩,hlt⟩ hOw hle;simp only[xK,xN]at hOw;obtain⟨xa,xc,rfl⟩:=bv hOw.row;have o1:=hOw.av.obj.c 0;have o2:=hOw.av.obj.lt;have o3:=hOw.av.obj.frozen 0;have n1:=azk hOw.az qiy;have n2:=bzu hOw.az qiy;have hO2:=hOw.al #[.string ⟨x.toArray⟩] 9;have hnews:=hO2.obj.dQ rfl;have Hlt:=zh hlt;clear hOw
   gi_wp2_with (gi_at_builtin;refine Ay dzZ rfl (.tmp 14) (.tmp 16) rfl (.slice xa pre.length xc) pre.length (pre.map WH) rfl hO2.av.row ⟨W.heap.size,0,none⟩ 1 1 [.string ⟨x.toArray⟩] rfl rfl hnews qdN qdM zo ?_)
   intro ya yc w5 hown5 hgrow5 hrow5;have hO3:=(hO2.av.app hown5 hgrow5 hrow5 zS).bM;have o1:=hO3.av.obj.c 0;have o2:=hO3.av.obj.lt;have o3:=hO3.av.obj.frozen 0;have n1:=azk hO3.az qiy;have n2:=bzu hO3.az qiy;have hO4:=(hO3.av.set 0 (.slice ya (pre.length+1) yc)).av;have HO4:=zh hO4;clear hO4 hO3 hO2 hown5 hgrow5 hrow5 hnews;have Hend:=zh (show ∀xs,xs=pre++[x]->([bA.row (.slice ya (pre.length+1) yc) 9 1 (pre.length+1) (pre.map WH++[.string ⟨x.toArray⟩]),bA.obj (w.heap.size+1+1) 167 #[.slice ya (pre.length+1) yc]]:List bA)=[bA.row (.slice ya (pre.length+1) yc) 9 1 xs.length (xs.map WH),bA.obj (w.heap.size+1+1) 167 #[.slice ya (pre.length+1) yc]] from fun xs h=>by
    subst h;simp[WH])
   have hne:w.heap.size+1≠w.heap.size+1+1:=zo
   gi_wp2
   all_goals unfold Du
   all_goals dsimp only
   all_goals first
    | (have ht:((pre.length:Int)+1==min n 1000)=true:=zA
       refine⟨mk1,_,⟨rfl,⟨_,Hend.o _ rfl⟩,?_⟩,HO4.o,Mem.le_refl _⟩;have h1:=HW.o.1.2.1;have h2:=beq_iff_eq.1 ht;simp only[zL,yO,List.length_nil]
       omega)
    | (have ht:((pre.length:Int)+1==min n 1000)=false:=zA
       refine⟨mk1,_,⟨⟨_,Hend.o _ rfl⟩,?_⟩,HO4.o,Mem.le_refl _⟩;have h1:=HW.o.1.2.1;have h2:=zO.1 ht;have h3:=Hlt.o;simp only[zL,yO,List.length_nil];omega)
  case done=>
   rintro D xs W mk1 L ⟨nn,hxs,hfin⟩ ⟨⟨v,rfl⟩,hlt⟩ hOw hle;obtain⟨xa,xc,rfl⟩:=bv hOw.av.row;have o1:=hOw.aR.obj.c 0;have o2:=hOw.aR.obj.lt;have hfirst:=C9 (.inl ⟨nn,hxs,hfin,hlt⟩);have hres:jL (Sem A) (qI n) xs:=hfirst.congr fun y=>HW.o.2.1.qp y;have hsz:∀z∈xs,(kI z).size<=maxLen:=fun z hz=>by
    exact qhs
   clear hxs hfin hlt hfirst;have hbl:=hOw.gN;have hO2:=hOw.av;have hst:=AX (l:=xs.map kI) (m:=mk1) (t:=9) (v:=.slice xa xs.length xc) (w:=W) (by
    rw[xC,vE];exact hO2.row) (fun y hy=>by
    obtain⟨z,hz,rfl⟩:=yD.1 hy;exact hsz z hz)
   rw[show(Mem.iA mk1 W (.slice xa xs.length xc))=Mem.iA mk1 W (.slice xa xs.length xc) from rfl]at hst;have hO3:=hO2.bP;have hO4:=hO3.jJ (o':=.deferred none) (World.putObj_heap_same (yC.1 hbl).1) (grownBy_putObj' _ _ _);have hfin2:=KF hO4.done hst;have Hk:=zh (zi hO4.aF (zi hfin2 hres));clear hO4 hO3 hO2 hOw hst hfin2
   gi_wp2
   exact qa7
  case stop=>
   rintro D c xs W mk1 L ⟨nn,hpre,hne⟩ ⟨rfl,⟨v,rfl⟩,hlt⟩ hOw hle;obtain⟨xa,xc,rfl⟩:=bv hOw.av.row;have o1:=hOw.aR.obj.c 0;have o2:=hOw.aR.obj.lt;have hfirst:=C9 (.inr ⟨nn,hpre,hlt⟩);have hres:jL (Sem A) (qI n) xs:=hfirst.congr fun y=>HW.o.2.1.qp y;have hsz:∀z∈xs,(kI z).size<=maxLen:=fun z hz=>by
    exact qhs
   clear hpre hne hlt hfirst;have hbl:=hOw.gN;have hO2:=hOw.av;have hst:=AX (l:=xs.map kI) (m:=mk1) (t:=9) (v:=.slice xa xs.length xc) (w:=W) (by
    rw[xC,vE];exact hO2.row) (fun y hy=>by
    obtain⟨z,hz,rfl⟩:=yD.1 hy;exact hsz z hz)
   rw[show(Mem.iA mk1 W (.slice xa xs.length xc))=Mem.iA mk1 W (.slice xa xs.length xc) from rfl]at hst;have hO3:=hO2.bP;have hO4:=hO3.jJ (o':=.deferred none) (World.putObj_heap_same (yC.1 hbl).1) (grownBy_putObj' _ _ _);have hfin2:=KF hO4.done hst;have Hk:=zh (zi hO4.aF (zi hfin2 hres));clear hO4 hO3 hO2 hOw hst hfin2
   gi_wp2
   exact qa7
def UW(f:List UInt8->Bool):Option (List UInt8)->Prop
 |some x=>f x=true/\∀y,f y=true->y=x
 |none=>¬∃x,f x=true/\∀y,f y=true->y=x
theorem UW.congr{f g:List UInt8->Bool}{a:Option (List UInt8)}(h:UW f a)(e:∀w,f w=g w):UW g a:=by
 exact qcO
def ZE(o:Option (List UInt8)):Value:=.tuple #[.string (match o with|some x=>kI x|none=>⟨#[]⟩),.bool o.isSome]
theorem sK(i:zV)(A:aK)(m:Mem)(w:zW)(F:m.az w)(f:eD m)(G:aV m i A)(s:A.length<=1000000):
 zC 77 #[.agg #[i]] w fun e w'=>∃o,e=.returned (ZE o)/\zB w w'/\kS (Sem A) o:=by
 have l:=(Own.start F).al #[i] 27;have n:=zh (J5 i A 1 m _ l.az f G zo zo (by have:qI 1=1:=rfl;rw[this];omega) zo);have p:=zh l;clear l;refine au fun R u=>?_
 go_enter func77,ntmps77
 go_wp2_with fail
 refine n.o.mono ?_;rintro e I ⟨r,d,rfl,c,g,a⟩;have b:=p.o.call c;have k:=Qi a
 cases d with
 |nil=>
  obtain⟨B,y,rfl,D,C,j⟩:=g;have h:=zh (zi b.aF k);clear b k a n p c j;go_wp2
  exact u.o _ _ ⟨none,rfl,h.o.1,h.o.2⟩
 |cons x d=>
  obtain⟨B,y,rfl,D,C,j⟩:=g;obtain⟨K,J,rfl,q⟩:=j zS;have z:=(q 0 zS).1;rw[Nat.add_zero]at z;have v:=azk b.az z;have H:=bzu b.az z;simp only[yL,xL]at v;have E:0<(List.map kI (x::d)).length:=by simp
  have t:(((List.map kI (x::d)).length:Int)==0)=false:=zO.2 zo;have h:=zh (zi b.aF k);clear b k a n p c j q z;generalize (List.map kI (x::d)).length=N at*
  go_wp2;exact u.o _ _ ⟨some x,rfl,h.o.1,h.o.2⟩
theorem UO:∀x y:List UInt8,x.length=y.length->(Op.bytesLess x y=true↔lex x y)
 |[],[],_=>by simp[Op.bytesLess,lex]
 |[],_::_,h=>by simp at h
 |_::_,[],h=>by simp at h
 |a::x,b::y,h=>by
  have c:=UO x y qd5;simp[Op.bytesLess,lex,c]
def EA(x y:List UInt8):Int:=if Op.bytesLess x y then -1 else if x=y then 0 else 1
theorem XC(s:ByteArray)(w:zW):zC 210 #[.string s] w fun e w'=>e=.returned (.bool false)/\w'=w:=by
 refine au fun R hR=>?_
 go_enter func210,ntmps210
 exact qby
theorem Jh(s t:ByteArray)(w:zW):zC 170 #[.string s,.string t] w fun e w'=>e=.returned (.j (EA s.data.toList t.data.toList))/\w'=w:=by
 rw[<-xE s,<-xE t];refine au fun R b=>?_
 go_enter func170,ntmps170
 go_wp2_with ((go_at_call 210);refine(XC _ _).mono ?_;rintro e w' ⟨rfl,rfl⟩)
 .have h:Op.bytesLess s.toList t.toList=true:=zA;exact b.o _ _ ⟨by simp[EA,h],rfl⟩
 .have h:Op.bytesLess s.toList t.toList=false:=zA;have a:(!s.toList==t.toList)=true:=zA;have a:¬s.toList=t.toList:=by simpa using a
  exact b.o _ _ ⟨by simp[EA,h,a],rfl⟩
 .have h:Op.bytesLess s.toList t.toList=false:=zA;have a:(!s.toList==t.toList)=false:=zA;have a:s.toList=t.toList:=by simpa using a
  exact b.o _ _ ⟨by rw[a]at h⊢;simp[EA,h],rfl⟩
def fz8:Option (List UInt8)->Option (List UInt8)->Int
 |none,none=>0
 |some _,none => -1
 |none,some _=>1
 |some x,some y=>if Lib.compareInt x.length y.length=0 then EA x y else Lib.compareInt x.length y.length
theorem czN{f g:List UInt8->Bool}{a b:Option (List UInt8)}(h:kS (fun w=>f w && !g w) a)(k:kS (fun w=>g w && !f w) b):gY f g (fz8 a b):=by
 have q:=Oq h k
 cases a with
 |none=>
  cases b with
  |none=>exact q
  |some y=>exact q
 |some x=>
  cases b with
  |none=>exact q
  |some y=>
   obtain⟨e,m,l⟩:=q;show gY f g (if Lib.compareInt x.length y.length=0 then EA x y else Lib.compareInt x.length y.length);have n:Lib.compareInt x.length y.length=if x.length<y.length then -1 else if x.length > y.length then 1 else 0:=by
    unfold Lib.compareInt;by_cases d:x.length<y.length
    .rw[zK zo,zK d]
    .rw[zJ zo,zJ d];by_cases c:x.length > y.length
     .rw[zK zo,zK c]
     .rw[zJ zo,zJ c]
   rw[n];by_cases d:x.length<y.length
   .rw[zK d,zJ zo];exact m (.inl d)
   .rw[zJ d];by_cases c:x.length > y.length
    .rw[zK c,zJ zo];exact l (.inl c)
    .rw[zJ c,zK rfl];have j:x.length=y.length:=zo;unfold EA;by_cases i:Op.bytesLess x y=true
     .rw[zK i];exact m (.inr ⟨j,(UO x y j).1 i⟩)
     .rw[zJ i,zJ e];rcases tJ x y with t|t|t
      .rcases t with t|⟨-,t⟩
       .omega
       .exact absurd ((UO x y j).2 t) i
      .exact absurd t e
      .exact l t
theorem ezm(g:Nat)(t:TypeId)(x y:Int)(w:zW)(h:bg w g t #[.int .i64 x,.int .i64 y]):
 zC 168 #[.slice (some ⟨g,0,none⟩) 2 2] w fun e w'=>e=.returned (.j (if x=0 then y else x))/\w'=w:=by
 have r:=h.cell (i:=0) rfl;have q:=h.cell (i:=1) rfl;have p:=h.lt;refine au fun R f=>?_
 go_enter func168,ntmps168
 go_wp2;refine aB [3,6,7,8] (fun n l j=>∃k:Nat,k<=2/\n=2-k/\l=[.j 0,.slice (some ⟨g,0,none⟩) 2 2,.j 2,.j k]/\j=w/\(1<=k->x=0)/\(2<=k->y=0)) ?_ ?_
 .exact⟨_,0,zo,rfl,rfl,rfl,zo,zo⟩
 rintro X z n l j m-⟨k,hk,rfl,rfl,rfl,a,c⟩;simp[bz,lk];have hk:k=0\/k=1\/k=2:=zo;rcases hk with rfl|rfl|rfl
 .clear a c;by_cases e:x=0
  .have d:(x != 0)=false:=by simp[e]
   have E:=zh e;clear e;go_wp2;refine m.o _ _ _ zo rfl ⟨1,zo,rfl,rfl,rfl,fun _=>E.o,zo⟩
  .have d:(x != 0)=true:=by simp[e]
   have E:=zh e;clear e;go_wp2;exact f.o _ _ ⟨by rw[zJ E.o];rfl,rfl⟩
 .have b:=zh (a zo);clear a c;by_cases e:y=0
  .have d:(y != 0)=false:=by simp[e]
   have E:=zh e;clear e;go_wp2;refine m.o _ _ _ zo rfl ⟨2,zo,rfl,rfl,rfl,fun _=>b.o,fun _=>E.o⟩
  .have d:(y != 0)=true:=by simp[e]
   have E:=zh e;clear e;go_wp2;exact f.o _ _ ⟨by rw[zK b.o];rfl,rfl⟩
 .have b:=zh (zi (a zo) (c zo));clear a c;go_wp2;exact f.o _ _ ⟨by rw[zK b.o.1,b.o.2];rfl,rfl⟩
theorem LJ(A:aK)(x:List UInt8):Sem (cz A) x=Sem A x:=by
 rw[dG (nC A)];exact(xm A).2 x
theorem Ea:ZE none=.tuple #[.string ⟨#[]⟩,.bool false]:=rfl
theorem D9(x:List UInt8):ZE (some x)=.tuple #[.string (kI x),.bool true]:=rfl
theorem pV(U v1:zV)(A B:aK)(m:Mem)(w:zW)(hm:m.az w)(g:eD m)(hA:aV m U A)(hB:aV m v1 B)(Z:(A.length+2)*(B.length+2)<=900000):
 zC 127 #[.agg #[U],.agg #[v1]] w fun e w'=>∃c,e=.returned (.j c)/\zB w w'/\gY (Sem A) (Sem B) c:=by
 have hF:=Fits.of (A:=A) (B:=B) (zI _) (zI _) zo;have n:=((Own.start hm).al #[U] 27).al #[v1] 27;have F:(w.alloc (.cells #[U] 27)).heap.size=w.heap.size+1:=by simp
 rw[F]at n;have C:=zh n;have HA:=zh (fun w (hw:m.az w)=>nM U A m w hw g hA hF.a);have HB:=zh (fun mk w (hw:mk.az w) (u:m.le mk)=>nM v1 B mk w hw (g.le u) (bq u hB) hF.b);clear n F;refine au fun R hR=>?_;obtain⟨va,vc,rfl,-⟩:=hA;obtain⟨vb,vd,rfl,-⟩:=hB
 go_enter func127,ntmps127
 go_wp2;refine aW [2,3] (fun vs w'=>∃(L K:zV) (mk:Mem),vs=[.p w.heap.size,.p (w.heap.size+1)] /\
  Own w m w' mk [.obj (w.heap.size+1) 27 #[K],.obj w.heap.size 27 #[L]]/\m.le mk/\aV mk L (cz A)/\aV mk K (cz B)) ?_ ?_
 .intro X hX;refine gV (fun j w'=>(j≠4->j≠5->bg w' w.heap.size 27 #[.slice va A.length vc])/\(j≠5->bg w' (w.heap.size+1) 27 #[.slice vb B.length vd])) zk ?_;have n:=C.o.dr;refine oV 0 (fun w'=>bg w' w.heap.size 27 #[.slice va A.length vc]) rfl zk qe7 (fun j w' hj hd=>hd.1 qhH qhH) n.av.obj qft ?_;refine oV 2 (fun w'=>bg w' (w.heap.size+1) 27 #[.slice vb B.length vd]) rfl zk qe7 (fun j w' hj hd=>hd.2 qhH) n.obj qft ?_;refine aO 1 zk (aM rfl rfl (fP qeb (HA.o _ n.az) ?_));rintro e w1 ⟨L,rfl,y',r⟩;have k:=n.call y';have u:=bzx (w:=w1) n.az;refine⟨_,rfl,.inr ⟨fun _ _=>k.av.obj,fun _=>k.obj⟩,?_⟩;go_simp;refine aO 3 zk (aM rfl rfl (fP qeb (HB.o _ _ k.az u) ?_));rintro e T ⟨K,rfl,D,p⟩;have d:=k.call D;have f:=bzx (w:=T) k.az;refine⟨_,rfl,.inr ⟨fun _ _=>d.av.obj,fun _=>d.obj⟩,?_⟩;obtain⟨S,Q,rfl⟩:∃S Q,L=.slice S (cz A).length Q:=by obtain⟨x,y,e,-⟩:=r;exact⟨x,y,e⟩
  obtain⟨ya,yc,rfl⟩:∃S Q,K=.slice S (cz B).length Q:=by obtain⟨x,y,e,-⟩:=p;exact⟨x,y,e⟩
  go_simp;have f1:=d.av.obj.frozen 0;have c1:=d.av.obj.c 0;have l:=d.av.set 0 (.slice S (cz A).length Q);have f3:=l.av.obj.frozen 0;have c3:=l.av.obj.c 0;have v:=l.av.set 0 (.slice ya (cz B).length yc);refine aO 4 zk (aM rfl rfl (dx zg ⟨.inr ⟨fun h=>absurd rfl h,fun _=>l.av.obj⟩,?_⟩));refine aO 5 zk (aM rfl rfl (dx zg ⟨.inr ⟨fun _ h=>absurd rfl h,fun h=>absurd rfl h⟩,?_⟩));refine dE zk ?_ _;exact hX.o _ _ rfl ⟨_,_,_,rfl,v,Mem.le_trans u f,bq f r,p⟩
 rintro z vs w1-⟨L,K,mk,rfl,n,M,r,p⟩;simp[bz,lk];clear C HA HB;have d':=jT A;have c':=jT B;have Y:((cz A).length+2)*((cz B).length+2)<=(A.length+2)*(B.length+2):=xV zo zo;have t:((cz B).length+2)*((cz A).length+2)<=900000:=by rw[Nat.mul_comm];omega
 have W:=LJ A;have V:=LJ B;have E:=zh (zi (Fits.of (A:=cz A) (B:=cz B) (zI _) (zI _) zo) (zi (Fits.of (A:=cz B) (B:=cz A) (zI _) (zI _) zo) (zi W (zi V (zi (show((cz A).length+2)*((cz B).length+2)<=900000 by omega) t)))));clear d' c' Y t W V hF Z;generalize cz A=A' at*
 generalize cz B=B' at*
 have g1:=n.obj.c 0;have g2:=n.av.obj.c 0;have HM:=zh (sJ L K A' B' mk _ n.az (g.le M) r p E.o.1);have C:=zh (zi n (zi r (zi p M)));clear n r p M
 go_wp2_with fail
 refine HM.o.mono ?_;rintro e T ⟨d1,D1,rfl,D,f',b',O⟩;clear HM g1 g2;have k:=C.o.1.call D;have f:=bzx (w:=T) C.o.1.az;have HL:=zh (sK d1 D1 _ _ k.az (g.le (Mem.le_trans C.o.2.2.2 f)) f' (by have:=E.o.2.2.2.2.1;omega));have s:=zh (zi k (zi (bq f C.o.2.1) (zi (bq f C.o.2.2.1) (Mem.le_trans C.o.2.2.2 f))));have l':=zh b';clear k f D C f' b' O
 go_wp2_with fail
 refine HL.o.mono ?_;rintro e w3 ⟨o1,rfl,i',H⟩;have d:=s.o.1.call i';have hq:=bzx (w:=w3) s.o.1.az;have d:=zh (zi d (zi (bq hq s.o.2.1) (zi (bq hq s.o.2.2.1) (Mem.le_trans s.o.2.2.2 hq))));have J:=zh (show kS (fun x=>Sem A x && !Sem B x) o1 by
  have e:Sem D1=fun x=>Sem A x && !Sem B x:=by
   funext x;rw[l'.o.KO x,E.o.2.2.1 x,E.o.2.2.2.1 x]
  rw[<-e];exact H)
 clear H l' HL s i' hq D1;generalize v':(mk.grow w1 T).grow T w3=lH at*
 clear v';have g1:=d.o.1.obj.c 0;have g2:=d.o.1.av.obj.c 0;have HM:=zh (sJ K L B' A' lH _ d.o.1.az (g.le d.o.2.2.2) d.o.2.2.1 d.o.2.1 E.o.2.1);obtain⟨s1,b1,e1⟩:∃s1 b1,ZE o1=.tuple #[.string s1,.bool b1]:=⟨_,_,rfl⟩;have P:=zh e1;rw[e1];clear e1
 go_wp2_with fail
 refine HM.o.mono ?_;rintro e w4 ⟨d2,D2,rfl,h',e',a',N⟩;clear HM g1 g2;have l:=d.o.1.call h';have G:=bzx (w:=w4) d.o.1.az;have HL:=zh (sK d2 D2 _ _ l.az (g.le (Mem.le_trans d.o.2.2.2 G)) e' (by have:=E.o.2.2.2.2.2;omega));have m':=zh l;have k':=zh a';clear l G h' d e' a' N
 go_wp2_with fail
 refine HL.o.mono ?_;rintro e w5 ⟨o2,rfl,g',f⟩;have j':=m'.o.call g';have I:=zh (show kS (fun x=>Sem B x && !Sem A x) o2 by
  have e:Sem D2=fun x=>Sem B x && !Sem A x:=by
   funext x;rw[k'.o.KO x,E.o.2.2.2.1 x,E.o.2.2.1 x]
  rw[<-e];exact f)
 have HC:=zh (czN J.o I.o);have HO5:=zh j';clear f k' HL m' g' j' D2 E J I g;have P:=P.o
 cases o1 with
 |none=>
  rw[Ea]at P;cases P
  cases o2 with
  |none=>
   rw[Ea];go_wp2
   exact qcL
  |some y=>
   rw[D9];go_wp2
   exact qcL
 |some x=>
  rw[D9]at P;cases P
  cases o2 with
  |none=>
   rw[Ea];go_wp2
   exact qcL
  |some y=>
   rw[D9]
   go_wp2_with first|((go_at_call 169);refine(Tryz.cmp_Compare_int _ _ _).mono ?_;rintro e w' ⟨rfl,rfl⟩)|((go_at_call 170);refine(Jh _ _ _).mono ?_;rintro e w' ⟨rfl,rfl⟩)
   have v:=HO5.o.al #[.int .i64 (Lib.compareInt (kI x).size (kI y).size),.int .i64 (EA (kI x).data.toList (kI y).data.toList)] 3;refine(ezm _ _ _ _ _ v.obj).mono ?_;rintro e w7 ⟨rfl,rfl⟩;have H6:=zh v.aF;have F':Hid (gY (Sem A) (Sem B) (if Lib.compareInt (kI x).size (kI y).size=0 then EA (kI x).data.toList (kI y).data.toList else Lib.compareInt (kI x).size (kI y).size)):=HC;clear v HC;generalize (if Lib.compareInt (kI x).size (kI y).size=0 then EA (kI x).data.toList (kI y).data.toList else Lib.compareInt (kI x).size (kI y).size)=c at*
   generalize w'.alloc (.cells #[.int .i64 (Lib.compareInt (kI x).size (kI y).size),.int .i64 (EA (kI x).data.toList (kI y).data.toList)] 3)=w8 at*
   go_wp2;exact hR.o _ _ ⟨_,rfl,H6.o,F'.o⟩
end Cl
