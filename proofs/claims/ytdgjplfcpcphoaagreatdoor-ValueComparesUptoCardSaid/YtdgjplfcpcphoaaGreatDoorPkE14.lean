/- Lemmas for the proofs of chapter 11. -/
import Derived.Test.YtdgjplfcpcphoaaGreatDoorPkE13
set_option maxRecDepth 100000
set_option maxHeartbeats 16000000
namespace Cl
open Go Go.RowKit Go.Proofs Tryz
def ek(l:List (Int×Int)):List Value:=l.flatMap fun p=>[.int .i64 p.1,.int .i64 p.2]
def F6(p:Int×Int):Prop := -9223372036854775808<=p.1/\p.1<=9223372036854775807 /\ -9223372036854775808<=p.2/\p.2<=9223372036854775807
theorem sj(l:List (Int×Int))(p:Int×Int):ek (l++[p])=ek l++[.int .i64 p.1,.int .i64 p.2]:=by simp[ek]
theorem nX:∀(l:List (Int×Int)) (i:Nat) (h:i<l.length),(ek l)[i*2]?=some (.int .i64 l[i].1)/\(ek l)[i*2+1]?=some (.int .i64 l[i].2)
 |[],i,h=>by simp at h
 |p::l,0,_=>by simp[ek]
 |p::l,i+1,h=>by
  have:=nX l i qeo;simp only[ek,xO,List.getElem_cons_succ]at this⊢;rw[show(i+1)*2=i*2+2 by omega];exact this
theorem vY{w:zW}{t:TypeId}{v:zV}{l:List (Int×Int)}{m:Mem}(a:w.ownsRow 0 t 2 v l.length (ek l))(c:∀p∈l,F6 p):df (m.iw w v) v l:=
 ku a fun g b i h=>by
  obtain⟨e,d⟩:=nX l i h;exact⟨iK a b m e,iK a b m d,c _ (zF h)⟩
theorem YL:gz prog 215 214 2 16:=⟨underlying215,zo,by
 obtain⟨i,d,c,b,a⟩:=info_parts (P:=prog) (e:=214) (z:=.agg #[.int .i64 0,.int .i64 0]) (size:=2) (bytes:=16) zk;exact⟨i,_,d,c,b,a,rfl⟩⟩
def gL(l:List (Int×Int))(p:Int×Int):Nat:=l.findIdx (fun q=>p=q)
def fw(l:List (Int×Int))(p:Int×Int):List (Int×Int):=if gL l p<l.length then l else l++[p]
theorem z8(l:List (Int×Int))(x:Int×Int):firstIdx (fun y=>x=y) l 0=if gL l x<l.length then((gL l x:Nat):Int)else -1:=by
 rcases nZ (fun y=>x=y) l 0 with⟨h1,h2⟩|⟨i,h1,h2,h3,h4⟩
 .exact qcj
 .have:gL l x=i:=by
   unfold gL;exact qcA
  rw[h2,this,zK h1];simp
theorem xg(l:List (Int×Int))(p:Int×Int):gL l p<=l.length:=List.findIdx_le_length
theorem DY(l:List (Int×Int))(p:Int×Int):l <+: fw l p:=by
 unfold fw;split
 .exact List.prefix_refl _
 .exact qdr
theorem DZ(l:List (Int×Int))(p:Int×Int):(fw l p)[gL l p]?=some p:=by
 unfold fw
 split
 .rename_i h;have:=List.findIdx_getElem (p:=fun q=>decide (p=q)) (xs:=l) (w:=h);rw[yH h];exact congrArg some (of_decide_eq_true this).symm
 .rename_i h;have:gL l p=l.length:=by have:=xg l p;omega
  rw[this];simp
theorem QE{l:List (Int×Int)}{p:Int×Int}(h:¬gL l p<l.length):p ∉ l:=fun a=>h (List.findIdx_lt_length.2 ⟨p,a,zS⟩)
theorem QK(g:Nat)(v:zV)(l:List (Int×Int))(p:Int×Int)(w0 w:zW)(m mk:Mem)(L:List bF)(B:Own w0 m w mk (.row v 214 2 l.length (ek l)::.obj g 215 #[v]::L))
(_:F6 p)(P:∀q∈l,F6 q)(J:l.length<=100000000):
 zC 234 #[.agg #[.int .i64 p.1,.int .i64 p.2],.pointer (some ⟨g,0,none⟩)] w fun e w'=>∃v',e=.returned (.int .i64 (gL l p)) /\
  Own w0 m w' mk (.row v' 214 2 (fw l p).length (ek (fw l p))::.obj g 215 #[v']::L):=by
 refine aj fun R K=>?_;obtain⟨va,I,rfl⟩:=aT B.row;have a:=B.al' (.cells #[.int .i64 p.1,.int .i64 p.2] 214);have E:=a.bJ;have t:=IJ _ l p _ _ E.ay (vY a.row P);rw[z8]at t;have O:=xg l p;have x:(w.alloc (.cells #[.int .i64 p.1,.int .i64 p.2] 214)).heap.size=w.heap.size+1:=by simp
 have z:(w.alloc (.cells #[.int .i64 p.1,.int .i64 p.2] 214)).heap[w.heap.size]?=some (.cells #[.int .i64 p.1,.int .i64 p.2] 214 (0,0)):=(bH.new _ _ _).get;have W:=a.au.obj.c 0;have V:=a.au.obj.lt;have Q:=B.au.obj.lt;by_cases C:gL l p<l.length
 .rw[zK C]at t;have i:fw l p=l:=by unfold fw;rw[zK C]
  generalize gL l p=D at*
  have s:=zh (zi t (zi a i));clear t a E z i x B
  go_enter func234,ntmps234
  go_wp2_with fail
  refine s.o.1.mono ?_;rintro e u ⟨rfl,b⟩;have d:=s.o.2.1.aP b;go_wp2;refine K.o _ _ ⟨.slice va l.length I,rfl,?_⟩;rw[s.o.2.2];exact d
 .rw[zJ C]at t;have i:fw l p=l++[p]:=by unfold fw;rw[zJ C]
  have y:gL l p=l.length:=zo;generalize N:gL l p=D at*
  have s:=zh (zi t (zi a (zi i y)));clear t a E i x y N B
  go_enter func234,ntmps234
  go_wp2_with fail
  refine s.o.1.mono ?_;rintro e u ⟨rfl,b⟩;have d:=s.o.2.1.aP b;have Z:u.cell? ⟨w.heap.size,0,none⟩=some (.int .i64 p.1):=iI b zS zS;have Y:u.cell? ⟨w.heap.size,1,none⟩=some (.int .i64 p.2):=iI b zS zS;have M:w.heap.size<u.heap.size:=by have:=b.size;simp at this;omega
  have U:=d.au.obj.c 0;have T:=d.au.obj.frozen 0;have S:=d.au.obj.lt;clear b W V;have r:=d.al #[.int .i64 p.1,.int .i64 p.2] 214;have k:=r.obj.cZ rfl;clear d
  go_wp2_with (at_builtin;refine aG YL rfl (.tmp 12) (.tmp 14) rfl (.slice va l.length I) l.length (ek l) rfl r.au.row ⟨u.heap.size,0,none⟩ 1 1 [.int .i64 p.1,.int .i64 p.2] rfl rfl k qdZ qdY zo ?_)
  intro H G X j f h;have n:=(r.au.app j f h zS).bL.au;have U:=n.obj.c 0;have T:=n.obj.frozen 0;have S:=n.obj.lt;have A:=(n.set 0 (.slice H (l.length+1) G)).au;have F:=zh A;clear A n r k j f h;go_wp2;refine K.o _ _ ⟨.slice H (l.length+1) G,dU (by rw[s.o.2.2.2]),?_⟩;rw[s.o.2.2.1,sj,show(l++[p]).length=l.length+1 by simp];exact F.o
def jv(es:List Ed)(b:Nat):Prop:=∃e∈es,kD e b
theorem Mi{es:List Ed}{j:Nat}(h:j<es.length)(b:Nat):jv (es.take (j+1)) b↔jv (es.take j) b\/kD es[j] b:=qW h b
def AY(l:aC)(s:Int):List Ed:=if s<0 then[]else match l[s.toNat]? with
 |some st=>st.aH
 |none=>[]
theorem tu(l:aC)(s:Int)(b:Nat):bC l s b=bv (AY l s) b:=by
 unfold bC AY
 split
 .rfl
 .cases l[s.toNat]?<;>rfl
theorem O8(W:zV)(l:aC)(s:Int)(g:Nat)(P:Nat->Prop)(w0 w:zW)(m mk:Mem)(L:List bF)(d:Own w0 m w mk (.obj g 219 (kI P 256)::L))(hl:aQ mk W l)
(j' : -1<=s)(i':s<=l.length)(_:l.length<=1000000):
 zC 237 #[.agg #[W],.int .i64 s,.pointer (some ⟨g,0,none⟩)] w fun e w'=>e=.returned (.tuple #[]) /\
  Own w0 m w' mk (.obj g 219 (kI (fun b=>P b\/jv (AY l s) b) 256)::L):=by
 obtain⟨a,c,rfl,h1,h2,Q⟩:=hl;unfold maxLen at h2;by_cases h0:s<0
 .have r:AY l s=[]:=by simp[AY,h0]
  have y:kI (fun b=>P b\/jv (AY l s) b) 256=kI P 256:=dF fun b _=>by rw[r];simp[jv]
  rw[y];refine aj fun R hR=>?_;have HO:=zh (d.al' (.cells #[.slice a l.length c] 27));clear d r y
  go_enter func237,ntmps237
  exact qaZ
 obtain⟨s,rfl⟩:=zT (by omega:0<=s);by_cases hs:s<l.length
 .obtain⟨b,off,rfl,h4⟩:=Q qec;obtain⟨-,ve,g2,ea,T,rfl,g4,g5,g6⟩:=h4 s hs;have r:AY l (s:Int)=(l[s]).aH:=by
   have C:¬((s:Int)<0):=zo;simp[AY,C,hs]
  rw[r];generalize l[s].aH=es at*
  refine aj fun R hR=>?_;unfold maxLen at g5;have N:=Mem_cell_w d.ay g2;have m':=Mem_cell_lt d.ay g2;have HO:=zh (d.al' (.cells #[.slice (some ⟨b,off,none⟩) l.length c] 27));clear d Q h4 r
  go_enter func237,ntmps237
  go_wp2;refine av [2,22,23,24] (fun n p F=>∃(j:Nat),j<=es.length/\n=es.length-j/\p=[.pointer (some ⟨g,0,none⟩),.slice ea es.length T,.int .i64 es.length,.int .i64 j] /\
   Own w0 m F mk (.obj g 219 (kI (fun b=>P b\/jv (es.take j) b) 256)::L)) ?_ ?_
  .refine⟨_,0,zG _,rfl,rfl,?_⟩;rw[dF (P':=P) (by intro b _;simp[jv])];exact HO.o
  clear HO N;rintro X z n p F Z-⟨j,hj,rfl,rfl,d⟩;simp[aX,lk];by_cases hlt:j<es.length
  .obtain⟨b',q,rfl,S⟩:=g6 qdX;obtain⟨e1,e2,e3,e4,e5,-⟩:=S j hlt;have d1:=Mem_cell_w d.ay e1;have d2:=Mem_cell_w d.ay e2;have d3:=Mem_cell_w d.ay e3;have O:=Mem_cell_lt d.ay e1;have D:=zh (fun b=>Mi hlt b);generalize es[j]=e at*
   have B:=(d.al #[.int .u8 e.lo,.int .u8 e.hi,.int .i64 e.to] 104);have k:=zh B;clear d B;go_wp2;generalize F.heap.size=E at*
   generalize F.alloc (.cells #[.int .u8 e.lo,.int .u8 e.hi,.int .i64 e.to] 104)=V at*
   have K:=k.o.obj.c 0;have J:=k.o.obj.lt;have I:=k.o.au.obj.lt;have H:=k.o.au.obj.frozen e.lo;have G:=k.o.au.obj.cell (iM (i:=e.lo) zo);refine aR [2,7,22,23,24] (fun p w'=>p=[.pointer (some ⟨g,0,none⟩),.pointer (some ⟨E,0,none⟩),.slice (some ⟨b',q,none⟩) es.length T,.int .i64 es.length,.int .i64 j]/\w'=(V.setCell ⟨g,e.lo,none⟩ (.bool true)).drew) ?_ ?_
   .intro Y hY
    go_region
    exact qb3
   rintro z1 p M-⟨rfl,rfl⟩;simp[aX,lk];have u:=(k.o.au.set e.lo (.bool true)).dr;rw[iL]at u;have f:=zh u;clear u k d1 d2 d3 O K J I H G;generalize (V.setCell ⟨g,e.lo,none⟩ (.bool true)).drew=w4 at*
   have K:=f.o.au.obj.c 1;have J:=f.o.au.obj.lt;by_cases l':e.hi<255
   .have A:decide ((e.hi:Int)<255)=true:=zN zo;go_wp2;have h':IntKind.u8.wrap ((e.hi:Int)+1)=(e.hi:Int)+1:=IntWalk.u8_in _ zo;have I:=f.o.obj.lt;have H:=f.o.obj.frozen (e.hi+1);have G:=f.o.obj.cell (iM (i:=e.hi+1) zo);refine aR [2,22,23,24] (fun p w'=>p=[.pointer (some ⟨g,0,none⟩),.slice (some ⟨b',q,none⟩) es.length T,.int .i64 es.length,.int .i64 j]/\w'=(w4.setCell ⟨g,e.hi+1,none⟩ (.bool true)).drew) ?_ ?_
    .intro Y hY
     go_region
     exact qb3
    rintro z1 p M-⟨rfl,rfl⟩;simp[aX,lk];have t:=((f.o.set (e.hi+1) (.bool true)).dr).bL;rw[iL]at t;have U:=zh t;clear t K J I H G f;go_wp2;refine Z.o _ _ _ zo rfl ⟨j+1,zo,rfl,rfl,?_⟩;rw[dF (P:=fun b=>P b\/jv (es.take (j+1)) b) (P':=fun b=>((P b\/jv (es.take j) b)\/b=e.lo)\/b=e.hi+1) (by
     intro b _;rw[D.o];unfold kD;constructor
     .rintro(h|h|h|h)
      .exact qcR
      .exact qcQ
      .exact .inl (.inr h.symm)
      .exact .inr h.symm
     .rintro(((h|h)|h)|h)
      .exact .inl h
      .exact qdi
      .exact qcU
      .exact .inr (.inr (.inr h.symm)))]
    exact U.o
   .have A:decide ((e.hi:Int)<255)=false:=zM zo;go_wp2;refine Z.o _ _ _ zo rfl ⟨j+1,zo,rfl,rfl,?_⟩;rw[dF (P:=fun b=>P b\/jv (es.take (j+1)) b) (P':=fun b=>(P b\/jv (es.take j) b)\/b=e.lo) (by
     intro b hb;rw[D.o];unfold kD;constructor
     .rintro(h|h|h|h)
      .exact qcK
      .exact .inl (.inr h)
      .exact .inr h.symm
      .omega
     .rintro((h|h)|h)
      .exact .inl h
      .exact qdi
      .exact .inr (.inr (.inl h.symm)))]
    exact f.o.bL
  .obtain rfl:j=es.length:=zo;rw[yG]at d;have HO:=zh d;clear d;exact qaZ
 .have x:s=l.length:=zo;have r:AY l (s:Int)=[]:=by
   have C:¬((s:Int)<0):=zo;simp[AY,x]
  have y:kI (fun b=>P b\/jv (AY l (s:Int)) b) 256=kI P 256:=dF fun b _=>by rw[r];simp[jv]
  rw[y];refine aj fun R hR=>?_;have HO:=zh (d.al' (.cells #[.slice a l.length c] 27));clear d r y Q;subst x
  go_enter func237,ntmps237
  exact qaZ
theorem Wo(l:aC)(s:Int)(h:(l.length:Int)<=s):bB l s=false:=by
 have:=iP l s [] h;exact this
theorem kW(v:zV)(l:aC)(s:Int)(m:Mem)(w:zW)(g:m.ay w)(d:aQ m v l)(b : -9223372036854775808<=s)(f:s<=9223372036854775807):
 zX 236 #[.agg #[v],.int .i64 s] w (.bool (bB l s)):=by
 by_cases h:s<l.length
 .exact Df v l s m w g d b h
 .rw[Wo l s zo];obtain⟨a,c,rfl,n,k,j⟩:=d;unfold maxLen at k;clear j;refine aj fun R i=>?_
  go_enter func236,ntmps236
  go_wp2
  all_goals exact i.o _ _ ⟨rfl,bE (zR _ _) _⟩
theorem uu:∀(es:List Ed) (c:Nat),0<c->¬jv es c->bv es c=bv es (c-1)
 |[],_,_,_=>rfl
 |e::es,c,hc,h=>by
  have f:¬(e.lo=c\/e.hi+1=c):=fun a=>h ⟨e,zS,a⟩;have b:=uu es c hc (fun⟨x,a,d⟩=>h ⟨x,by simp[a],d⟩);simp only[bv];by_cases g:e.lo<=c/\c<=e.hi
  .rw[zK g,zK ⟨zo,zo⟩]
  .rw[zJ g,zJ zo,b]
theorem LC{A B:aC}{p:Int×Int}{c:Nat}(a:0<c)(h:¬((c=0\/jv (AY A p.1) c)\/jv (AY B p.2) c)):jU A B p c=jU A B p (c-1):=by
 unfold jU;rw[tu,tu,tu,tu,uu _ c a (fun x=>h (.inl (.inr x))),uu _ c a (fun x=>h (.inr x))]
theorem SA:(zeroCells219).setIfInBounds 0 (.bool true)=kI (fun b=>b=0) 256:=by
 have:zeroCells219=Array.replicate 256 (Value.bool false):=by kernel_rfl
 rw[this,ma,iL];exact dF fun b _=>by simp
theorem Own.Yl{w0 w:zW}{m mk:Mem}{L:List Cl.bF}{g:Nat}{t:TypeId}{x y:zV}(h:Own w0 m w mk (.obj g t #[x,y]::L)):Own w0 m w mk (.row (.slice (some ⟨g,0,none⟩) 1 1) t 2 1 [x,y]::L):=by
 have a:=yS.1 h.apart;refine⟨h.m0,h.az,h.ext,h.ay,?_,?_,.cons (fun b c k e d=>a.1 b c k e d) a.2⟩
 .simp only[yA,forall_eq_or_imp];refine⟨⟨rfl,.inr ⟨g,1,#[x,y],rfl,zG _,h.obj.get,zI _,by simp[maxLen],rfl,rfl⟩⟩,fun it hi=>h.ok it (zU _ hi)⟩
 .exact qch
theorem Own.azH{w0 w:zW}{m mk:Mem}{L:List Cl.bF}{g:Nat}{t:TypeId}{arr:Array Value}(h:Own w0 m w mk (.obj g t arr::L))(cs:Array Value):Own w0 m (w.setRow g cs) mk (.obj g t cs::L):=by
 have d:w.grownBy (w.setRow g cs) (some g):=⟨rfl,rfl,rfl,zS,fun k _ c=>setRow_other w g k cs (fun e=>c (by rw[e]))⟩;have hf:=h.gV _ (yF ..) g rfl;have a:=yS.1 h.apart;refine⟨h.m0,h.az.grown d h.az.size (fun k hk=>by cases hk;exact hf.1),h.ext,Mem_inn_grown h.ay d (fun k hk=>by cases hk;exact hf.2),?_,?_,.cons (fun b f k j i=>a.1 b f k j i) a.2⟩
 .simp only[yA,forall_eq_or_imp];exact⟨⟨setRow_heap w g arr cs t (0,0) h.obj.get⟩,fun it hi=>bF.nP (h.ok it (zU _ hi)) fun k hk=>d.block k (bF.lt (h.ok it (zU _ hi)) hk) (fun e=>a.1 it hi g rfl (by cases e;exact hk))⟩
 .exact qak
theorem jI.add{A B:aC}{op:Bool->Bool->Bool}{st:Int×Int}{l:List (Int×Int)}{out:aC}(h:jI A B op st l out){q:Int×Int}
(b:(-1<=q.1/\q.1<=A.length)/\(-1<=q.2/\q.2<=B.length)):jI A B op st (fw l q) out:=by
 by_cases a:gL l q<l.length
 .have:fw l q=l:=by unfold fw;rw[zK a]
  rw[this];exact h
 .have:fw l q=l++[q]:=by unfold fw;rw[zJ a]
  rw[this];exact h.grow (QE a) b
theorem mO.ok{A B:aC}{p:Int×Int}{l:List (Int×Int)}{es:List Ed}{c:Nat}(h:mO A B p l es c)(i:l.length<=100000000):(∀e∈es,VI e)/\es.length<=256:=by
 have b:=gq h.wf;have d:=h.le;refine⟨fun e a=>?_,?_⟩
 .have g:=h.hi e a;have f:=b e a;exact⟨zo,zo,zo,zo⟩
 .have:=WB h.wf (fun e a=>by have g:=h.hi e a;have f:=b e a;exact⟨zo,zo⟩) zo zo;omega
theorem NF(fi:Nat)(f:Bool->Bool->Bool)(hf:∀x y w,zX fi #[.bool x,.bool y] w (.bool (f x y)))(hff:f false false=false)
(hcf:Hid (∀x y w,Sem.run prog (callFunc fi #[.bool x,.bool y]) w=.ok (.enter fi #[.bool x,.bool y]) w))
(v0 v1:zV)(A B:aC)(m:Mem)(w:zW)(hm:m.ay w)(L':gD m)(hA:aQ m v0 A)(hB:aQ m v1 B)(hlen:(A.length+2)*(B.length+2)<=1000000)(hlA:A.length<=1000000)(hlB:B.length<=1000000):
 zC 201 #[.agg #[v0],.agg #[v1],.func (.func fi) #[] #[]] w fun e w'=>∃r C,e=.returned (.agg #[r])/\zB w w'/\aQ (m.grow w w') r C /\
  j3 (fun x=>f (Sem A x) (Sem B x)) C/\C.length<=(A.length+2)*(B.length+2)+1:=by
 have d:=(((Own.start hm).al #[v0] 27).al #[v1] 27).al #[.slice none 0 0] 27;have hsz1:(w.alloc (.cells #[v0] 27)).heap.size=w.heap.size+1:=by simp
 have hsz2:((w.alloc (.cells #[v0] 27)).alloc (.cells #[v1] 27)).heap.size=w.heap.size+2:=by simp
 rw[hsz2,hsz1]at d;have HO:=zh d;have HA:=zh (fun w (hw:m.ay w)=>qm v0 A m w hw L' hA hlA);have HB:=zh (fun mk w (hw:mk.ay w) (hle:m.le mk)=>qm v1 B mk w hw (L'.le hle) (aW hle hB) hlB);clear d hsz1 hsz2;refine aj fun R hR=>?_;obtain⟨va,vc,rfl,-⟩:=hA;obtain⟨vb,vd,rfl,-⟩:=hB
 go_enter func201,ntmps201
 go_wp2;refine aR [2,3,4,6] (fun vs w'=>∃(r1 r2:zV) (mk:Mem),vs=[.func (.func fi) #[] #[],.pointer (some ⟨w.heap.size,0,none⟩),.pointer (some ⟨w.heap.size+1,0,none⟩),.pointer (some ⟨w.heap.size+2,0,none⟩)] /\
  Own w m w' mk [.obj (w.heap.size+2) 27 #[.slice none 0 0],.obj (w.heap.size+1) 27 #[r2],.obj w.heap.size 27 #[r1]]/\aQ mk r1 (bX A)/\aQ mk r2 (bX B)) ?_ ?_
 .intro X hX;refine oq (fun j w'=>(j≠4->j≠5->bH w' w.heap.size 27 #[.slice va A.length vc])/\(j≠5->bH w' (w.heap.size+1) 27 #[.slice vb B.length vd])) zk ?_;have d:=HO.o.dr;refine ow 0 (fun w'=>bH w' w.heap.size 27 #[.slice va A.length vc]) rfl zk (fun _ _ _ h=>h) (fun j w' hj hd=>hd.1 qei qei) d.bA.obj (aB rfl fun w' a=>by have q:=a.cell (i:=0) rfl;go_simp;rfl) ?_;refine ow 2 (fun w'=>bH w' (w.heap.size+1) 27 #[.slice vb B.length vd]) rfl zk (fun _ _ _ h=>h) (fun j w' hj hd=>hd.2 qei) d.au.obj (aB rfl fun w' a=>by have q:=a.cell (i:=0) rfl;go_simp;rfl) ?_;refine bQ 1 zk (aJ rfl rfl (dX qej (HA.o _ d.ay) ?_));rintro e w1 ⟨r1,rfl,hb1,R'⟩;have u:=d.call hb1;have hle:=Mem_le_grow (w:=w1) d.ay;refine⟨_,rfl,.inr ⟨fun _ _=>u.bA.obj,fun _=>u.au.obj⟩,?_⟩;go_simp;refine bQ 3 zk (aJ rfl rfl (dX qej (HB.o _ _ u.ay hle) ?_));rintro e w2 ⟨r2,rfl,hb2,Q'⟩;have F:=u.call hb2;have hle2:=Mem_le_grow (w:=w2) u.ay;refine⟨_,rfl,.inr ⟨fun _ _=>F.bA.obj,fun _=>F.au.obj⟩,?_⟩;obtain⟨xa,Z,rfl⟩:∃xa Z,r1=.slice xa (bX A).length Z:=by obtain⟨x,y,e,-⟩:=R';exact⟨x,y,e⟩
  obtain⟨ya,yc,rfl⟩:∃xa Z,r2=.slice xa (bX B).length Z:=by obtain⟨x,y,e,-⟩:=Q';exact⟨x,y,e⟩
  go_simp;have f1:=F.bA.obj.frozen 0;have c1:=F.bA.obj.c 0;have G:=F.bA.set 0 (.slice xa (bX A).length Z);have f3:=G.bA.obj.frozen 0;have c3:=G.bA.obj.c 0;have W:=(G.bA.set 0 (.slice ya (bX B).length yc)).bA;refine bQ 4 zk (aJ rfl rfl (cO zg ⟨.inr ⟨fun h=>absurd rfl h,fun _=>G.bA.obj⟩,?_⟩));refine bQ 5 zk (aJ rfl rfl (cO zg ⟨.inr ⟨fun _ h=>absurd rfl h,fun h=>absurd rfl h⟩,?_⟩));refine jk zk ?_ _;exact hX.o _ _ rfl ⟨_,_,_,rfl,W,aW hle2 R',Q'⟩
 rintro z vs w1-⟨r1,r2,mk,rfl,d,R',Q'⟩;simp[aX,lk];clear HO HA HB;have hgA:=jG A;have hgB:=jG B;have hgAl:=jY A;have hgBl:=jY B;have N':∀x,aK (bX A) 0 x=Sem A x:=fun x=>by
  unfold bX Sem;by_cases h:dG A
  .simp[aO h]
  .exact qde
 have M':∀x,aK (bX B) 0 x=Sem B x:=fun x=>by
  unfold bX Sem;by_cases h:dG B
  .simp[aO h]
  .exact qde
 have HG:=zh (zi hgA (zi hgB (zi N' M')));clear hgA hgB N' M';have hmul:((bX A).length+2)*((bX B).length+2)<=(A.length+2)*(B.length+2):=xV zo zo;generalize bX A=A' at*
 generalize bX B=B' at*
 have u:=(((d.al #[.int .i64 0,.int .i64 0] 214).Yl).al #[.slice (some ⟨w1.heap.size,0,none⟩) 1 1] 215).au.dL 80 2;have hsz:(w1.alloc (.cells #[.int .i64 0,.int .i64 0] 214)).heap.size=w1.heap.size+1:=by simp
 rw[hsz]at u;have m':=zh (zi u (FY (A:=A') (B:=B') (op:=f) (st:=(0,0)) (by simp only;omega)));have k':=zh (zi R' Q');obtain⟨xa,Z,rfl,-⟩:=R';obtain⟨ya,yc,rfl,-⟩:=Q';clear u d hsz;go_wp2;generalize w1.heap.size=N at*
 refine av [2,3,4,6,7,8,9,10] (fun n vs wr=>∃(k:Nat) (l:List (Int×Int)) (out:aC) (vl vo:zV) (xs:List Value) (mk':Mem),n=1000001-k /\
  vs=[.func (.func fi) #[] #[],.pointer (some ⟨w.heap.size,0,none⟩),.pointer (some ⟨w.heap.size+1,0,none⟩),.pointer (some ⟨w.heap.size+2,0,none⟩),.pointer (some ⟨N+1,0,none⟩),.func (.func 234) #[] #[.pointer (some ⟨N+1,0,none⟩)],vo,.int .i64 k] /\
  Own w m wr mk' [.row vo 80 2 k xs,.row vl 214 2 l.length (ek l),.obj (N+1) 215 #[vl],.obj (w.heap.size+2) 27 #[.slice none 0 0],.obj (w.heap.size+1) 27 #[.slice ya B'.length yc],.obj w.heap.size 27 #[.slice xa A'.length Z]] /\
  kJ mk' xs out/\mk.le mk'/\jI A' B' f (0,0) l out/\out.length=k) ?_ ?_
 .refine⟨_,0,[(0,0)],[],.slice (some ⟨N,0,none⟩) 1 1,.slice none 0 0,[],mk,rfl,?_,m'.o.1,kJ.nil _,Mem.le_refl _,m'.o.2,rfl⟩
  rfl
 clear m';rintro X z n vs wr hX-⟨k,l,out,vl,vo,xs,mk',rfl,rfl,d,P',d',K,S'⟩;simp[aX,lk];obtain⟨vla,vlc,rfl⟩:=aT d.au.row;have hob:=d.bA.obj;have b1:=hob.cell (i:=0) rfl;have b2:=hob.lt;have hpl:=nN K.nodup K.ik;have hkl:=K.le;by_cases hlt:k<l.length
 .obtain⟨vlb,rfl⟩:=kH d.au.row zo;have hpc:=nX l k hlt;have r1:=bg d.au.row hpc.1;have r2:=bg d.au.row hpc.2;have rl:=(World.ownsRow.lt d.au.row _ rfl).2;have W':l[k]?=some l[k]:=by simp[hlt]
  have hrng:=K.ik l[k] (zF hlt);have HP:=zh (zi K (zi S' W'));generalize l[k]=p at*
  obtain⟨pa,pb⟩:=p;simp only at r1 r2 hrng;have u:=d.al #[.int .i64 pa,.int .i64 pb] 214;have m':=zh u;clear u d K S' W' hpc hob;go_wp2;generalize hW2:wr.alloc (.cells #[.int .i64 pa,.int .i64 pb] 214)=w2 at*
  generalize wr.heap.size=P at*
  refine aR [2,3,4,6,7,8,9,10,11,12] (fun vs w'=>∃S:Nat,
   vs=[.func (.func fi) #[] #[],.pointer (some ⟨w.heap.size,0,none⟩),.pointer (some ⟨w.heap.size+1,0,none⟩),.pointer (some ⟨w.heap.size+2,0,none⟩),.pointer (some ⟨N+1,0,none⟩),.func (.func 234) #[] #[.pointer (some ⟨N+1,0,none⟩)],vo,.int .i64 k,.pointer (some ⟨P,0,none⟩),.pointer (some ⟨S,0,none⟩)] /\
   Own w m w' mk' [.obj S 80 #[.bool (f (bB A' pa) (bB B' pb)),.slice none 0 0],.obj P 214 #[.int .i64 pa,.int .i64 pb],.row vo 80 2 k xs,.row (.slice (some ⟨vlb,0,none⟩) l.length vlc) 214 2 l.length (ek l),.obj (N+1) 215 #[.slice (some ⟨vlb,0,none⟩) l.length vlc],.obj (w.heap.size+2) 27 #[.slice none 0 0],.obj (w.heap.size+1) 27 #[.slice ya B'.length yc],.obj w.heap.size 27 #[.slice xa A'.length Z]]) ?_ ?_
  .intro Y hY;refine jC (fun w'=>bH w' w.heap.size 27 #[.slice xa A'.length Z]/\bH w' (w.heap.size+1) 27 #[.slice ya B'.length yc]/\bH w' P 214 #[.int .i64 pa,.int .i64 pb]) 12 zk ?_;have d:=m'.o.dr;generalize w2.drew=w3 at*
   have H:∀{w':zW} {L:List Cl.bF},Own w m w' mk' L->bF.obj w.heap.size 27 #[.slice xa A'.length Z]∈L->bF.obj (w.heap.size+1) 27 #[.slice ya B'.length yc]∈L->bF.obj P 214 #[.int .i64 pa,.int .i64 pb]∈L ->
    (bH w' w.heap.size 27 #[.slice xa A'.length Z]/\bH w' (w.heap.size+1) 27 #[.slice ya B'.length yc]/\bH w' P 214 #[.int .i64 pa,.int .i64 pb]):=
    fun h h1 h2 h3=>⟨h.eO h1,h.eO h2,h.eO h3⟩
   have M:=H d zS zS zS;refine aI 0 rfl zk (fun _ _ _ h=>h) M (aB rfl fun w' a=>by have q:=a.1.cell (i:=0) rfl;have Q:=a.2.1.cell (i:=0) rfl;have q2:=a.2.2.cell (i:=0) rfl;have O:=a.2.2.cell (i:=1) rfl;go_simp;rfl) ?_;refine aI 1 rfl zk (fun _ _ _ h=>h) M (aB rfl fun w' a=>by have q:=a.1.cell (i:=0) rfl;have Q:=a.2.1.cell (i:=0) rfl;have q2:=a.2.2.cell (i:=0) rfl;have O:=a.2.2.cell (i:=1) rfl;go_simp;rfl) ?_;refine aI 2 rfl zk (fun _ _ _ h=>h) M (aB rfl fun w' a=>by have q:=a.1.cell (i:=0) rfl;have Q:=a.2.1.cell (i:=0) rfl;have q2:=a.2.2.cell (i:=0) rfl;have O:=a.2.2.cell (i:=1) rfl;go_simp;rfl) ?_;refine aI 3 rfl zk (fun _ _ _ h=>h) M (aB rfl fun w' a=>by have q:=a.1.cell (i:=0) rfl;have Q:=a.2.1.cell (i:=0) rfl;have q2:=a.2.2.cell (i:=0) rfl;have O:=a.2.2.cell (i:=1) rfl;go_simp;rfl) ?_;refine aI 5 rfl zk (fun _ _ _ h=>h) M (aB rfl fun w' a=>by have q:=a.1.cell (i:=0) rfl;have Q:=a.2.1.cell (i:=0) rfl;have q2:=a.2.2.cell (i:=0) rfl;have O:=a.2.2.cell (i:=1) rfl;go_simp;rfl) ?_;refine aI 6 rfl zk (fun _ _ _ h=>h) M (aB rfl fun w' a=>by have q:=a.1.cell (i:=0) rfl;have Q:=a.2.1.cell (i:=0) rfl;have q2:=a.2.2.cell (i:=0) rfl;have O:=a.2.2.cell (i:=1) rfl;go_simp;rfl) ?_;refine aI 7 rfl zk (fun _ _ _ h=>h) M (aB rfl fun w' a=>by have q:=a.1.cell (i:=0) rfl;have Q:=a.2.1.cell (i:=0) rfl;have q2:=a.2.2.cell (i:=0) rfl;have O:=a.2.2.cell (i:=1) rfl;go_simp;rfl) ?_;clear M;refine sP 4 11 zk ?_ ?_
   .skip
    refine aJ rfl rfl (dX qej (kW (.slice xa A'.length Z) A' pa mk _ (Mem_inn_le d' d.ay) k'.o.1 zo zo) ?_);rintro e wF1 ⟨rfl,E⟩;have I':=d.aP E;refine⟨_,rfl,jb (H I' zS zS zS) fun _=>?_⟩;clear d E;go_simp;refine sP 8 11 zk ?_ ?_
    .skip
     refine aJ rfl rfl (dX qej (kW (.slice ya B'.length yc) B' pb mk _ (Mem_inn_le d' I'.ay) k'.o.2 zo zo) ?_);rintro e wF2 ⟨rfl,E⟩;have Z':=I'.aP E;refine⟨_,rfl,jb (H Z' zS zS zS) fun _=>?_⟩;clear I' E;go_simp;refine sP 9 11 zk ?_ ?_
     .skip
      refine aJ rfl rfl (dX qed (hf (bB A' pa) (bB B' pb) _) ?_);rintro e wF3 ⟨rfl,E⟩;have H':=Z'.aP E;refine⟨_,rfl,jb (H H' zS zS zS) fun _=>?_⟩;clear Z' E;go_simp;refine sP 10 11 zk ?_ ?_
      .skip
       refine aJ rfl rfl (aN qd0 (jb (H H' zS zS zS) fun _=>?_));have hF4:=H';clear H';go_simp;refine aV 11 zk ?_;have s':=hF4.al #[.bool false,.slice none 0 0] 80;refine aJ rfl rfl (aN qd0 (jb (H s' zS zS zS) fun _=>?_));clear hF4;go_simp;generalize wF3.alloc (.cells #[.bool false,.slice none 0 0] 80)=wF5 at*
       generalize wF3.heap.size=S at*
       have hE0:=s'.obj.frozen 0;have hE1:=s'.obj.frozen 1;have hE2:=s'.obj.c 0;have hE3:=s'.obj.c 1;have hE4:=s'.obj.lt;have hZ:=(s'.set 0 (.bool (f (bB A' pa) (bB B' pb)))).set 1 (.slice none 0 0);exact qal
      .skip
       have hF6:=H'.al #[.bool false,.slice none 0 0] 80;refine aJ rfl rfl (aN qd0 (jb (H hF6 zS zS zS) fun _=>?_));clear H';go_simp;generalize wF3.alloc (.cells #[.bool false,.slice none 0 0] 80)=wF6 at*
       generalize wF3.heap.size=S at*
       refine aV 10 zk ?_;refine aJ rfl rfl (aN qd0 (jb (H hF6 zS zS zS) fun _=>?_));have G':=hF6;clear hF6;go_simp;have hE0:=G'.obj.frozen 0;have hE1:=G'.obj.frozen 1;have hE2:=G'.obj.c 0;have hE3:=G'.obj.c 1;have hE4:=G'.obj.lt;have hZ:=(G'.set 0 (.bool (f (bB A' pa) (bB B' pb)))).set 1 (.slice none 0 0);exact qal
     .skip
      have hF8:=Z'.al #[.bool false,.slice none 0 0] 80;refine aJ rfl rfl (aN qd0 (jb (H hF8 zS zS zS) fun _=>?_));clear Z';go_simp;generalize wF2.alloc (.cells #[.bool false,.slice none 0 0] 80)=wF8 at*
      generalize wF2.heap.size=S at*
      refine aV 9 zk ?_;refine aJ rfl rfl (dX qed (hf (bB A' pa) (bB B' pb) _) ?_);rintro e wF9 ⟨rfl,E⟩;have hF9:=hF8.aP E;refine⟨_,rfl,jb (H hF9 zS zS zS) fun _=>?_⟩;clear hF8 E;go_simp;refine aV 10 zk ?_;refine aJ rfl rfl (aN qd0 (jb (H hF9 zS zS zS) fun _=>?_));have h':=hF9;clear hF9;go_simp;have hE0:=h'.obj.frozen 0;have hE1:=h'.obj.frozen 1;have hE2:=h'.obj.c 0;have hE3:=h'.obj.c 1;have hE4:=h'.obj.lt;have hZ:=(h'.set 0 (.bool (f (bB A' pa) (bB B' pb)))).set 1 (.slice none 0 0);exact qal
    .skip
     have D':=I'.al #[.bool false,.slice none 0 0] 80;refine aJ rfl rfl (aN qd0 (jb (H D' zS zS zS) fun _=>?_));clear I';go_simp;generalize wF1.alloc (.cells #[.bool false,.slice none 0 0] 80)=wF11 at*
     generalize wF1.heap.size=S at*
     refine aV 8 zk ?_;refine aJ rfl rfl (dX qej (kW (.slice ya B'.length yc) B' pb mk _ (Mem_inn_le d' D'.ay) k'.o.2 zo zo) ?_);rintro e wF12 ⟨rfl,E⟩;have hF12:=D'.aP E;refine⟨_,rfl,jb (H hF12 zS zS zS) fun _=>?_⟩;clear D' E;go_simp;refine aV 9 zk ?_;refine aJ rfl rfl (dX qed (hf (bB A' pa) (bB B' pb) _) ?_);rintro e wF13 ⟨rfl,E⟩;have C':=hF12.aP E;refine⟨_,rfl,jb (H C' zS zS zS) fun _=>?_⟩;clear hF12 E;go_simp;refine aV 10 zk ?_;refine aJ rfl rfl (aN qd0 (jb (H C' zS zS zS) fun _=>?_));have g':=C';clear C';go_simp;have hE0:=g'.obj.frozen 0;have hE1:=g'.obj.frozen 1;have hE2:=g'.obj.c 0;have hE3:=g'.obj.c 1;have hE4:=g'.obj.lt;have hZ:=(g'.set 0 (.bool (f (bB A' pa) (bB B' pb)))).set 1 (.slice none 0 0);exact qal
   .skip
    have z':=d.al #[.bool false,.slice none 0 0] 80;refine aJ rfl rfl (aN qd0 (jb (H z' zS zS zS) fun _=>?_));clear d;go_simp;generalize w3.alloc (.cells #[.bool false,.slice none 0 0] 80)=wF15 at*
    generalize w3.heap.size=S at*
    refine aV 4 zk ?_;refine aJ rfl rfl (dX qej (kW (.slice xa A'.length Z) A' pa mk _ (Mem_inn_le d' z'.ay) k'.o.1 zo zo) ?_);rintro e wF16 ⟨rfl,E⟩;have y':=z'.aP E;refine⟨_,rfl,jb (H y' zS zS zS) fun _=>?_⟩;clear z' E;go_simp;refine aV 8 zk ?_;refine aJ rfl rfl (dX qej (kW (.slice ya B'.length yc) B' pb mk _ (Mem_inn_le d' y'.ay) k'.o.2 zo zo) ?_);rintro e wF17 ⟨rfl,E⟩;have hF17:=y'.aP E;refine⟨_,rfl,jb (H hF17 zS zS zS) fun _=>?_⟩;clear y' E;go_simp;refine aV 9 zk ?_;refine aJ rfl rfl (dX qed (hf (bB A' pa) (bB B' pb) _) ?_);rintro e wF18 ⟨rfl,E⟩;have x':=hF17.aP E;refine⟨_,rfl,jb (H x' zS zS zS) fun _=>?_⟩;clear hF17 E;go_simp;refine aV 10 zk ?_;refine aJ rfl rfl (aN qd0 (jb (H x' zS zS zS) fun _=>?_));have f':=x';clear x';go_simp;have hE0:=f'.obj.frozen 0;have hE1:=f'.obj.frozen 1;have hE2:=f'.obj.c 0;have hE3:=f'.obj.c 1;have hE4:=f'.obj.lt;have hZ:=(f'.set 0 (.bool (f (bB A' pa) (bB B' pb)))).set 1 (.slice none 0 0);exact qal
  rintro z1 vs w3-⟨S,rfl,d⟩;simp[aX,lk];have u:=d.al zeroCells219 219;have hg2:=u.obj.get;have F:=u.azH (zeroCells219.setIfInBounds 0 (.bool true));have G:=F;rw[SA]at G;have HC1:=zh (O8 (.slice xa A'.length Z) A' pa w3.heap.size (fun b=>b=0) w _ m mk' _ G (aW d' k'.o.1) zo zo zo);rw[<-SA]at HC1;have HC2:=zh (fun L P w' (h:Own w m w' mk' (.obj w3.heap.size 219 (kI P 256)::L))=>O8 (.slice ya B'.length yc) B' pb w3.heap.size P w w' m mk' L h (aW d' k'.o.2) zo zo zo);have HO3:=zh F;have Q:=(F.eO (g:=w.heap.size) (t:=27) (arr:=#[.slice xa A'.length Z]) zS).cell (i:=0) rfl;have q1l:=(F.eO (g:=w.heap.size) (t:=27) (arr:=#[.slice xa A'.length Z]) zS).lt;have O:=(F.eO (g:=P) (t:=214) (arr:=#[.int .i64 pa,.int .i64 pb]) zS).cell (i:=0) rfl;have q3l:=(F.eO (g:=P) (t:=214) (arr:=#[.int .i64 pa,.int .i64 pb]) zS).lt;clear d F G m' u
  go_wp2_with (refine wpList_store_row rfl 219 (.tmp 13) (.tmp 45) rfl w3.heap.size (zeroCells219.setIfInBounds 0 (.bool true)) rfl rfl 219 zeroCells219 hg2 zk zS zk ?_)
  clear hg2;refine HC1.o.mono ?_;rintro e w4 ⟨rfl,d⟩;have Q:=(d.eO (g:=w.heap.size+1) (t:=27) (arr:=#[.slice ya B'.length yc]) zS).cell (i:=0) rfl;have q1l:=(d.eO (g:=w.heap.size+1) (t:=27) (arr:=#[.slice ya B'.length yc]) zS).lt;have O:=(d.eO (g:=P) (t:=214) (arr:=#[.int .i64 pa,.int .i64 pb]) zS).cell (i:=1) rfl;have q3l:=(d.eO (g:=P) (t:=214) (arr:=#[.int .i64 pa,.int .i64 pb]) zS).lt;have HC3:=zh (HC2.o _ _ w4 d);clear HO3 HC1 HC2 d
  go_wp2_with fail
  refine HC3.o.mono ?_;rintro e w5 ⟨rfl,d⟩;clear HC3 Q q1l O q3l;generalize w3.heap.size=D at*
  obtain⟨PM,hPM⟩:∃PM:Nat->Prop,PM=fun b=>(b=0\/jv (AY A' pa) b)\/jv (AY B' pb) b:=⟨_,rfl⟩;rw[<-hPM]at d;have HPM:=zh hPM;have HO:=zh ((d.perm (List.Perm.refl _)).dL 104 3);clear hPM d;go_wp2;refine av [2,3,4,6,7,8,9,10,11,12,13,54] (fun n vs w'=>∃(c:Nat) (l':List (Int×Int)) (vl' ve:zV) (es:List Ed),c<=256/\n=256-c /\
   vs=[.func (.func fi) #[] #[],.pointer (some ⟨w.heap.size,0,none⟩),.pointer (some ⟨w.heap.size+1,0,none⟩),.pointer (some ⟨w.heap.size+2,0,none⟩),.pointer (some ⟨N+1,0,none⟩),.func (.func 234) #[] #[.pointer (some ⟨N+1,0,none⟩)],vo,.int .i64 k,.pointer (some ⟨P,0,none⟩),.pointer (some ⟨S,0,none⟩),.pointer (some ⟨D,0,none⟩),.int .i64 c] /\
   Own w m w' mk' [.row ve 104 3 es.length (dx es),.obj D 219 (kI PM 256),.obj S 80 #[.bool (f (bB A' pa) (bB B' pb)),ve],.obj P 214 #[.int .i64 pa,.int .i64 pb],.row vo 80 2 k xs,.row vl' 214 2 l'.length (ek l'),.obj (N+1) 215 #[vl'],.obj (w.heap.size+2) 27 #[.slice none 0 0],.obj (w.heap.size+1) 27 #[.slice ya B'.length yc],.obj w.heap.size 27 #[.slice xa A'.length Z]] /\
   mO A' B' (pa,pb) l' es c/\jI A' B' f (0,0) l' out/\l'[k]?=some (pa,pb)) ?_ ?_
  .exact⟨_,0,l,.slice (some ⟨vlb,0,none⟩) l.length vlc,.slice none 0 0,[],zo,rfl,rfl,HO.o,mO.start _ _ _ _,HP.o.1,HP.o.2.2⟩
  clear HO;rintro Y z2 n vs w6 hY-⟨c,l',vl',ve,es,hc,rfl,rfl,d,Y',K,W'⟩;simp[aX,lk];obtain⟨K',J',rfl⟩:=aT (d.kP (v:=vl') (t:=214) (size:=2) (n:=l'.length) (xs:=ek l') zS);obtain⟨o',n',rfl⟩:=aT d.row;have hpl2:=nN K.nodup K.ik;have hok:=Y'.ok zo;have hel:=hok.2;have HC:=zh (zi Y' (zi K (zi W' hok.1)));clear Y' W' hok K;by_cases V':c<256
  .have m1:=(d.eO (g:=D) (t:=219) (arr:=kI PM 256) zS).cell (iM V');have m2:=(d.eO (g:=D) (t:=219) (arr:=kI PM 256) zS).lt;obtain⟨bm,hbm⟩:∃b,tf (PM c)=b:=⟨_,rfl⟩;rw[hbm]at m1;have Hbm:=zh hbm;clear hbm
   go_upto_if 59 with(fail)
   refine aR [2,3,4,6,7,8,9,10,11,12,13,54,14] (fun vs w'=>∃(l2:List (Int×Int)) (E' ve2:zV) (fs:List Ed) (e:Ed),vs=[.func (.func fi) #[] #[],.pointer (some ⟨w.heap.size,0,none⟩),.pointer (some ⟨w.heap.size+1,0,none⟩),.pointer (some ⟨w.heap.size+2,0,none⟩),.pointer (some ⟨N+1,0,none⟩),.func (.func 234) #[] #[.pointer (some ⟨N+1,0,none⟩)],vo,.int .i64 k,.pointer (some ⟨P,0,none⟩),.pointer (some ⟨S,0,none⟩),.pointer (some ⟨D,0,none⟩),.int .i64 c,.int .i64 c] /\
    Own w m w' mk' [.row ve2 104 3 (fs.length+1) (dx (fs++[e])),.obj D 219 (kI PM 256),.obj S 80 #[.bool (f (bB A' pa) (bB B' pb)),ve2],.obj P 214 #[.int .i64 pa,.int .i64 pb],.row vo 80 2 k xs,.row E' 214 2 l2.length (ek l2),.obj (N+1) 215 #[E'],.obj (w.heap.size+2) 27 #[.slice none 0 0],.obj (w.heap.size+1) 27 #[.slice ya B'.length yc],.obj w.heap.size 27 #[.slice xa A'.length Z]] /\
    mO A' B' (pa,pb) l2 (fs++[⟨e.lo,c,e.to⟩]) (c+1)/\jI A' B' f (0,0) l2 out/\l2[k]?=some (pa,pb)) ?_ ?_
   .intro V hV
    cases bm with
    |false=>
     have hnm:¬PM c:=fun h=>by have:=Hbm.o;rw[aO h]at this;cases this
     have hun:0<c/\jU A' B' (pa,pb) c=jU A' B' (pa,pb) (c-1):=by
      rw[HPM.o]at hnm;have h0:0<c:=by
       apply zP;intro h;exact hnm (.inl (.inl zo))
      exact⟨h0,LC (p:=(pa,pb)) h0 hnm⟩
     have hes:∃fs e,es=fs++[e]/\e.hi+1=c:=by
      rcases HC.o.1.last with⟨h,-⟩|h
      .omega
      .exact h
     obtain⟨fs,e,rfl,he⟩:=hes;have hcw:=HC.o.1.widen he V' hun.2;have I:=zh (zi hcw d);clear hcw d hnm hun he;go_wp2;refine hV.o _ _ rfl ⟨l',.slice K' l'.length J',.slice o' (fs++[e]).length n',fs,e,rfl,?_,I.o.1,HC.o.2.1,HC.o.2.2.1⟩;have:=I.o.2
     exact qa5
    |true=>
     have hwu:IntKind.u8.wrap (c:Int)=(c:Int):=IntWalk.u8_in _ zo;have d:=d.dr;have HO:=zh d;go_wp2;have p':∀{w':zW} {L:List Cl.bF},Own w m w' mk' L->bF.obj w.heap.size 27 #[.slice xa A'.length Z]∈L->bF.obj (w.heap.size+1) 27 #[.slice ya B'.length yc]∈L->bF.obj P 214 #[.int .i64 pa,.int .i64 pb]∈L->bF.obj S 80 #[.bool (f (bB A' pa) (bB B' pb)),.slice o' es.length n']∈L ->
      (bH w' w.heap.size 27 #[.slice xa A'.length Z]/\bH w' (w.heap.size+1) 27 #[.slice ya B'.length yc]/\bH w' P 214 #[.int .i64 pa,.int .i64 pb]/\bH w' S 80 #[.bool (f (bB A' pa) (bB B' pb)),.slice o' es.length n']):=
      fun h h1 h2 h3 h4=>⟨h.eO h1,h.eO h2,h.eO h3,h.eO h4⟩
     refine jC (fun w'=>bH w' w.heap.size 27 #[.slice xa A'.length Z]/\bH w' (w.heap.size+1) 27 #[.slice ya B'.length yc]/\bH w' P 214 #[.int .i64 pa,.int .i64 pb]/\bH w' S 80 #[.bool (f (bB A' pa) (bB B' pb)),.slice o' es.length n']) 23 zk ?_;have M:=p' d zS zS zS zS;refine aI 0 rfl zk (fun _ _ _ h=>h) M (aB rfl fun w' a=>by have q:=a.1.cell (i:=0) rfl;have Q:=a.2.1.cell (i:=0) rfl;have q2:=a.2.2.1.cell (i:=0) rfl;have O:=a.2.2.1.cell (i:=1) rfl;have q4:=a.2.2.2.cell (i:=1) rfl;go_simp;rfl) ?_;refine aI 1 rfl zk (fun _ _ _ h=>h) M (aB rfl fun w' a=>by have q:=a.1.cell (i:=0) rfl;have Q:=a.2.1.cell (i:=0) rfl;have q2:=a.2.2.1.cell (i:=0) rfl;have O:=a.2.2.1.cell (i:=1) rfl;have q4:=a.2.2.2.cell (i:=1) rfl;go_simp;rfl) ?_;refine aI 2 rfl zk (fun _ _ _ h=>h) M (aB rfl fun w' a=>by have q:=a.1.cell (i:=0) rfl;have Q:=a.2.1.cell (i:=0) rfl;have q2:=a.2.2.1.cell (i:=0) rfl;have O:=a.2.2.1.cell (i:=1) rfl;have q4:=a.2.2.2.cell (i:=1) rfl;go_simp;rfl) ?_;refine aI 3 rfl zk (fun _ _ _ h=>h) M (aB rfl fun w' a=>by have q:=a.1.cell (i:=0) rfl;have Q:=a.2.1.cell (i:=0) rfl;have q2:=a.2.2.1.cell (i:=0) rfl;have O:=a.2.2.1.cell (i:=1) rfl;have q4:=a.2.2.2.cell (i:=1) rfl;go_simp;rfl) ?_;refine aI 4 rfl zk (fun _ _ _ h=>h) M (aB rfl fun w' a=>by have q:=a.1.cell (i:=0) rfl;have Q:=a.2.1.cell (i:=0) rfl;have q2:=a.2.2.1.cell (i:=0) rfl;have O:=a.2.2.1.cell (i:=1) rfl;have q4:=a.2.2.2.cell (i:=1) rfl;go_simp;rfl) ?_;refine aI 5 rfl zk (fun _ _ _ h=>h) M (aB rfl fun w' a=>by have q:=a.1.cell (i:=0) rfl;have Q:=a.2.1.cell (i:=0) rfl;have q2:=a.2.2.1.cell (i:=0) rfl;have O:=a.2.2.1.cell (i:=1) rfl;have q4:=a.2.2.2.cell (i:=1) rfl;go_simp;rfl) ?_;refine aI 6 rfl zk (fun _ _ _ h=>h) M (aB rfl fun w' a=>by have q:=a.1.cell (i:=0) rfl;have Q:=a.2.1.cell (i:=0) rfl;have q2:=a.2.2.1.cell (i:=0) rfl;have O:=a.2.2.1.cell (i:=1) rfl;have q4:=a.2.2.2.cell (i:=1) rfl;go_simp;rfl) ?_;refine aI 7 rfl zk (fun _ _ _ h=>h) M (aB rfl fun w' a=>by have q:=a.1.cell (i:=0) rfl;have Q:=a.2.1.cell (i:=0) rfl;have q2:=a.2.2.1.cell (i:=0) rfl;have O:=a.2.2.1.cell (i:=1) rfl;have q4:=a.2.2.2.cell (i:=1) rfl;go_simp;rfl) ?_;refine aI 8 rfl zk (fun _ _ _ h=>h) M (aB rfl fun w' a=>by have q:=a.1.cell (i:=0) rfl;have Q:=a.2.1.cell (i:=0) rfl;have q2:=a.2.2.1.cell (i:=0) rfl;have O:=a.2.2.1.cell (i:=1) rfl;have q4:=a.2.2.2.cell (i:=1) rfl;go_simp;rfl) ?_;refine aI 9 rfl zk (fun _ _ _ h=>h) M (aB rfl fun w' a=>by have q:=a.1.cell (i:=0) rfl;have Q:=a.2.1.cell (i:=0) rfl;have q2:=a.2.2.1.cell (i:=0) rfl;have O:=a.2.2.1.cell (i:=1) rfl;have q4:=a.2.2.2.cell (i:=1) rfl;go_simp;rfl) ?_;refine aI 11 rfl zk (fun _ _ _ h=>h) M (aB rfl fun w' a=>by have q:=a.1.cell (i:=0) rfl;have Q:=a.2.1.cell (i:=0) rfl;have q2:=a.2.2.1.cell (i:=0) rfl;have O:=a.2.2.1.cell (i:=1) rfl;have q4:=a.2.2.2.cell (i:=1) rfl;go_simp;rfl) ?_;refine aI 12 rfl zk (fun _ _ _ h=>h) M (aB rfl fun w' a=>by have q:=a.1.cell (i:=0) rfl;have Q:=a.2.1.cell (i:=0) rfl;have q2:=a.2.2.1.cell (i:=0) rfl;have O:=a.2.2.1.cell (i:=1) rfl;have q4:=a.2.2.2.cell (i:=1) rfl;go_simp;rfl) ?_;refine aI 13 rfl zk (fun _ _ _ h=>h) M (aB rfl fun w' a=>by have q:=a.1.cell (i:=0) rfl;have Q:=a.2.1.cell (i:=0) rfl;have q2:=a.2.2.1.cell (i:=0) rfl;have O:=a.2.2.1.cell (i:=1) rfl;have q4:=a.2.2.2.cell (i:=1) rfl;go_simp;rfl) ?_;refine aI 14 rfl zk (fun _ _ _ h=>h) M (aB rfl fun w' a=>by have q:=a.1.cell (i:=0) rfl;have Q:=a.2.1.cell (i:=0) rfl;have q2:=a.2.2.1.cell (i:=0) rfl;have O:=a.2.2.1.cell (i:=1) rfl;have q4:=a.2.2.2.cell (i:=1) rfl;go_simp;rfl) ?_;refine aI 15 rfl zk (fun _ _ _ h=>h) M (aB rfl fun w' a=>by have q:=a.1.cell (i:=0) rfl;have Q:=a.2.1.cell (i:=0) rfl;have q2:=a.2.2.1.cell (i:=0) rfl;have O:=a.2.2.1.cell (i:=1) rfl;have q4:=a.2.2.2.cell (i:=1) rfl;go_simp;rfl) ?_;refine aV 10 zk (aJ rfl rfl (dX qej (Nb (.slice xa A'.length Z) A' pa c mk _ (Mem_inn_le d' d.ay) k'.o.1 zo zo) ?_));rintro e w7 ⟨rfl,hb7⟩;have u:=d.aP hb7;refine⟨_,rfl,jb (p' u zS zS zS zS) fun _=>?_⟩;go_simp;refine aV 16 zk (aJ rfl rfl (dX qej (Nb (.slice ya B'.length yc) B' pb c mk _ (Mem_inn_le d' u.ay) k'.o.2 zo zo) ?_));rintro e w8 ⟨rfl,hb8⟩;have F:=u.aP hb8;refine⟨_,rfl,jb (p' F zS zS zS zS) fun _=>?_⟩;go_simp;have hrA:=fQ HG.o.1.wf pa c;have hrB:=fQ HG.o.2.1.wf pb c;have hps:jU A' B' (pa,pb) c=(bC A' pa c,bC B' pb c):=rfl;have hpr:(-1<=(jU A' B' (pa,pb) c).1/\(jU A' B' (pa,pb) c).1<=A'.length)/\(-1<=(jU A' B' (pa,pb) c).2/\(jU A' B' (pa,pb) c).2<=B'.length):=by
      rw[hps];simp only;omega
     have e':=HC.o.2.1.add hpr;have hpk:∀q∈l',F6 q:=fun q hq=>by
      have:=HC.o.2.1.ik q hq;exact⟨zo,zo,zo,zo⟩
     have hgt:=DZ l' (jU A' B' (pa,pb) c);have hpre:=DY l' (jU A' B' (pa,pb) c);have hcs:=(HC.o.1.mono hpre).YA (h:=c) (zI _) V' hgt (fun b h1 h2=>by rw[show b=c by omega]);have v':(fw l' (jU A' B' (pa,pb) c))[k]?=some (pa,pb):=by
      exact qcY
     have hpno:=xg l' (jU A' B' (pa,pb) c);refine aV 17 zk (aJ rfl rfl (aN qd0 (jb (p' F zS zS zS zS) fun _=>?_)));go_simp;have hq:=(F.AB (l₁:=[_,_,_,_,_,_])).AB (l₁:=[_,_,_,_,_,_]);refine aV 18 zk (aJ rfl rfl (dX qej (QK (N+1) (.slice K' l'.length J') l' (jU A' B' (pa,pb) c) w w8 m mk' _ hq ⟨zo,zo,zo,zo⟩ hpk zo) ?_));rintro e w9 ⟨E',rfl,hq2⟩;have G:=(hq2.Ao (l₁:=[_,_,_,_,_,_])).Ao (l₁:=[_,_,_,_,_,_]);simp only[xK,xN]at G;refine⟨_,rfl,jb (p' G zS zS zS zS) fun _=>?_⟩;generalize gL l' (jU A' B' (pa,pb) c)=t at*
     generalize fw l' (jU A' B' (pa,pb) c)=l2 at*
     clear hq hq2 F u hb7 hb8;go_simp;refine aV 19 zk (aJ rfl rfl (aN qd0 (jb (p' G zS zS zS zS) fun _=>?_)));go_simp;have W:=G.al #[.int .u8 c,.int .u8 0,.int .i64 t] 104;refine aV 20 zk (aJ rfl rfl (aN qd0 (jb (p' W zS zS zS zS) fun _=>?_)));go_simp;refine aV 21 zk (aJ rfl rfl (iG tq (.tmp 61) (.tmp 80) rfl (.slice o' es.length n') es.length (dx es) rfl W.au.row ⟨w9.heap.size,0,none⟩ 1 1 [.int .u8 c,.int .u8 0,.int .i64 t] rfl rfl (W.obj.cZ rfl) qdZ qdY zo (fun na' nc' w10 U J T=>?_)));have hO7:=(W.au.app U J T (zI _)).bL;refine jb (p' hO7 zS zS zS zS) fun hS3=>?_;go_simp;refine aV 22 zk (aJ rfl rfl (aN qd0 (jb hS3 fun _=>?_)));go_simp;have f3:=hS3.2.2.2.frozen 1;have c3:=hS3.2.2.2.cell (i:=1) rfl;have hO8:=((hO7.bA.set 1 (.slice na' (es.length+1) nc')).au).bA.au;refine aV 23 zk (aJ rfl rfl (cO zg (lD rfl ?_)));refine gG zk ?_ _;have I:=zh (zi hO8 hcs);clear hO8 hO7 W G d M hS3 f3 c3 U J T hcs;refine hV.o _ _ rfl ⟨l2,E',.slice na' (es.length+1) nc',es,⟨c,0,t⟩,rfl,?_,I.o.2,e',v'⟩;have:=I.o.1;simpa [iN]using this
   rintro z3 vs w7-⟨l2,E',ve2,fs,e,rfl,d,q',e',v'⟩;simp[aX,lk];obtain⟨vea2,vec2,rfl⟩:=aT d.row;obtain⟨eb,rfl⟩:=kH d.row zo;have hwu:IntKind.u8.wrap (c:Int)=(c:Int):=IntWalk.u8_in _ zo;have s1:=d.bA.obj.c 1;have s2:=d.bA.obj.lt;have y1:=bg d.row (kX (fs++[e]) fs.length zS).2.1;have y2:=dK d.row (fs.length*3+1);have y3:=(World.ownsRow.lt d.row _ rfl).2;have hlt5:fs.length<fs.length+1:=zo;have hfl:fs.length+1<=256:=by have:=(q'.ok (by have:=nN e'.nodup e'.ik;omega)).2;simpa using this
   have W:=d.setRow (fs.length*3+1) (.int .u8 c);rw[wK]at W;have I:=zh (zi W (zi q' (zi e' v')));clear W d q' e' v';go_wp2;refine hY.o _ _ _ zo rfl ⟨c+1,l2,E',.slice (some ⟨eb,0,none⟩) (fs.length+1) vec2,fs++[⟨e.lo,c,e.to⟩],zo,rfl,rfl,?_,I.o.2.1,I.o.2.2.1,I.o.2.2.2⟩;have:=I.o.1;exact qa5
  .obtain rfl:c=256:=zo;have hPIn:=HC.o.2.1.push (p:=(pa,pb)) (by rw[HP.o.2.1];exact HC.o.2.2.1) HC.o.1;have hes:=jq (l:=es) (m:=mk') d.row HC.o.2.2.2;have U':=Mem_le_addv (w:=w6) d.free;have O':=(P'.mono U').push (s:=⟨f (bB A' pa) (bB B' pb),es⟩) hes;have u:=d.bJ;have s0:=u.au.obj.c 0;have s1:=u.au.obj.c 1;have sl:=u.au.obj.lt;obtain⟨voa,voc,rfl⟩:=aT (u.kP (v:=vo) (t:=80) (size:=2) (n:=k) (xs:=xs) zS);have F:=u.al #[.bool (f (bB A' pa) (bB B' pb)),.slice o' es.length n'] 80;have G:=F.AB (l₁:=[_,_,_,_]);have hvr:=G.row;have T':=F.obj.cZ rfl;have Hk:=zh (zi O' (zi (Mem.le_trans d' U') hPIn));clear O' hes U' u d hPIn F;generalize mk'.iw w6 (.slice o' es.length n')=mk2 at*
   go_wp2_with (at_builtin;refine aG mU rfl (.tmp 94) (.tmp 96) rfl (.slice voa k voc) k xs rfl hvr ⟨w6.heap.size,0,none⟩ 1 1 [.bool (f (bB A' pa) (bB B' pb)),.slice o' es.length n'] rfl rfl T' qdZ qdY zo ?_)
   intro xa' xc' w7 U J T;have r':=(G.app U J T zS).bL.bL.bL.bL;have HO5:=zh r';clear U J T G r' hvr T';go_wp2;refine hX.o _ _ _ zo rfl ⟨k+1,l',out++[⟨f (bB A' pa) (bB B' pb),es⟩],.slice K' l'.length J',.slice xa' (k+1) xc',_,mk2,rfl,rfl,HO5.o,Hk.o.1,Hk.o.2.1,Hk.o.2.2,?_⟩;rw[zL,HP.o.2.1];rfl
 .have hkl2:k=l.length:=zo;have X':=K.done hff zo;obtain⟨voa,voc,rfl⟩:=aT d.row;have F':=gZ (l:=out) (m:=mk') (by rw[S'];exact d.row) P' d.free;have u:=d.bJ;have hml:m.le (mk'.iw wr (.slice voa k voc)):=Mem.le_trans d.ext.le (Mem_le_addv d.free);have HM:=zh (Ae (.slice voa k voc) out _ wr u.ay (L'.le hml) F' zo);have m':=zh u;have HD:=zh (zi X' S');clear u F' hml d X' S' hob K P' hkl2
  go_wp2_with fail
  refine HM.o.mono ?_;rintro e w2 ⟨r,C,rfl,hb2,F',hClen,hmin,hnot⟩;have hwf:=HD.o.1.1;rw[aO hwf];obtain⟨ra,rc,rfl⟩:∃ra rc,r=.slice ra C.length rc:=by obtain⟨x,y,e,-⟩:=F';exact⟨x,y,e⟩
  have F:=m'.o.call hb2;have G:=(F.AB (l₁:=[_,_])).al #[.slice ra C.length rc] 27;have g1:=G.au.obj.c 0;have g2:=G.au.obj.frozen 0;have g3:=G.au.obj.lt;have r':=G.au.set 0 (.slice ra C.length rc);have g4:=r'.obj.c 0;have hfin:=aW r'.done F';have Hk:=zh (zi r'.az (zi hfin (zi (hmin hwf) hClen)));clear r' G F hfin hmin hnot F' hClen m' hwf;go_wp2;refine yV (v:=.agg #[.slice ra C.length rc]) (by simp[results,results201,go_sem,g4]) rfl ?_;refine hR.o _ _ ⟨_,C,rfl,Hk.o.1,Hk.o.2.1,⟨Hk.o.2.2.1.canon,fun x=>?_⟩,?_⟩
  .rw[Hk.o.2.2.1.rC,HD.o.1.2.2.2.2,HG.o.2.2.1,HG.o.2.2.2]
  .have h1:=Hk.o.2.2.2;have h2:=HD.o.2;omega
theorem GH(l:aC):j3 (Sem l) (bX l):=by
 refine⟨jG l,fun x=>?_⟩;unfold bX Sem;by_cases h:dG l
 .simp[aO h]
 .exact qde
theorem S9(x:List UInt8):Sem [] x=false:=by rw[mH mM];exact gK x
theorem OJ(l:aC):∀s∈bX l,s.aH.length<=1000000:=fun s a=>by
 have:=Cy (jG l).wf (jG l).bytes s a;omega
structure Fits (A B:aC):Prop where
 mul:(A.length+2)*(B.length+2)<=1000000
 a:A.length<=1000000
 b:B.length<=1000000
theorem Fits.of{A B:aC}{x y:Nat}(b:A.length<=x)(a:B.length<=y)(h:(x+2)*(y+2)<=1000000):Fits A B:=by
 have e:(A.length+2)*(B.length+2)<=(x+2)*(y+2):=xV zo zo;have d:A.length+2<=(A.length+2)*(B.length+2):=Nat.le_mul_of_pos_right _ zo;have c:B.length+2<=(A.length+2)*(B.length+2):=Nat.le_mul_of_pos_left _ zo;exact⟨zo,zo,zo⟩
theorem zy(t D:zV)(A B:aC)(m:Mem)(w:zW)(W:m.ay w)(i:gD m)(M:aQ m t A)(L:aQ m D B)(n:Fits A B):
 zC 160 #[.agg #[t],.agg #[D]] w fun e w'=>∃r C,e=.returned (.agg #[r])/\zB w w'/\aQ (m.grow w w') r C /\
  j3 (fun x=>(Sem A x && !Sem B x)) C/\C.length<=(A.length+2)*(B.length+2)+1:=by
 have F:=(((Own.start W).al #[t] 27).al #[D] 27).al #[.slice none 0 0] 27;have s:(w.alloc (.cells #[t] 27)).heap.size=w.heap.size+1:=by simp
 have q:((w.alloc (.cells #[t] 27)).alloc (.cells #[D] 27)).heap.size=w.heap.size+2:=by simp
 rw[q,s]at F;have O:=zh (NF 202 (fun x y=>(x && !y)) Sw rfl (zh fun x y w=>by go_simp) t D A B m _ F.ay i M L n.mul n.a n.b);have z:=zh (qm t A m _ F.ay i M n.a);have K:=zh (qm D B m _ F.ay i L n.b);have Q:=zh (fun l r mk w (h:mk.ay w) (E:l.length<=1000000) (hst:aQ mk r (bX l))=>R3 r (bX l) mk w h hst (by have:=jY l;omega) (OJ l));have G:=zh F;have Z:=n.mul;have b':=n.a;have a':=n.b;have Y:=jY A;have X:=jY B;have V:A.length+2<=(A.length+2)*(B.length+2):=Nat.le_mul_of_pos_right _ zo;have U:B.length+2<=(A.length+2)*(B.length+2):=Nat.le_mul_of_pos_left _ zo;obtain⟨va,vc,rfl,a1,a2,a3⟩:=M;obtain⟨vb,vd,rfl,b1,b2,b3⟩:=L;unfold maxLen at a2 b2;clear F s q a3 b3 n;refine aj fun R hR=>?_;by_cases k:A.length=0
 .have E:j3 (fun x=>(Sem A x && !Sem B x)) []:=Xx.congr fun x=>by
   rw[yM k,S9];rfl
  have N:=zh E;have H:((A.length:Int)==0)=true:=by simp[k]
  have S:=G.o.obj.c 0;clear E k
  go_enter func160,ntmps160
  go_wp2;refine yV (v:=.agg #[.slice none 0 0]) (by simp[results,results160,go_sem]) rfl ?_;exact hR.o _ _ ⟨_,[],rfl,G.o.az,jd _,N.o,zS⟩
 .have H:((A.length:Int)==0)=false:=zO.2 zo;by_cases p:B.length=0
  .have E:j3 (fun x=>(Sem A x && !Sem B x)) (bX A):=(GH A).congr fun x=>by
    rw[yM p,S9];cases Sem A x<;>rfl
   have N:=zh E;have u:((B.length:Int)==0)=true:=by simp[p]
   clear E k p
   go_enter func160,ntmps160
   go_wp2_with fail
   refine z.o.mono ?_;rintro e T ⟨r,rfl,j,hst⟩;have d:=G.o.call j;obtain⟨g,f,rfl⟩:∃g f,r=.slice g (bX A).length f:=by obtain⟨x,y,e,-⟩:=hst;exact⟨x,y,e⟩
   have P:=zh (Q.o A _ _ _ d.ay zo hst);have J:=zh d;clear d Q z K G j hst
   go_wp2_with fail
   refine P.o.mono ?_;rintro e w2 ⟨r,rfl,I,hst⟩;have d:=J.o.call I;obtain⟨g,f,rfl⟩:∃g f,r=.slice g (bX A).length f:=by obtain⟨x,y,e,-⟩:=hst;exact⟨x,y,e⟩
   have S:=d.obj.c 0;have g2:=d.obj.frozen 0;have g3:=d.obj.lt;have hO2:=d.set 0 (.slice g (bX A).length f);have g4:=hO2.obj.c 0;have Hk:=zh (zi hO2.az (aW hO2.done hst));clear hO2 d hst O J I;go_wp2;refine yV (v:=.agg #[.slice g (bX A).length f]) qeZ rfl ?_;exact hR.o _ _ ⟨_,bX A,rfl,Hk.o.1,Hk.o.2,N.o,zo⟩
  .have u:((B.length:Int)==0)=false:=zO.2 zo;clear k p Q z K
   go_enter func160,ntmps160
   go_wp2_with fail
   refine O.o.mono ?_;rintro e T ⟨r,C,rfl,j,hst,hlang,hClen⟩;have d:=G.o.call j;obtain⟨g,f,rfl⟩:∃g f,r=.slice g C.length f:=by obtain⟨x,y,e,-⟩:=hst;exact⟨x,y,e⟩
   have S:=d.obj.c 0;have g2:=d.obj.frozen 0;have g3:=d.obj.lt;have hO2:=d.set 0 (.slice g C.length f);have g4:=hO2.obj.c 0;have Hk:=zh qfL;clear hO2 d hst hlang hClen O G j;go_wp2;refine yV (v:=.agg #[.slice g C.length f]) qeZ rfl ?_;exact qdq
theorem Fa:j3 (fun _=>true) allT:=by
 have l:∀w,aK allT 0 w=true:=by
  intro w
  induction w with
  |nil=>rfl
  |cons b w ih=>
   have o:=b.toNat_lt;have:bC allT 0 b.toNat=0:=by
    show bv [(⟨0,255,0⟩:Ed)] b.toNat=0;simp only[bv];rw[zK ⟨zG _,zo⟩]
   simp only[aK,this,ih]
 have ht:∀(k b t:Nat),bC allT k b=t->t=0:=by
  intro k b t h;by_cases d:k<1
  .obtain rfl:k=0:=zo;have c:bv [(⟨0,255,0⟩:Ed)] b=t:=h;simp only[bv]at c
   split at c<;>omega
  .rw[fB allT k b (by simp[allT];omega)]at h;omega
 refine⟨⟨?_,?_,?_,?_,?_,?_,?_⟩,l⟩
 .intro s a;simp only[allT,zZ]at a;subst a;exact⟨zG _,zS,by simp[allT],zS,trivial⟩
 .intro s a e f;simp only[allT,zZ]at a;subst a;simp only[zZ]at f;subst f;exact⟨zS,zS⟩
 .intro s a;simp only[allT,zZ]at a;subst a;trivial
 .intro k d;obtain rfl:k=0:=by simp[allT]at d;exact d
  exact⟨[],l []⟩
 .intro i j hi m _;simp[allT]at hi m;omega
 .intro k b t _ h n c g;have:=ht k b t h;omega
 .intro t c g;simp[allT]at g;omega
theorem Yo(x:List UInt8):Sem allT x=true:=Fa.sem x
theorem QB(m:Mem)(w:zW):
 zC 61 #[] w fun e w'=>∃r,e=.returned (.agg #[r])/\zB w w'/\aQ (m.grow w w') r allT:=by
 refine(QA w).mono ?_;rintro e w' ⟨l,k,rfl,p,c,h,s,b,d⟩;have a:∀{g t arr i v},w.heap.size<=g->bH w' g t arr->arr[i]?=some v->(m.grow w w').cell g i=some v:=by
  intro g t arr i v q o n;unfold Mem.cell Mem.grow;rw[zJ zo,o.get];exact n
 refine⟨_,rfl,p,some ⟨k,0,none⟩,1,rfl,zI _,by simp[maxLen],fun _=>⟨k,0,rfl,fun i hi=>?_⟩⟩;obtain rfl:i=0:=by simp[allT]at hi;exact hi
 refine⟨a h d rfl,_,a h d rfl,some ⟨l,0,none⟩,1,rfl,zI _,by simp[maxLen],fun _=>⟨l,0,rfl,fun j f=>?_⟩⟩;obtain rfl:j=0:=by simp[allT]at f;exact f
 exact⟨a c b rfl,a c b rfl,a c b rfl,by simp[allT],by simp[allT],by simp[allT],by simp[allT]⟩
attribute [local go_sem] Oper.semAt_some
def fo(x:List UInt8):ByteArray:=⟨x.toArray⟩
theorem P8:gz prog 143 9 1 16:=⟨underlying143,zo,by
 obtain⟨i,d,c,b,a⟩:=info_parts (P:=prog) (e:=9) (z:=.string ⟨#[]⟩) (size:=1) (bytes:=16) zk;exact⟨i,_,d,c,b,a,rfl⟩⟩
theorem kK{w:zW}{t:TypeId}{v:zV}{l:List ByteArray}{m:Mem}(a:w.ownsRow 0 t 1 v l.length (l.map Value.string))(b:∀x∈l,x.size<=maxLen):Au (m.iw w v) v l:=
 lK a fun g c i h=>⟨iK a c m qeR,b _ (zF h)⟩
theorem Wy(v:zV)(w:zW):zC 184 #[.agg #[v]] w fun e w'=>e=.returned (.func (.func 216) #[] #[.pointer (some ⟨w.heap.size,0,none⟩)])/\w'=w.alloc (.cells #[v] 27):=by
 refine aj fun R hR=>?_
 go_enter func184,ntmps184
 exact qdv
theorem Jh:∀args w,(callFunc 216 args).run prog w=.ok (.enter 216 args) w:=enters_of func216 zk rfl
def gN(n:Int):Nat:=(min n 1000).toNat
theorem TI{n:Int}(h:1<=n):1<=gN n/\((gN n:Nat):Int)=min n 1000/\gN n<=1000:=by unfold gN;omega
theorem Rt(f:List UInt8->Bool):iV f 0 []:=⟨.nil,fun x a=>by simp at a,zS,fun y _ _=>⟨rfl,fun x a=>by simp at a⟩⟩
theorem BX{T:aC}{K:Nat}{xs:List (List UInt8)}(h:(∃n,xs=kC T 0 n/\(∀y,aK T 0 y=true->y.length<n)/\xs.length<K)\/(∃n,xs <+: kC T 0 n/\xs.length=K)):iV (aK T 0) K xs:=by
 rcases h with⟨n,rfl,a,b⟩|⟨n,a,b⟩
 .have:=uq (l:=T) (s:=0) (L:=n) (k:=K) (.inr a)
  rwa [xH zo]at this
 .have c:xs=(kC T 0 n).take K:=by
   rw[<-b];exact List.prefix_iff_eq_take.1 a
  have:=uq (l:=T) (s:=0) (L:=n) (k:=K) (.inl (by rw[<-b];exact a.length_le))
  rwa [<-c]at this
theorem GR{T:aC}{K:Nat}{xs:List (List UInt8)}(h:iV (aK T 0) K xs)(b:(K+1)*(T.length+1)<=1000000):∀z∈xs,z.length<=1000000:=by
 intro z a;rw[Me h (GU (l:=T) (s:=0) (k:=K) (L:=K*T.length) (zI _))]at a;have c:=((lM T 0 _ z).1 (xX a)).1;have:K*T.length<=(K+1)*(T.length+1):=xV zo zo;omega
theorem yj{F:Fence}{d:Nat}{P:Program}{t e:TypeId}{size bytes:Nat}(S:gz P t e size bytes){w:zW}{ops:Array Oper}{rest:List Oper}{o:Oper}{a:Act}{Q:Exit->Act->World->Prop}(hgd:o.guard=none)(s x:Operand)
(ho:o.op=.call { callee:=.builtin .append,args:=#[s,x],argTypes:=#[t,t] })
(v:zV)(n:Nat)(xs:List Value)(hs:a.eval s=v)(hown:w.ownsRow 0 e size v n xs)
(ad:Addr)(m c:Nat)(cZ:List Value)(hx:a.eval x=.slice (some ad) m c)(hl:cZ.length=m*size)(hnews:∀j u,cZ[j]?=some u->w.cell? (ad.add j)=some u)(h1:∀u∈cZ,u.oneCell'=true)
(h63:n+m<=maxLen)(hbytes:(n+m)*bytes<=140737488355328)
(h:∀va vc w',w'.ownsRow 0 e size (.slice va (n+m) vc) (n+m) (xs++cZ)->w.grownBy w' v.ownBlock->(∀k,(Value.slice va (n+m) vc).ownBlock=some k->v.ownBlock=some k\/w.heap.size<=k)->wpListIn F d P ops Q rest (a.put o.dst (.slice va (n+m) vc)) w'):wpListIn F d P ops Q (o::rest) a w:=by
 refine wpListIn_plain hgd fun K hK=>?_;obtain⟨v',w',hr,h2,h3,h4⟩:=kU S w o.type v n xs hown ad m c cZ hl hnews h1 h63 hbytes;obtain⟨va,vc,rfl⟩:=aT h2;refine⟨?_,?_⟩
 .simp[Oper.about,ho,resolve,Target.leads,Sem.run_pure]
 .exact qbq
def TT(x:List UInt8):Value:=.string ⟨x.toArray⟩
theorem Je(v0:zV)(A:aC)(n:Int)(m:Mem)(w:zW)(hm:m.ay w)(htab:gD m)(hA:aQ m v0 A)(hn1 : -9223372036854775808<=n)(hn2:n<=9223372036854775807)(hlen:(gN n+1)*(A.length+1)<=1000000):
 zC 140 #[.agg #[v0],.int .i64 n] w fun e w'=>∃r ws,e=.returned r/\zB w w'/\Au (m.grow w w') r (ws.map fo)/\iV (Sem A) (gN n) ws:=by
 have hlA:A.length<=1000000:=by
  have:A.length+1<=(gN n+1)*(A.length+1):=Nat.le_mul_of_pos_left _ zo;omega
 have hO:=(((Own.start hm).al #[v0] 27).al #[.int .i64 n] 3).al #[.slice none 0 0] 143;have hsz1:(w.alloc (.cells #[v0] 27)).heap.size=w.heap.size+1:=by simp
 have hsz2:((w.alloc (.cells #[v0] 27)).alloc (.cells #[.int .i64 n] 3)).heap.size=w.heap.size+1+1:=by simp
 rw[hsz2,hsz1]at hO;have HG:=zh (qm v0 A m _ hO.ay htab hA hlA);have HO:=zh hO;obtain⟨va,vc,rfl,-⟩:=hA;clear hO hsz1 hsz2;refine aj fun R hR=>?_;by_cases hn:n<1
 .have hk0:gN n=0:=by unfold gN;omega
  have Hk0:=zh hk0;have hdec:decide (n<1)=true:=zN hn;clear hk0
  go_enter func140,ntmps140
  go_wp2;refine hR.o _ _ ⟨_,[],rfl,HO.o.az,⟨none,0,rfl,zI _,by simp[maxLen],fun h=>absurd rfl h⟩,?_⟩;rw[Hk0.o];exact Rt _
 .have hdec:decide (n<1)=false:=zM hn;refine(callsIn_wide (n:=0)).1 ?_;refine callsIn_of_wp_marks func140 rfl trivial ?_;simp only[ntmps140,List.size_toArray,yO,List.length_nil,Nat.reduceAdd,Nat.reduceSub,Array.replicate_succ,Array.replicate_zero,List.push_toArray,List.append_toArray,xN,xK];refine wpIn_wide.2 ?_
  go_wp2_with fail
  refine HG.o.mono ?_;rintro e w1 ⟨r,rfl,hb1,hst⟩;have hO1:=HO.o.call hb1;obtain⟨ra,rc,rfl⟩:∃ra rc,r=.slice ra (bX A).length rc:=by obtain⟨x,y,e,-⟩:=hst;exact⟨x,y,e⟩
  have HO1:=zh (zi hO1 hst);clear HO HG hb1 hst hO1
  go_wp2_with fail
  refine(Wy (.slice ra (bX A).length rc) w1).mono ?_;rintro e w2 ⟨rfl,rfl⟩;have hO2:=HO1.o.1.al #[.slice ra (bX A).length rc] 27;have hst:=HO1.o.2;obtain⟨m1,hO3,l1,c1⟩:=hO2.JI;obtain⟨m2,hO4,l2,c2⟩:=hO3.au.JI;have hO5:=hO4.au.tail.dL 9 1;have hO6:=hO5;have hst2:=aW (Mem.le_trans l1 l2) hst;have c1':=Mem_cell_le l2 c1;have HS:=zh (zi hO5 (zi hst2 (zi c1' c2)));clear hO2 hst hO3 hO4 hO5 hO6 hst2 c1 c2 c1' l1 l2 HO1 m1;have hwp:=TI (n:=n) zo;have hgl:=jY A;have hgis:=GH A;have hmul:(gN n+1)*((bX A).length+1)<=1000000:=yJ (Nat.mul_le_mul_left _ zo) hlen;have HW:=zh (zi hwp (zi hgis hmul));have hw1:=hwp.1;have hw3:=hwp.2.2;clear hwp hgis hmul hgl;go_wp2;refine(wpIn_wide (n:=0)).1 ?_;refine KM (gf:=216) (lb:=#[.pointer (some ⟨w1.heap.size,0,none⟩)]) rfl Jh (encs:=fun x:List UInt8=>#[Value.string ⟨x.toArray⟩]) (fun _=>rfl) HS.o.1
   (fun pre L=>(∃v,L=[.row v 9 1 pre.length (pre.map TT),.obj (w.heap.size+1+1) 143 #[v]])/\pre.length<gN n)
   (fun c pre L=>c=.exit 0/\(∃v,L=[.row v 9 1 pre.length (pre.map TT),.obj (w.heap.size+1+1) 143 #[v]])/\pre.length=gN n)
   (fun xs=>∃n,xs=kC (bX A) 0 n/\∀y,aK (bX A) 0 y=true->y.length<n) (fun xs=>∃n,xs <+: kC (bX A) 0 n/\xs≠[]) ⟨⟨_,rfl⟩,by simp;omega⟩ ?seq
   (fun x=>{ tmps:=#[.agg #[.slice va A.length vc],.int .i64 n,.pointer (some ⟨w.heap.size,0,none⟩),.pointer (some ⟨w.heap.size+1,0,none⟩),.slice none 0 0,.pointer (some ⟨w.heap.size+1+1,0,none⟩),.string ⟨x.toArray⟩,.int .i64 n,.bool false,undef,.agg #[.slice va A.length vc],.agg #[.slice ra (bX A).length rc],.func (.func 216) #[] #[.pointer (some ⟨w1.heap.size,0,none⟩)],.string ⟨x.toArray⟩,undef,undef,undef,undef,undef,undef,undef,undef,undef,undef],defers:=[] }) ?assign ?body ?done ?stop
  case seq=>
   intro l W1 L1 B Bx hB hBI hOw hY;exact PR HW.o.2.1.canon (gN n) HW.o.2.2 hY HS.o.2.2.1 HS.o.2.1 (fun pre Lt h=>(hBI pre Lt h).elim fun L hL=>hL.2) hB hOw
  case assign=>
   intro l x W K hK
   gi_wp2
   exact hK
  case body=>
   rintro l pre x W mk1 Lt Lr ⟨⟨v,rfl⟩,hlt⟩ hOw hle;simp only[xK,xN]at hOw;obtain⟨xa,xc,rfl⟩:=aT hOw.row;have o1:=hOw.au.obj.c 0;have o2:=hOw.au.obj.lt;have o3:=hOw.au.obj.frozen 0;have n1:=Mem_cell_w hOw.ay qft;have n2:=Mem_cell_lt hOw.ay qft;have hO2:=hOw.al #[.string ⟨x.toArray⟩] 9;have hnews:=hO2.obj.cZ rfl;have Hlt:=zh hlt;clear hOw
   gi_wp2_with (gi_at_builtin;refine yj P8 rfl (.tmp 14) (.tmp 16) rfl (.slice xa pre.length xc) pre.length (pre.map TT) rfl hO2.au.row ⟨W.heap.size,0,none⟩ 1 1 [.string ⟨x.toArray⟩] rfl rfl hnews qdZ qdY zo ?_)
   intro ya yc w5 hown5 hgrow5 hrow5;have hO3:=(hO2.au.app hown5 hgrow5 hrow5 zS).bL;have o1:=hO3.au.obj.c 0;have o2:=hO3.au.obj.lt;have o3:=hO3.au.obj.frozen 0;have n1:=Mem_cell_w hO3.ay qft;have n2:=Mem_cell_lt hO3.ay qft;have hO4:=(hO3.au.set 0 (.slice ya (pre.length+1) yc)).au;have HO4:=zh hO4;clear hO4 hO3 hO2 hown5 hgrow5 hrow5 hnews;have Hend:=zh (show ∀xs,xs=pre++[x]->([bF.row (.slice ya (pre.length+1) yc) 9 1 (pre.length+1) (pre.map TT++[.string ⟨x.toArray⟩]),bF.obj (w.heap.size+1+1) 143 #[.slice ya (pre.length+1) yc]]:List bF)=[bF.row (.slice ya (pre.length+1) yc) 9 1 xs.length (xs.map TT),bF.obj (w.heap.size+1+1) 143 #[.slice ya (pre.length+1) yc]] from fun xs h=>by
    subst h;simp[TT])
   have hne:w.heap.size+1≠w.heap.size+1+1:=zo
   gi_wp2
   all_goals unfold Ct
   all_goals dsimp only
   all_goals first
    | (have ht:((pre.length:Int)+1==min n 1000)=true:=zA
       refine⟨mk1,_,⟨rfl,⟨_,Hend.o _ rfl⟩,?_⟩,HO4.o,Mem.le_refl _⟩;have h1:=HW.o.1.2.1;have h2:=beq_iff_eq.1 ht;simp only[zL,yO,List.length_nil]
       omega)
    | (have ht:((pre.length:Int)+1==min n 1000)=false:=zA
       refine⟨mk1,_,⟨⟨_,Hend.o _ rfl⟩,?_⟩,HO4.o,Mem.le_refl _⟩;have h1:=HW.o.1.2.1;have h2:=zO.1 ht;have h3:=Hlt.o;simp only[zL,yO,List.length_nil];omega)
  case done=>
   rintro D xs W mk1 L ⟨nn,hxs,hfin⟩ ⟨⟨v,rfl⟩,hlt⟩ hOw hle;obtain⟨xa,xc,rfl⟩:=aT hOw.au.row;have o1:=hOw.bA.obj.c 0;have o2:=hOw.bA.obj.lt;have hfirst:=BX (.inl ⟨nn,hxs,hfin,hlt⟩);have hres:iV (Sem A) (gN n) xs:=hfirst.congr fun y=>HW.o.2.1.rC y;have hsz:∀z∈xs,(fo z).size<=maxLen:=fun z hz=>by
    exact qdo
   clear hxs hfin hlt hfirst;have hbl:=hOw.gQ;have hO2:=hOw.au;have hst:=kK (l:=xs.map fo) (m:=mk1) (t:=9) (v:=.slice xa xs.length xc) (w:=W) (by
    rw[xC,vE];exact hO2.row) (fun y hy=>by
    obtain⟨z,hz,rfl⟩:=yD.1 hy;exact hsz z hz)
   rw[show(Mem.iw mk1 W (.slice xa xs.length xc))=Mem.iw mk1 W (.slice xa xs.length xc) from rfl]at hst;have hO3:=hO2.bJ;have hO4:=hO3.jP (o':=.deferred none) (World.putObj_heap_same (yC.1 hbl).1) (grownBy_putObj' _ _ _);have hfin2:=pJ hO4.done hst;have Hk:=zh (zi hO4.az (zi hfin2 hres));clear hO4 hO3 hO2 hOw hst hfin2
   gi_wp2
   exact qa7
  case stop=>
   rintro D c xs W mk1 L ⟨nn,hpre,hne⟩ ⟨rfl,⟨v,rfl⟩,hlt⟩ hOw hle;obtain⟨xa,xc,rfl⟩:=aT hOw.au.row;have o1:=hOw.bA.obj.c 0;have o2:=hOw.bA.obj.lt;have hfirst:=BX (.inr ⟨nn,hpre,hlt⟩);have hres:iV (Sem A) (gN n) xs:=hfirst.congr fun y=>HW.o.2.1.rC y;have hsz:∀z∈xs,(fo z).size<=maxLen:=fun z hz=>by
    exact qdo
   clear hpre hne hlt hfirst;have hbl:=hOw.gQ;have hO2:=hOw.au;have hst:=kK (l:=xs.map fo) (m:=mk1) (t:=9) (v:=.slice xa xs.length xc) (w:=W) (by
    rw[xC,vE];exact hO2.row) (fun y hy=>by
    obtain⟨z,hz,rfl⟩:=yD.1 hy;exact hsz z hz)
   rw[show(Mem.iw mk1 W (.slice xa xs.length xc))=Mem.iw mk1 W (.slice xa xs.length xc) from rfl]at hst;have hO3:=hO2.bJ;have hO4:=hO3.jP (o':=.deferred none) (World.putObj_heap_same (yC.1 hbl).1) (grownBy_putObj' _ _ _);have hfin2:=pJ hO4.done hst;have Hk:=zh (zi hO4.az (zi hfin2 hres));clear hO4 hO3 hO2 hOw hst hfin2
   gi_wp2
   exact qa7
def Su(f:List UInt8->Bool):Option (List UInt8)->Prop
 |some x=>f x=true/\∀y,f y=true->y=x
 |none=>¬∃x,f x=true/\∀y,f y=true->y=x
theorem Su.congr{f g:List UInt8->Bool}{a:Option (List UInt8)}(h:Su f a)(e:∀w,f w=g w):Su g a:=by
 exact qdg
def QH(o:Option (List UInt8)):Value:=.tuple #[.string (match o with|some x=>fo x|none=>⟨#[]⟩),.bool o.isSome]
theorem rA(h:zV)(A:aC)(m:Mem)(w:zW)(D:m.ay w)(f:gD m)(E:aQ m h A)(q:A.length<=400000):
 zC 94 #[.agg #[h]] w fun e w'=>∃o,e=.returned (QH o)/\zB w w'/\ji (Sem A) o:=by
 have k:=(Own.start D).al #[h] 27;have l:=zh (Je h A 1 m _ k.ay f E zo zo qe6);have n:=zh k;clear k;refine aj fun R hR=>?_
 go_enter func94,ntmps94
 go_wp2_with fail
 refine l.o.mono ?_;rintro e G ⟨r,d,rfl,c,g,a⟩;have b:=n.o.call c;have j:=D9 a
 cases d with
 |nil=>
  obtain⟨v,u,rfl,B,y,i⟩:=g;have Hk:=zh (zi b.az j);clear b j a l n c i;go_wp2
  exact qcP
 |cons x d=>
  obtain⟨v,u,rfl,B,y,i⟩:=g;obtain⟨I,H,rfl,p⟩:=i zS;have z:=(p 0 zS).1;rw[Nat.add_zero]at z;have t:=Mem_cell_w b.ay z;have F:=Mem_cell_lt b.ay z;simp only[yL,xL]at t;have C:0<(List.map fo (x::d)).length:=by simp
  have s:(((List.map fo (x::d)).length:Int)==0)=false:=zO.2 zo;have Hk:=zh (zi b.az j);clear b j a l n c i p z;generalize (List.map fo (x::d)).length=N at*
  go_wp2;exact hR.o _ _ ⟨some x,rfl,Hk.o.1,Hk.o.2⟩
theorem Ir:∀x y:List UInt8,x.length=y.length->(Op.bytesLess x y=true↔lex x y)
 |[],[],_=>by simp[Op.bytesLess,lex]
 |[],_::_,h=>by simp at h
 |_::_,[],h=>by simp at h
 |a::x,b::y,h=>by
  have c:=Ir x y qeo;simp[Op.bytesLess,lex,c]
def uB(x y:List UInt8):Int:=if Op.bytesLess x y then -1 else if x=y then 0 else 1
theorem U4(s:ByteArray)(w:zW):zC 166 #[.string s] w fun e w'=>e=.returned (.bool false)/\w'=w:=by
 refine aj fun R hR=>?_
 go_enter func166,ntmps166
 exact qdv
theorem Hu(s t:ByteArray)(w:zW):zC 120 #[.string s,.string t] w fun e w'=>e=.returned (.int .i64 (uB s.data.toList t.data.toList))/\w'=w:=by
 rw[<-xE s,<-xE t];refine aj fun R b=>?_
 go_enter func120,ntmps120
 go_wp2_with ((go_at_call 166);refine(U4 _ _).mono ?_;rintro e w' ⟨rfl,rfl⟩)
 .have h:Op.bytesLess s.toList t.toList=true:=zA;exact b.o _ _ ⟨by simp[uB,h],rfl⟩
 .have h:Op.bytesLess s.toList t.toList=false:=zA;have a:(!s.toList==t.toList)=true:=zA;have a:¬s.toList=t.toList:=by simpa using a
  exact b.o _ _ ⟨by simp[uB,h,a],rfl⟩
 .have h:Op.bytesLess s.toList t.toList=false:=zA;have a:(!s.toList==t.toList)=false:=zA;have a:s.toList=t.toList:=by simpa using a
  exact b.o _ _ ⟨by rw[a]at h⊢;simp[uB,h],rfl⟩
def bzP:Option (List UInt8)->Option (List UInt8)->Int
 |none,none=>0
 |some _,none => -1
 |none,some _=>1
 |some x,some y=>if Lib.compareInt x.length y.length=0 then uB x y else Lib.compareInt x.length y.length
theorem ZE{f g:List UInt8->Bool}{a b:Option (List UInt8)}(h:ji (fun w=>f w && !g w) a)(k:ji (fun w=>g w && !f w) b):fC f g (bzP a b):=by
 have q:=Cf h k
 cases a with
 |none=>
  cases b with
  |none=>exact q
  |some y=>exact q
 |some x=>
  cases b with
  |none=>exact q
  |some y=>
   obtain⟨e,m,l⟩:=q;show fC f g (if Lib.compareInt x.length y.length=0 then uB x y else Lib.compareInt x.length y.length);have n:Lib.compareInt x.length y.length=if x.length<y.length then -1 else if x.length > y.length then 1 else 0:=by
    unfold Lib.compareInt;by_cases d:x.length<y.length
    .rw[zK zo,zK d]
    .rw[zJ zo,zJ d];by_cases c:x.length > y.length
     .rw[zK zo,zK c]
     .rw[zJ zo,zJ c]
   rw[n];by_cases d:x.length<y.length
   .rw[zK d,zJ zo];exact m (.inl d)
   .rw[zJ d];by_cases c:x.length > y.length
    .rw[zK c,zJ zo];exact l (.inl c)
    .rw[zJ c,zK rfl];have j:x.length=y.length:=zo;unfold uB;by_cases i:Op.bytesLess x y=true
     .rw[zK i];exact m (.inr ⟨j,(Ir x y j).1 i⟩)
     .rw[zJ i,zJ e];rcases pM x y with t|t|t
      .rcases t with t|⟨-,t⟩
       .omega
       .exact absurd ((Ir x y j).2 t) i
      .exact absurd t e
      .exact l t
theorem azO(g:Nat)(t:TypeId)(x y:Int)(w:zW)(h:bH w g t #[.int .i64 x,.int .i64 y]):
 zC 161 #[.slice (some ⟨g,0,none⟩) 2 2] w fun e w'=>e=.returned (.int .i64 (if x=0 then y else x))/\w'=w:=by
 have s:=h.cell (i:=0) rfl;have r:=h.cell (i:=1) rfl;have q:=h.lt;refine aj fun R f=>?_
 go_enter func161,ntmps161
 go_wp2;refine av [3,6,7,8] (fun n l j=>∃k:Nat,k<=2/\n=2-k/\l=[.int .i64 0,.slice (some ⟨g,0,none⟩) 2 2,.int .i64 2,.int .i64 k]/\j=w/\(1<=k->x=0)/\(2<=k->y=0)) ?_ ?_
 .exact⟨_,0,zo,rfl,rfl,rfl,zo,zo⟩
 rintro X z n l j p-⟨k,m,rfl,rfl,rfl,a,c⟩;simp[aX,lk];have m:k=0\/k=1\/k=2:=zo;rcases m with rfl|rfl|rfl
 .clear a c;by_cases e:x=0
  .have d:(x != 0)=false:=by simp[e]
   have E:=zh e;clear e;go_wp2;refine p.o _ _ _ zo rfl ⟨1,zo,rfl,rfl,rfl,fun _=>E.o,zo⟩
  .have d:(x != 0)=true:=by simp[e]
   have E:=zh e;clear e;go_wp2;exact f.o _ _ ⟨by rw[zJ E.o];rfl,rfl⟩
 .have b:=zh (a zo);clear a c;by_cases e:y=0
  .have d:(y != 0)=false:=by simp[e]
   have E:=zh e;clear e;go_wp2;refine p.o _ _ _ zo rfl ⟨2,zo,rfl,rfl,rfl,fun _=>b.o,fun _=>E.o⟩
  .have d:(y != 0)=true:=by simp[e]
   have E:=zh e;clear e;go_wp2;exact f.o _ _ ⟨by rw[zK b.o];rfl,rfl⟩
 .have b:=zh (zi (a zo) (c zo));clear a c;go_wp2;exact f.o _ _ ⟨by rw[zK b.o.1,b.o.2];rfl,rfl⟩
theorem Kg(A:aC)(x:List UInt8):Sem (bX A) x=Sem A x:=by
 rw[mH (jG A)];exact(GH A).2 x
theorem pQ:QH none=.tuple #[.string ⟨#[]⟩,.bool false]:=rfl
theorem pO(x:List UInt8):QH (some x)=.tuple #[.string (fo x),.bool true]:=rfl
theorem uL(U v1:zV)(A B:aC)(m:Mem)(w:zW)(hm:m.ay w)(g:gD m)(hA:aQ m U A)(hB:aQ m v1 B)(Z:(A.length+2)*(B.length+2)<=300000):
 zC 108 #[.agg #[U],.agg #[v1]] w fun e w'=>∃c,e=.returned (.int .i64 c)/\zB w w'/\fC (Sem A) (Sem B) c:=by
 have hF:=Fits.of (A:=A) (B:=B) (zI _) (zI _) zo;have n:=((Own.start hm).al #[U] 27).al #[v1] 27;have F:(w.alloc (.cells #[U] 27)).heap.size=w.heap.size+1:=by simp
 rw[F]at n;have C:=zh n;have HA:=zh (fun w (hw:m.ay w)=>qm U A m w hw g hA hF.a);have HB:=zh (fun mk w (hw:mk.ay w) (u:m.le mk)=>qm v1 B mk w hw (g.le u) (aW u hB) hF.b);clear n F;refine aj fun R hR=>?_;obtain⟨va,vc,rfl,-⟩:=hA;obtain⟨vb,vd,rfl,-⟩:=hB
 go_enter func108,ntmps108
 go_wp2;refine aR [2,3] (fun vs w'=>∃(L K:zV) (mk:Mem),vs=[.pointer (some ⟨w.heap.size,0,none⟩),.pointer (some ⟨w.heap.size+1,0,none⟩)] /\
  Own w m w' mk [.obj (w.heap.size+1) 27 #[K],.obj w.heap.size 27 #[L]]/\m.le mk/\aQ mk L (bX A)/\aQ mk K (bX B)) ?_ ?_
 .intro X hX;refine oq (fun j w'=>(j≠4->j≠5->bH w' w.heap.size 27 #[.slice va A.length vc])/\(j≠5->bH w' (w.heap.size+1) 27 #[.slice vb B.length vd])) zk ?_;have n:=C.o.dr;refine ow 0 (fun w'=>bH w' w.heap.size 27 #[.slice va A.length vc]) rfl zk qfc (fun j w' hj hd=>hd.1 qei qei) n.au.obj qfe ?_;refine ow 2 (fun w'=>bH w' (w.heap.size+1) 27 #[.slice vb B.length vd]) rfl zk qfc (fun j w' hj hd=>hd.2 qei) n.obj qfe ?_;refine bQ 1 zk (aJ rfl rfl (dX qej (HA.o _ n.ay) ?_));rintro e w1 ⟨L,rfl,z',r⟩;have k:=n.call z';have u:=Mem_le_grow (w:=w1) n.ay;refine⟨_,rfl,.inr ⟨fun _ _=>k.au.obj,fun _=>k.obj⟩,?_⟩;go_simp;refine bQ 3 zk (aJ rfl rfl (dX qej (HB.o _ _ k.ay u) ?_));rintro e T ⟨K,rfl,D,p⟩;have d:=k.call D;have f:=Mem_le_grow (w:=T) k.ay;refine⟨_,rfl,.inr ⟨fun _ _=>d.au.obj,fun _=>d.obj⟩,?_⟩;obtain⟨S,Q,rfl⟩:∃S Q,L=.slice S (bX A).length Q:=by obtain⟨x,y,e,-⟩:=r;exact⟨x,y,e⟩
  obtain⟨ya,yc,rfl⟩:∃S Q,K=.slice S (bX B).length Q:=by obtain⟨x,y,e,-⟩:=p;exact⟨x,y,e⟩
  go_simp;have f1:=d.au.obj.frozen 0;have c1:=d.au.obj.c 0;have l:=d.au.set 0 (.slice S (bX A).length Q);have f3:=l.au.obj.frozen 0;have c3:=l.au.obj.c 0;have v:=l.au.set 0 (.slice ya (bX B).length yc);refine bQ 4 zk (aJ rfl rfl (cO zg ⟨.inr ⟨fun h=>absurd rfl h,fun _=>l.au.obj⟩,?_⟩));refine bQ 5 zk (aJ rfl rfl (cO zg ⟨.inr ⟨fun _ h=>absurd rfl h,fun h=>absurd rfl h⟩,?_⟩));refine jk zk ?_ _;exact hX.o _ _ rfl ⟨_,_,_,rfl,v,Mem.le_trans u f,aW f r,p⟩
 rintro z vs w1-⟨L,K,mk,rfl,n,M,r,p⟩;simp[aX,lk];clear C HA HB;have d':=jY A;have c':=jY B;have Y:((bX A).length+2)*((bX B).length+2)<=(A.length+2)*(B.length+2):=xV zo zo;have t:((bX B).length+2)*((bX A).length+2)<=300000:=by rw[Nat.mul_comm];omega
 have W:=Kg A;have V:=Kg B;have E:=zh (zi (Fits.of (A:=bX A) (B:=bX B) (zI _) (zI _) zo) (zi (Fits.of (A:=bX B) (B:=bX A) (zI _) (zI _) zo) (zi W (zi V (zi (show((bX A).length+2)*((bX B).length+2)<=300000 by omega) t)))));clear d' c' Y t W V hF Z;generalize bX A=A' at*
 generalize bX B=B' at*
 have g1:=n.obj.c 0;have g2:=n.au.obj.c 0;have HM:=zh (zy L K A' B' mk _ n.ay (g.le M) r p E.o.1);have C:=zh (zi n (zi r (zi p M)));clear n r p M
 go_wp2_with fail
 refine HM.o.mono ?_;rintro e T ⟨d1,D1,rfl,D,f',b',O⟩;clear HM g1 g2;have k:=C.o.1.call D;have f:=Mem_le_grow (w:=T) C.o.1.ay;have HL:=zh (rA d1 D1 _ _ k.ay (g.le (Mem.le_trans C.o.2.2.2 f)) f' (by have:=E.o.2.2.2.2.1;omega));have s:=zh (zi k (zi (aW f C.o.2.1) (zi (aW f C.o.2.2.1) (Mem.le_trans C.o.2.2.2 f))));have l':=zh b';clear k f D C f' b' O
 go_wp2_with fail
 refine HL.o.mono ?_;rintro e w3 ⟨o1,rfl,i',H⟩;have d:=s.o.1.call i';have hq:=Mem_le_grow (w:=w3) s.o.1.ay;have d:=zh (zi d (zi (aW hq s.o.2.1) (zi (aW hq s.o.2.2.1) (Mem.le_trans s.o.2.2.2 hq))));have J:=zh (show ji (fun x=>Sem A x && !Sem B x) o1 by
  have e:Sem D1=fun x=>Sem A x && !Sem B x:=by
   funext x;rw[l'.o.sem x,E.o.2.2.1 x,E.o.2.2.2.1 x]
  rw[<-e];exact H)
 clear H l' HL s i' hq D1;generalize x':(mk.grow w1 T).grow T w3=u' at*
 clear x';have g1:=d.o.1.obj.c 0;have g2:=d.o.1.au.obj.c 0;have HM:=zh (zy K L B' A' u' _ d.o.1.ay (g.le d.o.2.2.2) d.o.2.2.1 d.o.2.1 E.o.2.1);obtain⟨s1,b1,e1⟩:∃s1 b1,QH o1=.tuple #[.string s1,.bool b1]:=⟨_,_,rfl⟩;have P:=zh e1;rw[e1];clear e1
 go_wp2_with fail
 refine HM.o.mono ?_;rintro e w4 ⟨d2,D2,rfl,h',e',a',N⟩;clear HM g1 g2;have l:=d.o.1.call h';have G:=Mem_le_grow (w:=w4) d.o.1.ay;have HL:=zh (rA d2 D2 _ _ l.ay (g.le (Mem.le_trans d.o.2.2.2 G)) e' (by have:=E.o.2.2.2.2.2;omega));have m':=zh l;have k':=zh a';clear l G h' d e' a' N
 go_wp2_with fail
 refine HL.o.mono ?_;rintro e w5 ⟨o2,rfl,g',f⟩;have j':=m'.o.call g';have I:=zh (show ji (fun x=>Sem B x && !Sem A x) o2 by
  have e:Sem D2=fun x=>Sem B x && !Sem A x:=by
   funext x;rw[k'.o.sem x,E.o.2.2.2.1 x,E.o.2.2.1 x]
  rw[<-e];exact f)
 have HC:=zh (ZE J.o I.o);have HO5:=zh j';clear f k' HL m' g' j' D2 E J I g;have P:=P.o
 cases o1 with
 |none=>
  rw[pQ]at P;cases P
  cases o2 with
  |none=>
   rw[pQ];go_wp2
   exact qdb
  |some y=>
   rw[pO];go_wp2
   exact qdb
 |some x=>
  rw[pO]at P;cases P
  cases o2 with
  |none=>
   rw[pQ];go_wp2
   exact qdb
  |some y=>
   rw[pO]
   go_wp2_with first|((go_at_call 110);refine(Tryz.cmp_Compare_int _ _ _).mono ?_;rintro e w' ⟨rfl,rfl⟩)|((go_at_call 120);refine(Hu _ _ _).mono ?_;rintro e w' ⟨rfl,rfl⟩)
   have v:=HO5.o.al #[.int .i64 (Lib.compareInt (fo x).size (fo y).size),.int .i64 (uB (fo x).data.toList (fo y).data.toList)] 3;refine(azO _ _ _ _ _ v.obj).mono ?_;rintro e w7 ⟨rfl,rfl⟩;have H6:=zh v.az;have G':Hid (fC (Sem A) (Sem B) (if Lib.compareInt (fo x).size (fo y).size=0 then uB (fo x).data.toList (fo y).data.toList else Lib.compareInt (fo x).size (fo y).size)):=HC;clear v HC;generalize (if Lib.compareInt (fo x).size (fo y).size=0 then uB (fo x).data.toList (fo y).data.toList else Lib.compareInt (fo x).size (fo y).size)=c at*
   generalize w'.alloc (.cells #[.int .i64 (Lib.compareInt (fo x).size (fo y).size),.int .i64 (uB (fo x).data.toList (fo y).data.toList)] 3)=w8 at*
   go_wp2;exact hR.o _ _ ⟨_,rfl,H6.o,G'.o⟩
end Cl
