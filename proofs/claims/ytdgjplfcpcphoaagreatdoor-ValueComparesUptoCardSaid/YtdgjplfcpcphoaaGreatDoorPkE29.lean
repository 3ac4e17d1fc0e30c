/- Lemmas for the proofs of chapter 11. -/
import Derived.Test.YtdgjplfcpcphoaaGreatDoorPkE12
import Derived.Test.YtdgjplfcpcphoaaGreatDoorPkE28
set_option maxRecDepth 100000
set_option maxHeartbeats 16000000
namespace Go.Proofs.YtdgjplfcpcphoaaGreatDoor
open Go Go.RowKit Go.Proofs Cl
theorem Po{H:Type}{n:Nat}{A:Vd}{d:DataW H}(h:A8 n A<=Rows.uptoBulk d)(k:Rows.uptoBulk d<=1048576):dw n A.1<=1048576/\dw n A.2<=1048576:=by
 unfold A8 at h;omega
end Go.Proofs.YtdgjplfcpcphoaaGreatDoor
namespace Cl
open Go Go.RowKit
theorem EE{P:Program}{t e:TypeId}{size bytes:Nat}(S:gz P t e size bytes)(w:zW)(s:TypeId)(v:zV)(n:Nat)(xs:List Value)(b:w.ownsRow 0 e size v n xs)
(r:Option Addr)(m c:Nat)(cZ:List Value)(p:cZ.length=m*size)(d:0<m->∃a,r=some a/\∀j u,cZ[j]?=some u->w.cell? (a.add j)=some u)(E:∀u∈cZ,u.oneCell'=true)
(q:n+m<=maxLen)(f:(n+m)*bytes<=140737488355328):
 ∃v' w',(Builtin.append_ #[t,t] s #[v,.slice r m c]).run P w=.ok v' w'/\w'.ownsRow 0 e size v' (n+m) (xs++cZ)/\w.grownBy w' v.ownBlock /\
  (∀k,v'.ownBlock=some k->v.ownBlock=some k\/w.heap.size<=k):=by
 cases r with
 |some a=>
  refine kU S w s v n xs b a m c cZ p ?_ E q f;rcases Nat.eq_zero_or_pos m with h|h
  .subst h;have:cZ=[]:=yM (by rw[p,Nat.zero_mul]);subst this;intro j u B;simp at B
  .obtain⟨G,e,D⟩:=d h;cases e
   exact D
 |none=>
  have y:m=0:=by
   rcases Nat.eq_zero_or_pos m with h|h
   .exact h
   .obtain⟨G,e,-⟩:=d h;cases e
  subst y;have:cZ=[]:=yM (by rw[p,Nat.zero_mul]);subst this;obtain⟨i,z,hi,H,l,C,x⟩:=S.info;refine⟨v,w,?_,by simpa using b,World.grownBy.refl w _,fun k A=>.inl A⟩;rcases b.2 with⟨rfl,rfl⟩|⟨g,cap,F,rfl,-,-,o,-⟩
  .simp[Builtin.append_,run_underlying S.ht,Go.sizeOf,Go.typeInfo,hi,Builtin.lenOf,Builtin.firstCells]
  .simp[Builtin.append_,run_underlying S.ht,Go.sizeOf,Go.typeInfo,hi,Builtin.lenOf,Builtin.firstCells,o,storeCells]
theorem iA{P:Program}{t e:TypeId}{size bytes:Nat}(S:gz P t e size bytes){w:zW}{ops:Array Oper}{rest:List Oper}{o:Oper}{a:Act}{Q:Exit->Act->World->Prop}(hgd:o.guard=none)(s x:Operand)
(ho:o.op=.call { callee:=.builtin .append,args:=#[s,x],argTypes:=#[t,t] })
(v:zV)(n:Nat)(xs:List Value)(hs:a.eval s=v)(hown:w.ownsRow 0 e size v n xs)
(ad:Option Addr)(m c:Nat)(cZ:List Value)(hx:a.eval x=.slice ad m c)(hl:cZ.length=m*size)(hnews:0<m->∃a,ad=some a/\∀j u,cZ[j]?=some u->w.cell? (a.add j)=some u)(h1:∀u∈cZ,u.oneCell'=true)
(h63:n+m<=maxLen)(hbytes:(n+m)*bytes<=140737488355328)
(h:∀va vc w',w'.ownsRow 0 e size (.slice va (n+m) vc) (n+m) (xs++cZ)->w.grownBy w' v.ownBlock->(∀k,(Value.slice va (n+m) vc).ownBlock=some k->v.ownBlock=some k\/w.heap.size<=k)->wpList P ops Q rest (a.put o.dst (.slice va (n+m) vc)) w'):wpList P ops Q (o::rest) a w:=by
 refine wpList_plain hgd fun _ hK=>?_;obtain⟨v',w',hr,h2,h3,h4⟩:=EE S w o.type v n xs hown ad m c cZ hl hnews h1 h63 hbytes;obtain⟨va,vc,rfl⟩:=aT h2;unfold Oper.wp execOp;simp only[ho,resolve,invoke,builtin,Sem.run_bind,Sem.run_pure,Result.andThen_ok,List.map_toArray,yL,xB,hs,hx,hr];exact hK _ _ (h va vc w' h2 h3 h4)
theorem JD{m:Mem}{w:zW}(k:m.ay w){i:Option Addr}{c:Nat}{l:List ByteArray}(h:Au m (.slice i l.length c) l):
 0<l.length->∃a,i=some a/\∀j u,(l.map Value.string)[j]?=some u->w.cell? (a.add j)=some u:=fun g=>by
 obtain⟨q,p,e,-,-,o⟩:=h;cases e;obtain⟨b,off,rfl,n⟩:=o (fun e=>by rw[e]at g;cases g);refine⟨_,rfl,fun j u f=>?_⟩;rw[Addr.add_lit];have d:j<l.length:=by
  have:=(yB.1 f).1;exact qa5
 have:=Mem_cell_w k (n j d).1;rw[this];simp[d]at f;rw[f]
theorem Ui{α:Type}{l:List α}{s:Nat}(h:s<l.length)(x:α):l.set s x=l.take s++x::l.drop (s+1):=by
 rw[List.set_eq_take_append_cons_drop,zK h]
theorem Uw{α:Type}{l:List α}{s:Nat}(h:s<l.length):l=l.take s++l[s]::l.drop (s+1):=by
 rw[<-yE h,List.take_append_drop]
section
variable {w0 w w':zW} {m mk:Mem} {L:List bF}
theorem Own.K7{l:List bF}{s:Nat}(a:s<l.length)(h:Own w0 m w mk (l++L)):Own w0 m w mk (l[s]::(l.take s++(l.drop (s+1)++L))):=by
 refine h.perm ?_;have e:l++L=l.take s++l[s]::(l.drop (s+1)++L):=by
  rw[<-xK,<-xD,<-Uw a]
 rw[e];exact List.perm_middle.symm
theorem Own.setAt{l:List bF}{s:Nat}{it:bF}(b:s<l.length)(h:Own w0 m w mk (l++L))(a:∀L',Own w0 m w mk (l[s]::L')->Own w0 m w' mk (it::L')):Own w0 m w' mk (l.set s it++L):=by
 have c:=a _ (h.K7 b);refine c.perm ?_;rw[Ui b,xD,xK];exact List.perm_middle
end
theorem Own.Zo{w0 w:zW}{m mk:Mem}{l₁ l₂:List bF}{a:bF}(h:Own w0 m w mk (l₁++a::l₂)):Own w0 m w mk (a::(l₁++l₂)):=h.perm List.perm_middle.symm
theorem Own.azy{w0 w:zW}{m mk:Mem}{l₁ l₂:List bF}{a:bF}(h:Own w0 m w mk (a::(l₁++l₂))):Own w0 m w mk (l₁++a::l₂):=h.perm List.perm_middle
theorem Dj{m:Mem}{w w':zW}{g i:Nat}{v:zV}(b:w.heap.size<=g)(h:w'.cell? ⟨g,i,none⟩=some v):(m.grow w w').cell g i=some v:=by
 unfold World.cell? at h;unfold Mem.cell Mem.grow;rw[zJ zo]
 split at h
 .rename_i a;rw[a];simpa using h
 .cases h
def yu(b:Nat->Nat->Bool)(M s:Nat):List Value:=(List.range (M+1)).map fun n=>.bool (b s n)
def Xa(g:Nat->Nat)(M s:Nat):Value:=.slice (some ⟨g s,0,none⟩) (M+1) (M+1)
def zm(t:TypeId)(g:Nat->Nat)(b:Nat->Nat->Bool)(M s:Nat):bF:=.row (Xa g M s) t 1 (M+1) (yu b M s)
def dV(t:TypeId)(g:Nat->Nat)(b:Nat->Nat->Bool)(M N:Nat):List bF:=(List.range N).map (zm t g b M)
def Pp(b:Nat->Nat->Bool)(s n:Nat)(x:Bool):Nat->Nat->Bool:=fun a c=>if a=s/\c=n then x else b a c
theorem Im(b:Nat->Nat->Bool){M s n:Nat}(h:n<=M):(yu b M s)[n]?=some (.bool (b s n)):=by
 have:n<M+1:=zo;simp[yu,this]
theorem Yk(b:Nat->Nat->Bool){M s n:Nat}(x:Bool):(yu b M s).set n (.bool x)=yu (Pp b s n x) M s:=by
 apply List.ext_getElem?;intro i;rw[List.getElem?_set];by_cases e:n=i
 .subst e;by_cases h:n<M+1
  .simp[yu,Pp,h]
  .simp[yu,h]
 .rw[zJ e];simp only[yu,List.getElem?_map,Pp];by_cases h:i<M+1
  .have:¬i=n:=fun x=>e x.symm;simp[h,this]
  .simp[h]
theorem Io{b a:Nat->Nat->Bool}{M s:Nat}(h:∀n,n<=M->b s n=a s n):yu b M s=yu a M s:=by
 unfold yu;apply xZ;intro n c;rw[h n (by have:=yQ.1 c;omega)]
theorem jE{t:TypeId}{g c:Nat->Nat}{b d:Nat->Nat->Bool}{M N:Nat}(f:∀s,s<N->g s=c s)(h:∀s n,s<N->n<=M->b s n=d s n):dV t g b M N=dV t c d M N:=by
 unfold dV;apply xZ;intro s a;have a:=yQ.1 a;unfold zm Xa;rw[f s a,Io fun n e=>h s n a e]
theorem tC(t:TypeId)(g:Nat->Nat)(b:Nat->Nat->Bool)(M N:Nat):(dV t g b M N).length=N:=by simp[dV]
theorem CU{t:TypeId}{g:Nat->Nat}{b:Nat->Nat->Bool}{M N s:Nat}(h:s<(dV t g b M N).length):(dV t g b M N)[s]=zm t g b M s:=by simp[dV]
theorem Qn{t:TypeId}{g:Nat->Nat}{b:Nat->Nat->Bool}{M N s n:Nat}(x:Bool):(dV t g b M N).set s (zm t g (Pp b s n x) M s)=dV t g (Pp b s n x) M N:=by
 apply List.ext_getElem?;intro i;rw[List.getElem?_set];by_cases e:s=i
 .subst e;rw[tC];by_cases h:s<N
  .simp[dV,h]
  .simp[dV,h]
 .rw[zJ e];by_cases h:i<N
  .simp only[dV,List.getElem?_map,List.getElem?_range h,vH,Option.some.injEq];unfold zm;rw[Io fun a _=>?_];have:¬i=s:=fun x=>e x.symm;simp[Pp,this]
  .simp[dV,h]
theorem Nr(t:TypeId)(g:Nat->Nat)(b:Nat->Nat->Bool)(M N:Nat):dV t g b M (N+1)=dV t g b M N++[zm t g b M N]:=by simp[dV,List.range_succ]
section
variable {w0 w w':zW} {m mk:Mem} {L:List bF} {t:TypeId} {g:Nat->Nat} {b:Nat->Nat->Bool} {M N:Nat}
theorem Own.QT{s:Nat}(h:Own w0 m w mk (dV t g b M N++L))(hs:s<N):w.ownsRow 0 t 1 (Xa g M s) (M+1) (yu b M s):=by
 have:=h.K7 (s:=s) qe1;rw[CU]at this;exact this.row
theorem Own.LZ{s n:Nat}(h:Own w0 m w mk (dV t g b M N++L))(a:s<N)(c:n<=M):w.cell? ⟨g s,n,none⟩=some (.bool (b s n)):=bg (h.QT a) (Im b c)
theorem Own.UQ{s:Nat}(h:Own w0 m w mk (dV t g b M N++L))(a:s<N)(n:Nat):w.frozen? ⟨g s,n,none⟩=false:=dK (h.QT a) n
theorem Own.azp{s:Nat}(h:Own w0 m w mk (dV t g b M N++L))(a:s<N):g s<w.heap.size:=(World.ownsRow.lt (h.QT a) _ rfl).2
theorem Own.azS{s:Nat}(h:Own w0 m w mk (dV t g b M N++L))(hs:s<N):w0.heap.size<=g s:=by
 have:=h.K7 (s:=s) qe1;rw[CU]at this;exact(this.gV _ (yF ..) (g s) rfl).1
theorem Own.azR{s n:Nat}(h:Own w0 m w mk (dV t g b M N++L))(hs:s<N)(x:Bool):Own w0 m (w.setCell ⟨g s,n,none⟩ (.bool x)) mk (dV t g (Pp b s n x) M N++L):=by
 rw[<-Qn x];refine h.setAt qe1 fun L' a=>?_;rw[CU]at a;have:=Own.setRow (g:=g s) (n:=M+1) (cap:=M+1) (xs:=yu b M s) a n (.bool x);rw[Yk]at this;exact this
theorem Own.Y6{k:Nat}(h:Own w0 m w mk (zm t g b M k::(dV t g b M k++L))):Own w0 m w mk (dV t g b M (k+1)++L):=by
 rw[Nr,xD];exact h.perm List.perm_middle
end
def outer(g:Nat->Nat)(M k N:Nat):List Value:=(List.range N).map fun s=>if s<k then Xa g M s else .slice none 0 0
theorem nO{g:Nat->Nat}{M k N s:Nat}(h:s<N):(outer g M k N)[s]?=some (if s<k then Xa g M s else .slice none 0 0):=by simp[outer,h]
theorem Ux{g:Nat->Nat}{M k N:Nat}(x:Nat):(outer g M k N).set k (.slice (some ⟨x,0,none⟩) (M+1) (M+1))=outer (fun s=>if s=k then x else g s) M (k+1) N:=by
 apply List.ext_getElem?;intro i;rw[List.getElem?_set];by_cases h:i<N
 .rw[nO h,nO h];have a:(outer g M k N).length=N:=by simp[outer]
  by_cases e:k=i
  .subst e;simp[a,h,Xa]
  .rw[zJ e];have j:¬i=k:=fun x=>e x.symm;by_cases b:i<k
   .simp[b,j,Xa,show i<k+1 by omega]
   .simp[b,show ¬i<k+1 by omega]
 .have a:(outer g M k N).length=N:=by simp[outer]
  have c:(outer (fun s=>if s=k then x else g s) M (k+1) N).length=N:=by simp[outer]
  have f:(outer g M k N)[i]?=none:=vC zo;have d:(outer (fun s=>if s=k then x else g s) M (k+1) N)[i]?=none:=vC zo;rw[f,d,a];by_cases e:k=i
  .rw[zK e,zJ zo]
  .rw[zJ e]
end Cl
