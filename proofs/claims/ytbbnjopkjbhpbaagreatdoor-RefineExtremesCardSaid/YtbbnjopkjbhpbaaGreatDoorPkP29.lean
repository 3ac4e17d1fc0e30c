/- Lemmas for the proofs of chapter 11. -/
import Derived.Test.YtbbnjopkjbhpbaaGreatDoorPkP11
set_option maxRecDepth 100000
set_option maxHeartbeats 16000000
namespace Cl
open Go Go.RowKit Go.Proofs Go.WideShapes Go.ChangeShapes Go.Deep Go.Joins Tryz
theorem Mem_of_cell{w:zW}{b o:Nat}{v:zV}(h:w.cell? ⟨b,o,none⟩=some v):(Mem.of w).cell b o=some v:=by
 unfold World.cell? at h;unfold Mem.cell Mem.of
 split at h
 .rename_i a;rw[a];simpa using h
 .cases h
theorem QA{α:Type}{l:List α}(h:l.length=2):∃a b,l=[a,b]:=by
 match l,h with
 |[a,b],_=>exact⟨a,b,rfl⟩
theorem ezM{α:Type}{l:List α}(h:l.length=3):∃a b c,l=[a,b,c]:=by
 match l,h with
 |[a,b,c],_=>exact⟨a,b,c,rfl⟩
theorem We{w:zW}{a:Addr}{v:zV}(h:w.cell? a=some v):a.spot=none:=by
 unfold World.cell? at h
 split at h
 .split at h
  .cases h
  .rename_i b
   cases hx:a.spot with
   |none=>rfl
   |some x=>rw[hx]at b;exact absurd rfl b
 .cases h
theorem iD{w:zW}{b o n:Nat}{cs:List Value}(h:w.cells? 0 ⟨b,o,none⟩ n=some cs){i:Nat}{v:zV}(hi:cs[i]?=some v):(Mem.of w).cell b (o+i)=some v:=by
 obtain⟨-,d,c⟩:=World.cells?_some h;have a:i<n:=by rw[<-d];exact(yB.1 hi).1
 have:=c i a;rw[hi,Addr.add_lit]at this;exact Mem_of_cell this
section
variable {H:Type} {enc:TypeId×Value->H} {P:Program} {w:zW} {spare:Nat->Bool} {held:Bool}
theorem mK{α:Type}[Inhabited α]{t e:TypeId}{size:Nat}(ht:P.underlying t=some (.slice e))(A:P.cellsOf e=size)(d:0<size)(R:Nat->Nat->α->Prop)
(G:∀(fuel b o:Nat) (cs:List Value) (x:DataW H×List MemPlace),w.cells? 0 ⟨b,o,none⟩ size=some cs->DataW.trod enc P w 0 spare held fuel e cs=some x->∃y:α,R b o y)
{fuel:Nat}{cs:List Value}{x:DataW H×List MemPlace}(h:DataW.trod enc P w 0 spare held fuel t cs=some x):∃v l,cs=[v]/\Mem.slice R size v l:=by
 rcases open_slice ht h with⟨rfl,-⟩|⟨a,len,g,m,n,D,L,rfl,K,E,z,k,rfl,u⟩
 .exact⟨_,[],rfl,none,0,rfl,zI _,zG _,fun h=>absurd rfl h⟩
 .have C:len<=m:=by rw[k];split<;>omega
  by_cases I:len=0
  .subst I;exact⟨_,[],rfl,some a,g,rfl,zG _,z,fun h=>absurd rfl h⟩
  .have c:a.spot=none:=by
    obtain⟨s,j,-⟩:=u 0 zo;obtain⟨-,r,B⟩:=World.cells?_some j;rw[A]at r B;have:=B 0 d;rw[Nat.zero_mul]at this;have e:(a.add 0).add 0=a:=by simp[Addr.add]
    rw[e,yH zo]at this;exact We this
   obtain⟨b,o,J⟩:=a;simp only at c;subst c;obtain⟨f,F⟩:=choose_lt (α:=α) (n:=len) (p:=fun i y=>R b (o+i*size) y) (fun i hi=>by
    obtain⟨s,j,r⟩:=u i zo;rw[A,Addr.add_lit]at j;exact G _ _ _ _ _ j r)
   refine⟨_,(List.range len).map f,rfl,some ⟨b,o,none⟩,g,zS,by simpa using E,z,fun _=>⟨b,o,rfl,fun i hi=>?_⟩⟩;have q:i<len:=by simpa using hi
   simpa using F i q
end
section
variable {H:Type} {enc:TypeId×Value->H} {w:zW} {spare:Nat->Bool} {held:Bool}
theorem ezy{n:Int}(h:(Lit.int .u8 n).wf=true):∃k:Nat,n=k/\k<256:=by
 simp only[Lit.wf,xG,decide_eq_true_eq]at h;have b:IntKind.min .u8=0:=by decide
 have a:IntKind.max .u8=255:=by decide
 exact⟨n.toNat,zo,zo⟩
theorem OB{n:Int}(h:(Lit.int .i64 n).wf=true): -9223372036854775808<=n/\n<=9223372036854775807:=by
 simp only[Lit.wf,xG,decide_eq_true_eq]at h;have b:IntKind.min .i64 = -9223372036854775808:=by decide
 have a:IntKind.max .i64=9223372036854775807:=by decide
 omega
theorem YS(fuel b o:Nat)(cs:List Value)(x:DataW H×List MemPlace)(c:w.cells? 0 ⟨b,o,none⟩ 3=some cs)(h:DataW.trod enc prog w 0 spare held fuel 102 cs=some x):∃e,E9 (Mem.of w) b o e:=by
 obtain⟨B,A,z,n,-,C,k,j,g⟩:=trod_struct3 underlying102 h;have d:cs.length=3:=(World.cells?_some c).2.1;obtain⟨F,E,D,rfl⟩:=ezM d;have s:prog.cellsOf 5=1:=by kernel_rfl
 have f:prog.cellsOf 3=1:=by kernel_rfl
 simp[s,f]at k j g;obtain⟨a0,v,-,w0⟩:=DataW.trod_int underlying5 k;obtain⟨G,u,-,l⟩:=DataW.trod_int underlying5 j;obtain⟨y,t,-,a⟩:=DataW.trod_int underlying3 g;obtain⟨r,rfl,p⟩:=ezy w0;obtain⟨q,rfl,m⟩:=ezy l;cases v;cases u;cases t;have a:=OB a;exact⟨⟨r,q,y⟩,iD (i:=0) c rfl,iD (i:=1) c rfl,iD (i:=2) c rfl,p,m,a.1,a.2⟩
theorem Ik(fuel b o:Nat)(cs:List Value)(x:DataW H×List MemPlace)(c:w.cells? 0 ⟨b,o,none⟩ 2=some cs)(h:DataW.trod enc prog w 0 spare held fuel 105 cs=some x):∃s,AB (Mem.of w) b o s:=by
 obtain⟨q,p,n,-,r,e,d⟩:=trod_struct2 underlying105 h;have a:cs.length=2:=(World.cells?_some c).2.1;obtain⟨t,m,rfl⟩:=QA a;have g:prog.cellsOf 4=1:=by kernel_rfl
 have es:prog.cellsOf 103=1:=by kernel_rfl
 simp[g,es]at e d;obtain⟨a0,k,-⟩:=DataW.trod_bool underlying4 e;cases k;obtain⟨v,l,j,f⟩:=mK underlying103 zk zo (E9 (Mem.of w)) YS d;cases j;exact⟨⟨a0,l⟩,iD (i:=0) c rfl,m,iD (i:=1) c rfl,f⟩
end
section
variable {H:Type} {enc:TypeId×Value->H} {w:zW} {spare:Nat->Bool} {held:Bool}
theorem gzh{α:Type}{l:List α}(h:l.length=5):∃a b c d e,l=[a,b,c,d,e]:=by
 match l,h with
 |[a,b,c,d,e],_=>exact⟨a,b,c,d,e,rfl⟩
theorem gzg{α:Type}{l:List α}(h:l.length=6):∃a b c d e f,l=[a,b,c,d,e,f]:=by
 match l,h with
 |[a,b,c,d,e,f],_=>exact⟨a,b,c,d,e,f,rfl⟩
theorem LW(fuel b o:Nat)(cs:List Value)(x:DataW H×List MemPlace)(c:w.cells? 0 ⟨b,o,none⟩ 2=some cs)(h:DataW.trod enc prog w 0 spare held fuel 100 cs=some x):∃p,NZ (Mem.of w) b o p:=by
 obtain⟨m,l,n,-,q,f,e⟩:=trod_struct2 underlying100 h;obtain⟨s,r,rfl⟩:=QA (World.cells?_some c).2.1;have d:prog.cellsOf 2=1:=by kernel_rfl
 simp[d]at f e;obtain⟨a0,j,-,w0⟩:=DataW.trod_int underlying2 f;obtain⟨k,g,-,a⟩:=DataW.trod_int underlying2 e;cases j;cases g;have w0:=OB w0;have a:=OB a;exact⟨(a0,k),iD (i:=0) c rfl,iD (i:=1) c rfl,w0.1,w0.2,a.1,a.2⟩
theorem XV{fuel:Nat}{cs:List Value}{x:DataW H×List MemPlace}(h:DataW.trod enc prog w 0 spare held fuel 29 cs=some x):
 ∃r q p d e c l f t,cs=[.bool r,.bool q,.bool p,d,e,c]/\dD (Mem.of w) d e c ⟨r,q,p,l,f,t⟩:=by
 obtain⟨xs,n,rfl,rfl,i,a,b⟩:=DataW.trod_struct underlying29 h;have g:prog.cellsOf 29=6:=by kernel_rfl
 rw[g]at i;obtain⟨Z,Y,X,W,V,U,rfl⟩:=gzg i;have B:prog.cellsOf 4=1:=by kernel_rfl
 have z:prog.cellsOf 24=2:=by kernel_rfl
 have A:prog.cellsOf 27=1:=by kernel_rfl
 have es:prog.cellsOf 22=1:=by kernel_rfl
 have y:prog.cellsOf 25=1:=by kernel_rfl
 obtain⟨R,Q,P,O,N,rfl⟩:=gzh a;have o:=b 0 _ rfl;have f1:=b 1 _ rfl;have f2:=b 2 _ rfl;have f3:=b 3 _ rfl;have f4:=b 4 _ rfl;simp[B,z,A]at o f1 f2 f3 f4;obtain⟨a0,g,-⟩:=DataW.trod_bool underlying4 o;obtain⟨J,G,-⟩:=DataW.trod_bool underlying4 f1;obtain⟨I,F,-⟩:=DataW.trod_bool underlying4 f2;cases g;cases G;cases F;obtain⟨M,L,T,-,-,m,k⟩:=trod_struct2 underlying24 f3;simp[es]at m k;obtain⟨K,S,-,-,j⟩:=trod_struct1 underlying27 f4;simp[y]at j;obtain⟨d,l,E,v⟩:=mK underlying22 zk zo (NZ (Mem.of w)) LW m;obtain⟨e,f,D,u⟩:=mK underlying22 zk zo (NZ (Mem.of w)) LW k;obtain⟨c,t,C,s⟩:=mK underlying25 zk zo (AB (Mem.of w)) Ik j;cases E;cases D;cases C;exact⟨a0,J,I,_,_,_,l,f,t,rfl,v,u,s⟩
end
structure uN {H:Type} (B:DataW H->Nat):Prop where
 sl:∀es sp,(es.map B).sum+1<=B (.slice es sp)
 nil:1<=B .nil
 ag:∀ps,(ps.map B).sum<=B (.agg ps)
theorem LK(f:Nat->Nat)(g:Nat->Nat):∀n,(∀i,i<n->f i<=g i)->((List.range n).map f).sum<=((List.range n).map g).sum
 |0,_=>zI _
 |n+1,h=>by
  have:=LK f g n fun i hi=>h i zo;have a:=h n zo;simp only[List.range_succ,yI,List.sum_append,yL,xB,vG,List.sum_nil];omega
theorem V8{α:Type}(B:α->Nat)(d:α):∀(l:List α),(l.map B).sum=((List.range l.length).map fun i=>B (l.getD i d)).sum
 |[]=>rfl
 |x::l=>by
  rw[yO,List.range_succ_eq_map,yL,vG,yL,vG,V8 B d l,vE];simp only[List.getD_cons_zero]
  congr 2
section
variable {H:Type} {enc:TypeId×Value->H} {P:Program} {w:zW} {spare:Nat->Bool} {held:Bool}
theorem lG{α:Type}[Inhabited α]{B:DataW H->Nat}(G:uN B)(f:α->Nat){t e:TypeId}{size:Nat}(ht:P.underlying t=some (.slice e))(F:P.cellsOf e=size)(m:0<size)(R:Nat->Nat->α->Prop){fuel:Nat}
(M:∀(n b o:Nat) (cs:List Value) (x:DataW H×List MemPlace),n<fuel->w.cells? 0 ⟨b,o,none⟩ size=some cs->DataW.trod enc P w 0 spare held n e cs=some x->∃y:α,R b o y/\f y<=B x.1)
{cs:List Value}{x:DataW H×List MemPlace}(h:DataW.trod enc P w 0 spare held fuel t cs=some x):∃v l,cs=[v]/\Mem.slice R size v l/\(l.map f).sum+1<=B x.1:=by
 rcases DataW.trod_slice ht h with⟨rfl,rfl⟩|⟨a,len,s,c,rest,n,rfl,rfl,rfl,Q,L,D,q,A,-,-⟩
 .exact⟨_,[],rfl,⟨none,0,rfl,zI _,zG _,fun h=>absurd rfl h⟩,G.nil⟩
 .have C:∀i (hi:i<len),∃d,w.cells? 0 (a.add (i*P.cellsOf e)) (P.cellsOf e)=some d/\DataW.trod enc P w 0 spare held n e d=some (c[i]'zo):=fun i hi=>by
   have j:=A i hi;rw[yH zo]at j;obtain⟨d,r,u⟩:=Option.bind_eq_some_iff.1 j;exact⟨d,r,u⟩
  have K:=G.sl (c.map (·.1)) (rest.map (·.1));by_cases N:len=0
  .subst N;exact⟨_,[],rfl,⟨some a,s,rfl,zG _,D,fun h=>absurd rfl h⟩,by simp only[xB,List.sum_nil];omega⟩
  .have k:a.spot=none:=by
    obtain⟨d,j,-⟩:=C 0 zo;obtain⟨-,r,u⟩:=World.cells?_some j;rw[F]at r u;have:=u 0 m;rw[Nat.zero_mul]at this;have e:(a.add 0).add 0=a:=by simp[Addr.add]
    rw[e,yH zo]at this;exact We this
   obtain⟨b,o,O⟩:=a;simp only at k;subst k;obtain⟨g,E⟩:=choose_lt (α:=α) (n:=len) (p:=fun i y=>R b (o+i*size) y/\∀hi:i<c.length,f y<=B (c[i]).1) (fun i hi=>by
    obtain⟨d,j,r⟩:=C i zo;rw[F,Addr.add_lit]at j;obtain⟨y,J,I⟩:=M n _ _ _ _ zo j r;exact⟨y,J,fun _=>I⟩)
   refine⟨_,(List.range len).map g,rfl,⟨some ⟨b,o,none⟩,s,zS,by simpa using L,D,fun _=>⟨b,o,rfl,fun i hi=>?_⟩⟩,?_⟩
   .have z:i<len:=by simpa using hi
    simpa using(E i z).1
   .refine yJ (Nat.succ_le_succ ?_) K;rw[vE,vE,V8 (B ∘ fun x:DataW H×List MemPlace=>x.1) (.nil,[]),q];refine LK _ _ _ fun i hi=>?_;have:=(E i hi).2 zo;simpa [yU,show i<c.length by omega]using this
theorem pg{B:DataW H->Nat}(g:uN B){fuel:Nat}{t:TypeId}{d f1:Field}{cs:List Value}{x:DataW H×List MemPlace}(ht:P.underlying t=some (.struct #[d,f1]))(h:DataW.trod enc P w 0 spare held fuel t cs=some x):
 ∃b a n,fuel=n+1/\cs.length=P.cellsOf t/\DataW.trod enc P w 0 spare held n d.type ((cs.drop d.offset).take (P.cellsOf d.type))=some b/\DataW.trod enc P w 0 spare held n f1.type ((cs.drop f1.offset).take (P.cellsOf f1.type))=some a/\B b.1+B a.1<=B x.1:=by
 obtain⟨xs,n,rfl,rfl,f,c,e⟩:=DataW.trod_struct ht h;obtain⟨b,a,rfl⟩:=QA c;have:=g.ag [b.1,a.1];exact⟨b,a,n,rfl,f,e 0 _ rfl,e 1 _ rfl,by simpa using this⟩
end
theorem gzi{α:Type}{l:List α}(h:l.length=4):∃a0 c b a,l=[a0,c,b,a]:=by
 match l,h with
 |[a0,c,b,a],_=>exact⟨a0,c,b,a,rfl⟩
theorem gzf{α:Type}{l:List α}(h:l.length=9):∃a0 i g f e d c b a,l=[a0,i,g,f,e,d,c,b,a]:=by
 match l,h with
 |[a0,i,g,f,e,d,c,b,a],_=>exact⟨a0,i,g,f,e,d,c,b,a,rfl⟩
theorem fzt{α:Type}{l:List α}(h:l.length=18):∃a0 s r q p o n m k j i g f e d c b a,l=[a0,s,r,q,p,o,n,m,k,j,i,g,f,e,d,c,b,a]:=by
 match l,h with
 |[a0,s,r,q,p,o,n,m,k,j,i,g,f,e,d,c,b,a],_=>exact⟨a0,s,r,q,p,o,n,m,k,j,i,g,f,e,d,c,b,a,rfl⟩
section
variable {H:Type} {enc:TypeId×Value->H} {w:zW} {spare:Nat->Bool} {held:Bool} {B:DataW H->Nat}
abbrev Eh(enc:TypeId×Value->H)(w:zW)(spare:Nat->Bool)(held:Bool)(fuel:Nat)(t:TypeId)(cs:List Value)(x:DataW H×List MemPlace):Prop:=DataW.trod enc prog w 0 spare held fuel t cs=some x
def Em(B:DataW H->Nat)(enc:TypeId×Value->H)(w:zW)(spare:Nat->Bool)(held:Bool)(K:Nat):Prop:=∀k cs x,k<K->Eh enc w spare held k 33 cs x->∃v s,cs=bu v s/\bq (Mem.of w) K s v/\dA K v<=B x.1
def Fh(K:Nat)(d:Vd):Nat:=dA K d.1+dA K d.2
def bzQ(K:Nat)(l:List Vd):Nat:=(l.map (Fh K)).sum
theorem I5{b o n:Nat}{cs:List Value}(a:w.cells? 0 ⟨b,o,none⟩ n=some cs){j:Nat}{v:Vl}{s:Sl}(h:∀i x,(bu v s)[i]?=some x->cs[j+i]?=some x):tO (Mem.of w) b (o+j) s v:=by
 have g:∀i x,(bu v s)[i]?=some x->(Mem.of w).cell b (o+j+i)=some x:=fun i x hi=>by
  have:=iD a (h i x hi)
  rwa [<-Nat.add_assoc]at this
 exact⟨g 0 _ rfl,g 1 _ rfl,g 2 _ rfl,g 3 _ rfl,g 4 _ rfl,g 5 _ rfl,g 6 _ rfl,g 7 _ rfl,g 8 _ rfl⟩
theorem Px(p:uN B){K:Nat}(f:Em B enc w spare held K){k:Nat}(hk:k<=K){cs:List Value}{x:DataW H×List MemPlace}(h:Eh enc w spare held k 35 cs x):
 ∃(d:Vd) (b a:Sl),cs=bu d.1 b++bu d.2 a/\bq (Mem.of w) K b d.1/\bq (Mem.of w) K a d.2/\Fh K d<=B x.1:=by
 obtain⟨F,E,n,rfl,e,i,g,G⟩:=pg p underlying35 h;have c:prog.cellsOf 35=18:=by kernel_rfl
 have s:prog.cellsOf 33=9:=by kernel_rfl
 rw[c]at e;obtain⟨S,R,Q,P,O,N,M,L,J,I,D,C,A,z,y,v,u,t,rfl⟩:=fzt e;simp[s]at i g;obtain⟨l,b,r,o,U⟩:=f _ _ _ zo i;obtain⟨j,a,q,m,T⟩:=f _ _ _ zo g;exact⟨(l,j),b,a,by rw[<-r,<-q];rfl,o,m,by unfold Fh;simp only;omega⟩
theorem Ex(r:uN B){K:Nat}(q:Em B enc w spare held K){k:Nat}(hk:k<=K){b o n j:Nat}{cs:List Value}{x:DataW H×List MemPlace}(a:w.cells? 0 ⟨b,o,none⟩ n=some cs)(_:n=j+18)
(h:Eh enc w spare held k 35 (cs.drop j) x):∃d:Vd,Bh (bq (Mem.of w) K) (Mem.of w) b (o+j) d/\Fh K d<=B x.1:=by
 obtain⟨d,c,g,e,m,l,p⟩:=Px r q hk h;have f:=(World.cells?_some a).2.1;refine⟨d,⟨c,g,I5 a (j:=j) fun i x hi=>?_,m,?_,l⟩,p⟩
 .have:(cs.drop j)[i]?=some x:=by
   rw[e,yK (yB.1 hi).1];exact hi
  rwa [List.getElem?_drop]at this
 .rw[Nat.add_assoc];refine I5 a (j:=j+9) fun i x hi=>?_;have:(cs.drop j)[9+i]?=some x:=by
   rw[e,yN (by simp[bu])];rw[show 9+i-(bu d.1 c).length=i by simp[bu]];exact hi
  rw[List.getElem?_drop,<-Nat.add_assoc]at this;exact this
theorem LD(a:uN B){K:Nat}(e:Em B enc w spare held K){k:Nat}(hk:k<=K){cs:List Value}{x:DataW H×List MemPlace}(h:Eh enc w spare held k 48 cs x):
 ∃v l,cs=[v]/\bG (bq (Mem.of w) K) (Mem.of w) v l/\bzQ K l+1<=B x.1:=
 lG (α:=Vd) a (Fh K) underlying48 zk zo (Bh (bq (Mem.of w) K) (Mem.of w)) (fun f b o cs x g d c=>Ex a e zo (j:=0) d rfl c) h
def RF(K:Nat)(c:Lc):Nat:=bzQ K c.1+bzQ K c.2
def bzP(K:Nat)(l:List Fd):Nat:=(l.map fun f=>Fh K f.2).sum
def bzN(K:Nat)(l:List Kl):Nat:=(l.map fun f=>Fh K f.2).sum
def RD(K:Nat)(c:St):Nat:=bzP K c.1+bzN K c.2
theorem dzg(b:uN B){K:Nat}(e:Em B enc w spare held K){k:Nat}(hk:k<=K){cs:List Value}{x:DataW H×List MemPlace}(h:Eh enc w spare held k 50 cs x):
 ∃(u a:zV) (c:Lc),cs=[u,a]/\bG (bq (Mem.of w) K) (Mem.of w) u c.1/\bG (bq (Mem.of w) K) (Mem.of w) a c.2/\RF K c<=B x.1:=by
 obtain⟨t,s,n,rfl,d,g,f,v⟩:=pg b underlying50 h;have q:prog.cellsOf 50=2:=by kernel_rfl
 have r:prog.cellsOf 48=1:=by kernel_rfl
 rw[q]at d;obtain⟨z,y,rfl⟩:=QA d;simp[r]at g f;obtain⟨u,l,p,m,C⟩:=LD b e zo g;obtain⟨a,i,o,j,A⟩:=LD b e zo f;cases p;cases o;exact⟨_,_,(l,i),rfl,m,j,by unfold RF;simp only;omega⟩
theorem bzz(m:uN B){K:Nat}(D:Em B enc w spare held K){k:Nat}(hk:k<=K){cs:List Value}{x:DataW H×List MemPlace}(h:Eh enc w spare held k 59 cs x):
 ∃v l,cs=[v]/\gN (bq (Mem.of w) K) (Mem.of w) v l/\bzP K l+1<=B x.1:=
 lG (α:=Fd) m (fun f:Fd=>Fh K f.2) underlying59 zk zo (Ky (bq (Mem.of w) K) (Mem.of w)) (fun N b o cs x O c A=>by
  obtain⟨xs,M,rfl,rfl,-,a,g⟩:=DataW.trod_struct underlying82 A;obtain⟨u,t,r,rfl⟩:=ezM a;have hl:=(World.cells?_some c).2.1;have q:=g 0 _ rfl;have f1:=g 1 _ rfl;have f2:=g 2 _ rfl;have L:prog.cellsOf 3=1:=by kernel_rfl
  have J:prog.cellsOf 9=1:=by kernel_rfl
  have I:prog.cellsOf 35=18:=by kernel_rfl
  simp[L,J,I]at q f1 f2;obtain⟨s,G,-,w0⟩:=DataW.trod_string underlying9 q;obtain⟨p,F,-,e⟩:=DataW.trod_int underlying3 f1;have n:(cs.drop 2).take 18=cs.drop 2:=xH qeo;rw[n]at f2;obtain⟨d,C,P⟩:=Ex m D zo (j:=2) c rfl f2;have e:=OB e;have z:cs[0]?=some (.string s):=by have:=congrArg (fun l=>l[0]?) G;simpa using this
  have y:cs[1]?=some (.int .i64 p):=by have:=congrArg (fun l=>l[0]?) F;simpa using this
  have E:=m.ag [u.1,t.1,r.1];simp only[yL,xB,vG,List.sum_nil]at E⊢;exact⟨((s,p),d),⟨iD (i:=0) c z,w0,iD (i:=1) c y,e,C⟩,by simp only;omega⟩) h
theorem bze(c:uN B){K:Nat}(u:Em B enc w spare held K){k:Nat}(hk:k<=K){cs:List Value}{x:DataW H×List MemPlace}(h:Eh enc w spare held k 60 cs x):
 ∃v l,cs=[v]/\gP (bq (Mem.of w) K) (Mem.of w) v l/\bzN K l+1<=B x.1:=
 lG (α:=Kl) c (fun f:Kl=>Fh K f.2) underlying60 zk zo (Li (bq (Mem.of w) K) (Mem.of w)) (fun L b o cs x M a q=>by
  obtain⟨G,F,J,rfl,-,n,f1,s⟩:=pg c underlying68 q;have hl:=(World.cells?_some a).2.1;have D:prog.cellsOf 27=1:=by kernel_rfl
  have C:prog.cellsOf 35=18:=by kernel_rfl
  have z:prog.cellsOf 25=1:=by kernel_rfl
  simp[D,C]at n f1;obtain⟨E,I,-,-,m⟩:=trod_struct1 underlying27 n;simp[z]at m;obtain⟨g,t,A,y⟩:=mK underlying25 zk zo (AB (Mem.of w)) Ik m;have e:cs.tail.take 18=cs.drop 1:=by rw[List.drop_one];exact xH qeo
  rw[e]at f1;obtain⟨d,r,N⟩:=Ex c u zo (j:=1) a rfl f1;have p:cs[0]?=some g:=by have:=congrArg (fun l=>l[0]?) A;simpa using this
  exact⟨(t,d),⟨⟨g,iD (i:=0) a p,y⟩,r⟩,by simp only;omega⟩) h
theorem czJ(b:uN B){K:Nat}(e:Em B enc w spare held K){k:Nat}(hk:k<=K){cs:List Value}{x:DataW H×List MemPlace}(h:Eh enc w spare held k 62 cs x):
 ∃(u a:zV) (c:St),cs=[u,a]/\gN (bq (Mem.of w) K) (Mem.of w) u c.1/\gP (bq (Mem.of w) K) (Mem.of w) a c.2/\RD K c<=B x.1:=by
 obtain⟨v,t,n,rfl,d,g,f,y⟩:=pg b underlying62 h;have r:prog.cellsOf 62=2:=by kernel_rfl
 have s:prog.cellsOf 59=1:=by kernel_rfl
 have q:prog.cellsOf 60=1:=by kernel_rfl
 rw[r]at d;obtain⟨A,z,rfl⟩:=QA d;simp[s,q]at g f;obtain⟨u,l,p,m,D⟩:=bzz b e zo g;obtain⟨a,i,o,j,C⟩:=bze b e zo f;cases p;cases o;exact⟨_,_,(l,i),rfl,m,j,by unfold RD;simp only;omega⟩
theorem Ie{α:Type}(f:Vd->Nat)(g:α->List Vd)(h:α->Nat)(b:∀a,((g a).map f).sum=h a):∀l:List α,((l.flatMap g).map f).sum=(l.map h).sum
 |[]=>rfl
 |a::l=>by rw[xO,yI,List.sum_append,yL,vG,b,Ie f g h b l]
theorem Ta(K:Nat)(v:Vl):dA (K+1) v=1+((v.aN.map (RF K)).sum+(v.aA.map (RD K)).sum):=by
 rw[dA];show 1+(v.kids.map (Fh K)).sum=_;rw[Vl.kids,yI,List.sum_append,Ie (Fh K) aY (RF K) (fun c=>by rw[aY,yI,List.sum_append];rfl),Ie (Fh K) bN (RD K) (fun c=>by rw[bN,yI,List.sum_append,vE,vE];rfl)]
theorem Tc(m:uN B):∀(fuel:Nat) (cs:List Value) (x:DataW H×List MemPlace),Eh enc w spare held fuel 33 cs x->∃v s,cs=bu v s/\bq (Mem.of w) (fuel+1) s v/\dA (fuel+1) v<=B x.1:=by
 intro fuel
 induction fuel using Nat.strongRecOn with
 |ind fuel ih=>
 intro cs x h;obtain⟨xs,n,rfl,rfl,C,g,r⟩:=DataW.trod_struct underlying33 h;have D:Em B enc w spare held (n+1):=fun k cs x hk d=>by
  obtain⟨v,s,e,hv,hb⟩:=ih k hk cs x d;exact qib
 have T:prog.cellsOf 33=9:=by kernel_rfl
 rw[T]at C;obtain⟨c0,c1,c2,c3,c4,c5,c6,c7,c8,rfl⟩:=gzf C;have X:prog.cellsOf 4=1:=by kernel_rfl
 have W:prog.cellsOf 29=6:=by kernel_rfl
 have V:prog.cellsOf 30=1:=by kernel_rfl
 have U:prog.cellsOf 31=1:=by kernel_rfl
 obtain⟨J,I,G,F,rfl⟩:=gzi g;have z:=m.ag [J.1,I.1,G.1,F.1];simp only[yL,xB,vG,List.sum_nil]at z⊢;have E:=r 0 _ rfl;have f1:=r 1 _ rfl;have f2:=r 2 _ rfl;have f3:=r 3 _ rfl;simp[X,W,V,U]at E f1 f2 f3;obtain⟨a,R,-⟩:=DataW.trod_bool underlying4 E;obtain⟨b0,Z,Y,vi,vf,vt,l,f,t,Q,M⟩:=XV f1;obtain⟨vl,L,P,q,k2⟩:=lG (α:=Lc) (fuel:=n) (size:=2) m (RF (n+1)) underlying30 zk zo (Ph (bq (Mem.of w) (n+1)) (Mem.of w)) (fun K b o cs x N j d=>by
  obtain⟨u,y,c,rfl,A,q,p⟩:=dzg m D zo d;exact⟨c,⟨u,y,iD (i:=0) j rfl,iD (i:=1) j rfl,A,q⟩,p⟩) f2
 obtain⟨vs,S,O,p,k3⟩:=lG (α:=St) (fuel:=n) (size:=2) m (RD (n+1)) underlying31 zk zo (O9 (bq (Mem.of w) (n+1)) (Mem.of w)) (fun K b o cs x N j d=>by
  obtain⟨u,y,c,rfl,A,q,p⟩:=czJ m D zo d;exact⟨c,⟨u,y,iD (i:=0) j rfl,iD (i:=1) j rfl,A,q⟩,p⟩) f3
 cases R;cases Q;cases P;cases O;refine⟨.mk a ⟨b0,Z,Y,l,f,t⟩ L S,⟨_,_,_,_,_⟩,rfl,⟨M,q,p⟩,?_⟩;rw[Ta];simp only[Vl.aN,Vl.aA];omega
theorem az3(b:uN B)(fuel:Nat):Em B enc w spare held (fuel+1):=fun k cs x hk a=>by
 obtain⟨v,s,e,hv,hb⟩:=Tc b k cs x a;exact qib
theorem H9(c:uN B){r:Reach}{q:Nat}{v:zV}{d:DataW H}{p:List MemPlace}(f:Value.okWide prog w r q 35 v)(h:DataW.Trod enc prog w 0 spare held 35 v d p):
 ∃n b a x,v=bP x b a/\bq (Mem.of w) n b x.1/\bq (Mem.of w) n a x.2/\Fh n x<=B d:=by
 obtain⟨cs,rfl,g⟩:=okWide_struct underlying35 f;obtain⟨fuel,i⟩:=h;obtain⟨x,b,a,e,m,k,j⟩:=Px c (az3 c fuel) (Nat.le_succ fuel) i;refine⟨_,b,a,x,?_,m,k,j⟩;have:cs=(bu x.1 b++bu x.2 a).toArray:=by
  have o:cs.toList=bu x.1 b++bu x.2 a:=e;obtain⟨l⟩:=cs;exact congrArg Array.mk o
 rw[this];rfl
end
end Cl
namespace Go.Proofs.YtbbnjopkjbhpbaaGreatDoor
open Go Go.RowKit Go.Proofs Cl
theorem J7{H:Type}:∀l:List (DataW H),Rows.uptoBulkAll l=(l.map Rows.uptoBulk).sum
 |[]=>by simp[Rows.uptoBulkAll]
 |d::l=>by simp[Rows.uptoBulkAll,J7 l]
theorem bz0{H:Type}:uN (Rows.uptoBulk (H:=H)) where
 sl es sp:=by rw[Rows.uptoBulk,J7];omega
 nil:=by simp[Rows.uptoBulk]
 ag ps:=by rw[Rows.uptoBulk,J7];omega
end Go.Proofs.YtbbnjopkjbhpbaaGreatDoor
