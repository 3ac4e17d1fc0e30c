/- Lemmas for the proofs of chapter 11. -/
import Derived.Test.YtbbnjopkjbhpbaaGreatDoorPkP1
set_option maxRecDepth 100000
set_option maxHeartbeats 16000000
namespace Cl
inductive El where
 |dI|dM|dO
 |num (u:Int)
 |str (x:List UInt8)
def El.rk:El->Nat|dI=>0|dM=>1|dO=>2|num _=>3|str _=>4
def El.lt:El->El->Prop
 |num u,num v=>kG u v
 |str x,str y=>Dl x y
 |a,b=>a.rk<b.rk
theorem El.lt_irrefl:∀a:El,¬a.lt a
 |dI=>by simp[El.lt]
 |dM=>by simp[El.lt]
 |dO=>by simp[El.lt]
 |num u=>FU u
 |str x=>dzA x
theorem El.WG{a b:El}(h:a.rk<b.rk):a.lt b:=by
 cases a<;>cases b<;>simp_all [El.lt,El.rk]
theorem El.ezL{a b:El}(h:a.lt b):a.rk<=b.rk:=by
 cases a<;>cases b<;>simp_all [El.lt,El.rk]
theorem El.lt_trans{a b c:El}(h:a.lt b)(k:b.lt c):a.lt c:=by
 by_cases e:a.rk<b.rk
 .exact El.WG (by have:=El.ezL k;omega)
 .by_cases d:b.rk<c.rk
  .exact El.WG (by have:=El.ezL h;omega)
  .cases a<;>cases b<;>simp_all [El.lt,El.rk]<;>cases c<;>simp_all
   .exact rE h k
   .exact qP h k
theorem El.Jc(a b:El):a.lt b\/a=b\/b.lt a:=by
 rcases Nat.lt_trichotomy a.rk b.rk with h|h|h
 .exact .inl (El.WG h)
 .cases a<;>cases b<;>simp_all [El.lt,El.rk]
  .rename_i u v;by_cases e:u=v
   .exact .inr (.inl e)
   .rcases vw e with h|h
    .exact .inl h
    .exact qdw
  .exact uk _ _
 .exact .inr (.inr (El.WG h))
def o8(p:El->Prop):Option El->Prop
 |none=>∀e,¬p e
 |some a=>p a/\∀e,p e->e=a\/a.lt e
theorem o8.congr{p q:El->Prop}{r:Option El}(h:o8 p r)(e:∀a,p a↔q a):o8 q r:=by
 have:p=q:=funext fun a=>propext (e a);rw[<-this];exact h
inductive ny (p q:El->Prop):Int->Prop where
 |same (h:∀a,p a↔q a):ny p q 0
 |lt (x:El) (h1:p x) (h2:¬q x) (h3:∀y,El.lt y x->(p y↔q y)):ny p q (-1)
 |gt (x:El) (h1:¬p x) (h2:q x) (h3:∀y,El.lt y x->(p y↔q y)):ny p q 1
theorem qc{p q:El->Prop}{c d:Int}(h:ny p q c)(k:ny p q d):c=d:=by
 cases h with
 |same h=>
  cases k with
  |same=>rfl
  |lt x a b _=>exact absurd ((h x).1 a) b
  |gt x a b _=>exact absurd ((h x).2 b) a
 |lt x a b e=>
  cases k with
  |same h=>exact absurd ((h x).1 a) b
  |lt=>rfl
  |gt y a' b' e'=>
   rcases El.Jc x y with o|o|o
   .exact absurd ((e' x o).1 a) b
   .subst o;exact absurd a a'
   .exact absurd ((e y o).2 b') a'
 |gt x a b e=>
  cases k with
  |same h=>exact absurd ((h x).2 b) a
  |gt=>rfl
  |lt y a' b' e'=>
   rcases El.Jc x y with o|o|o
   .exact absurd ((e' x o).2 b) a
   .subst o;exact absurd a' a
   .exact absurd ((e y o).1 a') b'
theorem ny.av{p q:El->Prop}{c:Int}(h:ny p q c):ny q p (-c):=by
 cases h with
 |same h=>exact .same fun w=>(h w).symm
 |lt x a b e=>exact .gt x b a fun y d=>(e y d).symm
 |gt x a b e=>exact .lt x b a fun y d=>(e y d).symm
theorem ny.zero{p q:El->Prop}{c:Int}(h:ny p q c):c=0↔∀a,p a↔q a:=by
 constructor
 .rintro rfl
  cases h with
  |same h=>exact h
 .exact fun e=>qc h (.same e)
theorem ny.range{p q:El->Prop}{c:Int}(h:ny p q c): -1<=c/\c<=1:=by cases h<;>omega
theorem ny.congr{p q d b:El->Prop}{c:Int}(h:ny p q c)(e:∀a,p a↔d a)(i:∀a,q a↔b a):ny d b c:=by
 have g:p=d:=funext fun a=>propext (e a);have f:q=b:=funext fun a=>propext (i a);rw[<-g,<-f];exact h
theorem K8{p q r:El->Prop}(h:ny p q (-1))(f:ny q r (-1)):ny p r (-1):=by
 cases h with
 |lt x a b e=>
  cases f with
  |lt y a' b' e'=>
   rcases El.Jc x y with o|o|o
   .exact .lt x a (fun d=>b ((e' x o).2 d)) fun z c=>(e z c).trans (e' z (El.lt_trans c o))
   .subst o;exact absurd a' b
   .exact .lt y ((e y o).2 a') b' fun z c=>(e z (El.lt_trans c o)).trans (e' z c)
theorem Vq{p q r:El->Prop}{x y z:Int}(b:ny p q x)(a:ny q r y)(d:ny p r z)(k:x<=0)(j:y<=0):z<=0/\(z=0↔x=0/\y=0):=by
 have i:=b.range;have h:=a.range;by_cases g:x=0
 .have e:=b.zero.1 g;have c:=a.congr (fun w=>(e w).symm) (fun _=>Iff.rfl);have:=qc d c;omega
 .obtain rfl:x = -1:=zo;by_cases f:y=0
  .have e:=a.zero.1 f;have c:=b.congr (fun _=>Iff.rfl) e;have:=qc d c;omega
  .obtain rfl:y = -1:=zo;have:=qc d (K8 b a);omega
structure RS where
 dI:Bool
 dM:Bool
 dO:Bool
 i:List dm
 f:List dm
 t:aK
def RS.ns(s:RS):NS:=gG s.i s.f
structure RS.iG (s:RS):Prop where
 ei:s.i=s.ns.i
 ef:s.f=s.ns.rf
 ct:cB s.t
def RS.has(s:RS):El->Prop
 |.dI=>s.dI=true
 |.dM=>s.dM=true
 |.dO=>s.dO=true
 |.num u=>s.ns.has u
 |.str x=>Sem s.t x=true
theorem RS.rD(s:RS):fT s.ns:=kU _ _
theorem IC{r s:RS}(b:r.iG)(a:s.iG)(h:∀e,r.has e↔s.has e):r=s:=by
 have o:=h .dI;have m:=h .dM;have l:=h .dO;have k:r.ns=s.ns:=xu r.rD s.rD fun u=>h (.num u);have j:r.t=s.t:=vU b.ct a.ct fun w=>by
  have:=h (.str w);simp only[RS.has,dn b.ct,dn a.ct]at this;exact Bool.eq_iff_iff.2 this
 have d:=b.ei;have c:=b.ef;rw[k,<-a.ei]at d;rw[k,<-a.ef]at c;obtain⟨n,f,t,i,g,T⟩:=r;obtain⟨q,y,p,v,x,z⟩:=s;simp only[RS.has]at o m l;simp only at d c j;subst d c j;rw[Bool.eq_iff_iff.2 o,Bool.eq_iff_iff.2 m,Bool.eq_iff_iff.2 l]
structure jT (p:El->Prop) (s:RS):Prop where
 valid:s.iG
 mem:∀e,s.has e↔p e
theorem jT.unique{p:El->Prop}{r s:RS}(h:jT p r)(k:jT p s):r=s:=IC h.valid k.valid fun e=>(h.mem e).trans (k.mem e).symm
theorem jT.congr{p q:El->Prop}{r:RS}(h:jT p r)(e:∀a,p a↔q a):jT q r:=⟨h.valid,fun a=>(h.mem a).trans (e a)⟩
def cK:RS:=⟨false,false,false,[],[],[]⟩
theorem gI:cK.iG:=⟨rfl,rfl,eD⟩
theorem vQ(e:El):¬cK.has e:=by
 have a:cK.ns=oZ:=dzc
 cases e with
 |dI=>simp[RS.has,cK]
 |dM=>simp[RS.has,cK]
 |dO=>simp[RS.has,cK]
 |num u=>simp only[RS.has,a];exact lQ u
 |str x=>simp only[RS.has,cK,dn eD,hzR];simp
theorem A8:jT (fun _=>False) cK:=⟨gI,fun e=>⟨vQ e,False.elim⟩⟩
noncomputable def iV(s:RS):RS:=if tf s.iG=true then s else cK
theorem bzg{s:RS}(h:s.iG):iV s=s:=by simp[iV,aM h]
theorem YD{s:RS}(h:¬s.iG):iV s=cK:=by simp[iV,aF h]
theorem jk{p:El->Prop}{n f t:Bool}{x:NS}{T:aK}(k:n=true↔p .dI)(j:f=true↔p .dM)(h:t=true↔p .dO)(b:fT x)(g:∀u,x.has u↔p (.num u))
(c:cB T)(d:∀w,Sem T w=true↔p (.str w)):jT p ⟨n,f,t,x.i,x.rf,T⟩:=by
 have e:(⟨n,f,t,x.i,x.rf,T⟩:RS).ns=x:=mR b;refine⟨⟨by rw[e],by rw[e],c⟩,fun a=>?_⟩
 cases a with
 |dI=>exact k
 |dM=>exact j
 |dO=>exact h
 |num u=>simp only[RS.has,e];exact g u
 |str w=>exact d w
theorem czO{a b:RS}(op:Prop->Prop->Prop){n f t:Bool}{x:NS}{T:aK}(l:n=true↔op (a.dI=true) (b.dI=true))(k:f=true↔op (a.dM=true) (b.dM=true))(j:t=true↔op (a.dO=true) (b.dO=true))
(c:fT x)(h:∀u,x.has u↔op (a.ns.has u) (b.ns.has u))(d:cB T)(g:∀w,Sem T w=true↔op (Sem a.t w=true) (Sem b.t w=true)):
 jT (fun e=>op (a.has e) (b.has e)) ⟨n,f,t,x.i,x.rf,T⟩:=jk l k j c h d g
theorem Ur{s:RS}(h:s.dI=true):o8 s.has (some .dI):=⟨h,fun e _=>by cases e<;>simp[El.lt,El.rk]⟩
theorem Us{s:RS}(b:s.dI=false)(h:s.dM=true):o8 s.has (some .dM):=⟨h,fun e a=>by
 cases e<;>simp[El.lt,El.rk]
 simp[RS.has,b]at a⟩
theorem Un{s:RS}(c:s.dI=false)(b:s.dM=false)(h:s.dO=true):o8 s.has (some .dO):=⟨h,fun e a=>by
 cases e<;>simp[El.lt,El.rk]<;>simp[RS.has,c,b]at a⟩
theorem Uq{s:RS}(i:s.dI=false)(g:s.dM=false)(f:s.dO=false){u:Int}(h:fP s.ns=some u):o8 s.has (some (.num u)):=by
 obtain⟨d,c⟩:=(mD s.rD).one u h;refine⟨d,fun e a=>?_⟩
 cases e with
 |dI=>simp[RS.has,i]at a
 |dM=>simp[RS.has,g]at a
 |dO=>simp[RS.has,f]at a
 |num v=>
  rcases c v a with rfl|b
  .exact .inl rfl
  .exact .inr b
 |str w=>exact .inr (by simp[El.lt,El.rk])
theorem Uo{s:RS}(k:s.dI=false)(j:s.dM=false)(i:s.dO=false)(g:fP s.ns=none){r:Option (List UInt8)}(h:ll (Sem s.t) r):o8 s.has (r.map .str):=by
 have d:=(mD s.rD).no g;have b:∀e,s.has e->∃w,e=.str w/\Sem s.t w=true:=fun e a=>by
  cases e with
  |dI=>simp[RS.has,k]at a
  |dM=>simp[RS.has,j]at a
  |dO=>simp[RS.has,i]at a
  |num v=>exact absurd a (d v)
  |str w=>exact⟨w,rfl,a⟩
 cases r with
 |none=>
  intro e a;obtain⟨w,-,c⟩:=b e a;have:=h w;rw[c]at this
  cases this
 |some x=>
  refine⟨h.1,fun e a=>?_⟩;obtain⟨w,rfl,c⟩:=b e a;rcases h.2 w c with rfl|f
  .exact .inl rfl
  .exact .inr f
theorem RL{r s:RS}(h:r.dI≠s.dI):ny r.has s.has (if r.dI then -1 else 1):=by
 cases hr:r.dI with
 |true=>
  rw[hr]at h
  exact .lt .dI hr (fun a=>h a.symm) fun y b=>by cases y<;>simp[El.lt,El.rk]at b
 |false=>
  rw[hr]at h;exact .gt .dI (fun e=>by simp[RS.has,hr]at e) (by cases a:s.dI with|true=>exact a|false=>exact absurd a.symm h) fun y b=>by cases y<;>simp[El.lt,El.rk]at b
theorem RN{r s:RS}(d:r.dI=s.dI)(h:r.dM≠s.dM):ny r.has s.has (if r.dM then -1 else 1):=by
 have b:∀y,El.lt y .dM->(r.has y↔s.has y):=fun y c=>by cases y<;>simp[El.lt,El.rk]at c;simp[RS.has,d]
 cases hr:r.dM with
 |true=>
  rw[hr]at h
  exact .lt .dM hr (fun a=>h a.symm) b
 |false=>
  rw[hr]at h;exact .gt .dM (fun e=>by simp[RS.has,hr]at e) (by cases a:s.dM with|true=>exact a|false=>exact absurd a.symm h) b
theorem RH{r s:RS}(f:r.dI=s.dI)(d:r.dM=s.dM)(h:r.dO≠s.dO):ny r.has s.has (if r.dO then -1 else 1):=by
 have b:∀y,El.lt y .dO->(r.has y↔s.has y):=fun y c=>by cases y<;>simp[El.lt,El.rk]at c<;>simp[RS.has,f,d]
 cases hr:r.dO with
 |true=>
  rw[hr]at h
  exact .lt .dO hr (fun a=>h a.symm) b
 |false=>
  rw[hr]at h;exact .gt .dO (fun e=>by simp[RS.has,hr]at e) (by cases a:s.dO with|true=>exact a|false=>exact absurd a.symm h) b
theorem RJ{r s:RS}(l:r.dI=s.dI)(k:r.dM=s.dM)(j:r.dO=s.dO)(h:rW r.ns s.ns≠0):ny r.has s.has (rW r.ns s.ns):=by
 have f:∀u,(∀v,kG v u->(r.ns.has v↔s.ns.has v))->∀y,El.lt y (.num u)->(r.has y↔s.has y):=fun u i y d=>by
  cases y with
  |dI=>simp[RS.has,l]
  |dM=>simp[RS.has,k]
  |dO=>simp[RS.has,j]
  |num v=>exact i v d
  |str w=>simp[El.lt,El.rk]at d
 rcases Vo r.ns s.ns with e|e|e
 .rw[e];obtain⟨u,a,b,c⟩:=(RG r.rD s.rD).1 e;exact .lt (.num u) a b (f u c)
 .exact absurd e h
 .rw[e];obtain⟨u,a,b,c⟩:=(Y9 r.rD s.rD).1 e;exact .gt (.num u) b a (f u fun v g=>(c v g).symm)
theorem RI{r s:RS}(o:r.dI=s.dI)(n:r.dM=s.dM)(m:r.dO=s.dO)(l:rW r.ns s.ns=0){c:Int}(h:ik (Sem r.t) (Sem s.t) c):ny r.has s.has c:=by
 have k:=(Y8 r.rD s.rD).1 l;have i:∀y,(∀w,y=.str w->Sem r.t w=Sem s.t w)->(r.has y↔s.has y):=fun y g=>by
  cases y with
  |dI=>simp[RS.has,o]
  |dM=>simp[RS.has,n]
  |dO=>simp[RS.has,m]
  |num v=>simp[RS.has,k]
  |str w=>simp[RS.has,g w rfl]
 have f:∀x,(∀z,Dl z x->Sem r.t z=Sem s.t z)->∀y,El.lt y (.str x)->(r.has y↔s.has y):=fun x j y g=>i y fun w e=>by subst e;exact j w g
 cases h with
 |same h=>exact .same fun y=>i y fun w _=>h w
 |lt x a b e=>exact .lt (.str x) a (fun d=>by simp only[RS.has]at d;rw[b]at d;cases d) (f x e)
 |gt x a b e=>exact .gt (.str x) (fun d=>by simp only[RS.has]at d;rw[a]at d;cases d) b (f x e)
end Cl
namespace Cl
def YR:El->Dt
 |.dI=>.mk 1 0 ⟨#[]⟩ [] [] []
 |.dM=>.mk 2 0 ⟨#[]⟩ [] [] []
 |.dO=>.mk 2 1 ⟨#[]⟩ [] [] []
 |.num u=>.mk 3 u ⟨#[]⟩ [] [] []
 |.str x=>.mk 4 0 ⟨x.toArray⟩ [] [] []
def Gw:El->Prop
 |.num u=>dh u
 |_=>True
theorem fzy{s:RS}{e:El}(h:s.has e):Gw e:=by
 cases e with
 |num u=>exact s.rD.mF h
 |_=>exact trivial
def Dr:List UInt8:=[60]
def Du:List UInt8:=[60,61]
def Dv:List UInt8:=[62]
def Dw:List UInt8:=[62,61]
def Gt:List UInt8:=[61,61]
def Cg:List UInt8:=[33,61]
def czT(op:List UInt8)(x u:Int):Prop:=
 if op=Dr then x<u else if op=Du then x<=u else if op=Dv then u<x else if op=Dw then u<=x else if op=Gt then x=u else if op=Cg then x≠u else False
def known(op:List UInt8):Bool:=decide (op=Dr)||decide (op=Du)||decide (op=Dv)||decide (op=Dw)||decide (op=Gt)||decide (op=Cg)
def iF(op:List UInt8)(u:Int):NS:=
 if op=Dr then CR u else if op=Du then KV u else if op=Dv then iO (KV u)else if op=Dw then iO (CR u)else if op=Gt then Cu u else iO (Cu u)
theorem Zn(op:List UInt8)(u:Int):fT (iF op u):=by
 unfold iF
 split
 .exact Ci u
 .split
  .exact Jg u
  .split
   .exact kX (Jg u)
   .split
    .exact kX (Ci u)
    .split
     .exact zw u
     .exact kX (zw u)
theorem VC{op:List UInt8}(h:known op=true)(u v:Int):(iF op u).has v↔dh v/\czT op v u:=by
 unfold iF czT;by_cases e:op=Dr
 .rw[zK e,zK e];exact Ot u v
 rw[zJ e,zJ e];by_cases d:op=Du
 .rw[zK d,zK d];exact Ox u v
 rw[zJ d,zJ d];by_cases c:op=Dv
 .rw[zK c,zK c,pV (Jg u),Ox];exact qdi
 rw[zJ c,zJ c];by_cases b:op=Dw
 .rw[zK b,zK b,pV (Ci u),Ot];exact qdi
 rw[zJ b,zJ b];by_cases a:op=Gt
 .rw[zK a,zK a];exact GR u v
 rw[zJ a,zJ a];have f:op=Cg:=by
  simp only[known,Bool.or_eq_true,decide_eq_true_eq]at h;simpa [e,d,c,b,a]using h
 rw[zK f,pV (zw u),GR];refine and_congr_right fun hv=>?_;simp only[hv,true_and,ne_eq]
end Cl
namespace Cl
theorem EZ:∀(l:List dm) (lo hi:Int),(qC l lo hi).length<=l.length+1
 |[],lo,hi=>by unfold qC;split<;>simp
 |s::r,lo,hi=>by
  have:=EZ r (s.2+1) hi;unfold qC
  split<;>simp<;>omega
theorem tH:∀(r:List dm) (s:dm),(tJ s true r).length<=r.length
 |[],s=>by simp[tJ]
 |x::r,s=>by
  have b:=tH r s;have a:=tH r (min s.1 x.1,max s.2 x.2);rw[tJ]
  split
  .exact qdt
  .split
   .simp only[if_true,xN,yO];omega
   .exact qdt
theorem Jr:∀(r:List dm) (s:dm) (d:Bool),(tJ s d r).length<=r.length+1
 |[],s,d=>by unfold tJ;split<;>simp
 |x::r,s,d=>by
  have c:=Jr r s d;have a:=Jr r (min s.1 x.1,max s.2 x.2) d;have b:=tH r s;rw[tJ]
  split
  .exact qdt
  .split
   .cases d<;>simp only[if_true,Bool.false_eq_true,if_false,xK,xN,yO]<;>omega
   .exact qdt
theorem sK(l:List dm):(pu l).length<=l.length:=by
 have:∀(l out:List dm),(l.foldl (fun out s=>if s.2<s.1 then out else tJ s false out) out).length<=out.length+l.length:=by
  intro l
  induction l with
  |nil=>intro out;simp
  |cons s l ih=>
   intro out;have:=ih (if s.2<s.1 then out else tJ s false out);have a:(if s.2<s.1 then out else tJ s false out).length<=out.length+1:=by
    split
    .omega
    .exact Jr out s false
   simp only[List.foldl_cons,yO];omega
 have:=this l [];rw[pu];exact qbi
theorem EW(l:List dm):(nI l).length<=l.length:=by
 have:=vB (fun s=>decide (s.1<=s.2)) (l.map wu);simpa [nI]using this
theorem EX(l:List dm):(nJ l).length<=l.length:=by
 have:=vB (fun s=>decide (s.1<=s.2)) (l.map qd);simpa [nJ]using this
theorem Ac(a b:List dm):(eZ a b).length<=a.length*b.length:=by
 induction a with
 |nil=>simp[eZ]
 |cons x a ih=>
  have h:=vB (fun z:dm=>decide (z.1<=z.2)) (b.map (kY x));have e:eZ (x::a) b=((b.map (kY x)).filter fun z=>decide (z.1<=z.2))++eZ a b:=by simp[eZ]
  rw[e,zL,yO,Nat.succ_mul];rw[xC]at h;omega
structure NS.Le (x:NS) (k:Nat):Prop where
 i:x.i.length<=k
 f:x.f.length<=k
theorem NS.rC(x:NS):x.rf.length=x.f.length:=by simp[NS.rf]
theorem NS.Le.mono{x:NS}{k n:Nat}(h:x.Le k)(hk:k<=n):x.Le n:=⟨yJ h.i hk,yJ h.f hk⟩
theorem jy{I F:List dm}{k:Nat}(b:I.length<=k)(a:F.length<=k):(gG I F).Le k:=by
 refine⟨yJ (sK _) (yJ (EW I) b),yJ (sK _) ?_⟩;rw[xC];exact yJ (EX F) a
theorem sJ{x:NS}{k:Nat}(h:x.Le k):(iO x).Le (k+1):=
 ⟨yJ (EZ _ _ _) (Nat.succ_le_succ h.i),yJ (EZ _ _ _) (Nat.succ_le_succ h.f)⟩
theorem azA{x y:NS}{k n:Nat}(h:x.Le k)(e:y.Le n):(p8 x y).Le (k+n):=by
 have a:=h.i;have b:=h.f;have c:=e.i;have d:=e.f;refine⟨yJ (sK _) ?_,yJ (sK _) ?_⟩<;>rw[zL]<;>omega
theorem WZ{x y:NS}{k n:Nat}(h:x.Le k)(a:y.Le n):(qL x y).Le (k+n+3):=(sJ (azA (sJ h) (sJ a))).mono zo
theorem EO{x y:NS}{k n:Nat}(h:x.Le k)(a:y.Le n):(gK x y).Le (k+n+4):=(WZ h (sJ a)).mono zo
theorem fz4(u:Int):u.tdiv 10000=if u%10000=0\/0<=u then u/10000 else u/10000+1:=by
 rw[Int.tdiv_eq_ediv];have:((10000:Int) ∣ u)↔u%10000=0:=Int.dvd_iff_emod_eq_zero;simp only[this,Int.sign]
 exact qdz
theorem ezB(u:Int):u.tmod 10000=if u%10000=0\/0<=u then u%10000 else u%10000-10000:=by
 rw[Int.tmod_eq_emod];have:((10000:Int) ∣ u)↔u%10000=0:=Int.dvd_iff_emod_eq_zero;simp only[this]
 exact qdz
theorem uW(u:Int):u.tmod 10000=0↔u%10000=0:=by rw[ezB];split<;>omega
end Cl
namespace Cl
noncomputable def mZ(s:RS):Bool:=tf (∀e,¬(iV s).has e)
noncomputable def azb(a b:RS):Bool:=tf (∀e,(iV a).has e->(iV b).has e)
theorem Rm{s:RS}(h:o8 (iV s).has none):mZ s=true:=aM h
theorem Rl{s:RS}{e:El}(h:o8 (iV s).has (some e)):mZ s=false:=aF fun k=>k e h.1
theorem XF{a b r:RS}(k:jT (fun e=>(iV a).has e/\¬(iV b).has e) r):mZ r=azb a b:=by
 refine dY ?_;rw[bzg k.valid];constructor
 .intro h e f
  cases hb:tf ((iV b).has e)with
  |true=>exact kF.1 hb
  |false=>exact absurd ((k.mem e).2 ⟨f,fun c=>by rw[aM c]at hb;cases hb⟩) (h e)
 .intro h e d;obtain⟨i,g⟩:=(k.mem e).1 d;exact g (h e i)
end Cl
namespace Cl
structure kw {α:Type} (p:α->Prop) (c:α->α->Int):Prop where
 iZ:∀a b,p a->p b -> -1<=c a b/\c a b<=1
 oC:∀a b,p a->p b->c b a = - c a b
 eq:∀a b,p a->p b->(c a b=0↔a=b)
 tr:∀a b d,p a->p b->p d->c a b<=0->c b d<=0->c a d<=0
def sI(a b:Int):Int:=if a=0 then b else a
theorem Qe{a b:Int}:sI a b=0↔a=0/\b=0:=by unfold sI;split<;>simp_all
theorem Ye(a b c:Int):sI (sI a b) c=sI a (sI b c):=by unfold sI;split<;>simp_all
theorem uz(a:Int):sI a 0=a:=by unfold sI;split<;>simp_all
namespace kw
variable {α β:Type} {p:α->Prop} {q:β->Prop} {c:α->α->Int} {d:β->β->Int}
theorem self(h:kw p c){a:α}(b:p a):c a a=0:=(h.eq a a b b).2 rfl
theorem sub(h:kw p c){e:α->Prop}(k:∀a,e a->p a):kw e c where
 iZ a b ha hb:=h.iZ a b (k a ha) (k b hb)
 oC a b ha hb:=h.oC a b (k a ha) (k b hb)
 eq a b ha hb:=h.eq a b (k a ha) (k b hb)
 tr a b d ha hb hd:=h.tr a b d (k a ha) (k b hb) (k d hd)
theorem pair(h:kw p c)(k:kw q d):kw (fun x:α×β=>p x.1/\q x.2) (fun x y=>sI (c x.1 y.1) (d x.2 y.2)) where
 iZ a b ha hb:=by
  unfold sI;split
  .exact k.iZ _ _ ha.2 hb.2
  .exact h.iZ _ _ ha.1 hb.1
 oC a b ha hb:=by
  have g:=h.oC _ _ ha.1 hb.1;have e:=k.oC _ _ ha.2 hb.2;unfold sI;exact qdz
 eq a b ha hb:=by
  rw[Qe,h.eq _ _ ha.1 hb.1,k.eq _ _ ha.2 hb.2];exact⟨fun x=>Prod.ext x.1 x.2,fun x=>by rw[x];exact⟨rfl,rfl⟩⟩
 tr a b x ha hb hx g e:=by
  unfold sI at g e⊢;have n:=h.eq _ _ ha.1 hb.1;have m:=h.eq _ _ hb.1 hx.1;have l:=h.eq _ _ ha.1 hx.1;have t:=h.tr _ _ _ ha.1 hb.1 hx.1;by_cases i:c a.1 b.1=0
  .rw[zK i]at g;have z:=n.1 i;by_cases f:c b.1 x.1=0
   .rw[zK f]at e;rw[z,zK f];exact k.tr _ _ _ ha.2 hb.2 hx.2 g e
   .rw[zJ f]at e;rw[z,zJ f];exact e
  .rw[zJ i]at g;by_cases f:c b.1 x.1=0
   .rw[<-m.1 f,zJ i];exact g
   .rw[zJ f]at e;have t:=t g e
    split
    .rename_i j;have z:=l.1 j;have:=h.oC _ _ ha.1 hb.1;rw[<-z]at e;omega
    .exact t
theorem by'(f:β->α)(h:kw p c)(g:∀x y,q x->q y->f x=f y->x=y)(e:∀x,q x->p (f x)):kw q (fun x y=>c (f x) (f y)) where
 iZ a b ha hb:=h.iZ _ _ (e a ha) (e b hb)
 oC a b ha hb:=h.oC _ _ (e a ha) (e b hb)
 eq a b ha hb:=⟨fun x=>g a b ha hb ((h.eq _ _ (e a ha) (e b hb)).1 x),fun x=>by rw[x];exact h.self (e b hb)⟩
 tr a b d ha hb hd:=h.tr _ _ _ (e a ha) (e b hb) (e d hd)
end kw
def eO{α:Type}(c:α->α->Int):List α->List α->Int
 |[],[]=>0
 |[],_::_ => -1
 |_::_,[]=>1
 |a::l,b::m=>sI (c a b) (eO c l m)
theorem DJ{α:Type}{p:α->Prop}{c:α->α->Int}(h:kw p c):kw (fun l=>∀x∈l,p x) (eO c) where
 iZ:=by
  intro a
  induction a with
  |nil=>intro b _ _;cases b<;>simp[eO]
  |cons x a ih=>
   intro b f e
   cases b with
   |nil=>simp[eO]
   |cons y b=>
    simp only[yA,forall_eq_or_imp]at f e;have i:=h.iZ x y f.1 e.1;have g:=ih b f.2 e.2;simp only[eO,sI];split<;>assumption
 oC:=by
  intro a
  induction a with
  |nil=>intro b _ _;cases b<;>simp[eO]
  |cons x a ih=>
   intro b f e
   cases b with
   |nil=>simp[eO]
   |cons y b=>
    simp only[yA,forall_eq_or_imp]at f e;have i:=h.oC x y f.1 e.1;have g:=ih b f.2 e.2;simp only[eO,sI];exact qdz
 eq:=by
  intro a
  induction a with
  |nil=>intro b _ _;cases b<;>simp[eO]
  |cons x a ih=>
   intro b f e
   cases b with
   |nil=>simp[eO]
   |cons y b=>
    simp only[yA,forall_eq_or_imp]at f e;rw[eO,Qe,h.eq x y f.1 e.1,ih b f.2 e.2];simp
 tr:=by
  intro a
  induction a with
  |nil=>intro b d _ _ _ i g;cases d<;>simp[eO]
  |cons x a ih=>
   intro b d f e k i g
   cases b with
   |nil=>simp[eO]at i
   |cons y b=>
    cases d with
    |nil=>simp[eO]at g
    |cons z d=>
     simp only[yA,forall_eq_or_imp]at f e k;have s:=h.eq x y f.1 e.1;have r:=h.eq y z e.1 k.1;have q:=h.eq x z f.1 k.1;have t:=h.tr x y z f.1 e.1 k.1;simp only[eO,sI]at i g⊢;by_cases n:c x y=0
     .rw[zK n]at i;have m:=s.1 n;by_cases j:c y z=0
      .rw[zK j]at g;rw[m,zK j];exact ih b d f.2 e.2 k.2 i g
      .rw[zJ j]at g;rw[m,zJ j];exact g
     .rw[zJ n]at i;by_cases j:c y z=0
      .rw[<-r.1 j,zJ n];exact i
      .rw[zJ j]at g;have t:=t i g
       split
       .rename_i o;have m:=q.1 o;have:=h.oC x y f.1 e.1;rw[<-m]at g;omega
       .exact t
theorem uC{α:Type}(c:α->α->Int)(l m:List α)(k:Nat)(b:k<l.length)(a:k<m.length):eO c (l.drop k) (m.drop k)=sI (c l[k] m[k]) (eO c (l.drop (k+1)) (m.drop (k+1))):=by
 rw[yE b,yE a];rfl
theorem yh{α:Type}(c:α->α->Int)(l m:List α)(k:Nat)(a:l.length<=k):eO c (l.drop k) (m.drop k)=if k<m.length then -1 else 0:=by
 rw[zQ a]
 split
 .rename_i h;rw[yE h];rfl
 .rename_i h;rw[zQ zo];rfl
theorem uD{α:Type}(c:α->α->Int)(l m:List α)(k:Nat)(b:k<l.length)(a:m.length<=k):eO c (l.drop k) (m.drop k)=1:=by
 rw[yE b,zQ a];rfl
def BB(a b:Bool):Int:=if a=b then 0 else if a then -1 else 1
theorem Q4:kw (fun _=>True) BB where
 iZ a b _ _:=by cases a<;>cases b<;>decide
 oC a b _ _:=by cases a<;>cases b<;>decide
 eq a b _ _:=by cases a<;>cases b<;>decide
 tr a b d _ _ _:=by cases a<;>cases b<;>cases d<;>decide
def Oa(a b:Int):Int:=if a<b then -1 else if b<a then 1 else 0
theorem Wv:kw (fun _=>True) Oa where
 iZ a b _ _:=by unfold Oa;split<;>(try split)<;>omega
 oC a b _ _:=by unfold Oa;split<;>split<;>(try split)<;>omega
 eq a b _ _:=by unfold Oa;split<;>(try split)<;>omega
 tr a b d _ _ _:=by unfold Oa;split<;>split<;>split<;>(try split)<;>(try split)<;>(try split)<;>omega
end Cl
namespace Cl
inductive Vl where
 |mk (any:Bool) (s:RS) (aN:List (List (Vl×Vl)×List (Vl×Vl))) (aA:List (List ((ByteArray×Int)×(Vl×Vl))×List (aK×(Vl×Vl))))
abbrev Vd:=Vl×Vl
abbrev Lc:=List Vd×List Vd
abbrev Fd:=(ByteArray×Int)×Vd
abbrev Kl:=aK×Vd
abbrev St:=List Fd×List Kl
def Vl.any:Vl->Bool|.mk a _ _ _=>a
def Vl.s:Vl->RS|.mk _ s _ _=>s
def Vl.aN:Vl->List Lc|.mk _ _ l _=>l
def Vl.aA:Vl->List St|.mk _ _ _ t=>t
def aY(c:Lc):List Vd:=c.1++c.2
def bN(c:St):List Vd:=c.1.map (·.2)++c.2.map (·.2)
def Vl.kids(v:Vl):List Vd:=v.aN.flatMap aY++v.aA.flatMap bN
def dB:Vl:=.mk false cK [] []
def fE:Vl:=.mk true cK [] []
def Ht:Nat->Vl->Prop
 |0,_=>False
 |n+1,v=>∀x∈v.kids,Ht n x.1/\Ht n x.2
theorem Ht.succ:∀{n:Nat} {v:Vl},Ht n v->Ht (n+1) v
 |0,_,h=>h.elim
 |_+1,_,h=>fun x a=>⟨(h x a).1.succ,(h x a).2.succ⟩
theorem Ht.mono{n m:Nat}{v:Vl}(h:Ht n v)(k:n<=m):Ht m v:=by
 induction k with
 |refl=>exact h
 |step _ ih=>exact ih.succ
def dA:Nat->Vl->Nat
 |0,_=>0
 |n+1,v=>1+(v.kids.map fun x=>dA n x.1+dA n x.2).sum
theorem LM{α:Type}{f g:α->Nat}:∀{l:List α},(∀x∈l,f x=g x)->(l.map f).sum=(l.map g).sum
 |[],_=>rfl
 |x::l,h=>by
  simp only[yL,vG];rw[h x zS,LM fun y hy=>h y qei]
theorem Ew:∀{n:Nat} {v:Vl},Ht n v->dA (n+1) v=dA n v
 |0,_,h=>h.elim
 |n+1,v,h=>by
  rw[dA,dA]
  congr 1
  exact LM fun x a=>by rw[Ew (h x a).1,Ew (h x a).2]
theorem Aw{n m:Nat}{v:Vl}(h:Ht n v)(k:n<=m):dA m v=dA n v:=by
 induction k with
 |refl=>rfl
 |step k ih=>rw[Ew (h.mono k),ih]
theorem Hz{n:Nat}{v:Vl}(h:Ht n v):1<=dA n v:=by
 cases n with
 |zero=>exact h.elim
 |succ n=>rw[dA];omega
structure czr (k:Nat) (most r:Int):Prop where
 le:(k:Int)<=most->r=k
 gt:most<k->most<r
 pos:1<=r
 top:r<=if most<1 then 1 else 2*most+2
structure Kz (p:Nat) (most n:Int):Prop where
 le:(p:Int)<=most->n=p
 gt:most<p->most<n
 pos:1<=n
 top:n<=if most<1 then 1 else 2*most+2
theorem Kz.start(a:Int):Kz 1 a 1:=⟨fun _=>rfl,fun h=>h,zo,by split<;>omega⟩
theorem Kz.step{p a b:Nat}{c n x y:Int}(h:Kz p c n)(u:n<=c)(q:czr a (c-n) x)(o:czr b (c-(n+x)) y)(w:1<=a)(v:1<=b):Kz (p+(a+b)) c (n+x+y):=by
 obtain⟨B,A,z,r⟩:=h;obtain⟨d,l,t,j⟩:=q;obtain⟨i,g,s,f⟩:=o;have e:n=p:=zo;rw[zJ zo]at r;refine⟨fun k=>?_,fun k=>?_,zo,?_⟩
 .have:=d zo;have:=i zo;omega
 .by_cases m:(a:Int)<=c-n
  .have:=d m;have:=g zo;omega
  .have:=l zo;omega
 .rw[zJ zo]
  split at j<;>split at f<;>omega
def GY(a b:ByteArray):Bool:=Go.Op.bytesLess a.data.toList b.data.toList
structure fV (l:List Fd):Prop where
 fze:∀f∈l,f.1.2=1\/f.1.2=2
 asc:∀i (h:i+1<l.length),GY l[i].1.1 (l[i+1]).1.1=true
noncomputable def Gv(c:St)(w:List UInt8):Nat:=c.2.countP (fun k=>Sem k.1 w)+c.1.countP (fun f=>f.1.1.data.toList==w)
structure bH (c:St):Prop where
 sets:∀k∈c.2,cB k.1/\k.1≠[]
 once:∀w,Gv c w=1
structure su (v:Vl):Prop where
 any:v.any=true->v.s=cK/\v.aN=[]/\v.aA=[]
 rest:∀c∈v.aN,c.2.length<=1
 st:∀c∈v.aA,fV c.1/\bH c
 sc:v.s.iG
def iQ:Nat->Vl->Prop
 |0,_=>False
 |n+1,v=>su v/\∀x∈v.kids,iQ n x.1/\iQ n x.2
def jR(v:Vl):Prop:=iQ 16 v
theorem iQ.ht:∀{n:Nat} {v:Vl},iQ n v->Ht n v
 |0,_,h=>h.elim
 |_+1,_,h=>fun x a=>⟨(h.2 x a).1.ht,(h.2 x a).2.ht⟩
def gze:List Nat->Nat
 |[]=>0
 |x::l=>max x (gze l)
def dep:Nat->Vl->Nat
 |0,_=>0
 |n+1,v=>gze (v.kids.map fun x=>max (dep n x.1) (dep n x.2))+1
theorem qU{α:Type}(f:α->Nat)(P:α->Prop):∀k a,f a<=k->P a->∃b,P b/\∀d,P d->f b<=f d
 |0,a,h,hp=>⟨a,hp,fun d _=>zo⟩
 |k+1,a,h,hp=>by
  by_cases e:∃d,P d/\f d<=k
  .obtain⟨d,i,c⟩:=e;exact qU f P k d c i
  .exact⟨a,hp,fun d g=>by
    have:¬f d<=k:=fun c=>e ⟨d,g,c⟩;omega⟩
theorem Mv:∀(n:Nat) (P:List UInt8->Prop) (w:List UInt8),w.length=n->P w->∃w,w.length=n/\P w/\∀y,y.length=n->P y->y=w\/lex w y
 |0,P,w,h,hp=>⟨w,h,hp,fun y c _=>.inl (by rw[xJ.1 h,xJ.1 c])⟩
 |n+1,P,[],h,hp=>by simp at h
 |n+1,P,a::w,h,hp=>by
  obtain⟨b,⟨t,p,o⟩,m⟩:=qU (fun b:UInt8=>b.toNat) (fun b=>∃t,t.length=n/\P (b::t)) a.toNat a (zI _) ⟨w,by simpa using h,hp⟩;obtain⟨u,l,k,j⟩:=Mv n (fun t=>P (b::t)) t p o;refine⟨b::u,by simp[l],k,fun y c g=>?_⟩
  cases y with
  |nil=>simp at c
  |cons d y=>
   have f:y.length=n:=by simpa using c
   have:=m d ⟨y,f,g⟩;by_cases e:b=d
   .subst e;rcases j y f g with rfl|i
    .exact .inl rfl
    .exact .inr (.inr ⟨rfl,i⟩)
   .refine .inr (.inl (UInt8.lt_iff_toNat_lt.2 ?_));have:b.toNat≠d.toNat:=fun h=>e (UInt8.toNat_inj.1 h);omega
theorem XU{P:List UInt8->Prop}{w:List UInt8}(b:P w):∃w,P w/\∀y,P y->y=w\/Dl w y:=by
 obtain⟨x,g,f⟩:=qU List.length P w.length w (zI _) b;obtain⟨u,i,d,c⟩:=Mv x.length P x rfl g;refine⟨u,d,fun y a=>?_⟩;have:=f y a;by_cases e:y.length=x.length
 .rcases c y e a with h|h
  .exact .inl h
  .exact .inr (.inr ⟨zo,h⟩)
 .exact .inr (.inl zo)
theorem Vm(f g:List UInt8->Bool):∃c,ik f g c:=by
 by_cases h:∃w,f w≠g w
 .obtain⟨w,j⟩:=h;obtain⟨x,i,k⟩:=XU (P:=fun w=>f w≠g w) j;have d:∀y,Dl y x->f y=g y:=fun y b=>by
   by_cases e:f y=g y
   .exact e
   .rcases k y e with rfl|h
    .exact absurd b (dzA _)
    .exact(um h b).elim
  cases hf:f x with
  |true=>exact⟨_,.lt x hf (by cases a:g x with|false=>rfl|true=>exact absurd (hf.trans a.symm) i) d⟩
  |false=>exact⟨_,.gt x hf (by cases a:g x with|true=>rfl|false=>exact absurd (hf.trans a.symm) i) d⟩
 .exact⟨0,.same fun w=>Classical.not_not.1 fun e=>h ⟨w,e⟩⟩
theorem WV(a b:RS):∃c,ny a.has b.has c:=by
 by_cases d:a.dI=b.dI
 .by_cases e:a.dM=b.dM
  .by_cases f:a.dO=b.dO
   .by_cases g:rW a.ns b.ns=0
    .obtain⟨c,h⟩:=Vm (Sem a.t) (Sem b.t);exact⟨c,RI d e f g h⟩
    .exact⟨_,RJ d e f g⟩
   .exact⟨_,RH d e f⟩
  .exact⟨_,RN d e⟩
 .exact⟨_,RL d⟩
noncomputable def scC(a b:RS):Int:=(WV a b).choose
theorem rz(a b:RS):ny a.has b.has (scC a b):=(WV a b).choose_spec
theorem azu{a b:RS}{c:Int}(h:ny a.has b.has c):scC a b=c:=qc (rz a b) h
noncomputable def pY(a b:aK):Int:=(Vm (Sem a) (Sem b)).choose
theorem jo(a b:aK):ik (Sem a) (Sem b) (pY a b):=(Vm (Sem a) (Sem b)).choose_spec
theorem DL{a b:aK}{c:Int}(h:ik (Sem a) (Sem b) c):pY a b=c:=rV (jo a b) h
theorem GM:kw RS.iG scC where
 iZ a b _ _:=(rz a b).range
 oC a b _ _:=azu (rz a b).av
 eq a b ha hb:=(rz a b).zero.trans ⟨fun h=>IC ha hb h,fun h e=>by rw[h]⟩
 tr a b d _ _ _ h1 h2:=(Vq (rz a b) (rz b d) (rz a d) h1 h2).1
theorem nH:kw cB pY where
 iZ a b _ _:=(jo a b).range
 oC a b _ _:=DL (jo a b).av
 eq a b ha hb:=(jo a b).zero.trans ⟨fun h=>nG (kD ha) ((kD hb).congr fun w=>(h w).symm),fun h w=>by rw[h]⟩
 tr a b d _ _ _ h1 h2:=(M8 (jo a b) (jo b d) (jo a d) h1 h2).1
def Ij(a b:ByteArray):Int:=if GY a b then -1 else if a=b then 0 else 1
theorem J6:∀x:List UInt8,Go.Op.bytesLess x x=false
 |[]=>rfl
 |a::x=>by simp[Go.Op.bytesLess,J6 x]
theorem Nj:∀x y:List UInt8,x≠y->Go.Op.bytesLess x y = !Go.Op.bytesLess y x
 |[],[],h=>absurd rfl h
 |[],_::_,_=>by simp[Go.Op.bytesLess]
 |_::_,[],_=>by simp[Go.Op.bytesLess]
 |a::x,b::y,h=>by
  by_cases e:a=b
  .subst e;have:=Nj x y (fun i=>h (by rw[i]));simp[Go.Op.bytesLess,this]
  .have g:a.toNat≠b.toNat:=fun h=>e (UInt8.toNat_inj.1 h);rcases Nat.lt_or_gt_of_ne g with f|f
   .have d:a<b:=UInt8.lt_iff_toNat_lt.2 f;have c:¬b<a:=fun h=>by have:=UInt8.lt_iff_toNat_lt.1 h;omega
    simp[Go.Op.bytesLess,d,c,Ne.symm e]
   .have d:b<a:=UInt8.lt_iff_toNat_lt.2 f;have c:¬a<b:=fun h=>by have:=UInt8.lt_iff_toNat_lt.1 h;omega
    simp[Go.Op.bytesLess,d,c,e]
theorem Ni:∀x y z:List UInt8,Go.Op.bytesLess x y=true->Go.Op.bytesLess y z=true->Go.Op.bytesLess x z=true
 |[],[],_,h,_=>by simp[Go.Op.bytesLess]at h
 |_::_,[],_,h,_=>by simp[Go.Op.bytesLess]at h
 |_,_::_,[],_,h=>by simp[Go.Op.bytesLess]at h
 |[],_::_,_::_,_,_=>by simp[Go.Op.bytesLess]
 |a::x,b::y,c::z,h,k=>by
  simp[Go.Op.bytesLess]at h k⊢;rcases h with h|⟨rfl,h⟩
  .rcases k with k|⟨rfl,k⟩
   .exact .inl (UInt8.lt_trans h k)
   .exact .inl h
  .rcases k with k|⟨rfl,k⟩
   .exact .inl k
   .exact .inr ⟨rfl,Ni x y z h k⟩
theorem O5{a b:ByteArray}(h:a.data.toList=b.data.toList):a=b:=by
 obtain⟨⟨a⟩⟩:=a;obtain⟨⟨b⟩⟩:=b;simp only at h;rw[h]
theorem Cz(a:ByteArray):GY a a=false:=J6 _
theorem Zr{a b:ByteArray}(h:a≠b):GY a b = !GY b a:=Nj _ _ fun e=>h (O5 e)
theorem Fw{a b c:ByteArray}(h:GY a b=true)(k:GY b c=true):GY a c=true:=Ni _ _ _ h k
theorem azc:kw (fun _=>True) Ij where
 iZ a b _ _:=by unfold Ij;split<;>(try split)<;>omega
 oC a b _ _:=by
  by_cases e:a=b
  .subst e;simp[Ij,Cz]
  .have:=Zr e;unfold Ij;rw[zJ e,zJ (Ne.symm e),this];cases GY b a<;>simp
 eq a b _ _:=by
  by_cases e:a=b
  .subst e;simp[Ij,Cz]
  .unfold Ij;rw[zJ e];cases GY a b<;>simp[e]
 tr a b d _ _ _ h1 h2:=by
  unfold Ij at*
  by_cases f:a=b
  .subst f;exact h2
  .by_cases c:b=d
   .subst c;exact h1
   .rw[zJ f]at h1;rw[zJ c]at h2;have i:GY a b=true:=by cases h:GY a b with|true=>rfl|false=>rw[h]at h1;simp at h1
    have g:GY b d=true:=by cases h:GY b d with|true=>rfl|false=>rw[h]at h2;simp at h2
    rw[zK (Fw i g)];omega
noncomputable def uq(c:Vl->Vl->Int)(a b:Vd):Int:=sI (c a.1 b.1) (c a.2 b.2)
noncomputable def Pn(c:Vl->Vl->Int)(a b:Lc):Int:=sI (Oa a.1.length b.1.length) (sI (BB (decide (0<a.2.length)) (decide (0<b.2.length))) (eO (uq c) (aY a) (aY b)))
noncomputable def fdC(c:Vl->Vl->Int)(a b:Fd):Int:=sI (sI (Ij a.1.1 b.1.1) (Oa a.1.2 b.1.2)) (uq c a.2 b.2)
noncomputable def klC(c:Vl->Vl->Int)(a b:Kl):Int:=sI (pY a.1 b.1) (uq c a.2 b.2)
noncomputable def Pm(c:Vl->Vl->Int)(a b:St):Int:=sI (eO (fdC c) a.1 b.1) (eO (klC c) a.2 b.2)
noncomputable def gW:Nat->Vl->Vl->Int
 |0,_,_=>0
 |n+1,a,b=>sI (BB a.any b.any) (sI (scC a.s b.s) (sI (eO (Pn (gW n)) a.aN b.aN) (eO (Pm (gW n)) a.aA b.aA)))
theorem Hr{a b:Vl}(f:a.any=b.any)(e:a.s=b.s)(d:a.aN=b.aN)(c:a.aA=b.aA):a=b:=by
 obtain⟨_,_,_,_⟩:=a;obtain⟨_,_,_,_⟩:=b;simp only[Vl.any,Vl.s,Vl.aN,Vl.aA]at*
 subst f e d c;rfl
theorem eB{v:Vl}{c:Lc}(b:c∈v.aN){x:Vd}(a:x∈aY c):x∈v.kids:=yP.2 (.inl (xW.2 ⟨c,b,a⟩))
theorem eQ{v:Vl}{c:St}(b:c∈v.aA){x:Vd}(a:x∈bN c):x∈v.kids:=yP.2 (.inr (xW.2 ⟨c,b,a⟩))
theorem oP{v:Vl}{c:St}(b:c∈v.aA){f:Fd}(a:f∈c.1):f.2∈v.kids:=eQ b (yP.2 (.inl (yD.2 ⟨f,a,rfl⟩)))
theorem oQ{v:Vl}{c:St}(a:c∈v.aA){k:Kl}(hk:k∈c.2):k.2∈v.kids:=eQ a (yP.2 (.inr (yD.2 ⟨k,hk,rfl⟩)))
section
variable {p:Vl->Prop} {c:Vl->Vl->Int}
theorem NA(h:kw p c):kw (fun x:Vd=>p x.1/\p x.2) (uq c):=h.pair h
theorem GQ(h:kw p c):kw (fun x:Lc=>x.2.length<=1/\∀y∈aY x,p y.1/\p y.2) (Pn c):=by
 have d:=(Wv.pair (Q4.pair (DJ (NA h)))).by' (q:=fun x:Lc=>x.2.length<=1/\∀y∈aY x,p y.1/\p y.2) (fun x:Lc=>((x.1.length:Int),decide (0<x.2.length),aY x)) (fun x y a j e=>by
  simp only[Prod.mk.injEq]at e;obtain⟨b,k,i⟩:=e;have b:x.1.length=y.1.length:=zo;obtain⟨g,f⟩:=List.append_inj i b;exact Prod.ext g f) (fun x a=>⟨trivial,trivial,a.2⟩)
 exact d
theorem dzB(h:kw p c):kw (fun x:Fd=>p x.2.1/\p x.2.2) (fdC c):=
 ((azc.pair Wv).pair (NA h)).sub fun _ h=>⟨⟨trivial,trivial⟩,h⟩
theorem dzq(h:kw p c):kw (fun x:Kl=>cB x.1/\p x.2.1/\p x.2.2) (klC c):=nH.pair (NA h)
theorem GJ(h:kw p c):kw (fun x:St=>(∀f∈x.1,p f.2.1/\p f.2.2)/\∀k∈x.2,cB k.1/\p k.2.1/\p k.2.2) (Pm c):=(DJ (dzB h)).pair (DJ (dzq h))
end
theorem vT:∀n,kw (iQ n) (gW n)
 |0=>⟨fun _ _ h=>h.elim,fun _ _ h=>h.elim,fun _ _ h=>h.elim,fun _ _ _ h=>h.elim⟩
 |n+1=>by
  have d:=vT n;have h:=(Q4.pair (GM.pair ((DJ (GQ d)).pair (DJ (GJ d))))).by' (q:=iQ (n+1)) (fun v:Vl=>(v.any,v.s,v.aN,v.aA)) (fun x y _ _ e=>by
   simp only[Prod.mk.injEq]at e;exact Hr e.1 e.2.1 e.2.2.1 e.2.2.2) (fun v a=>⟨trivial,a.1.sc,fun c b=>⟨a.1.rest c b,fun y g=>a.2 y (eB b g)⟩,fun c b=>
    ⟨fun f i=>a.2 _ (oP b i),fun k hk=>⟨((a.1.st c b).2.sets k hk).1,a.2 _ (oQ b hk)⟩⟩⟩)
  exact h
end Cl
namespace Cl
structure fF where
 n:Nat
 step:Int->Nat->Int
 acc:Int->Bool
structure fF.Ok (c:fF):Prop where
 pos:1<=c.n
 step:∀i b,-1<=c.step i b/\c.step i b<c.n
def fF.from(c:fF):Int->List UInt8->Int
 |i,[]=>i
 |i,b::w=>c.from (c.step i b.toNat) w
def fF.qw(c:fF)(w:List UInt8):Bool:=c.acc (c.from 0 w)
def iI(cs:List fF)(v:List Int)(b:Nat):List Int:=List.zipWith (fun c i=>c.step i b) cs v
def eY(cs:List fF):List Int:=cs.map fun _=>0
def pK(cs:List fF)(v:List Int):Nat:=(List.zipWith (fun c i=>c.acc i) cs v).countP id
def sW(cs:List fF):List Int->List UInt8->List Int
 |v,[]=>v
 |v,b::w=>sW cs (iI cs v b.toNat) w
theorem wF{α β γ:Type}(f:α->β->γ)(g:α->β):∀l:List α,List.zipWith f l (l.map g)=l.map fun x=>f x (g x)
 |[]=>rfl
 |x::l=>by simp only[yL,List.zipWith_cons_cons,wF f g l]
theorem jf(cs:List fF):∀(w:List UInt8) (f:fF->Int),sW cs (cs.map f) w=cs.map fun c=>c.from (f c) w
 |[],f=>rfl
 |b::w,f=>by
  rw[sW,iI,wF,jf cs w]
  rfl
theorem LC(cs:List fF)(w:List UInt8):pK cs (sW cs (eY cs) w)=cs.countP fun c=>c.qw w:=by
 rw[eY,jf,pK,wF,List.countP_map]
 rfl
theorem FJ(cs:List fF):∀(u w:List UInt8) (v:List Int),sW cs v (u++w)=sW cs (sW cs v u) w
 |[],_,_=>rfl
 |b::u,w,v=>by simp only[xK,sW,FJ cs u w]
def lX(cs:List fF)(v:List Int):Prop:=∃w,v=sW cs (eY cs) w
theorem lX.start(cs:List fF):lX cs (eY cs):=⟨[],rfl⟩
theorem lX.step{cs:List fF}{v:List Int}(h:lX cs v){b:Nat}(a:b<256):lX cs (iI cs v b):=by
 obtain⟨w,rfl⟩:=h;refine⟨w++[UInt8.ofNat b],?_⟩;rw[FJ];simp only[sW]
 congr 1
 simp[Nat.mod_eq_of_lt a]
theorem D8{cs:List fF}{S:List Int->Prop}(a:S (eY cs))(c:∀v,S v->∀b<256,S (iI cs v b)){v:List Int}(h:lX cs v):S v:=by
 obtain⟨w,rfl⟩:=h;generalize eY cs=u at a
 induction w generalizing u with
 |nil=>exact a
 |cons b w ih=>exact ih _ (c u a b.toNat (UInt8.toNat_lt b))
def Gi(cs:List fF):Prop:=∀w,cs.countP (fun c=>c.qw w)=1
theorem xq{cs:List fF}{S:List Int->Prop}(d:S (eY cs))(a:∀v,S v->∀b<256,S (iI cs v b))(c:∀v,S v->pK cs v=1):Gi cs:=fun w=>by
 rw[<-LC];exact c _ (D8 d a ⟨w,rfl⟩)
theorem azK{cs:List fF}{v:List Int}(h:lX cs v)(k:pK cs v≠1):¬Gi cs:=fun a=>by
 obtain⟨w,rfl⟩:=h;rw[LC]at k;exact k (a w)
def BK:List fF->List Int->Prop
 |[],[]=>True
 |[],_::_=>False
 |_::_,[]=>False
 |c::cs,i::v=>(-1<=i/\i<c.n)/\BK cs v
theorem BK.len:∀{cs:List fF} {v:List Int},BK cs v->v.length=cs.length
 |[],[],_=>rfl
 |[],_::_,h=>h.elim
 |_::_,[],h=>h.elim
 |c::cs,i::v,h=>by simp[BK.len h.2]
theorem BK.start:∀{cs:List fF},(∀c∈cs,c.Ok)->BK cs (eY cs)
 |[],_=>trivial
 |c::cs,h=>⟨⟨by show(-1:Int)<=0;omega,by have:=(h c zS).pos;show(0:Int)<c.n;omega⟩,BK.start fun d a=>h d (by simp[a])⟩
theorem BK.step:∀{cs:List fF} {v:List Int} (_:∀c∈cs,c.Ok) (_:v.length=cs.length) (b:Nat),BK cs (iI cs v b)
 |[],[],_,_,_=>trivial
 |[],_::_,_,h,_=>by simp at h
 |_::_,[],_,h,_=>by simp at h
 |c::cs,i::v,h,hl,b=>⟨(h c zS).step i b,BK.step (fun d a=>h d (by simp[a])) qdY b⟩
theorem BK.get:∀{cs:List fF} {v:List Int} (_:BK cs v) (i:Nat) (a:i<cs.length) (h2:i<v.length),-1<=v[i]/\v[i]<cs[i].n
 |[],_,_,i,a,_=>by simp at a
 |_::_,[],h,_,_,_=>h.elim
 |c::cs,x::v,h,0,_,_=>h.1
 |c::cs,x::v,h,i+1,a,h2=>BK.get h.2 i (by simpa using a) qeu
theorem BK.reach{cs:List fF}(h:∀c∈cs,c.Ok){v:List Int}(k:lX cs v):BK cs v:=
 D8 (S:=BK cs) (BK.start h) (fun _ a b _=>BK.step h a.len b) k
def NF:List fF->List (List Int)
 |[]=>[[]]
 |c::cs=>(List.range (c.n+1)).flatMap fun(i:Nat)=>(NF cs).map fun v=>((i:Int)-1)::v
theorem yg:∀{cs:List fF} {v:List Int},BK cs v->v∈NF cs
 |[],[],_=>by simp[NF]
 |[],_::_,h=>h.elim
 |_::_,[],h=>h.elim
 |c::cs,i::v,h=>by
  refine xW.2 ⟨(i+1).toNat,yQ.2 (by have b:=h.1.1;have a:=h.1.2;omega),yD.2 ⟨v,yg h.2,?_⟩⟩
  congr 1
  have:=h.1;omega
def nQ:List fF->Nat
 |[]=>1
 |c::cs=>(c.n+1)*nQ cs
theorem zm{α β:Type}(f:α->List β)(k:Nat):∀(l:List α),(∀x∈l,(f x).length=k)->(l.flatMap f).length=l.length*k
 |[],_=>by simp
 |x::l,h=>by
  rw[xO,zL,h x zS,zm f k l fun y hy=>h y qei,yO,Nat.succ_mul,Nat.add_comm]
theorem wP:∀cs:List fF,(NF cs).length=nQ cs
 |[]=>rfl
 |c::cs=>by
  rw[NF,nQ,zm _ (nQ cs) _ (fun x _=>by rw[xC,wP cs]),List.length_range]
theorem qZ{k:Nat}:∀{cs:List fF},(∀c∈cs,c.n+1<=k)->nQ cs<=k ^ cs.length
 |[],_=>by simp[nQ]
 |c::cs,h=>by
  rw[nQ,yO,Nat.pow_succ,Nat.mul_comm (k ^ cs.length)];exact xV (h c zS) (qZ fun d a=>h d (by simp[a]))
def lq(l:aK):fF:=⟨l.length,bX l,bI l⟩
theorem Ay{l:aK}(h:cB l)(a:l≠[]):(lq l).Ok where
 pos:=by have:=yY.2 a;exact this
 step i b:=by
  have:=nz h.wf i b;have c:=yY.2 a;show -1<=bX l i b/\bX l i b<(l.length:Int);omega
theorem LJ(l:aK):∀(w:List UInt8) (i:Int),bI l ((lq l).from i w)=aH l i w
 |[],_=>rfl
 |_::w,_=>LJ l w _
theorem XE{l:aK}(h:cB l)(w:List UInt8):(lq l).qw w=Sem l w:=by
 rw[dn h];exact LJ l w 0
def nT(s:List UInt8)(i:Int)(b:Nat):Int:=if 0<=i/\(s[i.toNat]?).map (·.toNat)=some b then i+1 else -1
def sD(s:List UInt8):fF:=⟨s.length+1,nT s,fun i=>i==(s.length:Int)⟩
theorem dzo(s:List UInt8):(sD s).Ok where
 pos:=by show 1<=s.length+1;omega
 step i b:=by
  show -1<=nT s i b/\nT s i b<((s.length+1:Nat):Int);unfold nT
  split
  .rename_i h;obtain⟨d,c⟩:=h;obtain⟨x,a,-⟩:=Option.map_eq_some_iff.1 c;have:=(yB.1 a).1;omega
  .omega
theorem Jm(s:List UInt8):∀w:List UInt8,(sD s).from (-1) w = -1
 |[]=>rfl
 |b::w=>by
  rw[fF.from,show(sD s).step (-1) b.toNat = -1 by simp[sD,nT]];exact Jm s w
theorem ME(s:List UInt8):∀(w:List UInt8) (i:Nat),i<=s.length->((sD s).from i w=(s.length:Int)↔w=s.drop i)
 |[],i,h=>by
  simp only[fF.from];constructor
  .intro e;rw[List.drop_eq_nil_iff.2 zo]
  .intro e;have:=List.drop_eq_nil_iff.1 e.symm
   omega
 |b::w,i,h=>by
  rw[fF.from];by_cases hi:i<s.length
  .rw[yE hi];by_cases e:s[i].toNat=b.toNat
   .have:(sD s).step i b.toNat=((i+1:Nat):Int):=by
     simp only[sD,nT];rw[zK ⟨zo,by simp[hi,e]⟩];simp
    rw[this,ME s w (i+1) zo,UInt8.toNat_inj.1 e];simp
   .have:(sD s).step i b.toNat = -1:=by
     simp only[sD,nT];rw[zJ (by simp[hi,e])]
    rw[this,Jm];constructor
    .intro h;omega
    .intro h;simp only[List.cons.injEq]at h;exact absurd (by rw[h.1]) e
  .have:(sD s).step i b.toNat = -1:=by
    simp only[sD,nT];rw[zJ (by simp[vC (Nat.le_of_not_lt hi)])]
   rw[this,Jm,List.drop_eq_nil_iff.2 zo];constructor
   .intro h;omega
   .intro h;cases h
theorem Yw(s w:List UInt8):(sD s).qw w=(s==w):=by
 have:=ME s w 0 (zG _);rw[List.drop_zero]at this;show((sD s).from 0 w==(s.length:Int))=(s==w);rw[Bool.eq_iff_iff,beq_iff_eq,beq_iff_eq];exact this.trans eq_comm
def dW(c:St):List fF:=c.2.map (fun k=>lq k.1)++c.1.map fun f=>sD f.1.1.data.toList
theorem czM{c:St}(h:∀k∈c.2,cB k.1/\k.1≠[]):∀x∈dW c,x.Ok:=by
 intro x a;rcases yP.1 a with a|a
 .obtain⟨k,hk,rfl⟩:=yD.1 a;exact Ay (h k hk).1 (h k hk).2
 .obtain⟨f,b,rfl⟩:=yD.1 a;exact dzo _
theorem Ab{α:Type}{p q:α->Bool}:∀{l:List α},(∀x∈l,p x=q x)->l.countP p=l.countP q
 |[],_=>rfl
 |x::l,h=>by
  simp only[List.countP_cons,h x zS,Ab fun y a=>h y (zU _ a)]
theorem LV{c:St}(h:∀k∈c.2,cB k.1/\k.1≠[]):Gi (dW c)↔∀w,Gv c w=1:=by
 have:∀w,(dW c).countP (fun x=>x.qw w)=Gv c w:=fun w=>by
  rw[dW,List.countP_append,List.countP_map,List.countP_map,Gv]
  congr 1
  .exact Ab fun k hk=>XE (h k hk).1 w
  .exact Ab fun f _=>Yw _ _
 simp only[Gi,this]
theorem K9(c:St):bH c↔(∀k∈c.2,cB k.1/\k.1≠[])/\Gi (dW c):=
 ⟨fun h=>⟨h.sets,(LV h.sets).2 h.once⟩,fun h=>⟨h.1,(LV h.1).1 h.2⟩⟩
end Cl
namespace Cl
theorem E5{α:Type}{p:α->Bool}{l:List α}(h:∀i (hi:i<l.length),p l[i]=false):l.find? p=none:=by
 rw[List.find?_eq_none];intro x a;obtain⟨i,hi,rfl⟩:=yX a;simp[h i hi]
theorem OE{α:Type}{p:α->Bool}:∀{l:List α} (n:Nat) (a:n<l.length),(∀i (hi:i<l.length),i<n->p l[i]=false)->p l[n]=true->l.find? p=some l[n]
 |[],n,a,_,_=>by simp at a
 |x::l,0,_,_,h=>by simp only[xL]at h⊢;rw[List.find?_cons,h]
 |x::l,n+1,a,h0,h=>by
  have b:=h0 0 zS zo;simp only[xL]at b;rw[List.find?_cons,b];exact OE n (by simpa using a) (fun i hi c=>h0 (i+1) qef zo) qd9
theorem Xn(a b:Vl):a=b↔a.any=b.any/\a.s=b.s/\a.aN=b.aN/\a.aA=b.aA:=
 ⟨fun h=>by rw[h];exact⟨rfl,rfl,rfl,rfl⟩,fun h=>Hr h.1 h.2.1 h.2.2.1 h.2.2.2⟩
theorem Yp(a b:Lc):a=b↔a.1.length=b.1.length/\aY a=aY b:=by
 constructor
 .intro h;rw[h];exact⟨rfl,rfl⟩
 .rintro⟨f,e⟩;obtain⟨d,c⟩:=List.append_inj e f;exact Prod.ext d c
end Cl
namespace Cl
def lK(A B:aK)(p:Int×Int)(b:Nat):Int×Int:=(bX A p.1 b,bX B p.2 b)
structure dz6 (A B:aK) (p:Int×Int) (l:List (Int×Int)) (es:List Ed) (c:Nat):Prop where
 wf:bS l.length (-1) es
 hi:∀e∈es,e.hi<c
 le:c<=256
 step:∀b,b<c->∃t:Nat,bE es b=t/\l[t]?=some (lK A B p b)
 last:c=0/\es=[]\/∃fs e,es=fs++[e]/\e.hi+1=c
theorem dz6.start(A B:aK)(p:Int×Int)(l:List (Int×Int)):dz6 A B p l [] 0:=
 ⟨trivial,fun e a=>by simp at a,zo,fun b c=>zo,.inl ⟨rfl,rfl⟩⟩
theorem dz6.mono{A B:aK}{p:Int×Int}{l a:List (Int×Int)}{es:List Ed}{c:Nat}(h:dz6 A B p l es c)(d:l <+: a):dz6 A B p a es c:=by
 refine⟨uQ d.length_le h.wf,h.hi,h.le,fun b f=>?_,h.last⟩;obtain⟨t,g,e⟩:=h.step b f;obtain⟨x,rfl⟩:=d;exact⟨t,g,by rw[yK (yB.1 e).1];exact e⟩
theorem dz6.seg{A B:aK}{p:Int×Int}{l:List (Int×Int)}{es:List Ed}{c h t:Nat}(H:dz6 A B p l es c)(i:c<=h)(k:h<256)(ht:l[t]?=some (lK A B p c))
(m:∀b,c<=b->b<=h->lK A B p b=lK A B p c):dz6 A B p l (es++[⟨c,h,t⟩]) (h+1):=by
 have g:=(yB.1 ht).1;refine⟨sG (q:=(c:Int)-1) H.wf (fun e a=>by have:=H.hi e a;omega) zo ⟨i,zS,by simpa using g,by show(c:Int)-1<(c:Int);omega,trivial⟩,?_,zo,fun b u=>?_,.inr ⟨es,_,rfl,rfl⟩⟩
 .intro e a;rcases yP.1 a with f|f
  .have:=H.hi e f;omega
  .simp only[zZ]at f;subst f;exact Nat.lt_succ_self _
 .by_cases j:b<c
  .obtain⟨s,f,o⟩:=H.step b j;refine⟨s,?_,o⟩;rw[<-f];by_cases d:∃e∈es,e.lo<=b/\b<=e.hi
   .exact ku _ _ _ d
   .have r:∀e∈es,¬(e.lo<=b/\b<=e.hi):=fun e a n=>d ⟨e,a,n⟩;rw[vP _ _ r]at f;omega
  .refine⟨t,?_,by rw[m b zo zo];exact ht⟩;rw[kR _ _ _ (fun e a=>by have:=H.hi e a;omega)];simp only[bE];rw[zK ⟨zo,zo⟩]
theorem dz6.widen{A B:aK}{p:Int×Int}{l:List (Int×Int)}{fs:List Ed}{e:Ed}{c:Nat}(H:dz6 A B p l (fs++[e]) c)(y:e.hi+1=c)(o:c<256)
(s:lK A B p c=lK A B p (c-1)):dz6 A B p l (fs++[⟨e.lo,c,e.to⟩]) (c+1):=by
 have k:=CW H.wf;have n:=jD H.wf e zS;refine⟨sG (q:=(e.lo:Int)-1) (Bo H.wf) (fun x a=>by have:=k x a;omega) zo ⟨by show e.lo<=c;omega,n.2.2.1,n.2.2.2,by show(e.lo:Int)-1<(e.lo:Int);omega,trivial⟩,?_,zo,fun b v=>?_,.inr ⟨fs,_,rfl,rfl⟩⟩
 .intro x a;rcases yP.1 a with g|g
  .have:=H.hi x (by simp[g]);omega
  .simp only[zZ]at g;subst g;exact Nat.lt_succ_self _
 .have i:∀b,b<=c-1->bE (fs++[⟨e.lo,c,e.to⟩]) b=bE (fs++[e]) b:=by
   intro b v;by_cases d:∃x∈fs,x.lo<=b/\b<=x.hi
   .rw[ku _ _ _ d,ku _ _ _ d]
   .have r:∀x∈fs,¬(x.lo<=b/\b<=x.hi):=fun x a u=>d ⟨x,a,u⟩;rw[kR _ _ _ r,kR _ _ _ r];simp only[bE];by_cases f:e.lo<=b
    .rw[zK zo,zK zo]
    .rw[zJ zo,zJ zo]
  by_cases m:b<c
  .rw[i b zo];exact H.step b m
  .obtain rfl:b=c:=zo;obtain⟨t,g,w⟩:=H.step (b-1) zo;refine⟨t,?_,by rw[s];exact w⟩;have j:∀x∈fs,¬(x.lo<=b-1/\b-1<=x.hi):=fun x a=>by have:=k x a;omega
   have h:∀x∈fs,¬(x.lo<=b/\b<=x.hi):=fun x a=>by have:=k x a;omega
   rw[kR _ _ _ j]at g;simp only[bE]at g;rw[zK zo]at g;rw[kR _ _ _ h];simp only[bE];rw[zK zo];exact g
structure kJ (A B:aK) (op:Bool->Bool->Bool) (st:Int×Int) (l:List (Int×Int)) (out:aK):Prop where
 first:l[0]?=some st
 nodup:l.Nodup
 iZ:∀q∈l,(-1<=q.1/\q.1<=A.length)/\(-1<=q.2/\q.2<=B.length)
 le:out.length<=l.length
 state:∀j,(h:j<out.length)->∀p,l[j]?=some p->(out[j]).bU=op (bI A p.1) (bI B p.2)/\dz6 A B p l (out[j]).bv 256
theorem vg{a b:Nat}{l:List (Int×Int)}(g:l.Nodup)(c:∀q∈l,(-1<=q.1/\q.1<=a)/\(-1<=q.2/\q.2<=b)):l.length<=(a+2)*(b+2):=by
 have:=mr l ((List.range (a+2)).flatMap fun(i:Nat)=>(List.range (b+2)).map fun(j:Nat)=>((i:Int)-1,(j:Int)-1)) g (fun q f=>by
  have:=c q f;obtain⟨e,d⟩:=q;simp only at this;rw[xW];refine⟨(e+1).toNat,yQ.2 zo,yD.2 ⟨(d+1).toNat,yQ.2 zo,?_⟩⟩;simp only[Prod.mk.injEq];omega)
 refine yJ this ?_;generalize a+2=x;generalize b+2=y;clear this c
 induction x with
 |zero=>simp
 |succ x ih=>rw[List.range_succ,List.flatMap_append,zL,Nat.succ_mul];simp at ih⊢;exact ih
theorem TJ{A B:aK}{op:Bool->Bool->Bool}{st:Int×Int}(h:(-1<=st.1/\st.1<=A.length)/\(-1<=st.2/\st.2<=B.length)):kJ A B op st [st] []:=
 ⟨rfl,zS,fun q a=>by simp only[zZ]at a;subst a;exact h,zS,fun j b=>by simp at b⟩
theorem kJ.grow{A B:aK}{op:Bool->Bool->Bool}{st:Int×Int}{l:List (Int×Int)}{out:aK}(h:kJ A B op st l out){q:Int×Int}(m:q ∉ l)
(k:(-1<=q.1/\q.1<=A.length)/\(-1<=q.2/\q.2<=B.length)):kJ A B op st (l++[q]) out:=by
 have s:0<l.length:=by
  have:=h.first
  cases l with
  |nil=>simp at this
  |cons _ _=>simp
 refine⟨by rw[yK s];exact h.first,?_,?_,by have:=h.le;simp;omega,fun j n p f=>?_⟩
 .exact List.nodup_append.2 ⟨h.nodup,zS,fun a o b g e=>by simp only[zZ]at g;subst g;exact m (e ▸ o)⟩
 .intro x i;rcases yP.1 i with c|c
  .exact h.iZ x c
  .simp only[zZ]at c;subst c;exact k
 .have d:j<l.length:=by have:=h.le;omega
  rw[yK d]at f;obtain⟨c,r⟩:=h.state j n p f;exact⟨c,r.mono (List.prefix_append _ _)⟩
theorem kJ.push{A B:aK}{op:Bool->Bool->Bool}{st:Int×Int}{l:List (Int×Int)}{out:aK}(h:kJ A B op st l out){p:Int×Int}(b:l[out.length]?=some p){es:List Ed}
(e:dz6 A B p l es 256):kJ A B op st l (out++[⟨op (bI A p.1) (bI B p.2),es⟩]):=by
 refine⟨h.first,h.nodup,h.iZ,by have:=(yB.1 b).1;simp;omega,fun j d q a=>?_⟩;by_cases c:j<out.length
 .rw[xM c];exact h.state j c q a
 .have:j=out.length:=by simp at d;omega
  subst this;rw[b]at a;cases a;have f:(out++[⟨op (bI A p.1) (bI B p.2),es⟩])[out.length]'d=⟨op (bI A p.1) (bI B p.2),es⟩:=by simp
  rw[f];exact⟨rfl,e⟩
theorem kJ.done{A B:aK}{op:Bool->Bool->Bool}{st:Int×Int}{l:List (Int×Int)}{out:aK}(h:kJ A B op st l out)(_:op false false=false)(i:out.length=l.length):
 WF out/\Bytes out/\out.length<=(A.length+2)*(B.length+2)/\0<out.length/\∀w,aH out 0 w=op (aH A st.1 w) (aH B st.2 w):=by
 have n:0<l.length:=by
  have:=h.first
  cases l with
  |nil=>simp at this
  |cons _ _=>simp
 have a:∀(w:List UInt8),∀(j:Nat) (p:Int×Int),l[j]?=some p->aH out j w=op (aH A p.1 w) (aH B p.2 w):=by
  intro w
  induction w with
  |nil=>
   intro j p c;have d:=(yB.1 c).1;simp only[aH];rw[kT out j zo]
   exact(h.state j zo p c).1
  |cons b w ih=>
   intro j p c;have d:=(yB.1 c).1;simp only[aH];rw[iT out j _ zo];obtain⟨t,m,k⟩:=(h.state j zo p c).2.step b.toNat b.toNat_lt;rw[m];exact ih t _ k
 refine⟨?_,?_,by rw[i];exact vg h.nodup h.iZ,zo,fun w=>a w 0 st h.first⟩
 .intro s g;obtain⟨j,d,rfl⟩:=yT.1 g;rw[i];exact(h.state j d _ (yH zo)).2.wf
 .intro s g;obtain⟨j,d,rfl⟩:=yT.1 g;have:=(h.state j d _ (yH zo)).2;intro e f;have m:=this.hi e f;have k:=(jD this.wf e f).2.1;omega
end Cl
namespace Cl
def wo(l:aK)(s:Int):List Ed:=if s<0 then[]else match l[s.toNat]? with
 |some st=>st.bv
 |none=>[]
theorem wR(l:aK)(s:Int)(b:Nat):bX l s b=bE (wo l s) b:=by
 unfold bX wo
 split
 .rfl
 .cases l[s.toNat]?<;>rfl
end Cl
namespace Cl
structure VP (k:Nat) (c:fF):Prop where
 neg:∀b,c.step (-1) b = -1
 step:∀(i b:Nat),i<=k->c.step (i:Int) b = -1\/(c.step (i:Int) b=((i+1:Nat):Int)/\i+1<=k)
theorem VP.QY{k:Nat}{c:fF}(h:VP k c):∀w,c.from (-1) w = -1
 |[]=>rfl
 |b::w=>by rw[fF.from,h.neg,h.QY w]
theorem VP.WM{k:Nat}{c:fF}(h:VP k c):∀(w:List UInt8) (i:Nat),i<=k->c.from (i:Int) w = -1\/(c.from (i:Int) w=((i+w.length:Nat):Int)/\i+w.length<=k)
 |[],i,hi=>.inr ⟨rfl,hi⟩
 |b::w,i,hi=>by
  rw[fF.from];rcases h.step i b.toNat hi with e|⟨e,d⟩
  .rw[e,h.QY];exact .inl rfl
  .rw[e];rcases h.WM w (i+1) d with a|⟨a,f⟩
   .exact .inl a
   .refine .inr ⟨?_,?_⟩
    .rw[a,yO];congr 1;omega
    .rw[yO];omega
def N8:fF:=⟨1,fun _ _=>0,fun _=>true⟩
def lanes(P:List fF)(k n:Nat):List (List Int):=(NF P).flatMap fun u=>(List.range (k+1)).flatMap fun j=>(NF (List.replicate n N8)).map fun f=>u++f.map fun e=>if e=0 then((j:Nat):Int)else -1
theorem Yv(P:List fF)(k n:Nat):(lanes P k n).length=nQ P*((k+1)*nQ (List.replicate n N8)):=by
 rw[lanes,zm _ ((k+1)*nQ (List.replicate n N8)) _ (fun u _=>by
  rw[zm _ (nQ (List.replicate n N8)) _ (fun j _=>by rw[xC,wP]),List.length_range]),wP]
theorem Xp(L:List fF)(w:List UInt8):BK (List.replicate L.length N8) (L.map fun c=>if c.from 0 w = -1 then(-1:Int)else 0):=by
 induction L with
 |nil=>exact trivial
 |cons c L ih=>
  refine⟨?_,ih⟩;show -1<=(if c.from 0 w = -1 then(-1:Int)else 0)/\(if c.from 0 w = -1 then(-1:Int)else 0)<((1:Nat):Int)
  split<;>omega
theorem Yk{P Q:List fF}{k:Nat}(d:∀c∈P,c.Ok)(b:∀c∈Q,VP k c){v:List Int}(h:lX (P++Q) v):v∈lanes P k Q.length:=by
 obtain⟨w,rfl⟩:=h;rw[eY,jf,yI];refine xW.2 ⟨P.map fun c=>c.from 0 w,yg (BK.reach d ⟨w,by rw[eY,jf]⟩),xW.2 ⟨if w.length<=k then w.length else 0,yQ.2 (by split<;>omega),yD.2 ⟨_,yg (Xp Q w),?_⟩⟩⟩
 congr 1
 rw[vE];refine xZ fun c a=>?_;simp only[Function.comp];rcases(b c a).WM w 0 (zG _)with e|⟨e,i⟩
 .have e:c.from 0 w = -1:=e
  simp[e]
 .have e:c.from 0 w=((0+w.length:Nat):Int):=e
  have g:w.length<=k:=zo;have f:¬(c.from 0 w = -1):=zo;simp only[f,g,if_false,if_true];omega
theorem Iu{P Q:List fF}{k:Nat}(f:∀c∈P,c.Ok)(e:∀c∈Q,VP k c){l:List (List Int)}(b:l.Nodup)(d:∀v∈l,lX (P++Q) v):l.length<=nQ P*((k+1)*nQ (List.replicate Q.length N8)):=by
 rw[<-Yv];exact mr l (lanes P k Q.length) b fun v a=>Yk f e (d v a)
theorem gzT{s:List UInt8}{k:Nat}(h:s.length<=k):VP k (sD s) where
 neg b:=by simp[sD,nT]
 step i b _:=by
  show nT s i b = -1\/(nT s i b=_/\_);unfold nT
  split
  .rename_i c;obtain⟨x,a,-⟩:=Option.map_eq_some_iff.1 c.2;have:=(yB.1 a).1;exact .inr ⟨zo,zo⟩
  .exact .inl rfl
theorem QM{P:List fF}(d:P.length<=6)(b:∀c∈P,c.n<=8){n:Nat}(a:n<=6):nQ P*((40+1)*nQ (List.replicate n N8))<=1400000000:=by
 have f:nQ P<=9 ^ 6:=yJ (qZ (k:=9) fun x hx=>by have:=b x hx;omega) (Nat.pow_le_pow_right zo d);have e:nQ (List.replicate n N8)<=2 ^ 6:=yJ qiR (Nat.pow_le_pow_right zo (by simpa using a));exact yJ (xV f (Nat.mul_le_mul_left _ e)) zD
theorem Hu{cs:List fF}{v:List Int}{k:Nat}(b:k<cs.length)(a:k<v.length):pK (cs.take (k+1)) (v.take (k+1))=pK (cs.take k) (v.take k)+if cs[k].acc v[k]then 1 else 0:=by
 unfold pK;rw[zH b,zH a,List.zipWith_append qdW,List.countP_append]
 congr 1
 simp only[List.zipWith_cons_cons,List.zipWith_nil_left,List.countP_cons,List.countP_nil,id];simp
def qB(b:Nat)(es:List Ed)(o:Int):Int:=es.foldl (fun o e=>if e.lo<=b/\b<=e.hi then e.to else o) o
theorem Uv(b:Nat)(o:Int){es:List Ed}{j:Nat}(h:j<es.length):qB b (es.take (j+1)) o=if(es[j]).lo<=b/\b<=(es[j]).hi then(es[j]).to else qB b (es.take j) o:=by
 unfold qB;rw[zH h,List.foldl_append]
 rfl
theorem F3{n:Nat}{b:Nat}:∀{es:List Ed} {p:Int} (o:Int),bS n p es->(b:Int)<=p->qB b es o=o
 |[],_,_,_,_=>rfl
 |e::es,p,o,h,hb=>by
  obtain⟨g,f,d,c,a⟩:=h;show qB b es (if e.lo<=b/\b<=e.hi then e.to else o)=o;rw[zJ zo];exact F3 o a zo
theorem QJ{n:Nat}{b:Nat}:∀{es:List Ed} {p:Int},bS n p es->qB b es (-1)=bE es b
 |[],_,_=>rfl
 |e::es,p,h=>by
  obtain⟨g,f,d,c,a⟩:=h;show qB b es (if e.lo<=b/\b<=e.hi then e.to else -1)=bE (e::es) b;rw[bE]
  split
  .exact F3 _ a zo
  .exact QJ a
theorem ezY{l:aK}(h:WF l)(x:Int):∃p,bS l.length p (wo l x):=by
 unfold wo
 split
 .exact⟨0,trivial⟩
 .cases e:l[x.toNat]? with
  |none=>exact⟨0,trivial⟩
  |some s=>exact⟨-1,h s (List.mem_of_getElem? e)⟩
theorem Yt{l:aK}(h:WF l)(x:Int)(b:Nat):qB b (wo l x) (-1)=bX l x b:=by
 obtain⟨p,a⟩:=ezY h x;rw[wR,QJ a]
def CG(cs:List fF)(v:List Int)(b k:Nat):List Int:=iI (cs.take k) (v.take k) b++List.replicate (v.length-k) (-1)
theorem czf{cs:List fF}{v:List Int}(h:cs.length=v.length)(b:Nat){k:Nat}(hk:k<=v.length):(CG cs v b k).length=v.length:=by
 simp[CG,iI];omega
theorem Zu(cs:List fF)(v:List Int)(b:Nat):CG cs v b 0=List.replicate v.length (-1):=by simp[CG,iI]
theorem czg{cs:List fF}{v:List Int}(h:cs.length=v.length)(b:Nat):CG cs v b v.length=iI cs v b:=by
 simp only[CG,Nat.sub_self,List.replicate_zero,yR,yG];rw[<-h,yG]
theorem Sd{cs:List fF}{v:List Int}(h:cs.length=v.length)(b:Nat){k:Nat}(hk:k<v.length)(x:Int):
 (CG cs v b k).set k x=iI (cs.take k) (v.take k) b++x::List.replicate (v.length-(k+1)) (-1):=by
 have a:(iI (cs.take k) (v.take k) b).length=k:=by simp[iI];omega
 unfold CG;rw[List.set_append_right _ _ zo,a,Nat.sub_self,show v.length-k=(v.length-(k+1))+1 by omega,List.replicate_succ,List.set_cons_zero]
theorem Nn{cs:List fF}{v:List Int}(h:cs.length=v.length)(b:Nat){k:Nat}(hk:k<v.length):(CG cs v b k).set k ((cs[k]'zo).step v[k] b)=CG cs v b (k+1):=by
 rw[Sd h b hk];unfold CG iI;rw[zH (show k<cs.length by omega),zH hk,List.zipWith_append qdW];simp
def JN(es:List Ed)(b:Nat):Prop:=∃e∈es,e.lo=b\/e.hi+1=b
def dzl(s:List UInt8)(x:Int)(b:Nat):Prop:=0<=x/\∃u,s[x.toNat]?=some u/\(u.toNat=b\/u.toNat+1=b)
def KO(c:St)(v:List Int)(b:Nat):Prop:=
 b=0\/(∃i,∃h:i<c.2.length,JN (wo (c.2[i]).1 (v.getD i (-1))) b)\/∃i,∃h:i<c.1.length,dzl (c.1[i]).1.1.data.toList (v.getD (c.2.length+i) (-1)) b
theorem JI{b a:Nat}(f:a<=b):∀{es:List Ed},(∀j,a<j->j<=b->¬JN es j)->bE es b=bE es a
 |[],_=>rfl
 |e::es,h=>by
  have l:=JI f (es:=es) fun j d h2 ⟨x,m,n⟩=>h j d h2 ⟨x,zU _ m,n⟩;have d:∀j,a<j->j<=b->e.lo≠j/\e.hi+1≠j:=fun j i g=>⟨fun k=>h j i g ⟨e,zS,.inl k⟩,fun k=>h j i g ⟨e,zS,.inr k⟩⟩;have p:e.lo<=b↔e.lo<=a:=⟨fun k=>by
   by_cases c:e.lo<=a
   .exact c
   .exact absurd rfl (d e.lo zo k).1,fun k=>zo⟩
  have o:b<=e.hi↔a<=e.hi:=⟨fun k=>zo,fun k=>by
   by_cases c:b<=e.hi
   .exact c
   .exact absurd rfl (d (e.hi+1) zo zo).2⟩
  simp only[bE,l,p,o]
theorem Uk{s:List UInt8}{x:Int}{b a:Nat}(l:a<=b)(h:∀j,a<j->j<=b->¬dzl s x j):nT s x b=nT s x a:=by
 unfold nT;by_cases c:0<=x
 .cases e:s[x.toNat]? with
  |none=>simp
  |some u=>
   have g:∀j,a<j->j<=b->u.toNat≠j/\u.toNat+1≠j:=fun j f d=>⟨fun k=>h j f d ⟨c,u,e,.inl k⟩,fun k=>h j f d ⟨c,u,e,.inr k⟩⟩;have:u.toNat=b↔u.toNat=a:=by
    by_cases i:a=b
    .subst i;exact Iff.rfl
    .have m:=g b zo (zI _);constructor
     .intro k;exact absurd k m.1
     .intro k;have:=g (a+1) zo zo;omega
   simp only[vH,Option.some.injEq,this]
 .simp[c]
theorem SQ{c:St}{v:List Int}{a b:Nat}(n:v.length=(dW c).length)(f:a<=b)(h:∀j,a<j->j<=b->¬KO c v j):iI (dW c) v b=iI (dW c) v a:=by
 unfold iI;apply vF zS;intro i m o;have hi:i<v.length:=by simp at m;omega
 have d:i<(dW c).length:=zo;simp only[List.getElem_zipWith];unfold dW at d⊢;by_cases hk:i<c.2.length
 .rw[xM qeE];simp only[xQ];show bX _ _ b=bX _ _ a;rw[wR,wR];refine JI f fun j k g l=>h j k g (.inr (.inl ⟨i,hk,?_⟩));simpa [yU,hi]using l
 .rw[List.getElem_append_right qdW];simp only[xQ,xC];refine Uk f fun j k g l=>h j k g (.inr (.inr ⟨i-c.2.length,by simp at d;omega,?_⟩));have e:c.2.length+(i-c.2.length)=i:=zo;rw[e];simpa [yU,hi]using l
theorem Ja{P:Nat->Prop}(f:P 0):∀b,∃a,a<=b/\P a/\∀j,a<j->j<=b->¬P j
 |0=>⟨0,zI _,f,fun j d c=>zo⟩
 |b+1=>by
  by_cases h:P (b+1)
  .exact⟨b+1,zI _,h,fun j d c=>zo⟩
  .obtain⟨a,d,c,i⟩:=Ja f b;exact⟨a,zo,c,fun j g k=>by
    by_cases e:j=b+1
    .exact qbV
    .exact i j g zo⟩
theorem XK{c:St}{v:List Int}(d:v.length=(dW c).length){b:Nat}(h:b<256):∃a,a<256/\KO c v a/\iI (dW c) v b=iI (dW c) v a:=by
 obtain⟨a,g,f,e⟩:=Ja (P:=KO c v) (.inl rfl) b;exact⟨a,zo,f,SQ d g e⟩
end Cl
namespace Cl
theorem Uz(l:List dm)(k:Nat)(h:k<l.length):nI (l.take (k+1))=nI (l.take k)++if(wu l[k]).1<=(wu l[k]).2 then[wu l[k]]else[]:=by
 rw[zH h];unfold nI;rw[yI,List.filter_append]
 congr 1
 by_cases a:(wu l[k]).1<=(wu l[k]).2<;>simp[a]
theorem UB(l:List dm)(k:Nat)(h:k<l.length):nJ (l.take (k+1))=nJ (l.take k)++if(qd l[k]).1<=(qd l[k]).2 then[qd l[k]]else[]:=by
 rw[zH h];unfold nJ;rw[yI,List.filter_append]
 congr 1
 by_cases a:(qd l[k]).1<=(qd l[k]).2<;>simp[a]
theorem UD(nx:Int->Int)(p:List dm)(k:Nat)(h:k<p.length)(t:dm)(r:List dm):
 jQ nx (p.drop k) (t::r)=if p[k].1<=nx t.2 then jQ nx (p.drop (k+1)) ((t.1,max t.2 p[k].2)::r)else jQ nx (p.drop (k+1)) (p[k]::t::r):=by
 rw[yE h,jQ]
theorem QT(nx:Int->Int)(p:List dm)(k:Nat)(h:k<p.length):jQ nx (p.drop k) []=jQ nx (p.drop (k+1)) [p[k]]:=by
 rw[yE h,jQ]
theorem Yl(x:dm)(b:List dm)(k:Nat)(h:k<b.length):
 ((b.take (k+1)).map (kY x)).filter (fun z=>decide (z.1<=z.2))=((b.take k).map (kY x)).filter (fun z=>decide (z.1<=z.2))++if(kY x b[k]).1<=(kY x b[k]).2 then[kY x b[k]]else[]:=by
 rw[zH h,yI,List.filter_append]
 congr 1
 by_cases a:(kY x b[k]).1<=(kY x b[k]).2<;>simp[a]
theorem RB(a b:List dm)(k:Nat)(h:k<a.length):eZ (a.take (k+1)) b=eZ (a.take k) b++(b.map (kY a[k])).filter fun z=>decide (z.1<=z.2):=by
 rw[zH h];unfold eZ;rw[List.flatMap_append];simp
theorem rY:∀(l r:List Int) (b:Option Int),gF (l++r) b=gF r (gF l b)
 |[],r,b=>rfl
 |u::l,r,none=>by simp only[xK,gF];exact rY l r _
 |u::l,r,some b=>by simp only[xK,gF];exact rY l r _
theorem UA{l:List dm}:∀s∈nI l,-gz<=s.1/\s.2<=gz/\s.1<=s.2:=fun s h=>by
 have a:=QO s h;obtain⟨t,-,rfl⟩:=yD.1 (xR.1 h).1;unfold wu at*
 simp only[gz]at*
 omega
theorem UC{l:List dm}:∀s∈nJ l,-iX-1<=s.1/\s.2<=iX+1/\s.1<=s.2:=fun s h=>by
 have c:=QQ s h;obtain⟨t,-,e⟩:=yD.1 (xR.1 h).1;have b:s.1=if(max t.1 (-iX))%10000=0 then max t.1 (-iX)+1 else max t.1 (-iX):=by rw[<-e];rfl
 have a:s.2=if(min t.2 iX)%10000=0 then min t.2 iX-1 else min t.2 iX:=by rw[<-e];rfl
 have f:s.1=max t.1 (-iX)+1\/s.1=max t.1 (-iX):=by rw[b];split<;>simp
 have d:s.2=min t.2 iX-1\/s.2=min t.2 iX:=by rw[a];split<;>simp
 simp only[iX]at*
 omega
end Cl
namespace Cl
theorem UN(nx a:Int->Int)(l:List dm)(k:Nat)(h:k<l.length)(lo hi:Int):gB nx a (l.drop k) lo hi=(if lo<=a l[k].1 then[(lo,a l[k].1)]else[])++gB nx a (l.drop (k+1)) (nx l[k].2) hi:=by
 rw[yE h,gB]
end Cl
namespace Cl
def Tn(s:dm):Prop:=s.1<=s.2 -> -1000000000000002<=s.1/\s.2<=1000000000000002
theorem Tn.take{l:List dm}(h:∀s∈l,Tn s)(k:Nat):∀s∈l.take k,Tn s:=fun s a=>h s (xX a)
end Cl
namespace Cl
def bJ(p:Nat->Bool):List Nat:=(List.range 256).filter p
def qm(c:List Nat)(i:Nat):Nat:=c.getD i 0
def ez9(c:List Nat)(i:Nat):Nat:=if i+1<c.length then c.getD (i+1) 0-1 else 255
theorem lU{p:Nat->Bool}{i j:Nat}(a:i<j)(b:j<(bJ p).length):(bJ p).getD i 0<(bJ p).getD j 0:=by
 have h:(bJ p).Pairwise (·<·):=List.pairwise_lt_range.filter p;have:=List.pairwise_iff_getElem.1 h i j zo b a;simpa [b,Nat.lt_trans a b]using this
theorem Gg{p:Nat->Bool}{i:Nat}(hi:i<(bJ p).length):(bJ p).getD i 0<256/\p ((bJ p).getD i 0)=true:=by
 have:(bJ p).getD i 0∈bJ p:=by simp[hi]
 simpa [bJ]using this
theorem Gf{p:Nat->Bool}{b:Nat}(d:b<256)(c:p b=true):∃j,j<(bJ p).length/\(bJ p).getD j 0=b:=by
 have:b∈bJ p:=by simp[bJ,d,c]
 obtain⟨j,a,e⟩:=yT.1 this;exact⟨j,a,by simp[a,e]⟩
theorem UG{p:Nat->Bool}(m:p 0=true):Ivs (qm (bJ p)) (ez9 (bJ p)) (bJ p).length /\
 ∀i,i<(bJ p).length->∀b,qm (bJ p) i<b->b<=ez9 (bJ p) i->p b=false:=by
 have a:∀i,i<(bJ p).length->qm (bJ p) i<=ez9 (bJ p) i/\ez9 (bJ p) i<256:=by
  intro i hi;unfold qm ez9;have:=Gg hi
  split
  .rename_i h;have:=lU (show i<i+1 by omega) h;have:=(Gg h).1;omega
  .omega
 refine⟨⟨a,?_,?_⟩,?_⟩
 .intro i j g d;unfold qm ez9;rw[zK zo];have k:=lU (show i<i+1 by omega) (show i+1<(bJ p).length by omega);by_cases c:i+1=j
  .subst c;omega
  .have f:=lU (p:=p) (show i+1<j by omega) d;omega
 .intro b
  induction b with
  |zero=>
   intro _;obtain⟨j,d,e⟩:=Gf zo m
   exact⟨j,d,by unfold qm;omega,zo⟩
  |succ b ih=>
   intro l;obtain⟨i,hi,k,f⟩:=ih zo;by_cases c:b+1<=ez9 (bJ p) i
   .exact⟨i,hi,zo,c⟩
   .have e:ez9 (bJ p) i=b:=zo;unfold ez9 at e
    split at e
    .rename_i h;have:=lU (show i<i+1 by omega) h;have n:=a (i+1) h;have:qm (bJ p) (i+1)=b+1:=by unfold qm;omega
     exact⟨i+1,h,zo,zo⟩
    .omega
 .intro i hi b k f
  cases hp:p b with
  |false=>rfl
  |true=>
   have l:b<256:=by have:=(a i hi).2;omega
   obtain⟨j,d,e⟩:=Gf l hp;unfold qm at k;have g:i<j:=by
    rcases Nat.lt_trichotomy i j with c|c|c
    .exact c
    .subst c;omega
    .have:=lU c hi;omega
   unfold ez9 at f;rw[zK zo]at f;have o:=lU (show i<i+1 by omega) (show i+1<(bJ p).length by omega);by_cases c:i+1=j
   .subst c;omega
   .have:=lU (p:=p) (show i+1<j by omega) d;omega
theorem Ra{es:List Ed}{a b:Nat}(i:a<=b)(h:∀c,a<c->c<=b->∀e∈es,e.lo≠c/\e.hi+1≠c):bE es b=bE es a:=by
 induction es with
 |nil=>rfl
 |cons e es g=>
  have g:=g fun c k j x hx=>h c k j x qd8;simp only[bE];by_cases c:e.lo<=a/\a<=e.hi
  .rw[zK c,zK];refine⟨zo,?_⟩;apply Nat.le_of_not_lt;intro d;exact(h (e.hi+1) zo zo e zS).2 rfl
  .rw[zJ c];by_cases d:e.lo<=b/\b<=e.hi
   .exfalso;by_cases f:e.lo<=a
    .omega
    .exact(h e.lo zo zo e zS).1 rfl
   .rw[zJ d];exact g
def Marks(l:aK)(p:Nat->Bool):Prop:=p 0=true/\∀s∈l,∀e∈s.bv,∀b,b<256->(e.lo=b\/e.hi+1=b)->p b=true
theorem wS{l:aK}{p:Nat->Bool}(g:Marks l p){i b:Nat}(hi:i<(bJ p).length)(r:qm (bJ p) i<=b)(t:b<=ez9 (bJ p) i)(s:Int):
 bX l s b=bX l s (qm (bJ p) i):=by
 obtain⟨q,n⟩:=UG g.1;by_cases c:s<0
 .rw[qO c,qO c]
 .by_cases d:s<l.length
  .obtain⟨k,rfl⟩:=zT (by omega:0<=s);rw[iT l k _ zo,iT l k _ zo];apply Ra r;intro c h o e m;have f:=n i hi c h zo;have a:c<256:=by have:=(q.le i hi).2;omega
   refine⟨fun j=>?_,fun j=>?_⟩
   .rw[g.2 _ (zF zo) e m c a (.inl j)]at f;cases f
   .rw[g.2 _ (zF zo) e m c a (.inr j)]at f;cases f
  .rw[gX l s _ zo,gX l s _ zo]
def ZH(n:Nat)(x:Int):Int:=if x<0 then n else x
theorem Ip{l:aK}(_:WF l)(s:Int)(b:Nat)(w:List UInt8):aH l (ZH l.length (bX l s b)) w=aH l (bX l s b) w:=by
 unfold ZH
 split
 .rename_i h;rw[kE l _ w (xU _),eU h]
 .rfl
theorem NJ{l:aK}(a:WF l)(s:Int)(b:Nat):0<=ZH l.length (bX l s b)/\ZH l.length (bX l s b)<=l.length:=by
 unfold ZH;rcases nz a s b with h|h
 .rw[h];simp
 .rw[zJ zo];omega
theorem PL{l:aK}(a:WF l){p:Nat->Bool}(d:Marks l p):
 Xc l (l.length+1) (qm (bJ p)) (ez9 (bJ p)) (bJ p).length (fun s i=>ZH l.length (bX l s (qm (bJ p) i))):=by
 refine⟨(UG d.1).1,fun s i c hi=>?_,fun s i c hi b f e w=>?_,fun s t i c ht hi h=>?_⟩
 .have:=NJ a s (qm (bJ p) i);omega
 .rw[wS d hi f e,Ip a]
 .have:=NJ a s (qm (bJ p) i);omega
def Lv(l:aK)(s:Int):Prop:=∃w,aH l s w=true
theorem O4{l:aK}(f:WF l){p:Nat->Bool}(g:Marks l p){cZ:List Int}(m:KE l (l.length+1) cZ){a:Nat->Bool}
(k:∀s:Nat,s<l.length+1->(a (cZ.getD s 0).toNat=true↔Lv l s)){ac:Nat->Bool}(n:∀s:Nat,s<l.length+1->ac s=bI l s)(o:Lv l 0):
 Ap l (l.length+1) (fun s=>cZ.getD s 0)
  (fun s i=>if a (cZ.getD (ZH l.length (bX l s (qm (bJ p) i))).toNat 0).toNat=true then some (ZH l.length (bX l s (qm (bJ p) i))).toNat else none)
  (qm (bJ p)) (ez9 (bJ p)) ac (bJ p).length:=by
 have R:=fun(s i:Nat)=>NJ f s (qm (bJ p) i);have E:=fun(s i:Nat)=>Int.toNat_of_nonneg (R s i).1;refine⟨(UG g.1).1,zo,fun s i t c hi h=>?_,fun s i c hi h b d j w=>?_,fun s t c ht=>m.eq s t c ht,fun s c=>n s c,o⟩
 .simp only[Option.ite_none_right_eq_some,Option.some.injEq]at h;obtain⟨d,j⟩:=h;have r:=R s i;have e:=E s i;have ht:t<l.length+1:=zo;rw[j]at d e;refine⟨ht,(k t ht).1 d,fun b u q w=>?_⟩;rw[wS g hi u q,<-Ip f,<-e]
 .simp only[ite_eq_right_iff,reduceCtorEq,imp_false]at h;have r:=R s i;have e:=E s i;rw[wS g hi d j,<-Ip f,<-e];rw[k _ zo]at h
  cases hx:aH l ((ZH l.length (bX l s (qm (bJ p) i))).toNat:Int) w with
  |false=>rfl
  |true=>exact absurd ⟨w,hx⟩ h
end Cl
namespace Cl
theorem Od{cf:Nat->Int}{o:List Nat}(h:Mc cf o):o.Nodup:=List.Pairwise.imp (fun a e=>a (by rw[e])) h
theorem vS{cf:Nat->Int}{o:List Nat}{N:Nat}(h:Mc cf o)(b:∀x∈o,x<N):o.length<=N:=by
 have:=mr o (List.range N) (Od h) (fun x a=>yQ.2 (b x a));exact qbi
def EF(cf:Nat->Int)(o:List Nat)(c:Int):Nat:=o.findIdx fun s=>cf s==c
theorem NW(cf:Nat->Int)(o:List Nat)(t:Nat):EF cf o (cf t)=d9 cf o t:=rfl
theorem azy(cf:Nat->Int)(o:List Nat)(t:Nat)(c:Int):EF cf (o++[t]) c=if EF cf o c<o.length then EF cf o c else if cf t=c then o.length else o.length+1:=by
 unfold EF;rw[List.findIdx_append]
 split
 .rfl
 .by_cases h:cf t=c
  .simp[h]
  .simp[h];omega
theorem TH{fs:List Ed}{e:Ed}{lo hi to:Nat}(h:¬(e.to=to/\e.hi+1=lo)):lJ (fs++[e]) lo hi to=(fs++[e])++[⟨lo,hi,to⟩]:=by
 unfold lJ;simp[h]
theorem TF{fs:List Ed}{e:Ed}{lo hi to:Nat}(h:e.to=to/\e.hi+1=lo):lJ (fs++[e]) lo hi to=fs++[⟨e.lo,hi,e.to⟩]:=by
 unfold lJ;simp[h]
theorem TG(es:List Ed)(lo hi to:Nat):(lJ es lo hi to).length<=es.length+1:=by
 unfold lJ
 split
 .split<;>simp
 .simp
theorem X5(cf:Nat->Int)(dl:Nat->Nat->Option Nat)(lo hi:Nat->Nat)(s:Nat)(o:List Nat):∀i,(dQ cf dl lo hi s o i).2.length<=i:=by
 intro i
 induction i with
 |zero=>simp[dQ]
 |succ i ih=>
  simp only[dQ]
  split
  .omega
  .have:=TG (dQ cf dl lo hi s o i).2 (lo i) (hi i) (d9 cf (dQ cf dl lo hi s o i).1 (by assumption));exact qdA
theorem TA{cf:Nat->Int}{dl:Nat->Nat->Option Nat}{lo hi:Nat->Nat}{s:Nat}{o:List Nat}{i:Nat}(h:dl s i=none):dQ cf dl lo hi s o (i+1)=dQ cf dl lo hi s o i:=by simp[dQ,h]
theorem Tz{cf:Nat->Int}{dl:Nat->Nat->Option Nat}{lo hi:Nat->Nat}{s:Nat}{o:List Nat}{i t:Nat}(h:dl s i=some t):
 dQ cf dl lo hi s o (i+1)=(eH cf (dQ cf dl lo hi s o i).1 t,lJ (dQ cf dl lo hi s o i).2 (lo i) (hi i) (d9 cf (dQ cf dl lo hi s o i).1 t)):=by simp[dQ,h]
theorem PY{cf:Nat->Int}{dl:Nat->Nat->Option Nat}{lo hi:Nat->Nat}{K N s:Nat}{o:List Nat}{i:Nat}{r:List Nat×List Ed}(h:VM cf dl lo hi K N s o i r)(c:N<=2000000):
 ∀e∈r.2,e.lo<256/\e.hi<256 /\ -9223372036854775808<=e.to/\e.to<=9223372036854775807:=by
 intro e a;have b:=h.bytes e a;have f:=jD h.wf e a;have d:=vS h.GU h.lt;exact⟨b.1,b.2,zo,zo⟩
end Cl
