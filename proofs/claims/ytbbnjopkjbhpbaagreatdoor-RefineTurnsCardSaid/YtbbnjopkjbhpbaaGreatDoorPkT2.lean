/- Lemmas. -/
import Derived.Test.YtbbnjopkjbhpbaaGreatDoorPkT1
set_option maxRecDepth 99999
set_option maxHeartbeats 9999999
namespace Cl
inductive El where
 |dL|dS|dW
 |num (u:Int)
 |str (x:List UInt8)
def El.rk:El->Nat|dL=>0|dS=>1|dW=>2|num _=>3|str _=>4
def El.lt:El->El->Prop
 |num u,num v=>kr u v
 |str x,str y=>CB x y
 |a,b=>a.rk<b.rk
theorem El.lt_irrefl:∀a:El,¬a.lt a
 |dL=>by simp[El.lt]
 |dS=>by simp[El.lt]
 |dW=>by simp[El.lt]
 |num u=>EZ u
 |str x=>kV x
theorem El.VF{a b:El}(h:a.rk<b.rk):a.lt b:=by
 cases a<;>cases b<;>simp_all [El.lt,El.rk]
theorem El.dzI{a b:El}(h:a.lt b):a.rk<=b.rk:=by
 cases a<;>cases b<;>simp_all [El.lt,El.rk]
theorem El.lt_trans{a b c:El}(h:a.lt b)(k:b.lt c):a.lt c:=by
 by_cases e:a.rk<b.rk
 .exact El.VF (by have:=El.dzI k;omega)
 .by_cases d:b.rk<c.rk
  .exact El.VF (by have:=El.dzI h;omega)
  .cases a<;>cases b<;>simp_all [El.lt,El.rk]<;>cases c<;>simp_all
   .exact qR h k
   .exact qD h k
theorem El.Ij(a b:El):a.lt b\/a=b\/b.lt a:=by
 rcases Nat.lt_trichotomy a.rk b.rk with h|h|h
 .exact .inl (El.VF h)
 .cases a<;>cases b<;>simp_all [El.lt,El.rk]
  .rename_i u v;by_cases e:u=v
   .exact .inr (.inl e)
   .rcases uU e with h|h
    .exact .inl h
    .exact qdq
  .exact tJ _ _
 .exact .inr (.inr (El.VF h))
def oL(p:El->Prop):Option El->Prop
 |none=>∀e,¬p e
 |some a=>p a/\∀e,p e->e=a\/a.lt e
theorem oL.congr{p q:El->Prop}{r:Option El}(h:oL p r)(e:∀a,p a↔q a):oL q r:=by
 have:p=q:=funext fun a=>propext (e a);rw[<-this];exact h
inductive mX (p q:El->Prop):Int->Prop where
 |same (h:∀a,p a↔q a):mX p q 0
 |lt (x:El) (h1:p x) (h2:¬q x) (h3:∀y,El.lt y x->(p y↔q y)):mX p q (-1)
 |gt (x:El) (h1:¬p x) (h2:q x) (h3:∀y,El.lt y x->(p y↔q y)):mX p q 1
theorem pG{p q:El->Prop}{c d:Int}(h:mX p q c)(k:mX p q d):c=d:=by
 cases h with
 |same h=>
  cases k with
  |same=>rfl
  |lt x a b _=>exact absurd ((h x).1 a) b
  |gt x a b _=>exact absurd ((h x).2 b) a
 |lt x a b e=>
  cases k with
  |same h=>exact absurd ((h x).1 a) b
  |lt=>rfl
  |gt y a' b' e'=>
   rcases El.Ij x y with o|o|o
   .exact absurd ((e' x o).1 a) b
   .subst o;exact absurd a a'
   .exact absurd ((e y o).2 b') a'
 |gt x a b e=>
  cases k with
  |same h=>exact absurd ((h x).2 b) a
  |gt=>rfl
  |lt y a' b' e'=>
   rcases El.Ij x y with o|o|o
   .exact absurd ((e' x o).2 b) a
   .subst o;exact absurd a' a
   .exact absurd ((e y o).1 a') b'
theorem mX.av{p q:El->Prop}{c:Int}(h:mX p q c):mX q p (-c):=by
 cases h with
 |same h=>exact .same fun w=>(h w).symm
 |lt x a b e=>exact .gt x b a fun y d=>(e y d).symm
 |gt x a b e=>exact .lt x b a fun y d=>(e y d).symm
theorem mX.zero{p q:El->Prop}{c:Int}(h:mX p q c):c=0↔∀a,p a↔q a:=by
 constructor
 .rintro rfl
  cases h with
  |same h=>exact h
 .exact fun e=>pG h (.same e)
theorem mX.range{p q:El->Prop}{c:Int}(h:mX p q c): -1<=c/\c<=1:=by cases h<;>omega
theorem mX.congr{p q d b:El->Prop}{c:Int}(h:mX p q c)(e:∀a,p a↔d a)(i:∀a,q a↔b a):mX d b c:=by
 have g:p=d:=funext fun a=>propext (e a);have f:q=b:=funext fun a=>propext (i a);rw[<-g,<-f];exact h
theorem Kb{p q r:El->Prop}(h:mX p q (-1))(f:mX q r (-1)):mX p r (-1):=by
 cases h with
 |lt x a b e=>
  cases f with
  |lt y a' b' e'=>
   rcases El.Ij x y with o|o|o
   .exact .lt x a (fun d=>b ((e' x o).2 d)) fun z c=>(e z c).trans (e' z (El.lt_trans c o))
   .subst o;exact absurd a' b
   .exact .lt y ((e y o).2 a') b' fun z c=>(e z (El.lt_trans c o)).trans (e' z c)
theorem UC{p q r:El->Prop}{x y z:Int}(b:mX p q x)(a:mX q r y)(d:mX p r z)(k:x<=0)(j:y<=0):z<=0/\(z=0↔x=0/\y=0):=by
 have i:=b.range;have h:=a.range;by_cases g:x=0
 .have e:=b.zero.1 g;have c:=a.congr (fun w=>(e w).symm) (fun _=>Iff.rfl);have:=pG d c;omega
 .obtain rfl:x = -1:=zo;by_cases f:y=0
  .have e:=a.zero.1 f;have c:=b.congr (fun _=>Iff.rfl) e;have:=pG d c;omega
  .obtain rfl:y = -1:=zo;have:=pG d (Kb b a);omega
structure RS where
 dL:Bool
 dS:Bool
 dW:Bool
 i:List dh
 f:List dh
 t:aK
def RS.ns(s:RS):NS:=gz s.i s.f
structure RS.iB (s:RS):Prop where
 ei:s.i=s.ns.i
 ef:s.f=s.ns.rf
 ct:bZ s.t
def RS.has(s:RS):El->Prop
 |.dL=>s.dL=true
 |.dS=>s.dS=true
 |.dW=>s.dW=true
 |.num u=>s.ns.has u
 |.str x=>Sem s.t x=true
theorem RS.qQ(s:RS):fH s.ns:=kH _ _
theorem GR{r s:RS}(b:r.iB)(a:s.iB)(h:∀e,r.has e↔s.has e):r=s:=by
 have o:=h .dL;have m:=h .dS;have l:=h .dW;have k:r.ns=s.ns:=wP r.qQ s.qQ fun u=>h (.num u);have j:r.t=s.t:=vg b.ct a.ct fun w=>by
  have:=h (.str w);simp only[RS.has,dG b.ct,dG a.ct]at this;exact Bool.eq_iff_iff.2 this
 have d:=b.ei;have c:=b.ef;rw[k,<-a.ei]at d;rw[k,<-a.ef]at c;obtain⟨n,f,t,i,g,T⟩:=r;obtain⟨q,y,p,v,x,z⟩:=s;simp only[RS.has]at o m l;simp only at d c j;subst d c j;rw[Bool.eq_iff_iff.2 o,Bool.eq_iff_iff.2 m,Bool.eq_iff_iff.2 l]
structure oK (p:El->Prop) (s:RS):Prop where
 valid:s.iB
 mem:∀e,s.has e↔p e
theorem oK.unique{p:El->Prop}{r s:RS}(h:oK p r)(k:oK p s):r=s:=GR h.valid k.valid fun e=>(h.mem e).trans (k.mem e).symm
theorem oK.congr{p q:El->Prop}{r:RS}(h:oK p r)(e:∀a,p a↔q a):oK q r:=⟨h.valid,fun a=>(h.mem a).trans (e a)⟩
def fe:RS:=⟨false,false,false,[],[],[]⟩
theorem gD:fe.iB:=⟨rfl,rfl,iy⟩
theorem u6(e:El):¬fe.has e:=by
 have a:fe.ns=x9:=czc
 cases e with
 |dL=>simp[RS.has,fe]
 |dS=>simp[RS.has,fe]
 |dW=>simp[RS.has,fe]
 |num u=>simp only[RS.has,a];exact BQ u
 |str x=>simp only[RS.has,fe,dG iy,gK];simp
theorem L8:oK (fun _=>False) fe:=⟨gD,fun e=>⟨u6 e,False.elim⟩⟩
noncomputable def iV(s:RS):RS:=if tf s.iB=true then s else fe
theorem mG{s:RS}(h:s.iB):iV s=s:=by simp[iV,aN h]
theorem XJ{s:RS}(h:¬s.iB):iV s=fe:=by simp[iV,aG h]
theorem qO{p:El->Prop}{n f t:Bool}{x:NS}{T:aK}(k:n=true↔p .dL)(j:f=true↔p .dS)(h:t=true↔p .dW)(b:fH x)(g:∀u,x.has u↔p (.num u))
(c:bZ T)(d:∀w,Sem T w=true↔p (.str w)):oK p ⟨n,f,t,x.i,x.rf,T⟩:=by
 have e:(⟨n,f,t,x.i,x.rf,T⟩:RS).ns=x:=mI b;refine⟨⟨by rw[e],by rw[e],c⟩,fun a=>?_⟩
 cases a with
 |dL=>exact k
 |dS=>exact j
 |dW=>exact h
 |num u=>simp only[RS.has,e];exact g u
 |str w=>exact d w
theorem bzS{a b:RS}(op:Prop->Prop->Prop){n f t:Bool}{x:NS}{T:aK}(l:n=true↔op (a.dL=true) (b.dL=true))(k:f=true↔op (a.dS=true) (b.dS=true))(j:t=true↔op (a.dW=true) (b.dW=true))
(c:fH x)(h:∀u,x.has u↔op (a.ns.has u) (b.ns.has u))(d:bZ T)(g:∀w,Sem T w=true↔op (Sem a.t w=true) (Sem b.t w=true)):
 oK (fun e=>op (a.has e) (b.has e)) ⟨n,f,t,x.i,x.rf,T⟩:=qO l k j c h d g
theorem TA{s:RS}(h:s.dL=true):oL s.has (some .dL):=⟨h,fun e _=>by cases e<;>simp[El.lt,El.rk]⟩
theorem TB{s:RS}(b:s.dL=false)(h:s.dS=true):oL s.has (some .dS):=⟨h,fun e a=>by
 cases e<;>simp[El.lt,El.rk]
 simp[RS.has,b]at a⟩
theorem Tx{s:RS}(c:s.dL=false)(b:s.dS=false)(h:s.dW=true):oL s.has (some .dW):=⟨h,fun e a=>by
 cases e<;>simp[El.lt,El.rk]<;>simp[RS.has,c,b]at a⟩
theorem Tz{s:RS}(i:s.dL=false)(g:s.dS=false)(f:s.dW=false){u:Int}(h:fF s.ns=some u):oL s.has (some (.num u)):=by
 obtain⟨d,c⟩:=(lQ s.qQ).one u h;refine⟨d,fun e a=>?_⟩
 cases e with
 |dL=>simp[RS.has,i]at a
 |dS=>simp[RS.has,g]at a
 |dW=>simp[RS.has,f]at a
 |num v=>
  rcases c v a with rfl|b
  .exact .inl rfl
  .exact .inr b
 |str w=>exact .inr (by simp[El.lt,El.rk])
theorem Ty{s:RS}(k:s.dL=false)(j:s.dS=false)(i:s.dW=false)(g:fF s.ns=none){r:Option (List UInt8)}(h:kS (Sem s.t) r):oL s.has (r.map .str):=by
 have d:=(lQ s.qQ).no g;have b:∀e,s.has e->∃w,e=.str w/\Sem s.t w=true:=fun e a=>by
  cases e with
  |dL=>simp[RS.has,k]at a
  |dS=>simp[RS.has,j]at a
  |dW=>simp[RS.has,i]at a
  |num v=>exact absurd a (d v)
  |str w=>exact⟨w,rfl,a⟩
 cases r with
 |none=>
  intro e a;obtain⟨w,-,c⟩:=b e a;have:=h w;rw[c]at this
  cases this
 |some x=>
  refine⟨h.1,fun e a=>?_⟩;obtain⟨w,rfl,c⟩:=b e a;rcases h.2 w c with rfl|f
  .exact .inl rfl
  .exact .inr f
theorem Ra{r s:RS}(h:r.dL≠s.dL):mX r.has s.has (if r.dL then -1 else 1):=by
 cases hr:r.dL with
 |true=>
  rw[hr]at h
  exact .lt .dL hr (fun a=>h a.symm) fun y b=>by cases y<;>simp[El.lt,El.rk]at b
 |false=>
  rw[hr]at h;exact .gt .dL (fun e=>by simp[RS.has,hr]at e) (by cases a:s.dL with|true=>exact a|false=>exact absurd a.symm h) fun y b=>by cases y<;>simp[El.lt,El.rk]at b
theorem Rb{r s:RS}(d:r.dL=s.dL)(h:r.dS≠s.dS):mX r.has s.has (if r.dS then -1 else 1):=by
 have b:∀y,El.lt y .dS->(r.has y↔s.has y):=fun y c=>by cases y<;>simp[El.lt,El.rk]at c;simp[RS.has,d]
 cases hr:r.dS with
 |true=>
  rw[hr]at h
  exact .lt .dS hr (fun a=>h a.symm) b
 |false=>
  rw[hr]at h;exact .gt .dS (fun e=>by simp[RS.has,hr]at e) (by cases a:s.dS with|true=>exact a|false=>exact absurd a.symm h) b
theorem Q7{r s:RS}(f:r.dL=s.dL)(d:r.dS=s.dS)(h:r.dW≠s.dW):mX r.has s.has (if r.dW then -1 else 1):=by
 have b:∀y,El.lt y .dW->(r.has y↔s.has y):=fun y c=>by cases y<;>simp[El.lt,El.rk]at c<;>simp[RS.has,f,d]
 cases hr:r.dW with
 |true=>
  rw[hr]at h
  exact .lt .dW hr (fun a=>h a.symm) b
 |false=>
  rw[hr]at h;exact .gt .dW (fun e=>by simp[RS.has,hr]at e) (by cases a:s.dW with|true=>exact a|false=>exact absurd a.symm h) b
theorem Q9{r s:RS}(l:r.dL=s.dL)(k:r.dS=s.dS)(j:r.dW=s.dW)(h:rz r.ns s.ns≠0):mX r.has s.has (rz r.ns s.ns):=by
 have f:∀u,(∀v,kr v u->(r.ns.has v↔s.ns.has v))->∀y,El.lt y (.num u)->(r.has y↔s.has y):=fun u i y d=>by
  cases y with
  |dL=>simp[RS.has,l]
  |dS=>simp[RS.has,k]
  |dW=>simp[RS.has,j]
  |num v=>exact i v d
  |str w=>simp[El.lt,El.rk]at d
 rcases UA r.ns s.ns with e|e|e
 .rw[e];obtain⟨u,a,b,c⟩:=(Q6 r.qQ s.qQ).1 e;exact .lt (.num u) a b (f u c)
 .exact absurd e h
 .rw[e];obtain⟨u,a,b,c⟩:=(Yi r.qQ s.qQ).1 e;exact .gt (.num u) b a (f u fun v g=>(c v g).symm)
theorem Q8{r s:RS}(o:r.dL=s.dL)(n:r.dS=s.dS)(m:r.dW=s.dW)(l:rz r.ns s.ns=0){c:Int}(h:gY (Sem r.t) (Sem s.t) c):mX r.has s.has c:=by
 have k:=(Yh r.qQ s.qQ).1 l;have i:∀y,(∀w,y=.str w->Sem r.t w=Sem s.t w)->(r.has y↔s.has y):=fun y g=>by
  cases y with
  |dL=>simp[RS.has,o]
  |dS=>simp[RS.has,n]
  |dW=>simp[RS.has,m]
  |num v=>simp[RS.has,k]
  |str w=>simp[RS.has,g w rfl]
 have f:∀x,(∀z,CB z x->Sem r.t z=Sem s.t z)->∀y,El.lt y (.str x)->(r.has y↔s.has y):=fun x j y g=>i y fun w e=>by subst e;exact j w g
 cases h with
 |same h=>exact .same fun y=>i y fun w _=>h w
 |lt x a b e=>exact .lt (.str x) a (fun d=>by simp only[RS.has]at d;rw[b]at d;cases d) (f x e)
 |gt x a b e=>exact .gt (.str x) (fun d=>by simp only[RS.has]at d;rw[a]at d;cases d) b (f x e)
end Cl
namespace Cl
def fz5:El->Dt
 |.dL=>.mk 1 0 ⟨#[]⟩ [] [] []
 |.dS=>.mk 2 0 ⟨#[]⟩ [] [] []
 |.dW=>.mk 2 1 ⟨#[]⟩ [] [] []
 |.num u=>.mk 3 u ⟨#[]⟩ [] [] []
 |.str x=>.mk 4 0 ⟨x.toArray⟩ [] [] []
def Ob:El->Prop
 |.num u=>cO u
 |_=>True
theorem ezA{s:RS}{e:El}(h:s.has e):Ob e:=by
 cases e with
 |num u=>exact s.qQ.lV h
 |_=>exact trivial
def Hg:List UInt8:=[60]
def J2:List UInt8:=[60,61]
def Ns:List UInt8:=[62]
def PQ:List UInt8:=[62,61]
def SQ:List UInt8:=[61,61]
def bz3:List UInt8:=[33,61]
def Xb(op:List UInt8)(x u:Int):Prop:=
 if op=Hg then x<u else if op=J2 then x<=u else if op=Ns then u<x else if op=PQ then u<=x else if op=SQ then x=u else if op=bz3 then x≠u else False
def known(op:List UInt8):Bool:=decide (op=Hg)||decide (op=J2)||decide (op=Ns)||decide (op=PQ)||decide (op=SQ)||decide (op=bz3)
def jc(op:List UInt8)(u:Int):NS:=
 if op=Hg then Ch u else if op=J2 then J4 u else if op=Ns then iF (J4 u)else if op=PQ then iF (Ch u)else if op=SQ then F7 u else iF (F7 u)
theorem Yt(op:List UInt8)(u:Int):fH (jc op u):=by
 unfold jc
 split
 .exact BF u
 .split
  .exact Io u
  .split
   .exact kL (Io u)
   .split
    .exact kL (BF u)
    .split
     .exact BP u
     .exact kL (BP u)
theorem UN{op:List UInt8}(h:known op=true)(u v:Int):(jc op u).has v↔cO v/\Xb op v u:=by
 unfold jc Xb;by_cases e:op=Hg
 .rw[zK e,zK e];exact NK u v
 rw[zJ e,zJ e];by_cases d:op=J2
 .rw[zK d,zK d];exact NQ u v
 rw[zJ d,zJ d];by_cases c:op=Ns
 .rw[zK c,zK c,pu (Io u),NQ];exact qdc
 rw[zJ c,zJ c];by_cases b:op=PQ
 .rw[zK b,zK b,pu (BF u),NK];exact qdc
 rw[zJ b,zJ b];by_cases a:op=SQ
 .rw[zK a,zK a];exact N7 u v
 rw[zJ a,zJ a];have f:op=bz3:=by
  simp only[known,Bool.or_eq_true,decide_eq_true_eq]at h;simpa [e,d,c,b,a]using h
 rw[zK f,pu (BP u),N7];refine and_congr_right fun hv=>?_;simp only[hv,true_and,ne_eq]
end Cl
namespace Cl
theorem Es:∀(l:List dh) (lo hi:Int),(qf l lo hi).length<=l.length+1
 |[],lo,hi=>by unfold qf;split<;>simp
 |s::r,lo,hi=>by
  have:=Es r (s.2+1) hi;unfold qf
  split<;>simp<;>omega
theorem sM:∀(r:List dh) (s:dh),(sO s true r).length<=r.length
 |[],s=>by simp[sO]
 |x::r,s=>by
  have b:=sM r s;have a:=sM r (min s.1 x.1,max s.2 x.2);rw[sO]
  split
  .exact qdn
  .split
   .simp only[if_true,xN,yO];omega
   .exact qdn
theorem IJ:∀(r:List dh) (s:dh) (d:Bool),(sO s d r).length<=r.length+1
 |[],s,d=>by unfold sO;split<;>simp
 |x::r,s,d=>by
  have c:=IJ r s d;have a:=IJ r (min s.1 x.1,max s.2 x.2) d;have b:=sM r s;rw[sO]
  split
  .exact qdn
  .split
   .cases d<;>simp only[if_true,Bool.false_eq_true,if_false,xK,xN,yO]<;>omega
   .exact qdn
theorem rT(l:List dh):(oO l).length<=l.length:=by
 have:∀(l out:List dh),(l.foldl (fun out s=>if s.2<s.1 then out else sO s false out) out).length<=out.length+l.length:=by
  intro l
  induction l with
  |nil=>intro out;simp
  |cons s l ih=>
   intro out;have:=ih (if s.2<s.1 then out else sO s false out);have a:(if s.2<s.1 then out else sO s false out).length<=out.length+1:=by
    split
    .omega
    .exact IJ out s false
   simp only[List.foldl_cons,yO];omega
 have:=this l [];rw[oO];exact qbe
theorem Eo(l:List dh):(nz l).length<=l.length:=by
 have:=vB (fun s=>decide (s.1<=s.2)) (l.map vM);simpa [nz]using this
theorem Ep(l:List dh):(nA l).length<=l.length:=by
 have:=vB (fun s=>decide (s.1<=s.2)) (l.map pI);simpa [nA]using this
theorem yo(a b:List dh):(eG a b).length<=a.length*b.length:=by
 induction a with
 |nil=>simp[eG]
 |cons x a ih=>
  have h:=vB (fun z:dh=>decide (z.1<=z.2)) (b.map (kM x));have e:eG (x::a) b=((b.map (kM x)).filter fun z=>decide (z.1<=z.2))++eG a b:=by simp[eG]
  rw[e,zL,yO,Nat.succ_mul];rw[xC]at h;omega
structure NS.Le (x:NS) (k:Nat):Prop where
 i:x.i.length<=k
 f:x.f.length<=k
theorem NS.sG(x:NS):x.rf.length=x.f.length:=by simp[NS.rf]
theorem NS.Le.mono{x:NS}{k n:Nat}(h:x.Le k)(hk:k<=n):x.Le n:=⟨yJ h.i hk,yJ h.f hk⟩
theorem jP{I F:List dh}{k:Nat}(b:I.length<=k)(a:F.length<=k):(gz I F).Le k:=by
 refine⟨yJ (rT _) (yJ (Eo I) b),yJ (rT _) ?_⟩;rw[xC];exact yJ (Ep F) a
theorem rR{x:NS}{k:Nat}(h:x.Le k):(iF x).Le (k+1):=
 ⟨yJ (Es _ _ _) (Nat.succ_le_succ h.i),yJ (Es _ _ _) (Nat.succ_le_succ h.f)⟩
theorem ZB{x y:NS}{k n:Nat}(h:x.Le k)(e:y.Le n):(ZC x y).Le (k+n):=by
 have a:=h.i;have b:=h.f;have c:=e.i;have d:=e.f;refine⟨yJ (rT _) ?_,yJ (rT _) ?_⟩<;>rw[zL]<;>omega
theorem V4{x y:NS}{k n:Nat}(h:x.Le k)(a:y.Le n):(qA x y).Le (k+n+3):=(rR (ZB (rR h) (rR a))).mono zo
theorem Ec{x y:NS}{k n:Nat}(h:x.Le k)(a:y.Le n):(gH x y).Le (k+n+4):=(V4 h (rR a)).mono zo
theorem ez7(u:Int):u.tdiv 10000=if u%10000=0\/0<=u then u/10000 else u/10000+1:=by
 rw[Int.tdiv_eq_ediv];have:((10000:Int) ∣ u)↔u%10000=0:=Int.dvd_iff_emod_eq_zero;simp only[this,Int.sign]
 exact qdt
theorem dzx(u:Int):u.tmod 10000=if u%10000=0\/0<=u then u%10000 else u%10000-10000:=by
 rw[Int.tmod_eq_emod];have:((10000:Int) ∣ u)↔u%10000=0:=Int.dvd_iff_emod_eq_zero;simp only[this]
 exact qdt
theorem uO(u:Int):u.tmod 10000=0↔u%10000=0:=by rw[dzx];split<;>omega
end Cl
namespace Cl
noncomputable def mR(s:RS):Bool:=tf (∀e,¬(iV s).has e)
noncomputable def Zb(a b:RS):Bool:=tf (∀e,(iV a).has e->(iV b).has e)
theorem dz3(p q:Prop):tf (p/\q)=(tf p&&tf q):=by
 by_cases b:p<;>by_cases a:q<;>simp[tf,b,a]
theorem QS{s:RS}(h:oL (iV s).has none):mR s=true:=aN h
theorem QR{s:RS}{e:El}(h:oL (iV s).has (some e)):mR s=false:=aG fun k=>k e h.1
theorem WG{a b r:RS}(k:oK (fun e=>(iV a).has e/\¬(iV b).has e) r):mR r=Zb a b:=by
 refine dY ?_;rw[mG k.valid];constructor
 .intro h e f
  cases hb:tf ((iV b).has e)with
  |true=>exact j4.1 hb
  |false=>exact absurd ((k.mem e).2 ⟨f,fun c=>by rw[aN c]at hb;cases hb⟩) (h e)
 .intro h e d;obtain⟨i,g⟩:=(k.mem e).1 d;exact g (h e i)
end Cl
namespace Cl
structure jV {α:Type} (p:α->Prop) (c:α->α->Int):Prop where
 iQ:∀a b,p a->p b -> -1<=c a b/\c a b<=1
 nW:∀a b,p a->p b->c b a = - c a b
 eq:∀a b,p a->p b->(c a b=0↔a=b)
 tr:∀a b d,p a->p b->p d->c a b<=0->c b d<=0->c a d<=0
def rQ(a b:Int):Int:=if a=0 then b else a
theorem PN{a b:Int}:rQ a b=0↔a=0/\b=0:=by unfold rQ;split<;>simp_all
theorem Xj(a b c:Int):rQ (rQ a b) c=rQ a (rQ b c):=by unfold rQ;split<;>simp_all
theorem tX(a:Int):rQ a 0=a:=by unfold rQ;split<;>simp_all
namespace jV
variable {α β:Type} {p:α->Prop} {q:β->Prop} {c:α->α->Int} {d:β->β->Int}
theorem self(h:jV p c){a:α}(b:p a):c a a=0:=(h.eq a a b b).2 rfl
theorem sub(h:jV p c){e:α->Prop}(k:∀a,e a->p a):jV e c where
 iQ a b ha hb:=h.iQ a b (k a ha) (k b hb)
 nW a b ha hb:=h.nW a b (k a ha) (k b hb)
 eq a b ha hb:=h.eq a b (k a ha) (k b hb)
 tr a b d ha hb hd:=h.tr a b d (k a ha) (k b hb) (k d hd)
theorem pair(h:jV p c)(k:jV q d):jV (fun x:α×β=>p x.1/\q x.2) (fun x y=>rQ (c x.1 y.1) (d x.2 y.2)) where
 iQ a b ha hb:=by
  unfold rQ;split
  .exact k.iQ _ _ ha.2 hb.2
  .exact h.iQ _ _ ha.1 hb.1
 nW a b ha hb:=by
  have g:=h.nW _ _ ha.1 hb.1;have e:=k.nW _ _ ha.2 hb.2;unfold rQ;exact qdt
 eq a b ha hb:=by
  rw[PN,h.eq _ _ ha.1 hb.1,k.eq _ _ ha.2 hb.2];exact⟨fun x=>Prod.ext x.1 x.2,fun x=>by rw[x];exact⟨rfl,rfl⟩⟩
 tr a b x ha hb hx g e:=by
  unfold rQ at g e⊢;have n:=h.eq _ _ ha.1 hb.1;have m:=h.eq _ _ hb.1 hx.1;have l:=h.eq _ _ ha.1 hx.1;have t:=h.tr _ _ _ ha.1 hb.1 hx.1;by_cases i:c a.1 b.1=0
  .rw[zK i]at g;have z:=n.1 i;by_cases f:c b.1 x.1=0
   .rw[zK f]at e;rw[z,zK f];exact k.tr _ _ _ ha.2 hb.2 hx.2 g e
   .rw[zJ f]at e;rw[z,zJ f];exact e
  .rw[zJ i]at g;by_cases f:c b.1 x.1=0
   .rw[<-m.1 f,zJ i];exact g
   .rw[zJ f]at e;have t:=t g e
    split
    .rename_i j;have z:=l.1 j;have:=h.nW _ _ ha.1 hb.1;rw[<-z]at e;omega
    .exact t
theorem by'(f:β->α)(h:jV p c)(g:∀x y,q x->q y->f x=f y->x=y)(e:∀x,q x->p (f x)):jV q (fun x y=>c (f x) (f y)) where
 iQ a b ha hb:=h.iQ _ _ (e a ha) (e b hb)
 nW a b ha hb:=h.nW _ _ (e a ha) (e b hb)
 eq a b ha hb:=⟨fun x=>g a b ha hb ((h.eq _ _ (e a ha) (e b hb)).1 x),fun x=>by rw[x];exact h.self (e b hb)⟩
 tr a b d ha hb hd:=h.tr _ _ _ (e a ha) (e b hb) (e d hd)
end jV
def eB{α:Type}(c:α->α->Int):List α->List α->Int
 |[],[]=>0
 |[],_::_ => -1
 |_::_,[]=>1
 |a::l,b::m=>rQ (c a b) (eB c l m)
theorem CR{α:Type}{p:α->Prop}{c:α->α->Int}(h:jV p c):jV (fun l=>∀x∈l,p x) (eB c) where
 iQ:=by
  intro a
  induction a with
  |nil=>intro b _ _;cases b<;>simp[eB]
  |cons x a ih=>
   intro b f e
   cases b with
   |nil=>simp[eB]
   |cons y b=>
    simp only[yA,forall_eq_or_imp]at f e;have i:=h.iQ x y f.1 e.1;have g:=ih b f.2 e.2;simp only[eB,rQ];split<;>assumption
 nW:=by
  intro a
  induction a with
  |nil=>intro b _ _;cases b<;>simp[eB]
  |cons x a ih=>
   intro b f e
   cases b with
   |nil=>simp[eB]
   |cons y b=>
    simp only[yA,forall_eq_or_imp]at f e;have i:=h.nW x y f.1 e.1;have g:=ih b f.2 e.2;simp only[eB,rQ];exact qdt
 eq:=by
  intro a
  induction a with
  |nil=>intro b _ _;cases b<;>simp[eB]
  |cons x a ih=>
   intro b f e
   cases b with
   |nil=>simp[eB]
   |cons y b=>
    simp only[yA,forall_eq_or_imp]at f e;rw[eB,PN,h.eq x y f.1 e.1,ih b f.2 e.2];simp
 tr:=by
  intro a
  induction a with
  |nil=>intro b d _ _ _ i g;cases d<;>simp[eB]
  |cons x a ih=>
   intro b d f e k i g
   cases b with
   |nil=>simp[eB]at i
   |cons y b=>
    cases d with
    |nil=>simp[eB]at g
    |cons z d=>
     simp only[yA,forall_eq_or_imp]at f e k;have s:=h.eq x y f.1 e.1;have r:=h.eq y z e.1 k.1;have q:=h.eq x z f.1 k.1;have t:=h.tr x y z f.1 e.1 k.1;simp only[eB,rQ]at i g⊢;by_cases n:c x y=0
     .rw[zK n]at i;have m:=s.1 n;by_cases j:c y z=0
      .rw[zK j]at g;rw[m,zK j];exact ih b d f.2 e.2 k.2 i g
      .rw[zJ j]at g;rw[m,zJ j];exact g
     .rw[zJ n]at i;by_cases j:c y z=0
      .rw[<-r.1 j,zJ n];exact i
      .rw[zJ j]at g;have t:=t i g
       split
       .rename_i o;have m:=q.1 o;have:=h.nW x y f.1 e.1;rw[<-m]at g;omega
       .exact t
theorem uh{α:Type}(c:α->α->Int)(l m:List α)(k:Nat)(b:k<l.length)(a:k<m.length):eB c (l.drop k) (m.drop k)=rQ (c l[k] m[k]) (eB c (l.drop (k+1)) (m.drop (k+1))):=by
 rw[yE b,yE a];rfl
theorem wY{α:Type}(c:α->α->Int)(l m:List α)(k:Nat)(a:l.length<=k):eB c (l.drop k) (m.drop k)=if k<m.length then -1 else 0:=by
 rw[zQ a]
 split
 .rename_i h;rw[yE h];rfl
 .rename_i h;rw[zQ zo];rfl
theorem uj{α:Type}(c:α->α->Int)(l m:List α)(k:Nat)(b:k<l.length)(a:m.length<=k):eB c (l.drop k) (m.drop k)=1:=by
 rw[yE b,zQ a];rfl
def Bb(a b:Bool):Int:=if a=b then 0 else if a then -1 else 1
theorem QD:jV (fun _=>True) Bb where
 iQ a b _ _:=by cases a<;>cases b<;>decide
 nW a b _ _:=by cases a<;>cases b<;>decide
 eq a b _ _:=by cases a<;>cases b<;>decide
 tr a b d _ _ _:=by cases a<;>cases b<;>cases d<;>decide
def Nw(a b:Int):Int:=if a<b then -1 else if b<a then 1 else 0
theorem Vy:jV (fun _=>True) Nw where
 iQ a b _ _:=by unfold Nw;split<;>(try split)<;>omega
 nW a b _ _:=by unfold Nw;split<;>split<;>(try split)<;>omega
 eq a b _ _:=by unfold Nw;split<;>(try split)<;>omega
 tr a b d _ _ _:=by unfold Nw;split<;>split<;>split<;>(try split)<;>(try split)<;>(try split)<;>omega
end Cl
namespace Cl
inductive Vl where
 |mk (any:Bool) (s:RS) (aJ:List (List (Vl×Vl)×List (Vl×Vl))) (ay:List (List ((ByteArray×Int)×(Vl×Vl))×List (aK×(Vl×Vl))))
abbrev Vd:=Vl×Vl
abbrev Lc:=List Vd×List Vd
abbrev Fd:=(ByteArray×Int)×Vd
abbrev Kl:=aK×Vd
abbrev St:=List Fd×List Kl
def Vl.any:Vl->Bool|.mk a _ _ _=>a
def Vl.s:Vl->RS|.mk _ s _ _=>s
def Vl.aJ:Vl->List Lc|.mk _ _ l _=>l
def Vl.ay:Vl->List St|.mk _ _ _ t=>t
def aX(c:Lc):List Vd:=c.1++c.2
def bJ(c:St):List Vd:=c.1.map (·.2)++c.2.map (·.2)
def Vl.kids(v:Vl):List Vd:=v.aJ.flatMap aX++v.ay.flatMap bJ
def dn:Vl:=.mk false fe [] []
def eX:Vl:=.mk true fe [] []
def Ht:Nat->Vl->Prop
 |0,_=>False
 |n+1,v=>∀x∈v.kids,Ht n x.1/\Ht n x.2
theorem Ht.succ:∀{n:Nat} {v:Vl},Ht n v->Ht (n+1) v
 |0,_,h=>h.elim
 |_+1,_,h=>fun x a=>⟨(h x a).1.succ,(h x a).2.succ⟩
theorem Ht.mono{n m:Nat}{v:Vl}(h:Ht n v)(k:n<=m):Ht m v:=by
 induction k with
 |refl=>exact h
 |step _ ih=>exact ih.succ
def di:Nat->Vl->Nat
 |0,_=>0
 |n+1,v=>1+(v.kids.map fun x=>di n x.1+di n x.2).sum
theorem KE{α:Type}{f g:α->Nat}:∀{l:List α},(∀x∈l,f x=g x)->(l.map f).sum=(l.map g).sum
 |[],_=>rfl
 |x::l,h=>by
  simp only[yL,vG];rw[h x zS,KE fun y hy=>h y qef]
theorem DK:∀{n:Nat} {v:Vl},Ht n v->di (n+1) v=di n v
 |0,_,h=>h.elim
 |n+1,v,h=>by
  rw[di,di]
  congr 1
  exact KE fun x a=>by rw[DK (h x a).1,DK (h x a).2]
theorem zx{n m:Nat}{v:Vl}(h:Ht n v)(k:n<=m):di m v=di n v:=by
 induction k with
 |refl=>rfl
 |step k ih=>rw[DK (h.mono k),ih]
theorem Gn{n:Nat}{v:Vl}(h:Ht n v):1<=di n v:=by
 cases n with
 |zero=>exact h.elim
 |succ n=>rw[di];omega
structure bzs (k:Nat) (most r:Int):Prop where
 le:(k:Int)<=most->r=k
 gt:most<k->most<r
 pos:1<=r
 top:r<=if most<1 then 1 else 2*most+2
structure JK (p:Nat) (most n:Int):Prop where
 le:(p:Int)<=most->n=p
 gt:most<p->most<n
 pos:1<=n
 top:n<=if most<1 then 1 else 2*most+2
theorem JK.start(a:Int):JK 1 a 1:=⟨fun _=>rfl,fun h=>h,zo,by split<;>omega⟩
theorem JK.step{p a b:Nat}{c n x y:Int}(h:JK p c n)(u:n<=c)(q:bzs a (c-n) x)(o:bzs b (c-(n+x)) y)(w:1<=a)(v:1<=b):JK (p+(a+b)) c (n+x+y):=by
 obtain⟨B,A,z,r⟩:=h;obtain⟨d,l,t,j⟩:=q;obtain⟨i,g,s,f⟩:=o;have e:n=p:=zo;rw[zJ zo]at r;refine⟨fun k=>?_,fun k=>?_,zo,?_⟩
 .have:=d zo;have:=i zo;omega
 .by_cases m:(a:Int)<=c-n
  .have:=d m;have:=g zo;omega
  .have:=l zo;omega
 .rw[zJ zo]
  split at j<;>split at f<;>omega
def F9(a b:ByteArray):Bool:=Go.Op.bytesLess a.data.toList b.data.toList
structure fI (l:List Fd):Prop where
 eze:∀f∈l,f.1.2=1\/f.1.2=2
 asc:∀i (h:i+1<l.length),F9 l[i].1.1 (l[i+1]).1.1=true
noncomputable def CY(c:St)(w:List UInt8):Nat:=c.2.countP (fun k=>Sem k.1 w)+c.1.countP (fun f=>f.1.1.data.toList==w)
structure bC (c:St):Prop where
 sets:∀k∈c.2,bZ k.1/\k.1≠[]
 once:∀w,CY c w=1
structure rF (v:Vl):Prop where
 any:v.any=true->v.s=fe/\v.aJ=[]/\v.ay=[]
 rest:∀c∈v.aJ,c.2.length<=1
 st:∀c∈v.ay,fI c.1/\bC c
 sc:v.s.iB
def ib:Nat->Vl->Prop
 |0,_=>False
 |n+1,v=>rF v/\∀x∈v.kids,ib n x.1/\ib n x.2
def iI(v:Vl):Prop:=ib 16 v
theorem ib.ht:∀{n:Nat} {v:Vl},ib n v->Ht n v
 |0,_,h=>h.elim
 |_+1,_,h=>fun x a=>⟨(h.2 x a).1.ht,(h.2 x a).2.ht⟩
def fzi:List Nat->Nat
 |[]=>0
 |x::l=>max x (fzi l)
def dep:Nat->Vl->Nat
 |0,_=>0
 |n+1,v=>fzi (v.kids.map fun x=>max (dep n x.1) (dep n x.2))+1
theorem qG{α:Type}(f:α->Nat)(P:α->Prop):∀k a,f a<=k->P a->∃b,P b/\∀d,P d->f b<=f d
 |0,a,h,hp=>⟨a,hp,fun d _=>zo⟩
 |k+1,a,h,hp=>by
  by_cases e:∃d,P d/\f d<=k
  .obtain⟨d,i,c⟩:=e;exact qG f P k d c i
  .exact⟨a,hp,fun d g=>by
    have:¬f d<=k:=fun c=>e ⟨d,g,c⟩;omega⟩
theorem Lj:∀(n:Nat) (P:List UInt8->Prop) (w:List UInt8),w.length=n->P w->∃w,w.length=n/\P w/\∀y,y.length=n->P y->y=w\/lex w y
 |0,P,w,h,hp=>⟨w,h,hp,fun y c _=>.inl (by rw[xJ.1 h,xJ.1 c])⟩
 |n+1,P,[],h,hp=>by simp at h
 |n+1,P,a::w,h,hp=>by
  obtain⟨b,⟨t,p,o⟩,m⟩:=qG (fun b:UInt8=>b.toNat) (fun b=>∃t,t.length=n/\P (b::t)) a.toNat a (zI _) ⟨w,by simpa using h,hp⟩;obtain⟨u,l,k,j⟩:=Lj n (fun t=>P (b::t)) t p o;refine⟨b::u,by simp[l],k,fun y c g=>?_⟩
  cases y with
  |nil=>simp at c
  |cons d y=>
   have f:y.length=n:=by simpa using c
   have:=m d ⟨y,f,g⟩;by_cases e:b=d
   .subst e;rcases j y f g with rfl|i
    .exact .inl rfl
    .exact .inr (.inr ⟨rfl,i⟩)
   .refine .inr (.inl (UInt8.lt_iff_toNat_lt.2 ?_));have:b.toNat≠d.toNat:=fun h=>e (UInt8.toNat_inj.1 h);omega
theorem WU{P:List UInt8->Prop}{w:List UInt8}(b:P w):∃w,P w/\∀y,P y->y=w\/CB w y:=by
 obtain⟨x,g,f⟩:=qG List.length P w.length w (zI _) b;obtain⟨u,i,d,c⟩:=Lj x.length P x rfl g;refine⟨u,d,fun y a=>?_⟩;have:=f y a;by_cases e:y.length=x.length
 .rcases c y e a with h|h
  .exact .inl h
  .exact .inr (.inr ⟨zo,h⟩)
 .exact .inr (.inl zo)
theorem Uy(f g:List UInt8->Bool):∃c,gY f g c:=by
 by_cases h:∃w,f w≠g w
 .obtain⟨w,j⟩:=h;obtain⟨x,i,k⟩:=WU (P:=fun w=>f w≠g w) j;have d:∀y,CB y x->f y=g y:=fun y b=>by
   by_cases e:f y=g y
   .exact e
   .rcases k y e with rfl|h
    .exact absurd b (kV _)
    .exact(tK h b).elim
  cases hf:f x with
  |true=>exact⟨_,.lt x hf (by cases a:g x with|false=>rfl|true=>exact absurd (hf.trans a.symm) i) d⟩
  |false=>exact⟨_,.gt x hf (by cases a:g x with|true=>rfl|false=>exact absurd (hf.trans a.symm) i) d⟩
 .exact⟨0,.same fun w=>Classical.not_not.1 fun e=>h ⟨w,e⟩⟩
theorem VW(a b:RS):∃c,mX a.has b.has c:=by
 by_cases d:a.dL=b.dL
 .by_cases e:a.dS=b.dS
  .by_cases f:a.dW=b.dW
   .by_cases g:rz a.ns b.ns=0
    .obtain⟨c,h⟩:=Uy (Sem a.t) (Sem b.t);exact⟨c,Q8 d e f g h⟩
    .exact⟨_,Q9 d e f g⟩
   .exact⟨_,Q7 d e f⟩
  .exact⟨_,Rb d e⟩
 .exact⟨_,Ra d⟩
noncomputable def scC(a b:RS):Int:=(VW a b).choose
theorem qP(a b:RS):mX a.has b.has (scC a b):=(VW a b).choose_spec
theorem Zv{a b:RS}{c:Int}(h:mX a.has b.has c):scC a b=c:=pG (qP a b) h
noncomputable def nX(a b:aK):Int:=(Uy (Sem a) (Sem b)).choose
theorem jb(a b:aK):gY (Sem a) (Sem b) (nX a b):=(Uy (Sem a) (Sem b)).choose_spec
theorem CV{a b:aK}{c:Int}(h:gY (Sem a) (Sem b) c):nX a b=c:=ry (jb a b) h
theorem F3:jV RS.iB scC where
 iQ a b _ _:=(qP a b).range
 nW a b _ _:=Zv (qP a b).av
 eq a b ha hb:=(qP a b).zero.trans ⟨fun h=>GR ha hb h,fun h e=>by rw[h]⟩
 tr a b d _ _ _ h1 h2:=(UC (qP a b) (qP b d) (qP a d) h1 h2).1
theorem ny:jV bZ nX where
 iQ a b _ _:=(jb a b).range
 nW a b _ _:=CV (jb a b).av
 eq a b ha hb:=(jb a b).zero.trans ⟨fun h=>nu (jy ha) ((jy hb).congr fun w=>(h w).symm),fun h w=>by rw[h]⟩
 tr a b d _ _ _ h1 h2:=(Mf (jb a b) (jb b d) (jb a d) h1 h2).1
def Gz(a b:ByteArray):Int:=if F9 a b then -1 else if a=b then 0 else 1
theorem Jq:∀x:List UInt8,Go.Op.bytesLess x x=false
 |[]=>rfl
 |a::x=>by simp[Go.Op.bytesLess,Jq x]
theorem Mq:∀x y:List UInt8,x≠y->Go.Op.bytesLess x y = !Go.Op.bytesLess y x
 |[],[],h=>absurd rfl h
 |[],_::_,_=>by simp[Go.Op.bytesLess]
 |_::_,[],_=>by simp[Go.Op.bytesLess]
 |a::x,b::y,h=>by
  by_cases e:a=b
  .subst e;have:=Mq x y (fun i=>h (by rw[i]));simp[Go.Op.bytesLess,this]
  .have g:a.toNat≠b.toNat:=fun h=>e (UInt8.toNat_inj.1 h);rcases Nat.lt_or_gt_of_ne g with f|f
   .have d:a<b:=UInt8.lt_iff_toNat_lt.2 f;have c:¬b<a:=fun h=>by have:=UInt8.lt_iff_toNat_lt.1 h;omega
    simp[Go.Op.bytesLess,d,c,Ne.symm e]
   .have d:b<a:=UInt8.lt_iff_toNat_lt.2 f;have c:¬a<b:=fun h=>by have:=UInt8.lt_iff_toNat_lt.1 h;omega
    simp[Go.Op.bytesLess,d,c,e]
theorem Mo:∀x y z:List UInt8,Go.Op.bytesLess x y=true->Go.Op.bytesLess y z=true->Go.Op.bytesLess x z=true
 |[],[],_,h,_=>by simp[Go.Op.bytesLess]at h
 |_::_,[],_,h,_=>by simp[Go.Op.bytesLess]at h
 |_,_::_,[],_,h=>by simp[Go.Op.bytesLess]at h
 |[],_::_,_::_,_,_=>by simp[Go.Op.bytesLess]
 |a::x,b::y,c::z,h,k=>by
  simp[Go.Op.bytesLess]at h k⊢;rcases h with h|⟨rfl,h⟩
  .rcases k with k|⟨rfl,k⟩
   .exact .inl (UInt8.lt_trans h k)
   .exact .inl h
  .rcases k with k|⟨rfl,k⟩
   .exact .inl k
   .exact .inr ⟨rfl,Mo x y z h k⟩
theorem OB{a b:ByteArray}(h:a.data.toList=b.data.toList):a=b:=by
 obtain⟨⟨a⟩⟩:=a;obtain⟨⟨b⟩⟩:=b;simp only at h;rw[h]
theorem BU(a:ByteArray):F9 a a=false:=Jq _
theorem Yv{a b:ByteArray}(h:a≠b):F9 a b = !F9 b a:=Mq _ _ fun e=>h (OB e)
theorem EF{a b c:ByteArray}(h:F9 a b=true)(k:F9 b c=true):F9 a c=true:=Mo _ _ _ h k
theorem Zd:jV (fun _=>True) Gz where
 iQ a b _ _:=by unfold Gz;split<;>(try split)<;>omega
 nW a b _ _:=by
  by_cases e:a=b
  .subst e;simp[Gz,BU]
  .have:=Yv e;unfold Gz;rw[zJ e,zJ (Ne.symm e),this];cases F9 b a<;>simp
 eq a b _ _:=by
  by_cases e:a=b
  .subst e;simp[Gz,BU]
  .unfold Gz;rw[zJ e];cases F9 a b<;>simp[e]
 tr a b d _ _ _ h1 h2:=by
  unfold Gz at*
  by_cases f:a=b
  .subst f;exact h2
  .by_cases c:b=d
   .subst c;exact h1
   .rw[zJ f]at h1;rw[zJ c]at h2;have i:F9 a b=true:=by cases h:F9 a b with|true=>rfl|false=>rw[h]at h1;simp at h1
    have g:F9 b d=true:=by cases h:F9 b d with|true=>rfl|false=>rw[h]at h2;simp at h2
    rw[zK (EF i g)];omega
noncomputable def vdC(c:Vl->Vl->Int)(a b:Vd):Int:=rQ (c a.1 b.1) (c a.2 b.2)
noncomputable def Lm(c:Vl->Vl->Int)(a b:Lc):Int:=rQ (Nw a.1.length b.1.length) (rQ (Bb (decide (0<a.2.length)) (decide (0<b.2.length))) (eB (vdC c) (aX a) (aX b)))
noncomputable def fdC(c:Vl->Vl->Int)(a b:Fd):Int:=rQ (rQ (Gz a.1.1 b.1.1) (Nw a.1.2 b.1.2)) (vdC c a.2 b.2)
noncomputable def klC(c:Vl->Vl->Int)(a b:Kl):Int:=rQ (nX a.1 b.1) (vdC c a.2 b.2)
noncomputable def KJ(c:Vl->Vl->Int)(a b:St):Int:=rQ (eB (fdC c) a.1 b.1) (eB (klC c) a.2 b.2)
noncomputable def gI:Nat->Vl->Vl->Int
 |0,_,_=>0
 |n+1,a,b=>rQ (Bb a.any b.any) (rQ (scC a.s b.s) (rQ (eB (Lm (gI n)) a.aJ b.aJ) (eB (KJ (gI n)) a.ay b.ay)))
theorem DJ{a b:Vl}(f:a.any=b.any)(e:a.s=b.s)(d:a.aJ=b.aJ)(c:a.ay=b.ay):a=b:=by
 obtain⟨_,_,_,_⟩:=a;obtain⟨_,_,_,_⟩:=b;simp only[Vl.any,Vl.s,Vl.aJ,Vl.ay]at*
 subst f e d c;rfl
theorem dM{v:Vl}{c:Lc}(b:c∈v.aJ){x:Vd}(a:x∈aX c):x∈v.kids:=yP.2 (.inl (xW.2 ⟨c,b,a⟩))
theorem dP{v:Vl}{c:St}(b:c∈v.ay){x:Vd}(a:x∈bJ c):x∈v.kids:=yP.2 (.inr (xW.2 ⟨c,b,a⟩))
theorem oC{v:Vl}{c:St}(b:c∈v.ay){f:Fd}(a:f∈c.1):f.2∈v.kids:=dP b (yP.2 (.inl (yD.2 ⟨f,a,rfl⟩)))
theorem oG{v:Vl}{c:St}(a:c∈v.ay){k:Kl}(hk:k∈c.2):k.2∈v.kids:=dP a (yP.2 (.inr (yD.2 ⟨k,hk,rfl⟩)))
section
variable {p:Vl->Prop} {c:Vl->Vl->Int}
theorem MO(h:jV p c):jV (fun x:Vd=>p x.1/\p x.2) (vdC c):=h.pair h
theorem uV(h:jV p c):jV (fun x:Lc=>x.2.length<=1/\∀y∈aX x,p y.1/\p y.2) (Lm c):=by
 have d:=(Vy.pair (QD.pair (CR (MO h)))).by' (q:=fun x:Lc=>x.2.length<=1/\∀y∈aX x,p y.1/\p y.2) (fun x:Lc=>((x.1.length:Int),decide (0<x.2.length),aX x)) (fun x y a j e=>by
  simp only[Prod.mk.injEq]at e;obtain⟨b,k,i⟩:=e;have b:x.1.length=y.1.length:=zo;obtain⟨g,f⟩:=List.append_inj i b;exact Prod.ext g f) (fun x a=>⟨trivial,trivial,a.2⟩)
 exact d
theorem czB(h:jV p c):jV (fun x:Fd=>p x.2.1/\p x.2.2) (fdC c):=
 ((Zd.pair Vy).pair (MO h)).sub fun _ h=>⟨⟨trivial,trivial⟩,h⟩
theorem czq(h:jV p c):jV (fun x:Kl=>bZ x.1/\p x.2.1/\p x.2.2) (klC c):=ny.pair (MO h)
theorem uQ(h:jV p c):jV (fun x:St=>(∀f∈x.1,p f.2.1/\p f.2.2)/\∀k∈x.2,bZ k.1/\p k.2.1/\p k.2.2) (KJ c):=(CR (czB h)).pair (CR (czq h))
end
theorem lX:∀n,jV (ib n) (gI n)
 |0=>⟨fun _ _ h=>h.elim,fun _ _ h=>h.elim,fun _ _ h=>h.elim,fun _ _ _ h=>h.elim⟩
 |n+1=>by
  have d:=lX n;have h:=(QD.pair (F3.pair ((CR (uV d)).pair (CR (uQ d))))).by' (q:=ib (n+1)) (fun v:Vl=>(v.any,v.s,v.aJ,v.ay)) (fun x y _ _ e=>by
   simp only[Prod.mk.injEq]at e;exact DJ e.1 e.2.1 e.2.2.1 e.2.2.2) (fun v a=>⟨trivial,a.1.sc,fun c b=>⟨a.1.rest c b,fun y g=>a.2 y (dM b g)⟩,fun c b=>
    ⟨fun f i=>a.2 _ (oC b i),fun k hk=>⟨((a.1.st c b).2.sets k hk).1,a.2 _ (oG b hk)⟩⟩⟩)
  exact h
end Cl
namespace Cl
structure fA where
 n:Nat
 step:Int->Nat->Int
 acc:Int->Bool
structure fA.Ok (c:fA):Prop where
 pos:1<=c.n
 step:∀i b,-1<=c.step i b/\c.step i b<c.n
def fA.from(c:fA):Int->List UInt8->Int
 |i,[]=>i
 |i,b::w=>c.from (c.step i b.toNat) w
def fA.qp(c:fA)(w:List UInt8):Bool:=c.acc (c.from 0 w)
def iD(cs:List fA)(v:List Int)(b:Nat):List Int:=List.zipWith (fun c i=>c.step i b) cs v
def eF(cs:List fA):List Int:=cs.map fun _=>0
def oW(cs:List fA)(v:List Int):Nat:=(List.zipWith (fun c i=>c.acc i) cs v).countP id
def sF(cs:List fA):List Int->List UInt8->List Int
 |v,[]=>v
 |v,b::w=>sF cs (iD cs v b.toNat) w
theorem vX{α β γ:Type}(f:α->β->γ)(g:α->β):∀l:List α,List.zipWith f l (l.map g)=l.map fun x=>f x (g x)
 |[]=>rfl
 |x::l=>by simp only[yL,List.zipWith_cons_cons,vX f g l]
theorem iX(cs:List fA):∀(w:List UInt8) (f:fA->Int),sF cs (cs.map f) w=cs.map fun c=>c.from (f c) w
 |[],f=>rfl
 |b::w,f=>by
  rw[sF,iD,vX,iX cs w]
  rfl
theorem Kv(cs:List fA)(w:List UInt8):oW cs (sF cs (eF cs) w)=cs.countP fun c=>c.qp w:=by
 rw[eF,iX,oW,vX,List.countP_map]
 rfl
theorem EP(cs:List fA):∀(u w:List UInt8) (v:List Int),sF cs v (u++w)=sF cs (sF cs v u) w
 |[],_,_=>rfl
 |b::u,w,v=>by simp only[xK,sF,EP cs u w]
def lD(cs:List fA)(v:List Int):Prop:=∃w,v=sF cs (eF cs) w
theorem lD.start(cs:List fA):lD cs (eF cs):=⟨[],rfl⟩
theorem lD.step{cs:List fA}{v:List Int}(h:lD cs v){b:Nat}(a:b<256):lD cs (iD cs v b):=by
 obtain⟨w,rfl⟩:=h;refine⟨w++[UInt8.ofNat b],?_⟩;rw[EP];simp only[sF]
 congr 1
 simp[Nat.mod_eq_of_lt a]
theorem Dg{cs:List fA}{S:List Int->Prop}(a:S (eF cs))(c:∀v,S v->∀b<256,S (iD cs v b)){v:List Int}(h:lD cs v):S v:=by
 obtain⟨w,rfl⟩:=h;generalize eF cs=u at a
 induction w generalizing u with
 |nil=>exact a
 |cons b w ih=>exact ih _ (c u a b.toNat (UInt8.toNat_lt b))
def Fz(cs:List fA):Prop:=∀w,cs.countP (fun c=>c.qp w)=1
theorem wO{cs:List fA}{S:List Int->Prop}(d:S (eF cs))(a:∀v,S v->∀b<256,S (iD cs v b))(c:∀v,S v->oW cs v=1):Fz cs:=fun w=>by
 rw[<-Kv];exact c _ (Dg d a ⟨w,rfl⟩)
theorem ZK{cs:List fA}{v:List Int}(h:lD cs v)(k:oW cs v≠1):¬Fz cs:=fun a=>by
 obtain⟨w,rfl⟩:=h;rw[Kv]at k;exact k (a w)
def Bi:List fA->List Int->Prop
 |[],[]=>True
 |[],_::_=>False
 |_::_,[]=>False
 |c::cs,i::v=>(-1<=i/\i<c.n)/\Bi cs v
theorem Bi.len:∀{cs:List fA} {v:List Int},Bi cs v->v.length=cs.length
 |[],[],_=>rfl
 |[],_::_,h=>h.elim
 |_::_,[],h=>h.elim
 |c::cs,i::v,h=>by simp[Bi.len h.2]
theorem Bi.start:∀{cs:List fA},(∀c∈cs,c.Ok)->Bi cs (eF cs)
 |[],_=>trivial
 |c::cs,h=>⟨⟨by show(-1:Int)<=0;omega,by have:=(h c zS).pos;show(0:Int)<c.n;omega⟩,Bi.start fun d a=>h d (by simp[a])⟩
theorem Bi.step:∀{cs:List fA} {v:List Int} (_:∀c∈cs,c.Ok) (_:v.length=cs.length) (b:Nat),Bi cs (iD cs v b)
 |[],[],_,_,_=>trivial
 |[],_::_,_,h,_=>by simp at h
 |_::_,[],_,h,_=>by simp at h
 |c::cs,i::v,h,hl,b=>⟨(h c zS).step i b,Bi.step (fun d a=>h d (by simp[a])) qdR b⟩
theorem Bi.get:∀{cs:List fA} {v:List Int} (_:Bi cs v) (i:Nat) (a:i<cs.length) (h2:i<v.length),-1<=v[i]/\v[i]<cs[i].n
 |[],_,_,i,a,_=>by simp at a
 |_::_,[],h,_,_,_=>h.elim
 |c::cs,x::v,h,0,_,_=>h.1
 |c::cs,x::v,h,i+1,a,h2=>Bi.get h.2 i (by simpa using a) qep
theorem Bi.reach{cs:List fA}(h:∀c∈cs,c.Ok){v:List Int}(k:lD cs v):Bi cs v:=
 Dg (S:=Bi cs) (Bi.start h) (fun _ a b _=>Bi.step h a.len b) k
def MV:List fA->List (List Int)
 |[]=>[[]]
 |c::cs=>(List.range (c.n+1)).flatMap fun(i:Nat)=>(MV cs).map fun v=>((i:Int)-1)::v
theorem wX:∀{cs:List fA} {v:List Int},Bi cs v->v∈MV cs
 |[],[],_=>by simp[MV]
 |[],_::_,h=>h.elim
 |_::_,[],h=>h.elim
 |c::cs,i::v,h=>by
  refine xW.2 ⟨(i+1).toNat,yQ.2 (by have b:=h.1.1;have a:=h.1.2;omega),yD.2 ⟨v,wX h.2,?_⟩⟩
  congr 1
  have:=h.1;omega
def nI:List fA->Nat
 |[]=>1
 |c::cs=>(c.n+1)*nI cs
theorem xw{α β:Type}(f:α->List β)(k:Nat):∀(l:List α),(∀x∈l,(f x).length=k)->(l.flatMap f).length=l.length*k
 |[],_=>by simp
 |x::l,h=>by
  rw[xO,zL,h x zS,xw f k l fun y hy=>h y qef,yO,Nat.succ_mul,Nat.add_comm]
theorem wB:∀cs:List fA,(MV cs).length=nI cs
 |[]=>rfl
 |c::cs=>by
  rw[MV,nI,xw _ (nI cs) _ (fun x _=>by rw[xC,wB cs]),List.length_range]
theorem qK{k:Nat}:∀{cs:List fA},(∀c∈cs,c.n+1<=k)->nI cs<=k ^ cs.length
 |[],_=>by simp[nI]
 |c::cs,h=>by
  rw[nI,yO,Nat.pow_succ,Nat.mul_comm (k ^ cs.length)];exact xV (h c zS) (qK fun d a=>h d (by simp[a]))
def kT(l:aK):fA:=⟨l.length,cu l,bL l⟩
theorem Aa{l:aK}(h:bZ l)(a:l≠[]):(kT l).Ok where
 pos:=by have:=yY.2 a;exact this
 step i b:=by
  have:=mY h.wf i b;have c:=yY.2 a;show -1<=cu l i b/\cu l i b<(l.length:Int);omega
theorem KA(l:aK):∀(w:List UInt8) (i:Int),bL l ((kT l).from i w)=aH l i w
 |[],_=>rfl
 |_::w,_=>KA l w _
theorem WE{l:aK}(h:bZ l)(w:List UInt8):(kT l).qp w=Sem l w:=by
 rw[dG h];exact KA l w 0
def nL(s:List UInt8)(i:Int)(b:Nat):Int:=if 0<=i/\(s[i.toNat]?).map (·.toNat)=some b then i+1 else -1
def rG(s:List UInt8):fA:=⟨s.length+1,nL s,fun i=>i==(s.length:Int)⟩
theorem czo(s:List UInt8):(rG s).Ok where
 pos:=by show 1<=s.length+1;omega
 step i b:=by
  show -1<=nL s i b/\nL s i b<((s.length+1:Nat):Int);unfold nL
  split
  .rename_i h;obtain⟨d,c⟩:=h;obtain⟨x,a,-⟩:=Option.map_eq_some_iff.1 c;have:=(yB.1 a).1;omega
  .omega
theorem Iz(s:List UInt8):∀w:List UInt8,(rG s).from (-1) w = -1
 |[]=>rfl
 |b::w=>by
  rw[fA.from,show(rG s).step (-1) b.toNat = -1 by simp[rG,nL]];exact Iz s w
theorem Lx(s:List UInt8):∀(w:List UInt8) (i:Nat),i<=s.length->((rG s).from i w=(s.length:Int)↔w=s.drop i)
 |[],i,h=>by
  simp only[fA.from];constructor
  .intro e;rw[List.drop_eq_nil_iff.2 zo]
  .intro e;have:=List.drop_eq_nil_iff.1 e.symm
   omega
 |b::w,i,h=>by
  rw[fA.from];by_cases hi:i<s.length
  .rw[yE hi];by_cases e:s[i].toNat=b.toNat
   .have:(rG s).step i b.toNat=((i+1:Nat):Int):=by
     simp only[rG,nL];rw[zK ⟨zo,by simp[hi,e]⟩];simp
    rw[this,Lx s w (i+1) zo,UInt8.toNat_inj.1 e];simp
   .have:(rG s).step i b.toNat = -1:=by
     simp only[rG,nL];rw[zJ (by simp[hi,e])]
    rw[this,Iz];constructor
    .intro h;omega
    .intro h;simp only[List.cons.injEq]at h;exact absurd (by rw[h.1]) e
  .have:(rG s).step i b.toNat = -1:=by
    simp only[rG,nL];rw[zJ (by simp[vC (Nat.le_of_not_lt hi)])]
   rw[this,Iz,List.drop_eq_nil_iff.2 zo];constructor
   .intro h;omega
   .intro h;cases h
theorem XB(s w:List UInt8):(rG s).qp w=(s==w):=by
 have:=Lx s w 0 (zG _);rw[List.drop_zero]at this;show((rG s).from 0 w==(s.length:Int))=(s==w);rw[Bool.eq_iff_iff,beq_iff_eq,beq_iff_eq];exact this.trans eq_comm
def dU(c:St):List fA:=c.2.map (fun k=>kT k.1)++c.1.map fun f=>rG f.1.1.data.toList
theorem bzQ{c:St}(h:∀k∈c.2,bZ k.1/\k.1≠[]):∀x∈dU c,x.Ok:=by
 intro x a;rcases yP.1 a with a|a
 .obtain⟨k,hk,rfl⟩:=yD.1 a;exact Aa (h k hk).1 (h k hk).2
 .obtain⟨f,b,rfl⟩:=yD.1 a;exact czo _
theorem yj{α:Type}{p q:α->Bool}:∀{l:List α},(∀x∈l,p x=q x)->l.countP p=l.countP q
 |[],_=>rfl
 |x::l,h=>by
  simp only[List.countP_cons,h x zS,yj fun y a=>h y (zU _ a)]
theorem KI{c:St}(h:∀k∈c.2,bZ k.1/\k.1≠[]):Fz (dU c)↔∀w,CY c w=1:=by
 have:∀w,(dU c).countP (fun x=>x.qp w)=CY c w:=fun w=>by
  rw[dU,List.countP_append,List.countP_map,List.countP_map,CY]
  congr 1
  .exact yj fun k hk=>WE (h k hk).1 w
  .exact yj fun f _=>XB _ _
 simp only[Fz,this]
theorem Kc(c:St):bC c↔(∀k∈c.2,bZ k.1/\k.1≠[])/\Fz (dU c):=
 ⟨fun h=>⟨h.sets,(KI h.sets).2 h.once⟩,fun h=>⟨h.1,(KI h.1).1 h.2⟩⟩
end Cl
namespace Cl
theorem Et{α:Type}{p:α->Bool}{l:List α}(h:∀i (hi:i<l.length),p l[i]=false):l.find? p=none:=by
 rw[List.find?_eq_none];intro x a;obtain⟨i,hi,rfl⟩:=yX a;simp[h i hi]
theorem NZ{α:Type}{p:α->Bool}:∀{l:List α} (n:Nat) (a:n<l.length),(∀i (hi:i<l.length),i<n->p l[i]=false)->p l[n]=true->l.find? p=some l[n]
 |[],n,a,_,_=>by simp at a
 |x::l,0,_,_,h=>by simp only[xL]at h⊢;rw[List.find?_cons,h]
 |x::l,n+1,a,h0,h=>by
  have b:=h0 0 zS zo;simp only[xL]at b;rw[List.find?_cons,b];exact NZ n (by simpa using a) (fun i hi c=>h0 (i+1) qec zo) qd5
theorem Wn(a b:Vl):a=b↔a.any=b.any/\a.s=b.s/\a.aJ=b.aJ/\a.ay=b.ay:=
 ⟨fun h=>by rw[h];exact⟨rfl,rfl,rfl,rfl⟩,fun h=>DJ h.1 h.2.1 h.2.2.1 h.2.2.2⟩
theorem Xx(a b:Lc):a=b↔a.1.length=b.1.length/\aX a=aX b:=by
 constructor
 .intro h;rw[h];exact⟨rfl,rfl⟩
 .rintro⟨f,e⟩;obtain⟨d,c⟩:=List.append_inj e f;exact Prod.ext d c
end Cl
namespace Cl
def lg(A B:aK)(p:Int×Int)(b:Nat):Int×Int:=(cu A p.1 b,cu B p.2 b)
structure nZ (A B:aK) (p:Int×Int) (l:List (Int×Int)) (es:List Ed) (c:Nat):Prop where
 wf:bT l.length (-1) es
 hi:∀e∈es,e.hi<c
 le:c<=256
 step:∀b,b<c->∃t:Nat,bH es b=t/\l[t]?=some (lg A B p b)
 last:c=0/\es=[]\/∃fs e,es=fs++[e]/\e.hi+1=c
theorem nZ.start(A B:aK)(p:Int×Int)(l:List (Int×Int)):nZ A B p l [] 0:=
 ⟨trivial,fun e a=>by simp at a,zo,fun b c=>zo,.inl ⟨rfl,rfl⟩⟩
theorem nZ.mono{A B:aK}{p:Int×Int}{l l':List (Int×Int)}{es:List Ed}{c:Nat}(h:nZ A B p l es c)(a:l <+: l'):nZ A B p l' es c:=by
 refine⟨uH a.length_le h.wf,h.hi,h.le,fun b e=>?_,h.last⟩;obtain⟨t,f,d⟩:=h.step b e;obtain⟨x,rfl⟩:=a;exact⟨t,f,by rw[yK (yB.1 d).1];exact d⟩
theorem nZ.seg{A B:aK}{p:Int×Int}{l:List (Int×Int)}{es:List Ed}{c h t:Nat}(H:nZ A B p l es c)(i:c<=h)(k:h<256)(ht:l[t]?=some (lg A B p c))
(m:∀b,c<=b->b<=h->lg A B p b=lg A B p c):nZ A B p l (es++[⟨c,h,t⟩]) (h+1):=by
 have g:=(yB.1 ht).1;refine⟨rM (q:=(c:Int)-1) H.wf (fun e a=>by have:=H.hi e a;omega) zo ⟨i,zS,by simpa using g,by show(c:Int)-1<(c:Int);omega,trivial⟩,?_,zo,fun b u=>?_,.inr ⟨es,_,rfl,rfl⟩⟩
 .intro e a;rcases yP.1 a with f|f
  .have:=H.hi e f;omega
  .simp only[zZ]at f;subst f;exact Nat.lt_succ_self _
 .by_cases j:b<c
  .obtain⟨s,f,o⟩:=H.step b j;refine⟨s,?_,o⟩;rw[<-f];by_cases d:∃e∈es,e.lo<=b/\b<=e.hi
   .exact jU _ _ _ d
   .have r:∀e∈es,¬(e.lo<=b/\b<=e.hi):=fun e a n=>d ⟨e,a,n⟩;rw[uZ _ _ r]at f;omega
  .refine⟨t,?_,by rw[m b zo zo];exact ht⟩;rw[kG _ _ _ (fun e a=>by have:=H.hi e a;omega)];simp only[bH];rw[zK ⟨zo,zo⟩]
theorem nZ.widen{A B:aK}{p:Int×Int}{l:List (Int×Int)}{fs:List Ed}{e:Ed}{c:Nat}(H:nZ A B p l (fs++[e]) c)(y:e.hi+1=c)(o:c<256)
(s:lg A B p c=lg A B p (c-1)):nZ A B p l (fs++[⟨e.lo,c,e.to⟩]) (c+1):=by
 have k:=Ck H.wf;have n:=jl H.wf e zS;refine⟨rM (q:=(e.lo:Int)-1) (AR H.wf) (fun x a=>by have:=k x a;omega) zo ⟨by show e.lo<=c;omega,n.2.2.1,n.2.2.2,by show(e.lo:Int)-1<(e.lo:Int);omega,trivial⟩,?_,zo,fun b v=>?_,.inr ⟨fs,_,rfl,rfl⟩⟩
 .intro x a;rcases yP.1 a with g|g
  .have:=H.hi x (by simp[g]);omega
  .simp only[zZ]at g;subst g;exact Nat.lt_succ_self _
 .have i:∀b,b<=c-1->bH (fs++[⟨e.lo,c,e.to⟩]) b=bH (fs++[e]) b:=by
   intro b v;by_cases d:∃x∈fs,x.lo<=b/\b<=x.hi
   .rw[jU _ _ _ d,jU _ _ _ d]
   .have r:∀x∈fs,¬(x.lo<=b/\b<=x.hi):=fun x a u=>d ⟨x,a,u⟩;rw[kG _ _ _ r,kG _ _ _ r];simp only[bH];by_cases f:e.lo<=b
    .rw[zK zo,zK zo]
    .rw[zJ zo,zJ zo]
  by_cases m:b<c
  .rw[i b zo];exact H.step b m
  .obtain rfl:b=c:=zo;obtain⟨t,g,w⟩:=H.step (b-1) zo;refine⟨t,?_,by rw[s];exact w⟩;have j:∀x∈fs,¬(x.lo<=b-1/\b-1<=x.hi):=fun x a=>by have:=k x a;omega
   have h:∀x∈fs,¬(x.lo<=b/\b<=x.hi):=fun x a=>by have:=k x a;omega
   rw[kG _ _ _ j]at g;simp only[bH]at g;rw[zK zo]at g;rw[kG _ _ _ h];simp only[bH];rw[zK zo];exact g
structure kz (A B:aK) (op:Bool->Bool->Bool) (st:Int×Int) (l:List (Int×Int)) (out:aK):Prop where
 first:l[0]?=some st
 nodup:l.Nodup
 iQ:∀q∈l,(-1<=q.1/\q.1<=A.length)/\(-1<=q.2/\q.2<=B.length)
 le:out.length<=l.length
 state:∀j,(h:j<out.length)->∀p,l[j]?=some p->(out[j]).bW=op (bL A p.1) (bL B p.2)/\nZ A B p l (out[j]).bu 256
theorem uT{a b:Nat}{l:List (Int×Int)}(g:l.Nodup)(c:∀q∈l,(-1<=q.1/\q.1<=a)/\(-1<=q.2/\q.2<=b)):l.length<=(a+2)*(b+2):=by
 have:=lM l ((List.range (a+2)).flatMap fun(i:Nat)=>(List.range (b+2)).map fun(j:Nat)=>((i:Int)-1,(j:Int)-1)) g (fun q f=>by
  have:=c q f;obtain⟨e,d⟩:=q;simp only at this;rw[xW];refine⟨(e+1).toNat,yQ.2 zo,yD.2 ⟨(d+1).toNat,yQ.2 zo,?_⟩⟩;simp only[Prod.mk.injEq];omega)
 refine yJ this ?_;generalize a+2=x;generalize b+2=y;clear this c
 induction x with
 |zero=>simp
 |succ x ih=>rw[List.range_succ,List.flatMap_append,zL,Nat.succ_mul];simp at ih⊢;exact ih
theorem SF{A B:aK}{op:Bool->Bool->Bool}{st:Int×Int}(h:(-1<=st.1/\st.1<=A.length)/\(-1<=st.2/\st.2<=B.length)):kz A B op st [st] []:=
 ⟨rfl,zS,fun q a=>by simp only[zZ]at a;subst a;exact h,zS,fun j b=>by simp at b⟩
theorem kz.grow{A B:aK}{op:Bool->Bool->Bool}{st:Int×Int}{l:List (Int×Int)}{out:aK}(h:kz A B op st l out){q:Int×Int}(m:q ∉ l)
(k:(-1<=q.1/\q.1<=A.length)/\(-1<=q.2/\q.2<=B.length)):kz A B op st (l++[q]) out:=by
 have s:0<l.length:=by
  have:=h.first
  cases l with
  |nil=>simp at this
  |cons _ _=>simp
 refine⟨by rw[yK s];exact h.first,?_,?_,by have:=h.le;simp;omega,fun j n p f=>?_⟩
 .exact List.nodup_append.2 ⟨h.nodup,zS,fun a o b g e=>by simp only[zZ]at g;subst g;exact m (e ▸ o)⟩
 .intro x i;rcases yP.1 i with c|c
  .exact h.iQ x c
  .simp only[zZ]at c;subst c;exact k
 .have d:j<l.length:=by have:=h.le;omega
  rw[yK d]at f;obtain⟨c,r⟩:=h.state j n p f;exact⟨c,r.mono (List.prefix_append _ _)⟩
theorem kz.push{A B:aK}{op:Bool->Bool->Bool}{st:Int×Int}{l:List (Int×Int)}{out:aK}(h:kz A B op st l out){p:Int×Int}(b:l[out.length]?=some p){es:List Ed}
(e:nZ A B p l es 256):kz A B op st l (out++[⟨op (bL A p.1) (bL B p.2),es⟩]):=by
 refine⟨h.first,h.nodup,h.iQ,by have:=(yB.1 b).1;simp;omega,fun j d q a=>?_⟩;by_cases c:j<out.length
 .rw[xM c];exact h.state j c q a
 .have:j=out.length:=by simp at d;omega
  subst this;rw[b]at a;cases a;have f:(out++[⟨op (bL A p.1) (bL B p.2),es⟩])[out.length]'d=⟨op (bL A p.1) (bL B p.2),es⟩:=by simp
  rw[f];exact⟨rfl,e⟩
theorem kz.done{A B:aK}{op:Bool->Bool->Bool}{st:Int×Int}{l:List (Int×Int)}{out:aK}(h:kz A B op st l out)(_:op false false=false)(i:out.length=l.length):
 WF out/\Bytes out/\out.length<=(A.length+2)*(B.length+2)/\0<out.length/\∀w,aH out 0 w=op (aH A st.1 w) (aH B st.2 w):=by
 have n:0<l.length:=by
  have:=h.first
  cases l with
  |nil=>simp at this
  |cons _ _=>simp
 have a:∀(w:List UInt8),∀(j:Nat) (p:Int×Int),l[j]?=some p->aH out j w=op (aH A p.1 w) (aH B p.2 w):=by
  intro w
  induction w with
  |nil=>
   intro j p c;have d:=(yB.1 c).1;simp only[aH];rw[lY out j zo]
   exact(h.state j zo p c).1
  |cons b w ih=>
   intro j p c;have d:=(yB.1 c).1;simp only[aH];rw[iW out j _ zo];obtain⟨t,m,k⟩:=(h.state j zo p c).2.step b.toNat b.toNat_lt;rw[m];exact ih t _ k
 refine⟨?_,?_,by rw[i];exact uT h.nodup h.iQ,zo,fun w=>a w 0 st h.first⟩
 .intro s g;obtain⟨j,d,rfl⟩:=yT.1 g;rw[i];exact(h.state j d _ (yH zo)).2.wf
 .intro s g;obtain⟨j,d,rfl⟩:=yT.1 g;have:=(h.state j d _ (yH zo)).2;intro e f;have m:=this.hi e f;have k:=(jl this.wf e f).2.1;omega
end Cl
namespace Cl
def vL(l:aK)(s:Int):List Ed:=if s<0 then[]else match l[s.toNat]? with
 |some st=>st.bu
 |none=>[]
theorem wC(l:aK)(s:Int)(b:Nat):cu l s b=bH (vL l s) b:=by
 unfold cu vL
 split
 .rfl
 .cases l[s.toNat]?<;>rfl
end Cl
namespace Cl
structure U3 (k:Nat) (c:fA):Prop where
 neg:∀b,c.step (-1) b = -1
 step:∀(i b:Nat),i<=k->c.step (i:Int) b = -1\/(c.step (i:Int) b=((i+1:Nat):Int)/\i+1<=k)
theorem U3.Qz{k:Nat}{c:fA}(h:U3 k c):∀w,c.from (-1) w = -1
 |[]=>rfl
 |b::w=>by rw[fA.from,h.neg,h.Qz w]
theorem U3.VN{k:Nat}{c:fA}(h:U3 k c):∀(w:List UInt8) (i:Nat),i<=k->c.from (i:Int) w = -1\/(c.from (i:Int) w=((i+w.length:Nat):Int)/\i+w.length<=k)
 |[],i,hi=>.inr ⟨rfl,hi⟩
 |b::w,i,hi=>by
  rw[fA.from];rcases h.step i b.toNat hi with e|⟨e,d⟩
  .rw[e,h.Qz];exact .inl rfl
  .rw[e];rcases h.VN w (i+1) d with a|⟨a,f⟩
   .exact .inl a
   .refine .inr ⟨?_,?_⟩
    .rw[a,yO];congr 1;omega
    .rw[yO];omega
def Nt:fA:=⟨1,fun _ _=>0,fun _=>true⟩
def lanes(P:List fA)(k n:Nat):List (List Int):=(MV P).flatMap fun u=>(List.range (k+1)).flatMap fun j=>(MV (List.replicate n Nt)).map fun f=>u++f.map fun e=>if e=0 then((j:Nat):Int)else -1
theorem XA(P:List fA)(k n:Nat):(lanes P k n).length=nI P*((k+1)*nI (List.replicate n Nt)):=by
 rw[lanes,xw _ ((k+1)*nI (List.replicate n Nt)) _ (fun u _=>by
  rw[xw _ (nI (List.replicate n Nt)) _ (fun j _=>by rw[xC,wB]),List.length_range]),wB]
theorem Wp(L:List fA)(w:List UInt8):Bi (List.replicate L.length Nt) (L.map fun c=>if c.from 0 w = -1 then(-1:Int)else 0):=by
 induction L with
 |nil=>exact trivial
 |cons c L ih=>
  refine⟨?_,ih⟩;show -1<=(if c.from 0 w = -1 then(-1:Int)else 0)/\(if c.from 0 w = -1 then(-1:Int)else 0)<((1:Nat):Int)
  split<;>omega
theorem Xp{P Q:List fA}{k:Nat}(d:∀c∈P,c.Ok)(b:∀c∈Q,U3 k c){v:List Int}(h:lD (P++Q) v):v∈lanes P k Q.length:=by
 obtain⟨w,rfl⟩:=h;rw[eF,iX,yI];refine xW.2 ⟨P.map fun c=>c.from 0 w,wX (Bi.reach d ⟨w,by rw[eF,iX]⟩),xW.2 ⟨if w.length<=k then w.length else 0,yQ.2 (by split<;>omega),yD.2 ⟨_,wX (Wp Q w),?_⟩⟩⟩
 congr 1
 rw[vE];refine xZ fun c a=>?_;simp only[Function.comp];rcases(b c a).VN w 0 (zG _)with e|⟨e,i⟩
 .have e:c.from 0 w = -1:=e
  simp[e]
 .have e:c.from 0 w=((0+w.length:Nat):Int):=e
  have g:w.length<=k:=zo;have f:¬(c.from 0 w = -1):=zo;simp only[f,g,if_false,if_true];omega
theorem GM{P Q:List fA}{k:Nat}(f:∀c∈P,c.Ok)(e:∀c∈Q,U3 k c){l:List (List Int)}(b:l.Nodup)(d:∀v∈l,lD (P++Q) v):l.length<=nI P*((k+1)*nI (List.replicate Q.length Nt)):=by
 rw[<-XA];exact lM l (lanes P k Q.length) b fun v a=>Xp f e (d v a)
theorem Lu{s:List UInt8}{k:Nat}(h:s.length<=k):U3 k (rG s) where
 neg b:=by simp[rG,nL]
 step i b _:=by
  show nL s i b = -1\/(nL s i b=_/\_);unfold nL
  split
  .rename_i c;obtain⟨x,a,-⟩:=Option.map_eq_some_iff.1 c.2;have:=(yB.1 a).1;exact .inr ⟨zo,zo⟩
  .exact .inl rfl
theorem Qn{P:List fA}(d:P.length<=6)(b:∀c∈P,c.n<=8){n:Nat}(a:n<=6):nI P*((40+1)*nI (List.replicate n Nt))<=1400000000:=by
 have f:nI P<=9 ^ 6:=yJ (qK (k:=9) fun x hx=>by have:=b x hx;omega) (Nat.pow_le_pow_right zo d);have e:nI (List.replicate n Nt)<=2 ^ 6:=yJ qh3 (Nat.pow_le_pow_right zo (by simpa using a));exact yJ (xV f (Nat.mul_le_mul_left _ e)) zD
theorem Gl{cs:List fA}{v:List Int}{k:Nat}(b:k<cs.length)(a:k<v.length):oW (cs.take (k+1)) (v.take (k+1))=oW (cs.take k) (v.take k)+if cs[k].acc v[k]then 1 else 0:=by
 unfold oW;rw[zH b,zH a,List.zipWith_append qdQ,List.countP_append]
 congr 1
 simp only[List.zipWith_cons_cons,List.zipWith_nil_left,List.countP_cons,List.countP_nil,id];simp
def qd(b:Nat)(es:List Ed)(o:Int):Int:=es.foldl (fun o e=>if e.lo<=b/\b<=e.hi then e.to else o) o
theorem TE(b:Nat)(o:Int){es:List Ed}{j:Nat}(h:j<es.length):qd b (es.take (j+1)) o=if(es[j]).lo<=b/\b<=(es[j]).hi then(es[j]).to else qd b (es.take j) o:=by
 unfold qd;rw[zH h,List.foldl_append]
 rfl
theorem Fb{n:Nat}{b:Nat}:∀{es:List Ed} {p:Int} (o:Int),bT n p es->(b:Int)<=p->qd b es o=o
 |[],_,_,_,_=>rfl
 |e::es,p,o,h,hb=>by
  obtain⟨g,f,d,c,a⟩:=h;show qd b es (if e.lo<=b/\b<=e.hi then e.to else o)=o;rw[zJ zo];exact Fb o a zo
theorem Qk{n:Nat}{b:Nat}:∀{es:List Ed} {p:Int},bT n p es->qd b es (-1)=bH es b
 |[],_,_=>rfl
 |e::es,p,h=>by
  obtain⟨g,f,d,c,a⟩:=h;show qd b es (if e.lo<=b/\b<=e.hi then e.to else -1)=bH (e::es) b;rw[bH]
  split
  .exact Fb _ a zo
  .exact Qk a
theorem dzW{l:aK}(h:WF l)(x:Int):∃p,bT l.length p (vL l x):=by
 unfold vL
 split
 .exact⟨0,trivial⟩
 .cases e:l[x.toNat]? with
  |none=>exact⟨0,trivial⟩
  |some s=>exact⟨-1,h s (List.mem_of_getElem? e)⟩
theorem Xz{l:aK}(h:WF l)(x:Int)(b:Nat):qd b (vL l x) (-1)=cu l x b:=by
 obtain⟨p,a⟩:=dzW h x;rw[wC,Qk a]
def Ca(cs:List fA)(v:List Int)(b k:Nat):List Int:=iD (cs.take k) (v.take k) b++List.replicate (v.length-k) (-1)
theorem bzh{cs:List fA}{v:List Int}(h:cs.length=v.length)(b:Nat){k:Nat}(hk:k<=v.length):(Ca cs v b k).length=v.length:=by
 simp[Ca,iD];omega
theorem Yx(cs:List fA)(v:List Int)(b:Nat):Ca cs v b 0=List.replicate v.length (-1):=by simp[Ca,iD]
theorem bzi{cs:List fA}{v:List Int}(h:cs.length=v.length)(b:Nat):Ca cs v b v.length=iD cs v b:=by
 simp only[Ca,Nat.sub_self,List.replicate_zero,yR,yG];rw[<-h,yG]
theorem Rt{cs:List fA}{v:List Int}(h:cs.length=v.length)(b:Nat){k:Nat}(hk:k<v.length)(x:Int):
 (Ca cs v b k).set k x=iD (cs.take k) (v.take k) b++x::List.replicate (v.length-(k+1)) (-1):=by
 have a:(iD (cs.take k) (v.take k) b).length=k:=by simp[iD];omega
 unfold Ca;rw[List.set_append_right _ _ zo,a,Nat.sub_self,show v.length-k=(v.length-(k+1))+1 by omega,List.replicate_succ,List.set_cons_zero]
theorem Mt{cs:List fA}{v:List Int}(h:cs.length=v.length)(b:Nat){k:Nat}(hk:k<v.length):(Ca cs v b k).set k ((cs[k]'zo).step v[k] b)=Ca cs v b (k+1):=by
 rw[Rt h b hk];unfold Ca iD;rw[zH (show k<cs.length by omega),zH hk,List.zipWith_append qdQ];simp
def Jb(es:List Ed)(b:Nat):Prop:=∃e∈es,e.lo=b\/e.hi+1=b
def czl(s:List UInt8)(x:Int)(b:Nat):Prop:=0<=x/\∃u,s[x.toNat]?=some u/\(u.toNat=b\/u.toNat+1=b)
def JW(c:St)(v:List Int)(b:Nat):Prop:=
 b=0\/(∃i,∃h:i<c.2.length,Jb (vL (c.2[i]).1 (v.getD i (-1))) b)\/∃i,∃h:i<c.1.length,czl (c.1[i]).1.1.data.toList (v.getD (c.2.length+i) (-1)) b
theorem I6{b a:Nat}(f:a<=b):∀{es:List Ed},(∀j,a<j->j<=b->¬Jb es j)->bH es b=bH es a
 |[],_=>rfl
 |e::es,h=>by
  have l:=I6 f (es:=es) fun j d h2 ⟨x,m,n⟩=>h j d h2 ⟨x,zU _ m,n⟩;have d:∀j,a<j->j<=b->e.lo≠j/\e.hi+1≠j:=fun j i g=>⟨fun k=>h j i g ⟨e,zS,.inl k⟩,fun k=>h j i g ⟨e,zS,.inr k⟩⟩;have p:e.lo<=b↔e.lo<=a:=⟨fun k=>by
   by_cases c:e.lo<=a
   .exact c
   .exact absurd rfl (d e.lo zo k).1,fun k=>zo⟩
  have o:b<=e.hi↔a<=e.hi:=⟨fun k=>zo,fun k=>by
   by_cases c:b<=e.hi
   .exact c
   .exact absurd rfl (d (e.hi+1) zo zo).2⟩
  simp only[bH,l,p,o]
theorem Tu{s:List UInt8}{x:Int}{b a:Nat}(l:a<=b)(h:∀j,a<j->j<=b->¬czl s x j):nL s x b=nL s x a:=by
 unfold nL;by_cases c:0<=x
 .cases e:s[x.toNat]? with
  |none=>simp
  |some u=>
   have g:∀j,a<j->j<=b->u.toNat≠j/\u.toNat+1≠j:=fun j f d=>⟨fun k=>h j f d ⟨c,u,e,.inl k⟩,fun k=>h j f d ⟨c,u,e,.inr k⟩⟩;have:u.toNat=b↔u.toNat=a:=by
    by_cases i:a=b
    .subst i;exact Iff.rfl
    .have m:=g b zo (zI _);constructor
     .intro k;exact absurd k m.1
     .intro k;have:=g (a+1) zo zo;omega
   simp only[vH,Option.some.injEq,this]
 .simp[c]
theorem RQ{c:St}{v:List Int}{a b:Nat}(n:v.length=(dU c).length)(f:a<=b)(h:∀j,a<j->j<=b->¬JW c v j):iD (dU c) v b=iD (dU c) v a:=by
 unfold iD;apply vF zS;intro i m o;have hi:i<v.length:=by simp at m;omega
 have d:i<(dU c).length:=zo;simp only[List.getElem_zipWith];unfold dU at d⊢;by_cases hk:i<c.2.length
 .rw[xM qez];simp only[xQ];show cu _ _ b=cu _ _ a;rw[wC,wC];refine I6 f fun j k g l=>h j k g (.inr (.inl ⟨i,hk,?_⟩));simpa [yU,hi]using l
 .rw[List.getElem_append_right qdQ];simp only[xQ,xC];refine Tu f fun j k g l=>h j k g (.inr (.inr ⟨i-c.2.length,by simp at d;omega,?_⟩));have e:c.2.length+(i-c.2.length)=i:=zo;rw[e];simpa [yU,hi]using l
theorem Ig{P:Nat->Prop}(f:P 0):∀b,∃a,a<=b/\P a/\∀j,a<j->j<=b->¬P j
 |0=>⟨0,zI _,f,fun j d c=>zo⟩
 |b+1=>by
  by_cases h:P (b+1)
  .exact⟨b+1,zI _,h,fun j d c=>zo⟩
  .obtain⟨a,d,c,i⟩:=Ig f b;exact⟨a,zo,c,fun j g k=>by
    by_cases e:j=b+1
    .exact qbR
    .exact i j g zo⟩
theorem WL{c:St}{v:List Int}(d:v.length=(dU c).length){b:Nat}(h:b<256):∃a,a<256/\JW c v a/\iD (dU c) v b=iD (dU c) v a:=by
 obtain⟨a,g,f,e⟩:=Ig (P:=JW c v) (.inl rfl) b;exact⟨a,zo,f,RQ d g e⟩
end Cl
namespace Cl
theorem TG(l:List dh)(k:Nat)(h:k<l.length):nz (l.take (k+1))=nz (l.take k)++if(vM l[k]).1<=(vM l[k]).2 then[vM l[k]]else[]:=by
 rw[zH h];unfold nz;rw[yI,List.filter_append]
 congr 1
 by_cases a:(vM l[k]).1<=(vM l[k]).2<;>simp[a]
theorem TI(l:List dh)(k:Nat)(h:k<l.length):nA (l.take (k+1))=nA (l.take k)++if(pI l[k]).1<=(pI l[k]).2 then[pI l[k]]else[]:=by
 rw[zH h];unfold nA;rw[yI,List.filter_append]
 congr 1
 by_cases a:(pI l[k]).1<=(pI l[k]).2<;>simp[a]
theorem TK(nx:Int->Int)(p:List dh)(k:Nat)(h:k<p.length)(t:dh)(r:List dh):
 jH nx (p.drop k) (t::r)=if p[k].1<=nx t.2 then jH nx (p.drop (k+1)) ((t.1,max t.2 p[k].2)::r)else jH nx (p.drop (k+1)) (p[k]::t::r):=by
 rw[yE h,jH]
theorem Qu(nx:Int->Int)(p:List dh)(k:Nat)(h:k<p.length):jH nx (p.drop k) []=jH nx (p.drop (k+1)) [p[k]]:=by
 rw[yE h,jH]
theorem Xq(x:dh)(b:List dh)(k:Nat)(h:k<b.length):
 ((b.take (k+1)).map (kM x)).filter (fun z=>decide (z.1<=z.2))=((b.take k).map (kM x)).filter (fun z=>decide (z.1<=z.2))++if(kM x b[k]).1<=(kM x b[k]).2 then[kM x b[k]]else[]:=by
 rw[zH h,yI,List.filter_append]
 congr 1
 by_cases a:(kM x b[k]).1<=(kM x b[k]).2<;>simp[a]
theorem Q3(a b:List dh)(k:Nat)(h:k<a.length):eG (a.take (k+1)) b=eG (a.take k) b++(b.map (kM a[k])).filter fun z=>decide (z.1<=z.2):=by
 rw[zH h];unfold eG;rw[List.flatMap_append];simp
theorem rA:∀(l r:List Int) (b:Option Int),gu (l++r) b=gu r (gu l b)
 |[],r,b=>rfl
 |u::l,r,none=>by simp only[xK,gu];exact rA l r _
 |u::l,r,some b=>by simp only[xK,gu];exact rA l r _
theorem TH{l:List dh}:∀s∈nz l,-fV<=s.1/\s.2<=fV/\s.1<=s.2:=fun s h=>by
 have a:=Qp s h;obtain⟨t,-,rfl⟩:=yD.1 (xR.1 h).1;unfold vM at*
 simp only[fV]at*
 omega
theorem TJ{l:List dh}:∀s∈nA l,-iH-1<=s.1/\s.2<=iH+1/\s.1<=s.2:=fun s h=>by
 have c:=Qr s h;obtain⟨t,-,e⟩:=yD.1 (xR.1 h).1;have b:s.1=if(max t.1 (-iH))%10000=0 then max t.1 (-iH)+1 else max t.1 (-iH):=by rw[<-e];rfl
 have a:s.2=if(min t.2 iH)%10000=0 then min t.2 iH-1 else min t.2 iH:=by rw[<-e];rfl
 have f:s.1=max t.1 (-iH)+1\/s.1=max t.1 (-iH):=by rw[b];split<;>simp
 have d:s.2=min t.2 iH-1\/s.2=min t.2 iH:=by rw[a];split<;>simp
 simp only[iH]at*
 omega
end Cl
namespace Cl
theorem TU(nx a:Int->Int)(l:List dh)(k:Nat)(h:k<l.length)(lo hi:Int):gq nx a (l.drop k) lo hi=(if lo<=a l[k].1 then[(lo,a l[k].1)]else[])++gq nx a (l.drop (k+1)) (nx l[k].2) hi:=by
 rw[yE h,gq]
end Cl
namespace Cl
def Sb(s:dh):Prop:=s.1<=s.2 -> -1000000000000002<=s.1/\s.2<=1000000000000002
theorem Sb.take{l:List dh}(h:∀s∈l,Sb s)(k:Nat):∀s∈l.take k,Sb s:=fun s a=>h s (xX a)
end Cl
namespace Cl
def bF(p:Nat->Bool):List Nat:=(List.range 256).filter p
def pU(c:List Nat)(i:Nat):Nat:=c.getD i 0
def xk(c:List Nat)(i:Nat):Nat:=if i+1<c.length then c.getD (i+1) 0-1 else 255
theorem lw{p:Nat->Bool}{i j:Nat}(a:i<j)(b:j<(bF p).length):(bF p).getD i 0<(bF p).getD j 0:=by
 have h:(bF p).Pairwise (·<·):=List.pairwise_lt_range.filter p;have:=List.pairwise_iff_getElem.1 h i j zo b a;simpa [b,Nat.lt_trans a b]using this
theorem Fy{p:Nat->Bool}{i:Nat}(hi:i<(bF p).length):(bF p).getD i 0<256/\p ((bF p).getD i 0)=true:=by
 have:(bF p).getD i 0∈bF p:=by simp[hi]
 simpa [bF]using this
theorem Fx{p:Nat->Bool}{b:Nat}(d:b<256)(c:p b=true):∃j,j<(bF p).length/\(bF p).getD j 0=b:=by
 have:b∈bF p:=by simp[bF,d,c]
 obtain⟨j,a,e⟩:=yT.1 this;exact⟨j,a,by simp[a,e]⟩
theorem TN{p:Nat->Bool}(m:p 0=true):Ivs (pU (bF p)) (xk (bF p)) (bF p).length /\
 ∀i,i<(bF p).length->∀b,pU (bF p) i<b->b<=xk (bF p) i->p b=false:=by
 have a:∀i,i<(bF p).length->pU (bF p) i<=xk (bF p) i/\xk (bF p) i<256:=by
  intro i hi;unfold pU xk;have:=Fy hi
  split
  .rename_i h;have:=lw (show i<i+1 by omega) h;have:=(Fy h).1;omega
  .omega
 refine⟨⟨a,?_,?_⟩,?_⟩
 .intro i j g d;unfold pU xk;rw[zK zo];have k:=lw (show i<i+1 by omega) (show i+1<(bF p).length by omega);by_cases c:i+1=j
  .subst c;omega
  .have f:=lw (p:=p) (show i+1<j by omega) d;omega
 .intro b
  induction b with
  |zero=>
   intro _;obtain⟨j,d,e⟩:=Fx zo m
   exact⟨j,d,by unfold pU;omega,zo⟩
  |succ b ih=>
   intro l;obtain⟨i,hi,k,f⟩:=ih zo;by_cases c:b+1<=xk (bF p) i
   .exact⟨i,hi,zo,c⟩
   .have e:xk (bF p) i=b:=zo;unfold xk at e
    split at e
    .rename_i h;have:=lw (show i<i+1 by omega) h;have n:=a (i+1) h;have:pU (bF p) (i+1)=b+1:=by unfold pU;omega
     exact⟨i+1,h,zo,zo⟩
    .omega
 .intro i hi b k f
  cases hp:p b with
  |false=>rfl
  |true=>
   have l:b<256:=by have:=(a i hi).2;omega
   obtain⟨j,d,e⟩:=Fx l hp;unfold pU at k;have g:i<j:=by
    rcases Nat.lt_trichotomy i j with c|c|c
    .exact c
    .subst c;omega
    .have:=lw c hi;omega
   unfold xk at f;rw[zK zo]at f;have o:=lw (show i<i+1 by omega) (show i+1<(bF p).length by omega);by_cases c:i+1=j
   .subst c;omega
   .have:=lw (p:=p) (show i+1<j by omega) d;omega
theorem QJ{es:List Ed}{a b:Nat}(i:a<=b)(h:∀c,a<c->c<=b->∀e∈es,e.lo≠c/\e.hi+1≠c):bH es b=bH es a:=by
 induction es with
 |nil=>rfl
 |cons e es g=>
  have g:=g fun c k j x hx=>h c k j x qd4;simp only[bH];by_cases c:e.lo<=a/\a<=e.hi
  .rw[zK c,zK];refine⟨zo,?_⟩;apply Nat.le_of_not_lt;intro d;exact(h (e.hi+1) zo zo e zS).2 rfl
  .rw[zJ c];by_cases d:e.lo<=b/\b<=e.hi
   .exfalso;by_cases f:e.lo<=a
    .omega
    .exact(h e.lo zo zo e zS).1 rfl
   .rw[zJ d];exact g
def Marks(l:aK)(p:Nat->Bool):Prop:=p 0=true/\∀s∈l,∀e∈s.bu,∀b,b<256->(e.lo=b\/e.hi+1=b)->p b=true
theorem wD{l:aK}{p:Nat->Bool}(g:Marks l p){i b:Nat}(hi:i<(bF p).length)(r:pU (bF p) i<=b)(t:b<=xk (bF p) i)(s:Int):
 cu l s b=cu l s (pU (bF p) i):=by
 obtain⟨q,n⟩:=TN g.1;by_cases c:s<0
 .rw[qC c,qC c]
 .by_cases d:s<l.length
  .obtain⟨k,rfl⟩:=zT (by omega:0<=s);rw[iW l k _ zo,iW l k _ zo];apply QJ r;intro c h o e m;have f:=n i hi c h zo;have a:c<256:=by have:=(q.le i hi).2;omega
   refine⟨fun j=>?_,fun j=>?_⟩
   .rw[g.2 _ (zF zo) e m c a (.inl j)]at f;cases f
   .rw[g.2 _ (zF zo) e m c a (.inr j)]at f;cases f
  .rw[iq l s _ zo,iq l s _ zo]
def YK(n:Nat)(x:Int):Int:=if x<0 then n else x
theorem GK{l:aK}(_:WF l)(s:Int)(b:Nat)(w:List UInt8):aH l (YK l.length (cu l s b)) w=aH l (cu l s b) w:=by
 unfold YK
 split
 .rename_i h;rw[jZ l _ w (xU _),gL h]
 .rfl
theorem M8{l:aK}(a:WF l)(s:Int)(b:Nat):0<=YK l.length (cu l s b)/\YK l.length (cu l s b)<=l.length:=by
 unfold YK;rcases mY a s b with h|h
 .rw[h];simp
 .rw[zJ zo];omega
theorem Ph{l:aK}(a:WF l){p:Nat->Bool}(d:Marks l p):
 V7 l (l.length+1) (pU (bF p)) (xk (bF p)) (bF p).length (fun s i=>YK l.length (cu l s (pU (bF p) i))):=by
 refine⟨(TN d.1).1,fun s i c hi=>?_,fun s i c hi b f e w=>?_,fun s t i c ht hi h=>?_⟩
 .have:=M8 a s (pU (bF p) i);omega
 .rw[wD d hi f e,GK a]
 .have:=M8 a s (pU (bF p) i);omega
def Lv(l:aK)(s:Int):Prop:=∃w,aH l s w=true
theorem Oz{l:aK}(f:WF l){p:Nat->Bool}(g:Marks l p){cB:List Int}(m:JN l (l.length+1) cB){a:Nat->Bool}
(k:∀s:Nat,s<l.length+1->(a (cB.getD s 0).toNat=true↔Lv l s)){ac:Nat->Bool}(n:∀s:Nat,s<l.length+1->ac s=bL l s)(o:Lv l 0):
 zq l (l.length+1) (fun s=>cB.getD s 0)
  (fun s i=>if a (cB.getD (YK l.length (cu l s (pU (bF p) i))).toNat 0).toNat=true then some (YK l.length (cu l s (pU (bF p) i))).toNat else none)
  (pU (bF p)) (xk (bF p)) ac (bF p).length:=by
 have R:=fun(s i:Nat)=>M8 f s (pU (bF p) i);have E:=fun(s i:Nat)=>Int.toNat_of_nonneg (R s i).1;refine⟨(TN g.1).1,zo,fun s i t c hi h=>?_,fun s i c hi h b d j w=>?_,fun s t c ht=>m.eq s t c ht,fun s c=>n s c,o⟩
 .simp only[Option.ite_none_right_eq_some,Option.some.injEq]at h;obtain⟨d,j⟩:=h;have r:=R s i;have e:=E s i;have ht:t<l.length+1:=zo;rw[j]at d e;refine⟨ht,(k t ht).1 d,fun b u q w=>?_⟩;rw[wD g hi u q,<-GK f,<-e]
 .simp only[ite_eq_right_iff,reduceCtorEq,imp_false]at h;have r:=R s i;have e:=E s i;rw[wD g hi d j,<-GK f,<-e];rw[k _ zo]at h
  cases hx:aH l ((YK l.length (cu l s (pU (bF p) i))).toNat:Int) w with
  |false=>rfl
  |true=>exact absurd ⟨w,hx⟩ h
end Cl
namespace Cl
theorem NA{cf:Nat->Int}{o:List Nat}(h:Dif cf o):o.Nodup:=List.Pairwise.imp (fun a e=>a (by rw[e])) h
theorem u7{cf:Nat->Int}{o:List Nat}{N:Nat}(h:Dif cf o)(b:∀x∈o,x<N):o.length<=N:=by
 have:=lM o (List.range N) (NA h) (fun x a=>yQ.2 (b x a));exact qbe
def DZ(cf:Nat->Int)(o:List Nat)(c:Int):Nat:=o.findIdx fun s=>cf s==c
theorem Nl(cf:Nat->Int)(o:List Nat)(t:Nat):DZ cf o (cf t)=dX cf o t:=rfl
theorem Zz(cf:Nat->Int)(o:List Nat)(t:Nat)(c:Int):DZ cf (o++[t]) c=if DZ cf o c<o.length then DZ cf o c else if cf t=c then o.length else o.length+1:=by
 unfold DZ;rw[List.findIdx_append]
 split
 .rfl
 .by_cases h:cf t=c
  .simp[h]
  .simp[h];omega
theorem SC{fs:List Ed}{e:Ed}{lo hi to:Nat}(h:¬(e.to=to/\e.hi+1=lo)):kZ (fs++[e]) lo hi to=(fs++[e])++[⟨lo,hi,to⟩]:=by
 unfold kZ;simp[h]
theorem Sz{fs:List Ed}{e:Ed}{lo hi to:Nat}(h:e.to=to/\e.hi+1=lo):kZ (fs++[e]) lo hi to=fs++[⟨e.lo,hi,e.to⟩]:=by
 unfold kZ;simp[h]
theorem SB(es:List Ed)(lo hi to:Nat):(kZ es lo hi to).length<=es.length+1:=by
 unfold kZ
 split
 .split<;>simp
 .simp
theorem Xa(cf:Nat->Int)(dl:Nat->Nat->Option Nat)(lo hi:Nat->Nat)(s:Nat)(o:List Nat):∀i,(dO cf dl lo hi s o i).2.length<=i:=by
 intro i
 induction i with
 |zero=>simp[dO]
 |succ i ih=>
  simp only[dO]
  split
  .omega
  .have:=SB (dO cf dl lo hi s o i).2 (lo i) (hi i) (dX cf (dO cf dl lo hi s o i).1 (by assumption));exact qdu
theorem Su{cf:Nat->Int}{dl:Nat->Nat->Option Nat}{lo hi:Nat->Nat}{s:Nat}{o:List Nat}{i:Nat}(h:dl s i=none):dO cf dl lo hi s o (i+1)=dO cf dl lo hi s o i:=by simp[dO,h]
theorem Sr{cf:Nat->Int}{dl:Nat->Nat->Option Nat}{lo hi:Nat->Nat}{s:Nat}{o:List Nat}{i t:Nat}(h:dl s i=some t):
 dO cf dl lo hi s o (i+1)=(eu cf (dO cf dl lo hi s o i).1 t,kZ (dO cf dl lo hi s o i).2 (lo i) (hi i) (dX cf (dO cf dl lo hi s o i).1 t)):=by simp[dO,h]
theorem Pt{cf:Nat->Int}{dl:Nat->Nat->Option Nat}{lo hi:Nat->Nat}{K N s:Nat}{o:List Nat}{i:Nat}{r:List Nat×List Ed}(h:UY cf dl lo hi K N s o i r)(c:N<=2000000):
 ∀e∈r.2,e.lo<256/\e.hi<256 /\ -9223372036854775808<=e.to/\e.to<=9223372036854775807:=by
 intro e a;have b:=h.bytes e a;have f:=jl h.wf e a;have d:=u7 h.Fv h.lt;exact⟨b.1,b.2,zo,zo⟩
end Cl
