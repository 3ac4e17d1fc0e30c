/- Lemmas. -/
import Derived.Shelf.SlSortCmp.WholeK
import Derived.RangeFuncNested
import Derived.RangeFuncBound
import Derived.OwnWalkIn
import Derived.TacticsInMore
import Derived.LoopNIn
import Derived.LoopIn
import Derived.Test.YtbbnjopkjbhpbaaGreatDoorPkT3
set_option maxRecDepth 99999
set_option maxHeartbeats 9999999
namespace Cl
open Go
section
variable {P:Program} {ops:Array Oper} {Q:Exit->Act->World->Prop} {S:World->Prop} {last:Nat}
def sD(P:Program)(ops:Array Oper)(Q:Exit->Act->World->Prop)(S:World->Prop)(last:Nat):Nat->Array Bool->Act->World->Prop
 |0,listed,a,w=>Region.ready .any ops listed=[]/\Q .normal a w
 |fuel+1,listed,a,w=>
  (Region.ready .any ops listed=[]->Q .normal a w) /\
  ∀i∈Region.ready .any ops listed,wpOp P ops Q i (fun b w'=>(i≠last->S w')/\sD P ops Q S last fuel (listed.setIfInBounds i true) b w') a w
theorem Gf:∀(fuel:Nat) (b:Array Bool) (a:Act) (w:zW),sD P ops Q S last fuel b a w->wpAny P .any ops Q fuel b a w
 |0,_,_,_,h=>h
 |fuel+1,_,_,_,h=>⟨h.1,fun i hi=>wpOp_mono (fun d w' c=>Gf fuel _ d w' c.2) (h.2 i hi)⟩
def waits(ops:Array Oper)(last i:Nat):Bool:=((ops[last]?).map fun o=>o.after.any fun e=>Region.binds .any e&&e.on==i).getD false
theorem wT{a:Array Bool}{i:Nat}(f:waits ops last i=true)(g:i∈Region.ready .any ops a):last ∉ Region.ready .any ops a:=by
 intro h;obtain⟨-,l,d,b⟩:=mem_ready.1 h;simp only[waits,d,vH,xA,Array.any_eq_true',xG,beq_iff_eq]at f;obtain⟨e,j,k,c⟩:=f;have h1:=b e j k;have h0:=(mem_ready.1 g).1;rw[c]at h1;rcases Nat.lt_or_ge i a.size with h'|h'
 .exact qb1
 .exact qb6
theorem MJ{i:Nat}{p:Oper}{v:zV}(hi:ops[i]?=some p)(l:∀(j:Nat) (o:Oper) cs b,ops[j]?=some o->o.op≠.select cs b)
(F:∀c a w,Q (.panic c) (a.put p.dst v) w->Q (.panic c) a w)(r:waits ops last i=true):
 ∀(fuel:Nat) (d:Array Bool) (a:Act) (w:zW),
  (∀j n,ops[j]?=some n->j≠i->d.getD j true=false->(∀e∈n.after,Region.binds .any e=true->e.on≠i)->p.apart ops n=true) ->
  i∈Region.ready .any ops d->YieldsIf P ops S p v a->S w ->
  sD P ops Q S last fuel (d.setIfInBounds i true) (a.put p.dst v) w->sD P ops Q S last (fuel+1) d a w:=by
 intro fuel
 induction fuel with
 |zero=>
  intro d a w _ hr z y H;refine⟨fun h=>qeg,fun j u=>?_⟩;by_cases hji:j=i
  .subst hji;exact z.wpOp hi y ⟨fun _=>y,H⟩
  .have:=ready_mono u hji;rw[H.1]at this
   cases this
 |succ fuel ih=>
  intro d a w f hr z y H;refine⟨fun h=>qeg,fun j u=>?_⟩;by_cases hji:j=i
  .subst hji;exact z.wpOp hi y ⟨fun _=>y,H⟩
  .have h1:=H.2 j (ready_mono u hji);have t:j≠last:=fun e=>wT r hr (e ▸ u);obtain⟨m,n,q,x⟩:=mem_ready.1 u;have s:∀e∈n.after,Region.binds .any e=true->e.on≠i:=fun e D E C=>by
    have h1:=x e D E;have h0:=(mem_ready.1 hr).1;rw[C]at h1;rcases Nat.lt_or_ge i d.size with h'|h'
    .exact qb1
    .exact qb6
   have G:=wpOp_putIf q (f j n q hji m s) (fun cs b=>l i p cs b hi) (fun cs b=>l j n cs b q) F z h1;have g:∀k ok,ops[k]?=some ok->k≠i->(d.setIfInBounds j true).getD k true=false ->
    (∀e∈ok.after,Region.binds .any e=true->e.on≠i)->p.apart ops ok=true:=fun k ok hk B hun A=>by
    refine f k ok hk B ?_ A;by_cases hjk:j=k
    .subst hjk;exact m
    .exact qcC
   refine wpOp_mono (fun I w' h3=>⟨fun _=>h3.2.1 t,ih (d.setIfInBounds j true) I w' g (ready_mono hr (Ne.symm hji)) h3.1 (h3.2.1 t) ?_⟩) G;exact qcb
theorem aL(i:Nat){d:Oper}{v:zV}{fuel:Nat}{b:Array Bool}{a:Act}{w:zW}(hi:ops[i]?=some d)
(e:(Region.noSelect ops&&Region.free .any ops b i&&(Region.ready .any ops b).contains i&&waits ops last i)=true)
(j:∀c a w,Q (.panic c) (a.put d.dst v) w->Q (.panic c) a w)(g:S w)(f:YieldsIf P ops S d v a)
(h:sD P ops Q S last fuel (b.setIfInBounds i true) (a.put d.dst v) w):sD P ops Q S last (fuel+1) b a w:=by
 simp only[xG]at e;obtain⟨⟨⟨m,l⟩,h3⟩,k⟩:=e;exact MJ hi (Region.noSelect_spec m) j k fuel b a w (Region.free_spec hi l) qeA f g h
theorem bG(i:Nat){fuel:Nat}{b:Array Bool}{a:Act}{w:zW}(c:(Region.ready .any ops b==[i])=true)
(h:wpOp P ops Q i (fun d w'=>(i≠last->S w')/\sD P ops Q S last fuel (b.setIfInBounds i true) d w') a w):sD P ops Q S last (fuel+1) b a w:=by
 have hr':Region.ready .any ops b=[i]:=by simpa using c
 exact qaY
theorem jY{b:Array Bool}{a:Act}{w:zW}(d:(Region.ready .any ops b==[])=true)(h:Q .normal a w):∀fuel,sD P ops Q S last fuel b a w:=by
 have c:Region.ready .any ops b=[]:=by simpa using d
 intro fuel
 cases fuel with
 |zero=>exact⟨c,h⟩
 |succ n=>exact⟨fun _=>h,by rw[c];simp⟩
theorem jX{id:Nat}{a:Act}{w:zW}(S:World->Prop)(last:Nat)(b:P.follows .mixedOrders=true)
(h:sD P ops Q S last ops.size (Array.replicate ops.size false) a w.drew):(Code.region id ops true).wp P Q a w:=
 wp_region_any b (Gf _ _ _ _ h)
theorem pX{i last:Nat}{A B:Prop}(h:A)(k:A->B):(i≠last->A)/\B:=⟨fun _=>h,k h⟩
theorem sw{i last:Nat}{A B:Prop}(e:i=last)(k:B):(i≠last->A)/\B:=⟨fun h=>absurd e h,k⟩
theorem aM{i:Nat}{o:Oper}{K:Act->World->Prop}{a:Act}{w:zW}(hi:ops[i]?=some o)(b:o.guard=none)(h:o.wp P a w K Q):wpOp P ops Q i K a w:=by
 unfold wpOp;rw[hi];simp only[Region.wanted,b,if_true];exact .inl h
theorem ax{o:Oper}{v:zV}{a:Act}(b:Region.wanted o (yielded ops a.tmps)=true)(h:∀w,S w->(execOp a.eval o).run P w=.ok (.value v) w):YieldsIf P ops S o v a:=.inl ⟨b,h⟩
theorem aS{o:Oper}{K:Act->World->Prop}{a:Act}{w w':zW}{v:zV}(b:(execOp a.eval o).run P w=.ok (.value v) w')(h:K (a.put o.dst v) w'):o.wp P a w K Q:=by
 unfold Oper.wp;rw[b];exact h
theorem fP{o:Oper}{K:Act->World->Prop}{a:Act}{w w':zW}{f:FuncId}{args:Array Value}(d:(execOp a.eval o).run P w=.ok (.enter f args) w'){X:Ending->World->Prop}
(g:Calls P f args w' X)(h:∀e b,X e b->∃v,e=.returned v/\K (a.put o.dst v) b):o.wp P a w K Q:=by
 unfold Oper.wp;rw[d];refine g.mono fun e b c=>?_;obtain⟨v,rfl,hk⟩:=h e b c;exact hk
theorem dx{o:Oper}{K:Act->World->Prop}{a:Act}{w w':zW}(b:(execOp a.eval o).run P w=.ok .skip w')(h:K (a.put o.dst undef) w'):o.wp P a w K Q:=by
 unfold Oper.wp;rw[b];exact h
end
section
variable {P:Program} {ops:Array Oper} {Q:Exit->Act->World->Prop} {D:Nat->World->Prop}
def j3(P:Program)(ops:Array Oper)(Q:Exit->Act->World->Prop)(D:Nat->World->Prop):Nat->Array Bool->Act->World->Prop
 |0,listed,a,w=>Region.ready .any ops listed=[]/\Q .normal a w
 |fuel+1,listed,a,w=>
  (Region.ready .any ops listed=[]->Q .normal a w) /\
  ∀i∈Region.ready .any ops listed,wpOp P ops Q i (fun b w'=>(w'=w\/D i w')/\j3 P ops Q D fuel (listed.setIfInBounds i true) b w') a w
theorem Gg:∀(fuel:Nat) (b:Array Bool) (a:Act) (w:zW),j3 P ops Q D fuel b a w->wpAny P .any ops Q fuel b a w
 |0,_,_,_,h=>h
 |fuel+1,_,_,_,h=>⟨h.1,fun i hi=>wpOp_mono (fun d w' c=>Gg fuel _ d w' c.2) (h.2 i hi)⟩
theorem PW{a:Array Bool}{i j:Nat}(b:i∈Region.ready .any ops a)(c:j∈Region.ready .any ops a):waits ops j i=false:=by
 cases h:waits ops j i with
 |false=>rfl
 |true=>exact absurd c (wT h b)
theorem ML{i:Nat}{p:Oper}{v:zV}(hi:ops[i]?=some p)(l:∀(j:Nat) (o:Oper) cs b,ops[j]?=some o->o.op≠.select cs b)
(E:∀c a w,Q (.panic c) (a.put p.dst v) w->Q (.panic c) a w){S:World->Prop}(r:∀j w',waits ops j i=false->D j w'->S w'):
 ∀(fuel:Nat) (d:Array Bool) (a:Act) (w:zW),
  (∀j n,ops[j]?=some n->j≠i->d.getD j true=false->(∀e∈n.after,Region.binds .any e=true->e.on≠i)->p.apart ops n=true) ->
  i∈Region.ready .any ops d->YieldsIf P ops S p v a->S w ->
  j3 P ops Q D fuel (d.setIfInBounds i true) (a.put p.dst v) w->j3 P ops Q D (fuel+1) d a w:=by
 intro fuel
 induction fuel with
 |zero=>
  intro d a w _ hr hy hS H;refine⟨fun h=>qeg,fun j t=>?_⟩;by_cases hji:j=i
  .exact qbG
  .have:=ready_mono t hji;rw[H.1]at this
   cases this
 |succ fuel ih=>
  intro d a w f hr hy hS H;refine⟨fun h=>qeg,fun j t=>?_⟩;by_cases hji:j=i
  .exact qbG
  .have h1:=H.2 j (ready_mono t hji);have z:=fun w'=>r j w' (PW hr t);obtain⟨m,n,q,u⟩:=mem_ready.1 t;have s:∀e∈n.after,Region.binds .any e=true->e.on≠i:=fun e B C A=>by
    have h1:=u e B C;have h0:=(mem_ready.1 hr).1;rw[A]at h1;rcases Nat.lt_or_ge i d.size with h'|h'
    .exact qb1
    .exact qb6
   have F:=wpOp_putIf q (f j n q hji m s) (fun cs b=>l i p cs b hi) (fun cs b=>l j n cs b q) E hy h1;have g:∀k ok,ops[k]?=some ok->k≠i->(d.setIfInBounds j true).getD k true=false ->
    (∀e∈ok.after,Region.binds .any e=true->e.on≠i)->p.apart ops ok=true:=fun k ok hk y hun x=>by
    refine f k ok hk y ?_ x;by_cases hjk:j=k
    .subst hjk;exact m
    .exact qcC
   refine wpOp_mono (fun G w' h3=>⟨h3.2.1,ih (d.setIfInBounds j true) G w' g (ready_mono hr (Ne.symm hji)) h3.1 (h3.2.1.elim (fun e=>by rw[e];exact hS) (z w')) ?_⟩) F;exact qcb
theorem sZ{j i:Nat}(h:waits ops j i=true)(k:waits ops j i=false):False:=by rw[h]at k;cases k
theorem oV(i:Nat)(S:World->Prop){e:Oper}{v:zV}{fuel:Nat}{b:Array Bool}{a:Act}{w:zW}(hi:ops[i]?=some e)
(f:(Region.noSelect ops&&Region.free .any ops b i&&(Region.ready .any ops b).contains i)=true)
(l:∀c a w,Q (.panic c) (a.put e.dst v) w->Q (.panic c) a w)(d:∀j w',waits ops j i=false->D j w'->S w')(k:S w)(g:YieldsIf P ops S e v a)
(h:j3 P ops Q D fuel (b.setIfInBounds i true) (a.put e.dst v) w):j3 P ops Q D (fuel+1) b a w:=by
 simp only[xG]at f;obtain⟨⟨n,m⟩,h3⟩:=f;exact ML hi (Region.noSelect_spec n) l d fuel b a w (Region.free_spec hi m) qeA g k h
theorem aO(i:Nat){fuel:Nat}{b:Array Bool}{a:Act}{w:zW}(c:(Region.ready .any ops b==[i])=true)
(h:wpOp P ops Q i (fun d w'=>(w'=w\/D i w')/\j3 P ops Q D fuel (b.setIfInBounds i true) d w') a w):j3 P ops Q D (fuel+1) b a w:=by
 have hr':Region.ready .any ops b=[i]:=by simpa using c
 exact qaY
theorem Bp(i j:Nat){fuel:Nat}{b:Array Bool}{a:Act}{w:zW}(g:(Region.ready .any ops b==[i,j])=true)
(h:wpOp P ops Q i (fun e w'=>(w'=w\/D i w')/\j3 P ops Q D fuel (b.setIfInBounds i true) e w') a w)
(l:wpOp P ops Q j (fun e w'=>(w'=w\/D j w')/\j3 P ops Q D fuel (b.setIfInBounds j true) e w') a w):j3 P ops Q D (fuel+1) b a w:=by
 have c:Region.ready .any ops b=[i,j]:=by simpa using g
 refine⟨fun f=>(by rw[c]at f;cases f),fun k d=>?_⟩;rw[c]at d;simp only[yA,List.not_mem_nil,or_false]at d;rcases d with rfl|rfl
 .exact h
 .exact l
theorem dE{b:Array Bool}{a:Act}{w:zW}(d:(Region.ready .any ops b==[])=true)(h:Q .normal a w):∀fuel,j3 P ops Q D fuel b a w:=by
 have c:Region.ready .any ops b=[]:=by simpa using d
 intro fuel
 cases fuel with
 |zero=>exact⟨c,h⟩
 |succ n=>exact⟨fun _=>h,by rw[c];simp⟩
theorem gV{id:Nat}{a:Act}{w:zW}(D:Nat->World->Prop)(b:P.follows .mixedOrders=true)
(h:j3 P ops Q D ops.size (Array.replicate ops.size false) a w.drew):(Code.region id ops true).wp P Q a w:=
 wp_region_any b (Gg _ _ _ _ h)
theorem bX(i:Nat){S:World->Prop}{d:Oper}{v:zV}{fuel:Nat}{b:Array Bool}{a:Act}{w:zW}(hi:ops[i]?=some d)
(f:(Region.noSelect ops&&Region.free .any ops b i&&(Region.ready .any ops b).contains i)=true)
(j:∀c a w,Q (.panic c) (a.put d.dst v) w->Q (.panic c) a w)(g:S w)(e:YieldsIf P ops S d v a)
(h:j3 P ops Q (fun _ w=>S w) fuel (b.setIfInBounds i true) (a.put d.dst v) w):j3 P ops Q (fun _ w=>S w) (fuel+1) b a w:=
 oV i S hi f j qe7 g e h
end
section
variable {P:Program} {ops:Array Oper} {Q:Exit->Act->World->Prop} {D:Nat->World->Prop}
def jB(ops:Array Oper):Nat->Nat->Nat->Bool
 |0,_,_=>false
 |n+1,j,i=>((ops[j]?).map fun o=>o.after.any fun e=>Region.binds .any e&&(e.on==i||jB ops n e.on i)).getD false
def VY(ops:Array Oper)(a:Array Bool):Bool:=
 (List.range ops.size).all fun k => !(a.getD k true)||((ops[k]?).map fun o=>o.after.all fun e => !(Region.binds .any e)||a.getD e.on true).getD true
theorem Ou{a:Array Bool}(h:VY ops a=true){k:Nat}{ok:Oper}(hk:ops[k]?=some ok)(f:a.getD k true=true):∀e∈ok.after,Region.binds .any e=true->a.getD e.on true=true:=by
 intro e g i;have b:=(yC.1 hk).1;have c:=vD.1 h k (yQ.2 b);rw[f,hk]at c;simp only[Bool.not_true,Bool.false_or,vH,xA]at c;have d:=(Array.all_eq_true_iff_forall_mem.1 c) e g;rw[i]at d;simpa using d
theorem MN{a:Array Bool}(g:∀k ok,ops[k]?=some ok->a.getD k true=true->∀e∈ok.after,Region.binds .any e=true->a.getD e.on true=true){i:Nat}:
 ∀(n j:Nat),a.getD j true=true->jB ops n j i=true->a.getD i true=true:=by
 intro n
 induction n with
 |zero=>intro j _ h;cases h
 |succ n ih=>
  intro j d h;unfold jB at h
  cases ho:ops[j]? with
  |none=>rw[ho]at h;cases h
  |some o=>
   rw[ho]at h;simp only[vH,xA,Array.any_eq_true',xG,Bool.or_eq_true,beq_iff_eq]at h;obtain⟨e,f,l,b⟩:=h;have c:=g j o ho d e f l;rcases b with b|b
   .rw[<-b];exact c
   .exact ih e.on c b
theorem PV{a:Array Bool}(s:∀k ok,ops[k]?=some ok->a.getD k true=true->∀e∈ok.after,Region.binds .any e=true->a.getD e.on true=true){i j n:Nat}(p:i∈Region.ready .any ops a)(q:j∈Region.ready .any ops a):jB ops n j i=false:=by
 cases h:jB ops n j i with
 |false=>rfl
 |true=>
  obtain⟨b,-⟩:=mem_ready.1 p;obtain⟨-,u,l,f⟩:=mem_ready.1 q;have d:¬a.getD i true=true:=by
   rcases Nat.lt_or_ge i a.size with c|c
   .simp[c]at b⊢;exact b
   .simp[Array.getElem?_eq_none c]at b
  cases n with
  |zero=>cases h
  |succ n=>
   unfold jB at h;rw[l]at h;simp only[vH,xA,Array.any_eq_true',xG,Bool.or_eq_true,beq_iff_eq]at h;obtain⟨e,r,t,g⟩:=h;have o:=f e r t;have m:a.getD e.on true=true:=by
    rcases Nat.lt_or_ge e.on a.size with c|c
    .simp[c]at o⊢;exact o
    .simp[Array.getElem?_eq_none c]
   rcases g with g|g
   .rw[g]at m;exact absurd m d
   .exact absurd (MN s n e.on m g) d
theorem JR{n i:Nat}{s:Oper}{v:zV}(hi:ops[i]?=some s)(m:∀(j:Nat) (o:Oper) cs b,ops[j]?=some o->o.op≠.select cs b)
(O:∀c a w,Q (.panic c) (a.put s.dst v) w->Q (.panic c) a w){S:World->Prop}(t:∀j w',jB ops n j i=false->D j w'->S w'):
 ∀(fuel:Nat) (d:Array Bool) (a:Act) (w:zW),
  (∀k ok,ops[k]?=some ok->d.getD k true=true->∀e∈ok.after,Region.binds .any e=true->d.getD e.on true=true) ->
  (∀j r,ops[j]?=some r->j≠i->d.getD j true=false->(∀e∈r.after,Region.binds .any e=true->e.on≠i)->s.apart ops r=true) ->
  i∈Region.ready .any ops d->YieldsIf P ops S s v a->S w ->
  j3 P ops Q D fuel (d.setIfInBounds i true) (a.put s.dst v) w->j3 P ops Q D (fuel+1) d a w:=by
 intro fuel
 induction fuel with
 |zero=>
  intro d a w _ _ hr hy hS H;refine⟨fun h=>qeg,fun j z=>?_⟩;by_cases hji:j=i
  .exact qbG
  .have:=ready_mono z hji;rw[H.1]at this
   cases this
 |succ fuel ih=>
  intro d a w B f hr hy hS H;refine⟨fun h=>qeg,fun j z=>?_⟩;by_cases hji:j=i
  .exact qbG
  .have h1:=H.2 j (ready_mono z hji);have J:=fun w'=>t j w' (PV B hr z);obtain⟨p,r,g,q⟩:=mem_ready.1 z;have A:∀k ok,ops[k]?=some ok->(d.setIfInBounds j true).getD k true=true->∀e∈ok.after,Region.binds .any e=true->(d.setIfInBounds j true).getD e.on true=true:=by
    have up:∀x,d.getD x true=true->(d.setIfInBounds j true).getD x true=true:=fun x M=>by
     by_cases e:j=x
     .subst e;by_cases N:j<d.size
      .simp[N]
      .simp
     .rw[getD_set_ne true e];exact M
    intro k ok hk L e C E;by_cases y:j=k
    .subst y;rw[g]at hk;cases hk;refine up _ ?_;have F:=q e C E;rcases Nat.lt_or_ge e.on d.size with h'|h'
     .simp[h']at F⊢;exact F
     .simp[Array.getElem?_eq_none h']
    .rw[getD_set_ne true y]at L;exact up _ (B k ok hk L e C E)
   have u:∀e∈r.after,Region.binds .any e=true->e.on≠i:=fun e C E K=>by
    have h1:=q e C E;have h0:=(mem_ready.1 hr).1;rw[K]at h1;rcases Nat.lt_or_ge i d.size with h'|h'
    .exact qb1
    .exact qb6
   have F:=wpOp_putIf g (f j r g hji p u) (fun cs b=>m i s cs b hi) (fun cs b=>m j r cs b g) O hy h1;have l:∀k ok,ops[k]?=some ok->k≠i->(d.setIfInBounds j true).getD k true=false ->
    (∀e∈ok.after,Region.binds .any e=true->e.on≠i)->s.apart ops ok=true:=fun k ok hk I hun G=>by
    refine f k ok hk I ?_ G;by_cases hjk:j=k
    .subst hjk;exact p
    .exact qcC
   refine wpOp_mono (fun R w' h3=>⟨h3.2.1,ih (d.setIfInBounds j true) R w' A l (ready_mono hr (Ne.symm hji)) h3.1 (h3.2.1.elim (fun e=>by rw[e];exact hS) (J w')) ?_⟩) F;exact qcb
theorem aD(i n:Nat)(S:World->Prop){e:Oper}{v:zV}{fuel:Nat}{b:Array Bool}{a:Act}{w:zW}(hi:ops[i]?=some e)
(f:(Region.noSelect ops&&Region.free .any ops b i&&(Region.ready .any ops b).contains i&&VY ops b)=true)
(o:∀c a w,Q (.panic c) (a.put e.dst v) w->Q (.panic c) a w)(d:∀j w',jB ops n j i=false->D j w'->S w')(m:S w)(g:YieldsIf P ops S e v a)
(h:j3 P ops Q D fuel (b.setIfInBounds i true) (a.put e.dst v) w):j3 P ops Q D (fuel+1) b a w:=by
 simp only[xG]at f;obtain⟨⟨⟨r,q⟩,h3⟩,p⟩:=f;exact JR hi (Region.noSelect_spec r) o d fuel b a w (fun k ok hk l=>Ou p hk l) (Region.free_spec hi q) qeA g m h
theorem aC{n j i:Nat}(h:jB ops n j i=true)(k:jB ops n j i=false):False:=by rw[h]at k;cases k
theorem fT{i:Nat}{o:Oper}{K:Act->World->Prop}{a:Act}{w:zW}(hi:ops[i]?=some o)(b:Region.wanted o (yielded ops a.tmps)=true)(h:o.wp P a w K Q):wpOp P ops Q i K a w:=by
 unfold wpOp;rw[hi];simp only[b,if_true];exact .inl h
theorem MH{i:Nat}{o:Oper}{K:Act->World->Prop}{a:Act}{w:zW}(hi:ops[i]?=some o)(b:Region.wanted o (yielded ops a.tmps)=false)(h:K (a.put o.dst undef) w):wpOp P ops Q i K a w:=by
 unfold wpOp;rw[hi];simp only[b];simpa using h
end
end Cl
namespace Cl
open Go Go.RowKit
abbrev pY:=Nat->Nat×Nat
def pY.put(a:pY)(i:Nat)(x:Nat×Nat):pY:=fun j=>if j=i then x else a j
theorem pY.tQ(a:pY)(i:Nat)(x:Nat×Nat):a.put i x i=x:=by simp[pY.put]
theorem pY.wL(a:pY){i j:Nat}(x:Nat×Nat)(h:j≠i):a.put i x j=a j:=by simp[pY.put,h]
structure aI where
 deps:List Nat
 holds:Value->pY->World->Prop
 mono:∀(v:zV) (win win':pY) (w w':zW),(∀d∈deps,win d=win' d/\(win d).2<=w.heap.size)->zB w w'->holds v win w->holds v win' w'
def aI.any:aI:=⟨[],fun _ _ _=>True,fun _ _ _ _ _ _ _ _=>trivial⟩
def aI.is(p:Value->Prop):aI:=⟨[],fun v _ _=>p v,fun _ _ _ _ _ _ _ h=>h⟩
def aI.obj(j:Nat)(t:TypeId)(arr:Array Value):aI:=⟨[j],fun v a w=>v=.p ((a j).1)/\(a j).2=(a j).1+1/\bg w (a j).1 t arr,fun v a win' w w' hd hb ⟨d,c,b⟩=>by
 obtain⟨e,f⟩:=hd j (zZ.2 rfl);rw[<-e];exact⟨d,c,bg.aF b hb b.lt⟩⟩
def aI.sl(j:Nat)(t:TypeId)(arr:Array Value)(n:Nat):aI:=⟨[j],fun v a w=>v=.slice (some ⟨(a j).1,0,none⟩) n n/\(a j).2=(a j).1+1/\bg w (a j).1 t arr,fun v a win' w w' hd hb ⟨d,c,b⟩=>by
 obtain⟨e,f⟩:=hd j (zZ.2 rfl);rw[<-e];exact⟨d,c,bg.aF b hb b.lt⟩⟩
def Mem.fJ(m:Mem)(w:zW)(a:pY)(ds:List Nat):Mem:=fun k=>if ds.any (fun d=>decide ((a d).1<=k/\k<(a d).2))=true then w.heap[k]? else m k
theorem fzC{m:Mem}{w w':zW}{b a:pY}{ds:List Nat}(g:∀d∈ds,b d=a d/\(b d).2<=w.heap.size)(i:zB w w'):m.fJ w b ds=m.fJ w' a ds:=by
 funext k;unfold Mem.fJ;have e:(ds.any fun d=>decide ((b d).1<=k/\k<(b d).2))=ds.any fun d=>decide ((a d).1<=k/\k<(a d).2):=by
  rw[Bool.eq_iff_iff,List.any_eq_true,List.any_eq_true];constructor
  .rintro⟨d,c,f⟩;exact⟨d,c,by rw[<-(g d c).1];exact f⟩
  .rintro⟨d,c,f⟩;exact⟨d,c,by rw[(g d c).1];exact f⟩
 rw[<-e]
 split
 .rename_i h;obtain⟨d,c,f⟩:=List.any_eq_true.1 h;have:=(g d c).2;simp only[decide_eq_true_eq]at f;exact(i.block k zo).symm
 .rfl
theorem dzd{m:Mem}{w:zW}(h:m.az w)(a:pY)(ds:List Nat):(m.fJ w a ds).az w:=⟨fun k o hk=>by
 unfold Mem.fJ at hk
 split at hk
 .exact hk
 .exact h.get k o hk⟩
theorem dzF{m:Mem}{w:zW}(h:m.az w)(a:pY)(ds:List Nat):m.le (m.fJ w a ds):=⟨fun k o hk=>by
 unfold Mem.fJ
 split
 .exact h.get k o hk
 .exact hk⟩
theorem cz7{m:Mem}{w:zW}(h:m.az w)(a:pY){ds es:List Nat}(e:∀d∈ds,d∈es):(m.fJ w a ds).le (m.fJ w a es):=⟨fun k o hk=>by
 have hi:=(dzd h a ds).get k o hk;unfold Mem.fJ at hk⊢
 split
 .exact hi
 .rename_i b
  split at hk
  .rename_i c;obtain⟨d,g,f⟩:=List.any_eq_true.1 c;exact absurd (List.any_eq_true.2 ⟨d,e d g,f⟩) b
  .exact hk⟩
theorem ezV{m:Mem}{w:zW}{a:pY}{ds:List Nat}{k:Nat}(h:m k=none)(c:∀d∈ds,¬((a d).1<=k/\k<(a d).2)):m.fJ w a ds k=none:=by
 unfold Mem.fJ;rw[zJ]
 .exact h
 .intro b;obtain⟨d,e,h2⟩:=List.any_eq_true.1 b;exact c d e qep
theorem ezY{m:Mem}{w w':zW}(h:m.az w)(a:pY){ds:List Nat}{i:Nat}(j:∀d∈ds,d≠i)(f:∀d∈ds,(a d).2<=w.heap.size)(c:zB w w'):
 ((m.fJ w a ds).grow w w').le (m.fJ w' (a.put i (w.heap.size,w'.heap.size)) (i::ds)):=⟨fun k o hk=>by
 have e:m.fJ w a ds=m.fJ w' (a.put i (w.heap.size,w'.heap.size)) ds:=fzC (fun d b=>⟨(pY.wL a _ (j d b)).symm,f d b⟩) c;unfold Mem.grow at hk
 split at hk
 .rw[e]at hk;exact(cz7 (dzE h c) _ (fun d h=>zU _ h)).get k o hk
 .have g:=(yC.1 hk).1;unfold Mem.fJ;rw[zK]
  .exact hk
  .refine List.any_eq_true.2 ⟨i,yF ..,?_⟩;rw[pY.tQ];simp only[decide_eq_true_eq];omega⟩
theorem ezX{m:Mem}{w w':zW}(h:m.az w)(a:pY)(i:Nat)(b:zB w w'):(m.grow w w').le (m.fJ w' (a.put i (w.heap.size,w'.heap.size)) [i]):=by
 have:=ezY (ds:=[]) h a (i:=i) zS zS b;have e:m.fJ w a []=m:=by funext k;simp[Mem.fJ]
 rwa [e]at this
def aI.mem(m:Mem)(ds:List Nat)(R:Mem->Value->Prop):aI:=⟨ds,fun v a w=>R (m.fJ w a ds) v,fun v a b w w' c d h=>by
 rw[<-fzC c d];exact h⟩
def Og(a:Act)(o:Oper):Value:=match o.dst with
 |some s=>a.tmps.getD s undef
 |none=>undef
section
variable {P:Program} {ops:Array Oper} {Q:Exit->Act->World->Prop}
structure Reg (ops:Array Oper) (t0:Array Value) (w1:zW) (F:Nat->aI) (don:Nat->Bool) (win:pY) (a:Act) (w:zW):Prop where
 size:a.tmps.size=t0.size
 defers:a.defers=[]
 aF:Below w1.heap.size w1 w
 keep:∀s,(∀j o,ops[j]?=some o->don j=true->o.dst≠some s)->a.tmps.getD s undef=t0.getD s undef
 fact:∀j o,ops[j]?=some o->don j=true->(F j).holds (Og a o) win w
 iQ:∀j,don j=true->w1.heap.size<=(win j).1/\(win j).1<=(win j).2/\(win j).2<=w.heap.size
 apart:∀j k,don j=true->don k=true->j≠k->(win j).2<=(win k).1\/(win k).2<=(win j).1
def Nz(ops:Array Oper)(a s:Nat):Bool:=(List.range a).all fun i=>((ops[i]?).map fun o => !(o.dst==some s)).getD true
theorem wU{a s:Nat}(h:Nz ops a s=true){j:Nat}{o:Oper}(b:ops[j]?=some o)(c:j<a):o.dst≠some s:=by
 have:=vD.1 h j (yQ.2 c);rw[b]at this;exact qbe
structure JE (ops:Array Oper) (n0 fu:Nat) (t0:Array Value) (w1:zW) (F:Nat->aI) (i:Nat) (win:pY) (a:Act) (w:zW):Prop where
 size:a.tmps.size=t0.size
 defers:a.defers=[]
 aF:Below w1.heap.size w1 w
 keep:∀s,Nz ops n0 s=true->a.tmps.getD s undef=t0.getD s undef
 dep:∀j o,jB ops fu i j=true->ops[j]?=some o->(F j).holds (Og a o) win w
 iQ:∀j,jB ops fu i j=true->w1.heap.size<=(win j).1/\(win j).1<=(win j).2/\(win j).2<=w.heap.size
def bzm(F:Nat->aI)(i:Nat)(o:Oper)(b:pY)(a:Act)(w:zW)(c:Act)(w':zW):Prop:=
 ∃v,c=a.put o.dst v/\zB w w'/\(F i).holds v (b.put i (w.heap.size,w'.heap.size)) w'
structure bzn (ops:Array Oper) (n0:Nat) (t0:Array Value) (w1:zW) (F:Nat->aI) (win:pY) (a:Act) (w:zW):Prop where
 size:a.tmps.size=t0.size
 defers:a.defers=[]
 aF:Below w1.heap.size w1 w
 keep:∀s,Nz ops n0 s=true->a.tmps.getD s undef=t0.getD s undef
 fact:∀j o,j<n0->ops[j]?=some o->(F j).holds (Og a o) win w
 iQ:∀j,j<n0->w1.heap.size<=(win j).1/\(win j).1<=(win j).2/\(win j).2<=w.heap.size
 apart:∀j k,j<n0->k<n0->j≠k->(win j).2<=(win k).1\/(win k).2<=(win j).1
def Zy(ops:Array Oper)(a c f:Nat)(b:Nat->List Nat):Bool:=
 decide (a<=ops.size) &&
 (List.range a).all (fun i=>((ops[i]?).map fun o=>o.after.all fun e => !Region.binds .any e||decide (e.on<i)).getD false) &&
 (List.range ops.size).all (fun i=>decide (i<a)||(List.range a).all fun j=>jB ops c i j) &&
 (List.range a).all (fun i=>((ops[i]?).map fun o=>match o.dst with
  |some s=>decide (s<f)&&(List.range i).all fun j=>((ops[j]?).map fun o' => !(o'.dst==some s)).getD true
  | none=>false).getD false) &&
 (List.range a).all (fun j=>(b j).all fun d=>d==j||jB ops c j d)
structure dzQ (ops:Array Oper) (n0 fu nt:Nat) (deps:Nat->List Nat):Prop where
 le:n0<=ops.size
 back:∀i o,i<n0->ops[i]?=some o->∀e∈o.after,Region.binds .any e=true->e.on<i
 late:∀i,i<ops.size->n0<=i->∀j,j<n0->jB ops fu i j=true
 dst:∀i o,i<n0->ops[i]?=some o->∃s,o.dst=some s/\s<nt/\∀j o',j<n0->ops[j]?=some o'->j≠i->o'.dst≠some s
 dep:∀j,j<n0->∀d∈deps j,d=j\/jB ops fu j d=true
theorem Sw{p t n:Nat}{b:Nat->List Nat}(h:Zy ops p t n b=true):dzQ ops p t n b:=by
 simp only[Zy,xG,decide_eq_true_eq]at h;obtain⟨⟨⟨⟨F,E⟩,D⟩,C⟩,B⟩:=h;have u:∀i o,i<p->ops[i]?=some o->∃s,o.dst=some s/\s<n/\∀j o',j<i->ops[j]?=some o'->o'.dst≠some s:=by
  intro i o hi g;have:=vD.1 C i (yQ.2 hi);rw[g]at this;simp only[vH,xA]at this
  split at this
  .rename_i s m;rw[xG,decide_eq_true_eq]at this;refine⟨s,m,this.1,fun j o' c a=>?_⟩;have:=vD.1 this.2 j (yQ.2 c);rw[a]at this;exact qbe
  .cases this
 refine⟨F,?_,?_,?_,?_⟩
 .intro i o hi g e y A;have:=vD.1 E i (yQ.2 hi);rw[g]at this;simp only[vH,xA]at this;have:=Array.all_eq_true_iff_forall_mem.1 this e y;simpa [A]using this
 .intro i hi G j c;have:=vD.1 D i (yQ.2 hi);simp only[Bool.or_eq_true,decide_eq_true_eq]at this;exact vD.1 (this.resolve_left zo) j (yQ.2 c)
 .intro i o hi g;obtain⟨s,m,r,l⟩:=u i o hi g;refine⟨s,m,r,fun j o' c a w e=>?_⟩;rcases Nat.lt_or_ge j i with k|x
  .exact l j o' k a e
  .obtain⟨v,q,-,f⟩:=u j o' c a;have:v=s:=Option.some.inj (q.symm.trans e);subst this;exact f i o zo g m
 .intro j c d z;have:=vD.1 (vD.1 B j (yQ.2 c)) d z;exact qbe
theorem Fh{p q:Nat->Bool}(h:∀x,q x=true->p x=true){i:Nat}(c:p i=true)(b:q i=false):∀l:List Nat,i∈l->(l.filter q).length<(l.filter p).length
 |[],hi=>by cases hi
 |x::l,hi=>by
  have f:(l.filter q).length<=(l.filter p).length:=by
   clear hi
   induction l with
   |nil=>simp
   |cons y l a=>
    simp only[List.filter_cons]
    cases hy:q y with
    |true=>simp[h y hy,a]
    |false=>
     cases p y with
     |true=>simp;omega
     |false=>simpa using a
  rcases yA.1 hi with e|d
  .subst e;simp only[List.filter_cons,c,b,if_true];simp;omega
  .have a:=Fh h c b l d;simp only[List.filter_cons]
   cases hy:q x with
   |true=>simp[h x hy,a]
   |false=>
    cases p x with
    |true=>simp;omega
    |false=>simpa using a
theorem Qg{p:Nat->Bool}:∀n,(∃j,j<n/\p j=true)->∃j,j<n/\p j=true/\∀k,k<j->p k=false
 |0,⟨_,h,_⟩=>zo
 |n+1,⟨j,h,hp⟩=>by
  by_cases a:∃j,j<n/\p j=true
  .obtain⟨j,d,c,b⟩:=Qg n a;exact⟨j,zo,c,b⟩
  .refine⟨j,h,hp,fun k hk=>?_⟩
   cases hpk:p k with
   |false=>rfl
   |true=>exact absurd ⟨k,zo,hpk⟩ a
theorem Bo:∀(fuel c:Nat) (b:Array Bool) (a:Act) (w:zW),fuel<=c->wpAny P .any ops Q fuel b a w->wpAny P .any ops Q c b a w
 |0,c,b,a,w,_,h=>by
  cases c with
  |zero=>exact h
  |succ m=>exact⟨fun _=>h.2,fun i hi=>by rw[h.1]at hi;cases hi⟩
 |fuel+1,c,b,a,w,hl,h=>by
  cases c with
  |zero=>omega
  |succ m=>exact⟨h.1,fun i hi=>wpOp_mono (fun e w' d=>Bo fuel m _ e w' zo d) (h.2 i hi)⟩
def P8(n a:Nat):Array Bool:=((List.range n).map fun i=>decide (i<a)).toArray
theorem VK{l:Array Bool}{i:Nat}(h:i<l.size):l.getD i true=l.getD i false:=by simp[h]
theorem P7{n d:Nat}{a:Array Bool}(e:a.size=n)(b:∀j,a.getD j false=true->j<d)(c:∀j,j<d->a.getD j false=true):a=P8 n d:=by
 apply Array.ext
 .simp[P8,e]
 .intro i g h;simp only[P8,List.getElem_toArray,xQ,List.getElem_range];have f:a.getD i false=a[i]:=by simp[g]
  rw[<-f];by_cases hi:i<d
  .rw[c i hi];simp[hi]
  .cases hx:a.getD i false with
   |true=>exact absurd (b i hx) hi
   |false=>simp[hi]
def OT(ops:Array Oper)(a:Array Bool):Prop:=
 ∀k ok,ops[k]?=some ok->a.getD k false=true->∀e∈ok.after,Region.binds .any e=true->a.getD e.on false=true
theorem Cm{a:Array Bool}(g:OT ops a){i:Nat}:∀(n j:Nat),a.getD j false=true->jB ops n j i=true->a.getD i false=true:=by
 intro n
 induction n with
 |zero=>intro j _ h;cases h
 |succ n ih=>
  intro j d h;unfold jB at h
  cases ho:ops[j]? with
  |none=>rw[ho]at h;cases h
  |some o=>
   rw[ho]at h;simp only[vH,xA,Array.any_eq_true',xG,Bool.or_eq_true,beq_iff_eq]at h;obtain⟨e,f,k,b⟩:=h;have c:=g j o ho d e f k;rcases b with b|b
   .rw[<-b];exact c
   .exact ih e.on c b
theorem wK{a:Array Bool}(m:OT ops a){i j n:Nat}(h:i∈Region.ready .any ops a)(c:jB ops n i j=true):a.getD j false=true:=by
 obtain⟨g,o,k,b⟩:=mem_ready.1 h
 cases n with
 |zero=>cases c
 |succ n=>
  unfold jB at c;rw[k]at c;simp only[vH,xA,Array.any_eq_true',xG,Bool.or_eq_true,beq_iff_eq]at c;obtain⟨e,l,p,d⟩:=c;have f:=b e l p;rcases d with d|d
  .rw[<-d];exact f
  .exact Cm m n e.on f d
theorem jk{l:Array Bool}{i j:Nat}:(l.setIfInBounds i true).getD j false=true↔l.getD j false=true\/(j=i/\i<l.size):=by
 simp only[zY,Array.getElem?_setIfInBounds];by_cases e:i=j
 .subst e;by_cases h:i<l.size
  .simp[h]
  .simp[h]
 .rw[zJ e];constructor
  .exact .inl
  .rintro(h|⟨h,-⟩)
   .exact h
   .exact absurd h.symm e
theorem ezd{a:Act}{s:Nat}{v:zV}{t:Nat}:(a.put (some s) v).tmps.getD t undef=if t=s/\s<a.tmps.size then v else a.tmps.getD t undef:=by
 simp only[Act.put,zY,Array.getElem?_setIfInBounds];by_cases e:s=t
 .subst e;by_cases h:s<a.tmps.size
  .simp[h]
  .simp[h]
 .rw[zJ e,zJ (fun h=>e h.1.symm)]
theorem Xc{q Y:Nat}{O:Array Value}{W:zW}{F:Nat->aI}(H:dzQ ops q Y O.size (fun j=>(F j).deps))
(J:∀i,i<q->∀o f a w,ops[i]?=some o->JE ops q Y O W F i f a w->wpOp P ops Q i (bzm F i o f a w) a w)
(G:∀f a w,bzn ops q O W F f a w->wpAny P .any ops Q (ops.size-q) (P8 ops.size q) a w):
 ∀(fuel:Nat) (b:Array Bool) (f:pY) (a:Act) (w:zW),b.size=ops.size->(∀j,b.getD j false=true->j<q)->OT ops b ->
  ((List.range q).filter fun j => !b.getD j false).length+(ops.size-q)<=fuel->Reg ops O W F (fun j=>b.getD j false) f a w->wpAny P .any ops Q fuel b a w:=by
 intro fuel
 induction fuel with
 |zero=>
  intro b f a w B c z i' n;have g:∀j,j<q->b.getD j false=true:=fun j p=>by
   cases M:b.getD j false with
   |true=>rfl
   |false=>
    have:j∈(List.range q).filter fun j => !b.getD j false:=xR.2 ⟨yQ.2 p,by rw[M];rfl⟩;have:=List.length_pos_of_mem this;omega
  have:=G f a w ⟨n.size,n.defers,n.aF,fun s C=>n.keep s fun j o r y=>wU C r (c j y),fun j o p r=>n.fact j o r (g j p),fun j p=>n.iQ j (g j p),fun j k p hk u=>n.apart j k (g j p) (g k hk) u⟩;rw[P7 B c g]
  exact Bo _ _ _ _ _ zo this
 |succ fuel ih=>
  intro b f a w B c z i' n;by_cases g:∀j,j<q->b.getD j false=true
  .have:=G f a w ⟨n.size,n.defers,n.aF,fun s C=>n.keep s fun j o r y=>wU C r (c j y),fun j o p r=>n.fact j o r (g j p),fun j p=>n.iQ j (g j p),fun j k p hk u=>n.apart j k (g j p) (g k hk) u⟩;rw[P7 B c g];exact Bo _ _ _ _ _ zo this
  .have j':∃j,j<q/\(!b.getD j false)=true:=by
    apply zP;intro d';exact g fun j p=>by
     cases M:b.getD j false with
     |true=>rfl
     |false=>exact absurd ⟨j,p,by rw[M];rfl⟩ d'
   refine⟨fun S=>?_,fun i hi=>?_⟩
   .obtain⟨j,h1,h2,h3⟩:=Qg q j';have T:j<ops.size:=by have:=H.le;omega
    have:j∈Region.ready .any ops b:=mem_ready.2 ⟨by rw[VK zo];simpa using h2,ops[j],by simp[T],fun e X N=>by
     have:=h3 e.on (H.back j _ h1 (by simp[T]) e X N);simpa using this⟩
    rw[S]at this;cases this
   .obtain⟨I,o,r,L⟩:=mem_ready.1 hi;have g':i<ops.size:=(yC.1 r).1;have D:i<q:=by
     rcases Nat.lt_or_ge i q with h|h
     .exact h
     .exact absurd (fun j p=>wK z hi (H.late i g' h j p)) g
    rw[VK zo]at I;obtain⟨s,C,Z,b'⟩:=H.dst i o D r;have c':s<a.tmps.size:=by rw[n.size];exact Z
    have hA:JE ops q Y O W F i f a w:=⟨n.size,n.defers,n.aF,fun s C=>n.keep s fun j o r y=>wU C r (c j y),
     fun j o R r=>n.fact j o r (wK z hi R),fun j R=>n.iQ j (wK z hi R)⟩
    refine wpOp_mono ?_ (J i D o f a w r hA);rintro a' w' ⟨v,rfl,N,hv⟩;rw[C];have m:∀j,b.getD j false=true->j≠i:=fun j p e=>by rw[e,I]at p;cases p
    refine ih (b.setIfInBounds i true) (f.put i (w.heap.size,w'.heap.size)) _ _ (by simpa using B) ?_ ?_ ?_ ?_
    .intro j p;rcases jk.1 p with h|h
     .exact c j h
     .rw[h.1];exact D
    .intro k ok hk hl e X V;refine jk.2 (.inl ?_);rcases jk.1 hl with h|h
     .exact z k ok hk h e X V
     .have f':=h.1;subst f';have:ok=o:=Option.some.inj (hk.symm.trans r);subst this;exact L e X V
    .have:((List.range q).filter fun j => !(b.setIfInBounds i true).getD j false).length<((List.range q).filter fun j => !b.getD j false).length:=by
      refine Fh (i:=i) (fun x M=>?_) (by rw[I];rfl) ?_ _ (yQ.2 D)
      .cases hl:b.getD x false with
       |false=>rfl
       |true=>
        have:=jk (l:=b) (i:=i) (j:=x) |>.2 (.inl hl);rw[this]at M;cases M
      .have:=jk (l:=b) (i:=i) (j:=i) |>.2 (.inr ⟨rfl,zo⟩);rw[this];rfl
     omega
    .refine⟨?_,n.defers,iO n.aF N,?_,?_,?_,?_⟩
     .simp[Act.put,n.size]
     .intro t ht;rw[ezd,zJ]
      .exact n.keep t fun j o' A y=>ht j o' A (jk.2 (.inl y))
      .rintro⟨e,-⟩;exact ht i o r (jk.2 (.inr ⟨rfl,zo⟩)) (by rw[C,e])
     .intro j o' A y;rcases jk.1 y with h|h
      .have K:=m j h;have e:Og (a.put (some s) v) o'=Og a o':=by
        unfold Og
        cases hd':o'.dst with
        |none=>rfl
        |some t=>
         simp only;rw[ezd,zJ];rintro⟨e,-⟩;exact b' j o' (c j h) A K (by rw[hd',e])
       rw[e];refine(F j).mono _ f _ w w' (fun d y=>?_) N (n.fact j o' A h);have U:b.getD d false=true:=by
        rcases H.dep j (c j h) d y with e|R
        .rw[e];exact h
        .exact Cm z Y j h R
       exact⟨(pY.wL f _ (m d U)).symm,(n.iQ d U).2.2⟩
      .have K:=h.1;subst K;have:o'=o:=Option.some.inj (A.symm.trans r);subst this;have e:Og (a.put (some s) v) o'=v:=by
        unfold Og;rw[C];simp only;rw[ezd,zK ⟨rfl,c'⟩]
       rw[e];exact hv
     .intro j y;rcases jk.1 y with h|h
      .rw[pY.wL f _ (m j h)];have:=n.iQ j h;have:=N.size;omega
      .rw[h.1,pY.tQ];exact⟨n.aF.size,N.size,zI _⟩
     .intro j k p hk u;rcases jk.1 p with h|h
      .rcases jk.1 hk with E|E
       .rw[pY.wL f _ (m j h),pY.wL f _ (m k E)];exact n.apart j k h E u
       .rw[pY.wL f _ (m j h),E.1,pY.tQ];exact .inl (n.iQ j h).2.2
      .rcases jk.1 hk with E|E
       .rw[pY.wL f _ (m k E),h.1,pY.tQ];exact .inr (n.iQ k E).2.2
       .exact absurd (h.1.trans E.1.symm) u
theorem bE{id:Nat}{g:Array Value}{w:zW}(c n:Nat)(F:Nat->aI)(p:P.follows .mixedOrders=true)(m:Zy ops c n g.size (fun j=>(F j).deps)=true)
(e:∀i,i<c->∀o b a w',ops[i]?=some o->JE ops c n g w.drew F i b a w'->wpOp P ops Q i (bzm F i o b a w') a w')
(l:∀b a w',bzn ops c g w.drew F b a w'->wpAny P .any ops Q (ops.size-c) (P8 ops.size c) a w'):(Code.region id ops true).wp P Q ⟨g,[]⟩ w:=by
 have H:=Sw m;refine wp_region_any p (Xc H e l ops.size (Array.replicate ops.size false) (fun _=>(0,0)) ⟨g,[]⟩ w.drew zS ?_ ?_ ?_ ?_)
 .intro j d;exfalso;by_cases h:j<ops.size<;>simp[h]at d
 .intro k ok _ q;exfalso;by_cases h:k<ops.size<;>simp[h]at q
 .have:((List.range c).filter fun j => !(Array.replicate ops.size false).getD j false).length<=c:=by
   have:=vB (fun j => !(Array.replicate ops.size false).getD j false) (List.range c);exact qbe
  have:=H.le;omega
 .have f:∀j,(Array.replicate ops.size false).getD j false=true->False:=fun j d=>by
   by_cases h:j<ops.size<;>simp[h]at d
  exact⟨rfl,rfl,zR _ _,fun _ _=>rfl,fun j _ _ d=>(f j d).elim,fun j d=>(f j d).elim,fun j _ d=>(f j d).elim⟩
theorem dB{b:Array Bool}{a:Act}{w:zW}(d:(Region.ready .any ops b==[])=true)(h:Q .normal a w):∀fuel,wpAny P .any ops Q fuel b a w:=by
 have c:Region.ready .any ops b=[]:=by simpa using d
 intro fuel
 cases fuel with
 |zero=>exact⟨c,h⟩
 |succ n=>exact⟨fun _=>h,by rw[c];simp⟩
theorem eQ(i:Nat){fuel:Nat}{b:Array Bool}{a:Act}{w:zW}(c:(Region.ready .any ops b==[i])=true)
(h:wpOp P ops Q i (fun d w'=>wpAny P .any ops Q fuel (b.setIfInBounds i true) d w') a w):wpAny P .any ops Q (fuel+1) b a w:=by
 have hr':Region.ready .any ops b=[i]:=by simpa using c
 exact qaY
theorem XL{t:Array Value}{s:Nat}{b:Bool}(h:t.getD s undef=.bool b):t[s]?=some (.bool b):=by
 cases hx:t[s]? with
 |none=>simp[hx,undef]at h
 |some v=>simpa [hx]using h
theorem Kt{o:Oper}{a:Act}{g s:Nat}{b c:Bool}(f:o.guard=some (g,b))(d:(ops[g]?).bind (·.dst)=some s)(e:a.tmps.getD s undef=.bool c):Region.wanted o (yielded ops a.tmps)=(c==b):=by
 have h:=XL e;simp[Region.wanted,f,yielded,d,h]
theorem fC{o:Oper}{a:Act}{g s:Nat}{b:Bool}(d:o.guard=some (g,b))(c:(ops[g]?).bind (·.dst)=some s)(e:a.tmps.getD s undef=.bool b):Region.wanted o (yielded ops a.tmps)=true:=by
 rw[Kt d c e];simp
theorem Wl{o:Oper}{a:Act}{g s:Nat}{b c:Bool}(h:o.guard=some (g,b))(d:(ops[g]?).bind (·.dst)=some s)(e:a.tmps.getD s undef=.bool c)(f:(c==b)=false):Region.wanted o (yielded ops a.tmps)=false:=by
 rw[Kt h d e,f]
end
theorem Own.region{w0 b w:zW}{m mk:Mem}{L:List bA}(h:Own w0 m b mk L)(p:Below b.heap.size b w)(a:pY)(ds:List Nat)(n:∀d∈ds,b.heap.size<=(a d).1):Own w0 m w (mk.fJ w a ds) L:=by
 have c:=h.aT p;have j:∀k,k<b.heap.size->mk k=none->mk.fJ w a ds k=none:=fun k hk l=>ezV l fun d f q=>by have:=n d f;omega
 refine⟨h.m0,c.aF,⟨Mem.le_trans h.ext.le (dzF c.az a ds),fun k o hk=>?_⟩,dzd c.az a ds,c.ok,fun it hi k hk=>⟨(h.ik it hi k hk).1,j k (bA.lt (h.ok it hi) hk) (h.ik it hi k hk).2⟩,h.apart⟩;rcases Nat.lt_or_ge k b.heap.size with g|i
 .cases hx:mk k with
  |none=>rw[j k g hx]at hk;cases hk
  | some o'=>exact h.ext.dom k o' hx |>.imp (fun e=>by
   have f:=(dzF c.az a ds).get k o' hx;rw[hk]at f;rw[e,f]) id
 .exact .inr (yJ h.aF.size i)
theorem Own.fzr{w0 w:zW}{m mk:Mem}{L:List bA}(h:Own w0 m w mk L):m.az w:=bzw h.ext.le h.az
theorem Own.newObj{w0 w:zW}{m mk:Mem}{L:List bA}{g:Nat}{t:TypeId}{arr:Array Value}(h:Own w0 m w mk L)(d:bg w g t arr)(a:w0.heap.size<=g)(e:mk g=none)(f:∀it∈L,it.blk≠some g):Own w0 m w mk (.obj g t arr::L):=
 h.cons d (fun k hk=>by simp only[bA.blk,Option.some.injEq]at hk;subst hk;exact⟨a,e⟩) (fun b i k c j=>by simp only[bA.blk,Option.some.injEq]at c;subst c;exact f b i j)
theorem Own.Oy{w0 w:zW}{m mk:Mem}{L:List bA}(h:Own w0 m w mk L){n:Nat}(a:w.heap.size<=n):∀it∈L,it.blk≠some n:=fun it hi e=>by have:=bA.lt (h.ok it hi) e;omega
theorem bzc{g n:Nat}{t:TypeId}{arr:Array Value}{L:List bA}(a:g≠n)(h:∀it∈L,it.blk≠some n):∀it∈bA.obj g t arr::L,it.blk≠some n:=by
 intro it hi;rcases yA.1 hi with rfl|hi
 .simpa [bA.blk]using a
 .exact h it hi
theorem Nv{w:zW}{i:Nat}{t:TypeId}{arr:Array Value}(a:pY):
 (aI.obj i t arr).holds (.p w.heap.size) (a.put i (w.heap.size,(w.alloc (.cells arr t)).heap.size)) (w.alloc (.cells arr t)):=by
 show _=Value.pointer (some ⟨((a.put i (w.heap.size,(w.alloc (.cells arr t)).heap.size)) i).1,0,none⟩)/\_/\_;rw[pY.tQ];exact⟨rfl,zS,bg.new _ _ _⟩
theorem dzC{w:zW}{i n:Nat}{t:TypeId}{arr:Array Value}(a:pY):
 (aI.sl i t arr n).holds (.slice (some ⟨w.heap.size,0,none⟩) n n) (a.put i (w.heap.size,(w.alloc (.cells arr t)).heap.size)) (w.alloc (.cells arr t)):=by
 show _=Value.slice (some ⟨((a.put i (w.heap.size,(w.alloc (.cells arr t)).heap.size)) i).1,0,none⟩) n n/\_/\_;rw[pY.tQ];exact⟨rfl,zS,bg.new _ _ _⟩
def Rw(f:List UInt8->Bool)(n:Nat)(M:Mem)(v:zV):Prop:=∃b a C,v=.agg #[.slice b (List.length C) a]/\aV M (.slice b (List.length C) a) C/\eP f C/\C.length<=n
theorem azg{f:List UInt8->Bool}{n:Nat}{M:Mem}{r:zV}{C:aK}(a:aV M r C)(e:eP f C)(d:C.length<=n):Rw f n M (.agg #[r]):=by
 obtain⟨c,b,rfl,h⟩:=a;exact⟨c,b,C,rfl,⟨c,b,rfl,h⟩,e,d⟩
theorem azh{m:Mem}{w w':zW}{a:pY}{i:Nat}{f:List UInt8->Bool}{n:Nat}{r:zV}{C:aK}(d:m.az w)(g:zB w w')(b:aV (m.grow w w') r C)(e:eP f C)(c:C.length<=n):
 Rw f n (m.fJ w' (a.put i (w.heap.size,w'.heap.size)) [i]) (.agg #[r]):=azg (bq (ezX d a i g) b) e c
section
variable {P:Program} {ops:Array Oper} {Q:Exit->Act->World->Prop} {F:Nat->aI}
theorem JE.d{g c:Nat}{f:Array Value}{e:zW}{i:Nat}{b:pY}{a:Act}{w:zW}(h:JE ops g c f e F i b a w)(j:Nat){o:Oper}(k:ops[j]?=some o)(l:jB ops c i j=true:=by kernel_rfl):(F j).holds (Og a o) b w:=h.dep j o l k
theorem JE.k{d g:Nat}{c:Array Value}{e:zW}{i:Nat}{b:pY}{a:Act}{w:zW}(h:JE ops d g c e F i b a w)(s:Nat)(f:Nz ops d s=true:=by kernel_rfl):a.tmps.getD s undef=c.getD s undef:=h.keep s f
theorem wv{i:Nat}{o:Oper}{b:pY}{a:Act}{w:zW}{v:zV}(hi:ops[i]?=some o)(d:o.guard=none)(e:(F i).holds v (b.put i (w.heap.size,w.heap.size)) w)(c:(execOp a.eval o).run P w=.ok (.value v) w:=by go_simp;first|done|rfl):wpOp P ops Q i (bzm F i o b a w) a w:=aM hi d (aS c ⟨v,rfl,zR _ _,e⟩)
theorem wy{i:Nat}{o:Oper}{c:pY}{a:Act}{w:zW}{v:zV}{g s:Nat}{b:Bool}(hi:ops[i]?=some o)(h:o.guard=some (g,b))(d:(ops[g]?).bind (·.dst)=some s)(e:a.tmps.getD s undef=.bool b)(j:(F i).holds v (c.put i (w.heap.size,w.heap.size)) w)(f:(execOp a.eval o).run P w=.ok (.value v) w:=by go_simp;first|done|rfl):wpOp P ops Q i (bzm F i o c a w) a w:=fT hi (fC h d e) (aS f ⟨v,rfl,zR _ _,j⟩)
theorem wn{i:Nat}{o:Oper}{d:pY}{a:Act}{w:zW}{g s:Nat}{b c:Bool}(hi:ops[i]?=some o)(j:o.guard=some (g,b))(f:(ops[g]?).bind (·.dst)=some s)(e:a.tmps.getD s undef=.bool c)(h:(c==b)=false)(k:(F i).holds undef (d.put i (w.heap.size,w.heap.size)) w):wpOp P ops Q i (bzm F i o d a w) a w:=MH hi (Wl j f e h) ⟨undef,rfl,zR _ _,k⟩
theorem we{i:Nat}{o:Oper}{K:Act->World->Prop}{a:Act}{w w':zW}{f:FuncId}{args:Array Value}{X:Ending->World->Prop}(hi:ops[i]?=some o)(d:o.guard=none)(g:Calls P f args w' X)(h:∀e b,X e b->∃v,e=.returned v/\K (a.put o.dst v) b)(c:(execOp a.eval o).run P w=.ok (.enter f args) w':=by go_simp;first|done|rfl|exact⟨rfl,rfl⟩):wpOp P ops Q i K a w:=aM hi d (fP c g h)
theorem we2{i:Nat}{o:Oper}{K:Act->World->Prop}{a:Act}{w w':zW}{f:FuncId}{args:Array Value}{X:Ending->World->Prop}{g s:Nat}{b:Bool}(hi:ops[i]?=some o)(k:o.guard=some (g,b))(d:(ops[g]?).bind (·.dst)=some s)(e:a.tmps.getD s undef=.bool b)(l:Calls P f args w' X)(h:∀e c,X e c->∃v,e=.returned v/\K (a.put o.dst v) c)(j:(execOp a.eval o).run P w=.ok (.enter f args) w':=by go_simp;first|done|rfl|exact⟨rfl,rfl⟩):wpOp P ops Q i K a w:=fT hi (fC k d e) (fP j l h)
end
end Cl
namespace Go.Proofs
open Go.Shelf Tryz
def Tryz.Sc:Go.Shelf.Ren:=⟨fun|6=>149|15=>167|14=>185|28=>207|29=>208|20=>242|21=>243|22=>244|23=>245|24=>246|25=>247|26=>248|27=>249|46=>283|47=>257|48=>258|49=>284|50=>285|57=>294|n=>n,fun|22=>22|24=>100|25=>189|3=>3|39=>205|0=>0|53=>256|55=>258|4=>4|46=>250|45=>249|50=>231|5=>5|9=>9|66=>299|70=>303|76=>318|77=>319|n=>n,fun|n=>n⟩
theorem Tryz.dz5:Go.Proofs.SlLaysF0.n6 prog Tryz.Sc:={
 mixed:=by kernel_rfl
 f6:=⟨Tryz.f149.name,by decide,func149.trans (congrArg some zk)⟩
 f14:=⟨Tryz.f185.name,by decide,func185.trans (congrArg some zk)⟩
 f15:=func167.trans (congrArg some zk)
 f20:=⟨Tryz.f242.name,by decide,func242.trans (congrArg some zk)⟩
 f21:=⟨Tryz.f243.name,by decide,func243.trans (congrArg some zk)⟩
 f22:=⟨Tryz.f244.name,by decide,func244.trans (congrArg some zk)⟩
 f23:=⟨Tryz.f245.name,by decide,func245.trans (congrArg some zk)⟩
 f24:=⟨Tryz.f246.name,by decide,func246.trans (congrArg some zk)⟩
 f25:=⟨Tryz.f247.name,by decide,func247.trans (congrArg some zk)⟩
 f26:=⟨Tryz.f248.name,by decide,func248.trans (congrArg some zk)⟩
 f27:=⟨Tryz.f249.name,by decide,func249.trans (congrArg some zk)⟩
 f28:=func207.trans (congrArg some zk)
 f29:=func208.trans (congrArg some zk)
 f46:=⟨Tryz.f283.name,by decide,func283.trans (congrArg some zk)⟩
 f47:=func257.trans (congrArg some zk)
 f48:=func258.trans (congrArg some zk)
 f49:=⟨Tryz.f284.name,by decide,func284.trans (congrArg some zk)⟩
 f50:=⟨Tryz.f285.name,by decide,func285.trans (congrArg some zk)⟩
 f57:=⟨Tryz.f294.name,by decide,func294.trans (congrArg some zk)⟩
 t0:=underlying0
 a0:=Tryz.isAgg0
 z0:=Tryz.sizeOf0
 v0:=Tryz.zeroValue0
 t3:=underlying3
 a3:=Tryz.isAgg3
 z3:=Tryz.sizeOf3
 v3:=Tryz.zeroValue3
 t4:=underlying4
 a4:=Tryz.isAgg4
 z4:=Tryz.sizeOf4
 v4:=Tryz.zeroValue4
 t5:=underlying5
 a5:=Tryz.isAgg5
 z5:=Tryz.sizeOf5
 v5:=Tryz.zeroValue5
 t9:=underlying9
 a9:=Tryz.isAgg9
 z9:=Tryz.sizeOf9
 v9:=Tryz.zeroValue9
 t22:=underlying22
 a22:=Tryz.isAgg22
 z22:=Tryz.sizeOf22
 v22:=Tryz.zeroValue22
 t25:=underlying189
 a25:=Tryz.isAgg189
 z25:=Tryz.sizeOf189
 v25:=Tryz.zeroValue189
 t39:=underlying205
 a39:=Tryz.isAgg205
 z39:=Tryz.sizeOf205
 v39:=Tryz.zeroValue205
 t45:=underlying249
 a45:=Tryz.isAgg249
 z45:=Tryz.sizeOf249
 v45:=Tryz.zeroValue249
 t46:=underlying250
 a46:=Tryz.isAgg250
 z46:=Tryz.sizeOf250
 v46:=Tryz.zeroValue250
 t50:=underlying231
 a50:=Tryz.isAgg231
 z50:=Tryz.sizeOf231
 v50:=Tryz.zeroValue231
 t53:=underlying256
 a53:=Tryz.isAgg256
 z53:=Tryz.sizeOf256
 v53:=Tryz.zeroValue256
 t55:=underlying258
 a55:=Tryz.isAgg258
 z55:=Tryz.sizeOf258
 v55:=Tryz.zeroValue258
 t66:=underlying299
 a66:=Tryz.isAgg299
 z66:=Tryz.sizeOf299
 v66:=Tryz.zeroValue299
 t70:=underlying303
 a70:=Tryz.isAgg303
 z70:=Tryz.sizeOf303
 v70:=Tryz.zeroValue303
 t76:=underlying318
 a76:=Tryz.isAgg318
 z76:=Tryz.sizeOf318
 v76:=Tryz.zeroValue318
 t77:=underlying319
 a77:=Tryz.isAgg319
 z77:=Tryz.sizeOf319
 v77:=Tryz.zeroValue319 }
end Go.Proofs
namespace Cl
open Go Go.RowKit Go.Proofs Go.Sort
def vK(x:dh):List Value:=[.j x.1,.j x.2]
def Ji(x y:dh):Int:=Lib.compareInt x.1 y.1
theorem czd(x y:dh):ltOf Ji x y=decide (x.1<y.1):=by
 unfold ltOf Ji Lib.compareInt;by_cases a:x.1<y.1
 .simp[a]
 .by_cases b:y.1<x.1<;>simp[a,b]
theorem ez8:SWO (ltOf Ji) where
 irrefl x:=by rw[czd];simp
 trans x y z h1 h2:=by rw[czd]at*;simp at*;omega
 ntrans x y z h1 h2:=by rw[czd]at*;simp at*;omega
theorem flat_get(d:Array dh)(j:Nat)(h:j<d.size*2):(flatK vK 2 d)[j]! = (bN d.toList)[j]'(by rw[dN];simpa using h):=by
 rw[get_flatK _ _ _ _ h];have hi:j/2<d.toList.length:=by simp;omega
 obtain⟨a,f⟩:=mZ d.toList (j/2) hi;have e:d[j/2]! = d.toList[j/2]:=by
  rw[getElem!_pos d (j/2) qec];simp
 rcases(show j=j/2*2/\j%2=0\/j=j/2*2+1/\j%2=1 by omega)with⟨c,b⟩|⟨c,b⟩
 .rw[b,e];have:=(yB.1 a).2;simp only[vK];rw[<-c]at a;exact(yB.1 a).2.symm
 .rw[b,e];simp only[vK];rw[<-c]at f;exact(yB.1 f).2.symm
theorem W9{w:zW}{t:TypeId}{g c:Nat}{l:List dh}(h:w.ownsRow 0 t 2 (.slice (some ⟨g,0,none⟩) l.length c) l.length (bN l)):HoldsK vK 2 w g 0 l.toArray:=by
 intro j b;have a:j<l.toArray.size*2:=by simpa [size_flatK]using b
 refine⟨?_,fD h _⟩;rw[yZ];refine bO h ?_;rw[flat_get _ _ a];simp
theorem Zo{w0 w:zW}{m mk:Mem}{L:List bA}{t:TypeId}{g c:Nat}{l:List dh}(h:Own w0 m w mk (.row (.slice (some ⟨g,0,none⟩) l.length c) t 2 l.length (bN l)::L))
(b:Array dh)(d:b.size=l.length)(n:Nat)(p:Array Obj):Own w0 m (sortWorldK vK 2 w g 0 n b p) mk (.row (.slice (some ⟨g,0,none⟩) l.length c) t 2 l.length (bN b.toList)::L):=by
 have C:=h.row;obtain⟨F,z⟩:=C;rcases z with⟨z,-⟩|⟨G,E,o,B,D,A,f,y,i,r⟩
 .cases z
 .cases B;have u:g<w.heap.size:=(yC.1 A).1;have a:∀k,k<w.heap.size->(sortWorldK vK 2 w g 0 n b p).heap[k]?=(w.heap.modify g (onCells (putCells id 0 (flatK vK 2 b))))[k]?:=fun k hk=>by
   show((w.heap.modify g (onCells (putCells id 0 (flatK vK 2 b))))++p)[k]?=_;rw[Array.getElem?_append_left qez]
  refine h.app (v':=.slice (some ⟨g,0,none⟩) l.length c) (N:=w.heap.size) ⟨by rw[dN];simp[d],.inr ⟨g,c,putCells id 0 (flatK vK 2 b) o,rfl,D,?_,f,y,?_,?_⟩⟩ ⟨rfl,rfl,rfl,?_,?_⟩ (fun k hk=>.inl hk) (zI _)
  .rw[a g u,Array.getElem?_modify,zK rfl,A]
   rfl
  .simp[putCells,i]
  .apply List.ext_getElem?;intro j;by_cases q:j<l.length*2
   .have x:j<o.size:=by rw[i];have:=Nat.mul_le_mul_right 2 f;omega
    rw[List.getElem?_take,zK q];have v:j<(bN b.toList).length:=by rw[dN];simp[d,q]
    rw[yH v,<-flat_get b j (by rw[d];exact q)];simp[putCells,x,size_flatK,d,q]
   .rw[vC qdQ,vC (by rw[dN];simp[d];omega)]
  .show w.heap.size<=((w.heap.modify g (onCells (putCells id 0 (flatK vK 2 b))))++p).size;simp
  .intro k hk s;rw[a k hk,Array.getElem?_modify,zJ (fun e=>s qeI)]
theorem WT{l:List dh}{a:Array dh}(m:PermIn 0 l.toArray.size l.toArray a)(k:SortedIn (ltOf Ji) 0 l.toArray.size a):a.size=l.length/\a.toList.Perm l/\a.toList.Pairwise fun s t=>s.1<=t.1:=by
 obtain⟨g,-,f⟩:=m;have h:a.size=l.length:=by simpa using g
 refine⟨h,?_,?_⟩
 .have o:a.extract 0 l.toArray.size=a:=by rw[<-g];simp
  have n:l.toArray.extract 0 l.toArray.size=l.toArray:=by simp
  rw[o,n]at f;simpa using f
 .rw[List.pairwise_iff_getElem];intro i j hi e c;have d:i<a.size:=by simpa using hi
  have b:j<a.size:=by simpa using e
  have:=k i j (zG _) c (by simpa [h]using e);rw[czd]at this;simp only[decide_eq_false_iff_not,Int.not_lt]at this;rw[getElem!_pos a i d,getElem!_pos a j b]at this;exact qbe
end Cl
namespace Cl
open Go Go.RowKit
def Dq{α:Type}(P:Program)(l:Nat)(encs:α->Array Value)(w0:zW)(m c:Mem)(B Bx:List α->List bA->Prop):Prop:=
 ∀(b:List α) (x:α) (W:zW) (mk:Mem) (f Lr:List bA),B b f->Own w0 m W mk (f++Lr)->c.le mk->YieldAt Fence.wide 0 P l (encs x) W fun e d=>
  (e=.returned (.bool true)/\∃mk' a,B (b++[x]) a/\Own w0 m d mk' (a++Lr)/\mk.le mk') \/
  (e=.returned (.bool false)/\∃mk' a,Bx (b++[x]) a/\Own w0 m d mk' (a++Lr)/\mk.le mk')
def OI{α:Type}(w0:zW)(m a:Mem)(B Bx:List α->List bA->Prop)(S d:List α->Prop)(e:Ending)(c:zW):Prop:=
 (∃v,e=.returned v)/\((∃xs mk' b,S xs/\B xs b/\Own w0 m c mk' b/\a.le mk')\/(∃xs mk' b,d xs/\Bx xs b/\Own w0 m c mk' b/\a.le mk'))
def Du{α:Type}(w0:zW)(m mk:Mem)(Lr:List bA)(I:List α->List bA->Prop)(b:Code->List α->List bA->Prop)(xs:List α):Exit->Act->World->Prop
 |.normal,_,W'=>∃mk' a,I xs a/\Own w0 m W' mk' (a++Lr)/\mk.le mk'
 |.ret,_,W'=>∃mk' a,b .ret xs a/\Own w0 m W' mk' (a++Lr)/\mk.le mk'
 |.exit id,_,W'=>∃mk' a,b (.exit id) xs a/\Own w0 m W' mk' (a++Lr)/\mk.le mk'
 |.goto t,_,W'=>∃mk' a,b (.goto t) xs a/\Own w0 m W' mk' (a++Lr)/\mk.le mk'
 |.panic _,_,_=>False
 |.outgrown,_,_=>False
theorem tV{α:Type}(a b:α)(L R:List α):(L++(a::b::R)).Perm (a::b::(L++R)):=List.perm_middle.trans (List.Perm.cons _ List.perm_middle)
def JB{α:Type}(P:Program)(l:Nat)(encs:α->Array Value)(w0:zW)(m c:Mem)(C:List α->α->Prop)(B Bx:List α->List bA->Prop):Prop:=
 ∀(b:List α) (x:α) (W:zW) (mk:Mem) (f Lr:List bA),C b x->B b f->Own w0 m W mk (f++Lr)->c.le mk->YieldAt Fence.wide 0 P l (encs x) W fun e d=>
  (e=.returned (.bool true)/\∃mk' a,B (b++[x]) a/\Own w0 m d mk' (a++Lr)/\mk.le mk') \/
  (e=.returned (.bool false)/\∃mk' a,Bx (b++[x]) a/\Own w0 m d mk' (a++Lr)/\mk.le mk')
theorem MF{α:Type}{P:Program}{g:Operand}{ps:Array Tmp}{assign body:Code}{Q:Exit->Act->World->Prop}{a:Act}{w:zW}{gf:Nat}{lb:Array Value}
(hg:a.eval g=.func (.func gf) #[] lb)(eg:∀args w,(callFunc gf args).run P w=.ok (.enter gf args) w){encs:α->Array Value}(hps:∀x,(encs x).size=ps.size)
{w0:zW}{m mk:Mem}{L0:List bA}(hO:Own w0 m w mk L0)(I:List α->List bA->Prop)(Ix:Code->List α->List bA->Prop)(S Sp:List α->Prop)(C:List α->α->Prop)(h0:I [] L0)
(hseq:∀(l:Nat) (W1:zW) (L1:List bA) (B Bx:List α->List bA->Prop),B [] L1->(∀pre Lt,B pre Lt->∃L,I pre L)->(∀pre Lt,Bx pre Lt->∃c L,Ix c pre L)->Own w0 m W1 mk L1->JB P l encs w0 m mk C B Bx ->
  Calls P gf (#[.func (.yield l) #[] #[]]++lb) W1 (OI w0 m mk B Bx S Sp))
(J:List α->α->Act->List bA->Prop)
(hassign:∀(l:Nat) (pre:List α) (x:α) (W:zW) (mk1:Mem) (Lt Lr:List bA) (K:Act->World->Prop),C pre x->I pre Lt->Own w0 m W mk1 (Lt++Lr)->mk.le mk1 ->
  (∀a1 W1 Lt1,J pre x a1 Lt1->Own w0 m W1 mk1 (Lt1++Lr)->K a1 W1) ->
  assign.wpIn (Fence.wide.inRound l) 0 P (Exit.then K (fun _ _ _=>False)) { tmps:=(ps.zip (encs x)).foldl (fun t (p,v)=>t.setIfInBounds p v) a.tmps,defers:=[] } W)
(hbody:∀(l:Nat) (pre:List α) (x:α) (a1:Act) (W:zW) (mk1:Mem) (Lt Lr:List bA),C pre x->J pre x a1 Lt->Own w0 m W mk1 (Lt++Lr)->mk.le mk1 ->
  body.wpIn (Fence.wide.inRound l) 0 P (Du w0 m mk1 Lr I Ix (pre++[x])) a1 W)
(hdone:∀(D:Nat) (xs:List α) (W:zW) (mk1:Mem) (L:List bA),S xs->I xs L->Own w0 m W mk1 (.gN D (.deferred (some []))::L)->mk.le mk1->Q .normal { a with defers:={ target:=.collected D,args:=#[] }::a.defers } W)
(hstop:∀(D:Nat) (c:Code) (xs:List α) (W:zW) (mk1:Mem) (L:List bA),Sp xs->Ix c xs L->Own w0 m W mk1 (.gN D (.deferred (some []))::L)->mk.le mk1 ->
  c.wpIn Fence.wide 0 P Q { a with defers:={ target:=.collected D,args:=#[] }::a.defers } W):
 (Code.rangeFunc g ps assign body).wpIn Fence.wide 0 P Q a w:=by
 refine wpIn_rangeFunc ?_;intro fn _;obtain⟨rec,hrec⟩:∃rec:LoopState->Option Code->Loop,rec=fun st pe=>{ state:=st,pending:=pe,fn,tmps:=a.tmps,params:=ps,assign,body,defers:=w.heap.size }:=⟨_,rfl⟩;have hO1:=(hO.BZ (.deferred (some []))).BZ (.loop (rec .ready none));have hsz:(w.alloc (.deferred (some []))).heap.size=w.heap.size+1:=by simp
 rw[hsz]at hO1;have hent:=run_enterLoop_outer (P:=P) (w:=w) fn a.tmps ps assign body;have hre:(Obj.loop { state:=.ready,pending:=none,fn,tmps:=a.tmps,params:=ps,assign,body,defers:=w.heap.size })=.loop (rec .ready none):=by rw[hrec]
 rw[hre]at hent;generalize (w.alloc (.deferred (some []))).alloc (.loop (rec .ready none))=W1 at*
 generalize w.heap.size=D at*
 have hround:JB P (D+1) encs w0 m mk C (fun pre Lt=>∃L,I pre L/\Lt=.gN (D+1) (.loop (rec .ready none))::.gN D (.deferred (some []))::L)
  (fun pre Lt=>∃c L,Ix c pre L/\Lt=.gN (D+1) (.loop (rec .done (some c)))::.gN D (.deferred (some []))::L):=by
  rintro pre x W mk1 Lt Lr hC ⟨L,hI,rfl⟩ hOw hle;have hl:=hOw.gN;have hy:=run_yield (P:=P) (args:=encs x) hl (by rw[hrec];exact hps x);rw[hrec]at hy;refine⟨fn,_,assign,body,hy,roundIn_of_wpIn trivial (hassign _ pre x W mk1 L _ _ hC hI (hOw.perm (tV _ _ L Lr)) hle ?_)⟩;intro a1 W1' Lt1 hJ hOa;have hOw:=hOa.perm (tV _ _ Lt1 Lr).symm;have hl:=hOw.gN;refine⟨_,run_beginRound hl (by rw[hrec]),?_⟩;have hO2:=hOw.jJ (o':=.loop { rec .ready none with state:=.busy }) (World.putObj_heap_same (yC.1 hl).1) (grownBy_putObj' _ _ _);have hO3:=hO2.perm (tV _ _ Lt1 Lr);refine wpIn_mono (hbody _ pre x a1 _ mk1 Lt1 _ hC hJ hO3 hle) ?_;have fin:∀(jump:Option Code) (W3:zW) (mk2:Mem) (L2:List bA),Own w0 m W3 mk2 (L2++(.gN (D+1) (.loop { rec .ready none with state:=.busy })::.gN D (.deferred (some []))::Lr)) ->
   ∃W4,(Instr.endRound (D+1) jump).run P W3=.ok (.bool jump.isNone) W4/\Own w0 m W4 mk2 (.gN (D+1) (.loop (rec (if jump.isNone then .ready else .done) jump))::.gN D (.deferred (some []))::(L2++Lr)):=by
   exact qgB
  rintro e a3 W3 hp
  cases e with
  |normal=>
   obtain⟨mk2,L2,hi,ho,hm⟩:=hp;obtain⟨W4,hr,ho4⟩:=fin none W3 mk2 L2 ho
   exact qdi
  |ret=>
   obtain⟨mk2,L2,hi,ho,hm⟩:=hp;obtain⟨W4,hr,ho4⟩:=fin (some .ret) W3 mk2 L2 ho
   exact qc7
  |exit id=>
   obtain⟨mk2,L2,hi,ho,hm⟩:=hp;obtain⟨W4,hr,ho4⟩:=fin (some (.exit id)) W3 mk2 L2 ho
   exact qcM
  |goto t=>
   obtain⟨mk2,L2,hi,ho,hm⟩:=hp;obtain⟨W4,hr,ho4⟩:=fin (some (.goto t)) W3 mk2 L2 ho
   exact qcR
  |panic ch=>exact hp.elim
  |outgrown=>exact hp.elim
 refine⟨D+1,[{ target:=.collected D,args:=#[] }],W1,{ target:=.fn (.func gf) lb,args:=#[.func (.yield (D+1)) #[] #[]] },W1,gf,
  #[.func (.yield (D+1)) #[] #[]]++lb,W1,hent,?_,fun _ _=>trivial,?_,fun h=>absurd h (by simp[Fence.wide]),?_⟩
 .simp only[resolve,hg];simp[go_sem]
 .simp[invoke,go_sem,eg]
 .refine callsIn_wide.2 ((hseq (D+1) W1 _ _ _ ⟨L0,h0,rfl⟩ (fun _ _ h=>h.elim fun L hL=>⟨L,hL.1⟩) (fun _ _ h=>h.elim fun c h=>h.elim fun L hL=>⟨c,L,hL.1⟩) hO1 hround).mono ?_);rintro e W3 ⟨⟨v,rfl⟩,hend⟩;rcases hend with⟨xs,mk2,Lt,hS,⟨L,hI,rfl⟩,ho,hm⟩|⟨xs,mk2,Lt,hS,⟨c,L,hI,rfl⟩,ho,hm⟩
  .exact qgG
  .exact qgF
structure uB (P:Program) (k e:TypeId) (o:Obj) (n sz:Nat) (f:Lit->Option Int):Prop where
 ex:∃D:DataW Unit,(∀(w:zW) b,w.heap[b]?=some o->w.ownsMap P k (plainElem P e) b n D)/\Maps.size D=sz/\Maps.Tidy D/\(∀kl,Maps.has D kl=(f kl).isSome) /\
  ∀kl,D.atKey kl (.lit (.int .i64 0))=.lit (.int .i64 ((f kl).getD 0))
open Classical in
noncomputable def J6(f:Lit->Option Int)(a:Lit)(x:Int):Lit->Option Int:=fun k=>if k=a then some x else f k
theorem Ao(f:Lit->Option Int)(a:Lit)(x:Int):J6 f a x a=some x:=by simp[J6]
theorem uX(f:Lit->Option Int){a k:Lit}(x:Int)(h:k≠a):J6 f a x k=f k:=by simp[J6,h]
section
variable {P:Program} {k e:TypeId} {o:Obj} {n sz:Nat} {f:Lit->Option Int}
theorem NU{w:zW}{b:Nat}{D:DataW Unit}{R:Value->Option (DataW Unit×List MemPlace)}(h:w.ownsMap P k R b n D):∃o,w.heap[b]?=some o/\∀(w:zW) b,w.heap[b]?=some o->w.ownsMap P k R b n D:=by
 exact qb9
theorem uB.made(P:Program)(k e:TypeId):uB P k e (.map #[] 0) 0 0 (fun _=>none):=by
 refine⟨.map [],fun w b h=>?_,rfl,Maps.tidy_empty,fun d=>rfl,fun d=>?_⟩
 .obtain⟨es,a,c,F,f,g⟩:=World.ownsMap_made (H:=Unit) w P k (plainElem P e);have:(w.alloc (.map #[] 0)).heap[w.heap.size]?=some (.map #[] 0):=show(w.heap.push _)[w.heap.size]?=_ by simp
  rw[this]at c;cases c;exact⟨_,_,h,F,f,g⟩
 .exact Maps.atKey_of_not_has rfl _
variable {w:zW} {t:TypeId} {ops:Array Oper} {rest:List Oper} {op:Oper} {a:Act} {Q:Exit->Act->World->Prop} {b:Nat}
theorem uB.Ag(h:uB P k e o n sz f)(K:Maps.Keyed P k)(ht:P.underlying t=some (.map k e))(p:P.underlying e=some (.int .i64))(l:∀w,(zeroValue e).run P w=.ok (.int .i64 0) w)(q:w.heap[b]?=some o)
{a:zV}{g:Lit}(d:keyOf P k a=some g):(Instr.lookup t (.map (some b)) a false).run P w=.ok (.int .i64 ((f g).getD 0)) w:=by
 obtain⟨D,r,-,-,-,j⟩:=h.ex;obtain⟨c,m,i,-⟩:=(r w b q).lookup_int K ht p (l w) d;rw[j g]at i;simp only[DataW.lit.injEq,Lit.int.injEq,true_and]at i;rw[m,i]
theorem uB.mono(h:uB P k e o n sz f){a:Nat}(hn:n<=a):uB P k e o a sz f:=by
 exact qcD
theorem uB.gZ(h:uB P k e o n sz f)(K:Maps.Keyed P k)(ht:P.underlying t=some (.map k e))(l:P.underlying e=some (.int .i64))(m:∀w,(zeroValue e).run P w=.ok (.int .i64 0) w)(s:w.heap[b]?=some o)
{g:zV}{d:Lit}(i:keyOf P k g=some d):(Instr.lookup t (.map (some b)) g true).run P w=.ok (.tuple #[.int .i64 ((f d).getD 0),.bool (f d).isSome]) w:=by
 obtain⟨D,u,-,-,r,j⟩:=h.ex;obtain⟨v,x,q,p⟩:=(u w b s).look_ok K ht (m w) (zd:=.lit (.int .i64 0)) (zp:=[]) (plainElem_int l zD) i;obtain⟨c,rfl,a,-⟩:=plainElem_int_inv l p;have a:=congrArg Prod.fst a;simp only at a;rw[j d]at a;simp only[DataW.lit.injEq,Lit.int.injEq,true_and]at a;rw[q,r d,a]
theorem uB.Vp(h:uB P k e o n sz f)(ht:P.underlying t=some (.map k e))(d:w.heap[b]?=some o)(a:TypeId):(Builtin.len_ #[t] a #[.map (some b)]).run P w=.ok (.j sz) w:=by
 obtain⟨D,g,c,-⟩:=h.ex;rw[(g w b d).len ht a,c]
theorem uB.Af(h:uB P k e o n sz f)(K:Maps.Keyed P k)(ht:P.underlying t=some (.map k e))(B:P.underlying e=some (.int .i64))(C:w.heap[b]?=some o)(A:n<maxLen)
{j:zV}{g:Lit}(d:keyOf P k j=some g){x:Int}(u:(Lit.int .i64 x).wf=true):
 ∃w' o',(Instr.mapUpdate t (.map (some b)) j (.int .i64 x)).run P w=.ok () w'/\w'.heap[b]?=some o'/\uB P k e o' (n+1) (if(f g).isSome then sz else sz+1) (J6 f g x)/\w.grownBy w' (some b):=by
 obtain⟨D,E,v,a,s,q⟩:=h.ex;have i:WideAt.IsKeyLit g:=K.key d;obtain⟨w',y,z,p⟩:=(E w b C).update K ht A d (plainElem_int B u);obtain⟨o',m,r⟩:=NU z;refine⟨w',o',y,m,⟨_,r,?_,a.put i _,fun l=>?_,fun l=>?_⟩,p⟩
 .rw[Maps.size_put a,s g,v]
 .by_cases c:l=g
  .subst c;rw[Maps.has_put_same a.isMap i,Ao];rfl
  .rw[Maps.has_put_other c,uX f x c,s]
 .by_cases c:l=g
  .subst c;rw[Maps.atKey_put_same a.isMap i,Ao];rfl
  .rw[Maps.atKey_put_other c,uX f x c,q]
end
end Cl
