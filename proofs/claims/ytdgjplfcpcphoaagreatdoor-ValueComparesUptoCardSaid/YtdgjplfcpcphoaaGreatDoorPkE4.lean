/- Lemmas for the proofs of chapter 11. -/
import Derived.Shelf.SlSortCmp.WholeK
import Derived.RangeFuncNested
import Derived.RangeFuncBound
import Derived.OwnWalkIn
import Derived.TacticsInMore
import Derived.LoopNIn
import Derived.LoopIn
import Derived.Test.YtdgjplfcpcphoaaGreatDoorPkE3
set_option maxRecDepth 100000
set_option maxHeartbeats 16000000
namespace Cl
open Go
section
variable {P:Program} {ops:Array Oper} {Q:Exit->Act->World->Prop} {S:World->Prop} {last:Nat}
def nI(P:Program)(ops:Array Oper)(Q:Exit->Act->World->Prop)(S:World->Prop)(last:Nat):Nat->Array Bool->Act->World->Prop
 |0,listed,a,w=>Region.ready .any ops listed=[]/\Q .normal a w
 |fuel+1,listed,a,w=>
  (Region.ready .any ops listed=[]->Q .normal a w) /\
  ∀i∈Region.ready .any ops listed,wpOp P ops Q i (fun b w'=>(i≠last->S w')/\nI P ops Q S last fuel (listed.setIfInBounds i true) b w') a w
theorem Ff:∀(fuel:Nat) (b:Array Bool) (a:Act) (w:zW),nI P ops Q S last fuel b a w->wpAny P .any ops Q fuel b a w
 |0,_,_,_,h=>h
 |fuel+1,_,_,_,h=>⟨h.1,fun i hi=>wpOp_mono (fun d w' c=>Ff fuel _ d w' c.2) (h.2 i hi)⟩
def waits(ops:Array Oper)(last i:Nat):Bool:=((ops[last]?).map fun o=>o.after.any fun e=>Region.binds .any e&&e.on==i).getD false
theorem wo{a:Array Bool}{i:Nat}(f:waits ops last i=true)(g:i∈Region.ready .any ops a):last ∉ Region.ready .any ops a:=by
 intro h;obtain⟨-,l,d,b⟩:=mem_ready.1 h;simp only[waits,d,vH,xA,Array.any_eq_true',xG,beq_iff_eq]at f;obtain⟨e,j,k,c⟩:=f;have h1:=b e j k;have h0:=(mem_ready.1 g).1;rw[c]at h1;rcases Nat.lt_or_ge i a.size with h'|h'
 .exact qci
 .exact qcp
theorem KO{i:Nat}{p:Oper}{v:zV}(hi:ops[i]?=some p)(l:∀(j:Nat) (o:Oper) cs b,ops[j]?=some o->o.op≠.select cs b)
(G:∀c a w,Q (.panic c) (a.put p.dst v) w->Q (.panic c) a w)(r:waits ops last i=true):
 ∀(fuel:Nat) (d:Array Bool) (a:Act) (w:zW),
  (∀j n,ops[j]?=some n->j≠i->d.getD j true=false->(∀e∈n.after,Region.binds .any e=true->e.on≠i)->p.apart ops n=true) ->
  i∈Region.ready .any ops d->YieldsIf P ops S p v a->S w ->
  nI P ops Q S last fuel (d.setIfInBounds i true) (a.put p.dst v) w->nI P ops Q S last (fuel+1) d a w:=by
 intro fuel
 induction fuel with
 |zero=>
  intro d a w _ hr z y H;refine⟨fun h=>qen,fun j u=>?_⟩;by_cases hji:j=i
  .subst hji;exact z.wpOp hi y ⟨fun _=>y,H⟩
  .have:=ready_mono u hji;rw[H.1]at this
   cases this
 |succ fuel ih=>
  intro d a w f hr z y H;refine⟨fun h=>qen,fun j u=>?_⟩;by_cases hji:j=i
  .subst hji;exact z.wpOp hi y ⟨fun _=>y,H⟩
  .have h1:=H.2 j (ready_mono u hji);have t:j≠last:=fun e=>wo r hr (e ▸ u);obtain⟨m,n,q,x⟩:=mem_ready.1 u;have s:∀e∈n.after,Region.binds .any e=true->e.on≠i:=fun e E F C=>by
    have h1:=x e E F;have h0:=(mem_ready.1 hr).1;rw[C]at h1;rcases Nat.lt_or_ge i d.size with h'|h'
    .exact qci
    .exact qcp
   have I:=wpOp_putIf q (f j n q hji m s) (fun cs b=>l i p cs b hi) (fun cs b=>l j n cs b q) G z h1;have g:∀k ok,ops[k]?=some ok->k≠i->(d.setIfInBounds j true).getD k true=false ->
    (∀e∈ok.after,Region.binds .any e=true->e.on≠i)->p.apart ops ok=true:=fun k ok D B hun A=>by
    refine f k ok D B ?_ A;by_cases hjk:j=k
    .subst hjk;exact m
    .exact qcW
   refine wpOp_mono (fun J w' h3=>⟨fun _=>h3.2.1 t,ih (d.setIfInBounds j true) J w' g (ready_mono hr (Ne.symm hji)) h3.1 (h3.2.1 t) ?_⟩) I;exact qcu
theorem aI(i:Nat){d:Oper}{v:zV}{fuel:Nat}{b:Array Bool}{a:Act}{w:zW}(hi:ops[i]?=some d)
(e:(Region.noSelect ops&&Region.free .any ops b i&&(Region.ready .any ops b).contains i&&waits ops last i)=true)
(j:∀c a w,Q (.panic c) (a.put d.dst v) w->Q (.panic c) a w)(g:S w)(f:YieldsIf P ops S d v a)
(h:nI P ops Q S last fuel (b.setIfInBounds i true) (a.put d.dst v) w):nI P ops Q S last (fuel+1) b a w:=by
 simp only[xG]at e;obtain⟨⟨⟨m,l⟩,h3⟩,k⟩:=e;exact KO hi (Region.noSelect_spec m) j k fuel b a w (Region.free_spec hi l) qeO f g h
theorem aV(i:Nat){fuel:Nat}{b:Array Bool}{a:Act}{w:zW}(c:(Region.ready .any ops b==[i])=true)
(h:wpOp P ops Q i (fun d w'=>(i≠last->S w')/\nI P ops Q S last fuel (b.setIfInBounds i true) d w') a w):nI P ops Q S last (fuel+1) b a w:=by
 have hr':Region.ready .any ops b=[i]:=by simpa using c
 exact qa2
theorem sP(i j:Nat){fuel:Nat}{b:Array Bool}{a:Act}{w:zW}(g:(Region.ready .any ops b==[i,j])=true)
(h:wpOp P ops Q i (fun e w'=>(i≠last->S w')/\nI P ops Q S last fuel (b.setIfInBounds i true) e w') a w)
(l:wpOp P ops Q j (fun e w'=>(j≠last->S w')/\nI P ops Q S last fuel (b.setIfInBounds j true) e w') a w):nI P ops Q S last (fuel+1) b a w:=by
 have c:Region.ready .any ops b=[i,j]:=by simpa using g
 refine⟨fun f=>(by rw[c]at f;cases f),fun k d=>?_⟩;rw[c]at d;simp only[yA,List.not_mem_nil,or_false]at d;rcases d with rfl|rfl
 .exact h
 .exact l
theorem gG{b:Array Bool}{a:Act}{w:zW}(d:(Region.ready .any ops b==[])=true)(h:Q .normal a w):∀fuel,nI P ops Q S last fuel b a w:=by
 have c:Region.ready .any ops b=[]:=by simpa using d
 intro fuel
 cases fuel with
 |zero=>exact⟨c,h⟩
 |succ n=>exact⟨fun _=>h,by rw[c];simp⟩
theorem jC{id:Nat}{a:Act}{w:zW}(S:World->Prop)(last:Nat)(b:P.follows .mixedOrders=true)
(h:nI P ops Q S last ops.size (Array.replicate ops.size false) a w.drew):(Code.region id ops true).wp P Q a w:=
 wp_region_any b (Ff _ _ _ _ h)
theorem jb{i last:Nat}{A B:Prop}(h:A)(k:A->B):(i≠last->A)/\B:=⟨fun _=>h,k h⟩
theorem lD{i last:Nat}{A B:Prop}(e:i=last)(k:B):(i≠last->A)/\B:=⟨fun h=>absurd e h,k⟩
theorem aJ{i:Nat}{o:Oper}{K:Act->World->Prop}{a:Act}{w:zW}(hi:ops[i]?=some o)(b:o.guard=none)(h:o.wp P a w K Q):wpOp P ops Q i K a w:=by
 unfold wpOp;rw[hi];simp only[Region.wanted,b,if_true];exact .inl h
theorem aB{o:Oper}{v:zV}{a:Act}(b:Region.wanted o (yielded ops a.tmps)=true)(h:∀w,S w->(execOp a.eval o).run P w=.ok (.value v) w):YieldsIf P ops S o v a:=.inl ⟨b,h⟩
theorem aN{o:Oper}{K:Act->World->Prop}{a:Act}{w w':zW}{v:zV}(b:(execOp a.eval o).run P w=.ok (.value v) w')(h:K (a.put o.dst v) w'):o.wp P a w K Q:=by
 unfold Oper.wp;rw[b];exact h
theorem dX{o:Oper}{K:Act->World->Prop}{a:Act}{w w':zW}{f:FuncId}{args:Array Value}(d:(execOp a.eval o).run P w=.ok (.enter f args) w'){X:Ending->World->Prop}
(i:Calls P f args w' X)(h:∀e b,X e b->∃v,e=.returned v/\K (a.put o.dst v) b):o.wp P a w K Q:=by
 unfold Oper.wp;rw[d];refine i.mono fun e b c=>?_;obtain⟨v,rfl,g⟩:=h e b c;exact g
theorem cO{o:Oper}{K:Act->World->Prop}{a:Act}{w w':zW}(b:(execOp a.eval o).run P w=.ok .skip w')(h:K (a.put o.dst undef) w'):o.wp P a w K Q:=by
 unfold Oper.wp;rw[b];exact h
end
section
variable {P:Program} {ops:Array Oper} {Q:Exit->Act->World->Prop} {D:Nat->World->Prop}
def lG(P:Program)(ops:Array Oper)(Q:Exit->Act->World->Prop)(D:Nat->World->Prop):Nat->Array Bool->Act->World->Prop
 |0,listed,a,w=>Region.ready .any ops listed=[]/\Q .normal a w
 |fuel+1,listed,a,w=>
  (Region.ready .any ops listed=[]->Q .normal a w) /\
  ∀i∈Region.ready .any ops listed,wpOp P ops Q i (fun b w'=>(w'=w\/D i w')/\lG P ops Q D fuel (listed.setIfInBounds i true) b w') a w
theorem Fg:∀(fuel:Nat) (b:Array Bool) (a:Act) (w:zW),lG P ops Q D fuel b a w->wpAny P .any ops Q fuel b a w
 |0,_,_,_,h=>h
 |fuel+1,_,_,_,h=>⟨h.1,fun i hi=>wpOp_mono (fun d w' c=>Fg fuel _ d w' c.2) (h.2 i hi)⟩
theorem NU{a:Array Bool}{i j:Nat}(b:i∈Region.ready .any ops a)(c:j∈Region.ready .any ops a):waits ops j i=false:=by
 cases h:waits ops j i with
 |false=>rfl
 |true=>exact absurd c (wo h b)
theorem KQ{i:Nat}{p:Oper}{v:zV}(hi:ops[i]?=some p)(l:∀(j:Nat) (o:Oper) cs b,ops[j]?=some o->o.op≠.select cs b)
(F:∀c a w,Q (.panic c) (a.put p.dst v) w->Q (.panic c) a w){S:World->Prop}(r:∀j w',waits ops j i=false->D j w'->S w'):
 ∀(fuel:Nat) (d:Array Bool) (a:Act) (w:zW),
  (∀j n,ops[j]?=some n->j≠i->d.getD j true=false->(∀e∈n.after,Region.binds .any e=true->e.on≠i)->p.apart ops n=true) ->
  i∈Region.ready .any ops d->YieldsIf P ops S p v a->S w ->
  lG P ops Q D fuel (d.setIfInBounds i true) (a.put p.dst v) w->lG P ops Q D (fuel+1) d a w:=by
 intro fuel
 induction fuel with
 |zero=>
  intro d a w _ hr hy hS H;refine⟨fun h=>qen,fun j t=>?_⟩;by_cases hji:j=i
  .exact qbR
  .have:=ready_mono t hji;rw[H.1]at this
   cases this
 |succ fuel ih=>
  intro d a w f hr hy hS H;refine⟨fun h=>qen,fun j t=>?_⟩;by_cases hji:j=i
  .exact qbR
  .have h1:=H.2 j (ready_mono t hji);have z:=fun w'=>r j w' (NU hr t);obtain⟨m,n,q,u⟩:=mem_ready.1 t;have s:∀e∈n.after,Region.binds .any e=true->e.on≠i:=fun e C E A=>by
    have h1:=u e C E;have h0:=(mem_ready.1 hr).1;rw[A]at h1;rcases Nat.lt_or_ge i d.size with h'|h'
    .exact qci
    .exact qcp
   have G:=wpOp_putIf q (f j n q hji m s) (fun cs b=>l i p cs b hi) (fun cs b=>l j n cs b q) F hy h1;have g:∀k ok,ops[k]?=some ok->k≠i->(d.setIfInBounds j true).getD k true=false ->
    (∀e∈ok.after,Region.binds .any e=true->e.on≠i)->p.apart ops ok=true:=fun k ok B y hun x=>by
    refine f k ok B y ?_ x;by_cases hjk:j=k
    .subst hjk;exact m
    .exact qcW
   refine wpOp_mono (fun I w' h3=>⟨h3.2.1,ih (d.setIfInBounds j true) I w' g (ready_mono hr (Ne.symm hji)) h3.1 (h3.2.1.elim (fun e=>by rw[e];exact hS) (z w')) ?_⟩) G;exact qcu
theorem rP{j i:Nat}(h:waits ops j i=true)(k:waits ops j i=false):False:=by rw[h]at k;cases k
theorem ow(i:Nat)(S:World->Prop){e:Oper}{v:zV}{fuel:Nat}{b:Array Bool}{a:Act}{w:zW}(hi:ops[i]?=some e)
(f:(Region.noSelect ops&&Region.free .any ops b i&&(Region.ready .any ops b).contains i)=true)
(l:∀c a w,Q (.panic c) (a.put e.dst v) w->Q (.panic c) a w)(d:∀j w',waits ops j i=false->D j w'->S w')(k:S w)(g:YieldsIf P ops S e v a)
(h:lG P ops Q D fuel (b.setIfInBounds i true) (a.put e.dst v) w):lG P ops Q D (fuel+1) b a w:=by
 simp only[xG]at f;obtain⟨⟨n,m⟩,h3⟩:=f;exact KQ hi (Region.noSelect_spec n) l d fuel b a w (Region.free_spec hi m) qeO g k h
theorem bQ(i:Nat){fuel:Nat}{b:Array Bool}{a:Act}{w:zW}(c:(Region.ready .any ops b==[i])=true)
(h:wpOp P ops Q i (fun d w'=>(w'=w\/D i w')/\lG P ops Q D fuel (b.setIfInBounds i true) d w') a w):lG P ops Q D (fuel+1) b a w:=by
 have hr':Region.ready .any ops b=[i]:=by simpa using c
 exact qa2
theorem jk{b:Array Bool}{a:Act}{w:zW}(d:(Region.ready .any ops b==[])=true)(h:Q .normal a w):∀fuel,lG P ops Q D fuel b a w:=by
 have c:Region.ready .any ops b=[]:=by simpa using d
 intro fuel
 cases fuel with
 |zero=>exact⟨c,h⟩
 |succ n=>exact⟨fun _=>h,by rw[c];simp⟩
theorem oq{id:Nat}{a:Act}{w:zW}(D:Nat->World->Prop)(b:P.follows .mixedOrders=true)
(h:lG P ops Q D ops.size (Array.replicate ops.size false) a w.drew):(Code.region id ops true).wp P Q a w:=
 wp_region_any b (Fg _ _ _ _ h)
theorem cK(i:Nat){S:World->Prop}{d:Oper}{v:zV}{fuel:Nat}{b:Array Bool}{a:Act}{w:zW}(hi:ops[i]?=some d)
(f:(Region.noSelect ops&&Region.free .any ops b i&&(Region.ready .any ops b).contains i)=true)
(j:∀c a w,Q (.panic c) (a.put d.dst v) w->Q (.panic c) a w)(g:S w)(e:YieldsIf P ops S d v a)
(h:lG P ops Q (fun _ w=>S w) fuel (b.setIfInBounds i true) (a.put d.dst v) w):lG P ops Q (fun _ w=>S w) (fuel+1) b a w:=
 ow i S hi f j qfc g e h
end
section
variable {P:Program} {ops:Array Oper} {Q:Exit->Act->World->Prop} {D:Nat->World->Prop}
def jJ(ops:Array Oper):Nat->Nat->Nat->Bool
 |0,_,_=>false
 |n+1,j,i=>((ops[j]?).map fun o=>o.after.any fun e=>Region.binds .any e&&(e.on==i||jJ ops n e.on i)).getD false
def Ty(ops:Array Oper)(a:Array Bool):Bool:=
 (List.range ops.size).all fun k => !(a.getD k true)||((ops[k]?).map fun o=>o.after.all fun e => !(Region.binds .any e)||a.getD e.on true).getD true
theorem Mw{a:Array Bool}(h:Ty ops a=true){k:Nat}{ok:Oper}(d:ops[k]?=some ok)(g:a.getD k true=true):∀e∈ok.after,Region.binds .any e=true->a.getD e.on true=true:=by
 intro e i j;have b:=(yC.1 d).1;have c:=vD.1 h k (yQ.2 b);rw[g,d]at c;simp only[Bool.not_true,Bool.false_or,vH,xA]at c;have f:=(Array.all_eq_true_iff_forall_mem.1 c) e i;rw[j]at f;simpa using f
theorem KU{a:Array Bool}(g:∀k ok,ops[k]?=some ok->a.getD k true=true->∀e∈ok.after,Region.binds .any e=true->a.getD e.on true=true){i:Nat}:
 ∀(n j:Nat),a.getD j true=true->jJ ops n j i=true->a.getD i true=true:=by
 intro n
 induction n with
 |zero=>intro j _ h;cases h
 |succ n ih=>
  intro j d h;unfold jJ at h
  cases ho:ops[j]? with
  |none=>rw[ho]at h;cases h
  |some o=>
   rw[ho]at h;simp only[vH,xA,Array.any_eq_true',xG,Bool.or_eq_true,beq_iff_eq]at h;obtain⟨e,f,l,b⟩:=h;have c:=g j o ho d e f l;rcases b with b|b
   .rw[<-b];exact c
   .exact ih e.on c b
theorem NT{a:Array Bool}(s:∀k ok,ops[k]?=some ok->a.getD k true=true->∀e∈ok.after,Region.binds .any e=true->a.getD e.on true=true){i j n:Nat}(p:i∈Region.ready .any ops a)(q:j∈Region.ready .any ops a):jJ ops n j i=false:=by
 cases h:jJ ops n j i with
 |false=>rfl
 |true=>
  obtain⟨b,-⟩:=mem_ready.1 p;obtain⟨-,u,l,f⟩:=mem_ready.1 q;have d:¬a.getD i true=true:=by
   rcases Nat.lt_or_ge i a.size with c|c
   .simp[c]at b⊢;exact b
   .simp[Array.getElem?_eq_none c]at b
  cases n with
  |zero=>cases h
  |succ n=>
   unfold jJ at h;rw[l]at h;simp only[vH,xA,Array.any_eq_true',xG,Bool.or_eq_true,beq_iff_eq]at h;obtain⟨e,r,t,g⟩:=h;have o:=f e r t;have m:a.getD e.on true=true:=by
    rcases Nat.lt_or_ge e.on a.size with c|c
    .simp[c]at o⊢;exact o
    .simp[Array.getElem?_eq_none c]
   rcases g with g|g
   .rw[g]at m;exact absurd m d
   .exact absurd (KU s n e.on m g) d
theorem IR{n i:Nat}{s:Oper}{v:zV}(hi:ops[i]?=some s)(m:∀(j:Nat) (o:Oper) cs b,ops[j]?=some o->o.op≠.select cs b)
(T:∀c a w,Q (.panic c) (a.put s.dst v) w->Q (.panic c) a w){S:World->Prop}(t:∀j w',jJ ops n j i=false->D j w'->S w'):
 ∀(fuel:Nat) (d:Array Bool) (a:Act) (w:zW),
  (∀k ok,ops[k]?=some ok->d.getD k true=true->∀e∈ok.after,Region.binds .any e=true->d.getD e.on true=true) ->
  (∀j r,ops[j]?=some r->j≠i->d.getD j true=false->(∀e∈r.after,Region.binds .any e=true->e.on≠i)->s.apart ops r=true) ->
  i∈Region.ready .any ops d->YieldsIf P ops S s v a->S w ->
  lG P ops Q D fuel (d.setIfInBounds i true) (a.put s.dst v) w->lG P ops Q D (fuel+1) d a w:=by
 intro fuel
 induction fuel with
 |zero=>
  intro d a w _ _ hr hy hS H;refine⟨fun h=>qen,fun j A=>?_⟩;by_cases hji:j=i
  .exact qbR
  .have:=ready_mono A hji;rw[H.1]at this
   cases this
 |succ fuel ih=>
  intro d a w C f hr hy hS H;refine⟨fun h=>qen,fun j A=>?_⟩;by_cases hji:j=i
  .exact qbR
  .have h1:=H.2 j (ready_mono A hji);have K:=fun w'=>t j w' (NT C hr A);obtain⟨p,r,g,q⟩:=mem_ready.1 A;have B:∀k ok,ops[k]?=some ok->(d.setIfInBounds j true).getD k true=true->∀e∈ok.after,Region.binds .any e=true->(d.setIfInBounds j true).getD e.on true=true:=by
    have M:∀x,d.getD x true=true->(d.setIfInBounds j true).getD x true=true:=fun x O=>by
     by_cases e:j=x
     .subst e;by_cases R:j<d.size
      .simp[R]
      .simp
     .rw[getD_set_ne true e];exact O
    intro k ok z N e E F;by_cases y:j=k
    .subst y;rw[g]at z;cases z;refine M _ ?_;have G:=q e E F;rcases Nat.lt_or_ge e.on d.size with h'|h'
     .simp[h']at G⊢;exact G
     .simp[Array.getElem?_eq_none h']
    .rw[getD_set_ne true y]at N;exact M _ (C k ok z N e E F)
   have u:∀e∈r.after,Region.binds .any e=true->e.on≠i:=fun e E F L=>by
    have h1:=q e E F;have h0:=(mem_ready.1 hr).1;rw[L]at h1;rcases Nat.lt_or_ge i d.size with h'|h'
    .exact qci
    .exact qcp
   have G:=wpOp_putIf g (f j r g hji p u) (fun cs b=>m i s cs b hi) (fun cs b=>m j r cs b g) T hy h1;have l:∀k ok,ops[k]?=some ok->k≠i->(d.setIfInBounds j true).getD k true=false ->
    (∀e∈ok.after,Region.binds .any e=true->e.on≠i)->s.apart ops ok=true:=fun k ok z J hun I=>by
    refine f k ok z J ?_ I;by_cases hjk:j=k
    .subst hjk;exact p
    .exact qcW
   refine wpOp_mono (fun U w' h3=>⟨h3.2.1,ih (d.setIfInBounds j true) U w' B l (ready_mono hr (Ne.symm hji)) h3.1 (h3.2.1.elim (fun e=>by rw[e];exact hS) (K w')) ?_⟩) G;exact qcu
theorem bD(i n:Nat)(S:World->Prop){e:Oper}{v:zV}{fuel:Nat}{b:Array Bool}{a:Act}{w:zW}(hi:ops[i]?=some e)
(f:(Region.noSelect ops&&Region.free .any ops b i&&(Region.ready .any ops b).contains i&&Ty ops b)=true)
(p:∀c a w,Q (.panic c) (a.put e.dst v) w->Q (.panic c) a w)(d:∀j w',jJ ops n j i=false->D j w'->S w')(o:S w)(g:YieldsIf P ops S e v a)
(h:lG P ops Q D fuel (b.setIfInBounds i true) (a.put e.dst v) w):lG P ops Q D (fuel+1) b a w:=by
 simp only[xG]at f;obtain⟨⟨⟨s,r⟩,h3⟩,q⟩:=f;exact IR hi (Region.noSelect_spec s) p d fuel b a w (fun k ok m l=>Mw q m l) (Region.free_spec hi r) qeO g o h
theorem aL{n j i:Nat}(h:jJ ops n j i=true)(k:jJ ops n j i=false):False:=by rw[h]at k;cases k
theorem gF{i:Nat}{o:Oper}{K:Act->World->Prop}{a:Act}{w:zW}(hi:ops[i]?=some o)(b:Region.wanted o (yielded ops a.tmps)=true)(h:o.wp P a w K Q):wpOp P ops Q i K a w:=by
 unfold wpOp;rw[hi];simp only[b,if_true];exact .inl h
theorem KN{i:Nat}{o:Oper}{K:Act->World->Prop}{a:Act}{w:zW}(hi:ops[i]?=some o)(b:Region.wanted o (yielded ops a.tmps)=false)(h:K (a.put o.dst undef) w):wpOp P ops Q i K a w:=by
 unfold wpOp;rw[hi];simp only[b];simpa using h
end
end Cl
namespace Cl
open Go Go.RowKit
abbrev oV:=Nat->Nat×Nat
def oV.put(a:oV)(i:Nat)(x:Nat×Nat):oV:=fun j=>if j=i then x else a j
theorem oV.rW(a:oV)(i:Nat)(x:Nat×Nat):a.put i x i=x:=by simp[oV.put]
theorem oV.tQ(a:oV){i j:Nat}(x:Nat×Nat)(h:j≠i):a.put i x j=a j:=by simp[oV.put,h]
structure aD where
 deps:List Nat
 holds:Value->oV->World->Prop
 mono:∀(v:zV) (win win':oV) (w w':zW),(∀d∈deps,win d=win' d/\(win d).2<=w.heap.size)->zB w w'->holds v win w->holds v win' w'
def aD.any:aD:=⟨[],fun _ _ _=>True,fun _ _ _ _ _ _ _ _=>trivial⟩
def aD.is(p:Value->Prop):aD:=⟨[],fun v _ _=>p v,fun _ _ _ _ _ _ _ h=>h⟩
def aD.obj(j:Nat)(t:TypeId)(arr:Array Value):aD:=⟨[j],fun v a w=>v=.pointer (some ⟨(a j).1,0,none⟩)/\(a j).2=(a j).1+1/\bH w (a j).1 t arr,fun v a win' w w' hd hb ⟨d,c,b⟩=>by
 obtain⟨e,f⟩:=hd j (zZ.2 rfl);rw[<-e];exact⟨d,c,bH.az b hb b.lt⟩⟩
def aD.sl(j:Nat)(t:TypeId)(arr:Array Value)(n:Nat):aD:=⟨[j],fun v a w=>v=.slice (some ⟨(a j).1,0,none⟩) n n/\(a j).2=(a j).1+1/\bH w (a j).1 t arr,fun v a win' w w' hd hb ⟨d,c,b⟩=>by
 obtain⟨e,f⟩:=hd j (zZ.2 rfl);rw[<-e];exact⟨d,c,bH.az b hb b.lt⟩⟩
def Mem.gU(m:Mem)(w:zW)(a:oV)(ds:List Nat):Mem:=fun k=>if ds.any (fun d=>decide ((a d).1<=k/\k<(a d).2))=true then w.heap[k]? else m k
theorem Mem_wins_eq{m:Mem}{w w':zW}{b a:oV}{ds:List Nat}(g:∀d∈ds,b d=a d/\(b d).2<=w.heap.size)(i:zB w w'):m.gU w b ds=m.gU w' a ds:=by
 funext k;unfold Mem.gU;have e:(ds.any fun d=>decide ((b d).1<=k/\k<(b d).2))=ds.any fun d=>decide ((a d).1<=k/\k<(a d).2):=by
  rw[Bool.eq_iff_iff,List.any_eq_true,List.any_eq_true];constructor
  .rintro⟨d,c,f⟩;exact⟨d,c,by rw[<-(g d c).1];exact f⟩
  .rintro⟨d,c,f⟩;exact⟨d,c,by rw[(g d c).1];exact f⟩
 rw[<-e]
 split
 .rename_i h;obtain⟨d,c,f⟩:=List.any_eq_true.1 h;have:=(g d c).2;simp only[decide_eq_true_eq]at f;exact(i.block k zo).symm
 .rfl
theorem Mem_wins_inn{m:Mem}{w:zW}(h:m.ay w)(b:oV)(ds:List Nat):(m.gU w b ds).ay w:=⟨fun k o a=>by
 unfold Mem.gU at a
 split at a
 .exact a
 .exact h.get k o a⟩
theorem Mem_le_wins{m:Mem}{w:zW}(h:m.ay w)(a:oV)(ds:List Nat):m.le (m.gU w a ds):=⟨fun k o b=>by
 unfold Mem.gU
 split
 .exact h.get k o b
 .exact b⟩
theorem Mem_wins_le{m:Mem}{w:zW}(h:m.ay w)(a:oV){ds es:List Nat}(f:∀d∈ds,d∈es):(m.gU w a ds).le (m.gU w a es):=⟨fun k o b=>by
 have hi:=(Mem_wins_inn h a ds).get k o b;unfold Mem.gU at b⊢
 split
 .exact hi
 .rename_i c
  split at b
  .rename_i e;obtain⟨d,i,g⟩:=List.any_eq_true.1 e;exact absurd (List.any_eq_true.2 ⟨d,f d i,g⟩) c
  .exact b⟩
theorem Mem_wins_none{m:Mem}{w:zW}{a:oV}{ds:List Nat}{k:Nat}(h:m k=none)(c:∀d∈ds,¬((a d).1<=k/\k<(a d).2)):m.gU w a ds k=none:=by
 unfold Mem.gU;rw[zJ]
 .exact h
 .intro b;obtain⟨d,e,h2⟩:=List.any_eq_true.1 b;exact c d e qeP
theorem Mem_grow_wins{m:Mem}{w w':zW}(h:m.ay w)(a:oV){ds:List Nat}{i:Nat}(l:∀d∈ds,d≠i)(g:∀d∈ds,(a d).2<=w.heap.size)(f:zB w w'):
 ((m.gU w a ds).grow w w').le (m.gU w' (a.put i (w.heap.size,w'.heap.size)) (i::ds)):=⟨fun k o b=>by
 have e:m.gU w a ds=m.gU w' (a.put i (w.heap.size,w'.heap.size)) ds:=Mem_wins_eq (fun d c=>⟨(oV.tQ a _ (l d c)).symm,g d c⟩) f;unfold Mem.grow at b
 split at b
 .rw[e]at b;exact(Mem_wins_le (Mem_inn_below h f) _ (fun d h=>zU _ h)).get k o b
 .have j:=(yC.1 b).1;unfold Mem.gU;rw[zK]
  .exact b
  .refine List.any_eq_true.2 ⟨i,yF ..,?_⟩;rw[oV.rW];simp only[decide_eq_true_eq];omega⟩
theorem Mem_grow_wins0{m:Mem}{w w':zW}(h:m.ay w)(a:oV)(i:Nat)(b:zB w w'):(m.grow w w').le (m.gU w' (a.put i (w.heap.size,w'.heap.size)) [i]):=by
 have:=Mem_grow_wins (ds:=[]) h a (i:=i) zS zS b;have e:m.gU w a []=m:=by funext k;simp[Mem.gU]
 rwa [e]at this
def aD.mem(m:Mem)(ds:List Nat)(R:Mem->Value->Prop):aD:=⟨ds,fun v a w=>R (m.gU w a ds) v,fun v a b w w' c d h=>by
 rw[<-Mem_wins_eq c d];exact h⟩
def Ml(a:Act)(o:Oper):Value:=match o.dst with
 |some s=>a.tmps.getD s undef
 |none=>undef
section
variable {P:Program} {ops:Array Oper} {Q:Exit->Act->World->Prop}
structure Reg (ops:Array Oper) (t0:Array Value) (w1:zW) (F:Nat->aD) (don:Nat->Bool) (win:oV) (a:Act) (w:zW):Prop where
 size:a.tmps.size=t0.size
 defers:a.defers=[]
 az:Below w1.heap.size w1 w
 keep:∀s,(∀j o,ops[j]?=some o->don j=true->o.dst≠some s)->a.tmps.getD s undef=t0.getD s undef
 fact:∀j o,ops[j]?=some o->don j=true->(F j).holds (Ml a o) win w
 ik:∀j,don j=true->w1.heap.size<=(win j).1/\(win j).1<=(win j).2/\(win j).2<=w.heap.size
 apart:∀j k,don j=true->don k=true->j≠k->(win j).2<=(win k).1\/(win k).2<=(win j).1
def LQ(ops:Array Oper)(a s:Nat):Bool:=(List.range a).all fun i=>((ops[i]?).map fun o => !(o.dst==some s)).getD true
theorem ww{a s:Nat}(h:LQ ops a s=true){j:Nat}{o:Oper}(b:ops[j]?=some o)(c:j<a):o.dst≠some s:=by
 have:=vD.1 h j (yQ.2 c);rw[b]at this;exact qa5
structure IE (ops:Array Oper) (n0 fu:Nat) (t0:Array Value) (w1:zW) (F:Nat->aD) (i:Nat) (win:oV) (a:Act) (w:zW):Prop where
 size:a.tmps.size=t0.size
 defers:a.defers=[]
 az:Below w1.heap.size w1 w
 keep:∀s,LQ ops n0 s=true->a.tmps.getD s undef=t0.getD s undef
 RV:∀j o,jJ ops fu i j=true->ops[j]?=some o->(F j).holds (Ml a o) win w
 ik:∀j,jJ ops fu i j=true->w1.heap.size<=(win j).1/\(win j).1<=(win j).2/\(win j).2<=w.heap.size
def Yw(F:Nat->aD)(i:Nat)(o:Oper)(b:oV)(a:Act)(w:zW)(c:Act)(w':zW):Prop:=
 ∃v,c=a.put o.dst v/\zB w w'/\(F i).holds v (b.put i (w.heap.size,w'.heap.size)) w'
structure Yx (ops:Array Oper) (n0:Nat) (t0:Array Value) (w1:zW) (F:Nat->aD) (win:oV) (a:Act) (w:zW):Prop where
 size:a.tmps.size=t0.size
 defers:a.defers=[]
 az:Below w1.heap.size w1 w
 keep:∀s,LQ ops n0 s=true->a.tmps.getD s undef=t0.getD s undef
 fact:∀j o,j<n0->ops[j]?=some o->(F j).holds (Ml a o) win w
 ik:∀j,j<n0->w1.heap.size<=(win j).1/\(win j).1<=(win j).2/\(win j).2<=w.heap.size
 apart:∀j k,j<n0->k<n0->j≠k->(win j).2<=(win k).1\/(win k).2<=(win j).1
def Xd(ops:Array Oper)(a c f:Nat)(b:Nat->List Nat):Bool:=
 decide (a<=ops.size) &&
 (List.range a).all (fun i=>((ops[i]?).map fun o=>o.after.all fun e => !Region.binds .any e||decide (e.on<i)).getD false) &&
 (List.range ops.size).all (fun i=>decide (i<a)||(List.range a).all fun j=>jJ ops c i j) &&
 (List.range a).all (fun i=>((ops[i]?).map fun o=>match o.dst with
  |some s=>decide (s<f)&&(List.range i).all fun j=>((ops[j]?).map fun o' => !(o'.dst==some s)).getD true
  | none=>false).getD false) &&
 (List.range a).all (fun j=>(b j).all fun d=>d==j||jJ ops c j d)
structure azw (ops:Array Oper) (n0 fu nt:Nat) (deps:Nat->List Nat):Prop where
 le:n0<=ops.size
 back:∀i o,i<n0->ops[i]?=some o->∀e∈o.after,Region.binds .any e=true->e.on<i
 late:∀i,i<ops.size->n0<=i->∀j,j<n0->jJ ops fu i j=true
 dst:∀i o,i<n0->ops[i]?=some o->∃s,o.dst=some s/\s<nt/\∀j o',j<n0->ops[j]?=some o'->j≠i->o'.dst≠some s
 RV:∀j,j<n0->∀d∈deps j,d=j\/jJ ops fu j d=true
theorem Qo{p t n:Nat}{b:Nat->List Nat}(h:Xd ops p t n b=true):azw ops p t n b:=by
 simp only[Xd,xG,decide_eq_true_eq]at h;obtain⟨⟨⟨⟨F,E⟩,D⟩,C⟩,B⟩:=h;have u:∀i o,i<p->ops[i]?=some o->∃s,o.dst=some s/\s<n/\∀j o',j<i->ops[j]?=some o'->o'.dst≠some s:=by
  intro i o hi g;have:=vD.1 C i (yQ.2 hi);rw[g]at this;simp only[vH,xA]at this
  split at this
  .rename_i s m;rw[xG,decide_eq_true_eq]at this;refine⟨s,m,this.1,fun j o' c a=>?_⟩;have:=vD.1 this.2 j (yQ.2 c);rw[a]at this;exact qa5
  .cases this
 refine⟨F,?_,?_,?_,?_⟩
 .intro i o hi g e y A;have:=vD.1 E i (yQ.2 hi);rw[g]at this;simp only[vH,xA]at this;have:=Array.all_eq_true_iff_forall_mem.1 this e y;simpa [A]using this
 .intro i hi G j c;have:=vD.1 D i (yQ.2 hi);simp only[Bool.or_eq_true,decide_eq_true_eq]at this;exact vD.1 (this.resolve_left zo) j (yQ.2 c)
 .intro i o hi g;obtain⟨s,m,r,l⟩:=u i o hi g;refine⟨s,m,r,fun j o' c a w e=>?_⟩;rcases Nat.lt_or_ge j i with k|x
  .exact l j o' k a e
  .obtain⟨v,q,-,f⟩:=u j o' c a;have:v=s:=Option.some.inj (q.symm.trans e);subst this;exact f i o zo g m
 .intro j c d z;have:=vD.1 (vD.1 B j (yQ.2 c)) d z;exact qa5
theorem Ef{p q:Nat->Bool}(h:∀x,q x=true->p x=true){i:Nat}(c:p i=true)(b:q i=false):∀l:List Nat,i∈l->(l.filter q).length<(l.filter p).length
 |[],hi=>by cases hi
 |x::l,hi=>by
  have f:(l.filter q).length<=(l.filter p).length:=by
   clear hi
   induction l with
   |nil=>simp
   |cons y l a=>
    simp only[List.filter_cons]
    cases hy:q y with
    |true=>simp[h y hy,a]
    |false=>
     cases p y with
     |true=>simp;omega
     |false=>simpa using a
  rcases yA.1 hi with e|d
  .subst e;simp only[List.filter_cons,c,b,if_true];simp;omega
  .have a:=Ef h c b l d;simp only[List.filter_cons]
   cases hy:q x with
   |true=>simp[h x hy,a]
   |false=>
    cases p x with
    |true=>simp;omega
    |false=>simpa using a
theorem Oi{p:Nat->Bool}:∀n,(∃j,j<n/\p j=true)->∃j,j<n/\p j=true/\∀k,k<j->p k=false
 |0,⟨_,h,_⟩=>zo
 |n+1,⟨j,h,hp⟩=>by
  by_cases a:∃j,j<n/\p j=true
  .obtain⟨j,e,c,b⟩:=Oi n a;exact⟨j,zo,c,b⟩
  .refine⟨j,h,hp,fun k d=>?_⟩
   cases hpk:p k with
   |false=>rfl
   |true=>exact absurd ⟨k,zo,hpk⟩ a
theorem Ai:∀(fuel c:Nat) (b:Array Bool) (a:Act) (w:zW),fuel<=c->wpAny P .any ops Q fuel b a w->wpAny P .any ops Q c b a w
 |0,c,b,a,w,_,h=>by
  cases c with
  |zero=>exact h
  |succ m=>exact⟨fun _=>h.2,fun i hi=>by rw[h.1]at hi;cases hi⟩
 |fuel+1,c,b,a,w,hl,h=>by
  cases c with
  |zero=>omega
  |succ m=>exact⟨h.1,fun i hi=>wpOp_mono (fun e w' d=>Ai fuel m _ e w' zo d) (h.2 i hi)⟩
def Oc(n a:Nat):Array Bool:=((List.range n).map fun i=>decide (i<a)).toArray
theorem Tm{l:Array Bool}{i:Nat}(h:i<l.size):l.getD i true=l.getD i false:=by simp[h]
theorem Ob{n d:Nat}{a:Array Bool}(e:a.size=n)(b:∀j,a.getD j false=true->j<d)(c:∀j,j<d->a.getD j false=true):a=Oc n d:=by
 apply Array.ext
 .simp[Oc,e]
 .intro i g h;simp only[Oc,List.getElem_toArray,xQ,List.getElem_range];have f:a.getD i false=a[i]:=by simp[g]
  rw[<-f];by_cases hi:i<d
  .rw[c i hi];simp[hi]
  .cases hx:a.getD i false with
   |true=>exact absurd (b i hx) hi
   |false=>simp[hi]
def MM(ops:Array Oper)(a:Array Bool):Prop:=
 ∀k ok,ops[k]?=some ok->a.getD k false=true->∀e∈ok.after,Region.binds .any e=true->a.getD e.on false=true
theorem Bj{a:Array Bool}(g:MM ops a){i:Nat}:∀(n j:Nat),a.getD j false=true->jJ ops n j i=true->a.getD i false=true:=by
 intro n
 induction n with
 |zero=>intro j _ h;cases h
 |succ n ih=>
  intro j d h;unfold jJ at h
  cases ho:ops[j]? with
  |none=>rw[ho]at h;cases h
  |some o=>
   rw[ho]at h;simp only[vH,xA,Array.any_eq_true',xG,Bool.or_eq_true,beq_iff_eq]at h;obtain⟨e,f,k,b⟩:=h;have c:=g j o ho d e f k;rcases b with b|b
   .rw[<-b];exact c
   .exact ih e.on c b
theorem vQ{a:Array Bool}(m:MM ops a){i j n:Nat}(h:i∈Region.ready .any ops a)(c:jJ ops n i j=true):a.getD j false=true:=by
 obtain⟨g,o,k,b⟩:=mem_ready.1 h
 cases n with
 |zero=>cases c
 |succ n=>
  unfold jJ at c;rw[k]at c;simp only[vH,xA,Array.any_eq_true',xG,Bool.or_eq_true,beq_iff_eq]at c;obtain⟨e,l,p,d⟩:=c;have f:=b e l p;rcases d with d|d
  .rw[<-d];exact f
  .exact Bj m n e.on f d
theorem jB{l:Array Bool}{i j:Nat}:(l.setIfInBounds i true).getD j false=true↔l.getD j false=true\/(j=i/\i<l.size):=by
 simp only[zY,Array.getElem?_setIfInBounds];by_cases e:i=j
 .subst e;by_cases h:i<l.size
  .simp[h]
  .simp[h]
 .rw[zJ e];constructor
  .exact .inl
  .rintro(h|⟨h,-⟩)
   .exact h
   .exact absurd h.symm e
theorem azK{a:Act}{s:Nat}{v:zV}{t:Nat}:(a.put (some s) v).tmps.getD t undef=if t=s/\s<a.tmps.size then v else a.tmps.getD t undef:=by
 simp only[Act.put,zY,Array.getElem?_setIfInBounds];by_cases e:s=t
 .subst e;by_cases h:s<a.tmps.size
  .simp[h]
  .simp[h]
 .rw[zJ e,zJ (fun h=>e h.1.symm)]
theorem Uo{q Z:Nat}{R:Array Value}{X:zW}{F:Nat->aD}(H:azw ops q Z R.size (fun j=>(F j).deps))
(K:∀i,i<q->∀o f a w,ops[i]?=some o->IE ops q Z R X F i f a w->wpOp P ops Q i (Yw F i o f a w) a w)
(I:∀f a w,Yx ops q R X F f a w->wpAny P .any ops Q (ops.size-q) (Oc ops.size q) a w):
 ∀(fuel:Nat) (b:Array Bool) (f:oV) (a:Act) (w:zW),b.size=ops.size->(∀j,b.getD j false=true->j<q)->MM ops b ->
  ((List.range q).filter fun j => !b.getD j false).length+(ops.size-q)<=fuel->Reg ops R X F (fun j=>b.getD j false) f a w->wpAny P .any ops Q fuel b a w:=by
 intro fuel
 induction fuel with
 |zero=>
  intro b f a w B c z j' n;have g:∀j,j<q->b.getD j false=true:=fun j p=>by
   cases N:b.getD j false with
   |true=>rfl
   |false=>
    have:j∈(List.range q).filter fun j => !b.getD j false:=xR.2 ⟨yQ.2 p,by rw[N];rfl⟩;have:=List.length_pos_of_mem this;omega
  have:=I f a w ⟨n.size,n.defers,n.az,fun s C=>n.keep s fun j o r y=>ww C r (c j y),fun j o p r=>n.fact j o r (g j p),fun j p=>n.ik j (g j p),fun j k p D u=>n.apart j k (g j p) (g k D) u⟩;rw[Ob B c g]
  exact Ai _ _ _ _ _ zo this
 |succ fuel ih=>
  intro b f a w B c z j' n;by_cases g:∀j,j<q->b.getD j false=true
  .have:=I f a w ⟨n.size,n.defers,n.az,fun s C=>n.keep s fun j o r y=>ww C r (c j y),fun j o p r=>n.fact j o r (g j p),fun j p=>n.ik j (g j p),fun j k p D u=>n.apart j k (g j p) (g k D) u⟩;rw[Ob B c g];exact Ai _ _ _ _ _ zo this
  .have k':∃j,j<q/\(!b.getD j false)=true:=by
    apply zP;intro e';exact g fun j p=>by
     cases N:b.getD j false with
     |true=>rfl
     |false=>exact absurd ⟨j,p,by rw[N];rfl⟩ e'
   refine⟨fun T=>?_,fun i hi=>?_⟩
   .obtain⟨j,h1,h2,h3⟩:=Oi q k';have U:j<ops.size:=by have:=H.le;omega
    have:j∈Region.ready .any ops b:=mem_ready.2 ⟨by rw[Tm zo];simpa using h2,ops[j],by simp[U],fun e Y O=>by
     have:=h3 e.on (H.back j _ h1 (by simp[U]) e Y O);simpa using this⟩
    rw[T]at this;cases this
   .obtain⟨J,o,r,M⟩:=mem_ready.1 hi;have i':i<ops.size:=(yC.1 r).1;have E:i<q:=by
     rcases Nat.lt_or_ge i q with h|h
     .exact h
     .exact absurd (fun j p=>vQ z hi (H.late i i' h j p)) g
    rw[Tm zo]at J;obtain⟨s,C,b',c'⟩:=H.dst i o E r;have d':s<a.tmps.size:=by rw[n.size];exact b'
    have hA:IE ops q Z R X F i f a w:=⟨n.size,n.defers,n.az,fun s C=>n.keep s fun j o r y=>ww C r (c j y),
     fun j o S r=>n.fact j o r (vQ z hi S),fun j S=>n.ik j (vQ z hi S)⟩
    refine wpOp_mono ?_ (K i E o f a w r hA);rintro a' w' ⟨v,rfl,O,hv⟩;rw[C];have m:∀j,b.getD j false=true->j≠i:=fun j p e=>by rw[e,J]at p;cases p
    refine ih (b.setIfInBounds i true) (f.put i (w.heap.size,w'.heap.size)) _ _ (by simpa using B) ?_ ?_ ?_ ?_
    .intro j p;rcases jB.1 p with h|h
     .exact c j h
     .rw[h.1];exact E
    .intro k ok D hl e Y W;refine jB.2 (.inl ?_);rcases jB.1 hl with h|h
     .exact z k ok D h e Y W
     .have g':=h.1;subst g';have:ok=o:=Option.some.inj (D.symm.trans r);subst this;exact M e Y W
    .have:((List.range q).filter fun j => !(b.setIfInBounds i true).getD j false).length<((List.range q).filter fun j => !b.getD j false).length:=by
      refine Ef (i:=i) (fun x N=>?_) (by rw[J];rfl) ?_ _ (yQ.2 E)
      .cases hl:b.getD x false with
       |false=>rfl
       |true=>
        have:=jB (l:=b) (i:=i) (j:=x) |>.2 (.inl hl);rw[this]at N;cases N
      .have:=jB (l:=b) (i:=i) (j:=i) |>.2 (.inr ⟨rfl,zo⟩);rw[this];rfl
     omega
    .refine⟨?_,n.defers,dD n.az O,?_,?_,?_,?_⟩
     .simp[Act.put,n.size]
     .intro t ht;rw[azK,zJ]
      .exact n.keep t fun j o' A y=>ht j o' A (jB.2 (.inl y))
      .rintro⟨e,-⟩;exact ht i o r (jB.2 (.inr ⟨rfl,zo⟩)) (by rw[C,e])
     .intro j o' A y;rcases jB.1 y with h|h
      .have L:=m j h;have e:Ml (a.put (some s) v) o'=Ml a o':=by
        unfold Ml
        cases hd':o'.dst with
        |none=>rfl
        |some t=>
         simp only;rw[azK,zJ];rintro⟨e,-⟩;exact c' j o' (c j h) A L (by rw[hd',e])
       rw[e];refine(F j).mono _ f _ w w' (fun d y=>?_) O (n.fact j o' A h);have V:b.getD d false=true:=by
        rcases H.RV j (c j h) d y with e|S
        .rw[e];exact h
        .exact Bj z Z j h S
       exact⟨(oV.tQ f _ (m d V)).symm,(n.ik d V).2.2⟩
      .have L:=h.1;subst L;have:o'=o:=Option.some.inj (A.symm.trans r);subst this;have e:Ml (a.put (some s) v) o'=v:=by
        unfold Ml;rw[C];simp only;rw[azK,zK ⟨rfl,d'⟩]
       rw[e];exact hv
     .intro j y;rcases jB.1 y with h|h
      .rw[oV.tQ f _ (m j h)];have:=n.ik j h;have:=O.size;omega
      .rw[h.1,oV.rW];exact⟨n.az.size,O.size,zI _⟩
     .intro j k p D u;rcases jB.1 p with h|h
      .rcases jB.1 D with G|G
       .rw[oV.tQ f _ (m j h),oV.tQ f _ (m k G)];exact n.apart j k h G u
       .rw[oV.tQ f _ (m j h),G.1,oV.rW];exact .inl (n.ik j h).2.2
      .rcases jB.1 D with G|G
       .rw[oV.tQ f _ (m k G),h.1,oV.rW];exact .inr (n.ik k G).2.2
       .exact absurd (h.1.trans G.1.symm) u
theorem bz{id:Nat}{g:Array Value}{w:zW}(c n:Nat)(F:Nat->aD)(p:P.follows .mixedOrders=true)(m:Xd ops c n g.size (fun j=>(F j).deps)=true)
(e:∀i,i<c->∀o b a w',ops[i]?=some o->IE ops c n g w.drew F i b a w'->wpOp P ops Q i (Yw F i o b a w') a w')
(l:∀b a w',Yx ops c g w.drew F b a w'->wpAny P .any ops Q (ops.size-c) (Oc ops.size c) a w'):(Code.region id ops true).wp P Q ⟨g,[]⟩ w:=by
 have H:=Qo m;refine wp_region_any p (Uo H e l ops.size (Array.replicate ops.size false) (fun _=>(0,0)) ⟨g,[]⟩ w.drew zS ?_ ?_ ?_ ?_)
 .intro j d;exfalso;by_cases h:j<ops.size<;>simp[h]at d
 .intro k ok _ q;exfalso;by_cases h:k<ops.size<;>simp[h]at q
 .have:((List.range c).filter fun j => !(Array.replicate ops.size false).getD j false).length<=c:=by
   have:=vB (fun j => !(Array.replicate ops.size false).getD j false) (List.range c);exact qa5
  have:=H.le;omega
 .have f:∀j,(Array.replicate ops.size false).getD j false=true->False:=fun j d=>by
   by_cases h:j<ops.size<;>simp[h]at d
  exact⟨rfl,rfl,zR _ _,fun _ _=>rfl,fun j _ _ d=>(f j d).elim,fun j d=>(f j d).elim,fun j _ d=>(f j d).elim⟩
theorem bY{b:Array Bool}{a:Act}{w:zW}(d:(Region.ready .any ops b==[])=true)(h:Q .normal a w):∀fuel,wpAny P .any ops Q fuel b a w:=by
 have c:Region.ready .any ops b=[]:=by simpa using d
 intro fuel
 cases fuel with
 |zero=>exact⟨c,h⟩
 |succ n=>exact⟨fun _=>h,by rw[c];simp⟩
theorem eF(i:Nat){fuel:Nat}{b:Array Bool}{a:Act}{w:zW}(c:(Region.ready .any ops b==[i])=true)
(h:wpOp P ops Q i (fun d w'=>wpAny P .any ops Q fuel (b.setIfInBounds i true) d w') a w):wpAny P .any ops Q (fuel+1) b a w:=by
 have hr':Region.ready .any ops b=[i]:=by simpa using c
 exact qa2
theorem Vo{t:Array Value}{s:Nat}{b:Bool}(h:t.getD s undef=.bool b):t[s]?=some (.bool b):=by
 cases hx:t[s]? with
 |none=>simp[hx,undef]at h
 |some v=>simpa [hx]using h
theorem Jq{o:Oper}{a:Act}{g s:Nat}{b c:Bool}(f:o.guard=some (g,b))(d:(ops[g]?).bind (·.dst)=some s)(e:a.tmps.getD s undef=.bool c):Region.wanted o (yielded ops a.tmps)=(c==b):=by
 have h:=Vo e;simp[Region.wanted,f,yielded,d,h]
theorem fD{o:Oper}{a:Act}{g s:Nat}{b:Bool}(d:o.guard=some (g,b))(c:(ops[g]?).bind (·.dst)=some s)(e:a.tmps.getD s undef=.bool b):Region.wanted o (yielded ops a.tmps)=true:=by
 rw[Jq d c e];simp
theorem TH{o:Oper}{a:Act}{g s:Nat}{b c:Bool}(h:o.guard=some (g,b))(d:(ops[g]?).bind (·.dst)=some s)(e:a.tmps.getD s undef=.bool c)(f:(c==b)=false):Region.wanted o (yielded ops a.tmps)=false:=by
 rw[Jq h d e,f]
end
theorem Own.region{w0 c w:zW}{m mk:Mem}{L:List bF}(h:Own w0 m c mk L)(q:Below c.heap.size c w)(a:oV)(ds:List Nat)(p:∀d∈ds,c.heap.size<=(a d).1):Own w0 m w (mk.gU w a ds) L:=by
 have f:=h.aP q;have l:∀k,k<c.heap.size->mk k=none->mk.gU w a ds k=none:=fun k b n=>Mem_wins_none n fun d g r=>by have:=p d g;omega
 refine⟨h.m0,f.az,⟨Mem.le_trans h.ext.le (Mem_le_wins f.ay a ds),fun k o b=>?_⟩,Mem_wins_inn f.ay a ds,f.ok,fun it hi k b=>⟨(h.gV it hi k b).1,l k (bF.lt (h.ok it hi) b) (h.gV it hi k b).2⟩,h.apart⟩;rcases Nat.lt_or_ge k c.heap.size with i|j
 .cases hx:mk k with
  |none=>rw[l k i hx]at b;cases b
  | some o'=>exact h.ext.dom k o' hx |>.imp (fun e=>by
   have g:=(Mem_le_wins f.ay a ds).get k o' hx;rw[b]at g;rw[e,g]) id
 .exact .inr (yJ h.az.size j)
theorem Own.XB{w0 w:zW}{m mk:Mem}{L:List bF}(h:Own w0 m w mk L):m.ay w:=Mem_inn_le h.ext.le h.ay
theorem Own.newObj{w0 w:zW}{m mk:Mem}{L:List bF}{g:Nat}{t:TypeId}{arr:Array Value}(h:Own w0 m w mk L)(e:bH w g t arr)(a:w0.heap.size<=g)(f:mk g=none)(i:∀it∈L,it.blk≠some g):Own w0 m w mk (.obj g t arr::L):=
 h.cons e (fun k c=>by simp only[bF.blk,Option.some.injEq]at c;subst c;exact⟨a,f⟩) (fun b j k d l=>by simp only[bF.blk,Option.some.injEq]at d;subst d;exact i b j l)
theorem Own.A9{w0 w:zW}{m mk:Mem}{L:List bF}(h:Own w0 m w mk L){n:Nat}(a:w.heap.size<=n):∀it∈L,it.blk≠some n:=fun it hi e=>by have:=bF.lt (h.ok it hi) e;omega
theorem Ps{g n:Nat}{t:TypeId}{arr:Array Value}{L:List bF}(a:g≠n)(h:∀it∈L,it.blk≠some n):∀it∈bF.obj g t arr::L,it.blk≠some n:=by
 intro it hi;rcases yA.1 hi with rfl|hi
 .simpa [bF.blk]using a
 .exact h it hi
theorem C9{w:zW}{i:Nat}{t:TypeId}{arr:Array Value}(a:oV):
 (aD.obj i t arr).holds (.pointer (some ⟨w.heap.size,0,none⟩)) (a.put i (w.heap.size,(w.alloc (.cells arr t)).heap.size)) (w.alloc (.cells arr t)):=by
 show _=Value.pointer (some ⟨((a.put i (w.heap.size,(w.alloc (.cells arr t)).heap.size)) i).1,0,none⟩)/\_/\_;rw[oV.rW];exact⟨rfl,zS,bH.new _ _ _⟩
section
variable {P:Program} {ops:Array Oper} {Q:Exit->Act->World->Prop} {F:Nat->aD}
theorem IE.d{g c:Nat}{f:Array Value}{e:zW}{i:Nat}{b:oV}{a:Act}{w:zW}(h:IE ops g c f e F i b a w)(j:Nat){o:Oper}(k:ops[j]?=some o)(l:jJ ops c i j=true:=by kernel_rfl):(F j).holds (Ml a o) b w:=h.RV j o l k
theorem IE.k{d g:Nat}{c:Array Value}{e:zW}{i:Nat}{b:oV}{a:Act}{w:zW}(h:IE ops d g c e F i b a w)(s:Nat)(f:LQ ops d s=true:=by kernel_rfl):a.tmps.getD s undef=c.getD s undef:=h.keep s f
theorem wv{i:Nat}{o:Oper}{b:oV}{a:Act}{w:zW}{v:zV}(hi:ops[i]?=some o)(d:o.guard=none)(e:(F i).holds v (b.put i (w.heap.size,w.heap.size)) w)(c:(execOp a.eval o).run P w=.ok (.value v) w:=by go_simp;first|done|rfl):wpOp P ops Q i (Yw F i o b a w) a w:=aJ hi d (aN c ⟨v,rfl,zR _ _,e⟩)
theorem wy{i:Nat}{o:Oper}{c:oV}{a:Act}{w:zW}{v:zV}{g s:Nat}{b:Bool}(hi:ops[i]?=some o)(h:o.guard=some (g,b))(d:(ops[g]?).bind (·.dst)=some s)(e:a.tmps.getD s undef=.bool b)(j:(F i).holds v (c.put i (w.heap.size,w.heap.size)) w)(f:(execOp a.eval o).run P w=.ok (.value v) w:=by go_simp;first|done|rfl):wpOp P ops Q i (Yw F i o c a w) a w:=gF hi (fD h d e) (aN f ⟨v,rfl,zR _ _,j⟩)
theorem wn{i:Nat}{o:Oper}{d:oV}{a:Act}{w:zW}{g s:Nat}{b c:Bool}(hi:ops[i]?=some o)(j:o.guard=some (g,b))(f:(ops[g]?).bind (·.dst)=some s)(e:a.tmps.getD s undef=.bool c)(h:(c==b)=false)(k:(F i).holds undef (d.put i (w.heap.size,w.heap.size)) w):wpOp P ops Q i (Yw F i o d a w) a w:=KN hi (TH j f e h) ⟨undef,rfl,zR _ _,k⟩
theorem we{i:Nat}{o:Oper}{K:Act->World->Prop}{a:Act}{w w':zW}{f:FuncId}{args:Array Value}{X:Ending->World->Prop}(hi:ops[i]?=some o)(d:o.guard=none)(g:Calls P f args w' X)(h:∀e b,X e b->∃v,e=.returned v/\K (a.put o.dst v) b)(c:(execOp a.eval o).run P w=.ok (.enter f args) w':=by go_simp;first|done|rfl|exact⟨rfl,rfl⟩):wpOp P ops Q i K a w:=aJ hi d (dX c g h)
theorem we2{i:Nat}{o:Oper}{K:Act->World->Prop}{a:Act}{w w':zW}{f:FuncId}{args:Array Value}{X:Ending->World->Prop}{g s:Nat}{b:Bool}(hi:ops[i]?=some o)(k:o.guard=some (g,b))(d:(ops[g]?).bind (·.dst)=some s)(e:a.tmps.getD s undef=.bool b)(l:Calls P f args w' X)(h:∀e c,X e c->∃v,e=.returned v/\K (a.put o.dst v) c)(j:(execOp a.eval o).run P w=.ok (.enter f args) w':=by go_simp;first|done|rfl|exact⟨rfl,rfl⟩):wpOp P ops Q i K a w:=gF hi (fD k d e) (dX j l h)
end
end Cl
namespace Go.Proofs
open Go.Shelf Tryz
def Tryz.Qg:Go.Shelf.Ren:=⟨fun|6=>213|15=>249|14=>248|28=>269|29=>270|20=>261|21=>262|22=>263|23=>264|24=>265|25=>266|26=>267|27=>268|46=>275|47=>276|48=>277|49=>278|50=>279|57=>286|n=>n,fun|22=>22|24=>139|25=>198|3=>3|39=>234|0=>0|53=>256|55=>258|4=>4|46=>250|45=>249|50=>241|5=>5|9=>9|66=>267|70=>271|76=>278|77=>279|n=>n,fun|n=>n⟩
theorem Tryz.azE:Go.Proofs.SlLaysF0.n6 prog Tryz.Qg:={
 mixed:=by kernel_rfl
 f6:=⟨Tryz.f213.name,by decide,func213.trans (congrArg some zk)⟩
 f14:=⟨Tryz.f248.name,by decide,func248.trans (congrArg some zk)⟩
 f15:=func249.trans (congrArg some zk)
 f20:=⟨Tryz.f261.name,by decide,func261.trans (congrArg some zk)⟩
 f21:=⟨Tryz.f262.name,by decide,func262.trans (congrArg some zk)⟩
 f22:=⟨Tryz.f263.name,by decide,func263.trans (congrArg some zk)⟩
 f23:=⟨Tryz.f264.name,by decide,func264.trans (congrArg some zk)⟩
 f24:=⟨Tryz.f265.name,by decide,func265.trans (congrArg some zk)⟩
 f25:=⟨Tryz.f266.name,by decide,func266.trans (congrArg some zk)⟩
 f26:=⟨Tryz.f267.name,by decide,func267.trans (congrArg some zk)⟩
 f27:=⟨Tryz.f268.name,by decide,func268.trans (congrArg some zk)⟩
 f28:=func269.trans (congrArg some zk)
 f29:=func270.trans (congrArg some zk)
 f46:=⟨Tryz.f275.name,by decide,func275.trans (congrArg some zk)⟩
 f47:=func276.trans (congrArg some zk)
 f48:=func277.trans (congrArg some zk)
 f49:=⟨Tryz.f278.name,by decide,func278.trans (congrArg some zk)⟩
 f50:=⟨Tryz.f279.name,by decide,func279.trans (congrArg some zk)⟩
 f57:=⟨Tryz.f286.name,by decide,func286.trans (congrArg some zk)⟩
 t0:=underlying0
 a0:=Tryz.isAgg0
 z0:=Tryz.sizeOf0
 v0:=Tryz.zeroValue0
 t3:=underlying3
 a3:=Tryz.isAgg3
 z3:=Tryz.sizeOf3
 v3:=Tryz.zeroValue3
 t4:=underlying4
 a4:=Tryz.isAgg4
 z4:=Tryz.sizeOf4
 v4:=Tryz.zeroValue4
 t5:=underlying5
 a5:=Tryz.isAgg5
 z5:=Tryz.sizeOf5
 v5:=Tryz.zeroValue5
 t9:=underlying9
 a9:=Tryz.isAgg9
 z9:=Tryz.sizeOf9
 v9:=Tryz.zeroValue9
 t22:=underlying22
 a22:=Tryz.isAgg22
 z22:=Tryz.sizeOf22
 v22:=Tryz.zeroValue22
 t25:=underlying198
 a25:=Tryz.isAgg198
 z25:=Tryz.sizeOf198
 v25:=Tryz.zeroValue198
 t39:=underlying234
 a39:=Tryz.isAgg234
 z39:=Tryz.sizeOf234
 v39:=Tryz.zeroValue234
 t45:=underlying249
 a45:=Tryz.isAgg249
 z45:=Tryz.sizeOf249
 v45:=Tryz.zeroValue249
 t46:=underlying250
 a46:=Tryz.isAgg250
 z46:=Tryz.sizeOf250
 v46:=Tryz.zeroValue250
 t50:=underlying241
 a50:=Tryz.isAgg241
 z50:=Tryz.sizeOf241
 v50:=Tryz.zeroValue241
 t53:=underlying256
 a53:=Tryz.isAgg256
 z53:=Tryz.sizeOf256
 v53:=Tryz.zeroValue256
 t55:=underlying258
 a55:=Tryz.isAgg258
 z55:=Tryz.sizeOf258
 v55:=Tryz.zeroValue258
 t66:=underlying267
 a66:=Tryz.isAgg267
 z66:=Tryz.sizeOf267
 v66:=Tryz.zeroValue267
 t70:=underlying271
 a70:=Tryz.isAgg271
 z70:=Tryz.sizeOf271
 v70:=Tryz.zeroValue271
 t76:=underlying278
 a76:=Tryz.isAgg278
 z76:=Tryz.sizeOf278
 v76:=Tryz.zeroValue278
 t77:=underlying279
 a77:=Tryz.isAgg279
 z77:=Tryz.sizeOf279
 v77:=Tryz.zeroValue279 }
end Go.Proofs
namespace Cl
open Go Go.RowKit Go.Proofs Go.Sort
def uM(x:bT):List Value:=[.int .i64 x.1,.int .i64 x.2]
def Hy(x y:bT):Int:=Lib.compareInt x.1 y.1
theorem Y8(x y:bT):ltOf Hy x y=decide (x.1<y.1):=by
 unfold ltOf Hy Lib.compareInt;by_cases a:x.1<y.1
 .simp[a]
 .by_cases b:y.1<x.1<;>simp[a,b]
theorem bzb:SWO (ltOf Hy) where
 irrefl x:=by rw[Y8];simp
 trans x y z h1 h2:=by rw[Y8]at*;simp at*;omega
 ntrans x y z h1 h2:=by rw[Y8]at*;simp at*;omega
theorem flat_get(d:Array bT)(j:Nat)(h:j<d.size*2):(flatK uM 2 d)[j]! = (bI d.toList)[j]'(by rw[dA];simpa using h):=by
 rw[get_flatK _ _ _ _ h];have hi:j/2<d.toList.length:=by simp;omega
 obtain⟨a,f⟩:=mF d.toList (j/2) hi;have e:d[j/2]! = d.toList[j/2]:=by
  rw[getElem!_pos d (j/2) qeC];simp
 rcases(show j=j/2*2/\j%2=0\/j=j/2*2+1/\j%2=1 by omega)with⟨c,b⟩|⟨c,b⟩
 .rw[b,e];have:=(yB.1 a).2;simp only[uM];rw[<-c]at a;exact(yB.1 a).2.symm
 .rw[b,e];simp only[uM];rw[<-c]at f;exact(yB.1 f).2.symm
theorem Um{w:zW}{t:TypeId}{g c:Nat}{l:List bT}(h:w.ownsRow 0 t 2 (.slice (some ⟨g,0,none⟩) l.length c) l.length (bI l)):HoldsK uM 2 w g 0 l.toArray:=by
 intro j b;have a:j<l.toArray.size*2:=by simpa [size_flatK]using b
 refine⟨?_,dK h _⟩;rw[yZ];refine bg h ?_;rw[flat_get _ _ a];simp
theorem WW{w0 w:zW}{m mk:Mem}{L:List bF}{t:TypeId}{g c:Nat}{l:List bT}(h:Own w0 m w mk (.row (.slice (some ⟨g,0,none⟩) l.length c) t 2 l.length (bI l)::L))
(b:Array bT)(d:b.size=l.length)(n:Nat)(q:Array Obj):Own w0 m (sortWorldK uM 2 w g 0 n b q) mk (.row (.slice (some ⟨g,0,none⟩) l.length c) t 2 l.length (bI b.toList)::L):=by
 have D:=h.row;obtain⟨F,A⟩:=D;rcases A with⟨A,-⟩|⟨G,cap,p,C,E,B,f,z,o,s⟩
 .cases A
 .cases C;have v:g<w.heap.size:=(yC.1 B).1;have a:∀k,k<w.heap.size->(sortWorldK uM 2 w g 0 n b q).heap[k]?=(w.heap.modify g (onCells (putCells id 0 (flatK uM 2 b))))[k]?:=fun k i=>by
   show((w.heap.modify g (onCells (putCells id 0 (flatK uM 2 b))))++q)[k]?=_;rw[Array.getElem?_append_left (by simpa using i)]
  refine h.app (v':=.slice (some ⟨g,0,none⟩) l.length c) (N:=w.heap.size) ⟨by rw[dA];simp[d],.inr ⟨g,c,putCells id 0 (flatK uM 2 b) p,rfl,E,?_,f,z,?_,?_⟩⟩ ⟨rfl,rfl,rfl,?_,?_⟩ (fun k i=>.inl i) (zI _)
  .rw[a g v,Array.getElem?_modify,zK rfl,B]
   rfl
  .simp[putCells,o]
  .apply List.ext_getElem?;intro j;by_cases r:j<l.length*2
   .have y:j<p.size:=by rw[o];have:=Nat.mul_le_mul_right 2 f;omega
    rw[List.getElem?_take,zK r];have x:j<(bI b.toList).length:=by rw[dA];simp[d,r]
    rw[yH x,<-flat_get b j (by rw[d];exact r)];simp[putCells,y,size_flatK,d,r]
   .rw[vC qd4,vC (by rw[dA];simp[d];omega)]
  .show w.heap.size<=((w.heap.modify g (onCells (putCells id 0 (flatK uM 2 b))))++q).size;simp
  .intro k i u;rw[a k i,Array.getElem?_modify,zJ (fun e=>u qew)]
theorem Uf{l:List bT}{a:Array bT}(m:PermIn 0 l.toArray.size l.toArray a)(k:SortedIn (ltOf Hy) 0 l.toArray.size a):a.size=l.length/\a.toList.Perm l/\a.toList.Pairwise fun s t=>s.1<=t.1:=by
 obtain⟨g,-,f⟩:=m;have h:a.size=l.length:=by simpa using g
 refine⟨h,?_,?_⟩
 .have o:a.extract 0 l.toArray.size=a:=by rw[<-g];simp
  have n:l.toArray.extract 0 l.toArray.size=l.toArray:=by simp
  rw[o,n]at f;simpa using f
 .rw[List.pairwise_iff_getElem];intro i j hi e c;have d:i<a.size:=by simpa using hi
  have b:j<a.size:=by simpa using e
  have:=k i j (zG _) c (by simpa [h]using e);rw[Y8]at this;simp only[decide_eq_false_iff_not,Int.not_lt]at this;rw[getElem!_pos a i d,getElem!_pos a j b]at this;exact qa5
end Cl
namespace Cl
open Go Go.RowKit
def Co{α:Type}(P:Program)(l:Nat)(encs:α->Array Value)(w0:zW)(m c:Mem)(B Bx:List α->List bF->Prop):Prop:=
 ∀(b:List α) (x:α) (W:zW) (mk:Mem) (f Lr:List bF),B b f->Own w0 m W mk (f++Lr)->c.le mk->YieldAt Fence.wide 0 P l (encs x) W fun e d=>
  (e=.returned (.bool true)/\∃mk' a,B (b++[x]) a/\Own w0 m d mk' (a++Lr)/\mk.le mk') \/
  (e=.returned (.bool false)/\∃mk' a,Bx (b++[x]) a/\Own w0 m d mk' (a++Lr)/\mk.le mk')
def MG{α:Type}(w0:zW)(m a:Mem)(B Bx:List α->List bF->Prop)(S d:List α->Prop)(e:Ending)(c:zW):Prop:=
 (∃v,e=.returned v)/\((∃xs mk' b,S xs/\B xs b/\Own w0 m c mk' b/\a.le mk')\/(∃xs mk' b,d xs/\Bx xs b/\Own w0 m c mk' b/\a.le mk'))
def Ct{α:Type}(w0:zW)(m mk:Mem)(Lr:List bF)(I:List α->List bF->Prop)(b:Code->List α->List bF->Prop)(xs:List α):Exit->Act->World->Prop
 |.normal,_,W'=>∃mk' a,I xs a/\Own w0 m W' mk' (a++Lr)/\mk.le mk'
 |.ret,_,W'=>∃mk' a,b .ret xs a/\Own w0 m W' mk' (a++Lr)/\mk.le mk'
 |.exit id,_,W'=>∃mk' a,b (.exit id) xs a/\Own w0 m W' mk' (a++Lr)/\mk.le mk'
 |.goto t,_,W'=>∃mk' a,b (.goto t) xs a/\Own w0 m W' mk' (a++Lr)/\mk.le mk'
 |.panic _,_,_=>False
 |.outgrown,_,_=>False
theorem r9{α:Type}(a b:α)(L R:List α):(L++(a::b::R)).Perm (a::b::(L++R)):=List.perm_middle.trans (List.Perm.cons _ List.perm_middle)
def Iy{α:Type}(P:Program)(l:Nat)(encs:α->Array Value)(w0:zW)(m c:Mem)(C:List α->α->Prop)(B Bx:List α->List bF->Prop):Prop:=
 ∀(b:List α) (x:α) (W:zW) (mk:Mem) (f Lr:List bF),C b x->B b f->Own w0 m W mk (f++Lr)->c.le mk->YieldAt Fence.wide 0 P l (encs x) W fun e d=>
  (e=.returned (.bool true)/\∃mk' a,B (b++[x]) a/\Own w0 m d mk' (a++Lr)/\mk.le mk') \/
  (e=.returned (.bool false)/\∃mk' a,Bx (b++[x]) a/\Own w0 m d mk' (a++Lr)/\mk.le mk')
theorem KJ{α:Type}{P:Program}{g:Operand}{ps:Array Tmp}{assign body:Code}{Q:Exit->Act->World->Prop}{a:Act}{w:zW}{gf:Nat}{lb:Array Value}
(hg:a.eval g=.func (.func gf) #[] lb)(eg:∀args w,(callFunc gf args).run P w=.ok (.enter gf args) w){encs:α->Array Value}(hps:∀x,(encs x).size=ps.size)
{w0:zW}{m mk:Mem}{L0:List bF}(hO:Own w0 m w mk L0)(I:List α->List bF->Prop)(Ix:Code->List α->List bF->Prop)(S Sp:List α->Prop)(C:List α->α->Prop)(h0:I [] L0)
(hseq:∀(l:Nat) (W1:zW) (L1:List bF) (B Bx:List α->List bF->Prop),B [] L1->(∀pre Lt,B pre Lt->∃L,I pre L)->(∀pre Lt,Bx pre Lt->∃c L,Ix c pre L)->Own w0 m W1 mk L1->Iy P l encs w0 m mk C B Bx ->
  Calls P gf (#[.func (.yield l) #[] #[]]++lb) W1 (MG w0 m mk B Bx S Sp))
(J:List α->α->Act->List bF->Prop)
(hassign:∀(l:Nat) (pre:List α) (x:α) (W:zW) (mk1:Mem) (Lt Lr:List bF) (K:Act->World->Prop),C pre x->I pre Lt->Own w0 m W mk1 (Lt++Lr)->mk.le mk1 ->
  (∀a1 W1 Lt1,J pre x a1 Lt1->Own w0 m W1 mk1 (Lt1++Lr)->K a1 W1) ->
  assign.wpIn (Fence.wide.inRound l) 0 P (Exit.then K (fun _ _ _=>False)) { tmps:=(ps.zip (encs x)).foldl (fun t (p,v)=>t.setIfInBounds p v) a.tmps,defers:=[] } W)
(hbody:∀(l:Nat) (pre:List α) (x:α) (a1:Act) (W:zW) (mk1:Mem) (Lt Lr:List bF),C pre x->J pre x a1 Lt->Own w0 m W mk1 (Lt++Lr)->mk.le mk1 ->
  body.wpIn (Fence.wide.inRound l) 0 P (Ct w0 m mk1 Lr I Ix (pre++[x])) a1 W)
(hdone:∀(D:Nat) (xs:List α) (W:zW) (mk1:Mem) (L:List bF),S xs->I xs L->Own w0 m W mk1 (.gQ D (.deferred (some []))::L)->mk.le mk1->Q .normal { a with defers:={ target:=.collected D,args:=#[] }::a.defers } W)
(hstop:∀(D:Nat) (c:Code) (xs:List α) (W:zW) (mk1:Mem) (L:List bF),Sp xs->Ix c xs L->Own w0 m W mk1 (.gQ D (.deferred (some []))::L)->mk.le mk1 ->
  c.wpIn Fence.wide 0 P Q { a with defers:={ target:=.collected D,args:=#[] }::a.defers } W):
 (Code.rangeFunc g ps assign body).wpIn Fence.wide 0 P Q a w:=by
 refine wpIn_rangeFunc ?_;intro fn _;obtain⟨rec,hrec⟩:∃rec:LoopState->Option Code->Loop,rec=fun st pe=>{ state:=st,pending:=pe,fn,tmps:=a.tmps,params:=ps,assign,body,defers:=w.heap.size }:=⟨_,rfl⟩;have hO1:=(hO.Bb (.deferred (some []))).Bb (.loop (rec .ready none));have hsz:(w.alloc (.deferred (some []))).heap.size=w.heap.size+1:=by simp
 rw[hsz]at hO1;have hent:=run_enterLoop_outer (P:=P) (w:=w) fn a.tmps ps assign body;have hre:(Obj.loop { state:=.ready,pending:=none,fn,tmps:=a.tmps,params:=ps,assign,body,defers:=w.heap.size })=.loop (rec .ready none):=by rw[hrec]
 rw[hre]at hent;generalize (w.alloc (.deferred (some []))).alloc (.loop (rec .ready none))=W1 at*
 generalize w.heap.size=D at*
 have hround:Iy P (D+1) encs w0 m mk C (fun pre Lt=>∃L,I pre L/\Lt=.gQ (D+1) (.loop (rec .ready none))::.gQ D (.deferred (some []))::L)
  (fun pre Lt=>∃c L,Ix c pre L/\Lt=.gQ (D+1) (.loop (rec .done (some c)))::.gQ D (.deferred (some []))::L):=by
  rintro pre x W mk1 Lt Lr hC ⟨L,hI,rfl⟩ hOw hle;have hl:=hOw.gQ;have hy:=run_yield (P:=P) (args:=encs x) hl (by rw[hrec];exact hps x);rw[hrec]at hy;refine⟨fn,_,assign,body,hy,roundIn_of_wpIn trivial (hassign _ pre x W mk1 L _ _ hC hI (hOw.perm (r9 _ _ L Lr)) hle ?_)⟩;intro a1 W1' Lt1 hJ hOa;have hOw:=hOa.perm (r9 _ _ Lt1 Lr).symm;have hl:=hOw.gQ;refine⟨_,run_beginRound hl (by rw[hrec]),?_⟩;have hO2:=hOw.jP (o':=.loop { rec .ready none with state:=.busy }) (World.putObj_heap_same (yC.1 hl).1) (grownBy_putObj' _ _ _);have hO3:=hO2.perm (r9 _ _ Lt1 Lr);refine wpIn_mono (hbody _ pre x a1 _ mk1 Lt1 _ hC hJ hO3 hle) ?_;have fin:∀(jump:Option Code) (W3:zW) (mk2:Mem) (L2:List bF),Own w0 m W3 mk2 (L2++(.gQ (D+1) (.loop { rec .ready none with state:=.busy })::.gQ D (.deferred (some []))::Lr)) ->
   ∃W4,(Instr.endRound (D+1) jump).run P W3=.ok (.bool jump.isNone) W4/\Own w0 m W4 mk2 (.gQ (D+1) (.loop (rec (if jump.isNone then .ready else .done) jump))::.gQ D (.deferred (some []))::(L2++Lr)):=by
   exact qap
  rintro e a3 W3 hp
  cases e with
  |normal=>
   obtain⟨mk2,L2,hi,ho,hm⟩:=hp;obtain⟨W4,hr,ho4⟩:=fin none W3 mk2 L2 ho
   exact qdx
  |ret=>
   obtain⟨mk2,L2,hi,ho,hm⟩:=hp;obtain⟨W4,hr,ho4⟩:=fin (some .ret) W3 mk2 L2 ho
   exact qdp
  |exit id=>
   obtain⟨mk2,L2,hi,ho,hm⟩:=hp;obtain⟨W4,hr,ho4⟩:=fin (some (.exit id)) W3 mk2 L2 ho
   exact qdd
  |goto t=>
   obtain⟨mk2,L2,hi,ho,hm⟩:=hp;obtain⟨W4,hr,ho4⟩:=fin (some (.goto t)) W3 mk2 L2 ho
   exact qdh
  |panic ch=>exact hp.elim
  |outgrown=>exact hp.elim
 refine⟨D+1,[{ target:=.collected D,args:=#[] }],W1,{ target:=.fn (.func gf) lb,args:=#[.func (.yield (D+1)) #[] #[]] },W1,gf,
  #[.func (.yield (D+1)) #[] #[]]++lb,W1,hent,?_,fun _ _=>trivial,?_,fun h=>absurd h (by simp[Fence.wide]),?_⟩
 .simp only[resolve,hg];simp[go_sem]
 .simp[invoke,go_sem,eg]
 .refine callsIn_wide.2 ((hseq (D+1) W1 _ _ _ ⟨L0,h0,rfl⟩ (fun _ _ h=>h.elim fun L hL=>⟨L,hL.1⟩) (fun _ _ h=>h.elim fun c h=>h.elim fun L hL=>⟨c,L,hL.1⟩) hO1 hround).mono ?_);rintro e W3 ⟨⟨v,rfl⟩,hend⟩;rcases hend with⟨xs,mk2,Lt,hS,⟨L,hI,rfl⟩,ho,hm⟩|⟨xs,mk2,Lt,hS,⟨c,L,hI,rfl⟩,ho,hm⟩
  .exact qaB
  .exact qaz
structure sJ (P:Program) (k e:TypeId) (o:Obj) (n sz:Nat) (f:Lit->Option Int):Prop where
 ex:∃D:DataW Unit,(∀(w:zW) b,w.heap[b]?=some o->w.ownsMap P k (plainElem P e) b n D)/\Maps.size D=sz/\Maps.Tidy D/\(∀kl,Maps.has D kl=(f kl).isSome) /\
  ∀kl,D.atKey kl (.lit (.int .i64 0))=.lit (.int .i64 ((f kl).getD 0))
open Classical in
noncomputable def Jf(f:Lit->Option Int)(a:Lit)(x:Int):Lit->Option Int:=fun k=>if k=a then some x else f k
theorem xw(f:Lit->Option Int)(a:Lit)(x:Int):Jf f a x a=some x:=by simp[Jf]
theorem um(f:Lit->Option Int){a k:Lit}(x:Int)(h:k≠a):Jf f a x k=f k:=by simp[Jf,h]
section
variable {P:Program} {k e:TypeId} {o:Obj} {n sz:Nat} {f:Lit->Option Int}
theorem Mc{w:zW}{b:Nat}{D:DataW Unit}{R:Value->Option (DataW Unit×List MemPlace)}(h:w.ownsMap P k R b n D):∃o,w.heap[b]?=some o/\∀(w:zW) b,w.heap[b]?=some o->w.ownsMap P k R b n D:=by
 exact qcs
theorem sJ.made(P:Program)(k e:TypeId):sJ P k e (.map #[] 0) 0 0 (fun _=>none):=by
 refine⟨.map [],fun w b h=>?_,rfl,Maps.tidy_empty,fun d=>rfl,fun d=>?_⟩
 .obtain⟨es,a,c,F,f,g⟩:=World.ownsMap_made (H:=Unit) w P k (plainElem P e);have:(w.alloc (.map #[] 0)).heap[w.heap.size]?=some (.map #[] 0):=show(w.heap.push _)[w.heap.size]?=_ by simp
  rw[this]at c;cases c;exact⟨_,_,h,F,f,g⟩
 .exact Maps.atKey_of_not_has rfl _
variable {w:zW} {t:TypeId} {ops:Array Oper} {rest:List Oper} {op:Oper} {a:Act} {Q:Exit->Act->World->Prop} {b:Nat}
theorem sJ.wZ(h:sJ P k e o n sz f)(K:Maps.Keyed P k)(ht:P.underlying t=some (.map k e))(p:P.underlying e=some (.int .i64))(l:∀w,(zeroValue e).run P w=.ok (.int .i64 0) w)(q:w.heap[b]?=some o)
{a:zV}{g:Lit}(d:keyOf P k a=some g):(Instr.lookup t (.map (some b)) a false).run P w=.ok (.int .i64 ((f g).getD 0)) w:=by
 obtain⟨D,r,-,-,-,j⟩:=h.ex;obtain⟨c,m,i,-⟩:=(r w b q).lookup_int K ht p (l w) d;rw[j g]at i;simp only[DataW.lit.injEq,Lit.int.injEq,true_and]at i;rw[m,i]
theorem sJ.mono(h:sJ P k e o n sz f){a:Nat}(hn:n<=a):sJ P k e o a sz f:=by
 exact qcZ
theorem sJ.Qm(h:sJ P k e o n sz f)(K:Maps.Keyed P k)(ht:P.underlying t=some (.map k e))(l:P.underlying e=some (.int .i64))(m:∀w,(zeroValue e).run P w=.ok (.int .i64 0) w)(s:w.heap[b]?=some o)
{g:zV}{d:Lit}(i:keyOf P k g=some d):(Instr.lookup t (.map (some b)) g true).run P w=.ok (.tuple #[.int .i64 ((f d).getD 0),.bool (f d).isSome]) w:=by
 obtain⟨D,u,-,-,r,j⟩:=h.ex;obtain⟨v,ps,q,p⟩:=(u w b s).look_ok K ht (m w) (zd:=.lit (.int .i64 0)) (zp:=[]) (plainElem_int l zD) i;obtain⟨c,rfl,a,-⟩:=plainElem_int_inv l p;have a:=congrArg Prod.fst a;simp only at a;rw[j d]at a;simp only[DataW.lit.injEq,Lit.int.injEq,true_and]at a;rw[q,r d,a]
theorem sJ.Tc(h:sJ P k e o n sz f)(ht:P.underlying t=some (.map k e))(d:w.heap[b]?=some o)(a:TypeId):(Builtin.len_ #[t] a #[.map (some b)]).run P w=.ok (.int .i64 sz) w:=by
 obtain⟨D,g,c,-⟩:=h.ex;rw[(g w b d).len ht a,c]
theorem sJ.wY(h:sJ P k e o n sz f)(K:Maps.Keyed P k)(ht:P.underlying t=some (.map k e))(B:P.underlying e=some (.int .i64))(C:w.heap[b]?=some o)(A:n<maxLen)
{j:zV}{g:Lit}(d:keyOf P k j=some g){x:Int}(u:(Lit.int .i64 x).wf=true):
 ∃w' o',(Instr.mapUpdate t (.map (some b)) j (.int .i64 x)).run P w=.ok () w'/\w'.heap[b]?=some o'/\sJ P k e o' (n+1) (if(f g).isSome then sz else sz+1) (Jf f g x)/\w.grownBy w' (some b):=by
 obtain⟨D,E,v,a,s,q⟩:=h.ex;have i:WideAt.IsKeyLit g:=K.key d;obtain⟨w',y,z,p⟩:=(E w b C).update K ht A d (plainElem_int B u);obtain⟨o',m,r⟩:=Mc z;refine⟨w',o',y,m,⟨_,r,?_,a.put i _,fun l=>?_,fun l=>?_⟩,p⟩
 .rw[Maps.size_put a,s g,v]
 .by_cases c:l=g
  .subst c;rw[Maps.has_put_same a.isMap i,xw];rfl
  .rw[Maps.has_put_other c,um f x c,s]
 .by_cases c:l=g
  .subst c;rw[Maps.atKey_put_same a.isMap i,xw];rfl
  .rw[Maps.atKey_put_other c,um f x c,q]
end
end Cl
