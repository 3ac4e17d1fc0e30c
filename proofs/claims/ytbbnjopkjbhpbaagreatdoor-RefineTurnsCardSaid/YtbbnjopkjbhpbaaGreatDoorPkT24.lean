/- Lemmas. -/
import Derived.Test.YtbbnjopkjbhpbaaGreatDoorPkT23
set_option maxRecDepth 99999
set_option maxHeartbeats 9999999
namespace Cl
open Go Go.RowKit Go.Proofs Tryz
theorem I1(a b:Int):jF [a,b]=rQ a b:=by simp[jF,tX]
theorem QF(a b c:Int):jF [a,b,c]=rQ a (rQ b c):=by simp[jF,tX]
theorem azz(a b c d:Int):jF [a,b,c,d]=rQ a (rQ b (rQ c d)):=by simp[jF,tX]
theorem VV{a b:RS}{c:Int}(h:RB a b c)(e:a.iB)(d:b.iB):scC a b=c:=by
 rcases h with⟨-,-,h⟩|⟨h,-⟩
 .exact Zv h
 .exact absurd ⟨e,d⟩ h
theorem bzL(a b:ByteArray):EA a.data.toList b.data.toList=Gz a b:=by
 unfold EA Gz F9;by_cases h:a=b
 .subst h;simp
 .have c:¬a.data.toList=b.data.toList:=fun e=>h (OB e);rw[zJ h,zJ c]
structure EN (n:Nat) (v:Vl):Prop where
 snd:ib n v
 few:nV n v
 cnt:di n v<=1048576
def AO(n:Nat)(d:Vd):Prop:=EN n d.1/\EN n d.2
theorem EN.kid{n:Nat}{v:Vl}(h:EN (n+1) v){x:Vd}(a:x∈v.kids):AO n x:=by
 have c:=h.snd.2 x a;have b:=h.few.2 x a;have e:=wo (n:=n) a;have d:=h.cnt;exact⟨⟨c.1,b.1,zo⟩,c.2,b.2,zo⟩
def EO(n:Nat):Prop:=∀(v v':Vl) (s a:Sl) (m:Mem) (w:zW),m.az w->eD m->aY m n s v->aY m n a v'->EN n v->EN n v'->zX 172 #[v.val s,v'.val a] w (.j (gI n v v'))
theorem Jj{n:Nat}(H:EO n)(d b:Vd)(x y o l:Sl)(m:Mem)(w:zW)(A:m.az w)(f:eD m)(C:aY m n x d.1)(B:aY m n y d.2)(r:aY m n o b.1)(q:aY m n l b.2)(s:AO n d)(p:AO n b):
 zX 268 #[bQ d x y,bQ b o l] w (.j (vdC (gI n) d b)):=by
 have h:=fzP (dw d x y).toArray (dw b o l).toArray [gI n d.1 b.1,gI n d.2 b.2] rfl m w A (fun M g t a z v i h hi w' c=>by
  match i,hi with
  |0,_=>exact dzs g t (aZ d.1 x) (aZ b.1 o) _ M w' c rfl rfl (fun j u k=>z _ u (by simpa using ku (y:=y) k)) (fun j u k=>v _ u (by simpa using ku (y:=l) k)) (H d.1 b.1 x o M w' c (f.le a) (C.le a) (r.le a) s.1 p.1)
  | 1,_=>exact dzr g t (aZ d.2 y) (aZ b.2 l) _ M w' c rfl rfl (fun j u k=>z _ u (by simpa using nP (x:=x) k)) (fun j u k=>v _ u (by simpa using nP (x:=o) k)) (H d.2 b.2 y l M w' c (f.le a) (B.le a) (q.le a) s.2 p.2))
 rw[I1]at h;exact h
theorem Uz{n:Nat}(H:EO n)(v v':zV)(l l':List Vd)(m:Mem)(w:zW)(C:m.az w)(a:eD m)(h:bD (aY m n) m v l)(D:bD (aY m n) m v' l')(u:∀d∈l,AO n d)(f:∀d∈l',AO n d):
 zX 267 #[v,v',.func (.func 268) #[] #[]] w (.j (eB (vdC (gI n)) l l')):=
 dze (vdC (gI n)) (fun b o d=>AJ (aY m n) m b o d/\AO n d) (fun cs d=>(∃x y,cs=dw d x y/\aY m n x d.1/\aY m n y d.2)/\AO n d) v v' l l' m w C
  (fun b o d q=>by obtain⟨x,y,p,c,r⟩:=q.1.cells;exact⟨_,rfl,p,fG c r,⟨x,y,rfl,c,r⟩,q.2⟩)
  (fun cs F d E w' k p c=>by
   obtain⟨⟨x,y,rfl,B,A⟩,z⟩:=p;obtain⟨⟨t,s,rfl,j,i⟩,g⟩:=c;exact Jj H d E x y t s m w' k a B A j i z g) (fw h u) (fw D f)
theorem azZ{n:Nat}(H:EO n)(f a:Fd)(x y k d:Sl)(m:Mem)(w:zW)(A:m.az w)(l:eD m)(C:aY m n x f.2.1)(B:aY m n y f.2.2)(q:aY m n k a.2.1)(p:aY m n d a.2.2)(z:AO n f.2)(o:AO n a.2):
 zX 271 #[.agg (qx f x y).toArray,.agg (qx a k d).toArray] w (.j (fdC (gI n) f a)):=by
 have h:=fzO (qx f x y).toArray (qx a k d).toArray [Gz f.1.1 a.1.1,Nw f.1.2 a.1.2,vdC (gI n) f.2 a.2] rfl m w A (fun M g r b t s i h hi w' c=>by
  match i,hi with
  |0,_=>exact dzq g r f.1.1 a.1.1 _ M w' c (t 0 _ rfl) (s 0 _ rfl) ((Jh _ _ _).mono fun e v h=>⟨by rw[h.1,bzL];rfl,by rw[h.2];exact zR _ _⟩)
  |1,_=>exact dzp g r f.1.2 a.1.2 _ M w' c (t 1 _ rfl) (s 1 _ rfl) ((Tryz.cmp_Compare_int _ _ _).mono fun e v h=>⟨h.1,by rw[h.2];exact zR _ _⟩)
  | 2,_=>exact dzo g r (dw f.2 x y) (dw a.2 k d) _ M w' c rfl rfl (fun j u hj=>t _ u qhL) (fun j u hj=>s _ u qhL) (Jj H f.2 a.2 x y k d M w' c (l.le b) (C.le b) (B.le b) (q.le b) (p.le b) z o))
 rw[QF,<-Xj]at h;exact h
theorem Yl{n:Nat}(H:EO n)(v v':zV)(l l':List Fd)(m:Mem)(w:zW)(C:m.az w)(a:eD m)(h:gG (aY m n) m v l)(D:gG (aY m n) m v' l')(u:∀d∈l,AO n d.2)(f:∀d∈l',AO n d.2):
 zX 270 #[v,v',.func (.func 271) #[] #[]] w (.j (eB (fdC (gI n)) l l')):=
 dzh (fdC (gI n)) (fun b o d=>JJ (aY m n) m b o d/\AO n d.2) (fun cs d=>(∃x y,cs=qx d x y/\aY m n x d.2.1/\aY m n y d.2.2)/\AO n d.2) v v' l l' m w C
  (fun b o d q=>by obtain⟨x,y,p,c,r⟩:=q.1.cells;exact⟨_,rfl,p,mM c r,⟨x,y,rfl,c,r⟩,q.2⟩)
  (fun cs F d E w' k p c=>by
   obtain⟨⟨x,y,rfl,B,A⟩,z⟩:=p;obtain⟨⟨t,s,rfl,j,i⟩,g⟩:=c;exact azZ H d E x y t s m w' k a B A j i z g) (fw h u) (fw D f)
def U6(n:Nat)(k:Kl):Prop:=AO n k.2/\k.1.length<=729
theorem fzn{a b:Nat}(h:a<=729)(c:b<=729):(a+2)*(b+2)<=900000:=yJ (xV (Nat.add_le_add_right h 2) (Nat.add_le_add_right c 2)) zD
theorem azY{n:Nat}(H:EO n)(f b:Kl)(u p:zV)(x y o l:Sl)(m:Mem)(w:zW)(G:m.az w)(k:eD m)(F:aV m u f.1)(r:aV m p b.1)(A:aY m n x f.2.1)(t:aY m n y f.2.2)(v:aY m n o b.2.1)(s:aY m n l b.2.2)(B:U6 n f)(q:U6 n b):
 zX 277 #[.agg (nE f u x y).toArray,.agg (nE b p o l).toArray] w (.j (klC (gI n) f b)):=by
 have h:=fzN (nE f u x y).toArray (nE b p o l).toArray [nX f.1 b.1,vdC (gI n) f.2 b.2] rfl m w G (fun M g C a E D i h hi w' d=>by
  match i,hi with
  |0,_=>exact dzn g C u p _ M w' d (E 0 _ rfl) (D 0 _ rfl) ((pV u p f.1 b.1 M w' d (k.le a) (bq a F) (bq a r) (yJ (fzn B.2 q.2) zD)).mono fun e w2 ⟨c,A,t,I⟩=>⟨by rw[A,CV I];rfl,t⟩)
  | 1,_=>exact dzm g C (dw f.2 x y) (dw b.2 o l) _ M w' d rfl rfl (fun j z hj=>E _ z qhM) (fun j z hj=>D _ z qhM) (Jj H f.2 b.2 x y o l M w' d (k.le a) (A.le a) (t.le a) (v.le a) (s.le a) B.1 q.1))
 rw[I1]at h;exact h
theorem Yk{n:Nat}(H:EO n)(v v':zV)(l l':List Kl)(m:Mem)(w:zW)(G:m.az w)(a:eD m)(h:gM (aY m n) m v l)(I:gM (aY m n) m v' l')(C:∀d∈l,U6 n d)(g:∀d∈l',U6 n d):
 zX 276 #[v,v',.func (.func 277) #[] #[]] w (.j (eB (klC (gI n)) l l')):=
 dzg (klC (gI n)) (fun b o d=>Km (aY m n) m b o d/\U6 n d) (fun cs d=>(∃u x y,cs=nE d u x y/\aV m u d.1/\aY m n x d.2.1/\aY m n y d.2.2)/\U6 n d) v v' l l' m w G
  (fun b o d s=>by obtain⟨u,x,y,c,r,f,t⟩:=s.1.cells;exact⟨_,rfl,r,mK c f t,⟨u,x,y,rfl,c,f,t⟩,s.2⟩)
  (fun cs K d J w' q r f=>by
   obtain⟨⟨u,x,y,rfl,c,F,E⟩,D⟩:=r;obtain⟨⟨B,A,z,rfl,p,k,j⟩,i⟩:=f;exact azY H d J u B x y A z m w' q a c p F E k j D i) (fw h C) (fw I g)
def JL(n:Nat)(c:St):Prop:=(∀f∈c.1,AO n f.2)/\∀k∈c.2,U6 n k
theorem azW{n:Nat}(H:EO n)(o l d b:zV)(c k:St)(m:Mem)(w:zW)(x:m.az w)(j:eD m)(z:gG (aY m n) m o c.1)(y:gM (aY m n) m l c.2)(r:gG (aY m n) m d k.1)(q:gM (aY m n) m b k.2)(s:JL n c)(p:JL n k):
 zX 228 #[.agg #[o,l],.agg #[d,b]] w (.j (KJ (gI n) c k)):=by
 have h:=fzL #[o,l] #[d,b] [eB (fdC (gI n)) c.1 k.1,eB (klC (gI n)) c.2 k.2] rfl m w x (fun M g t a v u i h hi w' f=>by
  match i,hi with
  |0,_=>exact dzc g t o d _ M w' f (v 0 _ rfl) (u 0 _ rfl) (Yl H o d c.1 k.1 M w' f (j.le a) (gG.le a (fun _ _=>aY.le a) z) (gG.le a (fun _ _=>aY.le a) r) s.1 p.1)
  | 1,_=>exact dzb g t l b _ M w' f (v 1 _ rfl) (u 1 _ rfl) (Yk H l b c.2 k.2 M w' f (j.le a) (gM.le a (fun _ _=>aY.le a) y) (gM.le a (fun _ _=>aY.le a) q) s.2 p.2))
 rw[I1]at h;exact h
theorem gT{α:Type}{R:Nat->Nat->α->Prop}{size:Nat}{v:zV}{l:List α}(h:Mem.slice R size v l):v.oneCell'=true:=by obtain⟨a,c,rfl,-⟩:=h;rfl
theorem Ky{m:Mem}{b o:Nat}{u a:zV}(e:m.cell b o=some u)(d:m.cell b (o+1)=some a):∀j z,[u,a][j]?=some z->m.cell b (o+j)=some z:=fun j z c=>by
 match j,c with
 |0,h=>cases h;exact e
 |1,h=>cases h;exact d
theorem Yg{n:Nat}(H:EO n)(v v':zV)(l l':List St)(m:Mem)(w:zW)(E:m.az w)(c:eD m)(h:vQ (aY m n) m v l)(I:vQ (aY m n) m v' l')(A:∀d∈l,JL n d)(f:∀d∈l',JL n d):
 zX 227 #[v,v',.func (.func 228) #[] #[]] w (.j (eB (KJ (gI n)) l l')):=
 dzi (KJ (gI n)) (fun b o d=>OG (aY m n) m b o d/\JL n d) (fun cs d=>(∃u a,cs=[u,a]/\gG (aY m n) m u d.1/\gM (aY m n) m a d.2)/\JL n d) v v' l l' m w E
  (fun b o d F=>by
   obtain⟨⟨u,a,q,p,s,r⟩,G⟩:=F;exact⟨[u,a],rfl,Ky q p,by simp[gT s,gT r],⟨u,a,rfl,s,r⟩,G⟩)
  (fun cs K d J w' k q p=>by
   obtain⟨⟨x,y,rfl,D,C⟩,B⟩:=q;obtain⟨⟨z,t,rfl,j,i⟩,g⟩:=p;exact azW H x y z t d J m w' k c D C j i B g) (fw h A) (fw I f)
def JM(n:Nat)(c:Lc):Prop:=(∀x∈aX c,AO n x)/\(aX c).length<=1048576
theorem azX{n:Nat}(H:EO n)(o l f d:zV)(c b:Lc)(m:Mem)(w:zW)(F:m.az w)(q:eD m)(D:bD (aY m n) m o c.1)(C:bD (aY m n) m l c.2)(t:bD (aY m n) m f b.1)(s:bD (aY m n) m d b.2)(B:JM n c)(p:JM n b):
 zX 225 #[.agg #[o,l],.agg #[f,d]] w (.j (Lm (gI n) c b)):=by
 have r:c.1.length+c.2.length<=1048576:=by have:=B.2;rwa [aX,zL]at this
 have k:b.1.length+b.2.length<=1048576:=by have:=p.2;rwa [aX,zL]at this
 have h:=fzM #[o,l] #[f,d] [Nw c.1.length b.1.length,Bb (decide (0<c.2.length)) (decide (0<b.2.length)),eB (vdC (gI n)) (aX c) (aX b)] rfl m w F (fun M g A a x u i h hi w' j=>by
  match i,hi with
  |0,_=>exact dzl g A o f c.1 b.1 M w' j (x 0 _ rfl) (u 0 _ rfl) (bD.gB a D) (bD.gB a t)
  |1,_=>exact dzk g A l d c.2 b.2 M w' j (x 1 _ rfl) (u 1 _ rfl) (bD.gB a C) (bD.gB a s)
  | 2,_=>exact dzj g A o l f d c b n _ M w' j (x 0 _ rfl) (x 1 _ rfl) (u 0 _ rfl) (u 1 _ rfl) (bD.gB a D) (bD.gB a C) (bD.gB a t) (bD.gB a s) r k (fun J v v' E z y I G=>Uz H v v' _ _ J E y ((q.le a).le z) I G B.1 p.1))
 rw[QF]at h;exact h
theorem Yj{n:Nat}(H:EO n)(v v':zV)(l l':List Lc)(m:Mem)(w:zW)(E:m.az w)(c:eD m)(h:vT (aY m n) m v l)(I:vT (aY m n) m v' l')(A:∀d∈l,JM n d)(f:∀d∈l',JM n d):
 zX 224 #[v,v',.func (.func 225) #[] #[]] w (.j (eB (Lm (gI n)) l l')):=
 dzf (Lm (gI n)) (fun b o d=>OO (aY m n) m b o d/\JM n d) (fun cs d=>(∃u a,cs=[u,a]/\bD (aY m n) m u d.1/\bD (aY m n) m a d.2)/\JM n d) v v' l l' m w E
  (fun b o d F=>by
   obtain⟨⟨u,a,q,p,s,r⟩,G⟩:=F;exact⟨[u,a],rfl,Ky q p,by simp[gT s,gT r],⟨u,a,rfl,s,r⟩,G⟩)
  (fun cs K d J w' k q p=>by
   obtain⟨⟨x,y,rfl,D,C⟩,B⟩:=q;obtain⟨⟨z,t,rfl,j,i⟩,g⟩:=p;exact azX H x y z t d J m w' k c D C j i B g) (fw h A) (fw I f)
theorem EN.lc{n:Nat}{v:Vl}(h:EN (n+1) v){c:Lc}(a:c∈v.aJ):JM n c:=⟨fun x b=>h.kid (dM a b),by rw[aX,zL];exact Il h.few.ht h.cnt a⟩
theorem EN.st{n:Nat}{v:Vl}(h:EN (n+1) v){c:St}(a:c∈v.ay):JL n c:=⟨fun _ b=>h.kid (oC a b),fun k hk=>⟨h.kid (oG a hk),(h.few.1.st c a).set k hk⟩⟩
theorem EN.le{n:Nat}{v:Vl}(h:EN (n+1) v):jW v.s 8 8:=⟨h.few.1.i,h.few.1.fr,h.few.1.t⟩
theorem PX{v:Vl}{s:Sl}{j:Nat}{u:zV}(h:([.bool v.s.dL,.bool v.s.dS,.bool v.s.dW,s.i,s.f,s.t]:List Value)[j]?=some u):(aZ v s).toArray[1+j]?=some u:=by
 match j,h with
 |0,h=>exact h
 |1,h=>exact h
 |2,h=>exact h
 |3,h=>exact h
 |4,h=>exact h
 |5,h=>exact h
theorem ezI{n:Nat}(H:EO n):EO (n+1):=fun v v' s b m w G d I A q o=>by
 have h:=fzK (aZ v s).toArray (aZ v' b).toArray [Bb v.any v'.any,scC v.s v'.s,eB (Lm (gI n)) v.aJ v'.aJ,eB (KJ (gI n)) v.ay v'.ay] rfl m w G (fun M g r k y x i h hi w' a=>by
  have C:aY M (n+1) s v:=I.le k;have B:aY M (n+1) b v':=A.le k
  match i,hi with
  |0,_=>exact O4 g r v.any v'.any M w' a (y 0 _ rfl) (x 0 _ rfl)
  |1,_=>exact dza g r [.bool v.s.dL,.bool v.s.dS,.bool v.s.dW,s.i,s.f,s.t] [.bool v'.s.dL,.bool v'.s.dS,.bool v'.s.dW,b.i,b.f,b.t] _ M w' a rfl rfl (fun j u z=>y _ u (PX z)) (fun j u z=>x _ u (PX z)) ((AZ s.i s.f s.t v.s b.i b.f b.t v'.s 8 8 8 8 M w' a (d.le k) C.1 B.1 q.le o.le zD zD zD).mono fun e w2 ⟨c,F,E,D⟩=>⟨by rw[F,VV D q.snd.1.sc o.snd.1.sc];rfl,E⟩)
  |2,_=>exact cz9 g r s.l b.l _ M w' a (y 7 _ rfl) (x 7 _ rfl) (Yj H s.l b.l v.aJ v'.aJ M w' a (d.le k) C.2.1 B.2.1 (fun c p=>q.lc p) (fun c p=>o.lc p))
  | 3,_=>exact cz8 g r s.s b.s _ M w' a (y 8 _ rfl) (x 8 _ rfl) (Yg H s.s b.s v.ay v'.ay M w' a (d.le k) C.2.2 B.2.2 (fun c p=>q.st p) (fun c p=>o.st p)))
 rw[azz]at h;exact h
theorem Gp:∀n,EO n
 |0=>fun _ _ _ _ _ _ _ _ h=>h.elim
 |n+1=>ezI (Gp n)
def Qv{α:Type}(p:α->Bool)(l:List α):Int:=match l.findIdx? p with
 |some i=>i
 |none => -1
theorem TM{α:Type}{p:α->Bool}{l:List α}{i:Nat}(hi:i<l.length)(h:∀j (a:j<l.length),j<i->p l[j]=false)(e:p l[i]=true):Qv p l=i:=by
 unfold Qv;rw[List.findIdx?_eq_some_iff_getElem.2 ⟨hi,e,fun j a=>by rw[h j zo a];simp⟩]
theorem TL{α:Type}{p:α->Bool}{l:List α}(h:∀j (a:j<l.length),p l[j]=false):Qv p l = -1:=by
 unfold Qv;rw[List.findIdx?_eq_none_iff.2 fun x b=>by obtain⟨j,a,rfl⟩:=yX b;exact h j a]
theorem azl{α:Type}(p:α->Bool)(l:List α):decide (Qv p l >= 0)=l.any p:=by
 unfold Qv
 cases h:l.findIdx? p with
 |none=>rw[List.findIdx?_eq_none_iff]at h;symm;simpa using h
 |some i=>
  obtain⟨hi,a,-⟩:=List.findIdx?_eq_some_iff_getElem.1 h;have:l.any p=true:=List.any_eq_true.2 ⟨_,zF hi,a⟩;rw[this];simp
def bzq(g:Nat)(a:Array Value)(m:Mem)(k:Nat){α:Type}(p:α->Bool)(b o:Nat)(x:α):Prop:=
 ∃cs:List Value,cs.length=k/\(∀j u,cs[j]?=some u->m.cell b (o+j)=some u)/\∀w',m.az w'->zC g (#[.agg cs.toArray]++a) w' fun e c=>e=.returned (.bool (p x))/\Below w'.heap.size w' c
theorem czr{α:Type}(p:α->Bool)(g:Nat)(f:Array Value)(v:zV)(l:List α)(m:Mem)(w:zW)(H:m.az w)(L:∀args w,(callFunc g args).run prog w=.ok (.enter g args) w)(B:Mem.slice (bzq g f m 2 p) 2 v l):
 zX 111 #[v,.func (.func g) #[] f] w (.j (Qv p l)):=by
 obtain⟨a,c,rfl,K,I,E⟩:=B;unfold maxLen at I;have J:=zh E;have HO:=zh (Own.start H);clear E;refine au fun R hR=>?_
 go_enter func111,ntmps111
 go_wp2;refine aB [0,1,7,8] (fun n A t=>∃k:Nat,k<=l.length/\n=l.length-k/\A=[.slice a l.length c,.func (.func g) #[] f,.j l.length,.j k]/\(∀j (hj:j<l.length),j<k->p l[j]=false)/\Own w m t m []) ?_ ?_
 .exact qbO
 clear HO;rintro X z n A t hX-⟨k,hk,rfl,rfl,C,hO⟩;have HA:=zh C;clear C;simp[bz,lk];by_cases hlt:k<l.length
 case neg=>
  exact qgH
 obtain⟨b,off,rfl,D⟩:=J.o qdJ;obtain⟨cs,s,i,d⟩:=D k hlt;have q:=i 0 (cs[0]'zo) (yH _);have G:=bzu hO.az q;have F:=zh (fun j u hj=>azk hO.az (i j u hj));have HF:=zh (d t hO.az);have HO:=zh hO;have y:=zh (fun h=>TM (p:=p) hlt (fun j hj hlt=>HA.o j hj hlt) h);have x:=zh (show p l[k]=false->∀j (hj:j<l.length),j<k+1->p l[j]=false from fun h j hj B=>by
  by_cases e:j=k
  .exact qbR
  .exact HA.o j hj zo)
 clear hO D i d q HA;generalize p l[k]=r at*
 cases r with
 |true=>
  have HL:=zh (y.o rfl);clear y x hX
  go_wp2_with (first
   |refine aj EU rfl (.tmp 14) rfl rfl cs s F.o ?_
   | fail)
  refine HF.o.mono ?_;rintro e w1 ⟨rfl,hb1⟩;have HB:=zh (HO.o.aT hb1).aF;clear HO HF hb1;go_wp2
  exact qa3
 |false=>
  have HN2:=zh (x.o rfl);clear y x
  go_wp2_with (first
   |refine aj EU rfl (.tmp 14) rfl rfl cs s F.o ?_
   | fail)
  exact qaE
theorem czt{α:Type}(p:α->Bool)(g:Nat)(f:Array Value)(v:zV)(l:List α)(m:Mem)(w:zW)(H:m.az w)(L:∀args w,(callFunc g args).run prog w=.ok (.enter g args) w)(B:Mem.slice (bzq g f m 2 p) 2 v l):
 zX 112 #[v,.func (.func g) #[] f] w (.j (Qv p l)):=by
 obtain⟨a,c,rfl,K,I,E⟩:=B;unfold maxLen at I;have J:=zh E;have HO:=zh (Own.start H);clear E;refine au fun R hR=>?_
 go_enter func112,ntmps112
 go_wp2;refine aB [0,1,7,8] (fun n A t=>∃k:Nat,k<=l.length/\n=l.length-k/\A=[.slice a l.length c,.func (.func g) #[] f,.j l.length,.j k]/\(∀j (hj:j<l.length),j<k->p l[j]=false)/\Own w m t m []) ?_ ?_
 .exact qbO
 clear HO;rintro X z n A t hX-⟨k,hk,rfl,rfl,C,hO⟩;have HA:=zh C;clear C;simp[bz,lk];by_cases hlt:k<l.length
 case neg=>
  exact qgH
 obtain⟨b,off,rfl,D⟩:=J.o qdJ;obtain⟨cs,s,i,d⟩:=D k hlt;have q:=i 0 (cs[0]'zo) (yH _);have G:=bzu hO.az q;have F:=zh (fun j u hj=>azk hO.az (i j u hj));have HF:=zh (d t hO.az);have HO:=zh hO;have y:=zh (fun h=>TM (p:=p) hlt (fun j hj hlt=>HA.o j hj hlt) h);have x:=zh (show p l[k]=false->∀j (hj:j<l.length),j<k+1->p l[j]=false from fun h j hj B=>by
  by_cases e:j=k
  .exact qbR
  .exact HA.o j hj zo)
 clear hO D i d q HA;generalize p l[k]=r at*
 cases r with
 |true=>
  have HL:=zh (y.o rfl);clear y x hX
  go_wp2_with (first
   |refine aj Cs rfl (.tmp 14) rfl rfl cs s F.o ?_
   | fail)
  refine HF.o.mono ?_;rintro e w1 ⟨rfl,hb1⟩;have HB:=zh (HO.o.aT hb1).aF;clear HO HF hb1;go_wp2
  exact qa3
 |false=>
  have HN2:=zh (x.o rfl);clear y x
  go_wp2_with (first
   |refine aj Cs rfl (.tmp 14) rfl rfl cs s F.o ?_
   | fail)
  exact qaE
theorem czs{α:Type}(p:α->Bool)(g:Nat)(f:Array Value)(v:zV)(l:List α)(m:Mem)(w:zW)(H:m.az w)(L:∀args w,(callFunc g args).run prog w=.ok (.enter g args) w)(B:Mem.slice (bzq g f m 19 p) 19 v l):
 zX 122 #[v,.func (.func g) #[] f] w (.j (Qv p l)):=by
 obtain⟨a,c,rfl,K,I,E⟩:=B;unfold maxLen at I;have J:=zh E;have HO:=zh (Own.start H);clear E;refine au fun R hR=>?_
 go_enter func122,ntmps122
 go_wp2;refine aB [0,1,7,8] (fun n A t=>∃k:Nat,k<=l.length/\n=l.length-k/\A=[.slice a l.length c,.func (.func g) #[] f,.j l.length,.j k]/\(∀j (hj:j<l.length),j<k->p l[j]=false)/\Own w m t m []) ?_ ?_
 .exact qbO
 clear HO;rintro X z n A t hX-⟨k,hk,rfl,rfl,C,hO⟩;have HA:=zh C;clear C;simp[bz,lk];by_cases hlt:k<l.length
 case neg=>
  exact qgH
 obtain⟨b,off,rfl,D⟩:=J.o qdJ;obtain⟨cs,s,i,d⟩:=D k hlt;have q:=i 0 (cs[0]'zo) (yH _);have G:=bzu hO.az q;have F:=zh (fun j u hj=>azk hO.az (i j u hj));have HF:=zh (d t hO.az);have HO:=zh hO;have y:=zh (fun h=>TM (p:=p) hlt (fun j hj hlt=>HA.o j hj hlt) h);have x:=zh (show p l[k]=false->∀j (hj:j<l.length),j<k+1->p l[j]=false from fun h j hj B=>by
  by_cases e:j=k
  .exact qbR
  .exact HA.o j hj zo)
 clear hO D i d q HA;generalize p l[k]=r at*
 cases r with
 |true=>
  have HL:=zh (y.o rfl);clear y x hX
  go_wp2_with (first
   |refine aj qB rfl (.tmp 14) rfl rfl cs s F.o ?_
   | fail)
  refine HF.o.mono ?_;rintro e w1 ⟨rfl,hb1⟩;have HB:=zh (HO.o.aT hb1).aF;clear HO HF hb1;go_wp2
  exact qa3
 |false=>
  have HN2:=zh (x.o rfl);clear y x
  go_wp2_with (first
   |refine aj qB rfl (.tmp 14) rfl rfl cs s F.o ?_
   | fail)
  exact qaE
theorem azq{α:Type}(p:α->Bool)(g:Nat)(a:Array Value)(v:zV)(l:List α)(m:Mem)(w:zW)(f:m.az w)(d:∀args w,(callFunc g args).run prog w=.ok (.enter g args) w)(c:Mem.slice (bzq g a m 2 p) 2 v l):
 zX 70 #[v,.func (.func g) #[] a] w (.bool (l.any p)):=by
 have i:=zh (czr p g a v l m w f d c);have j:=zh (azl p l);generalize Qv p l=r at*
 clear c d;refine au fun R h=>?_
 go_enter func70,ntmps70
 go_wp2_with (go_at_call 111;refine i.o.mono ?_;rintro e k ⟨rfl,b⟩)
 exact h.o _ _ ⟨aP (by rw[<-j.o]),b⟩
theorem azr{α:Type}(p:α->Bool)(g:Nat)(a:Array Value)(v:zV)(l:List α)(m:Mem)(w:zW)(f:m.az w)(d:∀args w,(callFunc g args).run prog w=.ok (.enter g args) w)(c:Mem.slice (bzq g a m 2 p) 2 v l):
 zX 73 #[v,.func (.func g) #[] a] w (.bool (l.any p)):=by
 have i:=zh (czt p g a v l m w f d c);have j:=zh (azl p l);generalize Qv p l=r at*
 clear c d;refine au fun R h=>?_
 go_enter func73,ntmps73
 go_wp2_with (go_at_call 112;refine i.o.mono ?_;rintro e k ⟨rfl,b⟩)
 exact h.o _ _ ⟨aP (by rw[<-j.o]),b⟩
theorem QL:∀args w,(callFunc 71 args).run prog w=.ok (.enter 71 args) w:=enters_of func71 zk rfl
theorem Ya(cs a:List Value)(t:cs.length=2)(f:a.length=2)(k i:Nat)(r:Bool)(m:Mem)(w:zW)(s:m.az w)(l:m.cell k 0=some (.func (.func 50) #[] #[]))(g:∀j u,cs[j]?=some u->m.cell i (0+j)=some u)
(h:∀w',m.az w'->zC 50 #[.agg cs.toArray,.agg a.toArray] w' fun e d=>e=.returned (.bool r)/\Below w'.heap.size w' d):
 zX 71 (#[.agg a.toArray]++#[.pointer (some ⟨k,0,none⟩),.pointer (some ⟨i,0,none⟩)]) w (.bool r):=by
 have b:=(Own.start s).al a.toArray 50;have z:=azk b.az l;have p:=bzu b.az l;have c:=g 0 (cs[0]'zo) (yH _);have n:=bzu b.az c;have x:=zh (fun j u v=>azk b.az (g j u v));have y:=zh (h _ b.az);have q:=b.obj.all;have HO:=zh b;clear g h b c;refine au fun R hR=>?_
 go_enter func71,ntmps71
 go_wp2_with (first
  |refine aj EU rfl (.tmp 2) rfl rfl cs t x.o ?_
  |refine aj EU rfl (.tmp 3) rfl rfl a f q ?_
  | (go_at_call 50;refine y.o.mono ?_;rintro e A ⟨rfl,hb1⟩))
 exact qay
theorem azN{α:Type}(Q:α->α->Prop)(A A':Nat->Nat->α->Prop)(Rp I:List Value->α->Prop)(v v':zV)(l l':List α)(m:Mem)(w:zW)(hm:m.az w)
(hA:∀b o x,A b o x->∃cs:List Value,cs.length=2/\(∀j u,cs[j]?=some u->m.cell b (o+j)=some u)/\(∀u∈cs,u.oneCell'=true)/\Rp cs x)
(H:∀b o x,A' b o x->∃cs:List Value,cs.length=2/\(∀j u,cs[j]?=some u->m.cell b (o+j)=some u)/\I cs x)
(hc:∀cs d x s w',m.az w'->Rp cs x->I d s->zC 50 #[.agg cs.toArray,.agg d.toArray] w' fun e i=>e=.returned (.bool (tf (Q x s)))/\Below w'.heap.size w' i)
(hl:Mem.slice A 2 v l)(G:Mem.slice A' 2 v' l'):
 zX 49 #[v,v',.func (.func 50) #[] #[]] w (.bool (tf (∀x∈l,∃y∈l',Q x y))):=by
 obtain⟨a,c,rfl,h1,h2,h3⟩:=hl;unfold maxLen at h2;have HK:=zh h3;have W:=zh (zi hA (zi H hc));have V:=zh G;obtain⟨a',c',rfl,-⟩:=G;obtain⟨mk,hO,hle,hci⟩:=((Own.start hm).al #[.func (.func 50) #[] #[]] 86).AY;have HO:=zh (zi hO (zi hle hci));clear h3 hA H hc hO hle hci;refine au fun R hR=>?_
 go_enter func49,ntmps49
 go_wp2;refine aB [1,5,9,10,11] (fun n Z J=>∃(k:Nat) (mk:Mem),k<=l.length/\n=l.length-k/\Z=[.slice a' l'.length c',.p w.heap.size,.slice a l.length c,.j l.length,.j k]/\(∀j (hj:j<l.length),j<k->∃y∈l',Q l[j] y)/\Own w m J mk []/\m.le mk/\mk.cell w.heap.size 0=some (.func (.func 50) #[] #[])) ?_ ?_
 .exact qdf
 clear HO;rintro X z n Z J hX-⟨k,mk,hk,rfl,rfl,hD,hO,hle,hci⟩;have HD:=zh hD;clear hD;simp[bz,lk];by_cases hlt:k<l.length
 case neg=>
  exact qgO
 obtain⟨b,off,rfl,h4⟩:=HK.o qdJ;obtain⟨cs,hl1,q,E,C⟩:=W.o.1 _ _ _ (h4 k hlt);have B:=bzv hle (q 0 (cs[0]'zo) (yH _));have t':=bzu hO.az B;have HC:=zh (fun j u hj=>azk hO.az (bzv hle (q j u hj)));have H1:=zh E;have HO:=zh (hO.al #[.slice none 0 0,.slice none 0 0] 50);have U:=zh (zi hle hci);have T:=zh (show(∃y∈l',Q l[k] y)->∀j (hj:j<l.length),j<k+1->∃y∈l',Q l[j] y from fun h j hj hl=>by
  by_cases e:j=k
  .exact qbR
  .exact HD.o j hj zo)
 have S:=zh (show ¬(∃y∈l',Q l[k] y)->¬∀x∈l,∃y∈l',Q x y from fun h k'=>h (k' _ (zF hlt)));have HR:=zh (fun d s w' (h:m.az w') h'=>W.o.2.2 cs d l[k] s w' h C h');clear hO hle hci q E C B HD h4;generalize l[k]=x at*
 go_wp2_with (first
  |refine aj EU rfl (.tmp 13) rfl rfl cs hl1 HC.o ?_
  |(refine aA EU rfl (.tmp 8) (.tmp 14) rfl (cs:=cs.toArray) rfl rfl rfl qdU (fun u hu=>H1.o u qdL) HO.o.obj ?_;intro Y ob1 hg1)
  | fail)
 obtain⟨mk2,p,r,c2⟩:∃mk2,mk.le mk2/\Own w m Y mk2 []/\∀j u,cs[j]?=some u->mk2.cell J.heap.size (0+j)=some u:=by
  exact qim
 have f:=Mem.le_trans U.o.1 p;have g:=bzv p U.o.2;have HF:=zh (azq (fun y=>tf (Q x y)) 71 #[.pointer (some ⟨w.heap.size,0,none⟩),.pointer (some ⟨J.heap.size,0,none⟩)] (.slice a' l'.length c') l' mk2 Y r.az QL
  (dzT V.o fun b o s L=>by
   obtain⟨d,F,O,N⟩:=W.o.2.1 _ _ _ L;exact⟨d,F,fun j u hj=>bzv f (O j u hj),fun w' M=>Ya cs d hl1 F _ _ _ mk2 w' M g c2 fun i P=>HR.o d s i (bzw f P) N⟩))
 have HO2:=zh (zi r (zi f g));have K:=zh (show l'.any (fun y=>tf (Q x y))=tf (∃y∈l',Q x y)by
  by_cases h:∃y∈l',Q x y
  .exact qcI
  .rw[aG h];exact List.any_eq_false.2 fun y hy k=>h ⟨y,hy,j4.1 k⟩)
 generalize l'.any (fun y=>tf (Q x y))=rr at*
 clear HO U HC H1 HR ob1 hg1 r f g p c2;by_cases t:∃y∈l',Q x y
 .have D:=K.o;rw[aN t]at D;subst D;have HN2:=zh (T.o t);clear T S t K
  go_wp2_with (go_at_call 70;refine HF.o.mono ?_;rintro e w2 ⟨rfl,hb2⟩)
  exact qcv
 .have D:=K.o;rw[aG t]at D;subst D;have HZ2:=zh (S.o t);clear T S t K hX
  go_wp2_with (go_at_call 70;refine HF.o.mono ?_;rintro e w2 ⟨rfl,hb2⟩)
  exact qhv
theorem QM:∀args w,(callFunc 74 args).run prog w=.ok (.enter 74 args) w:=enters_of func74 zk rfl
theorem Yb(cs a:List Value)(t:cs.length=2)(f:a.length=2)(k i:Nat)(r:Bool)(m:Mem)(w:zW)(s:m.az w)(l:m.cell k 0=some (.func (.func 52) #[] #[]))(g:∀j u,cs[j]?=some u->m.cell i (0+j)=some u)
(h:∀w',m.az w'->zC 52 #[.agg cs.toArray,.agg a.toArray] w' fun e d=>e=.returned (.bool r)/\Below w'.heap.size w' d):
 zX 74 (#[.agg a.toArray]++#[.pointer (some ⟨k,0,none⟩),.pointer (some ⟨i,0,none⟩)]) w (.bool r):=by
 have b:=(Own.start s).al a.toArray 62;have z:=azk b.az l;have p:=bzu b.az l;have c:=g 0 (cs[0]'zo) (yH _);have n:=bzu b.az c;have x:=zh (fun j u v=>azk b.az (g j u v));have y:=zh (h _ b.az);have q:=b.obj.all;have HO:=zh b;clear g h b c;refine au fun R hR=>?_
 go_enter func74,ntmps74
 go_wp2_with (first
  |refine aj Cs rfl (.tmp 2) rfl rfl cs t x.o ?_
  |refine aj Cs rfl (.tmp 3) rfl rfl a f q ?_
  | (go_at_call 52;refine y.o.mono ?_;rintro e A ⟨rfl,hb1⟩))
 exact qay
theorem azO{α:Type}(Q:α->α->Prop)(A A':Nat->Nat->α->Prop)(Rp I:List Value->α->Prop)(v v':zV)(l l':List α)(m:Mem)(w:zW)(hm:m.az w)
(hA:∀b o x,A b o x->∃cs:List Value,cs.length=2/\(∀j u,cs[j]?=some u->m.cell b (o+j)=some u)/\(∀u∈cs,u.oneCell'=true)/\Rp cs x)
(H:∀b o x,A' b o x->∃cs:List Value,cs.length=2/\(∀j u,cs[j]?=some u->m.cell b (o+j)=some u)/\I cs x)
(hc:∀cs d x s w',m.az w'->Rp cs x->I d s->zC 52 #[.agg cs.toArray,.agg d.toArray] w' fun e i=>e=.returned (.bool (tf (Q x s)))/\Below w'.heap.size w' i)
(hl:Mem.slice A 2 v l)(G:Mem.slice A' 2 v' l'):
 zX 51 #[v,v',.func (.func 52) #[] #[]] w (.bool (tf (∀x∈l,∃y∈l',Q x y))):=by
 obtain⟨a,c,rfl,h1,h2,h3⟩:=hl;unfold maxLen at h2;have HK:=zh h3;have W:=zh (zi hA (zi H hc));have V:=zh G;obtain⟨a',c',rfl,-⟩:=G;obtain⟨mk,hO,hle,hci⟩:=((Own.start hm).al #[.func (.func 52) #[] #[]] 88).AY;have HO:=zh (zi hO (zi hle hci));clear h3 hA H hc hO hle hci;refine au fun R hR=>?_
 go_enter func51,ntmps51
 go_wp2;refine aB [1,5,9,10,11] (fun n Z J=>∃(k:Nat) (mk:Mem),k<=l.length/\n=l.length-k/\Z=[.slice a' l'.length c',.p w.heap.size,.slice a l.length c,.j l.length,.j k]/\(∀j (hj:j<l.length),j<k->∃y∈l',Q l[j] y)/\Own w m J mk []/\m.le mk/\mk.cell w.heap.size 0=some (.func (.func 52) #[] #[])) ?_ ?_
 .exact qdf
 clear HO;rintro X z n Z J hX-⟨k,mk,hk,rfl,rfl,hD,hO,hle,hci⟩;have HD:=zh hD;clear hD;simp[bz,lk];by_cases hlt:k<l.length
 case neg=>
  exact qgO
 obtain⟨b,off,rfl,h4⟩:=HK.o qdJ;obtain⟨cs,hl1,q,E,C⟩:=W.o.1 _ _ _ (h4 k hlt);have B:=bzv hle (q 0 (cs[0]'zo) (yH _));have t':=bzu hO.az B;have HC:=zh (fun j u hj=>azk hO.az (bzv hle (q j u hj)));have H1:=zh E;have HO:=zh (hO.al #[.slice none 0 0,.slice none 0 0] 62);have U:=zh (zi hle hci);have T:=zh (show(∃y∈l',Q l[k] y)->∀j (hj:j<l.length),j<k+1->∃y∈l',Q l[j] y from fun h j hj hl=>by
  by_cases e:j=k
  .exact qbR
  .exact HD.o j hj zo)
 have S:=zh (show ¬(∃y∈l',Q l[k] y)->¬∀x∈l,∃y∈l',Q x y from fun h k'=>h (k' _ (zF hlt)));have HR:=zh (fun d s w' (h:m.az w') h'=>W.o.2.2 cs d l[k] s w' h C h');clear hO hle hci q E C B HD h4;generalize l[k]=x at*
 go_wp2_with (first
  |refine aj Cs rfl (.tmp 13) rfl rfl cs hl1 HC.o ?_
  |(refine aA Cs rfl (.tmp 8) (.tmp 14) rfl (cs:=cs.toArray) rfl rfl rfl qdU (fun u hu=>H1.o u qdL) HO.o.obj ?_;intro Y ob1 hg1)
  | fail)
 obtain⟨mk2,p,r,c2⟩:∃mk2,mk.le mk2/\Own w m Y mk2 []/\∀j u,cs[j]?=some u->mk2.cell J.heap.size (0+j)=some u:=by
  exact qim
 have f:=Mem.le_trans U.o.1 p;have g:=bzv p U.o.2;have HF:=zh (azr (fun y=>tf (Q x y)) 74 #[.pointer (some ⟨w.heap.size,0,none⟩),.pointer (some ⟨J.heap.size,0,none⟩)] (.slice a' l'.length c') l' mk2 Y r.az QM
  (dzT V.o fun b o s L=>by
   obtain⟨d,F,O,N⟩:=W.o.2.1 _ _ _ L;exact⟨d,F,fun j u hj=>bzv f (O j u hj),fun w' M=>Yb cs d hl1 F _ _ _ mk2 w' M g c2 fun i P=>HR.o d s i (bzw f P) N⟩))
 have HO2:=zh (zi r (zi f g));have K:=zh (show l'.any (fun y=>tf (Q x y))=tf (∃y∈l',Q x y)by
  by_cases h:∃y∈l',Q x y
  .exact qcI
  .rw[aG h];exact List.any_eq_false.2 fun y hy k=>h ⟨y,hy,j4.1 k⟩)
 generalize l'.any (fun y=>tf (Q x y))=rr at*
 clear HO U HC H1 HR ob1 hg1 r f g p c2;by_cases t:∃y∈l',Q x y
 .have D:=K.o;rw[aN t]at D;subst D;have HN2:=zh (T.o t);clear T S t K
  go_wp2_with (go_at_call 73;refine HF.o.mono ?_;rintro e w2 ⟨rfl,hb2⟩)
  exact qcv
 .have D:=K.o;rw[aG t]at D;subst D;have HZ2:=zh (S.o t);clear T S t K hX
  go_wp2_with (go_at_call 73;refine HF.o.mono ?_;rintro e w2 ⟨rfl,hb2⟩)
  exact qhv
theorem azn{c:Lc}{i:Nat}(h:i<c.1.length):jS c (i:Int)=(c.1[i],true):=by
 unfold jS;rw[dif_pos ⟨zo,by simpa using h⟩];rfl
theorem TP{c:Lc}{i:Int}(b:0<=i)(h:¬i.toNat<c.1.length)(a:0<c.2.length):jS c i=(c.2[0],true):=by
 unfold jS;rw[dif_neg (fun k=>h k.2),dif_pos ⟨b,a⟩]
theorem Qw{c:Lc}{i:Int}(h:i<0\/(¬i.toNat<c.1.length/\c.2.length=0)):jS c i=((dn,dn),false):=by
 unfold jS;rw[dif_neg (fun k=>by rcases h with h|h<;>omega),dif_neg (fun k=>by rcases h with h|h<;>omega)]
def Ry(m:Mem)(n:Nat)(r:Vd×Bool)(e:Ending):Prop:=∃x y,e=.returned (.tuple #[bQ r.1 x y,.bool r.2])/\aY m (n+1) x r.1.1/\aY m (n+1) y r.1.2
theorem O0(u A:zV)(c:Lc)(i:Int)(m:Mem)(n:Nat)(w:zW)(H:m.az w)(l:bD (aY m n) m u c.1)(q:bD (aY m n) m A c.2):
 zC 72 #[.agg #[u,A],.int .i64 i] w fun e w'=>Ry m n (jS c i) e/\zB w w':=by
 obtain⟨M,K,rfl,O,G,C⟩:=l;obtain⟨L,J,rfl,N,F,B⟩:=q;unfold maxLen at G F;have t:=(((Own.start H).al #[.slice M c.1.length K,.slice L c.2.length J] 50).al lZ 35);simp only[bB]at t;have HO:=zh t;have E:=zh (zi C B);clear t C B;refine au fun R hR=>?_;by_cases z:i<0
 .have P:decide (0<=i)=false:=zM zo;have I:decide (i<0)=true:=zN z;have HR:=zh (show Ry m n (jS c i) (.returned (.tuple #[bQ (dn,dn) dI dI,.bool false]))by
   rw[Qw (.inl z)];exact⟨dI,dI,rfl,(aY.leaf m false).mono zo,(aY.leaf m false).mono zo⟩)
  clear z
  go_enter func72,ntmps72
  go_wp2_with (first|refine aA ek rfl (.tmp 4) (.tmp 34) rfl (cs:=lZ) rfl rfl rfl rfl zD HO.o.obj ?_|refine aA ek rfl (.tmp 4) (.tmp 8) rfl (cs:=lZ) rfl rfl rfl rfl zD HO.o.obj ?_)
  exact qgI
 obtain⟨k,rfl⟩:=zT (by omega:0<=i);by_cases l:k<c.1.length
 .obtain⟨b,off,rfl,p⟩:=E.o.1 (by intro h;simp[h]at l);obtain⟨x,y,a,f,d⟩:=(p k l).cells;have hl:(dw c.1[k] x y).length=18:=rfl;have g:=fG f d;have s:=bzu HO.o.az (a 0 _ rfl);have HC:=zh (fun j u r=>azk HO.o.az (a j u r));have HR:=zh (show Ry m n (jS c (k:Int)) (.returned (.tuple #[bQ c.1[k] x y,.bool true]))by
   rw[azn l];exact⟨x,y,rfl,f.succ,d.succ⟩)
  unfold bQ at HR;generalize dw c.1[k] x y=D at*
  clear p a f d
  go_enter func72,ntmps72
  go_wp2_with (first
   |refine aj ek rfl (.tmp 19) rfl rfl D hl HC.o ?_
   |refine aj ek rfl (.tmp 17) rfl rfl D hl HC.o ?_
   | refine aA ek rfl (.tmp 4) (.tmp 20) rfl (cs:=D.toArray) rfl rfl rfl qdR (fun u hu=>g u qdL) HO.o.obj ?_)
  exact qgN
 by_cases q:0<c.2.length
 .obtain⟨b,off,rfl,p⟩:=E.o.2 (by intro h;simp[h]at q);obtain⟨x,y,a,f,d⟩:=(p 0 q).cells;simp only[Nat.zero_mul,Nat.add_zero]at a;have hl:(dw c.2[0] x y).length=18:=rfl;have g:=fG f d;have s:=bzu HO.o.az (a 0 _ rfl);have HC:=zh (fun j u r=>azk HO.o.az (a j u r));have HR:=zh (show Ry m n (jS c (k:Int)) (.returned (.tuple #[bQ c.2[0] x y,.bool true]))by
   rw[TP zo (by simpa using l) q];exact⟨x,y,rfl,f.succ,d.succ⟩)
  unfold bQ at HR;generalize dw c.2[0] x y=D at*
  clear p a f d
  go_enter func72,ntmps72
  go_wp2_with (first
   |refine aj ek rfl (.tmp 32) rfl rfl D hl HC.o ?_
   |refine aj ek rfl (.tmp 25) rfl rfl D hl HC.o ?_
   | refine aA ek rfl (.tmp 4) (.tmp 33) rfl (cs:=D.toArray) rfl rfl rfl qdR (fun u hu=>g u qdL) HO.o.obj ?_)
  exact qgN
 .have HR:=zh (show Ry m n (jS c (k:Int)) (.returned (.tuple #[bQ (dn,dn) dI dI,.bool false]))by
   rw[Qw (.inr ⟨by simpa using l,zo⟩)];exact⟨dI,dI,rfl,(aY.leaf m false).mono zo,(aY.leaf m false).mono zo⟩)
  go_enter func72,ntmps72
  go_wp2_with (refine aA ek rfl (.tmp 4) (.tmp 34) rfl (cs:=lZ) rfl rfl rfl rfl zD HO.o.obj ?_)
  exact qgI
theorem MP(d d':Vd)(x y x' y':Sl)(m:Mem)(n:Nat)(w:zW)(r:m.az w)(c:eD m)(h1:aY m n x d.1)(h2:aY m n y d.2)(h1':aY m n x' d'.1)(h2':aY m n y' d'.2)(kd:jg n d)(kd':jg n d')(f1:nV n d.1)(f2:nV n d.2):
 zX 11 #[bQ d x y,bQ d' x' y'] w (.bool (tf (d=d')&&(tf (iI d.1)&&tf (iI d.2)))):=by
 have hO:=((Own.start r).al (dw d x y).toArray 35).al (dw d' x' y').toArray 35;simp only[bB]at hO;have k:=zh qh6;have s:=zh (fun w' (h:m.az w')=>uJ d x y m n w' h c h1 h2 f1 f2 kd.1 kd.2);have i:(dw d x y).length=18:=rfl;have f:(dw d' x' y').length=18:=rfl;have HO:=zh hO;have j:=hO.av.obj.all;have b:=hO.obj.all;unfold bQ at*
 generalize dw d x y=D at*
 generalize dw d' x' y'=l at*
 clear hO h1 h2 h1' h2' f1 f2;generalize (tf (iI d.1)&&tf (iI d.2))=u at*
 generalize tf (d=d')=s2 at*
 refine au fun R hR=>?_
 go_enter func11,ntmps11
 cases s2
 .go_wp2_with (first
   |refine aj ek rfl (.tmp 2) rfl rfl D i j ?_
   |refine aj ek rfl (.tmp 3) rfl rfl l f b ?_
   | (go_at_call 31;refine k.o.mono ?_;rintro e p ⟨rfl,hb1⟩))
  exact qay
 .go_wp2_with (first
   |refine aj ek rfl (.tmp 3) rfl rfl l f b ?_
   |(go_at_call 31;refine k.o.mono ?_;rintro e p ⟨rfl,hb1⟩;have a:=HO.o.aT hb1;have q:=a.av.obj.all)
   |refine aj ek rfl (.tmp 2) rfl rfl D i q ?_
   |refine aj ek rfl (.tmp 2) rfl rfl D i j ?_
   | (go_at_call 17;refine(s.o _ a.az).mono ?_;rintro e t ⟨rfl,g⟩))
  exact hR.o _ _ ⟨rfl,(a.aT g).aF⟩
structure kC (n:Nat) (v:Vl):Prop where
 snd:ib n v
 fit:nV n v
 cnt:di n v<=1048576
def RD(n:Nat):Prop:=∀(v v':Vl) (s a:Sl) (m:Mem) (w:zW),m.az w->eD m->aY m n s v->aY m n a v'->kC n v->kC n v'->zX 32 #[v.val s,v'.val a] w (.bool (tf (df n v v')))
def vW(n:Nat)(d:Vd):Prop:=kC n d.1/\kC n d.2
theorem Tw{n:Nat}(H:RD n)(d d':Vd)(x y x' y':Sl)(m:Mem)(w:zW)(T:m.az w)(a:eD m)(L:aY m n x d.1)(K:aY m n y d.2)(r:aY m n x' d'.1)(q:aY m n y' d'.2)(C:vW n d)(c:vW n d'):
 zX 30 #[bQ d x y,bQ d' x' y'] w (.bool (tf (pO (df n) d d'))):=by
 have A:=((Own.start T).al (dw d x y).toArray 35).al (dw d' x' y').toArray 35;simp only[bB]at A;have z:=zh (H d.1 d'.1 x x' m _ A.az a L r C.1 c.1);have O:=zh (fun w' (h:m.az w')=>H d.2 d'.2 y y' m w' h a K q C.2 c.2);have J:(aZ d.1 x).length=9:=rfl;have F:(aZ d.2 y).length=9:=rfl;have p:(aZ d'.1 x').length=9:=rfl;have l:(aZ d'.2 y').length=9:=rfl;have P:=zh qhN;have v:=zh qh5;have t:=zh (show pO (df n) d d'↔df n d.1 d'.1/\df n d.2 d'.2 from Iff.rfl);have HO:=zh A;unfold Vl.val bQ at*
 generalize aZ d.1 x=N at*
 generalize aZ d.2 y=M at*
 generalize dw d x y=D at*
 generalize aZ d'.1 x'=N' at*
 generalize aZ d'.2 y'=s at*
 generalize dw d' x' y'=W at*
 clear A L K r q C c a;have I:=HO.o.av.obj.sub (o:=0) (cs:=N) fun j u f=>by simpa using P.o.1 j u f
 have k:=HO.o.obj.sub (o:=0) (cs:=N') fun j u f=>by simpa using v.o.1 j u f
 refine au fun R hR=>?_
 go_enter func30,ntmps30
 by_cases i:df n d.1 d'.1
 case neg=>
  have g:=z.o;rw[aG i]at g;have z:=zh g;have HX:=zh (show ¬pO (df n) d d' from fun h=>i (t.o.1 h).1);clear g O i t
  go_wp2_with (first|refine aj jI rfl (.tmp 5) rfl rfl N J I ?_|refine aj jI rfl (.tmp 7) rfl rfl N' p k ?_|(go_at_call 32;refine z.o.mono ?_;rintro e Q ⟨rfl,hb1⟩))
  exact qhz
 have g:=z.o;rw[aN i]at g;have G:=zh g;have HX:=zh (dY (show df n d.2 d'.2↔pO (df n) d d' from⟨fun h=>t.o.2 ⟨i,h⟩,fun h=>(t.o.1 h).2⟩));clear g z i t;generalize tf (df n d.2 d'.2)=V at*
 go_wp2_with (first
  |refine aj jI rfl (.tmp 5) rfl rfl N J I ?_
  |refine aj jI rfl (.tmp 7) rfl rfl N' p k ?_
  |refine aj jI rfl (.tmp 11) rfl rfl M F S ?_
  |refine aj jI rfl (.tmp 13) rfl rfl s l B ?_
  | (go_at_call 32;first
   |(refine(O.o _ b.az).mono ?_;rintro e U ⟨rfl,E⟩)
   | (refine G.o.mono ?_;rintro e Q ⟨rfl,hb1⟩;have b:=HO.o.aT hb1;have S:=b.av.obj.sub (o:=9) (cs:=M) (fun j u f=>by simpa using P.o.2 j u f);have B:=b.obj.sub (o:=9) (cs:=s) (fun j u f=>by simpa using v.o.2 j u f))))
 exact hR.o _ _ ⟨aP qex,(b.aT E).aF⟩
theorem azm{b:Lc}{i:Nat}(h:¬(b.2.length=0/\b.1.length<=i)):(jS b i).1∈aX b:=by
 rcases mQ b i with⟨h,e⟩|⟨_,h,e⟩|⟨c,a⟩
 .rw[e];exact mJ h
 .rw[e];exact lS h
 .exact absurd ⟨a,c⟩ h
theorem NL{n:Nat}(H:RD n)(a b:Lc)(u u2 u' Z:zV)(m:Mem)(w:zW)(hm:m.az w)(G:eD m)(h1:bD (aY m n) m u a.1)(h2:bD (aY m n) m u2 a.2)(I:bD (aY m n) m u' b.1)(M':bD (aY m n) m Z b.2)(ka:∀d∈aX a,vW n d)(kb:∀d∈aX b,vW n d):
 zX 50 #[.agg #[u,u2],.agg #[u',Z]] w (.bool (tf (uF (df n) a b))):=by
 have S:=zh (fun(i:Nat) w' (h:m.az w')=>O0 u' Z b i m n w' h I M');obtain⟨a1,c1,rfl,p1,q1,L⟩:=h1;obtain⟨a2,c2,rfl,p2,q2,K⟩:=h2;obtain⟨b1,d1,rfl,p1',q1',k1'⟩:=I;obtain⟨b2,d2,rfl,p2',q2',z'⟩:=M';unfold maxLen at q1 q2 q1' q2';have HK:=zh (zi L (zi K z'));have W:=zh (zi ka (zi kb G));have HL:=zh (czk (c:=df n) (a:=a) (b:=b));have v:=zh (fun d d' x y C B w' (h:m.az w') L K k3 k4 k5 k6=>Tw H d d' x y C B m w' h G L K k3 k4 k5 k6);have t:=((Own.start hm).al #[.slice a1 a.1.length c1,.slice a2 a.2.length c2] 50).al #[.slice b1 b.1.length d1,.slice b2 b.2.length d2] 50;simp only[bB]at t;have HO:=zh t;have HX:=zh (show ∃A:Prop,(A↔a.1.length<b.1.length\/(b.2.length=0/\(b.1.length<a.1.length\/0<a.2.length)))/\(A->¬uF (df n) a b) from⟨_,Iff.rfl,fun h k=>by
  have:=HL.o.1 k;rcases h with h|h
  .exact this.1 h
  .exact this.2.1 h⟩)
 clear t L K k1' z' ka kb G;obtain⟨A,I',H'⟩:=HX.o;have f:=zh (zi I' H');clear HX I' H';refine au fun R hR=>?_
 go_enter func50,ntmps50
 have g0:=HO.o.av.obj.c 0;have g1:=HO.o.av.obj.c 1;have g2:=HO.o.obj.c 0;have g3:=HO.o.obj.c 1
 go_upto_region 2 with(fail)
 refine aW [2,3,39] (fun T w'=>T=[.p w.heap.size,.p (w.heap.size+1),.bool (tf A)]/\Own w m w' m [.obj (w.heap.size+1) 50 #[.slice b1 b.1.length d1,.slice b2 b.2.length d2],.obj w.heap.size 50 #[.slice a1 a.1.length c1,.slice a2 a.2.length c2]]) ?_ ?_
 .intro Y hY;have U:=zh (fun(h:a.1.length<b.1.length\/(b.2.length=0/\(b.1.length<a.1.length\/0<a.2.length)))=>aN (f.o.1.2 h));have F:=zh (fun(h:¬(a.1.length<b.1.length\/(b.2.length=0/\(b.1.length<a.1.length\/0<a.2.length))))=>aG (fun k=>h (f.o.1.1 k)));clear f HL HK W v S hR;generalize a.1.length=l1 at*
  generalize a.2.length=l2 at*
  generalize b.1.length=l3 at*
  generalize b.2.length=l4 at*
  generalize tf A=bad at*
  by_cases e1:l1<l3
  .obtain rfl:=U.o (.inl e1);clear U F;by_cases e2:l4=0
   .subst e2;exact qaZ
   .have hd:decide ((l4:Int) > 0)=true:=zN zo;exact qaZ
  by_cases e2:l4=0
  .subst e2;by_cases e3:l3<l1
   .obtain rfl:=U.o (.inr ⟨rfl,.inl e3⟩);clear U F;exact qaZ
   by_cases e4:l2=0
   .subst e4;obtain rfl:=F.o zo;clear U F;exact qaZ
   .obtain rfl:=U.o (.inr ⟨rfl,.inr zo⟩);have hd:decide (0<l2)=true:=zN zo;clear U F;exact qaZ
  .obtain rfl:=F.o zo;have hd:decide ((l4:Int) > 0)=true:=zN zo;clear U F;exact qaZ
 clear g0 g1 g2 g3 HO;rintro z T w1-⟨rfl,t⟩;simp[bz,lk];have HO:=zh t;clear t;by_cases g:A
 .have HX:=zh (f.o.2 g);rw[aN g];have HB2:=zh HO.o.aF;clear HO f g;go_wp2;exact hR.o _ _ ⟨aP (by rw[aG HX.o]),HB2.o⟩
 have HS:=zh (show ¬(a.1.length<b.1.length\/(b.2.length=0/\(b.1.length<a.1.length\/0<a.2.length))) from fun h=>g (f.o.1.2 h));have HI:=zh (show uF (df n) a b↔(∀i (h:i<a.1.length),pO (df n) a.1[i] (jS b i).1)/\∀(ha:0<a.2.length) (hb:0<b.2.length),pO (df n) a.2[0] b.2[0] from
  ⟨fun h=>(HL.o.1 h).2.2,fun h=>HL.o.2 ⟨fun k=>HS.o (.inl k),fun k=>HS.o (.inr k),h⟩⟩)
 rw[aG g];clear f g HL;have g0:=HO.o.av.obj.c 0;have g1:=HO.o.av.obj.lt;go_wp2;refine aB [2,3,41,42,43] (fun q T wr=>∃(i:Nat),i<=a.1.length/\q=a.1.length-i/\T=[.p w.heap.size,.p (w.heap.size+1),.slice a1 a.1.length c1,.j (a.1.length:Int),.j (i:Int)]/\(∀j (hj:j<a.1.length),j<i->pO (df n) a.1[j] (jS b j).1) /\
  Own w m wr m [.obj (w.heap.size+1) 50 #[.slice b1 b.1.length d1,.slice b2 b.2.length d2],.obj w.heap.size 50 #[.slice a1 a.1.length c1,.slice a2 a.2.length c2]]) ?_ ?_
 .exact qat
 clear HO g0 g1;rintro X z q T wr hX-⟨i,hi,rfl,rfl,hA,t⟩;simp[bz,lk];have HA:=zh hA;clear hA;by_cases hlt:i<a.1.length
 .obtain⟨bb,off,rfl,h4⟩:=HK.o.1 qdJ;obtain⟨x,y,hc,hx,hy⟩:=(h4 i hlt).cells;have hcl:=bzu t.az (hc 0 _ rfl);have HC:=zh (fun j u hj=>azk t.az (hc j u hj));have h1:=fG hx hy;have hl:(dw a.1[i] x y).length=18:=rfl;have M:=W.o.2.1 _ (azm (b:=b) (i:=i) (fun h=>HS.o (.inr ⟨h.1,.inl zo⟩)));have E':=W.o.1 _ (mJ hlt);have Q:=zh (fun C B w' (h:m.az w') (L:aY m (n+1) C (jS b i).1.1) (K:aY m (n+1) B (jS b i).1.2)=>v.o a.1[i] (jS b i).1 x y C B w' h hx hy (L.low M.1.snd.ht) (K.low M.2.snd.ht) E' M);have i':=zh (fun w' (h:m.az w')=>S.o i w' h);have F:=zh (show pO (df n) a.1[i] (jS b i).1->∀j (hj:j<a.1.length),j<i+1->pO (df n) a.1[j] (jS b j).1 from fun h j hj h3=>by
   by_cases e:j=i
   .exact qbR
   .exact HA.o j hj zo)
  have HZ:=zh (show ¬pO (df n) a.1[i] (jS b i).1->¬uF (df n) a b from fun h k=>h ((HI.o.1 k).1 i hlt));have HO:=zh (t.al lZ 35);unfold bQ at Q;generalize dw a.1[i] x y=D at*
  generalize jS b (i:Int)=it at*
  obtain⟨dd,bo⟩:=it;simp only at Q F HZ i';clear t h4 hc hx hy HA HI E' M v S W
  go_wp2_with (first
   |refine aj ek rfl (.tmp 46) rfl rfl D hl HC.o ?_
   |(refine aA ek rfl (.tmp 7) (.tmp 47) rfl (cs:=D.toArray) rfl rfl rfl qdR (fun u hu=>h1 u qdL) HO.o.obj ?_;intro w2 v' F';have s:=HO.o.aQ v' F';have y0:=s.av.obj.c 0;have y1:=s.av.obj.c 1;have y2:=s.av.obj.lt)
   | fail)
  refine(i'.o _ s.az).mono ?_;rintro e w3 ⟨⟨C,B,rfl,L,K⟩,G'⟩;have hlD:(dw dd C B).length=18:=rfl;have I:=fG L K;have V:=zh (fun w' h=>Q.o C B w' h L K);have P:=zh ((s.aT G').al lZ 35);unfold bQ;generalize dw dd C B=D' at*
  clear HO s G' Q i' L K v' F' y0 y1 y2 HC;by_cases hq:pO (df n) a.1[i] dd
  .have HN2:=zh (F.o hq);have h':=zh (show ∀w',m.az w'->_ from fun w' h=>by have:=V.o w' h;rw[aN hq]at this;exact this);clear F HZ V hq
   go_wp2_with (first
    |(refine aA ek rfl (.tmp 8) (.tmp 52) rfl (cs:=D'.toArray) rfl rfl rfl qen (fun u hu=>I u qdL) P.o.obj ?_;intro w4 a' c';have l:=P.o.aQ a' c';have q1:=l.av.obj.all;have q2:=l.obj.all)
    |refine aj ek rfl (.tmp 7) rfl rfl D hl q1 ?_
    |refine aj ek rfl (.tmp 8) rfl rfl D' hlD q2 ?_
    | (go_at_call 30;refine(h'.o _ l.az).mono ?_;rintro e w5 ⟨rfl,g'⟩))
   exact hX.o _ _ _ zo rfl ⟨i+1,zo,rfl,rfl,HN2.o,(l.aT g').tail.tail⟩
  .have HZ2:=zh (HZ.o hq);have h':=zh (show ∀w',m.az w'->_ from fun w' h=>by have:=V.o w' h;rw[aG hq]at this;exact this);clear F HZ V hq hX
   go_wp2_with (first
    |(refine aA ek rfl (.tmp 8) (.tmp 52) rfl (cs:=D'.toArray) rfl rfl rfl qen (fun u hu=>I u qdL) P.o.obj ?_;intro w4 a' c';have l:=P.o.aQ a' c';have q1:=l.av.obj.all;have q2:=l.obj.all)
    |refine aj ek rfl (.tmp 7) rfl rfl D hl q1 ?_
    |refine aj ek rfl (.tmp 8) rfl rfl D' hlD q2 ?_
    | (go_at_call 30;refine(h'.o _ l.az).mono ?_;rintro e w5 ⟨rfl,g'⟩))
   exact hR.o _ _ ⟨aP (by rw[aG HZ2.o]),(l.aT g').aF⟩
 obtain rfl:i=a.1.length:=zo;have J:=zh (show uF (df n) a b↔∀(ha:0<a.2.length) (hb:0<b.2.length),pO (df n) a.2[0] b.2[0] from HI.o.trans ⟨fun h=>h.2,fun h=>⟨fun j hj=>HA.o j hj hj,h⟩⟩);have HO:=zh t;clear t hX HA HI S;have g0:=HO.o.av.obj.c 1;have g1:=HO.o.av.obj.lt;by_cases e0:a.2.length=0
 .have HT:=zh (J.o.2 fun ha=>zo);have j':=zh HO.o;clear J HO v W HK HS;generalize a.2.length=l2 at*
  subst e0;go_wp2
  go_quiet (fail)
  go_wp2;exact hR.o _ _ ⟨aP (by rw[aN HT.o]),(j'.o.FN _).aF⟩
 have N:0<b.2.length:=by
  rcases Nat.eq_zero_or_pos b.2.length with e|e
  .exact absurd (.inr ⟨e,.inr zo⟩) HS.o
  .exact e
 have O:0<a.2.length:=zo;obtain⟨ba,oa,rfl,h4⟩:=HK.o.2.1 (by intro h;simp[h]at O);obtain⟨x,y,hc,hx,hy⟩:=(h4 0 O).cells;obtain⟨bb,ob,rfl,K'⟩:=HK.o.2.2 (by intro h;simp[h]at N);obtain⟨C,B,e',B',A'⟩:=(K' 0 N).cells;simp only[Nat.zero_mul,Nat.add_zero]at hc e';have hl:(dw a.2[0] x y).length=18:=rfl;have hl':(dw b.2[0] C B).length=18:=rfl;have HC:=zh (zi (fun(w':zW) (h:m.az w') j u hj=>azk h (hc j u hj)) (fun(w':zW) (h:m.az w') j u hj=>azk h (e' j u hj)));have V:=zh (fun w' (h:m.az w')=>v.o a.2[0] b.2[0] x y C B w' h hx hy B' A' (W.o.1 _ (lS O)) (W.o.2.1 _ (lS N)));have HT:=zh (show tf (pO (df n) a.2[0] b.2[0])=tf (uF (df n) a b) from dY ⟨fun h=>J.o.2 fun _ _=>h,fun h=>J.o.1 h O N⟩);unfold bQ at V;generalize dw a.2[0] x y=D at*
 generalize dw b.2[0] C B=D' at*
 generalize tf (pO (df n) a.2[0] b.2[0])=r at*
 have hd:((a.2.length:Int)==0)=false:=zO.2 zo;clear h4 K' hc e' hx hy B' A' J v W HK HS g0 g1;generalize a.2.length=l2 at*
 generalize b.2.length=l4 at*
 generalize a.1.length=l1 at*
 generalize b.1.length=l3 at*
 go_upto_region 11 with(fail)
 refine aW [4] (fun T w'=>T=[.bool r]/\zB w w') ?_ ?_
 .intro Y hY;refine bE 15 6 (fun j=>[aI.is (·=.pointer (some ⟨w.heap.size,1,none⟩)),aI.is (·=.slice (some ⟨ba,oa,none⟩) l2 c2),aI.is (·=.j (l2:Nat)),aI.is (·=.bool false),aI.is (·=.bool false),aI.is (·=.pointer (some ⟨w.heap.size,1,none⟩)),aI.is (·=.slice (some ⟨ba,oa,none⟩) l2 c2),aI.is (·=.pointer (some ⟨ba,oa,none⟩)),aI.is (·=.agg D.toArray),aI.is (·=.pointer (some ⟨w.heap.size+1,1,none⟩)),aI.is (·=.slice (some ⟨bb,ob,none⟩) l4 d2),aI.is (·=.pointer (some ⟨bb,ob,none⟩)),aI.is (·=.agg D'.toArray),aI.is (·=.bool r),aI.is (·=.bool r)].getD j aI.any) zk zk ?_ ?_
  .intro i hi o win a wr ho RA;have p:=HO.o.dr.aT RA.aF;have y1:=p.obj.c 1;have y2:=p.av.obj.c 1;have y3:=p.obj.lt;have y4:=p.av.obj.lt;rcases(show i=0\/i=1\/i=2\/i=3\/i=4\/i=5\/i=6\/i=7\/i=8\/i=9\/i=10\/i=11\/i=12\/i=13\/i=14 by omega)with rfl|rfl|rfl|rfl|rfl|rfl|rfl|rfl|rfl|rfl|rfl|rfl|rfl|rfl|rfl
   .have e2:=RA.k 2;exact qaa
   .have e59:zt a 59 _:=RA.d 0 rfl;exact qaa
   .have e60:zt a 60 _:=RA.d 1 rfl;exact qaa
   .have e61:zt a 61 _:=RA.d 2 rfl;exact qaa
   .have e62:zt a 62 _:=RA.d 3 rfl;exact qaa
   .have e2:=RA.k 2;exact qaL
   .have e64:zt a 64 _:=RA.d 5 rfl;exact qaL
   .have e65:zt a 65 _:=RA.d 6 rfl;exact qgX
   .have e66:zt a 66 _:=RA.d 7 rfl;have e63:zt a 63 _:=RA.d 4 rfl;cases ho;refine fT rfl (fC rfl rfl e63) (aS (ek.exec rfl zg hl (HC.o.1 _ p.az)) ⟨_,rfl,zR _ _,rfl⟩)
   .have e3:=RA.k 3;exact qaL
   .have e68:zt a 68 _:=RA.d 9 rfl;exact qaL
   .have e69:zt a 69 _:=RA.d 10 rfl;exact qgX
   .have e70:zt a 70 _:=RA.d 11 rfl;have e63:zt a 63 _:=RA.d 4 rfl;cases ho;refine fT rfl (fC rfl rfl e63) (aS (ek.exec rfl zg hl' (HC.o.2 _ p.az)) ⟨_,rfl,zR _ _,rfl⟩)
   .have e67:zt a 67 _:=RA.d 8 rfl;have e71:zt a 71 _:=RA.d 12 rfl;have e63:zt a 63 _:=RA.d 4 rfl;cases ho;refine we2 rfl rfl rfl e63 (V.o _ p.az) ?_;exact qag
   .have e63:zt a 63 _:=RA.d 4 rfl;have e72:zt a 72 _:=RA.d 13 rfl;exact qaa
  .intro win a wr E;have e73:a.tmps.getD 73 undef=.bool r:=E.fact 14 _ zo rfl;have hZ:=HO.o.dr.aT E.aF;obtain⟨t1,d⟩:=a;obtain rfl:d=[]:=E.defers;refine eQ 15 zk (aM rfl rfl (aS qdO ?_));refine dB zk (hY.o _ _ (by simpa using E.size) ⟨?_,hZ.aF⟩) _;have C':t1.size=74:=E.size;simp[C']at e73;simp[C']
 clear HO HC V;rintro z1 T w3-⟨rfl,hb⟩;simp[bz,lk];have j':=zh hb;clear hb;go_wp2;exact hR.o _ _ ⟨aP HT.o,j'.o⟩
theorem LU{α:Type}{p q:α->Bool}:∀{l:List α},(∀x∈l,p x=q x)->l.find? p=l.find? q
 |[],_=>rfl
 |x::l,h=>by rw[List.find?_cons,List.find?_cons,LU fun y hy=>h y qef,h x zS]
theorem OX{c:St}(h:bC c)(s:ByteArray):qJ (Dp s) c s=ic c s:=by
 unfold ic qJ;rw[LU (p:=fun k:Kl=>Dp s k.1) (q:=fun k:Kl=>Sem k.1 s.data.toList) fun k hk=>by
  have:=(h.sets k hk).1;rw[dG this];unfold Dp;rw[aN this.wf];rfl]
def fdL(n:Nat)(a b:St)(f:Fd):Prop:=(ic a f.1.1).2<=(ic b f.1.1).2/\pO (df n) (ic a f.1.1).1 (ic b f.1.1).1
def klL(n:Nat)(x y:Kl):Prop:=pO (df n) x.2 y.2\/∀w,¬(Sem x.1 w=true/\Sem y.1 w=true)
theorem WQ(n:Nat)(a b:St):uE (df n) a b↔((∀f∈a.1,fdL n a b f)/\∀f∈b.1,fdL n a b f)/\∀x∈a.2,∀y∈b.2,klL n x y:=
 ⟨fun h=>⟨⟨fun f c=>h.fields f (.inl c),fun f c=>h.fields f (.inr c)⟩,h.classes⟩,fun h=>⟨fun f c=>c.elim (h.1.1 f) (h.1.2 f),h.2⟩⟩
theorem Gy{n:Nat}(H:RD n)(a b:St)(u u2 u' T':zV)(m:Mem)(w:zW)(hm:m.az w)(l':eD m)(N:gG (aY m n) m u a.1)(h2:gM (aY m n) m u2 a.2)(h1':gG (aY m n) m u' b.1)(h2':gM (aY m n) m T' b.2)(ca:bC a)(cb:bC b)(fa:∀k∈a.2,k.1.length<=729)(fb:∀k∈b.2,k.1.length<=729)(ka:∀d∈bJ a,vW n d)(kb:∀d∈bJ b,vW n d):
 zX 52 #[.agg #[u,u2],.agg #[u',T']] w (.bool (tf (uE (df n) a b))):=by
 have HV:=zh (zi (fun s w' (h:m.az w') hs=>ER u u2 a s m n w' h N h2 hs) (fun s w' (h:m.az w') hs=>ER u' T' b s m n w' h h1' h2' hs));have HLE:=zh (fun d d' x y G F w' (h:m.az w') T S k3 k4 k5 k6=>Tw H d d' x y G F m w' h l' T S k3 k4 k5 k6);have HFA:=zh N;obtain⟨a1,c1,rfl,p1,q1,T⟩:=N;obtain⟨a2,c2,rfl,p2,Q,S⟩:=h2;obtain⟨b1,d1,rfl,p1',q1',k1'⟩:=h1';obtain⟨b2,d2,rfl,p2',q2',k2'⟩:=h2';unfold maxLen at q1 Q q1' q2';have HF:=zh (show ∀k,k<2->∃(t:List Fd) (ad:Option Addr) (cc:Nat),(#[.slice a1 a.1.length a.1.length,.slice b1 b.1.length d1]:Array Value)[k]?=some (.slice ad t.length cc)/\t.length<=cc/\cc<=2 ^ 63-1/\(t≠[]->∃bb off,ad=some ⟨bb,off,none⟩/\∀i (h':i<t.length),JJ (aY m n) m bb (off+i*20) t[i])/\t=if k=0 then a.1 else b.1 from fun k h=>by
  match k,h with
  |0,_=>exact⟨a.1,a1,a.1.length,rfl,zI _,zo,T,rfl⟩
  | 1,_=>exact⟨b.1,b1,d1,rfl,p1',q1',k1',rfl⟩)
 have HK:=zh (zi S k2');have HB:=zh (zi (zi ka kb) (zi l' (zi (zi ca cb) (zi fa fb))));have HP:=zh (WQ n a b);have p:=((Own.start hm).al #[.slice a1 a.1.length c1,.slice a2 a.2.length c2] 62).al #[.slice b1 b.1.length d1,.slice b2 b.2.length d2] 62;simp only[bB]at p;have HO:=zh p;clear p T S k1' k2' ka kb l' ca cb fa fb;refine au fun R hR=>?_
 go_enter func52,ntmps52
 have g0:=HO.o.av.obj.c 0;have g2:=HO.o.obj.c 0;have gl:=HO.o.av.obj.lt;have gl2:=HO.o.obj.lt
 go_upto_region 1 with(fail)
 refine aW [2,3,28,29,30] (fun vs w'=>∃q,vs=[.p w.heap.size,.p (w.heap.size+1),.slice (some ⟨q,0,none⟩) 2 2,.j 2,.j 0]/\Own w m w' m [.obj q 59 #[.slice a1 a.1.length a.1.length,.slice b1 b.1.length d1],.obj (w.heap.size+1) 62 #[.slice b1 b.1.length d1,.slice b2 b.2.length d2],.obj w.heap.size 62 #[.slice a1 a.1.length c1,.slice a2 a.2.length c2]]) ?_ ?_
 .intro Y hY;clear HF HK HB HP HV HLE HFA hR;generalize a.1.length=l1 at*
  generalize a.2.length=l2 at*
  generalize b.1.length=l3 at*
  generalize b.2.length=l4 at*
  go_region
  exact hY.o _ _ rfl ⟨_,rfl,by simpa only[bB]using(HO.o.al #[.slice a1 l1 l1,.slice b1 l3 d1] 59).dr⟩
 clear HO g0 g2 gl gl2;rintro z vs w1-⟨g,rfl,p⟩;simp[bz,lk];have HO:=zh p;clear p HFA;go_wp2;refine aB [2,3,28,29,30] (fun q vs wr=>∃(k:Nat),k<=2/\q=2-k/\vs=[.p w.heap.size,.p (w.heap.size+1),.slice (some ⟨g,0,none⟩) 2 2,.j 2,.j (k:Int)]/\(∀k'<k,∀f∈(if k'=0 then a.1 else b.1),fdL n a b f) /\
  Own w m wr m [.obj g 59 #[.slice a1 a.1.length a.1.length,.slice b1 b.1.length d1],.obj (w.heap.size+1) 62 #[.slice b1 b.1.length d1,.slice b2 b.2.length d2],.obj w.heap.size 62 #[.slice a1 a.1.length c1,.slice a2 a.2.length c2]]) ?_ ?_
 .exact⟨_,0,zo,rfl,rfl,fun k' h=>absurd h (xY _),HO.o⟩
 clear HO;rintro X z q vs wr hX-⟨k,hk,rfl,rfl,hA,p⟩;simp[bz,lk];have O:=zh hA;clear hA;by_cases hlt:k<2
 .skip
  obtain⟨t,ad,cc,e1,e2,e3,e4,e5⟩:=HF.o k hlt;have g0:=p.obj.cell e1;have g1:=p.obj.lt;have HE:=zh (zi e4 e5);have HO:=zh p;clear p e1 e4 e5;go_wp2;refine aB [2,3,28,29,30,34,35,36] (fun q vs wr=>∃(i:Nat),i<=t.length/\q=t.length-i/\vs=[.p w.heap.size,.p (w.heap.size+1),.slice (some ⟨g,0,none⟩) 2 2,.j 2,.j (k:Int),.slice ad t.length cc,.j (t.length:Int),.j (i:Int)]/\(∀j (hj:j<t.length),j<i->fdL n a b t[j]) /\
   Own w m wr m [.obj g 59 #[.slice a1 a.1.length a.1.length,.slice b1 b.1.length d1],.obj (w.heap.size+1) 62 #[.slice b1 b.1.length d1,.slice b2 b.2.length d2],.obj w.heap.size 62 #[.slice a1 a.1.length c1,.slice a2 a.2.length c2]]) ?_ ?_
  .exact qat
  clear HO g0 g1;rintro X2 z2 Q vs2 wi J-⟨i,hi,rfl,rfl,hA2,p⟩;simp[bz,lk];have K':=zh hA2;clear hA2;by_cases F':i<t.length
  case neg=>
   have HD:=zh (show ∀k'<k+1,∀f∈(if k'=0 then a.1 else b.1),fdL n a b f from fun k' h f hf=>by
    by_cases e:k'=k
    .subst e;rw[<-HE.o.2]at hf;obtain⟨j,hj,rfl⟩:=yX hf;exact K'.o j hj zo
    .exact O.o k' zo f hf)
   have HO:=zh p;clear p O K' HE J;go_wp2;exact hX.o _ _ _ zo rfl ⟨k+1,zo,rfl,rfl,HD.o,HO.o⟩
  obtain⟨bb,off,rfl,h4⟩:=HE.o.1 (by intro h;simp[h]at F');have W':=(h4 i F').sz;obtain⟨x,y,U,hx,hy⟩:=(h4 i F').cells;have hcl:=bzu p.az (U 0 _ rfl);have HC:=zh (fun j u hj=>azk p.az (U j u hj));have N:=mM hx hy;have hl:(qx t[i] x y).length=20:=rfl;have H0:(qx t[i] x y).toArray[0]?=some (.string t[i].1.1):=rfl;have V:=zh (show fdL n a b t[i]->∀j (hj:j<t.length),j<i+1->fdL n a b t[j] from fun h j hj h3=>by
   by_cases e:j=i
   .exact qbR
   .exact K'.o j hj zo)
  have HZ:=zh (show ¬fdL n a b t[i]->¬uE (df n) a b from fun h k'=>by
   have E':t[i]∈(if k=0 then a.1 else b.1):=by rw[<-HE.o.2];exact zF F'
   have:=HP.o.1 k';by_cases e:k=0
   .rw[zK e]at E';exact h (this.1.1 _ E')
   .rw[zJ e]at E';exact h (this.1.2 _ E'))
  have Z:=zh (zi (fun w' h=>HV.o.1 t[i].1.1 w' h W') (fun w' h=>HV.o.2 t[i].1.1 w' h W'));unfold fdL at V HZ;have ca:=HB.o.2.2.1.1;have cb:=HB.o.2.2.1.2;rw[OX ca,OX cb]at Z;have m1:=HB.o.1.1 _ (nH ca t[i].1.1);have m2:=HB.o.1.2 _ (nH cb t[i].1.1);have HLQ:=zh (fun x y G F w' (h:m.az w') (T:aY m (n+1) x (ic a t[i].1.1).1.1) (S:aY m (n+1) y (ic a t[i].1.1).1.2) (k3:aY m (n+1) G (ic b t[i].1.1).1.1) (k4:aY m (n+1) F (ic b t[i].1.1).1.2)=>HLE.o _ _ x y G F w' h (T.low m1.1.snd.ht) (S.low m1.2.snd.ht) (k3.low m2.1.snd.ht) (k4.low m2.2.snd.ht) m1 m2);have HO:=zh (p.al RJ 82);generalize qx t[i] x y=M at*
  generalize ic a t[i].1.1=va at*
  generalize ic b t[i].1.1=vb at*
  generalize t[i].1.1=lab at*
  obtain⟨da,pa⟩:=va;obtain⟨db,pb⟩:=vb;unfold Rv at Z;simp only at Z HLQ V HZ;clear p h4 U hx hy O K' HE ca cb m1 m2 W'
  go_wp2_with (first
   |refine aj tu rfl (.tmp 38) rfl rfl M hl HC.o ?_
   |(refine aA tu rfl (.tmp 8) (.tmp 39) rfl (cs:=M.toArray) rfl rfl rfl qdR (fun u hu=>N u qdL) HO.o.obj ?_;intro w2 B E;have l:=HO.o.aQ B E;have y0:=l.bV.obj.c 0;have y1:=l.bV.obj.c 1;have y2:=l.bV.obj.lt;have y3:=l.obj.cell H0;have y4:=l.obj.lt)
   | fail)
  refine(Z.o.1 _ l.az).mono ?_;rintro e w3 ⟨⟨x,y,rfl,T,S⟩,hb3⟩;have hlD:(dw da x y).length=18:=rfl;have h1d:=fG T S;have HQ1:=zh (fun G F w' h=>HLQ.o x y G F w' h T S);have p':=zh ((l.aT hb3).al lZ 35);unfold bQ at HQ1⊢;generalize dw da x y=D at*
  clear HO l hb3 HLQ T S B E y0 y1 y2 y3 y4 HC N
  go_wp2_with (first
   |(refine aA ek rfl (.tmp 9) (.tmp 45) rfl (cs:=D.toArray) rfl rfl rfl qen (fun u hu=>h1d u qdL) p'.o.obj ?_;intro w4 ob4 hg4;have L:=p'.o.aQ ob4 hg4;have y0:=L.bV.obj.c 0;have y1:=L.bV.obj.c 1;have y2:=L.bV.obj.lt;have y3:=L.av.obj.cell H0;have y4:=L.av.obj.lt)
   | fail)
  refine(Z.o.2 _ L.az).mono ?_;rintro e w5 ⟨⟨G,F,rfl,T,S⟩,hb5⟩;have hlD':(dw db G F).length=18:=rfl;have o':=fG T S;have HQ:=zh (fun w' h=>HQ1.o G F w' h T S);have a':=zh ((L.aT hb5).al lZ 35);unfold bQ;generalize dw db G F=D' at*
  clear p' L hb5 HQ1 T S ob4 hg4 y0 y1 y2 y3 y4 Z h1d;by_cases hp:pb<pa
  .have HZ2:=zh (HZ.o fun h=>absurd h.1 zo);clear HZ V HQ J hX
   go_wp2_with (first
    | (refine aA ek rfl (.tmp 11) (.tmp 52) rfl (cs:=D'.toArray) rfl rfl rfl qeR (fun u hu=>o' u qdL) a'.o.obj ?_;intro w6 j' n';have A:=a'.o.aQ j' n';have q1:=A.av.obj.all;have Q:=A.obj.all))
   exact hR.o _ _ ⟨aP (by rw[aG HZ2.o]),A.aF⟩
  have hd:decide (pb<pa)=false:=zM hp;by_cases hq:pO (df n) da db
  .have HN2:=zh (V.o ⟨zo,hq⟩);have K:=zh (show ∀w',m.az w'->_ from fun w' h=>by have:=HQ.o w' h;rw[aN hq]at this;exact this);clear V HZ HQ hq
   go_wp2_with (first
    |(refine aA ek rfl (.tmp 11) (.tmp 52) rfl (cs:=D'.toArray) rfl rfl rfl qeR (fun u hu=>o' u qdL) a'.o.obj ?_;intro w6 j' n';have A:=a'.o.aQ j' n';have q1:=A.av.obj.all;have Q:=A.obj.all)
    |refine aj ek rfl (.tmp 9) rfl rfl D hlD q1 ?_
    |refine aj ek rfl (.tmp 11) rfl rfl D' hlD' Q ?_
    | (go_at_call 30;refine(K.o _ A.az).mono ?_;rintro e w7 ⟨rfl,I⟩))
   exact J.o _ _ _ zo rfl ⟨i+1,zo,rfl,rfl,HN2.o,(A.aT I).tail.tail.tail⟩
  .have HZ2:=zh (HZ.o fun h=>hq h.2);have K:=zh (show ∀w',m.az w'->_ from fun w' h=>by have:=HQ.o w' h;rw[aG hq]at this;exact this);clear V HZ HQ hq J hX
   go_wp2_with (first
    |(refine aA ek rfl (.tmp 11) (.tmp 52) rfl (cs:=D'.toArray) rfl rfl rfl qeR (fun u hu=>o' u qdL) a'.o.obj ?_;intro w6 j' n';have A:=a'.o.aQ j' n';have q1:=A.av.obj.all;have Q:=A.obj.all)
    |refine aj ek rfl (.tmp 9) rfl rfl D hlD q1 ?_
    |refine aj ek rfl (.tmp 11) rfl rfl D' hlD' Q ?_
    | (go_at_call 30;refine(K.o _ A.az).mono ?_;rintro e w7 ⟨rfl,I⟩))
   exact hR.o _ _ ⟨aP (by rw[aG HZ2.o]),(A.aT I).aF⟩
 obtain rfl:k=2:=zo;have HFD:=zh (show uE (df n) a b↔∀x∈a.2,∀y∈b.2,klL n x y from HP.o.trans ⟨fun h=>h.2,fun h=>⟨⟨fun f hf=>O.o 0 zo f hf,fun f hf=>O.o 1 zo f hf⟩,h⟩⟩);have HO:=zh p.tail;clear p hX O HF HP HV;have g0:=HO.o.av.obj.c 1;have g1:=HO.o.av.obj.lt;go_wp2;refine aB [2,3,66,67,68] (fun q vs wr=>∃(i:Nat),i<=a.2.length/\q=a.2.length-i/\vs=[.p w.heap.size,.p (w.heap.size+1),.slice a2 a.2.length c2,.j (a.2.length:Int),.j (i:Int)]/\(∀j (hj:j<a.2.length),j<i->∀y∈b.2,klL n a.2[j] y) /\
  Own w m wr m [.obj (w.heap.size+1) 62 #[.slice b1 b.1.length d1,.slice b2 b.2.length d2],.obj w.heap.size 62 #[.slice a1 a.1.length c1,.slice a2 a.2.length c2]]) ?_ ?_
 .exact qat
 clear HO g0 g1 hlt hk;rintro X z q vs wr hX-⟨i,hi,rfl,rfl,hA,p⟩;simp[bz,lk];have O:=zh hA;clear hA;by_cases hlt:i<a.2.length
 case neg=>
  have HT:=zh (HFD.o.2 fun x hx=>by obtain⟨j,hj,rfl⟩:=yX hx;exact O.o j hj zo);have HBB:=zh p.aF;clear p hX O;go_wp2;exact hR.o _ _ ⟨aP (by rw[aN HT.o]),HBB.o⟩
 obtain⟨bb,off,rfl,h4⟩:=HK.o.1 qdJ;obtain⟨kc,x,y,Y',U,hx,hy⟩:=(h4 i hlt).cells;have hcl:=bzu p.az (U 0 _ rfl);have HC:=zh (fun j u hj=>azk p.az (U j u hj));have N:=mK Y' hx hy;have hl:(nE a.2[i] kc x y).length=19:=rfl;have hlD:(dw a.2[i].2 x y).length=18:=rfl;have H0:(nE a.2[i] kc x y).toArray[0]?=some kc:=rfl;have HSU:=zh (fun j u=>@kQ a.2[i] kc x y j u);have v:=zF hlt;have HXI:=zh (zi (HB.o.2.2.2.1 _ v) Y');have HQX:=zh (fun(d':Vd) G F w' (h:m.az w') k3 k4 k6=>HLE.o a.2[i].2 d' x y G F w' h hx hy k3 k4 (HB.o.1.1 _ (yP.2 (.inr (yD.2 ⟨_,v,rfl⟩)))) k6);unfold bQ at HQX;have HNX:=zh (show(∀y∈b.2,klL n a.2[i] y)->∀j (hj:j<a.2.length),j<i+1->∀y∈b.2,klL n a.2[j] y from fun h j hj h3=>by
  by_cases e:j=i
  .exact qbR
  .exact O.o j hj zo)
 have HZX:=zh (show ∀y∈b.2,¬klL n a.2[i] y->¬uE (df n) a b from fun y hy h k=>h (HFD.o.1 k _ v _ hy));have HO:=zh (p.al RF 68);generalize nE a.2[i] kc x y=M at*
 generalize dw a.2[i].2 x y=D at*
 generalize a.2[i]=xi at*
 clear p h4 U hx hy O Y' v HFD
 go_wp2_with (first
  |refine aj qB rfl (.tmp 70) rfl rfl M hl HC.o ?_
  | (refine aA qB rfl (.tmp 14) (.tmp 71) rfl (cs:=M.toArray) rfl rfl rfl qdR (fun u hu=>N u qdL) HO.o.obj ?_;intro w2 B E;have l:=HO.o.aQ B E;have y1:=l.av.obj.c 1;have y2:=l.av.obj.lt))
 refine aB [2,3,14,66,67,68,73,74,75] (fun q vs wj=>∃(k:Nat),k<=b.2.length/\q=b.2.length-k/\vs=[.p w.heap.size,.p (w.heap.size+1),.p wr.heap.size,.slice (some ⟨bb,off,none⟩) a.2.length c2,.j (a.2.length:Int),.j (i:Int),.slice b2 b.2.length d2,.j (b.2.length:Int),.j (k:Int)]/\(∀j (hj:j<b.2.length),j<k->klL n xi b.2[j]) /\
  Own w m wj m [.obj wr.heap.size 68 M.toArray,.obj (w.heap.size+1) 62 #[.slice b1 b.1.length d1,.slice b2 b.2.length d2],.obj w.heap.size 62 #[.slice a1 a.1.length c1,.slice (some ⟨bb,off,none⟩) a.2.length c2]]) ?_ ?_
 .exact⟨_,0,zG _,rfl,rfl,fun j hj h=>absurd h (xY _),l⟩
 clear HO l y1 y2 B E HC N;rintro X2 z2 Q vs2 wj J-⟨k,hk,rfl,rfl,hA,p⟩;simp[bz,lk];have O:=zh hA;clear hA;by_cases X':k<b.2.length
 case neg=>
  have V:=zh (HNX.o fun y hy=>by obtain⟨j,hj,rfl⟩:=yX hy;exact O.o j hj zo);have HO:=zh p.tail;clear p J O HNX HZX;go_wp2;exact hX.o _ _ _ zo rfl ⟨i+1,zo,rfl,rfl,V.o,HO.o⟩
 obtain⟨bb',off',rfl,h4⟩:=HK.o.2 (by intro h;simp[h]at X');obtain⟨W,G,F,m',U,V',U'⟩:=(h4 k X').cells;have hcl:=bzu p.az (U 0 _ rfl);have HC:=zh (fun j u hj=>azk p.az (U j u hj));have N:=mK m' V' U';have G':(nE b.2[k] W G F).length=19:=rfl;have hlD':(dw b.2[k].2 G F).length=18:=rfl;have H0':(nE b.2[k] W G F).toArray[0]?=some W:=rfl;have Q':=zh (fun j u=>@kQ b.2[k] W G F j u);have v:=zF X';have HQ:=zh (fun w' (h:m.az w')=>HQX.o b.2[k].2 G F w' h V' U' (HB.o.1.2 _ (yP.2 (.inr (yD.2 ⟨_,v,rfl⟩)))));have HAN:=zh (fun w' (h:m.az w')=>Fe kc W xi.1 b.2[k].1 m w' h HB.o.2.1 HXI.o.2 m' (.of HXI.o.1 (HB.o.2.2.2.2 _ v) zD));have q':=zh (show klL n xi b.2[k]->∀j (hj:j<b.2.length),j<k+1->klL n xi b.2[j] from fun h j hj h3=>by
  by_cases e:j=k
  .exact qbR
  .exact O.o j hj zo)
 have J':=zh (HZX.o _ v);have HO:=zh (p.al RF 68);unfold klL at q' J';generalize nE b.2[k] W G F=M' at*
 generalize dw b.2[k].2 G F=D' at*
 generalize b.2[k]=yk at*
 clear p h4 U V' U' O m' v;by_cases e1:pO (df n) xi.2 yk.2
 .have V:=zh (q'.o (.inl e1));have K:=zh (show ∀w',m.az w'->_ from fun w' h=>by have:=HQ.o w' h;rw[aN e1]at this;exact this);clear q' J' HQ HAN e1
  go_wp2_with (first
  |refine aj qB rfl (.tmp 77) rfl rfl M' G' HC.o ?_
  |(refine aA qB rfl (.tmp 16) (.tmp 78) rfl (cs:=M'.toArray) rfl rfl rfl (by simpa using G') (fun u hu=>N u qdL) HO.o.obj ?_;intro w2 B E;have l:=HO.o.aQ B E;have q1:=l.av.obj.sub (o:=1) (cs:=D) (fun j u hj=>by simpa using HSU.o j u hj);have Q:=l.obj.sub (o:=1) (cs:=D') (fun j u hj=>by simpa using Q'.o j u hj))
  |refine aj ek rfl (.tmp 79) rfl rfl D hlD q1 ?_
  |refine aj ek rfl (.tmp 81) rfl rfl D' hlD' Q ?_
  | fail)
  refine(K.o _ l.az).mono ?_;rintro e w7 ⟨rfl,I⟩;have p':=zh (l.aT I).tail;clear HO HC l q1 Q I K B E N;go_wp2;exact J.o _ _ _ zo rfl ⟨k+1,zo,rfl,rfl,V.o,p'.o⟩
 have K:=zh (show ∀w',m.az w'->_ from fun w' h=>by have:=HQ.o w' h;rw[aG e1]at this;exact this);have HNE:=zh (show ∀C,eP (fun w=>Sem xi.1 w&&Sem yk.1 w) C->(C.length=0->∀j (hj:j<b.2.length),j<k+1->klL n xi b.2[j])/\(¬C.length=0->¬uE (df n) a b) from fun C hC=>by
  have U:C=[]↔∀w,¬(Sem xi.1 w=true/\Sem yk.1 w=true):=(cza hC).trans ⟨fun h w hw=>by have:=h w;simp[hw.1,hw.2]at this,fun h w=>by
   cases N:Sem xi.1 w<;>cases h2:Sem yk.1 w<;>simp;exact h w ⟨N,h2⟩⟩
  exact⟨fun h=>q'.o (.inr (U.1 (xJ.1 h))),fun h=>J'.o fun k=>k.elim e1 fun k=>h (xJ.2 (U.2 k))⟩)
 clear q' J' HQ e1
 go_wp2_with (first
  |refine aj qB rfl (.tmp 77) rfl rfl M' G' HC.o ?_
  |(refine aA qB rfl (.tmp 16) (.tmp 78) rfl (cs:=M'.toArray) rfl rfl rfl (by simpa using G') (fun u hu=>N u qdL) HO.o.obj ?_;intro w2 B E;have l:=HO.o.aQ B E;have q1:=l.av.obj.sub (o:=1) (cs:=D) (fun j u hj=>by simpa using HSU.o j u hj);have Q:=l.obj.sub (o:=1) (cs:=D') (fun j u hj=>by simpa using Q'.o j u hj))
  |refine aj ek rfl (.tmp 79) rfl rfl D hlD q1 ?_
  |refine aj ek rfl (.tmp 81) rfl rfl D' hlD' Q ?_
  | fail)
 refine(K.o _ l.az).mono ?_;rintro e w7 ⟨rfl,I⟩;have P:=l.aT I;have y0:=P.av.obj.cell H0;have y1:=P.av.obj.lt;have y2:=P.obj.cell H0';have y3:=P.obj.lt;clear q1 Q HC N
 go_wp2_with fail
 refine(HAN.o _ P.az).mono ?_;rintro e w8 ⟨r,C,rfl,hb8,hst,hC,-⟩;obtain⟨ra,rc,rfl,-⟩:=hst;have HZ:=HNE.o C hC;have HO4:=zh (P.aT hb8);have hfld:∀w',(Instr.field 27 (.agg #[.slice ra C.length rc]) 0).run prog w'=.ok (.slice ra C.length rc) w':=fun w'=>by kernel_rfl
 generalize C.length=lc at*
 clear HO l P y0 y1 y2 y3 I hb8 hC HAN HNE K B E;by_cases hz:lc=0
 .have V:=zh (HZ.1 hz);clear HZ;subst hz;go_wp2;exact J.o _ _ _ zo rfl ⟨k+1,zo,rfl,rfl,V.o,HO4.o.tail⟩
 .have V:=zh (HZ.2 hz);have hd:decide (0<lc)=true:=zN zo;clear HZ J hX hz;go_wp2;exact hR.o _ _ ⟨aP (by rw[aG V.o]),HO4.o.aF⟩
theorem uL(n:Nat)(d d':Vd)(x y x' y':Sl)(m:Mem)(w:zW)(f:m.az w)(h1:aY m n x d.1)(h2:aY m n y d.2)(h1':aY m n x' d'.1)(h2':aY m n y' d'.2)(kd:jg n d)(kd':jg n d'):
 zX 23 #[bQ d x y,bQ d' x' y'] w (.bool (tf (d=d'))):=by
 have hO:=((Own.start f).al (dw d x y).toArray 35).al (dw d' x' y').toArray 35;simp only[bB]at hO;have h:=zh qh6;have g:(dw d x y).length=18:=rfl;have b:(dw d' x' y').length=18:=rfl;have HO:=zh hO;have c:=hO.av.obj.all;have a:=hO.obj.all;unfold bQ at*
 generalize dw d x y=D at*
 generalize dw d' x' y'=i at*
 clear hO h1 h2 h1' h2';generalize tf (d=d')=s2 at*
 refine au fun R hR=>?_
 go_enter func23,ntmps23
 go_wp2_with (first
  |refine aj ek rfl (.tmp 2) rfl rfl D g c ?_
  |refine aj ek rfl (.tmp 3) rfl rfl i b a ?_
  | (go_at_call 31;refine h.o.mono ?_;rintro e j ⟨rfl,hb1⟩))
 exact qay
theorem kC.kids{n:Nat}{v:Vl}(h:kC (n+1) v):∀d∈v.kids,vW n d:=fun d hd=>by
 have h1:=h.snd.2 d hd;have h2:=h.fit.2 d hd;exact qhn
def Dw(n:Nat)(m:Mem)(cs:List Value)(c:Lc):Prop:=∃u a,cs=[u,a]/\bD (aY m n) m u c.1/\bD (aY m n) m a c.2/\∀d∈aX c,vW n d
structure YA (n:Nat) (c:St):Prop where
 ok:bC c
 set:∀k∈c.2,k.1.length<=729
 vals:∀d∈bJ c,vW n d
def EH(n:Nat)(m:Mem)(cs:List Value)(c:St):Prop:=∃u a,cs=[u,a]/\gG (aY m n) m u c.1/\gM (aY m n) m a c.2/\YA n c
theorem dzM{n:Nat}{m:Mem}{b o:Nat}{c:Lc}(h:OO (aY m n) m b o c/\∀d∈aX c,vW n d):∃cs:List Value,cs.length=2/\(∀j u,cs[j]?=some u->m.cell b (o+j)=some u)/\(∀u∈cs,u.oneCell'=true)/\Dw n m cs c:=by
 obtain⟨⟨u,f,k,i,h3,h4⟩,g⟩:=h;refine⟨[u,f],rfl,fun j x e=>?_,fun x hx=>?_,u,f,rfl,h3,h4,g⟩
 .match j,e with
  |0,e=>cases e;exact k
  |1,e=>cases e;exact i
 .exact qbB
theorem dzB{n:Nat}{m:Mem}{b o:Nat}{c:St}(h:OG (aY m n) m b o c/\YA n c):∃cs:List Value,cs.length=2/\(∀j u,cs[j]?=some u->m.cell b (o+j)=some u)/\(∀u∈cs,u.oneCell'=true)/\EH n m cs c:=by
 obtain⟨⟨u,e,i,g,h3,h4⟩,f⟩:=h;refine⟨[u,e],rfl,fun j x d=>?_,fun x hx=>?_,u,e,rfl,h3,h4,f⟩
 .match j,d with
  |0,d=>cases d;exact i
  |1,d=>cases d;exact g
 .exact qbB
theorem VG{n:Nat}(H:RD n){m:Mem}(a:eD m)(cs b:List Value)(c j:Lc)(w:zW)(o:m.az w)(h:Dw n m cs c)(s:Dw n m b j):
 zX 50 #[.agg cs.toArray,.agg b.toArray] w (.bool (tf (uF (df n) c j))):=by
 obtain⟨u,k,rfl,r,q,p⟩:=h;obtain⟨l,d,rfl,i,g,f⟩:=s;exact NL H c j u k l d m w o a r q i g p f
theorem Vj{n:Nat}(H:RD n){m:Mem}(b:eD m)(cs d:List Value)(c k:St)(w:zW)(p:m.az w)(h:EH n m cs c)(s:EH n m d k):
 zX 52 #[.agg cs.toArray,.agg d.toArray] w (.bool (tf (uE (df n) c k))):=by
 obtain⟨u,l,rfl,r,q,g⟩:=h;obtain⟨o,f,rfl,j,i,a⟩:=s;exact Gy H c k u l o f m w p b r q j i g.ok a.ok g.set a.set g.vals a.vals
theorem kC.lc{n:Nat}{v:Vl}(h:kC (n+1) v):∀c∈v.aJ,∀d∈aX c,vW n d:=fun _ b d a=>h.kids d (dM b a)
theorem kC.st{n:Nat}{v:Vl}(h:kC (n+1) v):∀c∈v.ay,YA n c:=fun c a=>⟨(h.snd.1.st c a).2,(h.fit.1.st c a).set,fun d b=>h.kids d (dP a b)⟩
theorem NB(v:Vl)(s:Sl):∃g e d c b a,aZ v s=[.bool v.any,g,e,d,c,b,a,s.l,s.s]/\v.s.val s.i s.f s.t=.agg #[g,e,d,c,b,a]:=⟨_,_,_,_,_,_,rfl,rfl⟩
theorem Om(n:Nat):di (n+1) dn<=1048576:=by
 have h:di (n+1) dn=1:=by rw[di];simp[Vl.kids,dn,Vl.aJ,Vl.ay]
 omega
theorem bzd{n:Nat}(H:RD n):RD (n+1):=fun v v' s F m w hm B hv E L d=>by
 have G:=((Own.start hm).al (aZ v s).toArray 33).al (aZ v' F).toArray 33;simp only[bB]at G;have g:=zh (fun w' (h:m.az w')=>uL (n+1) (v,dn) (v',dn) s dI F dI m w' h hv ((aY.leaf m false).mono zo) E ((aY.leaf m false).mono zo) ⟨L.cnt,Om n⟩ ⟨d.cnt,Om n⟩);have z:=zh (fun w' (h:m.az w')=>Nb s.i s.f s.t v.s F.i F.f F.t v'.s 8 8 8 8 m w' h B hv.1 E.1 ⟨L.fit.1.i,L.fit.1.fr,L.fit.1.t⟩ ⟨d.fit.1.i,d.fit.1.fr,d.fit.1.t⟩ zo zo zo);have D:=zh (fun w' (h:m.az w')=>azN (uF (df n)) _ _ (Dw n m) (Dw n m) s.l F.l v.aJ v'.aJ m w' h (fun b o c=>dzM) (fun b o c h=>by obtain⟨cs,a1,a2,_,a3⟩:=dzM h;exact⟨cs,a1,a2,a3⟩) (fun cs Q c c' w' h k k'=>VG H B cs Q c c' w' h k k') (fw hv.2.1 L.lc) (fw E.2.1 d.lc));have A:=zh (fun w' (h:m.az w')=>azO (uE (df n)) _ _ (EH n m) (EH n m) s.s F.s v.ay v'.ay m w' h (fun b o c=>dzB) (fun b o c h=>by obtain⟨cs,a1,a2,_,a3⟩:=dzB h;exact⟨cs,a1,a2,a3⟩) (fun cs Q c c' w' h k k'=>Vj H B cs Q c c' w' h k k') (fw hv.2.2 L.st) (fw E.2.2 d.st));have Y:=zh (show df (n+1) v v'↔_ by rw[df]);have K:=zh (show Zb v.s v'.s=tf (bzJ v.s v'.s)by unfold Zb;rw[mG L.snd.1.sc,mG d.snd.1.sc];rfl);obtain⟨n1,n2,n3,n4,n5,Z,hN,hS⟩:=NB v s;obtain⟨m1,m2,m3,m4,m5,m6,u',t'⟩:=NB v' F;rw[hS,t']at z;unfold bQ dw at g;unfold Vl.val;rw[hN,u']at g G⊢;generalize s.l=sl at*
 generalize s.s=ss at*
 generalize F.l=O at*
 generalize F.s=N at*
 clear hS t' hN u' hv E L d B H;have c0:=G.av.obj.c 0;have T:=G.obj.c 0;have c7:=G.av.obj.c 7;have S:=G.obj.c 7;have g1:=G.av.obj.lt;have g2:=G.obj.lt;have HO:=zh G;clear G;generalize H':(∀x∈v.aJ,∃y∈v'.aJ,uF (df n) x y)=PA at*
 generalize G':(∀x∈v.ay,∃y∈v'.ay,uE (df n) x y)=PB at*
 generalize df (n+1) v v'=LE at*
 clear H' G';refine au fun R hR=>?_
 cases hany:v.any with
 |true=>
  have HX:=zh (show tf LE=v'.any by
   have:=Y.o;rw[zK (.inl hany)]at this;rw[dY this];cases v'.any<;>simp[aN,aG])
  rw[hany]at c0 HO;clear Y g z D A K hany;generalize v'.any=r at*
  go_enter func32,ntmps32
  go_wp2
  exact qhi
 |false=>cases hany':v'.any with
  |true=>
   have HX:=zh (show tf LE=true by
    have:=Y.o;rw[zK (.inr hany')]at this;exact aN (this.2 hany'))
   rw[hany]at c0 HO;rw[hany']at T HO;clear Y g z D A K hany hany'
   go_enter func32,ntmps32
   go_wp2
   exact qhi
  |false=>
   have HX:=zh (show LE↔v=v'\/(bzJ v.s v'.s/\PA/\PB)by
    have:=Y.o;rw[zJ (by simp[hany,hany'])]at this;exact this)
   rw[hany]at c0 HO g;rw[hany']at T HO g;have z':=zh (show tf ((v,dn)=(v',dn))=tf (v=v') from dY ⟨fun h=>(Prod.mk.inj h).1,fun h=>by rw[h]⟩);have M:Hid (∀w',m.az w'->zC 23 #[.agg #[.bool false,n1,n2,n3,n4,n5,Z,sl,ss,.bool false,.bool false,.bool false,.bool false,.slice none 0 0,.slice none 0 0,.slice none 0 0,.slice none 0 0,.slice none 0 0],.agg #[.bool false,m1,m2,m3,m4,m5,m6,O,N,.bool false,.bool false,.bool false,.bool false,.slice none 0 0,.slice none 0 0,.slice none 0 0,.slice none 0 0,.slice none 0 0]] w' fun e D'=>e=.returned (.bool (tf (v=v')))/\Below w'.heap.size w' D'):=zh fun w' h=>by
    have:=g.o w' h;rw[z'.o]at this;exact this
   rw[K.o]at z;have HC:=zh (fun o=>zi ((HO.o.al' o).av.obj.all) ((HO.o.al' o).obj.all));have P:=zh (zi (HO.o.av.obj.all (cs:=[.bool false,n1,n2,n3,n4,n5,Z,sl,ss])) (HO.o.obj.all (cs:=[.bool false,m1,m2,m3,m4,m5,m6,O,N])));clear Y g z' K hany hany' c7 S g1 g2
   go_enter func32,ntmps32
   go_wp2_with (first
    |refine aj jI rfl (.tmp 2) rfl rfl [.bool false,n1,n2,n3,n4,n5,Z,sl,ss] rfl P.o.1 ?_
    |refine aj jI rfl (.tmp 3) rfl rfl [.bool false,m1,m2,m3,m4,m5,m6,O,N] rfl P.o.2 ?_
    | fail)
   refine(M.o _ HO.o.az).mono ?_;rintro e w1 ⟨rfl,r'⟩;have C:=zh (HO.o.aT r');clear HO M r' HC P c0 T;by_cases X:v=v'
   .have U:=zh (HX.o.2 (.inl X));rw[aN X];clear HX z D A X;go_wp2;exact hR.o _ _ ⟨aP (by rw[aN U.o]),C.o.aF⟩
   have J:=zh (HX.o.trans ⟨fun h=>h.elim (fun h=>absurd h X) id,.inr⟩);rw[aG X];have q1:=C.o.av.obj.sub (o:=1) (cs:=[n1,n2,n3,n4,n5,Z]) (fun j u a=>by match j,a with|0,a=>exact a|1,a=>exact a|2,a=>exact a|3,a=>exact a|4,a=>exact a|5,a=>exact a|j+6,a=>simp at a);have q2:=C.o.obj.sub (o:=1) (cs:=[m1,m2,m3,m4,m5,m6]) (fun j u a=>by match j,a with|0,a=>exact a|1,a=>exact a|2,a=>exact a|3,a=>exact a|4,a=>exact a|5,a=>exact a|j+6,a=>simp at a);clear HX X
   go_wp2_with (first
    |refine aj rO rfl (.tmp 18) rfl rfl [n1,n2,n3,n4,n5,Z] rfl q1 ?_
    |refine aj rO rfl (.tmp 20) rfl rfl [m1,m2,m3,m4,m5,m6] rfl q2 ?_
    | fail)
   refine(z.o _ C.o.az).mono ?_;rintro e w2 ⟨rfl,q'⟩;have q:=zh (C.o.aT q');clear C z q' q1 q2;by_cases W:bzJ v.s v'.s
   case neg=>
    have U:=zh (show ¬LE from fun h=>W (J.o.1 h).1);rw[aG W];clear J D A W;go_wp2;exact hR.o _ _ ⟨aP (by rw[aG U.o]),q.o.aF⟩
   have I:=zh (J.o.trans ⟨fun h=>h.2,fun h=>⟨W,h⟩⟩);rw[aN W];have c7:=q.o.av.obj.c 7;have S:=q.o.obj.c 7;have g1:=q.o.av.obj.lt;have g2:=q.o.obj.lt;clear J W
   go_wp2_with fail
   refine(D.o _ q.o.az).mono ?_;rintro e w3 ⟨rfl,p'⟩;have p:=zh (q.o.aT p');have c8:=p.o.av.obj.c 8;have I':=p.o.obj.c 8;have g1:=p.o.av.obj.lt;have g2:=p.o.obj.lt;clear q D p' c7 S;by_cases V:PA
   case neg=>
    have U:=zh (show ¬LE from fun h=>V (I.o.1 h).1);rw[aG V];clear I A V;go_wp2;exact hR.o _ _ ⟨aP (by rw[aG U.o]),p.o.aF⟩
   have y':=zh (I.o.trans ⟨fun h=>h.2,fun h=>⟨V,h⟩⟩);rw[aN V];clear I V
   go_wp2_with fail
   refine(A.o _ p.o.az).mono ?_;rintro e w4 ⟨rfl,o'⟩;have HB:=zh (p.o.aT o').aF;have U:=zh (dY y'.o);clear p A o' c8 I' g1 g2 y';generalize tf PB=r at*
   go_wp2;exact hR.o _ _ ⟨aP (by rw[U.o]),HB.o⟩
theorem qH:∀n,RD n
 |0=>fun _ _ _ _ _ _ _ _ h _ _ _=>h.elim
 |n+1=>bzd (qH n)
def lG(n:Nat)(v:Vl)(M:Mem)(r:zV):Prop:=∃s,r=v.val s/\aY M n s v
theorem Vv{n:Nat}(c:Lc)(u d:zV)(m:Mem)(w:zW)(p:m.az w)(g:bD (aY m n) m u c.1)(f:bD (aY m n) m d c.2):
 zC 83 #[.agg #[u,d]] w fun e w'=>∃r,e=.returned r/\zB w w'/\lG (n+1) (lI c) (m.grow w w') r:=by
 have t:=gT g;have s:=gT f;have b:=(((Own.start p).al #[u,d] 50).al (aZ (lI c) (Ej (w.heap.size+1+1))).toArray 33).al #[u,d] 50;simp only[bB]at b;have l:=jI.load (P:=prog) (cs:=aZ (lI c) (Ej (w.heap.size+1+1))) rfl b.av.obj.all;have a:=dz9 (w:=((w.alloc (.cells #[u,d] 50)).alloc (.cells (aZ (lI c) (Ej (w.heap.size+1+1))).toArray 33)).alloc (.cells #[u,d] 50)) b.j6;have j:=TC (n:=n) (c:=c) (bzy (m:=m) b.obj (i:=0) rfl) (bzy (m:=m) b.obj (i:=1) rfl) (g.le a fun _ _ h=>h.le a) (f.le a fun _ _ h=>h.le a);have k:=zh (zi b.aF (j.le b.iC.done));clear b a j g f;refine au fun R q=>?_
 go_enter func83,ntmps83
 go_wp2;refine yV (v:=.agg (aZ (lI c) (Ej (w.heap.size+1+1))).toArray) (jq results83 rfl l) rfl ?_;exact q.o _ _ ⟨_,rfl,k.o.1,_,rfl,k.o.2⟩
theorem Vw{n:Nat}(c:St)(u d:zV)(m:Mem)(w:zW)(p:m.az w)(g:gG (aY m n) m u c.1)(f:gM (aY m n) m d c.2):
 zC 85 #[.agg #[u,d]] w fun e w'=>∃r,e=.returned r/\zB w w'/\lG (n+1) (uP c) (m.grow w w') r:=by
 have t:=gT g;have s:=gT f;have b:=(((Own.start p).al #[u,d] 62).al (aZ (uP c) (DV (w.heap.size+1+1))).toArray 33).al #[u,d] 62;simp only[bB]at b;have l:=jI.load (P:=prog) (cs:=aZ (uP c) (DV (w.heap.size+1+1))) rfl b.av.obj.all;have a:=dz9 (w:=((w.alloc (.cells #[u,d] 62)).alloc (.cells (aZ (uP c) (DV (w.heap.size+1+1))).toArray 33)).alloc (.cells #[u,d] 62)) b.j6;have j:=Sa (n:=n) (c:=c) (bzy (m:=m) b.obj (i:=0) rfl) (bzy (m:=m) b.obj (i:=1) rfl) (g.le a fun _ _ h=>h.le a) (f.le a fun _ _ h=>h.le a);have k:=zh (zi b.aF (j.le b.iC.done));clear b a j g f;refine au fun R q=>?_
 go_enter func85,ntmps85
 go_wp2;refine yV (v:=.agg (aZ (uP c) (DV (w.heap.size+1+1))).toArray) (jq results85 rfl l) rfl ?_;exact q.o _ _ ⟨_,rfl,k.o.1,_,rfl,k.o.2⟩
theorem kC.cmp{n:Nat}{v:Vl}(h:kC n v):EN n v:=⟨h.snd,h.fit,h.cnt⟩
theorem ib.up{n k:Nat}{v:Vl}(h:ib n v)(hk:n<=k):ib k v:=by
 have s:∀{n:Nat} {v:Vl},ib n v->ib (n+1) v:=fun {n}=>by
  induction n with
  |zero=>intro v h;exact h.elim
  |succ n ih=>intro v h;exact⟨h.1,fun x a=>⟨ih (h.2 x a).1,ih (h.2 x a).2⟩⟩
 induction hk with
 |refl=>exact h
 |step _ ih=>exact s ih
theorem FD(v v':Vl)(s d:Sl)(m:Mem)(n:Nat)(w:zW)(E:m.az w)(b:eD m)(y:n<=16)(l:aY m n s v)(f:aY m n d v')(i:kC n v)(a:kC n v'):
 zX 130 #[v.val s,v'.val d] w (.j (gI n v v')):=by
 have j:=((Own.start E).al (aZ v s).toArray 33).al (aZ v' d).toArray 33;simp only[bB]at j;have x:=uK v s m n _ j.az b l i.fit i.cnt;have u:=fun w' (h:m.az w')=>uK v' d m n w' h b f a.fit a.cnt;rw[aN (show iI v from i.snd.up y)]at x;rw[aN (show iI v' from a.snd.up y)]at u;have J:=zh x;have I:=zh u;have H:=zh (fun w' (h:m.az w')=>Gp n v v' s d m w' h b l f i.cmp a.cmp);have G:=zh j;have z:(aZ v s).length=9:=rfl;have k:(aZ v' d).length=9:=rfl;have D:=j.av.obj.all;unfold Vl.val at*
 clear j l f i a x u;generalize aZ v s=N at*
 generalize aZ v' d=N' at*
 generalize gI n v v'=r at*
 refine au fun R F=>?_
 go_enter func130,ntmps130
 go_wp2_with (first
  | (go_at_call 35;first
   |(refine(I.o _ g.az).mono ?_;rintro e L ⟨rfl,q⟩;have c:=g.aT q;have B:=c.av.obj.all;have A:=c.obj.all)
   | (refine J.o.mono ?_;rintro e M ⟨rfl,t⟩;have g:=G.o.aT t;have C:=g.obj.all))
  |refine aj jI rfl (.tmp 2) rfl rfl N z B ?_
  |refine aj jI rfl (.tmp 3) rfl rfl N' k A ?_
  |refine aj jI rfl (.tmp 3) rfl rfl N' k C ?_
  |refine aj jI rfl (.tmp 2) rfl rfl N z D ?_
  | (go_at_call 172;refine(H.o _ c.az).mono ?_;rintro e K ⟨rfl,p⟩))
 exact F.o _ _ ⟨rfl,(c.aT p).aF⟩
theorem czL(n:Nat)(c b:Lc):gI (n+1) (lI c) (lI b)=Lm (gI n) c b:=by
 rw[gI];simp only[lI,Vl.any,Vl.s,Vl.aJ,Vl.ay,eB,F3.self gD,tX,show Bb false false=0 from rfl,show ∀a,rQ 0 a=a from fun _=>rfl]
theorem czK(n:Nat)(c b:St):gI (n+1) (uP c) (uP b)=KJ (gI n) c b:=by
 rw[gI];simp only[uP,Vl.any,Vl.s,Vl.aJ,Vl.ay,eB,F3.self gD,tX,show Bb false false=0 from rfl,show ∀a,rQ 0 a=a from fun _=>rfl]
theorem lG.cmp{n:Nat}{v v':Vl}{r c:zV}{M:Mem}{w:zW}(h:lG n v M r)(l:lG n v' M c)(j:M.az w)(a:eD M)(i:n<=16)(f:kC n v)(b:kC n v'):
 zX 130 #[r,c] w (.j (gI n v v')):=by
 obtain⟨s,rfl,k⟩:=h;obtain⟨d,rfl,g⟩:=l;exact FD v v' s d M n w j a i k g f b
theorem lG.gB{n:Nat}{v:Vl}{m M:Mem}(k:m.le M){r:zV}(h:lG n v m r):lG n v M r:=by
 obtain⟨s,e,h⟩:=h;exact⟨s,e,h.le k⟩
theorem Uc:∀args w,(callFunc 129 args).run prog w=.ok (.enter 129 args) w:=enters_of func129 zk rfl
theorem ZO{n:Nat}(P:n+1<=16)(c g:Lc)(u t v f:zV)(H:Nat)(m:Mem)(w:zW)(Q:m.az w)(p:eD m)(I:m.cell H 0=some (.func (.func 83) #[] #[]))(C:bD (aY m n) m u c.1)(B:bD (aY m n) m t c.2)(s:bD (aY m n) m v g.1)(q:bD (aY m n) m f g.2)(G:kC (n+1) (lI c))(x:kC (n+1) (lI g)):
 zX 129 (#[.agg #[u,t],.agg #[v,f]]++#[.pointer (some ⟨H,0,none⟩)]) w (.j (Lm (gI n) c g)):=by
 have A:=((Own.start Q).al #[u,t] 50).al #[v,f] 50;simp only[bB]at A;have o1:=gT C;have o2:=gT B;have O:=gT s;have N:=gT q;have K:=zh (fun w' (h:m.az w')=>Vv (n:=n) c u t m w' h C B);have J:=zh (fun w' (h:m.az w')=>Vv (n:=n) g v f m w' h s q);have F:=zh (fun(M:Mem) (r L:zV) w' (h:lG (n+1) (lI c) M r) (S:lG (n+1) (lI g) M L) (hi:M.az w') (ht:eD M)=>lG.cmp h S hi ht P G x);rw[czL]at F;have HO:=zh A;have y:=zh (zi p I);clear A C B s q G x p I;generalize Lm (gI n) c g=rr at*
 refine au fun R hR=>?_
 go_enter func129,ntmps129
 go_upto_region 1 with(fail)
 refine aW [5] (fun vs w'=>vs=[.j rr]/\zB w w') ?_ ?_
 .intro Y hY;refine bE 7 6 (fun j=>[aI.is (·=.func (.func 83) #[] #[]),aI.is (·=.agg #[u,t]),aI.mem m [2] (fun M u=>lG (n+1) (lI c) M u),aI.is (·=.func (.func 83) #[] #[]),aI.is (·=.agg #[v,f]),aI.mem m [5] (fun M u=>lG (n+1) (lI g) M u),aI.is (·=.j rr)].getD j aI.any) zk zk ?_ ?_
  .intro i hi o win a wr ho l;have b:=HO.o.dr.aT l.aF;have y1:=azk b.az y.o.2;have y2:=bzu b.az y.o.2;have y3:=b.obj.c 0;have y4:=b.obj.c 1;have y5:=b.av.obj.c 0;have y6:=b.av.obj.c 1;have y7:=b.obj.lt;have Z:=b.av.obj.lt;rcases(show i=0\/i=1\/i=2\/i=3\/i=4\/i=5\/i=6 by omega)with rfl|rfl|rfl|rfl|rfl|rfl|rfl
   .have U:=l.k 2;exact qaa
   .have e3:=l.k 3;exact qaa
   .have e6:zt a 6 _:=l.d 0 rfl;have e7:zt a 7 _:=l.d 1 rfl;cases ho;refine we rfl rfl (K.o _ b.az) ?_;rintro e w' ⟨r,rfl,hb,z⟩;exact⟨_,rfl,_,rfl,hb,fM (R:=fun M u=>lG (n+1) (lI c) M u) (fun k _ h=>lG.gB k h) b.az hb z⟩
   .have U:=l.k 2;exact qaa
   .have e4:=l.k 4;exact qaa
   .have e9:zt a 9 _:=l.d 3 rfl;have V:zt a 10 _:=l.d 4 rfl;cases ho;refine we rfl rfl (J.o _ b.az) ?_;rintro e w' ⟨r,rfl,hb,z⟩;exact⟨_,rfl,_,rfl,hb,fM (R:=fun M u=>lG (n+1) (lI g) M u) (fun k _ h=>lG.gB k h) b.az hb z⟩
   .have T:(aI.mem m [2] (fun M u=>lG (n+1) (lI c) M u)).holds (a.tmps.getD 8 undef) win wr:=l.d 2 rfl;have D:(aI.mem m [5] (fun M u=>lG (n+1) (lI g) M u)).holds (a.tmps.getD 11 undef) win wr:=l.d 5 rfl;cases ho;have f1:lG (n+1) (lI c) (m.fJ wr win [2]) _:=T;have f2:lG (n+1) (lI g) (m.fJ wr win [5]) _:=D;have X:=cz7 (m:=m) (es:=[2,5]) b.az win (ds:=[2]) zS;have W:=cz7 (m:=m) (es:=[2,5]) b.az win (ds:=[5]) zS;refine we rfl rfl (F.o (m.fJ wr win [2,5]) _ _ wr (f1.gB X) (f2.gB W) (dzd b.az win [2,5]) (y.o.1.le (dzF b.az win [2,5]))) ?_;exact qag
  .exact qgA
 clear HO K J F y;exact qgP
theorem Ud:∀args w,(callFunc 132 args).run prog w=.ok (.enter 132 args) w:=enters_of func132 zk rfl
theorem ZP{n:Nat}(P:n+1<=16)(c g:St)(u t v f:zV)(H:Nat)(m:Mem)(w:zW)(Q:m.az w)(p:eD m)(I:m.cell H 0=some (.func (.func 85) #[] #[]))(C:gG (aY m n) m u c.1)(B:gM (aY m n) m t c.2)(s:gG (aY m n) m v g.1)(q:gM (aY m n) m f g.2)(G:kC (n+1) (uP c))(x:kC (n+1) (uP g)):
 zX 132 (#[.agg #[u,t],.agg #[v,f]]++#[.pointer (some ⟨H,0,none⟩)]) w (.j (KJ (gI n) c g)):=by
 have A:=((Own.start Q).al #[u,t] 62).al #[v,f] 62;simp only[bB]at A;have o1:=gT C;have o2:=gT B;have O:=gT s;have N:=gT q;have K:=zh (fun w' (h:m.az w')=>Vw (n:=n) c u t m w' h C B);have J:=zh (fun w' (h:m.az w')=>Vw (n:=n) g v f m w' h s q);have F:=zh (fun(M:Mem) (r L:zV) w' (h:lG (n+1) (uP c) M r) (S:lG (n+1) (uP g) M L) (hi:M.az w') (ht:eD M)=>lG.cmp h S hi ht P G x);rw[czK]at F;have HO:=zh A;have y:=zh (zi p I);clear A C B s q G x p I;generalize KJ (gI n) c g=rr at*
 refine au fun R hR=>?_
 go_enter func132,ntmps132
 go_upto_region 1 with(fail)
 refine aW [5] (fun vs w'=>vs=[.j rr]/\zB w w') ?_ ?_
 .intro Y hY;refine bE 7 6 (fun j=>[aI.is (·=.func (.func 85) #[] #[]),aI.is (·=.agg #[u,t]),aI.mem m [2] (fun M u=>lG (n+1) (uP c) M u),aI.is (·=.func (.func 85) #[] #[]),aI.is (·=.agg #[v,f]),aI.mem m [5] (fun M u=>lG (n+1) (uP g) M u),aI.is (·=.j rr)].getD j aI.any) zk zk ?_ ?_
  .intro i hi o win a wr ho l;have b:=HO.o.dr.aT l.aF;have y1:=azk b.az y.o.2;have y2:=bzu b.az y.o.2;have y3:=b.obj.c 0;have y4:=b.obj.c 1;have y5:=b.av.obj.c 0;have y6:=b.av.obj.c 1;have y7:=b.obj.lt;have Z:=b.av.obj.lt;rcases(show i=0\/i=1\/i=2\/i=3\/i=4\/i=5\/i=6 by omega)with rfl|rfl|rfl|rfl|rfl|rfl|rfl
   .have U:=l.k 2;exact qaa
   .have e3:=l.k 3;exact qaa
   .have e6:zt a 6 _:=l.d 0 rfl;have e7:zt a 7 _:=l.d 1 rfl;cases ho;refine we rfl rfl (K.o _ b.az) ?_;rintro e w' ⟨r,rfl,hb,z⟩;exact⟨_,rfl,_,rfl,hb,fM (R:=fun M u=>lG (n+1) (uP c) M u) (fun k _ h=>lG.gB k h) b.az hb z⟩
   .have U:=l.k 2;exact qaa
   .have e4:=l.k 4;exact qaa
   .have e9:zt a 9 _:=l.d 3 rfl;have V:zt a 10 _:=l.d 4 rfl;cases ho;refine we rfl rfl (J.o _ b.az) ?_;rintro e w' ⟨r,rfl,hb,z⟩;exact⟨_,rfl,_,rfl,hb,fM (R:=fun M u=>lG (n+1) (uP g) M u) (fun k _ h=>lG.gB k h) b.az hb z⟩
   .have T:(aI.mem m [2] (fun M u=>lG (n+1) (uP c) M u)).holds (a.tmps.getD 8 undef) win wr:=l.d 2 rfl;have D:(aI.mem m [5] (fun M u=>lG (n+1) (uP g) M u)).holds (a.tmps.getD 11 undef) win wr:=l.d 5 rfl;cases ho;have f1:lG (n+1) (uP c) (m.fJ wr win [2]) _:=T;have f2:lG (n+1) (uP g) (m.fJ wr win [5]) _:=D;have X:=cz7 (m:=m) (es:=[2,5]) b.az win (ds:=[2]) zS;have W:=cz7 (m:=m) (es:=[2,5]) b.az win (ds:=[5]) zS;refine we rfl rfl (F.o (m.fJ wr win [2,5]) _ _ wr (f1.gB X) (f2.gB W) (dzd b.az win [2,5]) (y.o.1.le (dzF b.az win [2,5]))) ?_;exact qag
  .exact qgA
 clear HO K J F y;exact qgP
end Cl
