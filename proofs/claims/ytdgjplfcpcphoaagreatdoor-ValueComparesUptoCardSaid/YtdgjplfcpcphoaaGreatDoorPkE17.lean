/- Lemmas for the proofs of chapter 11. -/
import Derived.Test.YtdgjplfcpcphoaaGreatDoorPkE12
set_option maxRecDepth 100000
set_option maxHeartbeats 16000000
namespace Cl
open Go Go.RowKit Go.Proofs
theorem Af.ik{cs:List fA}(b:∀c∈cs,c.n<=1000):∀{v:List Int},Af cs v->∀x∈v,-1<=x/\x<1000:=by
 intro v h x a;obtain⟨i,hi,rfl⟩:=yX a;have d:=h.len;have:=h.get i zo hi;have e:=b cs[i] (zF zo);omega
theorem VA{c:St}(g:∀f∈c.1,f.1.1.size<=40)(e:∀k∈c.2,jM k.1):∀x∈fO c,x.n<=1000:=by
 intro x a;rcases yP.1 a with a|a
 .obtain⟨k,b,rfl⟩:=yD.1 a;have:=(e k b).2;show k.1.length<=1000;omega
 .obtain⟨f,d,rfl⟩:=yD.1 a;have:=g f d;show f.1.1.data.toList.length+1<=1000;rw[Array.length_toList];show f.1.1.size+1<=1000;omega
def uF(f:Lit->Bool)(a:List (List Int)):Prop:=∀l:List Int,f (.string (txt l))=true↔l∈a
theorem uF.put{f:Lit->Bool}{a:List (List Int)}(h:uF f a)(x:List Int):uF (V9 f (.string (txt x)) true) (a++[x]):=fun l=>by
 by_cases e:l=x
 .subst e;rw[Kz];simp
 .rw[Ip f true (fun h=>e (txt_inj' l x (by injection h)))];rw[h l];simp[e]
theorem uF.none:uF (fun _=>false) []:=fun l=>by simp
theorem Xl{α:Type}{l:List α}{v x:α}:x∈l++[v]↔x∈l\/x=v:=by simp
end Cl
namespace Cl
def EH(Ls:List aC)(v:List Int)(k:Nat):Nat:=lF ((Ls.map gH).take k) (v.take k)
structure sG (cs:List fA) (seen:List (List Int)) (k:Nat):Prop where
 nodup:seen.Nodup
 reach:∀v∈seen,kF cs v
 start:ib cs∈seen
 done:∀i (h:i<seen.length),i<k->Ah cs seen seen[i]
theorem sG.first(cs:List fA):sG cs [ib cs] 0 where
 nodup:=by simp
 reach v hv:=by rw[zZ.1 hv];exact .start cs
 start:=by simp
 done i _ h:=absurd h (xY i)
theorem sG.push{cs:List fA}{c:List (List Int)}{k:Nat}(h:sG cs c k)(g:k<=c.length){x:List Int}(f:kF cs x)(hx:x ∉ c):sG cs (c++[x]) k where
 nodup:=by
  exact qca
 reach v hv:=(yP.1 hv).elim (h.reach v) fun k=>by rw[zZ.1 k];exact f
 start:=xI _ h.start
 done i hi hik:=by
  rw[xM (show i<c.length by omega)];exact(h.done i zo hik).mono fun y d=>xI _ d
theorem sG.close{cs:List fA}{a:List (List Int)}{k:Nat}(h:sG cs a k)(c:k<a.length)(d:Ah cs a a[k]):sG cs a (k+1):=
 ⟨h.nodup,h.reach,h.start,fun i hi b=>by
  by_cases e:i=k
  .subst e;exact d
  .exact h.done i hi zo⟩
theorem sG.once{cs:List fA}{seen:List (List Int)}(h:sG cs seen seen.length):sH cs:=by
 have hd:∀v∈seen,Ah cs seen v:=fun v hv=>by
  obtain⟨i,hi,rfl⟩:=yX hv;exact h.done i hi hi
 exact qco
end Cl
namespace Cl
structure Vs where
 n:Int
 d:Int
 b:Bool
noncomputable def jQ:Nat->Nat->Vl->Vs->Vs
 |0,lv,_,a=>⟨a.n+1,max a.d lv,true⟩
 |f+1,lv,v,a=>if tf (oO v)then v.kids.foldl (fun a x=>jQ f (lv+1) x.2 (jQ f (lv+1) x.1 a)) ⟨a.n+1,max a.d lv,a.b⟩else⟨a.n+1,max a.d lv,true⟩
noncomputable def qE(f lv:Nat)(l:List Vd)(a:Vs):Vs:=l.foldl (fun a x=>jQ f (lv+1) x.2 (jQ f (lv+1) x.1 a)) a
theorem rQ{f lv:Nat}{v:Vl}{a:Vs}(h:oO v):jQ (f+1) lv v a=qE f lv v.kids ⟨a.n+1,max a.d lv,a.b⟩:=by rw[jQ,aO h];rfl
theorem Bn{f lv:Nat}{v:Vl}{a:Vs}(h:¬oO v):jQ (f+1) lv v a=⟨a.n+1,max a.d lv,true⟩:=by rw[jQ,aA h];rfl
theorem TK(f lv:Nat)(l:List Vd)(i:Nat)(h:i<l.length)(a:Vs):qE f lv (l.take (i+1)) a=jQ f (lv+1) l[i].2 (jQ f (lv+1) l[i].1 (qE f lv (l.take i) a)):=by
 rw[qE,zH h,List.foldl_append];rfl
theorem WI:∀(f lv:Nat) (v:Vl) (a:Vs),(jQ f lv v a).b=(a.b||!tf (oN f v))
 |0,lv,v,a=>by rw[aA (p:=oN 0 v) id];simp[jQ]
 |f+1,lv,v,a=>by
  have g:∀(l:List Vd) (a:Vs),(qE f lv l a).b=(a.b||!tf (∀x∈l,oN f x.1/\oN f x.2)):=by
   intro l
   induction l with
   |nil=>intro a;rw[aO zS];simp[qE]
   |cons x l ih=>
    intro a;rw[show qE f lv (x::l) a=qE f lv l (jQ f (lv+1) x.2 (jQ f (lv+1) x.1 a)) from rfl,ih,WI f,WI f];by_cases e:oN f x.1
    .by_cases d:oN f x.2
     .rw[aO e,aO d,dh (show(∀y∈x::l,oN f y.1/\oN f y.2)↔∀y∈l,oN f y.1/\oN f y.2 by simp[e,d])];simp
     .rw[aA d,aA (p:=∀y∈x::l,oN f y.1/\oN f y.2) fun h=>d (h x zS).2];simp
    .rw[aA e,aA (p:=∀y∈x::l,oN f y.1/\oN f y.2) fun h=>e (h x zS).1];simp
  by_cases c:oO v
  .rw[rQ c,g,dh (show oN (f+1) v↔∀x∈v.kids,oN f x.1/\oN f x.2 from⟨fun h=>h.2,fun h=>⟨c,h⟩⟩)]
  .rw[Bn c,aA (p:=oN (f+1) v) fun h=>c h.1];simp
theorem WG:∀(f lv N:Nat) (v:Vl) (a:Vs),Ht N v->a.n<=(jQ f lv v a).n/\(jQ f lv v a).n<=a.n+dw N v
 |0,lv,N,v,a,h=>by
  have:=Bo h
  simp only[jQ];omega
 |f+1,lv,0,v,a,h=>h.elim
 |f+1,lv,N+1,v,a,h=>by
  have i:∀(l:List Vd) (a:Vs),(∀x∈l,Ht N x.1/\Ht N x.2)->a.n<=(qE f lv l a).n/\(qE f lv l a).n<=a.n+((l.map fun x=>dw N x.1+dw N x.2).sum:Nat):=by
   intro l
   induction l with
   |nil=>intro a _;simp[qE]
   |cons x l ih=>
    intro a c;rw[show qE f lv (x::l) a=qE f lv l (jQ f (lv+1) x.2 (jQ f (lv+1) x.1 a)) from rfl];have m:=WG f (lv+1) N x.1 a (c x zS).1;have k:=WG f (lv+1) N x.2 (jQ f (lv+1) x.1 a) (c x zS).2;have j:=ih (jQ f (lv+1) x.2 (jQ f (lv+1) x.1 a)) fun y hy=>c y qey;simp only[yL,vG];omega
  have e:dw (N+1) v=1+(v.kids.map fun x=>dw N x.1+dw N x.2).sum:=by rw[dw]
  by_cases g:oO v
  .rw[rQ g];have:=i v.kids ⟨a.n+1,max a.d lv,a.b⟩ h;simp only at this;omega
  .rw[Bn g];simp only;omega
theorem KV:∀(f lv:Nat) (v:Vl) (a:Vs),1<=lv->oN f v->(jQ f lv v a).n=a.n+dw f v/\(jQ f lv v a).d=max a.d ((lv:Int)-1+RV f v)
 |0,_,_,_,_,h=>h.elim
 |f+1,lv,v,a,g,h=>by
  have k:∀(l:List Vd) (a:Vs),(lv:Int)<=a.d->(∀x∈l,oN f x.1/\oN f x.2)->(qE f lv l a).n=a.n+((l.map fun x=>dw f x.1+dw f x.2).sum:Nat)/\(qE f lv l a).d=max a.d ((lv:Int)+UO (l.map fun x=>max (RV f x.1) (RV f x.2))):=by
   intro l
   induction l with
   |nil=>intro a m _;simp[qE,UO];omega
   |cons x l ih=>
    intro a m c;rw[show qE f lv (x::l) a=qE f lv l (jQ f (lv+1) x.2 (jQ f (lv+1) x.1 a)) from rfl];have g:=KV f (lv+1) x.1 a zo (c x zS).1;have j:=KV f (lv+1) x.2 (jQ f (lv+1) x.1 a) zo (c x zS).2;have i:=ih (jQ f (lv+1) x.2 (jQ f (lv+1) x.1 a)) zo fun y hy=>c y qey;simp only[yL,vG,UO];constructor
    .rw[i.1,j.1,g.1];omega
    .rw[i.2,j.2,g.2];omega
  have e:dw (f+1) v=1+(v.kids.map fun x=>dw f x.1+dw f x.2).sum:=by rw[dw]
  have o:RV (f+1) v=UO (v.kids.map fun x=>max (RV f x.1) (RV f x.2))+1:=by rw[RV]
  rw[rQ h.1];have:=k v.kids ⟨a.n+1,max a.d lv,a.b⟩ (by show(lv:Int)<=max a.d lv;omega) h.2;refine⟨by rw[this.1,e];show a.n+1+_=_;omega,by rw[this.2,o];show max (max a.d (lv:Int)) _=_;omega⟩
def jo(l:List Int):Int:=l.foldr jK 0
theorem OU(l:List Int){i:Nat}(h:i<l.length):jo (l.drop i)=jK l[i] (jo (l.drop (i+1))):=by
 rw[yE h];rfl
end Cl
namespace Cl
def uI(acc:aC->Bool)(c:St)(s:ByteArray):Vd×Int:=
 match c.1.find? (fun f=>f.1.1=s)with
 |some f=>(f.2,f.1.2)
 |none=>match c.2.find? (fun k=>acc k.1)with
  |some k=>(k.2,3)
  |none=>((ja,ja),3)
def qj(c:Lc)(i:Int):Vd×Bool:=
 if h:0<=i/\i.toNat<c.1.length then(c.1[i.toNat]'h.2,true)
 else if h:0<=i/\0<c.2.length then(c.2[0]'h.2,true)else((ja,ja),false)
end Cl
