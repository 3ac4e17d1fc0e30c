/- Lemmas for the proofs of chapter 11. -/
import Derived.Test.YtbbnjopkjbhpbaaGreatDoorPkP9
set_option maxRecDepth 100000
set_option maxHeartbeats 16000000
namespace Cl
open Go Go.RowKit Go.Proofs Tryz
theorem jg{m:Mem}{v:zV}{l:aK}(h:aU m v l):∃a c,v=.slice a l.length c:=by obtain⟨x,y,e,-⟩:=h;exact⟨x,y,e⟩
theorem dD.df{m:Mem}{j k g:zV}{s:RS}(h:dD m j k g s):∃a b c d e f,j=.slice a s.i.length b/\k=.slice c s.f.length d/\g=.slice e s.t.length f:=by
 obtain⟨a,b,o⟩:=eG h.i;obtain⟨c,d,n⟩:=eG h.f;obtain⟨e,f,l⟩:=jg h.t;exact⟨a,b,c,d,e,f,o,n,l⟩
theorem dD.nums{m:Mem}{a b c:zV}{s:RS}(h:dD m a b c s):dH m a b s.i s.f:=⟨h.i,h.f⟩
structure jS (s:RS) (n t:Nat):Prop where
 i:s.i.length<=n
 f:s.f.length<=n
 t:s.t.length<=t
theorem jS.mono{s:RS}{n t b a:Nat}(h:jS s n t)(c:n<=b)(d:t<=a):jS s b a:=⟨yJ h.i c,yJ h.f c,yJ h.t d⟩
theorem kS(n t:Nat):jS cK n t:=⟨zG _,zG _,zG _⟩
theorem Jt{s:RS}{n t:Nat}(h:jS s n t):jS (iV s) n t:=by
 unfold iV
 split
 .exact h
 .exact kS n t
theorem RS.ug(s:RS):s.iG↔(s.i=(gG s.i s.f).i/\s.f=(gG s.i s.f).rf)/\cB s.t:=⟨fun h=>⟨⟨h.ei,h.ef⟩,h.ct⟩,fun h=>⟨h.1.1,h.1.2,h.2⟩⟩
theorem sH(r u q:zV)(s:RS)(m:Mem)(w:zW)(C:m.ay w)(j:dV m)(n:dD m r u q s)(v:jS s 100000 1000000):
 zX 93 #[s.val r u q] w (.bool (tf s.iG)):=by
 have a:=(Own.start C).al #[.bool s.dI,.bool s.dM,.bool s.dO,r,u,q] 29;have y:=zh (Qi _ _ s.i s.f m _ a.ay n.nums v.i v.f);have x:=zh (fun w' (h:m.ay w')=>Ah _ s.t m w' h j n.t v.t);have p:=zh (RS.ug s);obtain⟨M,J,L,I,K,H,rfl,rfl,rfl⟩:=n.df;unfold RS.val;have g:=zh a;clear a n;generalize s.dI=F at*
 generalize s.dM=G at*
 generalize s.dO=bt at*
 refine au fun R hR=>?_
 go_enter func93,ntmps93
 go_wp2_with fail
 refine y.o.mono ?_;rintro e E ⟨rfl,l⟩;have a:=g.o.aS l;clear y g l;by_cases d:s.i=(gG s.i s.f).i/\s.f=(gG s.i s.f).rf
 .rw[aM d];have B:=a.obj.c 5;have A:=a.obj.lt;have g:=zh a;have b:=zh (show s.iG↔cB s.t from p.o.trans ⟨fun h=>h.2,fun h=>⟨d,h⟩⟩);clear a p d
  go_wp2_with fail
  refine(x.o _ g.o.ay).mono ?_;rintro e D ⟨rfl,k⟩;have HB:=zh (g.o.aS k).az;clear g x k B A;generalize hc:tf (cB s.t)=z at*
  have HC:=zh (show z=tf s.iG by rw[<-hc];exact(dY b.o).symm);exact qhW
 .rw[aF d];have HB:=zh a.az;have b:=zh (show ¬s.iG from fun h=>d (p.o.1 h).1);clear a p d x;go_wp2;exact hR.o _ _ ⟨aR (by rw[aF b.o]),HB.o⟩
theorem dD.empty(m:Mem):dD m (.slice none 0 0) (.slice none 0 0) (.slice none 0 0) cK:=⟨bQ m,bQ m,dJ m⟩
theorem BZ(l n k:zV)(s:RS)(m:Mem)(w:zW)(H:m.ay w)(g:dV m)(p:dD m l n k s)(I:jS s 100000 1000000):
 zC 61 #[s.val l n k] w fun e w'=>∃x y u,e=.returned ((iV s).val x y u)/\zB w w'/\dD (m.grow w w') x y u (iV s):=by
 have b:=((Own.start H).al #[.bool s.dI,.bool s.dM,.bool s.dO,l,n,k] 29).al #[.bool false,.bool false,.bool false,.slice none 0 0,.slice none 0 0,.slice none 0 0] 29;simp only[bC]at b;have r:=zh (sH l n k s m _ b.ay g p I);have q:=zh (zi (fun h:s.iG=>bzg h) (fun h:¬s.iG=>YD h));have J:=zh p;obtain⟨F,C,E,B,D,A,rfl,rfl,rfl⟩:=p.df;unfold RS.val at r⊢;have G:=zh b;clear b p;refine au fun R z=>?_
 go_enter func61,ntmps61
 go_wp2_with fail
 refine r.o.mono ?_;rintro e K ⟨rfl,j⟩;have b:=G.o.aS j;clear r G j;obtain⟨Z,Y,X,W,V,U,f0,f1,f2,f3,f4,f5⟩:=b.obj.cf6;have T:=b.obj.lt;by_cases d:s.iG
 .rw[aM d];obtain⟨S,Q,P,O,N,M⟩:=b.av.obj.cs6;have L:=b.av.obj.lt;have a:=(((((b.set 0 (.bool s.dI)).set 1 (.bool s.dM)).set 2 (.bool s.dO)).set 3 (.slice F s.i.length C)).set 4 (.slice E s.f.length B)).set 5 (.slice D s.t.length A);obtain⟨k0,k1,k2,k3,k4,k5⟩:=a.obj.cs6;have c:=zh (zi a.az (zi (J.o.le a.done) (q.o.1 d)));clear b a q d;go_wp2;refine yV (v:=.agg #[.bool s.dI,.bool s.dM,.bool s.dO,.slice F s.i.length C,.slice E s.f.length B,.slice D s.t.length A]) qey rfl ?_;exact z.o _ _ ⟨_,_,_,by rw[c.o.2.2],c.o.1,by rw[c.o.2.2];exact c.o.2.1⟩
 .rw[aF d];have a:=(((((b.set 0 (.bool false)).set 1 (.bool false)).set 2 (.bool false)).set 3 (.slice none 0 0)).set 4 (.slice none 0 0)).set 5 (.slice none 0 0);obtain⟨k0,k1,k2,k3,k4,k5⟩:=a.obj.cs6;have c:=zh (zi a.az (q.o.2 d));clear b a q d;go_wp2;refine yV (v:=.agg #[.bool false,.bool false,.bool false,.slice none 0 0,.slice none 0 0,.slice none 0 0]) qey rfl ?_;exact z.o _ _ ⟨_,_,_,by rw[c.o.2];rfl,c.o.1,by rw[c.o.2];exact dD.empty _⟩
end Cl
namespace Cl
open Go Go.RowKit Go.Proofs
theorem RS.JK(a b:RS):a=b↔a.dI=b.dI/\a.dM=b.dM/\a.dO=b.dO/\(a.i=b.i/\a.f=b.f)/\a.t=b.t:=by
 constructor
 .rintro rfl;exact⟨rfl,rfl,rfl,⟨rfl,rfl⟩,rfl⟩
 .rintro⟨k,j,h,⟨e,d⟩,c⟩;obtain⟨n,f,t,i,g,T⟩:=a;obtain⟨m,q,l,o,p,r⟩:=b;simp only at k j h e d c;rw[k,j,h,e,d,c]
def czj(s:RS):Prop:=s.i.length<=8/\s.f.length<=8/\Kr s.t
end Cl
namespace Cl
open Go Go.RowKit Go.Proofs Tryz
theorem Ki(m:Mem)(w:zW)(_:m.ay w):
 zC 38 #[] w fun e w'=>∃r,e=.returned (.agg #[r])/\zB w w'/\aU (m.grow w w') r allT:=by
 refine(Fx w).mono ?_;rintro e w' ⟨c,g,rfl,h,b,f,j,a,d⟩;refine⟨_,rfl,h,?_⟩;refine⟨some ⟨g,0,none⟩,1,rfl,zI _,by simp[maxLen],fun _=>⟨g,0,rfl,fun i hi=>?_⟩⟩;obtain rfl:i=0:=by simp[allT]at hi;omega
 refine⟨gV f (d.cell (i:=0) rfl),.slice (some ⟨c,0,none⟩) 1 1,gV f (d.cell (i:=1) rfl),?_⟩;refine⟨some ⟨c,0,none⟩,1,rfl,zI _,by simp[maxLen],fun _=>⟨c,0,rfl,fun i hi=>?_⟩⟩;obtain rfl:i=0:=by simp[allT]at hi;omega
 exact⟨gV b (a.cell (i:=0) rfl),gV b (a.cell (i:=1) rfl),gV b (a.cell (i:=2) rfl),by simp[allT]⟩
def lV:RS:=⟨true,true,true,jb,wh,allT⟩
theorem dzX:lV=⟨true,true,true,O8.i,O8.rf,allT⟩:=by rw[bzt,Xj];rfl
theorem sV:jT Gw lV:=by
 rw[dzX];exact jk (by simp[Gw]) (by simp[Gw]) (by simp[Gw]) O7 cze W9.canon (fun w=>by simp[Sc,Gw])
theorem Xa:jS lV 1 1:=⟨zI _,zI _,zI _⟩
theorem AO(m:Mem)(w:zW)(M:m.ay w):
 zC 20 #[] w fun e w'=>∃t u s,e=.returned (lV.val t u s)/\zB w w'/\dD (m.grow w w') t u s lV:=by
 have j:=(Own.start M).al #[.bool false,.bool false,.bool false,.slice none 0 0,.slice none 0 0,.slice none 0 0] 29;have D:=zh (EN m _ j.ay);have C:=zh j;clear j;refine au fun R N=>?_
 go_enter func20,ntmps20
 go_wp2_with fail
 refine D.o.mono ?_;rintro e F ⟨P,rf,rfl,q,l⟩;have n:=C.o.call q;have B:=zh (Ki _ F n.ay);obtain⟨a,c,b,d,rfl,rfl⟩:=l.df;have h:=zh (zi l n);clear D C q l n
 go_wp2_with fail
 refine B.o.mono ?_;rintro e E ⟨O,rfl,p,k⟩;have j:=h.o.2.call p;have r:=h.o.1.le (Mem_le_grow h.o.2.ay (w:=E));obtain⟨y,x,rfl⟩:=jg k;obtain⟨X,W,V,U,T,S,Z,f1,f2,f3,f4,Y⟩:=j.obj.cf6;have Q:=j.obj.lt;have g:=(((((j.set 0 (.bool true)).set 1 (.bool true)).set 2 (.bool true)).set 3 (.slice a jb.length c)).set 4 (.slice b wh.length d)).set 5 (.slice y allT.length x);obtain⟨L,K,J,I,H,G⟩:=g.obj.cs6;have z:dD _ _ _ _ lV:=⟨r.i,r.f,k⟩;have A:=zh (zi g.az (z.le g.done));clear j g z r k p B h;go_wp2;refine yV (v:=.agg #[.bool true,.bool true,.bool true,.slice a jb.length c,.slice b wh.length d,.slice y allT.length x]) (by simp[results,results20,go_sem,L,K,J,I,H,G]) rfl ?_;exact N.o _ _ ⟨_,_,_,rfl,A.o.1,A.o.2⟩
end Cl
