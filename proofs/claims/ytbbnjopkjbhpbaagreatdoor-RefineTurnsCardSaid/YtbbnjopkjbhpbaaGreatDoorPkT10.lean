/- Lemmas. -/
import Derived.Test.YtbbnjopkjbhpbaaGreatDoorPkT9
import Derived.Test.YtbbnjopkjbhpbaaGreatDoorPkT7
set_option maxRecDepth 99999
set_option maxHeartbeats 9999999
namespace Cl
open Go Go.RowKit Go.Proofs Tryz
theorem wG{m:Mem}{v:zV}{l:aK}(h:aV m v l):∃a c,v=.slice a l.length c:=by obtain⟨x,y,e,-⟩:=h;exact⟨x,y,e⟩
theorem gJ.dm{m:Mem}{j k g:zV}{s:RS}(h:gJ m j k g s):∃a b c d e f,j=.slice a s.i.length b/\k=.slice c s.f.length d/\g=.slice e s.t.length f:=by
 obtain⟨a,b,o⟩:=eT h.i;obtain⟨c,d,n⟩:=eT h.f;obtain⟨e,f,l⟩:=wG h.t;exact⟨a,b,c,d,e,f,o,n,l⟩
theorem gJ.nums{m:Mem}{a b c:zV}{s:RS}(h:gJ m a b c s):dA m a b s.i s.f:=⟨h.i,h.f⟩
structure jW (s:RS) (n t:Nat):Prop where
 i:s.i.length<=n
 f:s.f.length<=n
 t:s.t.length<=t
theorem jW.mono{s:RS}{n t b a:Nat}(h:jW s n t)(c:n<=b)(d:t<=a):jW s b a:=⟨yJ h.i c,yJ h.f c,yJ h.t d⟩
theorem L6(n t:Nat):jW fe n t:=⟨zG _,zG _,zG _⟩
theorem IL{s:RS}{n t:Nat}(h:jW s n t):jW (iV s) n t:=by
 unfold iV
 split
 .exact h
 .exact L6 n t
theorem RS.tq(s:RS):s.iB↔(s.i=(gz s.i s.f).i/\s.f=(gz s.i s.f).rf)/\bZ s.t:=⟨fun h=>⟨⟨h.ei,h.ef⟩,h.ct⟩,fun h=>⟨h.1.1,h.1.2,h.2⟩⟩
theorem rP(r u q:zV)(s:RS)(m:Mem)(w:zW)(C:m.az w)(j:eD m)(n:gJ m r u q s)(v:jW s 100000 1000000):
 zX 93 #[s.val r u q] w (.bool (tf s.iB)):=by
 have a:=(Own.start C).al #[.bool s.dL,.bool s.dS,.bool s.dW,r,u,q] 29;have y:=zh (PS _ _ s.i s.f m _ a.az n.nums v.i v.f);have x:=zh (fun w' (h:m.az w')=>yz _ s.t m w' h j n.t v.t);have p:=zh (RS.tq s);obtain⟨M,J,L,I,K,H,rfl,rfl,rfl⟩:=n.dm;unfold RS.val;have g:=zh a;clear a n;generalize s.dL=F at*
 generalize s.dS=G at*
 generalize s.dW=bt at*
 refine au fun R hR=>?_
 go_enter func93,ntmps93
 go_wp2_with fail
 refine y.o.mono ?_;rintro e E ⟨rfl,l⟩;have a:=g.o.aT l;clear y g l;by_cases d:s.i=(gz s.i s.f).i/\s.f=(gz s.i s.f).rf
 .rw[aN d];have B:=a.obj.c 5;have A:=a.obj.lt;have g:=zh a;have b:=zh (show s.iB↔bZ s.t from p.o.trans ⟨fun h=>h.2,fun h=>⟨d,h⟩⟩);clear a p d
  go_wp2_with fail
  refine(x.o _ g.o.az).mono ?_;rintro e D ⟨rfl,k⟩;have HB:=zh (g.o.aT k).aF;clear g x k B A;generalize hc:tf (bZ s.t)=z at*
  have HC:=zh (show z=tf s.iB by rw[<-hc];exact(dY b.o).symm);exact qhu
 .rw[aG d];have HB:=zh a.aF;have b:=zh (show ¬s.iB from fun h=>d (p.o.1 h).1);clear a p d x;go_wp2;exact hR.o _ _ ⟨aP (by rw[aG b.o]),HB.o⟩
theorem gJ.empty(m:Mem):gJ m (.n) (.n) (.n) fe:=⟨pq m,pq m,jo m⟩
theorem Bv(l n k:zV)(s:RS)(m:Mem)(w:zW)(H:m.az w)(g:eD m)(p:gJ m l n k s)(I:jW s 100000 1000000):
 zC 61 #[s.val l n k] w fun e w'=>∃x y u,e=.returned ((iV s).val x y u)/\zB w w'/\gJ (m.grow w w') x y u (iV s):=by
 have b:=((Own.start H).al #[.bool s.dL,.bool s.dS,.bool s.dW,l,n,k] 29).al #[.bool false,.bool false,.bool false,.slice none 0 0,.slice none 0 0,.slice none 0 0] 29;simp only[bB]at b;have r:=zh (rP l n k s m _ b.az g p I);have q:=zh (zi (fun h:s.iB=>mG h) (fun h:¬s.iB=>XJ h));have J:=zh p;obtain⟨F,C,E,B,D,A,rfl,rfl,rfl⟩:=p.dm;unfold RS.val at r⊢;have G:=zh b;clear b p;refine au fun R z=>?_
 go_enter func61,ntmps61
 go_wp2_with fail
 refine r.o.mono ?_;rintro e K ⟨rfl,j⟩;have b:=G.o.aT j;clear r G j;obtain⟨Z,Y,X,W,V,U,f0,f1,f2,f3,f4,f5⟩:=b.obj.cf6;have T:=b.obj.lt;by_cases d:s.iB
 .rw[aN d];obtain⟨S,Q,P,O,N,M⟩:=b.av.obj.cs6;have L:=b.av.obj.lt;have a:=(((((b.set 0 (.bool s.dL)).set 1 (.bool s.dS)).set 2 (.bool s.dW)).set 3 (.slice F s.i.length C)).set 4 (.slice E s.f.length B)).set 5 (.slice D s.t.length A);obtain⟨k0,k1,k2,k3,k4,k5⟩:=a.obj.cs6;have c:=zh (zi a.aF (zi (J.o.le a.done) (q.o.1 d)));clear b a q d;go_wp2;refine yV (v:=.agg #[.bool s.dL,.bool s.dS,.bool s.dW,.slice F s.i.length C,.slice E s.f.length B,.slice D s.t.length A]) qet rfl ?_;exact z.o _ _ ⟨_,_,_,by rw[c.o.2.2],c.o.1,by rw[c.o.2.2];exact c.o.2.1⟩
 .rw[aG d];have a:=(((((b.set 0 (.bool false)).set 1 (.bool false)).set 2 (.bool false)).set 3 (.n)).set 4 (.n)).set 5 (.n);obtain⟨k0,k1,k2,k3,k4,k5⟩:=a.obj.cs6;have c:=zh (zi a.aF (q.o.2 d));clear b a q d;go_wp2;refine yV (v:=.agg #[.bool false,.bool false,.bool false,.slice none 0 0,.slice none 0 0,.slice none 0 0]) qet rfl ?_;exact z.o _ _ ⟨_,_,_,by rw[c.o.2];rfl,c.o.1,by rw[c.o.2];exact gJ.empty _⟩
end Cl
namespace Cl
open Go Go.RowKit Go.Proofs
theorem RS.I8(a b:RS):a=b↔a.dL=b.dL/\a.dS=b.dS/\a.dW=b.dW/\(a.i=b.i/\a.f=b.f)/\a.t=b.t:=by
 constructor
 .rintro rfl;exact⟨rfl,rfl,rfl,⟨rfl,rfl⟩,rfl⟩
 .rintro⟨k,j,h,⟨e,d⟩,c⟩;obtain⟨n,f,t,i,g,T⟩:=a;obtain⟨m,q,l,o,p,r⟩:=b;simp only at k j h e d c;rw[k,j,h,e,d,c]
def bzl(s:RS):Prop:=s.i.length<=8/\s.f.length<=8/\JD s.t
end Cl
