/- Lemmas for the proofs of chapter 11. -/
import Derived.Test.YtdgjplfcpcphoaaGreatDoorPkE9
import Derived.Test.YtdgjplfcpcphoaaGreatDoorPkE7
set_option maxRecDepth 100000
set_option maxHeartbeats 16000000
namespace Cl
open Go Go.RowKit Go.Proofs Tryz
theorem FC{m:Mem}{v:zV}{l:aC}(h:aQ m v l):∃a c,v=.slice a l.length c:=by obtain⟨x,y,e,-⟩:=h;exact⟨x,y,e⟩
theorem nU.eG{m:Mem}{j k g:zV}{s:RS}(h:nU m j k g s):∃a b c d e f,j=.slice a s.i.length b/\k=.slice c s.f.length d/\g=.slice e s.t.length f:=by
 obtain⟨a,b,o⟩:=dR h.i;obtain⟨c,d,n⟩:=dR h.f;obtain⟨e,f,l⟩:=FC h.t;exact⟨a,b,c,d,e,f,o,n,l⟩
theorem nU.nums{m:Mem}{a b c:zV}{s:RS}(h:nU m a b c s):bZ m a b s.i s.f:=⟨h.i,h.f⟩
structure uW (s:RS) (n t:Nat):Prop where
 i:s.i.length<=n
 f:s.f.length<=n
 t:s.t.length<=t
theorem uW.mono{s:RS}{n t b a:Nat}(h:uW s n t)(c:n<=b)(d:t<=a):uW s b a:=⟨yJ h.i c,yJ h.f c,yJ h.t d⟩
theorem VD(n t:Nat):uW fI n t:=⟨zG _,zG _,zG _⟩
theorem XG{s:RS}{n t:Nat}(h:uW s n t):uW (qP s) n t:=by
 unfold qP
 split
 .exact h
 .exact VD n t
theorem RS.Ju(s:RS):s.gB↔(s.i=(dz s.i s.f).i/\s.f=(dz s.i s.f).rf)/\dG s.t:=⟨fun h=>⟨⟨h.ei,h.ef⟩,h.ct⟩,fun h=>⟨h.1.1,h.1.2,h.2⟩⟩
theorem qH(l n k:zV)(s:RS)(m:Mem)(w:zW)(v:m.ay w)(b:gD m)(j:nU m l n k s)(p:uW s 100000 1000000):
 zX 106 #[s.val l n k] w (.bool (tf s.gB)):=by
 have hO:=(Own.start v).al #[.bool s.gY,.bool s.iF,.bool s.iZ,l,n,k] 29;have q:=zh (NQ _ _ s.i s.f m _ hO.ay j.nums p.i p.f);have HT:=zh (fun w' (h:m.ay w')=>wR _ s.t m w' h b j.t p.t);have HE:=zh (RS.Ju s);obtain⟨G,D,F,C,E,B,rfl,rfl,rfl⟩:=j.eG;unfold RS.val;have a:=zh hO;clear hO j;generalize s.gY=z at*
 generalize s.iF=A at*
 generalize s.iZ=bt at*
 refine aj fun R hR=>?_
 go_enter func106,ntmps106
 go_wp2_with fail
 refine q.o.mono ?_;rintro e y ⟨rfl,g⟩;have hO:=a.o.aP g;clear q a g;by_cases h1:s.i=(dz s.i s.f).i/\s.f=(dz s.i s.f).rf
 .rw[aO h1];have u:=hO.obj.c 5;have r:=hO.obj.lt;have a:=zh hO;have HE2:=zh (show s.gB↔dG s.t from HE.o.trans ⟨fun h=>h.2,fun h=>⟨h1,h⟩⟩);clear hO HE h1
  go_wp2_with fail
  refine(HT.o _ a.o.ay).mono ?_;rintro e x ⟨rfl,d⟩;have HB:=zh (a.o.aP d).az;clear a HT d u r;generalize hc:tf (dG s.t)=tc at*
  exact qbL
 .exact qbt
theorem nU.empty(m:Mem):nU m (.slice none 0 0) (.slice none 0 0) (.slice none 0 0) fI:=⟨oF m,oF m,jd m⟩
theorem Qk(l n k:zV)(s:RS)(m:Mem)(w:zW)(H:m.ay w)(g:gD m)(p:nU m l n k s)(I:uW s 100000 1000000):
 zC 92 #[s.val l n k] w fun e w'=>∃x y u,e=.returned ((qP s).val x y u)/\zB w w'/\nU (m.grow w w') x y u (qP s):=by
 have b:=((Own.start H).al #[.bool s.gY,.bool s.iF,.bool s.iZ,l,n,k] 29).al #[.bool false,.bool false,.bool false,.slice none 0 0,.slice none 0 0,.slice none 0 0] 29;simp only[bR]at b;have r:=zh (qH l n k s m _ b.ay g p I);have q:=zh (zi (fun h:s.gB=>OL h) (fun h:¬s.gB=>Vm h));have J:=zh p;obtain⟨F,C,E,B,D,A,rfl,rfl,rfl⟩:=p.eG;unfold RS.val at r⊢;have G:=zh b;clear b p;refine aj fun R z=>?_
 go_enter func92,ntmps92
 go_wp2_with fail
 refine r.o.mono ?_;rintro e K ⟨rfl,j⟩;have b:=G.o.aP j;clear r G j;obtain⟨Z,Y,X,W,V,U,f0,f1,f2,f3,f4,f5⟩:=b.obj.cf6;have T:=b.obj.lt;by_cases d:s.gB
 .rw[aO d];obtain⟨S,Q,P,O,N,M⟩:=b.au.obj.cs6;have L:=b.au.obj.lt;have a:=(((((b.set 0 (.bool s.gY)).set 1 (.bool s.iF)).set 2 (.bool s.iZ)).set 3 (.slice F s.i.length C)).set 4 (.slice E s.f.length B)).set 5 (.slice D s.t.length A);obtain⟨k0,k1,k2,k3,k4,k5⟩:=a.obj.cs6;have c:=zh (zi a.az (zi (J.o.le a.done) (q.o.1 d)));clear b a q d;go_wp2;refine yV (v:=.agg #[.bool s.gY,.bool s.iF,.bool s.iZ,.slice F s.i.length C,.slice E s.f.length B,.slice D s.t.length A]) qeK rfl ?_;exact z.o _ _ ⟨_,_,_,by rw[c.o.2.2],c.o.1,by rw[c.o.2.2];exact c.o.2.1⟩
 .rw[aA d];have a:=(((((b.set 0 (.bool false)).set 1 (.bool false)).set 2 (.bool false)).set 3 (.slice none 0 0)).set 4 (.slice none 0 0)).set 5 (.slice none 0 0);obtain⟨k0,k1,k2,k3,k4,k5⟩:=a.obj.cs6;have c:=zh (zi a.az (q.o.2 d));clear b a q d;go_wp2;refine yV (v:=.agg #[.bool false,.bool false,.bool false,.slice none 0 0,.slice none 0 0,.slice none 0 0]) qeK rfl ?_;exact z.o _ _ ⟨_,_,_,by rw[c.o.2];rfl,c.o.1,by rw[c.o.2];exact nU.empty _⟩
end Cl
namespace Cl
open Go Go.RowKit Go.Proofs
theorem RS.G5(a b:RS):a=b↔a.gY=b.gY/\a.iF=b.iF/\a.iZ=b.iZ/\(a.i=b.i/\a.f=b.f)/\a.t=b.t:=by
 constructor
 .rintro rfl;exact⟨rfl,rfl,rfl,⟨rfl,rfl⟩,rfl⟩
 .rintro⟨k,j,h,⟨e,d⟩,c⟩;obtain⟨n,f,t,i,g,T⟩:=a;obtain⟨m,q,l,o,p,r⟩:=b;simp only at k j h e d c;rw[k,j,h,e,d,c]
def Yv(s:RS):Prop:=s.i.length<=8/\s.f.length<=8/\jM s.t
end Cl
