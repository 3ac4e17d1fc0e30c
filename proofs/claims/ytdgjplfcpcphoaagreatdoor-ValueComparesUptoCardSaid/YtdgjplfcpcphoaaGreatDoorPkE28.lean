/- Lemmas for the proofs of chapter 11. -/
import Derived.Test.YtdgjplfcpcphoaaGreatDoorPkE27
import Derived.Test.YtdgjplfcpcphoaaGreatDoorPkE25
set_option maxRecDepth 100000
set_option maxHeartbeats 16000000
namespace Cl
open Go Go.RowKit Go.Proofs Tryz
theorem Qz(b:zV)(l:aC)(m:Mem)(w:zW)(c:m.ay w)(_:gD m)(d:aQ m b l)(a:l.length<=1000000):
 zX 64 #[.agg #[b]] w (.bool (tf (dG l))):=tO b l m w c d a
theorem tK(l n k:zV)(s:RS)(m:Mem)(w:zW)(v:m.ay w)(b:gD m)(j:nU m l n k s)(p:uW s 100000 1000000):
 zX 45 #[s.val l n k] w (.bool (tf s.gB)):=by
 have hO:=(Own.start v).al #[.bool s.gY,.bool s.iF,.bool s.iZ,l,n,k] 29;have q:=zh (Lp _ _ s.i s.f m _ hO.ay j.nums p.i p.f);have HT:=zh (fun w' (h:m.ay w')=>Qz _ s.t m w' h b j.t p.t);have HE:=zh (RS.Ju s);obtain⟨G,D,F,C,E,B,rfl,rfl,rfl⟩:=j.eG;unfold RS.val;have a:=zh hO;clear hO j;generalize s.gY=z at*
 generalize s.iF=A at*
 generalize s.iZ=bt at*
 refine aj fun R hR=>?_
 go_enter func45,ntmps45
 go_wp2_with fail
 refine q.o.mono ?_;rintro e y ⟨rfl,g⟩;have hO:=a.o.aP g;clear q a g;by_cases h1:s.i=(dz s.i s.f).i/\s.f=(dz s.i s.f).rf
 .rw[aO h1];have u:=hO.obj.c 5;have r:=hO.obj.lt;have a:=zh hO;have HE2:=zh (show s.gB↔dG s.t from HE.o.trans ⟨fun h=>h.2,fun h=>⟨h1,h⟩⟩);clear hO HE h1
  go_wp2_with fail
  refine(HT.o _ a.o.ay).mono ?_;rintro e x ⟨rfl,d⟩;have HB:=zh (a.o.aP d).az;clear a HT d u r;generalize hc:tf (dG s.t)=tc at*
  exact qbL
 .exact qbt
def pz(a b:Bool):Int:=if a=b then 0 else if a then -1 else 1
theorem Lm(a b:Bool)(w:zW):zC 128 #[.bool a,.bool b] w fun e w'=>e=.returned (.int .i64 (pz a b))/\w'=w:=by
 refine aj fun R c=>?_;cases a<;>cases b
 all_goals go_enter func128,ntmps128
 all_goals go_wp2
 all_goals exact c.o _ _ ⟨rfl,rfl⟩
end Cl
