/- Lemmas for the proofs of chapter 11. -/
import Derived.Test.YtajbfioncdnkcaaGreatDoorZz
import Derived.Test.YtajbfioncdnkcaaGreatDoorPkM1
import Derived.Test.YtajbfioncdnkcaaGreatDoorPkM2
set_option maxRecDepth 100000
set_option maxHeartbeats 16000000
namespace Cl
theorem mH {a b:Int} (h:near a b):¬ near b a:=by unfold near at *;omega
end Cl
namespace Cl
theorem QH {r s:RS} (hr:r.gK) (hs:s.gK) (h:∀e,r.has e↔s.has e):r=s:=by
 have h1:=h .nul;have h2:=h .fal;have h3:=h .tru;have h4:r.ns=s.ns:=rO r.lJ s.lJ fun u=>h (.num u);have h5:r.t=s.t:=lQ hr.ct hs.ct fun w=>by
  have:=h (.str w);simp only[RS.has,gD hr.ct,gD hs.ct] at this;exact Bool.eq_iff_iff.2 this
 have e1:=hr.ei;have e2:=hr.ef;rw[h4,← hs.ei] at e1;rw[h4,← hs.ef] at e2;obtain⟨n,f,t,i,g,T⟩:=r;obtain⟨n',f',t',i',g',T'⟩:=s;simp only[RS.has] at h1 h2 h3;simp only at e1 e2 h5;subst e1 e2 h5;rw[Bool.eq_iff_iff.2 h1,Bool.eq_iff_iff.2 h2,Bool.eq_iff_iff.2 h3]
end Cl
