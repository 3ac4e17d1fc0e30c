/- Lemmas for the proofs of chapter 11. -/
import Derived.Test.YtajbfioncdnkcaaGreatDoorZz
import Derived.Test.YtajbfioncdnkcaaGreatDoorPkM1
set_option maxRecDepth 100000
set_option maxHeartbeats 16000000
namespace Cl
theorem Jw (u:Int):eT (leN u) (ltN u)=eqN u:=rO (il (zx u) (uK u)) (rU u) fun v=>by
 rw[gu (zx u) (uK u),C8,zQ,Da];constructor
 ·rintro ⟨⟨h1,h2⟩,h3⟩;refine ⟨h1,?_⟩;have:¬ v<u:=fun h=>h3 ⟨h1,h⟩;omega
 ·rintro ⟨h1,rfl⟩;exact⟨⟨h1,Int.le_refl _⟩,fun h=>zo⟩
end Cl
