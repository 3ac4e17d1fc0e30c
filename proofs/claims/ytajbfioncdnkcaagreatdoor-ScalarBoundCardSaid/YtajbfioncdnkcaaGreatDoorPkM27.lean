/- Lemmas for the proofs of chapter 11. -/
import Derived.Test.YtajbfioncdnkcaaGreatDoorZz
import Derived.Test.YtajbfioncdnkcaaGreatDoorPkM1
import Derived.Test.YtajbfioncdnkcaaGreatDoorPkM19
import Derived.Test.YtajbfioncdnkcaaGreatDoorPkM2
set_option maxRecDepth 100000
set_option maxHeartbeats 16000000
namespace Cl
theorem nD.unique {p:Int→Prop} {r s:Option Int} (h:nD p r) (k:nD p s):r=s:=by
 cases r with
 | none=>cases s with
  | none=>rfl
  | some u=>exact absurd (k.one u rfl).1 (h.no rfl u)
 | some u=>cases s with
  | none=>exact absurd (h.one u rfl).1 (k.no rfl u)
  | some v=>
   obtain⟨h1,h2⟩:=h.one u rfl;obtain⟨k1,k2⟩:=k.one v rfl;rcases h2 v k1 with e | e
   ·rw[e]
   ·rcases k2 u h1 with e' | e'
    ·rw[e']
    ·exact absurd e (mH e')
end Cl
namespace Cl
theorem ScIs.unique {p:El→Prop} {r s:RS} (h:ScIs p r) (k:ScIs p s):r=s:=QH h.valid k.valid fun e=>(h.mem e).trans (k.mem e).symm
end Cl
