/- Lemmas for the proofs of chapter 11. -/
import Derived.Test.YtajbfioncdnkcaaGreatDoorZz
import Derived.Test.YtajbfioncdnkcaaGreatDoorPkM1
import Derived.Test.YtajbfioncdnkcaaGreatDoorPkM19
import Derived.Test.YtajbfioncdnkcaaGreatDoorPkM27
import Derived.Test.YtajbfioncdnkcaaGreatDoorPkM2
set_option maxRecDepth 100000
set_option maxHeartbeats 16000000
namespace Cl
theorem Tm (k:Int):k.tdiv 9999=if k % 9999=0∨0≤k then k / 9999 else k / 9999+1:=by
 rw[Int.tdiv_eq_ediv];have:((9999:Int) ∣ k)↔k % 9999=0:=Int.dvd_iff_emod_eq_zero;simp only[this,Int.sign]
 split <;> split <;> omega
theorem Tj (k:Int):k.tmod 9999=if k % 9999=0∨0≤k then k % 9999 else k % 9999 - 9999:=by
 rw[Int.tmod_eq_emod];have:((9999:Int) ∣ k)↔k % 9999=0:=Int.dvd_iff_emod_eq_zero;simp only[this]
 split <;> split <;> omega
end Cl
namespace Cl
theorem NM (out:List Spn) (j:Nat) (h:j<out.length) (s:Spn) (d:Bool) :
 insS s d (out.drop j)=if out[j].2+1<s.1 then out[j]::insS s d (out.drop (j+1)) else if s.2+1<out[j].1 then (if d then [] else [s]) ++ out[j]::insS s true (out.drop (j+1)) else insS (min s.1 out[j].1,max s.2 out[j].2) d (out.drop (j+1)):=by
 rw[List.drop_eq_getElem_cons h,insS]
theorem ES (l:List Spn) (k:Nat) (h:k<l.length):ic (l.take (k+1))=if l[k].2<l[k].1 then ic (l.take k) else insS l[k] false (ic (l.take k)):=by
 rw[List.take_succ_eq_append_getElem h];unfold ic;rw[List.foldl_append]
 rfl
theorem K9 (l:List Spn) (k:Nat) (h:k<l.length) (lo hi:Int):kM (l.drop k) lo hi=(if lo<l[k].1 then [(lo,l[k].1 - 1)] else []) ++ kM (l.drop (k+1)) (l[k].2+1) hi:=by
 rw[List.drop_eq_getElem_cons h,kM]
theorem G8 (l:List Spn) (x:Int):mems (l.filter fun s=>decide (s.1≤s.2)) x↔mems l x:=by
 constructor
 ·rintro ⟨s,hs,h1,h2⟩;exact⟨s,(List.mem_filter.1 hs).1,h1,h2⟩
 ·rintro ⟨s,hs,h1,h2⟩;exact⟨s,List.mem_filter.2 ⟨hs,by simp;omega⟩,h1,h2⟩
theorem ET (l:List Spn):ic (l.map nW)=nN l:=
 mX (dR _).1 (dR _).1 fun x=>by
  rw[(dR _).2];unfold nN;rw[(dR _).2];exact (G8 _ x).symm
theorem KX {t:Spn} (h:min t.2 maxU<max t.1 (-maxU)):¬ (jD t).1≤(jD t).2:=by
 have e1:(jD t).1=if (max t.1 (-maxU)) % 10000=0 then max t.1 (-maxU)+1 else max t.1 (-maxU):=rfl;have e2:(jD t).2=if (min t.2 maxU) % 10000=0 then min t.2 maxU - 1 else min t.2 maxU:=rfl;have b1:(jD t).1=max t.1 (-maxU)+1∨(jD t).1=max t.1 (-maxU):=by rw[e1];split <;> simp
 have b2:(jD t).2=min t.2 maxU - 1∨(jD t).2=min t.2 maxU:=by rw[e2];split <;> simp
 omega
theorem yK {l:List Spn}:∀s∈(kX l).map nR,lL - 1≤s.1∧s.2≤qz+1:=fun s hs=>by
 obtain⟨t,ht,rfl⟩:=List.mem_map.1 hs;have h1:=BU t ht;have e1:(nR t).1=gJ t.1:=rfl;have e2:(nR t).2=gJ t.2:=rfl;have f:=q9 t ht;rw[e1,e2];unfold gJ;simp only[maxU,lL,qz] at *
 omega
end Cl
namespace Cl
theorem rQ {l:List Spn} {lo hi:Int} (h:∀s∈l,s.1≤s.2→lo≤s.1∧s.2≤hi):∀s∈ic l,lo≤s.1∧s.2≤hi:=
 vY (dR l).1 fun x hx=>by
  obtain⟨t,ht,h1,h2⟩:=((dR l).2 x).1 hx;have:=h t ht zo;omega
theorem EU {l:List Spn} {lo hi:Int} (h:∀s∈l,s.1≤s.2→lo≤s.1∧s.2≤hi):∀s∈ic l,lo≤s.1∧s.2≤hi∧s.1≤s.2:=
 fun s hs=>⟨(rQ h s hs).1,(rQ h s hs).2,(dR l).1.ok s hs⟩
theorem PV (s:Spn) (d:Bool) (out:List Spn):insS s d (out.drop out.length)=if d then [] else [s]:=by
 rw[List.drop_length];rfl
theorem Oc (l:List Spn) (lo hi:Int):kM (l.drop l.length) lo hi=if lo≤hi then [(lo,hi)] else []:=by
 rw[List.drop_length];rfl
end Cl
