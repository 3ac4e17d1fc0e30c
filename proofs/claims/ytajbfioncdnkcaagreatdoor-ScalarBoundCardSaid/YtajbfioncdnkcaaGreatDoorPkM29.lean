/- Lemmas for the proofs of chapter 11. -/
import Derived.WalkKit
import Derived.Test.YtajbfioncdnkcaaGreatDoorZz
import Derived.Test.YtajbfioncdnkcaaGreatDoorPkM1
import Derived.Test.YtajbfioncdnkcaaGreatDoorPkM2
set_option maxRecDepth 100000
set_option maxHeartbeats 16000000
namespace Cl
mutual
def nE:Dt→Int→Int
 | .mk _ _ _ i _ d,most=>j6 d most (j6 i most 1)
def j6:List Dt→Int→Int→Int
 | [],_,n=>n
 | x::r,most,n=>if n≤most then j6 r most (n+nE x (most - n)) else n
end
mutual
def lU:Dt→Bool
 | .mk _ _ s i l d=>decide (s.size≤80)&&qg i&&mP l d
def qg:List Dt→Bool
 | []=>true
 | x::r=>lU x&&qg r
def mP:List ByteArray→List Dt→Bool
 | t::l,x::r=>decide (t.size≤80)&&lU x&&mP l r
 | _,_=>true
end
end Cl
namespace Cl
mutual
theorem Eh:∀(d:Dt) (m:Int),nE d m≤m→nE d m=cnt d
 | .mk k n s i l d,m,h=>by
  simp only[nE] at h ⊢;have h1:=mF d m (j6 i m 1);have h2:=yD i m 1 zo;have h3:=yD d m (j6 i m 1) h;rw[h3,h2];simp only[cnt];omega
theorem yD:∀(l:List Dt) (m n:Int),j6 l m n≤m→j6 l m n=n+cntL l
 | [],m,n,h=>by simp[j6,cntL]
 | x::r,m,n,h=>by
  simp only[j6] at h ⊢;by_cases hn:n≤m
  ·rw[if_pos hn] at h ⊢;have h1:=mF r m (n+nE x (m - n));have h2:=Eh x (m - n) zo;have h3:=yD r m _ h;rw[h3,h2];simp only[cntL];omega
  ·rw[if_neg hn] at h;omega
theorem pY:∀(d:Dt) (m:Int),1≤nE d m
 | .mk k n s i l d,m=>by
  simp only[nE];have h1:=mF d m (j6 i m 1);have h2:=mF i m 1;omega
theorem mF:∀(l:List Dt) (m n:Int),n≤j6 l m n
 | [],m,n=>by simp[j6]
 | x::r,m,n=>by
  simp only[j6];by_cases hn:n≤m
  ·rw[if_pos hn];have h1:=mF r m (n+nE x (m - n));have h2:=pY x (m - n);omega
  ·rw[if_neg hn];exact Int.le_refl _
end
mutual
theorem xR:∀(d:Dt) (m:Int),0≤m→nE d m≤m+1
 | .mk k n s i l d,m,h=>by
  simp only[nE];have h1:=CE i m 1 zo zo;have h2:=mF i m 1;exact CE d m _ zo h1
theorem CE:∀(l:List Dt) (m n:Int),1≤n→n≤m+1→j6 l m n≤m+1
 | [],m,n,h,h'=>by simpa [j6] using h'
 | x::r,m,n,h,h'=>by
  simp only[j6];by_cases hn:n≤m
  ·rw[if_pos hn];have h1:=xR x (m - n) zo;have h2:=pY x (m - n);exact CE r m _ zo zo
  ·rw[if_neg hn];exact h'
end
theorem vM (l:List Dt) (m n:Int) (k:Nat) (h:k<l.length) (hn:n≤m):j6 (l.drop k) m n=j6 (l.drop (k+1)) m (n+nE l[k] (m - n)):=by
 rw[List.drop_eq_getElem_cons h,j6,if_pos hn]
theorem vL (l:List Dt) (m n:Int) (hn:¬ n≤m):j6 l m n=n:=by
 cases l with
 | nil=>rfl
 | cons x r=>rw[j6,if_neg hn]
theorem Gu (l:List Dt) (k:Nat) (h:k<l.length):qg (l.drop k)=(lU l[k]&&qg (l.drop (k+1))):=by rw[List.drop_eq_getElem_cons h,qg]
theorem Gt (t:List ByteArray) (l:List Dt) (k:Nat) (h:k<l.length) (h':k<t.length) :
 mP (t.drop k) (l.drop k)=(decide (t[k].size≤80)&&lU l[k]&&mP (t.drop (k+1)) (l.drop (k+1))):=by rw[List.drop_eq_getElem_cons h,List.drop_eq_getElem_cons h',mP]
theorem Ka (t:List ByteArray):mP t []=true:=by cases t <;> rfl
theorem MK (d:Dt):lU d=(decide (d.str.size≤80)&&qg d.items&&mP d.labels d.bv):=by
 obtain⟨k,n,s,i,l,e⟩:=d;simp only[lU]
 rfl
theorem Px (d:Dt) (m:Int):nE d m=j6 d.bv m (j6 d.items m 1):=by
 obtain⟨k,n,s,i,l,e⟩:=d;simp only[nE,Dt.items,Dt.bv]
end Cl
