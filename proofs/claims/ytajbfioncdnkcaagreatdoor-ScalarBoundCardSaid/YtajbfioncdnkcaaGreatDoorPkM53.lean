/- Lemmas for the proofs of chapter 11. -/
import Derived.Test.YtajbfioncdnkcaaGreatDoorZz
import Derived.Test.YtajbfioncdnkcaaGreatDoorPkM1
import Derived.Test.YtajbfioncdnkcaaGreatDoorPkM34
import Derived.Test.YtajbfioncdnkcaaGreatDoorPkM8
set_option maxRecDepth 100000
set_option maxHeartbeats 16000000
namespace Cl
def AY (l:Table) (s:Int):List Ed:=if s<0 then [] else match l[s.toNat]? with
 | some st=>st.edges
 | none=>[]
theorem oN (l:Table) (s:Int) (b:Nat):bL l s b=bu (AY l s) b:=by
 unfold bL AY
 split
 ·rfl
 ·cases l[s.toNat]? <;> rfl
def cutS (b:Nat) (o:Nat) (e:Ed):Nat:=
 let o1:=if b<e.lo then min o e.lo else o
 if b≤e.hi then min o1 (e.hi+1) else o1
def cutE (b:Nat) (es:List Ed) (o:Nat):Nat:=es.foldl (cutS b) o
theorem Qb (b o:Nat):cutE b [] o=o:=rfl
theorem Oy (b o:Nat) {es:List Ed} {j:Nat} (h:j<es.length):cutE b (es.take (j+1)) o=cutS b (cutE b (es.take j) o) es[j]:=by
 unfold cutE;rw[List.take_succ_eq_append_getElem h,List.foldl_append]
 rfl
theorem RP (b o:Nat) (e:Ed):cutS b o e≤o:=by
 unfold cutS;simp only
 split <;> split <;> omega
theorem RQ {b o:Nat} (e:Ed) (h:b<o):b<cutS b o e:=by
 unfold cutS;simp only
 split <;> split <;> omega
theorem Ab (b:Nat):∀(es:List Ed) (o:Nat),cutE b es o≤o
 | [],_=>Nat.le_refl _
 | e::es,o=>Nat.le_trans (Ab b es (cutS b o e)) (RP b o e)
theorem Iq {b:Nat}:∀(es:List Ed) (o:Nat),b<o→b<cutE b es o
 | [],_,h=>h
 | e::es,o,h=>Iq es (cutS b o e) (RQ e h)
theorem wu {b:Nat}:∀(es:List Ed) (o c:Nat),b≤c→c<cutE b es o→bu es c=bu es b
 | [],_,_,_,_=>rfl
 | e::es,o,c,h1,h2=>by
  have ih:=wu es (cutS b o e) c h1 h2;have hlt:c<cutS b o e:=Nat.lt_of_lt_of_le h2 (Ab b es _);simp only[bu];rw[ih];unfold cutS at hlt;simp only at hlt;by_cases h3:b<e.lo
  ·rw[if_pos h3] at hlt;have h4:¬ (e.lo≤b∧b≤e.hi):=zo;have h5:¬ (e.lo≤c∧c≤e.hi):=by split at hlt <;> omega
   rw[if_neg h4,if_neg h5]
  ·rw[if_neg h3] at hlt;by_cases h4:b≤e.hi
   ·rw[if_pos h4] at hlt;rw[if_pos ⟨zo,zo⟩,if_pos ⟨zo,h4⟩]
   ·rw[if_neg zo,if_neg zo]
def wo (Ls:List Table) (ps:List Int) (b:Nat):Nat→Nat
 | 0=>256
 | k+1=>cutE b (AY (Ls.getD k []) (ps.getD k (-1))) (wo Ls ps b k)
theorem Dm {Ls:List Table} {ps:List Int} {b:Nat} (h:b<256):∀k,b<wo Ls ps b k
 | 0=>h
 | k+1=>Iq _ _ (Dm h k)
theorem Dl (Ls:List Table) (ps:List Int) (b:Nat):∀k,wo Ls ps b k≤256
 | 0=>Nat.le_refl _
 | k+1=>Nat.le_trans (Ab _ _ _) (Dl Ls ps b k)
theorem Ll {A B:Table} {p:Int × Int} {b c:Nat} (h1:b≤c) (h2:c<wo [A,B] [p.1,p.2] b 2):kV A B p c=kV A B p b:=by
 have h2:c<cutE b (AY B p.2) (cutE b (AY A p.1) 256):=h2;have h3:c<cutE b (AY A p.1) 256:=Nat.lt_of_lt_of_le h2 (Ab _ _ _);unfold kV;rw[oN,oN,oN,oN,wu _ _ _ h1 h3,wu _ _ _ h1 h2]
end Cl
