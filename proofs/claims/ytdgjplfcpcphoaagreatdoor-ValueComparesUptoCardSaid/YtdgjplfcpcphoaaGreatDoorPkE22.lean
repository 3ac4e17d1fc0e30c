/- Lemmas for the proofs of chapter 11. -/
import Derived.Test.YtdgjplfcpcphoaaGreatDoorPkE21
import Derived.Test.YtdgjplfcpcphoaaGreatDoorPkE4
set_option maxRecDepth 100000
set_option maxHeartbeats 16000000
namespace Cl
open Go Go.RowKit
def Pq(m:Mem)(v:zV)(l:List (List Bool)):Prop:=Mem.qc (fun b o x=>∃u,m.cell b o=some u/\jw m u x) v l
section
variable {w0 w w':zW} {m mk:Mem} {L:List bF}
theorem Own.fifth{a b c d e:bF}(h:Own w0 m w mk (a::b::c::d::e::L)):Own w0 m w mk (e::a::b::c::d::L):=
 h.perm (((List.perm_append_comm (l₁:=[e]) (l₂:=[a,b,c,d])).append_right L))
end
end Cl
namespace Cl
open Go Go.RowKit Go.Proofs Go.WideShapes Go.ChangeShapes Go.Deep Go.Joins Tryz
section
variable {H:Type} {enc:TypeId×Value->H} {w:zW} {spare:Nat->Bool} {held:Bool} {B:DataW H->Nat}
theorem Xt(b:q9 B)(fuel:Nat):Cu B enc w spare held (fuel+1):=fun k cs x c a=>by
 obtain⟨v,s,e,hv,hb⟩:=Fu b k cs x a;exact qdU
theorem MV(c:q9 B){r:Reach}{q:Nat}{v:zV}{d:DataW H}{p:List MemPlace}(f:Value.okWide prog w r q 35 v)(h:DataW.Trod enc prog w 0 spare held 35 v d p):
 ∃n b a x,v=dE x b a/\bG (Mem.of w) n b x.1/\bG (Mem.of w) n a x.2/\A8 n x<=B d:=by
 obtain⟨cs,rfl,g⟩:=okWide_struct underlying35 f;obtain⟨fuel,i⟩:=h;obtain⟨x,b,a,e,m,k,j⟩:=MU c (Xt c fuel) (Nat.le_succ fuel) i;refine⟨_,b,a,x,?_,m,k,j⟩;have:cs=(bu x.1 b++bu x.2 a).toArray:=by
  have o:cs.toList=bu x.1 b++bu x.2 a:=e;obtain⟨l⟩:=cs;exact congrArg Array.mk o
 rw[this];rfl
end
end Cl
namespace Cl
open Go Go.RowKit
theorem azn{w:zW}{i n:Nat}{t:TypeId}{arr:Array Value}(a:oV):
 (aD.sl i t arr n).holds (.slice (some ⟨w.heap.size,0,none⟩) n n) (a.put i (w.heap.size,(w.alloc (.cells arr t)).heap.size)) (w.alloc (.cells arr t)):=by
 show _=Value.slice (some ⟨((a.put i (w.heap.size,(w.alloc (.cells arr t)).heap.size)) i).1,0,none⟩) n n/\_/\_;rw[oV.rW];exact⟨rfl,zS,bH.new _ _ _⟩
def Sm(T:aC)(M:Mem)(v:zV):Prop:=∃b a,v=.agg #[.slice b (List.length T) a]/\aQ M (.slice b (List.length T) a) T
theorem SL{m:Mem}{w w':zW}{a:oV}{i:Nat}{r:zV}{T:aC}(e:m.ay w)(f:zB w w')(b:aQ (m.grow w w') r T):
 Sm T (m.gU w' (a.put i (w.heap.size,w'.heap.size)) [i]) (.agg #[r]):=by
 have h:=aW (Mem_grow_wins0 e a i f) b;obtain⟨d,c,rfl,g⟩:=id h;exact⟨d,c,rfl,h⟩
end Cl
