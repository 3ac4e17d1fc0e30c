/- Lemmas for the proofs of chapter 11. -/
import Derived.Test.YtdgjplfcpcphoaaGreatDoorPkE22
import Derived.Test.YtdgjplfcpcphoaaGreatDoorPkE6
set_option maxRecDepth 100000
set_option maxHeartbeats 16000000
namespace Cl
open Go Go.RowKit Go.Proofs Tryz
theorem Lx(u:Int)(w:zW)(f : -1000000000000002<=u)(d:u<=1000000000000002):
 Calls prog 220 #[.int .i64 u] w fun e w'=>e=.returned (.int .i64 (u/10000))/\Below w.heap.size w w':=by
 refine aj fun R a=>?_;have c:=zh (azk u);have b:=zh (azi u)
 go_enter func220,ntmps220
 go_wp2
 all_goals refine a.o _ _ ⟨dU ?_,zR _ _⟩
 all_goals simp only[c.o,b.o]at*
 all_goals (repeat' split)<;>first|omega|(unfold wrap64;omega)
theorem BD(u:Int)(w:zW):
 zX 207 #[.int .i64 u] w (.bool (decide (iW u))):=by
 refine aj fun R a=>?_
 go_enter func207,ntmps207
 go_wp2
 all_goals refine a.o _ _ ⟨aS ?_,zR _ _⟩
 all_goals first
  |(symm;rw[decide_eq_true_iff];unfold iW iD;omega)
  |(symm;rw[decide_eq_false_iff_not];unfold iW iD;omega)
  |(symm;rw[decide_eq_decide];unfold iW iD;omega)
theorem Jb(u v:Int)(w:zW)(f : -1000000000000002<=u)(d:u<=1000000000000002)(c : -1000000000000002<=v)(b:v<=1000000000000002):
 zX 204 #[.int .i64 u,.int .i64 v] w (.bool (decide (iB u v))):=by
 refine aj fun R a=>?_
 go_enter func204,ntmps204
 go_wp2
 all_goals refine a.o _ _ ⟨aS ?_,zR _ _⟩
 all_goals first
  |(symm;rw[decide_eq_true_iff];unfold iB;omega)
  |(symm;rw[decide_eq_false_iff_not];unfold iB;omega)
  |(symm;rw[decide_eq_decide];unfold iB;omega)
theorem tL(u:Int)(w:zW):
 zX 187 #[.int .i64 u] w (.bool (decide (u%10000=0))):=by
 have H:=zh (p9 u);refine aj fun R a=>?_
 go_enter func187,ntmps187
 go_wp2
 all_goals refine a.o _ _ ⟨aS ?_,zR _ _⟩
 all_goals first
  |(rw[Bool.eq_iff_iff,beq_iff_eq,decide_eq_true_iff];exact H.o)
  |(trace_state;done )
end Cl
