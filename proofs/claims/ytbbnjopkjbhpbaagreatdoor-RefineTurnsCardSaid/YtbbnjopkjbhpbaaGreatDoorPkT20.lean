/- Lemmas. -/
import Derived.Test.YtbbnjopkjbhpbaaGreatDoorPkT13
set_option maxRecDepth 99999
set_option maxHeartbeats 9999999
namespace Cl
open Go Go.RowKit Go.Proofs Tryz
theorem bzK(s:ByteArray):s.toList.isEmpty=decide (s.size=0):=by
 rw[xE];obtain⟨⟨l⟩⟩:=s;cases l<;>simp[ByteArray.size]
theorem PZ(n:Nat):((n:Int)==0)=decide (n=0):=by
 rw[Bool.eq_iff_iff,beq_iff_eq,decide_eq_true_eq];omega
theorem Oi(k n:Int)(s:ByteArray)(q p:Option Addr)(b m a l:Nat)(w:zW):
 zX 237 #[.agg #[.int .i64 k,.int .i64 n,.string s,.slice q b m,.slice p a l]] w (.bool (Nn k n s.size b a)):=by
 have d:=(Own.start (ezr w)).al #[.int .i64 k,.int .i64 n,.string s,.slice q b m,.slice p a l] 76;have j:=zh d;clear d;refine au fun R y=>?_
 go_enter func237,ntmps237
 go_upto_region 1 with(fail)
 refine aW [1,3,4,5,6] (fun t w'=>t=[.p w.heap.size,.bool (decide (n=0)),.bool (decide (s.size=0)),.bool (decide (b=0)),.bool (decide (a=0))]/\Own w (Mem.of w) w' (Mem.of w) [.obj w.heap.size 76 #[.int .i64 k,.int .i64 n,.string s,.slice q b m,.slice p a l]]) ?_ ?_
 .intro Y x;obtain⟨v,J,I,H,G⟩:=j.o.obj.cs5;have u:=j.o.obj.lt
  go_quiet (fail)
  go_wp2;refine x.o _ _ rfl ⟨?_,j.o.FN _⟩;show[Value.pointer (some ⟨w.heap.size,0,none⟩),Value.bool (n==0),Value.bool s.toList.isEmpty,Value.bool ((b:Int)==0),Value.bool ((a:Int)==0)]=_;rw[bzK,PZ,PZ]
  rfl
 rintro z t F-⟨rfl,d⟩;generalize g:decide (n=0)=B at*
 generalize f:decide (s.size=0)=A at*
 generalize i:decide (b=0)=D at*
 generalize h:decide (a=0)=C at*
 simp[bz,lk];have v:=d.obj.c 0;have u:=d.obj.lt;have r:=zh d.aF;have E:=zh (show Nn k n s.size b a=(decide (1<=k/\k<=6)&&(decide (k=2\/k=3)||B)&&(decide (k=4)||A)&&(decide (k=5)||D)&&(decide (k=6)||C))by unfold Nn;rw[g,f,i,h]);clear d j;clear g f i h;go_wp2
 all_goals refine y.o _ _ ⟨aP ?_,r.o⟩
 all_goals rw[E.o]
 all_goals first
  |(simp_all;done)
  |(simp_all;omega)
  |(trace_state;done )
end Cl
