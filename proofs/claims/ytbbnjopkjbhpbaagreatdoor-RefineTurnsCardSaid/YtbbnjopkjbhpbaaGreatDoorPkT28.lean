/- Lemmas. -/
import Derived.Test.YtbbnjopkjbhpbaaGreatDoorPkT27
set_option maxRecDepth 99999
set_option maxHeartbeats 9999999
namespace Cl
open Go Go.RowKit Go.Proofs
def opsL:List ByteArray:=[⟨#[60]⟩,⟨#[60,61]⟩,⟨#[62]⟩,⟨#[62,61]⟩,⟨#[61,61]⟩,⟨#[33,61]⟩]
def opsV:Array Value:=#[.string ⟨#[60]⟩,.string ⟨#[60,61]⟩,.string ⟨#[62]⟩,.string ⟨#[62,61]⟩,.string ⟨#[61,61]⟩,.string ⟨#[33,61]⟩]
theorem Xk(op:ByteArray):(∃y∈opsL,op.toList=y.toList)↔known op.toList=true:=by
 unfold opsL;simp only[yA,List.not_mem_nil,or_false,exists_eq_or_imp,exists_eq_left,xE,known,Bool.or_eq_true,decide_eq_true_eq,Hg,J2,Ns,PQ,SQ,bz3];simp only[or_assoc]
theorem ezn{w:zW}{g:Nat}{t:TypeId}{mk:Mem}(h:bg w g t opsV):Bu (mk.add w g) (.slice (some ⟨g,0,none⟩) 6 6) opsL:=
 ⟨_,6,rfl,zI _,by simp[maxLen],fun _=>⟨g,0,rfl,fun i hi=>by
  have a:i<6:=hi;rcases(show i=0\/i=1\/i=2\/i=3\/i=4\/i=5 by omega)with rfl|rfl|rfl|rfl|rfl|rfl<;>exact⟨bzy h rfl,by first|(show(1:Nat)<=maxLen;simp[maxLen])|(show(2:Nat)<=maxLen;simp[maxLen])⟩⟩⟩
end Cl
