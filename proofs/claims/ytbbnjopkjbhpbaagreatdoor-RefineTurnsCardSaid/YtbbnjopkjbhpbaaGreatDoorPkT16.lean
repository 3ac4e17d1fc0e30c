/- Lemmas. -/
import Derived.Sort.Grow
import Derived.Deep.Draws
import Derived.Test.YtbbnjopkjbhpbaaGreatDoorZxT
set_option maxRecDepth 99999
set_option maxHeartbeats 9999999
namespace Cl
open Go Go.RowKit Go.Sort
theorem ezK {α:Type} (a:Ask α):∀w:World,w.drawn≤(w.ask a).2.drawn:=by
 induction a with
 | done a=>intro w;exact zI _
 | ask what range k ih=>
  intro w;unfold World.ask
  dsimp only
  split
  ·exact ih _ w
  ·exact yJ (Nat.le_succ w.drawn) (ih _ { w with drawn:=w.drawn+1 })
theorem dz4 (w:World) (c:Sys):w.drawn≤(w.sys c).2.drawn:=by
 unfold World.sys;have h:=ezK (Kernel.perform c w.os) w
 split
 ·exact zI _
 ·rename_i heq;rw[heq] at h;exact h
theorem ezC {P:Program} {w w':World} {a:Addr} {v:Value} {at_:Bool} {l:List Addr} (h:w.farStore P a v at_=.ok (w',l)):w'.drawn=w.drawn:=by
 unfold World.farStore at h
 split at h
 ·split at h
  ·rename_i heq;cases h;unfold World.viewStore at heq;simp only[bind,Except.bind,pure,Except.pure] at heq
   repeat' (split at heq)
   all_goals (try cases heq)
   all_goals rfl
  ·cases h
 ·cases h
def okR {α:Type} (d:Nat):Result α→Prop
 | .ok _ w=>d≤w.drawn
 | .halt _ w=>d≤w.drawn
theorem Nh {α:Type} (P:Program) (x:Sem α):∀(w:World) (d:Nat),d≤w.drawn→okR d (x.run P w):=by
 induction x with
 | pure a=>intro w d h;exact h
 | load m a k ih=>intro w d h;simp only[Sem.run];(repeat' split) <;> first | exact ih _ _ _ h | exact h
 | store m a v k ih=>
  intro w d h
  cases v <;> simp only[Sem.run] <;> (repeat' split) <;> first | exact h | exact ih _ _ h | (rename_i heq;exact ih _ _ (by rw[ezC heq];exact h))
 | new o k ih=>intro w d h;exact ih _ _ _ h
 | shape r k ih=>intro w d h;exact ih _ _ _ h
 | freeze a n k ih=>intro w d h;simp only[Sem.run];exact ih _ _ (by unfold World.freeze;(repeat' split) <;> exact h)
 | frozen a k ih=>intro w d h;exact ih _ _ _ h
 | getObj r k ih=>intro w d h;simp only[Sem.run];split <;> first | exact h | exact ih _ _ _ h
 | setObj r o k ih=>intro w d h;simp only[Sem.run];split <;> first | exact h | exact ih _ _ h
 | choose q k ih=>intro w d h;simp only[Sem.run];split <;> first | exact ih _ _ _ h | exact ih _ _ _ (Nat.le_succ_of_le h)
 | sys c k ih=>intro w d h;exact ih _ _ _ (yJ h (dz4 w c))
 | program k ih=>intro w d h;exact ih _ _ _ h
 | mark m k ih=>intro w d h;exact ih _ _ h
 | halt e=>intro w d h;exact h
def JQ (d:Nat):GStep→Prop
 | .ended ..=>True
 | .go _ w _ | .comm _ _ _ _ w _ | .spawn _ _ w _ | .count _ w _ | .timer _ _ w _ | .alone _ _ w _ | .newcoro _ _ _ w _ | .coroswitch _ _ _ w _ | .collect _ w _ | .watch _ w _=>d≤w.drawn
theorem qE {d:Nat} {es:Array Event} {s:GStep} (h:JQ d s):JQ d (s.after es):=by cases s <;> exact h
section
variable {P:Program} {d:Nat}
theorem gZ {α:Type} {x:Sem α} {w w':World} {a:α} (h:x.run P w=.ok a w') (k:d≤w.drawn):d≤w'.drawn:=by
 have:=Nh P x w d k
 rwa [h] at this
theorem run_halt {α:Type} {x:Sem α} {w w':World} {a:Halt} (h:x.run P w=.halt a w') (k:d≤w.drawn):d≤w'.drawn:=by
 have:=Nh P x w d k
 rwa [h] at this
theorem Ut (w:World) (fd:Nat) (t:ByteArray) (o:Outcome):JQ d (endWith w fd t o):=by
 unfold endWith
 (repeat' split) <;> trivial
theorem QV {fr:Frame} {a:List ByteArray} {m:String} {b:Bool} {w:World} (k:d≤w.drawn):JQ d (dieOf fr a m b w):=k
theorem x8 {fr:Frame} {v:Value} {w:World} (k:d≤w.drawn):JQ d (endPrinting P fr v w):=by
 unfold endPrinting
 dsimp only
 split
 ·exact k
 ·trivial
theorem Fs {fr:Frame} {cs:List Frame} {dy:Option Dying} {m:String} {w:World} (k:d≤w.drawn):JQ d (endFatal P fr cs dy m w):=by
 unfold endFatal
 dsimp only
 split
 ·rename_i h;exact gZ h k
 ·trivial
 ·trivial
theorem RL {fr:Frame} {x:Dying} {f:Fatal} {w:World} (k:d≤w.drawn):JQ d (writeOn P fr x f w):=by
 unfold writeOn
 dsimp only
 split
 ·trivial
 ·rw[Sem.runT_eq]
  split
  ·rename_i h;exact gZ (Prod.mk.inj h).1 k
  ·rename_i h;exact run_halt (Prod.mk.inj h).1 k
  ·trivial
  ·trivial
theorem ezF {fr:Frame} {x:Dying} {w:World} (k:d≤w.drawn):JQ d (die P fr x w):=by
 unfold die
 split
 ·exact RL k
 ·split
  ·split
   ·exact k
   ·exact Ut ..
  ·dsimp only
   split
   ·exact k
   ·split
    ·rename_i h;exact gZ h k
    ·trivial
   ·rw[Sem.runT_eq]
    dsimp only
    refine qE ?_
    split
    ·rename_i h;exact gZ h k
    ·rename_i h;exact gZ h k
    ·trivial
    ·rename_i h;exact x8 (run_halt h k)
    ·trivial
   ·trivial
theorem yh {main:Bool} {fr:Frame} {cs:List Frame} {dy:Option Dying} {v:Value} {w:World} (k:d≤w.drawn):JQ d (doReturn P main fr cs dy v w):=by
 unfold doReturn
 (repeat' split) <;> first | exact k | trivial
theorem bz5 {c:Prop} [Decidable c] {a b:GStep} (h1:JQ d a) (h2:JQ d b):JQ d (if c then a else b):=by split <;> assumption
theorem FQ {fr:Frame} {cs:List Frame} {dy:Option Dying} {x:Deferred} {w:World} (k:d≤w.drawn):JQ d (callDeferred P fr cs dy x w):=by
 unfold callDeferred;refine bz5 trivial ?_;rw[Sem.runT_eq]
 dsimp only
 refine qE ?_;have K:=Nh P (invoke x.target x.args) w d k;generalize (invoke x.target x.args).run P w=r at K ⊢
 (repeat' split) <;> first | exact K | trivial | exact Fs K | exact QV K
theorem Wq {main:Bool} {fr:Frame} {cs:List Frame} {dy:Option Dying} {w:World} (k:d≤w.drawn):JQ d (unwind P main fr cs dy w):=by
 unfold unwind
 split
 ·rw[Sem.runT_eq]
  dsimp only
  refine qE ?_
  split
  ·rename_i h;exact gZ h k
  ·trivial
 ·exact FQ k
 ·split
  ·trivial
  ·split
   ·trivial
   ·split
    ·exact k
    ·split
     ·split
      ·exact k
      ·split
       ·rename_i h;exact gZ h k
       ·trivial
       ·trivial
     ·split
      ·exact x8 k
      ·trivial
  ·split
   ·exact yh k
   ·rw[Sem.runT_eq]
    dsimp only
    refine qE ?_
    split
    ·rename_i h;exact yh (gZ h k)
    ·trivial
    ·trivial
theorem azJ {fr:Frame} {cs:List Frame} {dy:Option Dying} {g:Nat} {w:World} (k:d≤w.drawn):JQ d (early P fr cs dy g w):=by
 unfold early
 dsimp only
 have nY:∀w:World,d≤w.drawn→JQ d (match w.heap[g]? with
  | some (.pending c elem)=>.go { frame:=fr,callers:=cs,status:=.running,dying:=dy } { w with heap:=w.heap.setIfInBounds g (.cells c elem) }
  | _ => .ended (.stuck "early: the variable does not wait" (fr.pos P)) w) := fun w k => by split <;> first | exact k | trivial
 split
 ·exact nY _ k
 ·split
  ·trivial
  ·split
   ·exact nY _ k
   ·split
    ·exact nY _ k
    ·split
     ·trivial
     ·exact k
     ·trivial
     ·exact nY _ k
     ·split
      ·exact k
      ·split
       ·exact nY _ k
       ·split
        ·rename_i h;exact nY _ (gZ h k)
        ·rename_i h;exact gZ h k
        ·trivial
theorem Jz {fr:Frame} {cs:List Frame} {dy:Option Dying} {x:Sem Next} {w:World} {ls:Bool} (k:d≤w.drawn):JQ d (stepG.apply P ls fr cs dy x w):=by
 unfold stepG.apply
 dsimp only
 have e:∃es,(if ls=true then x.runT P w #[] else (x.run P w,#[]))=(x.run P w,es):=by
  split
  ·exact⟨_,Sem.runT_eq ..⟩
  ·exact⟨_,rfl⟩
 obtain⟨es,e⟩:=e;rw[e]
 dsimp only
 refine qE ?_;have K:=Nh P x w d k;generalize x.run P w=r at K ⊢
 (repeat' split) <;> first | exact K | trivial | exact Fs K | exact QV K | exact azJ K
theorem czC {main ls:Bool} {fr:Frame} {cs:List Frame} {dy:Option Dying} {w:World} (k:d≤w.drawn):JQ d (stepG.exec P main ls fr cs dy w):=by
 have el:∀{α:Type} (o:Option α) (a:GStep) (f:α→GStep),JQ d a→(∀x,JQ d (f x))→JQ d (o.elim a f):=fun o a f h1 h2=>by cases o <;> first | exact h1 | exact h2 _
 unfold stepG.exec;simp only[Sem.runT_eq]
 split <;> (repeat' (first | with_reducible refine qE ?_ | with_reducible refine el _ _ _ ?_ (fun _=>?_) | split)) <;> first
  | exact k
  | trivial
  | exact Jz k
  | (rename_i h;first | exact gZ h k | exact run_halt h k | exact yh (gZ h k) | exact Jz (gZ h k))
  | (unfold stepG.oper;(repeat' split) <;> first | exact Jz k | trivial)
theorem Ze {main ls:Bool} {g:Goroutine} {w:World} (k:d≤w.drawn):JQ d (stepG P main g w ls):=by
 unfold stepG
 dsimp only
 split
 ·exact ezF k
 ·exact czC k
 ·exact Wq k
def okM (d:Nat):Stepped→Prop
 | .next m=>d≤m.world.drawn
 | .ended ..=>True
theorem look_ok {gs:Array Goroutine} {r:Rest} {w:World} (k:d≤w.drawn):okM d (look P gs r w):=by
 unfold look
 split
 ·dsimp only
  split
  ·trivial
  ·split
   ·trivial
   ·split
    ·rename_i h;have k:=gZ h k;exact k
    ·trivial
    ·trivial
 ·trivial
theorem czJ {r:Rest} {gs:Array Goroutine} {i:Nat} {g:Goroutine} {cs:Array CommCase} {b:Bool} {sh:CommShape} {w:World} (k:d≤w.drawn):okM d (communicate P r gs i g cs b sh w).1:=by
 unfold communicate
 dsimp only
 split
 ·trivial
 ·split
  ·split
   ·split
    ·rename_i h;unfold waitingAt at h
     (repeat' split at h) <;> cases h <;> exact k
    ·trivial
   ·exact k
  ·split
   ·trivial
   ·rename_i h;have k:=gZ h k
    (repeat' split) <;> first | exact k | trivial | (have k:=run_halt (by assumption) k;exact k) | (have k:=gZ (by assumption) k;exact k)
theorem Zq {m:Machine} {i:Nat} (k:d≤m.world.drawn):okM d (serve P m i):=by
 unfold serve
 (repeat' split) <;> (try dsimp only) <;> (repeat' split) <;> first | exact k | trivial
theorem Y9 {m m':Machine} {op:TimerOp} {v:Value} (h:timerOp m op=.ok (v,m')) (k:d≤m.world.drawn):d≤m'.world.drawn:=by
 have rt:∀(m:Machine) (i:Nat) (t:Timer) (a b:Nat),(retime m i t a b).2.world.drawn=m.world.drawn:=fun m i t a b=>by
  unfold retime
  cases t.chan with
  | none=>rfl
  | some c=>
   have:(drain m.world c).2.drawn=m.world.drawn:=by unfold drain;split <;> rfl
   exact this
 have nm:∀(N:Nat) (m:Machine) (a:Addr) (f:Nat→Timer→Value × Machine),(∀i t,(f i t).2.world.drawn=N)→∀v m',timerOp.named m a f=.ok (v,m')→m'.world.drawn=N:=fun N m a f hf v m' h=>by
  unfold timerOp.named at h
  split at h
  ·have:=congrArg (fun x:Except Halt (Value × Machine)=>match x with | .ok y=>y.2.world.drawn | _=>0) h;exact this.symm.trans (hf _ _)
  ·cases h
 cases op with
 | new t=>
  simp only[timerOp] at h
  (repeat' split at h) <;> cases h <;> exact k
 | stop a=>exact yJ k (Nat.le_of_eq (nm _ _ _ _ (fun i t=>rt _ _ _ _ _) _ _ h).symm)
 | reset a x y=>
  simp only[timerOp] at h
  split at h
  ·rename_i m1 h1;have e1:m1.world.drawn=m.world.drawn:=by
    unfold timerOp.opened at h1
    (repeat' split at h1) <;> cases h1 <;> rfl
   exact yJ k (Nat.le_of_eq ((nm _ _ _ _ (fun i t=>(rt _ _ _ _ _).trans e1) _ _ h).symm))
  ·cases h
 | deadline c r wr t=>cases h;exact k
theorem bzU {m:Machine} {i:Nat} {ls:Bool} (k:d≤m.world.drawn):okM d (runT P m i ls).1:=by
 unfold runT
 dsimp only
 have K:=Ze (P:=P) (g:=(m.gs.swapAt! i { (default:Goroutine) with status:=.finished }).1) (main:=i==0) (ls:=ls) k;generalize stepG P (i==0) _ m.world ls=s at K ⊢;cases s <;> dsimp only
 case ended=>trivial
 case comm=>exact czJ K
 case go=>exact K
 case spawn=>exact K
 case count=>split <;> first | exact K | trivial
 case alone=>exact K
 case collect=>exact look_ok K
 case watch=>exact K
 case newcoro=>exact K
 case coroswitch=>
  split
  ·exact K
  ·split <;> first | trivial | (rename_i h;cases h;exact K)
  ·trivial
 case timer=>
  split
  ·rename_i h;have k:=Y9 h (show d≤_ from K);exact k
  ·split <;> first | trivial | (rename_i h;cases h;exact K)
  ·trivial
  ·trivial
def okV (d:Nat):Move→Prop
 | .goroutine m _=>d≤m.world.drawn
 | .machine s _=>okM d s
theorem Jy {m:Machine} (k:d≤m.world.drawn):okV d (askOn P m):=by
 have pk:∀(m:Machine) (rs:List Nat),d≤m.world.drawn→okV d (match (choose (.sched rs.length)).run P m.world with
  | .halt _ w => .machine (.ended (.stuck "sched" "") w)
  | .ok k world=>
   if rs.length≤1 then .goroutine { m with world } (rs.getD k 0) else
   match (choose (.extern "sched.slice" 65536)).run P world with
   | .halt _ w => .machine (.ended (.stuck "sched.slice" "") w)
   | .ok n world=>.goroutine { m with world,rest:={ m.rest with slice:=if n=0 then none else some (rs.getD k 0,n) } } (rs.getD k 0)):=fun m rs k=>by
  split
  ·trivial
  ·rename_i h;have k:=gZ h k
   split
   ·exact k
   ·split
    ·trivial
    ·rename_i h;have k:=gZ h k;exact k
 unfold askOn
 dsimp only
 split
 ·trivial
 ·rename_i h;have k:=gZ h k
  split
  ·exact Zq k
  ·split
   ·split
    ·exact k
    ·split
     ·exact k
     ·split
      ·exact trivial
      ·trivial
   ·split
    ·rename_i wd _ _ _ _ _;exact pk ⟨wd,m.gs,m.rest⟩ _ k
    ·split
     ·trivial
     ·rename_i h;have k:=gZ h k;exact pk ⟨_,m.gs,m.rest⟩ _ k
     ·rename_i h;have k:=gZ h k;exact k
     ·rename_i h;have k:=gZ h k;exact pk (Machine.advanceTo ⟨_,m.gs,m.rest⟩ _) _ k
theorem czb {m:Machine} (k:d≤m.world.drawn):okV d (move P m):=by
 have ak:∀m:Machine,d≤m.world.drawn→okV d (ask P m):=fun m k=>by
  unfold ask
  split
  ·split
   ·trivial
   ·rename_i h;have k:=look_ok (P:=P) (gs:=m.gs) (r:=m.rest) (gZ h k)
    split
    ·rename_i h2;rw[h2] at k;exact Jy k
    ·exact k
   ·rename_i h;exact Jy (gZ h k)
  ·exact Jy k
 unfold move
 split
 ·split
  ·exact k
  ·trivial
 ·split
  ·split
   ·exact k
   ·exact ak _ k
  ·exact ak _ k
theorem step_ok {m:Machine} (k:d≤m.world.drawn):okM d (step P m):=by
 unfold step stepT;have h:=czb (P:=P) k
 split
 ·rename_i h2;rw[h2] at h;exact bzU h
 ·rename_i h2;rw[h2] at h;exact h
theorem Vq:∀(n:Nat) (m:Machine),d≤m.world.drawn→okM d (runN P n m)
 | 0,_,k=>k
 | n+1,m,k=>by
  have h:=step_ok (P:=P) k;unfold runN
  split
  ·rename_i h2;rw[h2] at h;exact Vq n _ h
  ·exact h
theorem Rh {f:FuncId} {args:Array Value} {w:World} {X:Ending→World→Prop} (h:Calls P f args w X):Calls P f args w fun e w'=>X e w'∧(∀v,e=.returned v→w.drawn≤w'.drawn):=fun cs=>by
 obtain⟨e,w',fr,h1,h2,h3⟩:=h cs;refine ⟨e,w',fr,⟨h1,fun v hv=>?_⟩,h2,h3⟩;subst hv;obtain⟨n,hn⟩:=h2;have:=Vq (P:=P) (d:=w.drawn) n (lone (Frame.enter P f args .normal) cs w) (zI _);rw[hn] at this;exact this
theorem yw {f:FuncId} {args:Array Value} {w:World} {r:Value} (h:Calls P f args w fun e w'=>e=.returned r∧Below w.heap.size w w'):Calls P f args w fun e w'=>e=.returned r∧∃q os,w'=grow (w.drewN q) os:=by
 refine (Rh h).mono ?_;rintro e w' ⟨⟨rfl,hb⟩,hd⟩;have hd:=hd _ rfl;refine ⟨rfl,w'.drawn - w.drawn,w'.heap.extract w.heap.size w'.heap.size,?_⟩;have e1:w'.heap=w.heap ++ w'.heap.extract w.heap.size w'.heap.size:=by
  apply Array.ext_getElem?;intro i;by_cases c:i<w.heap.size
  ·rw[Array.getElem?_append_left c];exact hb.block i c
  ·rw[Array.getElem?_append_right zo,Array.getElem?_extract];by_cases k:i<w'.heap.size
   ·rw[zK zo,show w.heap.size+(i - w.heap.size)=i by omega]
   ·rw[zJ zo,Array.getElem?_eq_none zo]
 have e2:w'.drawn=w.drawn+(w'.drawn - w.drawn):=zo;obtain⟨hp,tp,dr,os,out⟩:=w';have h1:os=w.os:=hb.os;have h2:tp=w.tape:=hb.tape;have h3:out=w.output:=hb.output;subst h1 h2 h3;show World.mk hp w.tape dr w.os w.output=⟨w.heap ++ _,w.tape,w.drawn+_,w.os,w.output⟩;rw[← e1,← e2]
end
end Cl
