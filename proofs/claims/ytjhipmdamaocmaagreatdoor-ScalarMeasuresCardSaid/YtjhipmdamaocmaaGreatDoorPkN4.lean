/- Lemmas for the proofs of chapter 11. -/
import Derived.RangeFuncNested
import Derived.RangeFuncBound
import Derived.OwnWalkIn
import Derived.TacticsInMore
import Derived.LoopNIn
import Derived.LoopIn
import Derived.Shelf.SlSortCmp.WholeK
import Derived.Test.YtjhipmdamaocmaaGreatDoorPkN3
set_option maxRecDepth 100000
set_option maxHeartbeats 16000000
namespace Cl
open Go Go.RowKit Go.Proofs Go.WideShapes Go.ChangeShapes Go.Deep Go.Joins
section
variable {H:Type} {enc:TypeId × Value→H} {P:Program} {w:World} {spare:Nat→Bool} {held:Bool}
theorem pJ {α:Type} [Inhabited α] {t e:TypeId} {size:Nat} (ht:P.underlying t=some (.slice e)) (hc:P.cellsOf e=size) (hpos:0<size) (R:Nat→Nat→α→Prop) {fuel:Nat}
 (hR:∀(n b o:Nat) (cs:List Value) (x:DataW H × List MemPlace),n<fuel→w.cells? 0 ⟨b,o,none⟩ size=some cs→DataW.trod enc P w 0 spare held n e cs=some x→∃y:α,R b o y)
 {cs:List Value} {x:DataW H × List MemPlace} (h:DataW.trod enc P w 0 spare held fuel t cs=some x):∃v l,cs=[v]∧Mem.slice R size v l:=by
 rcases DataW.trod_slice ht h with ⟨rfl,-⟩ | ⟨a,len,cap,elems,rest,n,rfl,rfl,rfl,hb,hl,hm,hlen,hel,-,-⟩
 ·exact⟨_,[],rfl,none,0,rfl,zG _,zC _,fun h=>absurd rfl h⟩
 ·have hx:∀i,i<len→∃cs',w.cells? 0 (a.add (i*P.cellsOf e)) (P.cellsOf e)=some cs'∧∃y,DataW.trod enc P w 0 spare held n e cs'=some y:=fun i hi=>by
   have h1:=hel i hi;rw[yC zo] at h1;obtain⟨cs',h2,h3⟩:=Option.bind_eq_some_iff.1 h1;exact⟨cs',h2,_,h3⟩
  by_cases h0:len=0
  ·subst h0;exact⟨_,[],rfl,some a,cap,rfl,zC _,hm,fun h=>absurd rfl h⟩
  ·have hsp:a.spot=none:=by
    obtain⟨cs',h1,-⟩:=hx 0 zo;obtain⟨-,h2,h3⟩:=World.cells?_some h1;rw[hc] at h2 h3;have:=h3 0 hpos;rw[Nat.zero_mul] at this;have e:(a.add 0).add 0=a:=by simp[Addr.add]
    rw[e,yC zo] at this;exact LZ this
   obtain⟨b,o,sp⟩:=a;simp only at hsp;subst hsp;obtain⟨f,hf⟩:=choose_lt (α:=α) (n:=len) (p:=fun i y=>R b (o+i*size) y) (fun i hi=>by
    obtain⟨cs',h1,y,h2⟩:=hx i zo;rw[hc,Addr.add_lit] at h1;exact hR n _ _ _ _ zo h1 h2)
   refine ⟨_,(List.range len).map f,rfl,some ⟨b,o,none⟩,cap,zS,by simpa using hl,hm,fun _=>⟨b,o,rfl,fun i hi=>?_⟩⟩;have hi':i<len:=by simpa using hi
   simpa using hf i hi'
end
instance:Inhabited Dt:=⟨⟨0,0,⟨#[]⟩,[],[],[]⟩⟩
theorem SI {m:Mem} {k n:Int} {s:ByteArray} {vi vm:Value} {items:List Dt} {labels:List ByteArray} {bK:List Dt} (hk : -9223372036854775808≤k∧k≤9223372036854775807) (hn : -9223372036854775808≤n∧n≤9223372036854775807)
 (hs:s.size≤maxLen) (hi:DsAt m vi items) (hm:MsAt m vm labels bK):DtAt m vi vm (.mk k n s items labels bK):=by
 obtain⟨ai,ci,rfl,i1,i2,i3⟩:=hi;obtain⟨hl,am,cm,rfl,m1,m2,m3⟩:=hm;have h1:∃bi oi,(items≠[]→ai=some ⟨bi,oi,none⟩)∧∃f:Nat→Value × Value,∀i,i<items.length→∀h:i<items.length,p9 m bi (oi+i*5) (items[i]).kind (items[i]).num (items[i]).str (f i).1 (f i).2∧DtAt m (f i).1 (f i).2 items[i]:=by
  by_cases hne:items=[]
  ·subst hne;exact⟨0,0,fun h=>absurd rfl h,fun _=>(.bool true,.bool true),fun i h=>absurd h zS⟩
  ·obtain⟨b,off,rfl,h4⟩:=i3 hne;exact⟨b,off,fun _=>rfl,choose_lt (α:=Value × Value) (n:=items.length) (p:=fun i y=>∀h:i<items.length,p9 m b (off+i*5) (items[i]).kind (items[i]).num (items[i]).str y.1 y.2∧DtAt m y.1 y.2 items[i]) (fun i hi=>by
    obtain⟨x,y,g1,g2⟩:=h4 i hi;exact⟨(x,y),fun _=>⟨g1,g2⟩⟩)⟩
 have h2:∃bm om,(bK≠[]→am=some ⟨bm,om,none⟩)∧(∃f:Nat→Value × Value,∀i,i<bK.length→∀h:i<bK.length,p9 m bm (om+i*6+1) (bK[i]).kind (bK[i]).num (bK[i]).str (f i).1 (f i).2∧DtAt m (f i).1 (f i).2 bK[i]) ∧
  ∀i (h:i<labels.length),m.cell bm (om+i*6)=some (.string labels[i])∧(labels[i]).size≤maxLen:=by
  by_cases hne:bK=[]
  ·subst hne;exact⟨0,0,fun h=>absurd rfl h,⟨fun _=>(.bool true,.bool true),fun i h=>absurd h zS⟩,fun i h=>absurd h (by rw[hl];simp)⟩
  ·obtain⟨b,off,rfl,h4,h5⟩:=m3 hne;exact⟨b,off,fun _=>rfl,choose_lt (α:=Value × Value) (n:=bK.length) (p:=fun i y=>∀h:i<bK.length,p9 m b (off+i*6+1) (bK[i]).kind (bK[i]).num (bK[i]).str y.1 y.2∧DtAt m y.1 y.2 bK[i]) (fun i hi=>by
    obtain⟨x,y,g1,g2⟩:=h4 i hi;exact⟨(x,y),fun _=>⟨g1,g2⟩⟩),h5⟩
 obtain⟨bi,oi,e1,f,hf⟩:=h1;obtain⟨bm,om,e2,⟨g,hg⟩,h5⟩:=h2;exact .mk k n s items labels bK ai ci am cm hk hn hs hl i1 i2 m1 m2 bi oi e1 (fun i=>(f i).1) (fun i=>(f i).2) (fun i h=>(hf i h h).1) (fun i h=>(hf i h h).2) bm om e2 (fun i=>(g i).1) (fun i=>(g i).2) (fun i h=>(hg i h h).1) (fun i h=>(hg i h h).2) h5
section
variable {H:Type} {enc:TypeId × Value→H} {w:World} {spare:Nat→Bool} {held:Bool}
theorem QW {α:Type} {l:List α} (h:l.length=5):∃a b c d e,l=[a,b,c,d,e]:=by
 match l,h with
 | [a,b,c,d,e],_=>exact⟨a,b,c,d,e,rfl⟩
theorem R7 {α:Type} {l:List α} (h:l.length=6):∃a b c d e f,l=[a,b,c,d,e,f]:=by
 match l,h with
 | [a,b,c,d,e,f],_=>exact⟨a,b,c,d,e,f,rfl⟩
theorem Dn (fuel b o:Nat) (cs:List Value) (x:DataW H × List MemPlace) (hc:w.cells? 0 ⟨b,o,none⟩ 2=some cs) (h:DataW.trod enc Tryz.prog w 0 spare held fuel 153 cs=some x):∃p,IK (Mem.of w) b o p:=by
 obtain⟨y0,y1,n,-,hl,h0,h1⟩:=trod_struct2 Tryz.underlying153 h;obtain⟨c0,c1,rfl⟩:=QX (World.cells?_some hc).2.1;have e64:Tryz.prog.cellsOf 2=1:=by kernel_rfl
 simp[e64] at h0 h1;obtain⟨a0,e0,-,w0⟩:=DataW.trod_int Tryz.underlying2 h0;obtain⟨a1,e1,-,w1⟩:=DataW.trod_int Tryz.underlying2 h1;cases e0;cases e1;have w0:=EF w0;have w1:=EF w1;exact⟨(a0,a1),eD (i:=0) hc rfl,eD (i:=1) hc rfl,w0.1,w0.2,w1.1,w1.2⟩
theorem Me {fuel:Nat} {cs:List Value} {x:DataW H × List MemPlace} (h:DataW.trod enc Tryz.prog w 0 spare held fuel 29 cs=some x) :
 ∃b0 b1 b2 vi vf vt l f t,cs=[.bool b0,.bool b1,.bool b2,vi,vf,vt]∧ScAt (Mem.of w) vi vf vt ⟨b0,b1,b2,l,f,t⟩:=by
 obtain⟨xs,n,rfl,rfl,hl,hlen,hf⟩:=DataW.trod_struct Tryz.underlying29 h;have e0:Tryz.prog.cellsOf 29=6:=by kernel_rfl
 rw[e0] at hl;obtain⟨c0,c1,c2,c3,c4,c5,rfl⟩:=R7 hl;have eb:Tryz.prog.cellsOf 4=1:=by kernel_rfl
 have en:Tryz.prog.cellsOf 24=2:=by kernel_rfl
 have el:Tryz.prog.cellsOf 27=1:=by kernel_rfl
 have es:Tryz.prog.cellsOf 22=1:=by kernel_rfl
 have et:Tryz.prog.cellsOf 25=1:=by kernel_rfl
 obtain⟨y0,y1,y2,y3,y4,rfl⟩:=QW hlen;have f0:=hf 0 _ rfl;have f1:=hf 1 _ rfl;have f2:=hf 2 _ rfl;have f3:=hf 3 _ rfl;have f4:=hf 4 _ rfl;simp[eb,en,el] at f0 f1 f2 f3 f4;obtain⟨a0,e0,-⟩:=DataW.trod_bool Tryz.underlying4 f0;obtain⟨a1,e1,-⟩:=DataW.trod_bool Tryz.underlying4 f1;obtain⟨a2,e2,-⟩:=DataW.trod_bool Tryz.underlying4 f2;cases e0;cases e1;cases e2;obtain⟨z0,z1,n3,-,-,g0,g1⟩:=trod_struct2 Tryz.underlying24 f3;simp[es] at g0 g1;obtain⟨z2,n4,-,-,g2⟩:=trod_struct1 Tryz.underlying27 f4;simp[et] at g2;obtain⟨vi,l,e3,h3⟩:=j3 Tryz.underlying22 zk zo (IK (Mem.of w)) Dn g0;obtain⟨vf,f,e4,h4⟩:=j3 Tryz.underlying22 zk zo (IK (Mem.of w)) Dn g1;obtain⟨vt,t,e5,h5⟩:=j3 Tryz.underlying25 zk zo (vY (Mem.of w)) JK g2;cases e3;cases e4;cases e5;exact⟨a0,a1,a2,_,_,_,l,f,t,rfl,h3,h4,h5⟩
theorem Dw {r:Reach} {b0:Nat} {v:Value} {d:DataW H} {p:List MemPlace} (hv:Value.okWide Tryz.prog w r b0 29 v) (h:DataW.Trod enc Tryz.prog w 0 spare held 29 v d p) :
 ∃vi vf vt s,v=s.val vi vf vt∧ScAt (Mem.of w) vi vf vt s:=by
 obtain⟨cs,rfl,hsz⟩:=okWide_struct Tryz.underlying29 hv;obtain⟨fuel,hf⟩:=h;obtain⟨x0,x1,x2,vi,vf,vt,l,f,t,e,hs⟩:=Me hf;refine ⟨vi,vf,vt,⟨x0,x1,x2,l,f,t⟩,?_,hs⟩;have:cs=#[.bool x0,.bool x1,.bool x2,vi,vf,vt]:=by
  have e':cs.toList=[.bool x0,.bool x1,.bool x2,vi,vf,vt]:=e;obtain⟨l⟩:=cs;exact congrArg Array.mk e'
 rw[this];rfl
theorem NK:∀(fuel:Nat) (cs:List Value) (x:DataW H × List MemPlace),DataW.trod enc Tryz.prog w 0 spare held fuel 68 cs=some x →
 ∃d vi vm,cs=[.int .i64 d.kind,.int .i64 d.num,.string d.str,vi,vm]∧DtAt (Mem.of w) vi vm d:=by
 intro fuel
 induction fuel using Nat.strongRecOn with
 | ind fuel ih=>
 intro cs x h;obtain⟨xs,n,rfl,rfl,hl,hlen,hf⟩:=DataW.trod_struct Tryz.underlying68 h;have ed:Tryz.prog.cellsOf 68=5:=by kernel_rfl
 rw[ed] at hl;obtain⟨c0,c1,c2,c3,c4,rfl⟩:=QW hl;have e0:Tryz.prog.cellsOf 3=1:=by kernel_rfl
 have e1:Tryz.prog.cellsOf 2=1:=by kernel_rfl
 have e2:Tryz.prog.cellsOf 9=1:=by kernel_rfl
 have e3:Tryz.prog.cellsOf 65=1:=by kernel_rfl
 have e4:Tryz.prog.cellsOf 66=1:=by kernel_rfl
 have e5:Tryz.prog.cellsOf 139=6:=by kernel_rfl
 obtain⟨y0,y1,y2,y3,y4,rfl⟩:=QW hlen;have f0:=hf 0 _ rfl;have f1:=hf 1 _ rfl;have f2:=hf 2 _ rfl;have f3:=hf 3 _ rfl;have f4:=hf 4 _ rfl;simp[e0,e1,e2,e3,e4] at f0 f1 f2 f3 f4;obtain⟨k,g0,-,w0⟩:=DataW.trod_int Tryz.underlying3 f0;obtain⟨m,g1,-,w1⟩:=DataW.trod_int Tryz.underlying2 f1;obtain⟨s,g2,-,w2⟩:=DataW.trod_string Tryz.underlying9 f2;cases g0;cases g1;cases g2;obtain⟨vi,items,g3,h3⟩:=pJ Tryz.underlying65 ed zo (DAt (Mem.of w)) (fun n' b o cs x hn hc hx=>by
  obtain⟨d,vi,vm,rfl,hd⟩:=ih n' zo cs x hx;exact⟨d,_,_,⟨eD (i:=0) hc rfl,eD (i:=1) hc rfl,eD (i:=2) hc rfl,eD (i:=3) hc rfl,eD (i:=4) hc rfl⟩,hd⟩) f3
 obtain⟨vm,ms,g4,h4⟩:=pJ (α:=ByteArray × Dt) Tryz.underlying66 e5 zo (fun b o y=>(Mem.of w).cell b o=some (.string y.1)∧y.1.size≤maxLen∧DAt (Mem.of w) b (o+1) y.2) (fun n' b o cs x hn hc hx=>by
  obtain⟨xs,n2,rfl,rfl,-,hlen2,hf2⟩:=DataW.trod_struct Tryz.underlying139 hx;obtain⟨c0,c1,c2,c3,c4,c5,rfl⟩:=R7 (World.cells?_some hc).2.1;obtain⟨y0,y1,rfl⟩:=QX hlen2;have f0:=hf2 0 _ rfl;have f1:=hf2 1 _ rfl;simp[e2,ed] at f0 f1;obtain⟨s,g2,-,w2⟩:=DataW.trod_string Tryz.underlying9 f0;obtain⟨d,vi,vm,g3,hd⟩:=ih n2 zo _ _ f1;cases g2;cases g3;exact⟨(s,d),eD (i:=0) hc rfl,w2,_,_,⟨eD (i:=1) hc rfl,eD (i:=2) hc rfl,eD (i:=3) hc rfl,eD (i:=4) hc rfl,eD (i:=5) hc rfl⟩,hd⟩) f4
 cases g3;cases g4;have w0:=EF w0;have w1:=EF w1;refine ⟨.mk k m s items (ms.map (·.1)) (ms.map (·.2)),_,_,rfl,SI w0 w1 w2 h3 ⟨zS,?_⟩⟩;obtain⟨a,c,rfl,k1,k2,k3⟩:=h4;refine ⟨a,c,zS,by simpa using k1,k2,fun hne=>?_⟩;obtain⟨b,off,rfl,k4⟩:=k3 (fun e=>hne (by rw[e];rfl));refine ⟨b,off,rfl,fun i h=>?_,fun i h=>?_⟩
 ·have hi:i<ms.length:=by simpa using h
  simpa using (k4 i hi).2.2
 ·have hi:i<ms.length:=by simpa using h
  simpa using ⟨(k4 i hi).1,(k4 i hi).2.1⟩
theorem NL {r:Reach} {b0:Nat} {v:Value} {d:DataW H} {p:List MemPlace} (hv:Value.okWide Tryz.prog w r b0 68 v) (h:DataW.Trod enc Tryz.prog w 0 spare held 68 v d p) :
 ∃vi vm x,v=Dt.val x vi vm∧DtAt (Mem.of w) vi vm x:=by
 obtain⟨cs,rfl,hsz⟩:=okWide_struct Tryz.underlying68 hv;obtain⟨fuel,hf⟩:=h;obtain⟨x,vi,vm,e,hs⟩:=NK fuel _ _ hf;refine ⟨vi,vm,x,?_,hs⟩;have:cs=#[.int .i64 x.kind,.int .i64 x.num,.string x.str,vi,vm]:=by
  have e':cs.toList=[.int .i64 x.kind,.int .i64 x.num,.string x.str,vi,vm]:=e;obtain⟨l⟩:=cs;exact congrArg Array.mk e'
 rw[this];rfl
end
end Cl
namespace Cl
open Go
section
variable {P:Program} {ops:Array Oper} {Q:Exit→Act→World→Prop} {S:World→Prop} {last:Nat}
def lM (P:Program) (ops:Array Oper) (Q:Exit→Act→World→Prop) (S:World→Prop) (last:Nat):Nat→Array Bool→Act→World→Prop
 | 0,listed,a,w=>Region.ready .any ops listed=[]∧Q .normal a w
 | fuel+1,listed,a,w=>
  (Region.ready .any ops listed=[]→Q .normal a w) ∧
  ∀i∈Region.ready .any ops listed,wpOp P ops Q i (fun a' w'=>(i≠last→S w')∧lM P ops Q S last fuel (listed.setIfInBounds i true) a' w') a w
theorem Af:∀(fuel:Nat) (listed:Array Bool) (a:Act) (w:World),lM P ops Q S last fuel listed a w→wpAny P .any ops Q fuel listed a w
 | 0,_,_,_,h=>h
 | fuel+1,_,_,_,h=>⟨h.1,fun i hi=>wpOp_mono (fun a' w' h'=>Af fuel _ a' w' h'.2) (h.2 i hi)⟩
def waits (ops:Array Oper) (last i:Nat):Bool:=((ops[last]?).map fun o=>o.after.any fun e=>Region.binds .any e&&e.on==i).getD false
theorem pO {listed:Array Bool} {i:Nat} (hw:waits ops last i=true) (hr:i∈Region.ready .any ops listed):last ∉ Region.ready .any ops listed:=by
 intro hl;obtain⟨-,ol,hol,hall⟩:=mem_ready.1 hl;simp only[waits,hol,Option.map_some,Option.getD_some,Array.any_eq_true',Bool.and_eq_true,beq_iff_eq] at hw;obtain⟨e,he,hb,hon⟩:=hw;have h1:=hall e he hb;have h0:=(mem_ready.1 hr).1;rw[hon] at h1;rcases Nat.lt_or_ge i listed.size with h' | h'
 ·simp[h'] at h0 h1;rw[h0] at h1;cases h1
 ·simp[Array.getElem?_eq_none h'] at h1
theorem CZ {i:Nat} {oi:Oper} {v:Value} (hi:ops[i]?=some oi) (hsel:∀(j:Nat) (o:Oper) cs b,ops[j]?=some o→o.op≠.select cs b)
 (hQ:∀c a w,Q (.panic c) (a.put oi.dst v) w→Q (.panic c) a w) (hlast:waits ops last i=true) :
 ∀(fuel:Nat) (listed:Array Bool) (a:Act) (w:World),
  (∀j oj,ops[j]?=some oj→j≠i→listed.getD j true=false→(∀e∈oj.after,Region.binds .any e=true→e.on≠i)→oi.apart ops oj=true) →
  i∈Region.ready .any ops listed→YieldsIf P ops S oi v a→S w →
  lM P ops Q S last fuel (listed.setIfInBounds i true) (a.put oi.dst v) w→lM P ops Q S last (fuel+1) listed a w:=by
 intro fuel
 induction fuel with
 | zero=>
  intro listed a w _ hr hy hS H;refine ⟨fun h=>(by rw[h] at hr;cases hr),fun j hj=>?_⟩;by_cases hji:j=i
  ·subst hji;exact hy.wpOp hi hS ⟨fun _=>hS,H⟩
  ·have:=ready_mono hj hji;rw[H.1] at this
   cases this
 | succ fuel ih=>
  intro listed a w hfree hr hy hS H;refine ⟨fun h=>(by rw[h] at hr;cases hr),fun j hj=>?_⟩;by_cases hji:j=i
  ·subst hji;exact hy.wpOp hi hS ⟨fun _=>hS,H⟩
  ·have h1:=H.2 j (ready_mono hj hji);have hjl:j≠last:=fun e=>pO hlast hr (e ▸ hj);obtain⟨hjun,oj,hoj,hall⟩:=mem_ready.1 hj;have hnot:∀e∈oj.after,Region.binds .any e=true→e.on≠i:=fun e he hb heq=>by
    have h1:=hall e he hb;have h0:=(mem_ready.1 hr).1;rw[heq] at h1;rcases Nat.lt_or_ge i listed.size with h' | h'
    ·simp[h'] at h0 h1;rw[h0] at h1;cases h1
    ·simp[Array.getElem?_eq_none h'] at h1
   have h2:=wpOp_putIf hoj (hfree j oj hoj hji hjun hnot) (fun cs b=>hsel i oi cs b hi) (fun cs b=>hsel j oj cs b hoj) hQ hy h1;have hfree':∀k ok,ops[k]?=some ok→k≠i→(listed.setIfInBounds j true).getD k true=false →
    (∀e∈ok.after,Region.binds .any e=true→e.on≠i)→oi.apart ops ok=true:=fun k ok hk hki hun hno=>by
    refine hfree k ok hk hki ?_ hno;by_cases hjk:j=k
    ·subst hjk;exact hjun
    ·rw[getD_set_ne true hjk] at hun;exact hun
   refine wpOp_mono (fun a' w' h3=>⟨fun _=>h3.2.1 hjl,ih (listed.setIfInBounds j true) a' w' hfree' (ready_mono hr (Ne.symm hji)) h3.1 (h3.2.1 hjl) ?_⟩) h2;rw[Array.setIfInBounds_comm _ _ hji];exact h3.2.2
theorem az (i:Nat) {oi:Oper} {v:Value} {fuel:Nat} {listed:Array Bool} {a:Act} {w:World} (hi:ops[i]?=some oi)
 (hs:(Region.noSelect ops&&Region.free .any ops listed i&&(Region.ready .any ops listed).contains i&&waits ops last i)=true)
 (hQ:∀c a w,Q (.panic c) (a.put oi.dst v) w→Q (.panic c) a w) (hS:S w) (hy:YieldsIf P ops S oi v a)
 (h:lM P ops Q S last fuel (listed.setIfInBounds i true) (a.put oi.dst v) w):lM P ops Q S last (fuel+1) listed a w:=by
 simp only[Bool.and_eq_true] at hs;obtain⟨⟨⟨h1,h2⟩,h3⟩,h4⟩:=hs;exact CZ hi (Region.noSelect_spec h1) hQ h4 fuel listed a w (Region.free_spec hi h2) (by simpa using h3) hy hS h
theorem aH (i:Nat) {fuel:Nat} {listed:Array Bool} {a:Act} {w:World} (hr:(Region.ready .any ops listed==[i])=true)
 (h:wpOp P ops Q i (fun a' w'=>(i≠last→S w')∧lM P ops Q S last fuel (listed.setIfInBounds i true) a' w') a w):lM P ops Q S last (fuel+1) listed a w:=by
 have hr':Region.ready .any ops listed=[i]:=by simpa using hr
 exact⟨fun h0=>(by rw[hr'] at h0;cases h0),fun j hj=>(by rw[hr'] at hj;obtain rfl:=List.mem_singleton.1 hj;exact h)⟩
theorem oD (i j:Nat) {fuel:Nat} {listed:Array Bool} {a:Act} {w:World} (hr:(Region.ready .any ops listed==[i,j])=true)
 (h:wpOp P ops Q i (fun a' w'=>(i≠last→S w')∧lM P ops Q S last fuel (listed.setIfInBounds i true) a' w') a w)
 (h':wpOp P ops Q j (fun a' w'=>(j≠last→S w')∧lM P ops Q S last fuel (listed.setIfInBounds j true) a' w') a w):lM P ops Q S last (fuel+1) listed a w:=by
 have hr':Region.ready .any ops listed=[i,j]:=by simpa using hr
 refine ⟨fun h0=>(by rw[hr'] at h0;cases h0),fun k hj=>?_⟩;rw[hr'] at hj;simp only[zV,List.not_mem_nil,or_false] at hj;rcases hj with rfl | rfl
 ·exact h
 ·exact h'
theorem dE {listed:Array Bool} {a:Act} {w:World} (hr:(Region.ready .any ops listed==[])=true) (h:Q .normal a w):∀fuel,lM P ops Q S last fuel listed a w:=by
 have hr':Region.ready .any ops listed=[]:=by simpa using hr
 intro fuel
 cases fuel with
 | zero=>exact⟨hr',h⟩
 | succ n=>exact⟨fun _=>h,by rw[hr'];simp⟩
theorem fo {id:Nat} {a:Act} {w:World} (S:World→Prop) (last:Nat) (hm:P.follows .mixedOrders=true)
 (h:lM P ops Q S last ops.size (Array.replicate ops.size false) a w.drew):(Code.region id ops true).wp P Q a w:=
 wp_region_any hm (Af _ _ _ _ h)
theorem andS {i last:Nat} {A B:Prop} (h:A) (k:A→B):(i≠last→A)∧B:=⟨fun _=>h,k h⟩
theorem iP {i last:Nat} {A B:Prop} (e:i=last) (k:B):(i≠last→A)∧B:=⟨fun h=>absurd e h,k⟩
theorem aF {i:Nat} {o:Oper} {K:Act→World→Prop} {a:Act} {w:World} (hi:ops[i]?=some o) (hg:o.guard=none) (h:o.wp P a w K Q):wpOp P ops Q i K a w:=by
 unfold wpOp;rw[hi];simp only[Region.wanted,hg,if_true];exact .inl h
theorem av {o:Oper} {v:Value} {a:Act} (hg:Region.wanted o (yielded ops a.tmps)=true) (h:∀w,S w→(execOp a.eval o).run P w=.ok (.value v) w):YieldsIf P ops S o v a:=.inl ⟨hg,h⟩
theorem aP {o:Oper} {K:Act→World→Prop} {a:Act} {w w':World} {v:Value} (hr:(execOp a.eval o).run P w=.ok (.value v) w') (h:K (a.put o.dst v) w'):o.wp P a w K Q:=by
 unfold Oper.wp;rw[hr];exact h
theorem cO {o:Oper} {K:Act→World→Prop} {a:Act} {w w':World} {f:FuncId} {args:Array Value} (hr:(execOp a.eval o).run P w=.ok (.enter f args) w') {X:Ending→World→Prop}
 (hc:Calls P f args w' X) (h:∀e w'',X e w''→∃v,e=.returned v∧K (a.put o.dst v) w''):o.wp P a w K Q:=by
 unfold Oper.wp;rw[hr];refine hc.mono fun e w'' hx=>?_;obtain⟨v,rfl,hk⟩:=h e w'' hx;exact hk
theorem aZ {o:Oper} {K:Act→World→Prop} {a:Act} {w w':World} (hr:(execOp a.eval o).run P w=.ok .skip w') (h:K (a.put o.dst undef) w'):o.wp P a w K Q:=by
 unfold Oper.wp;rw[hr];exact h
end
section
variable {P:Program} {ops:Array Oper} {Q:Exit→Act→World→Prop} {D:Nat→World→Prop}
def jW (P:Program) (ops:Array Oper) (Q:Exit→Act→World→Prop) (D:Nat→World→Prop):Nat→Array Bool→Act→World→Prop
 | 0,listed,a,w=>Region.ready .any ops listed=[]∧Q .normal a w
 | fuel+1,listed,a,w=>
  (Region.ready .any ops listed=[]→Q .normal a w) ∧
  ∀i∈Region.ready .any ops listed,wpOp P ops Q i (fun a' w'=>(w'=w∨D i w')∧jW P ops Q D fuel (listed.setIfInBounds i true) a' w') a w
theorem Ag:∀(fuel:Nat) (listed:Array Bool) (a:Act) (w:World),jW P ops Q D fuel listed a w→wpAny P .any ops Q fuel listed a w
 | 0,_,_,_,h=>h
 | fuel+1,_,_,_,h=>⟨h.1,fun i hi=>wpOp_mono (fun a' w' h'=>Ag fuel _ a' w' h'.2) (h.2 i hi)⟩
theorem Gm {listed:Array Bool} {i j:Nat} (hr:i∈Region.ready .any ops listed) (hj:j∈Region.ready .any ops listed):waits ops j i=false:=by
 cases h:waits ops j i with
 | false=>rfl
 | true=>exact absurd hj (pO h hr)
theorem C8 {i:Nat} {oi:Oper} {v:Value} (hi:ops[i]?=some oi) (hsel:∀(j:Nat) (o:Oper) cs b,ops[j]?=some o→o.op≠.select cs b)
 (hQ:∀c a w,Q (.panic c) (a.put oi.dst v) w→Q (.panic c) a w) {S:World→Prop} (hlast:∀j w',waits ops j i=false→D j w'→S w') :
 ∀(fuel:Nat) (listed:Array Bool) (a:Act) (w:World),
  (∀j oj,ops[j]?=some oj→j≠i→listed.getD j true=false→(∀e∈oj.after,Region.binds .any e=true→e.on≠i)→oi.apart ops oj=true) →
  i∈Region.ready .any ops listed→YieldsIf P ops S oi v a→S w →
  jW P ops Q D fuel (listed.setIfInBounds i true) (a.put oi.dst v) w→jW P ops Q D (fuel+1) listed a w:=by
 intro fuel
 induction fuel with
 | zero=>
  intro listed a w _ hr hy hS H;refine ⟨fun h=>(by rw[h] at hr;cases hr),fun j hj=>?_⟩;by_cases hji:j=i
  ·subst hji;exact hy.wpOp hi hS ⟨.inl rfl,H⟩
  ·have:=ready_mono hj hji;rw[H.1] at this
   cases this
 | succ fuel ih=>
  intro listed a w hfree hr hy hS H;refine ⟨fun h=>(by rw[h] at hr;cases hr),fun j hj=>?_⟩;by_cases hji:j=i
  ·subst hji;exact hy.wpOp hi hS ⟨.inl rfl,H⟩
  ·have h1:=H.2 j (ready_mono hj hji);have hjl:=fun w'=>hlast j w' (Gm hr hj);obtain⟨hjun,oj,hoj,hall⟩:=mem_ready.1 hj;have hnot:∀e∈oj.after,Region.binds .any e=true→e.on≠i:=fun e he hb heq=>by
    have h1:=hall e he hb;have h0:=(mem_ready.1 hr).1;rw[heq] at h1;rcases Nat.lt_or_ge i listed.size with h' | h'
    ·simp[h'] at h0 h1;rw[h0] at h1;cases h1
    ·simp[Array.getElem?_eq_none h'] at h1
   have h2:=wpOp_putIf hoj (hfree j oj hoj hji hjun hnot) (fun cs b=>hsel i oi cs b hi) (fun cs b=>hsel j oj cs b hoj) hQ hy h1;have hfree':∀k ok,ops[k]?=some ok→k≠i→(listed.setIfInBounds j true).getD k true=false →
    (∀e∈ok.after,Region.binds .any e=true→e.on≠i)→oi.apart ops ok=true:=fun k ok hk hki hun hno=>by
    refine hfree k ok hk hki ?_ hno;by_cases hjk:j=k
    ·subst hjk;exact hjun
    ·rw[getD_set_ne true hjk] at hun;exact hun
   refine wpOp_mono (fun a' w' h3=>⟨h3.2.1,ih (listed.setIfInBounds j true) a' w' hfree' (ready_mono hr (Ne.symm hji)) h3.1 (h3.2.1.elim (fun e=>by rw[e];exact hS) (hjl w')) ?_⟩) h2;rw[Array.setIfInBounds_comm _ _ hji];exact h3.2.2
theorem oF {j i:Nat} (h:waits ops j i=true) (k:waits ops j i=false):False:=by rw[h] at k;cases k
theorem kG (i:Nat) (S:World→Prop) {oi:Oper} {v:Value} {fuel:Nat} {listed:Array Bool} {a:Act} {w:World} (hi:ops[i]?=some oi)
 (hs:(Region.noSelect ops&&Region.free .any ops listed i&&(Region.ready .any ops listed).contains i)=true)
 (hQ:∀c a w,Q (.panic c) (a.put oi.dst v) w→Q (.panic c) a w) (hlast:∀j w',waits ops j i=false→D j w'→S w') (hS:S w) (hy:YieldsIf P ops S oi v a)
 (h:jW P ops Q D fuel (listed.setIfInBounds i true) (a.put oi.dst v) w):jW P ops Q D (fuel+1) listed a w:=by
 simp only[Bool.and_eq_true] at hs;obtain⟨⟨h1,h2⟩,h3⟩:=hs;exact C8 hi (Region.noSelect_spec h1) hQ hlast fuel listed a w (Region.free_spec hi h2) (by simpa using h3) hy hS h
theorem bg (i:Nat) {fuel:Nat} {listed:Array Bool} {a:Act} {w:World} (hr:(Region.ready .any ops listed==[i])=true)
 (h:wpOp P ops Q i (fun a' w'=>(w'=w∨D i w')∧jW P ops Q D fuel (listed.setIfInBounds i true) a' w') a w):jW P ops Q D (fuel+1) listed a w:=by
 have hr':Region.ready .any ops listed=[i]:=by simpa using hr
 exact⟨fun h0=>(by rw[hr'] at h0;cases h0),fun j hj=>(by rw[hr'] at hj;obtain rfl:=List.mem_singleton.1 hj;exact h)⟩
theorem gz {listed:Array Bool} {a:Act} {w:World} (hr:(Region.ready .any ops listed==[])=true) (h:Q .normal a w):∀fuel,jW P ops Q D fuel listed a w:=by
 have hr':Region.ready .any ops listed=[]:=by simpa using hr
 intro fuel
 cases fuel with
 | zero=>exact⟨hr',h⟩
 | succ n=>exact⟨fun _=>h,by rw[hr'];simp⟩
theorem kF {id:Nat} {a:Act} {w:World} (D:Nat→World→Prop) (hm:P.follows .mixedOrders=true)
 (h:jW P ops Q D ops.size (Array.replicate ops.size false) a w.drew):(Code.region id ops true).wp P Q a w:=
 wp_region_any hm (Ag _ _ _ _ h)
theorem bI (i:Nat) {S:World→Prop} {oi:Oper} {v:Value} {fuel:Nat} {listed:Array Bool} {a:Act} {w:World} (hi:ops[i]?=some oi)
 (hs:(Region.noSelect ops&&Region.free .any ops listed i&&(Region.ready .any ops listed).contains i)=true)
 (hQ:∀c a w,Q (.panic c) (a.put oi.dst v) w→Q (.panic c) a w) (hS:S w) (hy:YieldsIf P ops S oi v a)
 (h:jW P ops Q (fun _ w=>S w) fuel (listed.setIfInBounds i true) (a.put oi.dst v) w):jW P ops Q (fun _ w=>S w) (fuel+1) listed a w:=
 kG i S hi hs hQ (fun _ _ _ h=>h) hS hy h
end
section
variable {P:Program} {ops:Array Oper} {Q:Exit→Act→World→Prop} {D:Nat→World→Prop}
def iQ (ops:Array Oper):Nat→Nat→Nat→Bool
 | 0,_,_=>false
 | n+1,j,i=>((ops[j]?).map fun o=>o.after.any fun e=>Region.binds .any e&&(e.on==i || iQ ops n e.on i)).getD false
def NY (ops:Array Oper) (listed:Array Bool):Bool:=
 (List.range ops.size).all fun k => !(listed.getD k true) || ((ops[k]?).map fun o=>o.after.all fun e => !(Region.binds .any e) || listed.getD e.on true).getD true
theorem Fa {listed:Array Bool} (h:NY ops listed=true) {k:Nat} {ok:Oper} (hk:ops[k]?=some ok) (hl:listed.getD k true=true):∀e∈ok.after,Region.binds .any e=true→listed.getD e.on true=true:=by
 intro e he hb;have hks:=(Array.getElem?_eq_some_iff.1 hk).1;have h1:=List.all_eq_true.1 h k (List.mem_range.2 hks);rw[hl,hk] at h1;simp only[Bool.not_true,Bool.false_or,Option.map_some,Option.getD_some] at h1;have h2:=(Array.all_eq_true_iff_forall_mem.1 h1) e he;rw[hb] at h2;simpa using h2
theorem Db {listed:Array Bool} (hc:∀k ok,ops[k]?=some ok→listed.getD k true=true→∀e∈ok.after,Region.binds .any e=true→listed.getD e.on true=true) {i:Nat} :
 ∀(n j:Nat),listed.getD j true=true→iQ ops n j i=true→listed.getD i true=true:=by
 intro n
 induction n with
 | zero=>intro j _ h;cases h
 | succ n ih=>
  intro j hj h;unfold iQ at h
  cases ho:ops[j]? with
  | none=>rw[ho] at h;cases h
  | some o=>
   rw[ho] at h;simp only[Option.map_some,Option.getD_some,Array.any_eq_true',Bool.and_eq_true,Bool.or_eq_true,beq_iff_eq] at h;obtain⟨e,he,hb,h1⟩:=h;have h2:=hc j o ho hj e he hb;rcases h1 with h1 | h1
   ·rw[← h1];exact h2
   ·exact ih e.on h2 h1
theorem Gl {listed:Array Bool} (hc:∀k ok,ops[k]?=some ok→listed.getD k true=true→∀e∈ok.after,Region.binds .any e=true→listed.getD e.on true=true) {i j n:Nat} (hr:i∈Region.ready .any ops listed) (hj:j∈Region.ready .any ops listed):iQ ops n j i=false:=by
 cases h:iQ ops n j i with
 | false=>rfl
 | true=>
  obtain⟨hiu,-⟩:=mem_ready.1 hr;obtain⟨-,oj,hoj,hall⟩:=mem_ready.1 hj;have hui:¬ listed.getD i true=true:=by
   rcases Nat.lt_or_ge i listed.size with h' | h'
   ·simp[h'] at hiu ⊢;exact hiu
   ·simp[Array.getElem?_eq_none h'] at hiu
  cases n with
  | zero=>cases h
  | succ n=>
   unfold iQ at h;rw[hoj] at h;simp only[Option.map_some,Option.getD_some,Array.any_eq_true',Bool.and_eq_true,Bool.or_eq_true,beq_iff_eq] at h;obtain⟨e,he,hb,h1⟩:=h;have h2:=hall e he hb;have h3:listed.getD e.on true=true:=by
    rcases Nat.lt_or_ge e.on listed.size with h' | h'
    ·simp[h'] at h2 ⊢;exact h2
    ·simp[Array.getElem?_eq_none h']
   rcases h1 with h1 | h1
   ·rw[h1] at h3;exact absurd h3 hui
   ·exact absurd (Db hc n e.on h3 h1) hui
theorem BD {n i:Nat} {oi:Oper} {v:Value} (hi:ops[i]?=some oi) (hsel:∀(j:Nat) (o:Oper) cs b,ops[j]?=some o→o.op≠.select cs b)
 (hQ:∀c a w,Q (.panic c) (a.put oi.dst v) w→Q (.panic c) a w) {S:World→Prop} (hlast:∀j w',iQ ops n j i=false→D j w'→S w') :
 ∀(fuel:Nat) (listed:Array Bool) (a:Act) (w:World),
  (∀k ok,ops[k]?=some ok→listed.getD k true=true→∀e∈ok.after,Region.binds .any e=true→listed.getD e.on true=true) →
  (∀j oj,ops[j]?=some oj→j≠i→listed.getD j true=false→(∀e∈oj.after,Region.binds .any e=true→e.on≠i)→oi.apart ops oj=true) →
  i∈Region.ready .any ops listed→YieldsIf P ops S oi v a→S w →
  jW P ops Q D fuel (listed.setIfInBounds i true) (a.put oi.dst v) w→jW P ops Q D (fuel+1) listed a w:=by
 intro fuel
 induction fuel with
 | zero=>
  intro listed a w _ _ hr hy hS H;refine ⟨fun h=>(by rw[h] at hr;cases hr),fun j hj=>?_⟩;by_cases hji:j=i
  ·subst hji;exact hy.wpOp hi hS ⟨.inl rfl,H⟩
  ·have:=ready_mono hj hji;rw[H.1] at this
   cases this
 | succ fuel ih=>
  intro listed a w hcl hfree hr hy hS H;refine ⟨fun h=>(by rw[h] at hr;cases hr),fun j hj=>?_⟩;by_cases hji:j=i
  ·subst hji;exact hy.wpOp hi hS ⟨.inl rfl,H⟩
  ·have h1:=H.2 j (ready_mono hj hji);have hjl:=fun w'=>hlast j w' (Gl hcl hr hj);obtain⟨hjun,oj,hoj,hall⟩:=mem_ready.1 hj;have hcl':∀k ok,ops[k]?=some ok→(listed.setIfInBounds j true).getD k true=true→∀e∈ok.after,Region.binds .any e=true→(listed.setIfInBounds j true).getD e.on true=true:=by
    have up:∀x,listed.getD x true=true→(listed.setIfInBounds j true).getD x true=true:=fun x hx=>by
     by_cases e:j=x
     ·subst e;by_cases hs:j<listed.size
      ·simp[hs]
      ·simp
     ·rw[getD_set_ne true e];exact hx
    intro k ok hk hl e he hb;by_cases hkj:j=k
    ·subst hkj;rw[hoj] at hk;cases hk;refine up _ ?_;have h2:=hall e he hb;rcases Nat.lt_or_ge e.on listed.size with h' | h'
     ·simp[h'] at h2 ⊢;exact h2
     ·simp[Array.getElem?_eq_none h']
    ·rw[getD_set_ne true hkj] at hl;exact up _ (hcl k ok hk hl e he hb)
   have hnot:∀e∈oj.after,Region.binds .any e=true→e.on≠i:=fun e he hb heq=>by
    have h1:=hall e he hb;have h0:=(mem_ready.1 hr).1;rw[heq] at h1;rcases Nat.lt_or_ge i listed.size with h' | h'
    ·simp[h'] at h0 h1;rw[h0] at h1;cases h1
    ·simp[Array.getElem?_eq_none h'] at h1
   have h2:=wpOp_putIf hoj (hfree j oj hoj hji hjun hnot) (fun cs b=>hsel i oi cs b hi) (fun cs b=>hsel j oj cs b hoj) hQ hy h1;have hfree':∀k ok,ops[k]?=some ok→k≠i→(listed.setIfInBounds j true).getD k true=false →
    (∀e∈ok.after,Region.binds .any e=true→e.on≠i)→oi.apart ops ok=true:=fun k ok hk hki hun hno=>by
    refine hfree k ok hk hki ?_ hno;by_cases hjk:j=k
    ·subst hjk;exact hjun
    ·rw[getD_set_ne true hjk] at hun;exact hun
   refine wpOp_mono (fun a' w' h3=>⟨h3.2.1,ih (listed.setIfInBounds j true) a' w' hcl' hfree' (ready_mono hr (Ne.symm hji)) h3.1 (h3.2.1.elim (fun e=>by rw[e];exact hS) (hjl w')) ?_⟩) h2;rw[Array.setIfInBounds_comm _ _ hji];exact h3.2.2
theorem aQ (i n:Nat) (S:World→Prop) {oi:Oper} {v:Value} {fuel:Nat} {listed:Array Bool} {a:Act} {w:World} (hi:ops[i]?=some oi)
 (hs:(Region.noSelect ops&&Region.free .any ops listed i&&(Region.ready .any ops listed).contains i&&NY ops listed)=true)
 (hQ:∀c a w,Q (.panic c) (a.put oi.dst v) w→Q (.panic c) a w) (hlast:∀j w',iQ ops n j i=false→D j w'→S w') (hS:S w) (hy:YieldsIf P ops S oi v a)
 (h:jW P ops Q D fuel (listed.setIfInBounds i true) (a.put oi.dst v) w):jW P ops Q D (fuel+1) listed a w:=by
 simp only[Bool.and_eq_true] at hs;obtain⟨⟨⟨h1,h2⟩,h3⟩,h4⟩:=hs;exact BD hi (Region.noSelect_spec h1) hQ hlast fuel listed a w (fun k ok hk hl=>Fa h4 hk hl) (Region.free_spec hi h2) (by simpa using h3) hy hS h
theorem aD {n j i:Nat} (h:iQ ops n j i=true) (k:iQ ops n j i=false):False:=by rw[h] at k;cases k
theorem lh {i:Nat} {o:Oper} {K:Act→World→Prop} {a:Act} {w:World} (hi:ops[i]?=some o) (hw:Region.wanted o (yielded ops a.tmps)=true) (h:o.wp P a w K Q):wpOp P ops Q i K a w:=by
 unfold wpOp;rw[hi];simp only[hw,if_true];exact .inl h
theorem Fx {i:Nat} {o:Oper} {K:Act→World→Prop} {a:Act} {w:World} (hi:ops[i]?=some o) (hw:Region.wanted o (yielded ops a.tmps)=false) (h:K (a.put o.dst undef) w):wpOp P ops Q i K a w:=by
 unfold wpOp;rw[hi];simp only[hw];simpa using h
end
end Cl
namespace Cl
open Go Go.RowKit
abbrev Win:=Nat→Nat × Nat
def Win.put (win:Win) (i:Nat) (x:Nat × Nat):Win:=fun j=>if j=i then x else win j
theorem Win.oL (win:Win) (i:Nat) (x:Nat × Nat):win.put i x i=x:=by simp[Win.put]
theorem Win.rA (win:Win) {i j:Nat} (x:Nat × Nat) (h:j≠i):win.put i x j=win j:=by simp[Win.put,h]
structure Fact where
 deps:List Nat
 holds:Value→Win→World→Prop
 mono:∀(v:Value) (win win':Win) (w w':World),(∀d∈deps,win d=win' d∧(win d).2≤w.heap.size)→Below w.heap.size w w'→holds v win w→holds v win' w'
def Fact.any:Fact:=⟨[],fun _ _ _=>True,fun _ _ _ _ _ _ _ _=>trivial⟩
def Fact.is (p:Value→Prop):Fact:=⟨[],fun v _ _=>p v,fun _ _ _ _ _ _ _ h=>h⟩
def Fact.obj (j:Nat) (t:TypeId) (arr:Array Value):Fact:=⟨[j],fun v win w=>v=.pointer (some ⟨(win j).1,0,none⟩)∧(win j).2=(win j).1+1∧bE w (win j).1 t arr,fun v win win' w w' hd hb ⟨h1,h2,h3⟩=>by
 obtain⟨e,hl⟩:=hd j (List.mem_singleton.2 rfl);rw[← e];exact⟨h1,h2,bE.below h3 hb h3.lt⟩⟩
def Fact.sl (j:Nat) (t:TypeId) (arr:Array Value) (n:Nat):Fact:=⟨[j],fun v win w=>v=.slice (some ⟨(win j).1,0,none⟩) n n∧(win j).2=(win j).1+1∧bE w (win j).1 t arr,fun v win win' w w' hd hb ⟨h1,h2,h3⟩=>by
 obtain⟨e,hl⟩:=hd j (List.mem_singleton.2 rfl);rw[← e];exact⟨h1,h2,bE.below h3 hb h3.lt⟩⟩
def Mem.wins (m:Mem) (w:World) (win:Win) (ds:List Nat):Mem:=fun k=>if ds.any (fun d=>decide ((win d).1≤k∧k<(win d).2))=true then w.heap[k]? else m k
theorem Mem.Ll {m:Mem} {w w':World} {win win':Win} {ds:List Nat} (hd:∀d∈ds,win d=win' d∧(win d).2≤w.heap.size) (hb:Below w.heap.size w w'):m.wins w win ds=m.wins w' win' ds:=by
 funext k;unfold Mem.wins;have e:(ds.any fun d=>decide ((win d).1≤k∧k<(win d).2))=ds.any fun d=>decide ((win' d).1≤k∧k<(win' d).2):=by
  rw[Bool.eq_iff_iff,List.any_eq_true,List.any_eq_true];constructor
  ·rintro ⟨d,h1,h2⟩;exact⟨d,h1,by rw[← (hd d h1).1];exact h2⟩
  ·rintro ⟨d,h1,h2⟩;exact⟨d,h1,by rw[(hd d h1).1];exact h2⟩
 rw[← e]
 split
 ·rename_i h;obtain⟨d,h1,h2⟩:=List.any_eq_true.1 h;have:=(hd d h1).2;simp only[decide_eq_true_eq] at h2;exact (hb.block k zo).symm
 ·rfl
theorem Mem.eB {m:Mem} {w:World} (h:m.inn w) (win:Win) (ds:List Nat):(m.wins w win ds).inn w:=⟨fun k o hk=>by
 unfold Mem.wins at hk
 split at hk
 ·exact hk
 ·exact h.get k o hk⟩
theorem Mem.jq {m:Mem} {w:World} (h:m.inn w) (win:Win) (ds:List Nat):m.le (m.wins w win ds):=⟨fun k o hk=>by
 unfold Mem.wins
 split
 ·exact h.get k o hk
 ·exact hk⟩
theorem Mem.fE {m:Mem} {w:World} (h:m.inn w) (win:Win) {ds es:List Nat} (hs:∀d∈ds,d∈es):(m.wins w win ds).le (m.wins w win es):=⟨fun k o hk=>by
 have hi:=(Mem.eB h win ds).get k o hk;unfold Mem.wins at hk ⊢
 split
 ·exact hi
 ·rename_i hne
  split at hk
  ·rename_i hx;obtain⟨d,h1,h2⟩:=List.any_eq_true.1 hx;exact absurd (List.any_eq_true.2 ⟨d,hs d h1,h2⟩) hne
  ·exact hk⟩
theorem Mem.vR {m:Mem} {w:World} {win:Win} {ds:List Nat} {k:Nat} (h:m k=none) (hd:∀d∈ds,¬ ((win d).1≤k∧k<(win d).2)):m.wins w win ds k=none:=by
 unfold Mem.wins;rw[zH]
 ·exact h
 ·intro hx;obtain⟨d,h1,h2⟩:=List.any_eq_true.1 hx;exact hd d h1 (by simpa using h2)
theorem Mem.EJ {m:Mem} {w w':World} (h:m.inn w) (win:Win) {ds:List Nat} {i:Nat} (hd:∀d∈ds,d≠i) (hs:∀d∈ds,(win d).2≤w.heap.size) (hb:Below w.heap.size w w') :
 ((m.wins w win ds).grow w w').le (m.wins w' (win.put i (w.heap.size,w'.heap.size)) (i::ds)):=⟨fun k o hk=>by
 have e:m.wins w win ds=m.wins w' (win.put i (w.heap.size,w'.heap.size)) ds:=Mem.Ll (fun d hd'=>⟨(Win.rA win _ (hd d hd')).symm,hs d hd'⟩) hb;unfold Mem.grow at hk
 split at hk
 ·rw[e] at hk;exact (Mem.fE (Mem.bJ h hb) _ (fun d h=>zR _ h)).get k o hk
 ·have hlt:=(Array.getElem?_eq_some_iff.1 hk).1;unfold Mem.wins;rw[zI]
  ·exact hk
  ·refine List.any_eq_true.2 ⟨i,yA ..,?_⟩;rw[Win.oL];simp only[decide_eq_true_eq];omega⟩
theorem Mem.tL {m:Mem} {w w':World} (h:m.inn w) (win:Win) (i:Nat) (hb:Below w.heap.size w w'):(m.grow w w').le (m.wins w' (win.put i (w.heap.size,w'.heap.size)) [i]):=by
 have:=Mem.EJ (ds:=[]) h win (i:=i) zS zS hb;have e:m.wins w win []=m:=by funext k;simp[Mem.wins]
 rwa [e] at this
def Fact.mem (m:Mem) (ds:List Nat) (R:Mem→Value→Prop):Fact:=⟨ds,fun v win w=>R (m.wins w win ds) v,fun v win win' w w' hd hb h=>by
 rw[← Mem.Ll hd hb];exact h⟩
def dstV (a:Act) (o:Oper):Value:=match o.dst with
 | some s=>a.tmps.getD s undef
 | none=>undef
section
variable {P:Program} {ops:Array Oper} {Q:Exit→Act→World→Prop}
structure Reg (ops:Array Oper) (t0:Array Value) (w1:World) (F:Nat→Fact) (don:Nat→Bool) (win:Win) (a:Act) (w:World):Prop where
 size:a.tmps.size=t0.size
 defers:a.defers=[]
 below:Below w1.heap.size w1 w
 keep:∀s,(∀j o,ops[j]?=some o→don j=true→o.dst≠some s)→a.tmps.getD s undef=t0.getD s undef
 fact:∀j o,ops[j]?=some o→don j=true→(F j).holds (dstV a o) win w
 rng:∀j,don j=true→w1.heap.size≤(win j).1∧(win j).1≤(win j).2∧(win j).2≤w.heap.size
 apart:∀j k,don j=true→don k=true→j≠k→(win j).2≤(win k).1∨(win k).2≤(win j).1
def IP (ops:Array Oper) (n0 s:Nat):Bool:=(List.range n0).all fun i=>((ops[i]?).map fun o => !(o.dst==some s)).getD true
theorem qB {n0 s:Nat} (h:IP ops n0 s=true) {j:Nat} {o:Oper} (ho:ops[j]?=some o) (hj:j<n0):o.dst≠some s:=by
 have:=List.all_eq_true.1 h j (List.mem_range.2 hj);rw[ho] at this;simpa using this
structure Ii (ops:Array Oper) (n0 fu:Nat) (t0:Array Value) (w1:World) (F:Nat→Fact) (i:Nat) (win:Win) (a:Act) (w:World):Prop where
 size:a.tmps.size=t0.size
 defers:a.defers=[]
 below:Below w1.heap.size w1 w
 keep:∀s,IP ops n0 s=true→a.tmps.getD s undef=t0.getD s undef
 dep:∀j o,iQ ops fu i j=true→ops[j]?=some o→(F j).holds (dstV a o) win w
 rng:∀j,iQ ops fu i j=true→w1.heap.size≤(win j).1∧(win j).1≤(win j).2∧(win j).2≤w.heap.size
def RegK (F:Nat→Fact) (i:Nat) (o:Oper) (win:Win) (a:Act) (w:World) (a':Act) (w':World):Prop:=
 ∃v,a'=a.put o.dst v∧Below w.heap.size w w'∧(F i).holds v (win.put i (w.heap.size,w'.heap.size)) w'
structure Qr (ops:Array Oper) (n0:Nat) (t0:Array Value) (w1:World) (F:Nat→Fact) (win:Win) (a:Act) (w:World):Prop where
 size:a.tmps.size=t0.size
 defers:a.defers=[]
 below:Below w1.heap.size w1 w
 keep:∀s,IP ops n0 s=true→a.tmps.getD s undef=t0.getD s undef
 fact:∀j o,j<n0→ops[j]?=some o→(F j).holds (dstV a o) win w
 rng:∀j,j<n0→w1.heap.size≤(win j).1∧(win j).1≤(win j).2∧(win j).2≤w.heap.size
 apart:∀j k,j<n0→k<n0→j≠k→(win j).2≤(win k).1∨(win k).2≤(win j).1
def QN (ops:Array Oper) (n0 fu nt:Nat) (deps:Nat→List Nat):Bool:=
 decide (n0≤ops.size) &&
 (List.range n0).all (fun i=>((ops[i]?).map fun o=>o.after.all fun e => !Region.binds .any e || decide (e.on<i)).getD false) &&
 (List.range ops.size).all (fun i=>decide (i<n0) || (List.range n0).all fun j=>iQ ops fu i j) &&
 (List.range n0).all (fun i=>((ops[i]?).map fun o=>match o.dst with
  | some s=>decide (s<nt)&&(List.range i).all fun j=>((ops[j]?).map fun o' => !(o'.dst==some s)).getD true
  | none=>false).getD false) &&
 (List.range n0).all (fun j=>(deps j).all fun d=>d==j || iQ ops fu j d)
structure Sk (ops:Array Oper) (n0 fu nt:Nat) (deps:Nat→List Nat):Prop where
 le:n0≤ops.size
 back:∀i o,i<n0→ops[i]?=some o→∀e∈o.after,Region.binds .any e=true→e.on<i
 late:∀i,i<ops.size→n0≤i→∀j,j<n0→iQ ops fu i j=true
 dst:∀i o,i<n0→ops[i]?=some o→∃s,o.dst=some s∧s<nt∧∀j o',j<n0→ops[j]?=some o'→j≠i→o'.dst≠some s
 dep:∀j,j<n0→∀d∈deps j,d=j∨iQ ops fu j d=true
theorem JZ {n0 fu nt:Nat} {deps:Nat→List Nat} (h:QN ops n0 fu nt deps=true):Sk ops n0 fu nt deps:=by
 simp only[QN,Bool.and_eq_true,decide_eq_true_eq] at h;obtain⟨⟨⟨⟨h1,h2⟩,h3⟩,h4⟩,h5⟩:=h;have d1:∀i o,i<n0→ops[i]?=some o→∃s,o.dst=some s∧s<nt∧∀j o',j<i→ops[j]?=some o'→o'.dst≠some s:=by
  intro i o hi ho;have:=List.all_eq_true.1 h4 i (List.mem_range.2 hi);rw[ho] at this;simp only[Option.map_some,Option.getD_some] at this
  split at this
  ·rename_i s hs;rw[Bool.and_eq_true,decide_eq_true_eq] at this;refine ⟨s,hs,this.1,fun j o' hj ho'=>?_⟩;have:=List.all_eq_true.1 this.2 j (List.mem_range.2 hj);rw[ho'] at this;simpa using this
  ·cases this
 refine ⟨h1,?_,?_,?_,?_⟩
 ·intro i o hi ho e he hb;have:=List.all_eq_true.1 h2 i (List.mem_range.2 hi);rw[ho] at this;simp only[Option.map_some,Option.getD_some] at this;have:=Array.all_eq_true_iff_forall_mem.1 this e he;simpa [hb] using this
 ·intro i hi hn j hj;have:=List.all_eq_true.1 h3 i (List.mem_range.2 hi);simp only[Bool.or_eq_true,decide_eq_true_eq] at this;exact List.all_eq_true.1 (this.resolve_left zo) j (List.mem_range.2 hj)
 ·intro i o hi ho;obtain⟨s,hs,hlt,hall⟩:=d1 i o hi ho;refine ⟨s,hs,hlt,fun j o' hj ho' hne e=>?_⟩;rcases Nat.lt_or_ge j i with hlt' | hge
  ·exact hall j o' hlt' ho' e
  ·obtain⟨s',hs',-,hall'⟩:=d1 j o' hj ho';have:s'=s:=Option.some.inj (hs'.symm.trans e);subst this;exact hall' i o zo ho hs
 ·intro j hj d hd;have:=List.all_eq_true.1 (List.all_eq_true.1 h5 j (List.mem_range.2 hj)) d hd;simpa using this
theorem xJ {p q:Nat→Bool} (h:∀x,q x=true→p x=true) {i:Nat} (hp:p i=true) (hq:q i=false):∀l:List Nat,i∈l→(l.filter q).length<(l.filter p).length
 | [],hi=>by cases hi
 | x::l,hi=>by
  have hle:(l.filter q).length≤(l.filter p).length:=by
   clear hi
   induction l with
   | nil=>simp
   | cons y l ih=>
    simp only[List.filter_cons]
    cases hy:q y with
    | true=>simp[h y hy,ih]
    | false=>
     cases p y with
     | true=>simp;omega
     | false=>simpa using ih
  rcases List.mem_cons.1 hi with e | hm
  ·subst e;simp only[List.filter_cons,hp,hq,if_true];simp;omega
  ·have ih:=xJ h hp hq l hm;simp only[List.filter_cons]
   cases hy:q x with
   | true=>simp[h x hy,ih]
   | false=>
    cases p x with
    | true=>simp;omega
    | false=>simpa using ih
theorem IW {p:Nat→Bool}:∀n,(∃j,j<n∧p j=true)→∃j,j<n∧p j=true∧∀k,k<j→p k=false
 | 0,⟨_,h,_⟩=>zo
 | n+1,⟨j,h,hp⟩=>by
  by_cases hx:∃j,j<n∧p j=true
  ·obtain⟨j,h1,h2,h3⟩:=IW n hx;exact⟨j,zo,h2,h3⟩
  ·refine ⟨j,h,hp,fun k hk=>?_⟩
   cases hpk:p k with
   | false=>rfl
   | true=>exact absurd ⟨k,zo,hpk⟩ hx
theorem sO:∀(fuel more:Nat) (listed:Array Bool) (a:Act) (w:World),fuel≤more→wpAny P .any ops Q fuel listed a w→wpAny P .any ops Q more listed a w
 | 0,more,listed,a,w,_,h=>by
  cases more with
  | zero=>exact h
  | succ m=>exact⟨fun _=>h.2,fun i hi=>by rw[h.1] at hi;cases hi⟩
 | fuel+1,more,listed,a,w,hl,h=>by
  cases more with
  | zero=>omega
  | succ m=>exact⟨h.1,fun i hi=>wpOp_mono (fun a' w' h'=>sO fuel m _ a' w' zo h') (h.2 i hi)⟩
def M3 (n n0:Nat):Array Bool:=((List.range n).map fun i=>decide (i<n0)).toArray
theorem Nt {l:Array Bool} {i:Nat} (h:i<l.size):l.getD i true=l.getD i false:=by simp[h]
theorem IR {n n0:Nat} {listed:Array Bool} (hsz:listed.size=n) (hearly:∀j,listed.getD j false=true→j<n0) (hall:∀j,j<n0→listed.getD j false=true):listed=M3 n n0:=by
 apply Array.ext
 ·simp[M3,hsz]
 ·intro i h1 h2;simp only[M3,List.getElem_toArray,List.getElem_map,List.getElem_range];have h3:listed.getD i false=listed[i]:=by simp[h1]
  rw[← h3];by_cases hi:i<n0
  ·rw[hall i hi];simp[hi]
  ·cases hx:listed.getD i false with
   | true=>exact absurd (hearly i hx) hi
   | false=>simp[hi]
def Ik (ops:Array Oper) (listed:Array Bool):Prop:=
 ∀k ok,ops[k]?=some ok→listed.getD k false=true→∀e∈ok.after,Region.binds .any e=true→listed.getD e.on false=true
theorem uw {listed:Array Bool} (hc:Ik ops listed) {i:Nat}:∀(n j:Nat),listed.getD j false=true→iQ ops n j i=true→listed.getD i false=true:=by
 intro n
 induction n with
 | zero=>intro j _ h;cases h
 | succ n ih=>
  intro j hj h;unfold iQ at h
  cases ho:ops[j]? with
  | none=>rw[ho] at h;cases h
  | some o=>
   rw[ho] at h;simp only[Option.map_some,Option.getD_some,Array.any_eq_true',Bool.and_eq_true,Bool.or_eq_true,beq_iff_eq] at h;obtain⟨e,he,hb,h1⟩:=h;have h2:=hc j o ho hj e he hb;rcases h1 with h1 | h1
   ·rw[← h1];exact h2
   ·exact ih e.on h2 h1
theorem qm {listed:Array Bool} (hc:Ik ops listed) {i j n:Nat} (hr:i∈Region.ready .any ops listed) (hw:iQ ops n i j=true):listed.getD j false=true:=by
 obtain⟨hun,o,ho,hdeps⟩:=mem_ready.1 hr
 cases n with
 | zero=>cases hw
 | succ n=>
  unfold iQ at hw;rw[ho] at hw;simp only[Option.map_some,Option.getD_some,Array.any_eq_true',Bool.and_eq_true,Bool.or_eq_true,beq_iff_eq] at hw;obtain⟨e,he,hb,h1⟩:=hw;have h2:=hdeps e he hb;rcases h1 with h1 | h1
  ·rw[← h1];exact h2
  ·exact uw hc n e.on h2 h1
theorem gY {l:Array Bool} {i j:Nat}:(l.setIfInBounds i true).getD j false=true↔l.getD j false=true∨(j=i∧i<l.size):=by
 simp only[zT,Array.getElem?_setIfInBounds];by_cases e:i=j
 ·subst e;by_cases h:i<l.size
  ·simp[h]
  ·simp[h]
 ·rw[zH e];constructor
  ·exact .inl
  ·rintro (h | ⟨h,-⟩)
   ·exact h
   ·exact absurd h.symm e
theorem putD {a:Act} {s:Nat} {v:Value} {t:Nat}:(a.put (some s) v).tmps.getD t undef=if t=s∧s<a.tmps.size then v else a.tmps.getD t undef:=by
 simp only[Act.put,zT,Array.getElem?_setIfInBounds];by_cases e:s=t
 ·subst e;by_cases h:s<a.tmps.size
  ·simp[h]
  ·simp[h]
 ·rw[zH e,zH (fun h=>e h.1.symm)]
theorem Ml {n0 fu:Nat} {t0:Array Value} {w1:World} {F:Nat→Fact} (H:Sk ops n0 fu t0.size (fun j=>(F j).deps))
 (hstep:∀i,i<n0→∀o win a w,ops[i]?=some o→Ii ops n0 fu t0 w1 F i win a w→wpOp P ops Q i (RegK F i o win a w) a w)
 (hend:∀win a w,Qr ops n0 t0 w1 F win a w→wpAny P .any ops Q (ops.size - n0) (M3 ops.size n0) a w) :
 ∀(fuel:Nat) (listed:Array Bool) (win:Win) (a:Act) (w:World),listed.size=ops.size→(∀j,listed.getD j false=true→j<n0)→Ik ops listed →
  ((List.range n0).filter fun j => !listed.getD j false).length+(ops.size - n0)≤fuel→Reg ops t0 w1 F (fun j=>listed.getD j false) win a w→wpAny P .any ops Q fuel listed a w:=by
 intro fuel
 induction fuel with
 | zero=>
  intro listed win a w hsz hearly hcl hfu hR;have hall:∀j,j<n0→listed.getD j false=true:=fun j hj=>by
   cases hx:listed.getD j false with
   | true=>rfl
   | false=>
    have:j∈(List.range n0).filter fun j => !listed.getD j false:=List.mem_filter.2 ⟨List.mem_range.2 hj,by rw[hx];rfl⟩;have:=List.length_pos_of_mem this;omega
  have:=hend win a w ⟨hR.size,hR.defers,hR.below,fun s hs=>hR.keep s fun j o ho hd=>qB hs ho (hearly j hd),fun j o hj ho=>hR.fact j o ho (hall j hj),fun j hj=>hR.rng j (hall j hj),fun j k hj hk hne=>hR.apart j k (hall j hj) (hall k hk) hne⟩;rw[IR hsz hearly hall]
  exact sO _ _ _ _ _ zo this
 | succ fuel ih=>
  intro listed win a w hsz hearly hcl hfu hR;by_cases hall:∀j,j<n0→listed.getD j false=true
  ·have:=hend win a w ⟨hR.size,hR.defers,hR.below,fun s hs=>hR.keep s fun j o ho hd=>qB hs ho (hearly j hd),fun j o hj ho=>hR.fact j o ho (hall j hj),fun j hj=>hR.rng j (hall j hj),fun j k hj hk hne=>hR.apart j k (hall j hj) (hall k hk) hne⟩;rw[IR hsz hearly hall];exact sO _ _ _ _ _ zo this
  ·have hex:∃j,j<n0∧(!listed.getD j false)=true:=by
    apply zN;intro hno;exact hall fun j hj=>by
     cases hx:listed.getD j false with
     | true=>rfl
     | false=>exact absurd ⟨j,hj,by rw[hx];rfl⟩ hno
   refine ⟨fun hnil=>?_,fun i hi=>?_⟩
   ·obtain⟨j,h1,h2,h3⟩:=IW n0 hex;have hjs:j<ops.size:=by have:=H.le;omega
    have:j∈Region.ready .any ops listed:=mem_ready.2 ⟨by rw[Nt zo];simpa using h2,ops[j],by simp[hjs],fun e he hb=>by
     have:=h3 e.on (H.back j _ h1 (by simp[hjs]) e he hb);simpa using this⟩
    rw[hnil] at this;cases this
   ·obtain⟨hun,o,ho,hdeps⟩:=mem_ready.1 hi;have his:i<ops.size:=(Array.getElem?_eq_some_iff.1 ho).1;have hin:i<n0:=by
     rcases Nat.lt_or_ge i n0 with h | h
     ·exact h
     ·exact absurd (fun j hj=>qm hcl hi (H.late i his h j hj)) hall
    rw[Nt zo] at hun;obtain⟨s,hs,hst,hsn⟩:=H.dst i o hin ho;have hsa:s<a.tmps.size:=by rw[hR.size];exact hst
    have hA:Ii ops n0 fu t0 w1 F i win a w:=⟨hR.size,hR.defers,hR.below,fun s hs=>hR.keep s fun j o ho hd=>qB hs ho (hearly j hd),
     fun j o hw ho=>hR.fact j o ho (qm hcl hi hw),fun j hw=>hR.rng j (qm hcl hi hw)⟩
    refine wpOp_mono ?_ (hstep i hin o win a w ho hA);rintro a' w' ⟨v,rfl,hb,hv⟩;rw[hs];have hother:∀j,listed.getD j false=true→j≠i:=fun j hj e=>by rw[e,hun] at hj;cases hj
    refine ih (listed.setIfInBounds i true) (win.put i (w.heap.size,w'.heap.size)) _ _ (by simpa using hsz) ?_ ?_ ?_ ?_
    ·intro j hj;rcases gY.1 hj with h | h
     ·exact hearly j h
     ·rw[h.1];exact hin
    ·intro k ok hk hl e he hbd;refine gY.2 (.inl ?_);rcases gY.1 hl with h | h
     ·exact hcl k ok hk h e he hbd
     ·have hki:=h.1;subst hki;have:ok=o:=Option.some.inj (hk.symm.trans ho);subst this;exact hdeps e he hbd
    ·have:((List.range n0).filter fun j => !(listed.setIfInBounds i true).getD j false).length<((List.range n0).filter fun j => !listed.getD j false).length:=by
      refine xJ (i:=i) (fun x hx=>?_) (by rw[hun];rfl) ?_ _ (List.mem_range.2 hin)
      ·cases hl:listed.getD x false with
       | false=>rfl
       | true=>
        have:=gY (l:=listed) (i:=i) (j:=x) |>.2 (.inl hl);rw[this] at hx;cases hx
      ·have:=gY (l:=listed) (i:=i) (j:=i) |>.2 (.inr ⟨rfl,zo⟩);rw[this];rfl
     omega
    ·refine ⟨?_,hR.defers,bU hR.below hb,?_,?_,?_,?_⟩
     ·simp[Act.put,hR.size]
     ·intro t ht;rw[putD,zH]
      ·exact hR.keep t fun j o' ho' hd=>ht j o' ho' (gY.2 (.inl hd))
      ·rintro ⟨e,-⟩;exact ht i o ho (gY.2 (.inr ⟨rfl,zo⟩)) (by rw[hs,e])
     ·intro j o' ho' hd;rcases gY.1 hd with h | h
      ·have hji:=hother j h;have e:dstV (a.put (some s) v) o'=dstV a o':=by
        unfold dstV
        cases hd':o'.dst with
        | none=>rfl
        | some t=>
         simp only;rw[putD,zH];rintro ⟨e,-⟩;exact hsn j o' (hearly j h) ho' hji (by rw[hd',e])
       rw[e];refine (F j).mono _ win _ w w' (fun d hd=>?_) hb (hR.fact j o' ho' h);have hdl:listed.getD d false=true:=by
        rcases H.dep j (hearly j h) d hd with e | hw
        ·rw[e];exact h
        ·exact uw hcl fu j h hw
       exact⟨(Win.rA win _ (hother d hdl)).symm,(hR.rng d hdl).2.2⟩
      ·have hji:=h.1;subst hji;have:o'=o:=Option.some.inj (ho'.symm.trans ho);subst this;have e:dstV (a.put (some s) v) o'=v:=by
        unfold dstV;rw[hs];simp only;rw[putD,zI ⟨rfl,hsa⟩]
       rw[e];exact hv
     ·intro j hd;rcases gY.1 hd with h | h
      ·rw[Win.rA win _ (hother j h)];have:=hR.rng j h;have:=hb.size;omega
      ·rw[h.1,Win.oL];exact⟨hR.below.size,hb.size,zG _⟩
     ·intro j k hj hk hne;rcases gY.1 hj with h | h
      ·rcases gY.1 hk with h' | h'
       ·rw[Win.rA win _ (hother j h),Win.rA win _ (hother k h')];exact hR.apart j k h h' hne
       ·rw[Win.rA win _ (hother j h),h'.1,Win.oL];exact .inl (hR.rng j h).2.2
      ·rcases gY.1 hk with h' | h'
       ·rw[Win.rA win _ (hother k h'),h.1,Win.oL];exact .inr (hR.rng k h').2.2
       ·exact absurd (h.1.trans h'.1.symm) hne
theorem aU {id:Nat} {t0:Array Value} {w:World} (n0 fu:Nat) (F:Nat→Fact) (hm:P.follows .mixedOrders=true) (hok:QN ops n0 fu t0.size (fun j=>(F j).deps)=true)
 (hstep:∀i,i<n0→∀o win a w',ops[i]?=some o→Ii ops n0 fu t0 w.drew F i win a w'→wpOp P ops Q i (RegK F i o win a w') a w')
 (hend:∀win a w',Qr ops n0 t0 w.drew F win a w'→wpAny P .any ops Q (ops.size - n0) (M3 ops.size n0) a w'):(Code.region id ops true).wp P Q ⟨t0,[]⟩ w:=by
 have H:=JZ hok;refine wp_region_any hm (Ml H hstep hend ops.size (Array.replicate ops.size false) (fun _=>(0,0)) ⟨t0,[]⟩ w.drew zS ?_ ?_ ?_ ?_)
 ·intro j hj;exfalso;by_cases h:j<ops.size <;> simp[h] at hj
 ·intro k ok _ hl;exfalso;by_cases h:k<ops.size <;> simp[h] at hl
 ·have:((List.range n0).filter fun j => !(Array.replicate ops.size false).getD j false).length≤n0:=by
   have:=List.length_filter_le (fun j => !(Array.replicate ops.size false).getD j false) (List.range n0);simpa using this
  have:=H.le;omega
 ·have hno:∀j,(Array.replicate ops.size false).getD j false=true→False:=fun j hj=>by
   by_cases h:j<ops.size <;> simp[h] at hj
  exact⟨rfl,rfl,zP _ _,fun _ _=>rfl,fun j _ _ hj=>(hno j hj).elim,fun j hj=>(hno j hj).elim,fun j _ hj=>(hno j hj).elim⟩
theorem bS {listed:Array Bool} {a:Act} {w:World} (hr:(Region.ready .any ops listed==[])=true) (h:Q .normal a w):∀fuel,wpAny P .any ops Q fuel listed a w:=by
 have hr':Region.ready .any ops listed=[]:=by simpa using hr
 intro fuel
 cases fuel with
 | zero=>exact⟨hr',h⟩
 | succ n=>exact⟨fun _=>h,by rw[hr'];simp⟩
theorem dQ (i:Nat) {fuel:Nat} {listed:Array Bool} {a:Act} {w:World} (hr:(Region.ready .any ops listed==[i])=true)
 (h:wpOp P ops Q i (fun a' w'=>wpAny P .any ops Q fuel (listed.setIfInBounds i true) a' w') a w):wpAny P .any ops Q (fuel+1) listed a w:=by
 have hr':Region.ready .any ops listed=[i]:=by simpa using hr
 exact⟨fun h0=>(by rw[hr'] at h0;cases h0),fun j hj=>(by rw[hr'] at hj;obtain rfl:=List.mem_singleton.1 hj;exact h)⟩
theorem Nu {t:Array Value} {s:Nat} {b:Bool} (h:t.getD s undef=.bool b):t[s]?=some (.bool b):=by
 cases hx:t[s]? with
 | none=>simp[hx,undef] at h
 | some v=>simpa [hx] using h
theorem Da {o:Oper} {a:Act} {g s:Nat} {b c:Bool} (hg:o.guard=some (g,b)) (hs:(ops[g]?).bind (·.dst)=some s) (e:a.tmps.getD s undef=.bool c):Region.wanted o (yielded ops a.tmps)=(c==b):=by
 have h:=Nu e;simp[Region.wanted,hg,yielded,hs,h]
theorem lN {o:Oper} {a:Act} {g s:Nat} {b:Bool} (hg:o.guard=some (g,b)) (hs:(ops[g]?).bind (·.dst)=some s) (e:a.tmps.getD s undef=.bool b):Region.wanted o (yielded ops a.tmps)=true:=by
 rw[Da hg hs e];simp
theorem LC {o:Oper} {a:Act} {g s:Nat} {b c:Bool} (hg:o.guard=some (g,b)) (hs:(ops[g]?).bind (·.dst)=some s) (e:a.tmps.getD s undef=.bool c) (hn:(c==b)=false):Region.wanted o (yielded ops a.tmps)=false:=by
 rw[Da hg hs e,hn]
end
theorem Own.region {w0 w1 w:World} {m mk:Mem} {L:List Item} (h:Own w0 m w1 mk L) (hb:Below w1.heap.size w1 w) (win:Win) (ds:List Nat) (hd:∀d∈ds,w1.heap.size≤(win d).1):Own w0 m w (mk.wins w win ds) L:=by
 have hm:=h.move hb;have no:∀k,k<w1.heap.size→mk k=none→mk.wins w win ds k=none:=fun k hk hn=>Mem.vR hn fun d h1 h2=>by have:=hd d h1;omega
 refine ⟨h.m0,hm.below,⟨Mem.le_trans h.ext.le (Mem.jq hm.inn win ds),fun k o hk=>?_⟩,Mem.eB hm.inn win ds,hm.ok,fun it hi k hk=>⟨(h.fresh it hi k hk).1,no k (Item.lt (h.ok it hi) hk) (h.fresh it hi k hk).2⟩,h.apart⟩;rcases Nat.lt_or_ge k w1.heap.size with hlt | hge
 ·cases hx:mk k with
  | none=>rw[no k hlt hx] at hk;cases hk
  | some o'=>exact h.ext.dom k o' hx |>.imp (fun e=>by
   have h1:=(Mem.jq hm.inn win ds).get k o' hx;rw[hk] at h1;rw[e,h1]) id
 ·exact .inr (yE h.below.size hge)
theorem Own.inn0 {w0 w:World} {m mk:Mem} {L:List Item} (h:Own w0 m w mk L):m.inn w:=Mem.cK h.ext.le h.inn
theorem Own.newObj {w0 w:World} {m mk:Mem} {L:List Item} {g:Nat} {t:TypeId} {arr:Array Value} (h:Own w0 m w mk L) (ho:bE w g t arr) (hge:w0.heap.size≤g) (hf:mk g=none) (hd:∀it∈L,it.blk≠some g):Own w0 m w mk (.obj g t arr::L):=
 h.cons ho (fun k hk=>by simp only[Item.blk,Option.some.injEq] at hk;subst hk;exact⟨hge,hf⟩) (fun b hb k h1 h2=>by simp only[Item.blk,Option.some.injEq] at h1;subst h1;exact hd b hb h2)
theorem Own.yj {w0 w:World} {m mk:Mem} {L:List Item} (h:Own w0 m w mk L) {n:Nat} (hn:w.heap.size≤n):∀it∈L,it.blk≠some n:=fun it hi e=>by have:=Item.lt (h.ok it hi) e;omega
theorem Jq {g n:Nat} {t:TypeId} {arr:Array Value} {L:List Item} (hne:g≠n) (h:∀it∈L,it.blk≠some n):∀it∈Item.obj g t arr::L,it.blk≠some n:=by
 intro it hi;rcases List.mem_cons.1 hi with rfl | hi
 ·simpa [Item.blk] using hne
 ·exact h it hi
theorem AQ {w:World} {i:Nat} {t:TypeId} {arr:Array Value} (win:Win) :
 (Fact.obj i t arr).holds (.pointer (some ⟨w.heap.size,0,none⟩)) (win.put i (w.heap.size,(w.alloc (.cells arr t)).heap.size)) (w.alloc (.cells arr t)):=by
 show _=Value.pointer (some ⟨((win.put i (w.heap.size,(w.alloc (.cells arr t)).heap.size)) i).1,0,none⟩)∧_∧_;rw[Win.oL];exact⟨rfl,zS,bE.new _ _ _⟩
theorem O4 {w:World} {i n:Nat} {t:TypeId} {arr:Array Value} (win:Win) :
 (Fact.sl i t arr n).holds (.slice (some ⟨w.heap.size,0,none⟩) n n) (win.put i (w.heap.size,(w.alloc (.cells arr t)).heap.size)) (w.alloc (.cells arr t)):=by
 show _=Value.slice (some ⟨((win.put i (w.heap.size,(w.alloc (.cells arr t)).heap.size)) i).1,0,none⟩) n n∧_∧_;rw[Win.oL];exact⟨rfl,zS,bE.new _ _ _⟩
def TabV (T:Table) (M:Mem) (v:Value):Prop:=∃xa xc,v=.agg #[.slice xa (List.length T) xc]∧aG M (.slice xa (List.length T) xc) T
theorem LP {m:Mem} {w w':World} {win:Win} {i:Nat} {r:Value} {T:Table} (hm:m.inn w) (hb:Below w.heap.size w w') (hst:aG (m.grow w w') r T) :
 TabV T (m.wins w' (win.put i (w.heap.size,w'.heap.size)) [i]) (.agg #[r]):=by
 have h:=aJ (Mem.tL hm win i hb) hst;obtain⟨xa,xc,rfl,h'⟩:=id h;exact⟨xa,xc,rfl,h⟩
def OO (f:List UInt8→Bool) (n:Nat) (M:Mem) (v:Value):Prop:=∃xa xc C,v=.agg #[.slice xa (List.length C) xc]∧aG M (.slice xa (List.length C) xc) C∧eQ f C∧C.length≤n
theorem Pw {f:List UInt8→Bool} {n:Nat} {M:Mem} {r:Value} {C:Table} (hst:aG M r C) (hl:eQ f C) (hn:C.length≤n):OO f n M (.agg #[r]):=by
 obtain⟨xa,xc,rfl,h⟩:=hst;exact⟨xa,xc,C,rfl,⟨xa,xc,rfl,h⟩,hl,hn⟩
theorem Px {m:Mem} {w w':World} {win:Win} {i:Nat} {f:List UInt8→Bool} {n:Nat} {r:Value} {C:Table} (hm:m.inn w) (hb:Below w.heap.size w w') (hst:aG (m.grow w w') r C) (hl:eQ f C) (hn:C.length≤n) :
 OO f n (m.wins w' (win.put i (w.heap.size,w'.heap.size)) [i]) (.agg #[r]):=Pw (aJ (Mem.tL hm win i hb) hst) hl hn
section
variable {P:Program} {ops:Array Oper} {Q:Exit→Act→World→Prop} {F:Nat→Fact}
theorem Ii.d {n0 fu:Nat} {t0:Array Value} {w1:World} {i:Nat} {win:Win} {a:Act} {w:World} (h:Ii ops n0 fu t0 w1 F i win a w) (j:Nat) {o:Oper} (h2:ops[j]?=some o) (h1:iQ ops fu i j=true:=by kernel_rfl):(F j).holds (dstV a o) win w:=h.dep j o h1 h2
theorem Ii.k {n0 fu:Nat} {t0:Array Value} {w1:World} {i:Nat} {win:Win} {a:Act} {w:World} (h:Ii ops n0 fu t0 w1 F i win a w) (s:Nat) (h1:IP ops n0 s=true:=by kernel_rfl):a.tmps.getD s undef=t0.getD s undef:=h.keep s h1
theorem wv {i:Nat} {o:Oper} {win:Win} {a:Act} {w:World} {v:Value} (hi:ops[i]?=some o) (hg:o.guard=none) (hf:(F i).holds v (win.put i (w.heap.size,w.heap.size)) w) (hr:(execOp a.eval o).run P w=.ok (.value v) w:=by go_simp;first | done | rfl):wpOp P ops Q i (RegK F i o win a w) a w:=aF hi hg (aP hr ⟨v,rfl,zP _ _,hf⟩)
theorem wy {i:Nat} {o:Oper} {win:Win} {a:Act} {w:World} {v:Value} {g s:Nat} {b:Bool} (hi:ops[i]?=some o) (hg:o.guard=some (g,b)) (hs:(ops[g]?).bind (·.dst)=some s) (e:a.tmps.getD s undef=.bool b) (hf:(F i).holds v (win.put i (w.heap.size,w.heap.size)) w) (hr:(execOp a.eval o).run P w=.ok (.value v) w:=by go_simp;first | done | rfl):wpOp P ops Q i (RegK F i o win a w) a w:=lh hi (lN hg hs e) (aP hr ⟨v,rfl,zP _ _,hf⟩)
theorem wn {i:Nat} {o:Oper} {win:Win} {a:Act} {w:World} {g s:Nat} {b c:Bool} (hi:ops[i]?=some o) (hg:o.guard=some (g,b)) (hs:(ops[g]?).bind (·.dst)=some s) (e:a.tmps.getD s undef=.bool c) (hn:(c==b)=false) (hf:(F i).holds undef (win.put i (w.heap.size,w.heap.size)) w):wpOp P ops Q i (RegK F i o win a w) a w:=Fx hi (LC hg hs e hn) ⟨undef,rfl,zP _ _,hf⟩
theorem we {i:Nat} {o:Oper} {K:Act→World→Prop} {a:Act} {w w':World} {f:FuncId} {args:Array Value} {X:Ending→World→Prop} (hi:ops[i]?=some o) (hg:o.guard=none) (hc:Calls P f args w' X) (h:∀e w'',X e w''→∃v,e=.returned v∧K (a.put o.dst v) w'') (hr:(execOp a.eval o).run P w=.ok (.enter f args) w':=by go_simp;first | done | rfl | exact⟨rfl,rfl⟩):wpOp P ops Q i K a w:=aF hi hg (cO hr hc h)
theorem we2 {i:Nat} {o:Oper} {K:Act→World→Prop} {a:Act} {w w':World} {f:FuncId} {args:Array Value} {X:Ending→World→Prop} {g s:Nat} {b:Bool} (hi:ops[i]?=some o) (hg:o.guard=some (g,b)) (hs:(ops[g]?).bind (·.dst)=some s) (e:a.tmps.getD s undef=.bool b) (hc:Calls P f args w' X) (h:∀e w'',X e w''→∃v,e=.returned v∧K (a.put o.dst v) w'') (hr:(execOp a.eval o).run P w=.ok (.enter f args) w':=by go_simp;first | done | rfl | exact⟨rfl,rfl⟩):wpOp P ops Q i K a w:=lh hi (lN hg hs e) (cO hr hc h)
end
structure IMap (P:Program) (k e:TypeId) (o:Obj) (n sz:Nat) (f:Lit→Option Int):Prop where
 ex:∃D:DataW Unit,(∀(w:World) b,w.heap[b]?=some o→w.ownsMap P k (plainElem P e) b n D)∧Maps.size D=sz∧Maps.Tidy D∧(∀kl,Maps.has D kl=(f kl).isSome) ∧
  ∀kl,D.atKey kl (.lit (.int .i64 0))=.lit (.int .i64 ((f kl).getD 0))
open Classical in
noncomputable def fput (f:Lit→Option Int) (kl:Lit) (x:Int):Lit→Option Int:=fun k=>if k=kl then some x else f k
theorem rU (f:Lit→Option Int) (kl:Lit) (x:Int):fput f kl x kl=some x:=by simp[fput]
theorem o7 (f:Lit→Option Int) {kl k:Lit} (x:Int) (h:k≠kl):fput f kl x k=f k:=by simp[fput,h]
section
variable {P:Program} {k e:TypeId} {o:Obj} {n sz:Nat} {f:Lit→Option Int}
theorem EE {w:World} {b:Nat} {D:DataW Unit} {R:Value→Option (DataW Unit × List MemPlace)} (h:w.ownsMap P k R b n D):∃o,w.heap[b]?=some o∧∀(w:World) b,w.heap[b]?=some o→w.ownsMap P k R b n D:=by
 obtain⟨es,clock,hb,F,hs,hD⟩:=h;exact⟨_,hb,fun w' b' h'=>⟨es,clock,h',F,hs,hD⟩⟩
theorem IMap.made (P:Program) (k e:TypeId):IMap P k e (.map #[] 0) 0 0 (fun _=>none):=by
 refine ⟨.map [],fun w b h=>?_,rfl,Maps.tidy_empty,fun kl=>rfl,fun kl=>?_⟩
 ·obtain⟨es,clock,hb,F,hs,hD⟩:=World.ownsMap_made (H:=Unit) w P k (plainElem P e);have:(w.alloc (.map #[] 0)).heap[w.heap.size]?=some (.map #[] 0):=show (w.heap.push _)[w.heap.size]?=_ by simp
  rw[this] at hb;cases hb;exact⟨_,_,h,F,hs,hD⟩
 ·exact Maps.atKey_of_not_has rfl _
variable {w:World} {t:TypeId} {ops:Array Oper} {rest:List Oper} {op:Oper} {a:Act} {Q:Exit→Act→World→Prop} {b:Nat}
theorem IMap.FU (h:IMap P k e o n sz f) (K:Maps.Keyed P k) (ht:P.underlying t=some (.map k e)) (he:P.underlying e=some (.int .i64)) (hz:∀w,(zeroValue e).run P w=.ok (.int .i64 0) w) (hb:w.heap[b]?=some o)
 {key:Value} {kl:Lit} (hkey:keyOf P k key=some kl):(Instr.lookup t (.map (some b)) key false).run P w=.ok (.int .i64 ((f kl).getD 0)) w:=by
 obtain⟨D,hD,-,-,-,hat⟩:=h.ex;obtain⟨c,hr,hc,-⟩:=(hD w b hb).lookup_int K ht he (hz w) hkey;rw[hat kl] at hc;simp only[DataW.lit.injEq,Lit.int.injEq,true_and] at hc;rw[hr,hc]
theorem IMap.mono (h:IMap P k e o n sz f) {n':Nat} (hn:n≤n'):IMap P k e o n' sz f:=by
 obtain⟨D,hD,h1⟩:=h.ex;exact⟨D,fun w b hb=>(hD w b hb).mono hn,h1⟩
theorem IMap.Mi (h:IMap P k e o n sz f) (K:Maps.Keyed P k) (ht:P.underlying t=some (.map k e)) (he:P.underlying e=some (.int .i64)) (hz:∀w,(zeroValue e).run P w=.ok (.int .i64 0) w) (hb:w.heap[b]?=some o)
 {key:Value} {kl:Lit} (hkey:keyOf P k key=some kl):(Instr.lookup t (.map (some b)) key true).run P w=.ok (.tuple #[.int .i64 ((f kl).getD 0),.bool (f kl).isSome]) w:=by
 obtain⟨D,hD,-,-,hh,hat⟩:=h.ex;obtain⟨v,ps,hr,hv⟩:=(hD w b hb).look_ok K ht (hz w) (zd:=.lit (.int .i64 0)) (zp:=[]) (plainElem_int he zD) hkey;obtain⟨c,rfl,hc,-⟩:=plainElem_int_inv he hv;have hc:=congrArg Prod.fst hc;simp only at hc;rw[hat kl] at hc;simp only[DataW.lit.injEq,Lit.int.injEq,true_and] at hc;rw[hr,hh kl,hc]
theorem IMap.Mj (h:IMap P k e o n sz f) (ht:P.underlying t=some (.map k e)) (hb:w.heap[b]?=some o) (ty:TypeId):(Builtin.len_ #[t] ty #[.map (some b)]).run P w=.ok (.int .i64 sz) w:=by
 obtain⟨D,hD,hs,-⟩:=h.ex;rw[(hD w b hb).len ht ty,hs]
theorem IMap.FT (h:IMap P k e o n sz f) (K:Maps.Keyed P k) (ht:P.underlying t=some (.map k e)) (he:P.underlying e=some (.int .i64)) (hb:w.heap[b]?=some o) (hn:n<maxLen)
 {key:Value} {kl:Lit} (hkey:keyOf P k key=some kl) {x:Int} (hx:(Lit.int .i64 x).wf=true) :
 ∃w' o',(Instr.mapUpdate t (.map (some b)) key (.int .i64 x)).run P w=.ok () w'∧w'.heap[b]?=some o'∧IMap P k e o' (n+1) (if (f kl).isSome then sz else sz+1) (fput f kl x)∧w.grownBy w' (some b):=by
 obtain⟨D,hD,hs,htd,hh,hat⟩:=h.ex;have hkl:WideAt.IsKeyLit kl:=K.key hkey;obtain⟨w',hr,ho,hgr⟩:=(hD w b hb).update K ht hn hkey (plainElem_int he hx);obtain⟨o',ho',hD'⟩:=EE ho;refine ⟨w',o',hr,ho',⟨_,hD',?_,htd.put hkl _,fun k'=>?_,fun k'=>?_⟩,hgr⟩
 ·rw[Maps.size_put htd,hh kl,hs]
 ·by_cases c:k'=kl
  ·subst c;rw[Maps.has_put_same htd.isMap hkl,rU];rfl
  ·rw[Maps.has_put_other c,o7 f x c,hh]
 ·by_cases c:k'=kl
  ·subst c;rw[Maps.atKey_put_same htd.isMap hkl,rU];rfl
  ·rw[Maps.atKey_put_other c,o7 f x c,hat]
end
end Cl
namespace Cl
open Go Go.RowKit
def yu {α:Type} (P:Program) (l:Nat) (encs:α→Array Value) (w0:World) (m mk1:Mem) (B Bx:List α→List Item→Prop):Prop:=
 ∀(pre:List α) (x:α) (W:World) (mk:Mem) (Lt Lr:List Item),B pre Lt→Own w0 m W mk (Lt ++ Lr)→mk1.le mk→YieldAt Fence.wide 0 P l (encs x) W fun e W'=>
  (e=.returned (.bool true)∧∃mk' Lt',B (pre ++ [x]) Lt'∧Own w0 m W' mk' (Lt' ++ Lr)∧mk.le mk') ∨
  (e=.returned (.bool false)∧∃mk' Lt',Bx (pre ++ [x]) Lt'∧Own w0 m W' mk' (Lt' ++ Lr)∧mk.le mk')
def Jv {α:Type} (w0:World) (m mk1:Mem) (B Bx:List α→List Item→Prop) (S Sp:List α→Prop) (e:Ending) (W':World):Prop:=
 (∃v,e=.returned v)∧((∃xs mk' Lt,S xs∧B xs Lt∧Own w0 m W' mk' Lt∧mk1.le mk')∨(∃xs mk' Lt,Sp xs∧Bx xs Lt∧Own w0 m W' mk' Lt∧mk1.le mk'))
def vQ {α:Type} (w0:World) (m mk:Mem) (Lr:List Item) (I:List α→List Item→Prop) (Ix:Code→List α→List Item→Prop) (xs:List α):Exit→Act→World→Prop
 | .normal,_,W'=>∃mk' Lt,I xs Lt∧Own w0 m W' mk' (Lt ++ Lr)∧mk.le mk'
 | .ret,_,W'=>∃mk' Lt,Ix .ret xs Lt∧Own w0 m W' mk' (Lt ++ Lr)∧mk.le mk'
 | .exit id,_,W'=>∃mk' Lt,Ix (.exit id) xs Lt∧Own w0 m W' mk' (Lt ++ Lr)∧mk.le mk'
 | .goto t,_,W'=>∃mk' Lt,Ix (.goto t) xs Lt∧Own w0 m W' mk' (Lt ++ Lr)∧mk.le mk'
 | .panic _,_,_=>False
 | .outgrown,_,_=>False
theorem oP {α:Type} (a b:α) (L R:List α):(L ++ (a::b::R)).Perm (a::b::(L ++ R)):=List.perm_middle.trans (List.Perm.cons _ List.perm_middle)
theorem CY {α:Type} {P:Program} {g:Operand} {ps:Array Tmp} {assign body:Code} {Q:Exit→Act→World→Prop} {a:Act} {w:World} {gf:Nat} {lb:Array Value}
 (hg:a.eval g=.func (.func gf) #[] lb) (eg:∀args w,(callFunc gf args).run P w=.ok (.enter gf args) w) {encs:α→Array Value} (hps:∀x,(encs x).size=ps.size)
 {w0:World} {m mk:Mem} {L0:List Item} (hO:Own w0 m w mk L0) (I:List α→List Item→Prop) (Ix:Code→List α→List Item→Prop) (S Sp:List α→Prop) (h0:I [] L0)
 (hseq:∀(l:Nat) (W1:World) (L1:List Item) (B Bx:List α→List Item→Prop),B [] L1→(∀pre Lt,B pre Lt→∃L,I pre L)→Own w0 m W1 mk L1→yu P l encs w0 m mk B Bx →
  Calls P gf (#[.func (.yield l) #[] #[]] ++ lb) W1 (Jv w0 m mk B Bx S Sp))
 (a₁:α→Act)
 (hassign:∀(l:Nat) (x:α) (W:World) (K:Act→World→Prop),K (a₁ x) W →
  assign.wpIn (Fence.wide.inRound l) 0 P (Exit.then K (fun _ _ _=>False)) { tmps:=(ps.zip (encs x)).foldl (fun t (p,v)=>t.setIfInBounds p v) a.tmps,defers:=[] } W)
 (hbody:∀(l:Nat) (pre:List α) (x:α) (W:World) (mk1:Mem) (Lt Lr:List Item),I pre Lt→Own w0 m W mk1 (Lt ++ Lr)→mk.le mk1 →
  body.wpIn (Fence.wide.inRound l) 0 P (vQ w0 m mk1 Lr I Ix (pre ++ [x])) (a₁ x) W)
 (hdone:∀(D:Nat) (xs:List α) (W:World) (mk1:Mem) (L:List Item),S xs→I xs L→Own w0 m W mk1 (.blob D (.deferred (some []))::L)→mk.le mk1→Q .normal { a with defers:={ target:=.collected D,args:=#[] }::a.defers } W)
 (hstop:∀(D:Nat) (c:Code) (xs:List α) (W:World) (mk1:Mem) (L:List Item),Sp xs→Ix c xs L→Own w0 m W mk1 (.blob D (.deferred (some []))::L)→mk.le mk1 →
  c.wpIn Fence.wide 0 P Q { a with defers:={ target:=.collected D,args:=#[] }::a.defers } W) :
 (Code.rangeFunc g ps assign body).wpIn Fence.wide 0 P Q a w:=by
 refine wpIn_rangeFunc ?_;intro fn _;obtain⟨rec,hrec⟩:∃rec:LoopState→Option Code→Loop,rec=fun st pe=>{ state:=st,pending:=pe,fn,tmps:=a.tmps,params:=ps,assign,body,defers:=w.heap.size }:=⟨_,rfl⟩;have hO1:=(hO.BA (.deferred (some []))).BA (.loop (rec .ready none));have hsz:(w.alloc (.deferred (some []))).heap.size=w.heap.size+1:=by simp
 rw[hsz] at hO1;have hent:=run_enterLoop_outer (P:=P) (w:=w) fn a.tmps ps assign body;have hre:(Obj.loop { state:=.ready,pending:=none,fn,tmps:=a.tmps,params:=ps,assign,body,defers:=w.heap.size })=.loop (rec .ready none):=by rw[hrec]
 rw[hre] at hent;generalize (w.alloc (.deferred (some []))).alloc (.loop (rec .ready none))=W1 at *
 generalize w.heap.size=D at *
 have hround:yu P (D+1) encs w0 m mk (fun pre Lt=>∃L,I pre L∧Lt=.blob (D+1) (.loop (rec .ready none))::.blob D (.deferred (some []))::L)
  (fun pre Lt=>∃c L,Ix c pre L∧Lt=.blob (D+1) (.loop (rec .done (some c)))::.blob D (.deferred (some []))::L):=by
  rintro pre x W mk1 Lt Lr ⟨L,hI,rfl⟩ hOw hle;have hl:=hOw.blob;have hy:=run_yield (P:=P) (args:=encs x) hl (by rw[hrec];exact hps x);rw[hrec] at hy;refine ⟨fn,_,assign,body,hy,roundIn_of_wpIn trivial (hassign _ x W _ ⟨_,run_beginRound hl (by rw[hrec]),?_⟩)⟩;have hO2:=hOw.jm (o':=.loop { rec .ready none with state:=.busy }) (World.putObj_heap_same (Array.getElem?_eq_some_iff.1 hl).1) (grownBy_putObj' _ _ _);have hO3:=hO2.perm (oP _ _ L Lr);refine wpIn_mono (hbody _ pre x _ mk1 L _ hI hO3 hle) ?_;have fin:∀(jump:Option Code) (W3:World) (mk2:Mem) (L2:List Item),Own w0 m W3 mk2 (L2 ++ (.blob (D+1) (.loop { rec .ready none with state:=.busy })::.blob D (.deferred (some []))::Lr)) →
   ∃W4,(Instr.endRound (D+1) jump).run P W3=.ok (.bool jump.isNone) W4∧Own w0 m W4 mk2 (.blob (D+1) (.loop (rec (if jump.isNone then .ready else .done) jump))::.blob D (.deferred (some []))::(L2 ++ Lr)):=by
   intro jump W3 mk2 L2 h3;have h4:=h3.perm (oP _ _ L2 Lr).symm;have hl3:=h4.blob;have hr:=run_endRound (P:=P) jump hl3;refine ⟨_,hr,?_⟩;have:=h4.jm (o':=.loop { rec .ready none with state:=if jump.isNone then .ready else .done,pending:=jump }) (World.putObj_heap_same (Array.getElem?_eq_some_iff.1 hl3).1) (grownBy_putObj' _ _ _);rw[hrec] at this ⊢;exact this
  rintro e a3 W3 hp
  cases e with
  | normal=>
   obtain⟨mk2,L2,hi,ho,hm⟩:=hp;obtain⟨W4,hr,ho4⟩:=fin none W3 mk2 L2 ho
   exact⟨_,_,hr,.inl ⟨rfl,mk2,_,⟨L2,hi,rfl⟩,ho4,hm⟩⟩
  | ret=>
   obtain⟨mk2,L2,hi,ho,hm⟩:=hp;obtain⟨W4,hr,ho4⟩:=fin (some .ret) W3 mk2 L2 ho
   exact⟨_,_,hr,.inr ⟨rfl,mk2,_,⟨.ret,L2,hi,rfl⟩,ho4,hm⟩⟩
  | exit id=>
   obtain⟨mk2,L2,hi,ho,hm⟩:=hp;obtain⟨W4,hr,ho4⟩:=fin (some (.exit id)) W3 mk2 L2 ho
   exact⟨_,_,hr,.inr ⟨rfl,mk2,_,⟨.exit id,L2,hi,rfl⟩,ho4,hm⟩⟩
  | goto t=>
   obtain⟨mk2,L2,hi,ho,hm⟩:=hp;obtain⟨W4,hr,ho4⟩:=fin (some (.goto t)) W3 mk2 L2 ho
   exact⟨_,_,hr,.inr ⟨rfl,mk2,_,⟨.goto t,L2,hi,rfl⟩,ho4,hm⟩⟩
  | panic ch=>exact hp.elim
  | outgrown=>exact hp.elim
 refine ⟨D+1,[{ target:=.collected D,args:=#[] }],W1,{ target:=.fn (.func gf) lb,args:=#[.func (.yield (D+1)) #[] #[]] },W1,gf,
  #[.func (.yield (D+1)) #[] #[]] ++ lb,W1,hent,?_,fun _ _=>trivial,?_,fun h=>absurd h (by simp[Fence.wide]),?_⟩
 ·simp only[resolve,hg];simp[go_sem]
 ·simp[invoke,go_sem,eg]
 ·refine callsIn_wide.2 ((hseq (D+1) W1 _ _ _ ⟨L0,h0,rfl⟩ (fun _ _ h=>h.elim fun L hL=>⟨L,hL.1⟩) hO1 hround).mono ?_);rintro e W3 ⟨⟨v,rfl⟩,hend⟩;rcases hend with ⟨xs,mk2,Lt,hS,⟨L,hI,rfl⟩,ho,hm⟩ | ⟨xs,mk2,Lt,hS,⟨c,L,hI,rfl⟩,ho,hm⟩
  ·have hl3:=ho.blob;have hO4:=ho.jm (o':=.loop { rec .ready none with state:=.exhausted }) (World.putObj_heap_same (Array.getElem?_eq_some_iff.1 hl3).1) (grownBy_putObj' _ _ _);refine ⟨none,_,?_,hdone D xs _ mk2 L hS hI hO4.tail hm⟩;have:=run_endLoop (P:=P) hl3 (by rw[hrec];simp);rw[this,hrec]
  ·have hl3:=ho.blob;have hO4:=ho.jm (o':=.loop { rec .done (some c) with state:=.exhausted }) (World.putObj_heap_same (Array.getElem?_eq_some_iff.1 hl3).1) (grownBy_putObj' _ _ _);refine ⟨some c,_,?_,hstop D c xs _ mk2 L hS hI hO4.tail hm⟩;have:=run_endLoop (P:=P) hl3 (by rw[hrec];simp);rw[this,hrec]
end Cl
namespace Go.Proofs
open Go.Shelf
def Tryz.JM:Go.Shelf.Ren:=⟨fun | 6=>271 | 15=>308 | 14=>307 | 28=>329 | 29=>330 | 20=>321 | 21=>322 | 22=>323 | 23=>324 | 24=>325 | 25=>326 | 26=>327 | 27=>328 | 46=>334 | 47=>335 | 48=>336 | 49=>337 | 50=>338 | 57=>342 | n=>n,fun | 22=>22 | 24=>153 | 25=>229 | 3=>3 | 39=>272 | 0=>0 | 53=>297 | 55=>299 | 4=>4 | 46=>291 | 45=>290 | 50=>266 | 5=>5 | 9=>9 | 66=>301 | 70=>305 | 76=>311 | 77=>312 | n=>n,fun | n=>n⟩
theorem Tryz.RN:Go.Proofs.SlLaysF0.n6 Tryz.prog Tryz.JM:={
 mixed:=by kernel_rfl
 f6:=⟨Tryz.f271.name,by decide,Tryz.func271.trans (congrArg some zk)⟩
 f14:=⟨Tryz.f307.name,by decide,Tryz.func307.trans (congrArg some zk)⟩
 f15:=Tryz.func308.trans (congrArg some zk)
 f20:=⟨Tryz.f321.name,by decide,Tryz.func321.trans (congrArg some zk)⟩
 f21:=⟨Tryz.f322.name,by decide,Tryz.func322.trans (congrArg some zk)⟩
 f22:=⟨Tryz.f323.name,by decide,Tryz.func323.trans (congrArg some zk)⟩
 f23:=⟨Tryz.f324.name,by decide,Tryz.func324.trans (congrArg some zk)⟩
 f24:=⟨Tryz.f325.name,by decide,Tryz.func325.trans (congrArg some zk)⟩
 f25:=⟨Tryz.f326.name,by decide,Tryz.func326.trans (congrArg some zk)⟩
 f26:=⟨Tryz.f327.name,by decide,Tryz.func327.trans (congrArg some zk)⟩
 f27:=⟨Tryz.f328.name,by decide,Tryz.func328.trans (congrArg some zk)⟩
 f28:=Tryz.func329.trans (congrArg some zk)
 f29:=Tryz.func330.trans (congrArg some zk)
 f46:=⟨Tryz.f334.name,by decide,Tryz.func334.trans (congrArg some zk)⟩
 f47:=Tryz.func335.trans (congrArg some zk)
 f48:=Tryz.func336.trans (congrArg some zk)
 f49:=⟨Tryz.f337.name,by decide,Tryz.func337.trans (congrArg some zk)⟩
 f50:=⟨Tryz.f338.name,by decide,Tryz.func338.trans (congrArg some zk)⟩
 f57:=⟨Tryz.f342.name,by decide,Tryz.func342.trans (congrArg some zk)⟩
 t0:=Tryz.underlying0
 a0:=Tryz.isAgg0
 z0:=Tryz.sizeOf0
 v0:=Tryz.zeroValue0
 t3:=Tryz.underlying3
 a3:=Tryz.isAgg3
 z3:=Tryz.sizeOf3
 v3:=Tryz.zeroValue3
 t4:=Tryz.underlying4
 a4:=Tryz.isAgg4
 z4:=Tryz.sizeOf4
 v4:=Tryz.zeroValue4
 t5:=Tryz.underlying5
 a5:=Tryz.isAgg5
 z5:=Tryz.sizeOf5
 v5:=Tryz.zeroValue5
 t9:=Tryz.underlying9
 a9:=Tryz.isAgg9
 z9:=Tryz.sizeOf9
 v9:=Tryz.zeroValue9
 t22:=Tryz.underlying22
 a22:=Tryz.isAgg22
 z22:=Tryz.sizeOf22
 v22:=Tryz.zeroValue22
 t25:=Tryz.underlying229
 a25:=Tryz.isAgg229
 z25:=Tryz.sizeOf229
 v25:=Tryz.zeroValue229
 t39:=Tryz.underlying272
 a39:=Tryz.isAgg272
 z39:=Tryz.sizeOf272
 v39:=Tryz.zeroValue272
 t45:=Tryz.underlying290
 a45:=Tryz.isAgg290
 z45:=Tryz.sizeOf290
 v45:=Tryz.zeroValue290
 t46:=Tryz.underlying291
 a46:=Tryz.isAgg291
 z46:=Tryz.sizeOf291
 v46:=Tryz.zeroValue291
 t50:=Tryz.underlying266
 a50:=Tryz.isAgg266
 z50:=Tryz.sizeOf266
 v50:=Tryz.zeroValue266
 t53:=Tryz.underlying297
 a53:=Tryz.isAgg297
 z53:=Tryz.sizeOf297
 v53:=Tryz.zeroValue297
 t55:=Tryz.underlying299
 a55:=Tryz.isAgg299
 z55:=Tryz.sizeOf299
 v55:=Tryz.zeroValue299
 t66:=Tryz.underlying301
 a66:=Tryz.isAgg301
 z66:=Tryz.sizeOf301
 v66:=Tryz.zeroValue301
 t70:=Tryz.underlying305
 a70:=Tryz.isAgg305
 z70:=Tryz.sizeOf305
 v70:=Tryz.zeroValue305
 t76:=Tryz.underlying311
 a76:=Tryz.isAgg311
 z76:=Tryz.sizeOf311
 v76:=Tryz.zeroValue311
 t77:=Tryz.underlying312
 a77:=Tryz.isAgg312
 z77:=Tryz.sizeOf312
 v77:=Tryz.zeroValue312 }
end Go.Proofs
namespace Cl
open Go Go.RowKit Go.Proofs Go.Sort
def vg (x:Spn):List Value:=[.int .i64 x.1,.int .i64 x.2]
def G9 (x y:Spn):Int:=Lib.compareInt x.1 y.1
theorem ltLo (x y:Spn):ltOf G9 x y=decide (x.1<y.1):=by
 unfold ltOf G9 Lib.compareInt;by_cases h1:x.1<y.1
 ·simp[h1]
 ·by_cases h2:y.1<x.1 <;> simp[h1,h2]
theorem Su:SWO (ltOf G9) where
 irrefl x:=by rw[ltLo];simp
 trans x y z h1 h2:=by rw[ltLo] at *;simp at *;omega
 ntrans x y z h1 h2:=by rw[ltLo] at *;simp at *;omega
theorem flat_get (d:Array Spn) (j:Nat) (h:j<d.size*2):(flatK vg 2 d)[j]! = (aS d.toList)[j]'(by rw[bN];simpa using h):=by
 rw[get_flatK _ _ _ _ h];have hi:j / 2<d.toList.length:=by simp;omega
 obtain⟨k1,k2⟩:=jH d.toList (j / 2) hi;have e:d[j / 2]! = d.toList[j / 2]:=by
  rw[getElem!_pos d (j / 2) (by simpa using hi)];simp
 rcases (show j=j / 2*2∧j % 2=0∨j=j / 2*2+1∧j % 2=1 by omega) with ⟨e1,e2⟩ | ⟨e1,e2⟩
 ·rw[e2,e];have:=(List.getElem?_eq_some_iff.1 k1).2;simp only[vg];rw[← e1] at k1;exact (List.getElem?_eq_some_iff.1 k1).2.symm
 ·rw[e2,e];simp only[vg];rw[← e1] at k2;exact (List.getElem?_eq_some_iff.1 k2).2.symm
theorem Mk {w:World} {t:TypeId} {g c:Nat} {l:List Spn} (h:w.ownsRow 0 t 2 (.slice (some ⟨g,0,none⟩) l.length c) l.length (aS l)):HoldsK vg 2 w g 0 l.toArray:=by
 intro j hj;have hj2:j<l.toArray.size*2:=by simpa [size_flatK] using hj
 refine ⟨?_,dh h _⟩;rw[Nat.zero_add];refine aT h ?_;rw[flat_get _ _ hj2];simp
theorem O1 {w0 w:World} {m mk:Mem} {L:List Item} {t:TypeId} {g c:Nat} {l:List Spn} (h:Own w0 m w mk (.row (.slice (some ⟨g,0,none⟩) l.length c) t 2 l.length (aS l)::L))
 (d':Array Spn) (hs:d'.size=l.length) (n:Nat) (os:Array Obj):Own w0 m (sortWorldK vg 2 w g 0 n d' os) mk (.row (.slice (some ⟨g,0,none⟩) l.length c) t 2 l.length (aS d'.toList)::L):=by
 have hr:=h.row;obtain⟨h1,h2⟩:=hr;rcases h2 with ⟨h2,-⟩ | ⟨g',cap,cur,hv,hg,hb,hnc,hcm,hcs,htake⟩
 ·cases h2
 ·cases hv;have hlt:g<w.heap.size:=(Array.getElem?_eq_some_iff.1 hb).1;have hheap:∀k,k<w.heap.size→(sortWorldK vg 2 w g 0 n d' os).heap[k]?=(w.heap.modify g (onCells (putCells id 0 (flatK vg 2 d'))))[k]?:=fun k hk=>by
   show ((w.heap.modify g (onCells (putCells id 0 (flatK vg 2 d')))) ++ os)[k]?=_;rw[Array.getElem?_append_left (by simpa using hk)]
  refine h.app (v':=.slice (some ⟨g,0,none⟩) l.length c) (N:=w.heap.size) ⟨by rw[bN];simp[hs],.inr ⟨g,c,putCells id 0 (flatK vg 2 d') cur,rfl,hg,?_,hnc,hcm,?_,?_⟩⟩ ⟨rfl,rfl,rfl,?_,?_⟩ (fun k hk=>.inl hk) (zG _)
  ·rw[hheap g hlt,Array.getElem?_modify,zI rfl,hb]
   rfl
  ·simp[putCells,hcs]
  ·apply List.ext_getElem?;intro j;by_cases hj:j<l.length*2
   ·have hj3:j<cur.size:=by rw[hcs];have:=Nat.mul_le_mul_right 2 hnc;omega
    rw[List.getElem?_take,zI hj];have hj4:j<(aS d'.toList).length:=by rw[bN];simp[hs,hj]
    rw[yC hj4,← flat_get d' j (by rw[hs];exact hj)];simp[putCells,hj3,size_flatK,hs,hj]
   ·rw[List.getElem?_eq_none (by simp;omega),List.getElem?_eq_none (by rw[bN];simp[hs];omega)]
  ·show w.heap.size≤((w.heap.modify g (onCells (putCells id 0 (flatK vg 2 d')))) ++ os).size;simp
  ·intro k hk hne;rw[hheap k hk,Array.getElem?_modify,zH (fun e=>hne (by rw[e];rfl))]
theorem L8 {l:List Spn} {d':Array Spn} (hp:PermIn 0 l.toArray.size l.toArray d') (hs:SortedIn (ltOf G9) 0 l.toArray.size d'):d'.size=l.length∧d'.toList.Perm l∧d'.toList.Pairwise fun s t=>s.1≤t.1:=by
 obtain⟨h1,-,h3⟩:=hp;have e1:d'.size=l.length:=by simpa using h1
 refine ⟨e1,?_,?_⟩
 ·have e2:d'.extract 0 l.toArray.size=d':=by rw[← h1];simp
  have e3:l.toArray.extract 0 l.toArray.size=l.toArray:=by simp
  rw[e2,e3] at h3;simpa using h3
 ·rw[List.pairwise_iff_getElem];intro i j hi hj hij;have hi':i<d'.size:=by simpa using hi
  have hj':j<d'.size:=by simpa using hj
  have:=hs i j (zC _) hij (by simpa [e1] using hj);rw[ltLo] at this;simp only[decide_eq_false_iff_not,Int.not_lt] at this;rw[getElem!_pos d' i hi',getElem!_pos d' j hj'] at this;simpa using this
end Cl
