/- Lemmas for the proofs of chapter 11. -/
import Derived.WalkKit
import Derived.Deep.QuietTactic
import Derived.Test.YtajbfioncdnkcaaGreatDoorProg
import Derived.Deep.Slices
import Derived.Lib.SmallJoins
import Derived.ChangeMaps5
import Derived.Carry
import Derived.KernelRfl
import Derived.ChangeArms
import Derived.Test.YtajbfioncdnkcaaGreatDoorZz
import Derived.Test.YtajbfioncdnkcaaGreatDoorPkM3
import Derived.Test.YtajbfioncdnkcaaGreatDoorPkM1
import Derived.Test.YtajbfioncdnkcaaGreatDoorPkM2
import Derived.Test.YtajbfioncdnkcaaGreatDoorPkM29
set_option maxRecDepth 100000
set_option maxHeartbeats 16000000
namespace Cl
open Go Go.RowKit Go.Proofs Go.WideShapes Go.ChangeShapes Go.Deep Go.Joins
section
variable {H:Type} {enc:TypeId × Value→H} {P:Program} {w:World} {spare:Nat→Bool} {held:Bool}
theorem rJ {α:Type} [Inhabited α] {t e:TypeId} {size:Nat} (ht:P.underlying t=some (.slice e)) (hc:P.cellsOf e=size) (hpos:0<size) (R:Nat→Nat→α→Prop) {fuel:Nat}
 (hR:∀(n b o:Nat) (cs:List Value) (x:DataW H × List MemPlace),n<fuel→w.cells? 0 ⟨b,o,none⟩ size=some cs→DataW.trod enc P w 0 spare held n e cs=some x→∃y:α,R b o y)
 {cs:List Value} {x:DataW H × List MemPlace} (h:DataW.trod enc P w 0 spare held fuel t cs=some x):∃v l,cs=[v]∧Mem.slice R size v l:=by
 rcases DataW.trod_slice ht h with ⟨rfl,-⟩ | ⟨a,len,cap,elems,rest,n,rfl,rfl,rfl,hb,hl,hm,hlen,hel,-,-⟩
 ·exact⟨_,[],rfl,none,0,rfl,Nat.le_refl _,Nat.zero_le _,fun h=>absurd rfl h⟩
 ·have hx:∀i,i<len→∃cs',w.cells? 0 (a.add (i*P.cellsOf e)) (P.cellsOf e)=some cs'∧∃y,DataW.trod enc P w 0 spare held n e cs'=some y:=fun i hi=>by
   have h1:=hel i hi;rw[List.getElem?_eq_getElem zo] at h1;obtain⟨cs',h2,h3⟩:=Option.bind_eq_some_iff.1 h1;exact⟨cs',h2,_,h3⟩
  by_cases h0:len=0
  ·subst h0;exact⟨_,[],rfl,some a,cap,rfl,Nat.zero_le _,hm,fun h=>absurd rfl h⟩
  ·have hsp:a.spot=none:=by
    obtain⟨cs',h1,-⟩:=hx 0 zo;obtain⟨-,h2,h3⟩:=World.cells?_some h1;rw[hc] at h2 h3;have:=h3 0 hpos;rw[Nat.zero_mul] at this;have e:(a.add 0).add 0=a:=by simp[Addr.add]
    rw[e,List.getElem?_eq_getElem zo] at this;exact MC this
   obtain⟨b,o,sp⟩:=a;simp only at hsp;subst hsp;obtain⟨f,hf⟩:=choose_lt (α:=α) (n:=len) (p:=fun i y=>R b (o+i*size) y) (fun i hi=>by
    obtain⟨cs',h1,y,h2⟩:=hx i zo;rw[hc,Addr.add_lit] at h1;exact hR n _ _ _ _ zo h1 h2)
   refine ⟨_,(List.range len).map f,rfl,some ⟨b,o,none⟩,cap,zS,by simpa using hl,hm,fun _=>⟨b,o,rfl,fun i hi=>?_⟩⟩;have hi':i<len:=by simpa using hi
   simpa using hf i hi'
end
theorem TB {m:Mem} {k n:Int} {s:ByteArray} {vi vm:Value} {items:List Dt} {labels:List ByteArray} {bv:List Dt} (hk : -9223372036854775808≤k∧k≤9223372036854775807) (hn : -9223372036854775808≤n∧n≤9223372036854775807)
 (hs:s.size≤maxLen) (hi:DsAt m vi items) (hm:MsAt m vm labels bv):DtAt m vi vm (.mk k n s items labels bv):=by
 obtain⟨ai,ci,rfl,i1,i2,i3⟩:=hi;obtain⟨hl,am,cm,rfl,m1,m2,m3⟩:=hm;have h1:∃bi oi,(items≠[]→ai=some ⟨bi,oi,none⟩)∧∃f:Nat→Value × Value,∀i,i<items.length→∀h:i<items.length,rW m bi (oi+i*5) (items[i]).kind (items[i]).num (items[i]).str (f i).1 (f i).2∧DtAt m (f i).1 (f i).2 items[i]:=by
  by_cases hne:items=[]
  ·subst hne;exact⟨0,0,fun h=>absurd rfl h,fun _=>(.bool true,.bool true),fun i h=>absurd h zS⟩
  ·obtain⟨b,off,rfl,h4⟩:=i3 hne;exact⟨b,off,fun _=>rfl,choose_lt (α:=Value × Value) (n:=items.length) (p:=fun i y=>∀h:i<items.length,rW m b (off+i*5) (items[i]).kind (items[i]).num (items[i]).str y.1 y.2∧DtAt m y.1 y.2 items[i]) (fun i hi=>by
    obtain⟨x,y,g1,g2⟩:=h4 i hi;exact⟨(x,y),fun _=>⟨g1,g2⟩⟩)⟩
 have h2:∃bm om,(bv≠[]→am=some ⟨bm,om,none⟩)∧(∃f:Nat→Value × Value,∀i,i<bv.length→∀h:i<bv.length,rW m bm (om+i*6+1) (bv[i]).kind (bv[i]).num (bv[i]).str (f i).1 (f i).2∧DtAt m (f i).1 (f i).2 bv[i]) ∧
  ∀i (h:i<labels.length),m.cell bm (om+i*6)=some (.string labels[i])∧(labels[i]).size≤maxLen:=by
  by_cases hne:bv=[]
  ·subst hne;exact⟨0,0,fun h=>absurd rfl h,⟨fun _=>(.bool true,.bool true),fun i h=>absurd h zS⟩,fun i h=>absurd h (by rw[hl];simp)⟩
  ·obtain⟨b,off,rfl,h4,h5⟩:=m3 hne;exact⟨b,off,fun _=>rfl,choose_lt (α:=Value × Value) (n:=bv.length) (p:=fun i y=>∀h:i<bv.length,rW m b (off+i*6+1) (bv[i]).kind (bv[i]).num (bv[i]).str y.1 y.2∧DtAt m y.1 y.2 bv[i]) (fun i hi=>by
    obtain⟨x,y,g1,g2⟩:=h4 i hi;exact⟨(x,y),fun _=>⟨g1,g2⟩⟩),h5⟩
 obtain⟨bi,oi,e1,f,hf⟩:=h1;obtain⟨bm,om,e2,⟨g,hg⟩,h5⟩:=h2;exact .mk k n s items labels bv ai ci am cm hk hn hs hl i1 i2 m1 m2 bi oi e1 (fun i=>(f i).1) (fun i=>(f i).2) (fun i h=>(hf i h h).1) (fun i h=>(hf i h h).2) bm om e2 (fun i=>(g i).1) (fun i=>(g i).2) (fun i h=>(hg i h h).1) (fun i h=>(hg i h h).2) h5
section
variable {H:Type} {enc:TypeId × Value→H} {w:World} {spare:Nat→Bool} {held:Bool}
theorem Ox:∀(fuel:Nat) (cs:List Value) (x:DataW H × List MemPlace),DataW.trod enc Tryz.prog w 0 spare held fuel 33 cs=some x →
 ∃d vi vm,cs=[.int .i64 d.kind,.int .i64 d.num,.string d.str,vi,vm]∧DtAt (Mem.of w) vi vm d:=by
 intro fuel
 induction fuel using Nat.strongRecOn with
 | ind fuel ih=>
 intro cs x h;obtain⟨xs,n,rfl,rfl,hl,hlen,hf⟩:=DataW.trod_struct Tryz.underlying33 h;have ed:Tryz.prog.cellsOf 33=5:=by kernel_rfl
 rw[ed] at hl;obtain⟨c0,c1,c2,c3,c4,rfl⟩:=Rs hl;have e0:Tryz.prog.cellsOf 3=1:=by kernel_rfl
 have e1:Tryz.prog.cellsOf 2=1:=by kernel_rfl
 have e2:Tryz.prog.cellsOf 9=1:=by kernel_rfl
 have e3:Tryz.prog.cellsOf 30=1:=by kernel_rfl
 have e4:Tryz.prog.cellsOf 31=1:=by kernel_rfl
 have e5:Tryz.prog.cellsOf 102=6:=by kernel_rfl
 obtain⟨y0,y1,y2,y3,y4,rfl⟩:=Rs hlen;have f0:=hf 0 _ rfl;have f1:=hf 1 _ rfl;have f2:=hf 2 _ rfl;have f3:=hf 3 _ rfl;have f4:=hf 4 _ rfl;simp[e0,e1,e2,e3,e4] at f0 f1 f2 f3 f4;obtain⟨k,g0,-,w0⟩:=DataW.trod_int Tryz.underlying3 f0;obtain⟨m,g1,-,w1⟩:=DataW.trod_int Tryz.underlying2 f1;obtain⟨s,g2,-,w2⟩:=DataW.trod_string Tryz.underlying9 f2;cases g0;cases g1;cases g2;obtain⟨vi,items,g3,h3⟩:=rJ Tryz.underlying30 ed zo (DAt (Mem.of w)) (fun n' b o cs x hn hc hx=>by
  obtain⟨d,vi,vm,rfl,hd⟩:=ih n' zo cs x hx;exact⟨d,_,_,⟨fM (i:=0) hc rfl,fM (i:=1) hc rfl,fM (i:=2) hc rfl,fM (i:=3) hc rfl,fM (i:=4) hc rfl⟩,hd⟩) f3
 obtain⟨vm,ms,g4,h4⟩:=rJ (α:=ByteArray × Dt) Tryz.underlying31 e5 zo (fun b o y=>(Mem.of w).cell b o=some (.string y.1)∧y.1.size≤maxLen∧DAt (Mem.of w) b (o+1) y.2) (fun n' b o cs x hn hc hx=>by
  obtain⟨xs,n2,rfl,rfl,-,hlen2,hf2⟩:=DataW.trod_struct Tryz.underlying102 hx;obtain⟨c0,c1,c2,c3,c4,c5,rfl⟩:=SK (World.cells?_some hc).2.1;obtain⟨y0,y1,rfl⟩:=Rt hlen2;have f0:=hf2 0 _ rfl;have f1:=hf2 1 _ rfl;simp[e2,ed] at f0 f1;obtain⟨s,g2,-,w2⟩:=DataW.trod_string Tryz.underlying9 f0;obtain⟨d,vi,vm,g3,hd⟩:=ih n2 zo _ _ f1;cases g2;cases g3;exact⟨(s,d),fM (i:=0) hc rfl,w2,_,_,⟨fM (i:=1) hc rfl,fM (i:=2) hc rfl,fM (i:=3) hc rfl,fM (i:=4) hc rfl,fM (i:=5) hc rfl⟩,hd⟩) f4
 cases g3;cases g4;have w0:=Fq w0;have w1:=Fq w1;refine ⟨.mk k m s items (ms.map (·.1)) (ms.map (·.2)),_,_,rfl,TB w0 w1 w2 h3 ⟨zS,?_⟩⟩;obtain⟨a,c,rfl,k1,k2,k3⟩:=h4;refine ⟨a,c,zS,by simpa using k1,k2,fun hne=>?_⟩;obtain⟨b,off,rfl,k4⟩:=k3 (fun e=>hne (by rw[e];rfl));refine ⟨b,off,rfl,fun i h=>?_,fun i h=>?_⟩
 ·have hi:i<ms.length:=by simpa using h
  simpa using (k4 i hi).2.2
 ·have hi:i<ms.length:=by simpa using h
  simpa using ⟨(k4 i hi).1,(k4 i hi).2.1⟩
theorem nu {r:Reach} {b0:Nat} {v:Value} {d:DataW H} {p:List MemPlace} (hv:Value.okWide Tryz.prog w r b0 33 v) (h:DataW.Trod enc Tryz.prog w 0 spare held 33 v d p) :
 ∃vi vm x,v=Dt.val x vi vm∧DtAt (Mem.of w) vi vm x:=by
 obtain⟨cs,rfl,hsz⟩:=okWide_struct Tryz.underlying33 hv;obtain⟨fuel,hf⟩:=h;obtain⟨x,vi,vm,e,hs⟩:=Ox fuel _ _ hf;refine ⟨vi,vm,x,?_,hs⟩;have:cs=#[.int .i64 x.kind,.int .i64 x.num,.string x.str,vi,vm]:=by
  have e':cs.toList=[.int .i64 x.kind,.int .i64 x.num,.string x.str,vi,vm]:=e;obtain⟨l⟩:=cs;exact congrArg Array.mk e'
 rw[this];rfl
end
end Cl
