/- Lemmas for the proofs of chapter 11. -/
import Derived.Test.YtajbfioncdnkcaaGreatDoorProg
import Derived.Deep.Slices
import Derived.Lib.SmallJoins
import Derived.ChangeMaps5
import Derived.Carry
import Derived.KernelRfl
import Derived.WalkKit
import Derived.Deep.QuietTactic
import Derived.ChangeArms
import Derived.Test.YtajbfioncdnkcaaGreatDoorZz
import Derived.Test.YtajbfioncdnkcaaGreatDoorPkM3
import Derived.Test.YtajbfioncdnkcaaGreatDoorPkM1
import Derived.Test.YtajbfioncdnkcaaGreatDoorPkM2
set_option maxRecDepth 100000
set_option maxHeartbeats 16000000
namespace Cl
open Go Go.RowKit Go.Proofs Go.WideShapes Go.ChangeShapes Go.Deep Go.Joins
theorem Tt {α:Type} {l:List α} (h:l.length=3):∃a b c,l=[a,b,c]:=by
 match l,h with
 | [a,b,c],_=>exact⟨a,b,c,rfl⟩
section
variable {H:Type} {enc:TypeId × Value→H} {P:Program} {w:World} {spare:Nat→Bool} {held:Bool}
theorem lX {α:Type} [Inhabited α] {t e:TypeId} {size:Nat} (ht:P.underlying t=some (.slice e)) (hc:P.cellsOf e=size) (hpos:0<size) (R:Nat→Nat→α→Prop)
 (hR:∀(fuel b o:Nat) (cs:List Value) (x:DataW H × List MemPlace),w.cells? 0 ⟨b,o,none⟩ size=some cs→DataW.trod enc P w 0 spare held fuel e cs=some x→∃y:α,R b o y)
 {fuel:Nat} {cs:List Value} {x:DataW H × List MemPlace} (h:DataW.trod enc P w 0 spare held fuel t cs=some x):∃v l,cs=[v]∧Mem.slice R size v l:=by
 rcases open_slice ht h with ⟨rfl,-⟩ | ⟨a,len,cap,m,n,D,Pl,rfl,hb,hl,hm,hmm,rfl,hx⟩
 ·exact⟨_,[],rfl,none,0,rfl,Nat.le_refl _,Nat.zero_le _,fun h=>absurd rfl h⟩
 ·have hlm:len≤m:=by rw[hmm];split <;> omega
  by_cases h0:len=0
  ·subst h0;exact⟨_,[],rfl,some a,cap,rfl,Nat.zero_le _,hm,fun h=>absurd rfl h⟩
  ·have hsp:a.spot=none:=by
    obtain⟨cs',h1,-⟩:=hx 0 zo;obtain⟨-,h2,h3⟩:=World.cells?_some h1;rw[hc] at h2 h3;have:=h3 0 hpos;rw[Nat.zero_mul] at this;have e:(a.add 0).add 0=a:=by simp[Addr.add]
    rw[e,List.getElem?_eq_getElem zo] at this;exact MC this
   obtain⟨b,o,sp⟩:=a;simp only at hsp;subst hsp;obtain⟨f,hf⟩:=choose_lt (α:=α) (n:=len) (p:=fun i y=>R b (o+i*size) y) (fun i hi=>by
    obtain⟨cs',h1,h2⟩:=hx i zo;rw[hc,Addr.add_lit] at h1;exact hR _ _ _ _ _ h1 h2)
   refine ⟨_,(List.range len).map f,rfl,some ⟨b,o,none⟩,cap,zS,by simpa using hl,hm,fun _=>⟨b,o,rfl,fun i hi=>?_⟩⟩;have hi':i<len:=by simpa using hi
   simpa using hf i hi'
end
section
variable {H:Type} {enc:TypeId × Value→H} {w:World} {spare:Nat→Bool} {held:Bool}
theorem Sb {n:Int} (h:(Lit.int .u8 n).wf=true):∃k:Nat,n=k∧k<256:=by
 simp only[Lit.wf,Bool.and_eq_true,decide_eq_true_eq] at h;have e1:IntKind.min .u8=0:=by decide
 have e2:IntKind.max .u8=255:=by decide
 exact⟨n.toNat,zo,zo⟩
theorem Ol (fuel b o:Nat) (cs:List Value) (x:DataW H × List MemPlace) (hc:w.cells? 0 ⟨b,o,none⟩ 3=some cs) (h:DataW.trod enc Tryz.prog w 0 spare held fuel 106 cs=some x):∃e,Cb (Mem.of w) b o e:=by
 obtain⟨y0,y1,y2,n,-,hl,h0,h1,h2⟩:=trod_struct3 Tryz.underlying106 h;have hl3:cs.length=3:=(World.cells?_some hc).2.1;obtain⟨c0,c1,c2,rfl⟩:=Tt hl3;have e8:Tryz.prog.cellsOf 5=1:=by kernel_rfl
 have e64:Tryz.prog.cellsOf 3=1:=by kernel_rfl
 simp[e8,e64] at h0 h1 h2;obtain⟨a0,e0,-,w0⟩:=DataW.trod_int Tryz.underlying5 h0;obtain⟨a1,e1,-,w1⟩:=DataW.trod_int Tryz.underlying5 h1;obtain⟨a2,e2,-,w2⟩:=DataW.trod_int Tryz.underlying3 h2;obtain⟨k0,rfl,l0⟩:=Sb w0;obtain⟨k1,rfl,l1⟩:=Sb w1;cases e0;cases e1;cases e2;have w2:=Fq w2;exact⟨⟨k0,k1,a2⟩,fM (i:=0) hc rfl,fM (i:=1) hc rfl,fM (i:=2) hc rfl,l0,l1,w2.1,w2.2⟩
theorem JY (fuel b o:Nat) (cs:List Value) (x:DataW H × List MemPlace) (hc:w.cells? 0 ⟨b,o,none⟩ 2=some cs) (h:DataW.trod enc Tryz.prog w 0 spare held fuel 66 cs=some x):∃s,yz (Mem.of w) b o s:=by
 obtain⟨y0,y1,n,-,hl,h0,h1⟩:=trod_struct2 Tryz.underlying66 h;have hl2:cs.length=2:=(World.cells?_some hc).2.1;obtain⟨c0,c1,rfl⟩:=Rt hl2;have eb:Tryz.prog.cellsOf 4=1:=by kernel_rfl
 have es:Tryz.prog.cellsOf 64=1:=by kernel_rfl
 simp[eb,es] at h0 h1;obtain⟨a0,e0,-⟩:=DataW.trod_bool Tryz.underlying4 h0;cases e0;obtain⟨v,l,e1,hs⟩:=lX Tryz.underlying64 zk zo (Cb (Mem.of w)) Ol h1;cases e1;exact⟨⟨a0,l⟩,fM (i:=0) hc rfl,c1,fM (i:=1) hc rfl,hs⟩
end
section
variable {H:Type} {enc:TypeId × Value→H} {w:World} {spare:Nat→Bool} {held:Bool}
theorem Ee (fuel b o:Nat) (cs:List Value) (x:DataW H × List MemPlace) (hc:w.cells? 0 ⟨b,o,none⟩ 2=some cs) (h:DataW.trod enc Tryz.prog w 0 spare held fuel 104 cs=some x):∃p,I8 (Mem.of w) b o p:=by
 obtain⟨y0,y1,n,-,hl,h0,h1⟩:=trod_struct2 Tryz.underlying104 h;obtain⟨c0,c1,rfl⟩:=Rt (World.cells?_some hc).2.1;have e64:Tryz.prog.cellsOf 2=1:=by kernel_rfl
 simp[e64] at h0 h1;obtain⟨a0,e0,-,w0⟩:=DataW.trod_int Tryz.underlying2 h0;obtain⟨a1,e1,-,w1⟩:=DataW.trod_int Tryz.underlying2 h1;cases e0;cases e1;have w0:=Fq w0;have w1:=Fq w1;exact⟨(a0,a1),fM (i:=0) hc rfl,fM (i:=1) hc rfl,w0.1,w0.2,w1.1,w1.2⟩
theorem MP {fuel:Nat} {cs:List Value} {x:DataW H × List MemPlace} (h:DataW.trod enc Tryz.prog w 0 spare held fuel 29 cs=some x) :
 ∃b0 b1 b2 vi vf vt l f t,cs=[.bool b0,.bool b1,.bool b2,vi,vf,vt]∧ScAt (Mem.of w) vi vf vt ⟨b0,b1,b2,l,f,t⟩:=by
 obtain⟨xs,n,rfl,rfl,hl,hlen,hf⟩:=DataW.trod_struct Tryz.underlying29 h;have e0:Tryz.prog.cellsOf 29=6:=by kernel_rfl
 rw[e0] at hl;obtain⟨c0,c1,c2,c3,c4,c5,rfl⟩:=SK hl;have eb:Tryz.prog.cellsOf 4=1:=by kernel_rfl
 have en:Tryz.prog.cellsOf 24=2:=by kernel_rfl
 have el:Tryz.prog.cellsOf 27=1:=by kernel_rfl
 have es:Tryz.prog.cellsOf 22=1:=by kernel_rfl
 have et:Tryz.prog.cellsOf 25=1:=by kernel_rfl
 obtain⟨y0,y1,y2,y3,y4,rfl⟩:=Rs hlen;have f0:=hf 0 _ rfl;have f1:=hf 1 _ rfl;have f2:=hf 2 _ rfl;have f3:=hf 3 _ rfl;have f4:=hf 4 _ rfl;simp[eb,en,el] at f0 f1 f2 f3 f4;obtain⟨a0,e0,-⟩:=DataW.trod_bool Tryz.underlying4 f0;obtain⟨a1,e1,-⟩:=DataW.trod_bool Tryz.underlying4 f1;obtain⟨a2,e2,-⟩:=DataW.trod_bool Tryz.underlying4 f2;cases e0;cases e1;cases e2;obtain⟨z0,z1,n3,-,-,g0,g1⟩:=trod_struct2 Tryz.underlying24 f3;simp[es] at g0 g1;obtain⟨z2,n4,-,-,g2⟩:=trod_struct1 Tryz.underlying27 f4;simp[et] at g2;obtain⟨vi,l,e3,h3⟩:=lX Tryz.underlying22 zk zo (I8 (Mem.of w)) Ee g0;obtain⟨vf,f,e4,h4⟩:=lX Tryz.underlying22 zk zo (I8 (Mem.of w)) Ee g1;obtain⟨vt,t,e5,h5⟩:=lX Tryz.underlying25 zk zo (yz (Mem.of w)) JY g2;cases e3;cases e4;cases e5;exact⟨a0,a1,a2,_,_,_,l,f,t,rfl,h3,h4,h5⟩
theorem iY {r:Reach} {b0:Nat} {v:Value} {d:DataW H} {p:List MemPlace} (hv:Value.okWide Tryz.prog w r b0 29 v) (h:DataW.Trod enc Tryz.prog w 0 spare held 29 v d p) :
 ∃vi vf vt s,v=s.val vi vf vt∧ScAt (Mem.of w) vi vf vt s:=by
 obtain⟨cs,rfl,hsz⟩:=okWide_struct Tryz.underlying29 hv;obtain⟨fuel,hf⟩:=h;obtain⟨x0,x1,x2,vi,vf,vt,l,f,t,e,hs⟩:=MP hf;refine ⟨vi,vf,vt,⟨x0,x1,x2,l,f,t⟩,?_,hs⟩;have:cs=#[.bool x0,.bool x1,.bool x2,vi,vf,vt]:=by
  have e':cs.toList=[.bool x0,.bool x1,.bool x2,vi,vf,vt]:=e;obtain⟨l⟩:=cs;exact congrArg Array.mk e'
 rw[this];rfl
end
end Cl
