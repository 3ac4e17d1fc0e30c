/- Lemmas for the proofs of chapter 11. -/
import Derived.Test.YtdgjplfcpcphoaaGreatDoorProg
import Derived.BigQuiet
import Derived.Deep.Cut
import Derived.Deep.QuietTactic
import Derived.Laws.StructEq
import Derived.Lib.AppendStr
import Derived.Lib.Builder
import Derived.Lib.Hide
import Derived.Lib.ItoaLen
import Derived.Maps.OwnOps
import Derived.Maps.OwnSet
import Derived.OrdersHeld
import Derived.Outline
import Derived.StillTailTactics
import Derived.StringKeys
import Derived.WalkKit
import Derived.WalkLawsBesides
import Derived.WalkSpells
import Derived.Deep.RegionHeld
import Derived.Laws.CopyRow
import Derived.Laws.Tables
import Derived.BigFrame
import Derived.RangeFuncNested
import Derived.RangeFuncBound
import Derived.RangeFuncCalls
import Derived.RangeFuncLeaves
import Derived.OwnWalkIn
import Derived.TacticsInMore
import Derived.LoopNIn
import Derived.LoopIn
import Derived.Shelf.Strings.Builder1
import Derived.Shelf.Small.Wraps
import Derived.Shelf.LaysM
import Derived.Shelf.Strconv.Itoa3
import Derived.Shelf.Strconv.AppendIntPublic10
import Derived.Shelf.Spec.SlicesGrow
import Derived.Shelf.SlSortCmp.WholeK
import Derived.RegionTactic
import Derived.ChangeAlike
import Derived.Laws.BytesArg
import Derived.Laws.EntriesVeiled
import Derived.Laws.CopyOwn
import Derived.WalkMore
import Derived.Test.YtdgjplfcpcphoaaGreatDoorZz
import Derived.Test.YtdgjplfcpcphoaaGreatDoorPkV15
import Derived.Test.YtdgjplfcpcphoaaGreatDoorPkV3
import Derived.Test.YtdgjplfcpcphoaaGreatDoorPkV4
import Derived.Test.YtdgjplfcpcphoaaGreatDoorPkV5
import Derived.Test.YtdgjplfcpcphoaaGreatDoorPkV1
import Derived.Test.YtdgjplfcpcphoaaGreatDoorPkV2
import Derived.Test.YtdgjplfcpcphoaaGreatDoorPkV10
import Derived.Test.YtdgjplfcpcphoaaGreatDoorPkV14
import Derived.Test.YtdgjplfcpcphoaaGreatDoorPkV20
import Derived.Test.YtdgjplfcpcphoaaGreatDoorPkV9
import Derived.Test.YtdgjplfcpcphoaaGreatDoorPkV17
import Derived.Test.YtdgjplfcpcphoaaGreatDoorPkV6
import Derived.Test.YtdgjplfcpcphoaaGreatDoorPkV16
import Derived.Test.YtdgjplfcpcphoaaGreatDoorPkV11
import Derived.Test.YtdgjplfcpcphoaaGreatDoorPkV7
import Derived.Test.YtdgjplfcpcphoaaGreatDoorPkV8
import Derived.Test.YtdgjplfcpcphoaaGreatDoorPkV13
import Derived.Test.YtdgjplfcpcphoaaGreatDoorPkV18
import Derived.Test.YtdgjplfcpcphoaaGreatDoorPkV19
import Derived.Test.YtdgjplfcpcphoaaGreatDoorPkV21
import Derived.Test.YtdgjplfcpcphoaaGreatDoorPkV12
set_option maxRecDepth 100000
set_option maxHeartbeats 16000000
namespace Cl
open Go Go.RowKit Go.Proofs
noncomputable def wkV (v:Vl):Vs:=visV 16 1 v ⟨0,0,false⟩
theorem ng (v:Vl) (x:Sl) (m:Mem) (n:Nat) (w:World) (hm:m.inn w) (htab:TabM m) (hv:VAt m n x v) (hf:FewV n v) (hct:vcnt n v≤1048576) :
 Calls Tryz.prog 51 #[v.val x] w fun e w'=>∃g,e=.returned (.pointer (some ⟨g,0,none⟩))∧Below w.heap.size w w'∧bz w' g 73 (wkC (wkV v)):=by
 have hO:=((Own.start hm).al (nine v x).toArray 33).al (wkC ⟨0,0,false⟩) 73;simp only[cz] at hO;have HV:=zh (kL 16 1 n v x (w.heap.size+1) ⟨0,0,false⟩ w _ m m _ rfl hO htab hv hf ⟨by show (0:Int)≤0;omega,by show (0:Int)≤_;omega,by show (0:Int)≤0;omega,by show (0:Int)≤17;omega⟩ hct);have HN:=zh hO.swap.obj.all;have hN:(nine v x).length=9:=rfl;have gl:=hO.swap.obj.lt;have HW:=zh (show visV 16 1 v ⟨0,0,false⟩=wkV v from rfl);unfold Vl.val;unfold Vl.val at HV;generalize nine v x=N at *
 clear hO hv hf;refine av fun R hR=>?_
 go_enter Tryz.func51,Tryz.ntmps51
 go_wp2_with (refine ae tyV rfl (.tmp 1) rfl rfl N hN HN.out ?_)
 refine HV.out.mono ?_;rintro e w1 ⟨mk,rfl,hO1,-⟩;have HO:=zh (zi hO1.below hO1.obj);rw[HW.out] at HO;clear hO1 HV;go_wp2;exact hR.out _ _ ⟨_,rfl,HO.out⟩
theorem MB (v:Vl):(wkV v).b = !tf (SndV v):=by unfold wkV SndV;rw[MF];rfl
noncomputable def depV (v:Vl):Int:=if tf (SndV v) then (dep 16 v:Int) else 0
noncomputable def sizV (v:Vl):Int:=if tf (SndV v) then (vcnt 16 v:Int) else 0
theorem Oj {v:Vl} (h:SndV v):(wkV v).d=dep 16 v:=by
 have:=(Dn 16 1 v ⟨0,0,false⟩ (Nat.le_refl _) h).2;unfold wkV;rw[this];show max (0:Int) _=_;omega
theorem Oi {v:Vl} (h:SndV v):(wkV v).n=vcnt 16 v:=by
 have:=(Dn 16 1 v ⟨0,0,false⟩ (Nat.le_refl _) h).1;unfold wkV;rw[this];show (0:Int)+_=_;omega
theorem lL (v:Vl) (x:Sl) (m:Mem) (n:Nat) (w:World) (hm:m.inn w) (htab:TabM m) (hv:VAt m n x v) (hf:FewV n v) (hct:vcnt n v≤1048576) :
 Calls Tryz.prog 47 #[v.val x] w fun e w'=>e=.returned (.bool (tf (SndV v)))∧Below w.heap.size w w':=by
 have hO:=(Own.start hm).al (nine v x).toArray 33;have HW:=zh (ng v x m n _ hO.inn htab hv hf hct);have HN:=zh hO.obj.all;have hN:(nine v x).length=9:=rfl;have HB:=zh (MB v);have HO:=zh hO;have gl:=hO.obj.lt;unfold Vl.val;unfold Vl.val at HW;generalize nine v x=N at *
 generalize wkV v=k at *
 clear hO hv hf;refine av fun R hR=>?_
 go_enter Tryz.func47,Tryz.ntmps47
 go_wp2_with (refine ae tyV rfl (.tmp 1) rfl rfl N hN HN.out ?_)
 refine HW.out.mono ?_;rintro e w1 ⟨g,rfl,hb1,hob⟩;have c2:=hob.cell (i:=2) (v:=.bool k.b) rfl;have gl2:=hob.lt;have HF:=zh (HO.out.move hb1).below;have HB2:=zh (show tf (SndV v) = !k.b by rw[HB.out,Bool.not_not]);clear HO hb1 hob HW HN HB;generalize tf (SndV v)=ts at *
 go_wp2;exact hR.out _ _ ⟨by rw[HB2.out] <;> rfl,HF.out⟩
theorem kM (d:Vd) (x y:Sl) (m:Mem) (n:Nat) (w:World) (hm:m.inn w) (htab:TabM m) (h1:VAt m n x d.1) (h2:VAt m n y d.2) (f1:FewV n d.1) (f2:FewV n d.2) (t1:vcnt n d.1≤1048576) (t2:vcnt n d.2≤1048576) :
 Calls Tryz.prog 18 #[cZ d x y] w fun e w'=>e=.returned (.bool (tf (SndV d.1)&&tf (SndV d.2)))∧Below w.heap.size w w':=by
 have hO:=(Own.start hm).al (dcs d x y).toArray 35;have HC:=zh (lL d.1 x m n _ hO.inn htab h1 f1 t1);have HF:=zh (fun w' (h:m.inn w')=>lL d.2 y m n w' h htab h2 f2 t2);have hN:(nine d.1 x).length=9:=rfl;have hN2:(nine d.2 y).length=9:=rfl;have HD:=zh (zi (fun j u=>@lw d x y j u) (fun j u=>@lu d x y j u));have HO:=zh hO;unfold Vl.val cZ at *
 generalize nine d.1 x=N at *
 generalize nine d.2 y=N2 at *
 generalize dcs d x y=D at *
 clear hO h1 h2 f1 f2;have q0:=HO.out.obj.sub (o:=0) (cs:=N) fun j u hj=>by simpa using HD.out.1 j u hj
 generalize tf (SndV d.1)=s1 at *
 generalize tf (SndV d.2)=s2 at *
 refine av fun R hR=>?_
 go_enter Tryz.func18,Tryz.ntmps18
 go_wp2_with (refine ae tyV rfl (.tmp 3) rfl rfl N hN q0 ?_)
 refine HC.out.mono ?_;rintro e w1 ⟨rfl,hb1⟩;have HO1:=zh (HO.out.move hb1);have HF1:=zh (HF.out w1 HO1.out.inn);have q1:=HO1.out.obj.sub (o:=9) (cs:=N2) fun j u hj=>by simpa using HD.out.2 j u hj
 clear HO HC HF hb1 q0;cases s1
 ·have HB:=zh HO1.out.below;clear HO1 HF1 q1;go_wp2;exact hR.out _ _ ⟨rfl,HB.out⟩
 ·go_wp2_with (refine ae tyV rfl (.tmp 7) rfl rfl N2 hN2 q1 ?_)
  refine HF1.out.mono ?_;rintro e w2 ⟨rfl,hb2⟩;have HB:=zh (HO1.out.move hb2).below;clear HO1 HF1 hb2 q1;go_wp2;exact hR.out _ _ ⟨rfl,HB.out⟩
theorem qw (v:Vl) (x:Sl) (m:Mem) (n:Nat) (w:World) (hm:m.inn w) (htab:TabM m) (hv:VAt m n x v) (hf:FewV n v) (hct:vcnt n v≤1048576) :
 Calls Tryz.prog 21 #[v.val x] w fun e w'=>e=.returned (.int .i64 (depV v))∧Below w.heap.size w w':=by
 have hO:=(Own.start hm).al (nine v x).toArray 33;have HW:=zh (ng v x m n _ hO.inn htab hv hf hct);have HN:=zh hO.obj.all;have hN:(nine v x).length=9:=rfl;have HB:=zh (MB v);have HS:=zh (fun h:SndV v=>(Oj h));have HD:=zh (show depV v=_ from rfl);have HO:=zh hO;have gl:=hO.obj.lt;unfold Vl.val;unfold Vl.val at HW;generalize nine v x=N at *
 generalize wkV v=k at *
 clear hO hv hf;refine av fun R hR=>?_
 go_enter Tryz.func21,Tryz.ntmps21
 go_wp2_with (refine ae tyV rfl (.tmp 1) rfl rfl N hN HN.out ?_)
 refine HW.out.mono ?_;rintro e w1 ⟨g,rfl,hb1,hob⟩;have c2:=hob.cell (i:=2) (v:=.bool k.b) rfl;have c1:=hob.cell (i:=1) (v:=.int .i64 k.d) rfl;have gl2:=hob.lt;have HF:=zh (HO.out.move hb1).below;clear HO hb1 hob HW HN;by_cases hs:SndV v
 ·have hk:k.b=false:=by rw[HB.out,aH hs];rfl
  have HE:=zh (show depV v=k.d by rw[HS.out hs];unfold depV;rw[if_pos (aH hs)]);rw[hk] at c2;clear HB HS HD hs hk;go_wp2;exact hR.out _ _ ⟨by rw[HE.out] <;> rfl,HF.out⟩
 ·have hk:k.b=true:=by rw[HB.out,az hs];rfl
  have HE:=zh (show depV v=0 by unfold depV;rw[if_neg (by rw[az hs];simp)]);rw[hk] at c2;clear HB HS HD hs hk;go_wp2;exact hR.out _ _ ⟨by rw[HE.out] <;> rfl,HF.out⟩
theorem rJ (v:Vl) (x:Sl) (m:Mem) (n:Nat) (w:World) (hm:m.inn w) (htab:TabM m) (hv:VAt m n x v) (hf:FewV n v) (hct:vcnt n v≤1048576) :
 Calls Tryz.prog 23 #[v.val x] w fun e w'=>e=.returned (.int .i64 (sizV v))∧Below w.heap.size w w':=by
 have hO:=(Own.start hm).al (nine v x).toArray 33;have HW:=zh (ng v x m n _ hO.inn htab hv hf hct);have HN:=zh hO.obj.all;have hN:(nine v x).length=9:=rfl;have HB:=zh (MB v);have HS:=zh (fun h:SndV v=>(Oi h));have HD:=zh (show sizV v=_ from rfl);have HO:=zh hO;have gl:=hO.obj.lt;unfold Vl.val;unfold Vl.val at HW;generalize nine v x=N at *
 generalize wkV v=k at *
 clear hO hv hf;refine av fun R hR=>?_
 go_enter Tryz.func23,Tryz.ntmps23
 go_wp2_with (refine ae tyV rfl (.tmp 1) rfl rfl N hN HN.out ?_)
 refine HW.out.mono ?_;rintro e w1 ⟨g,rfl,hb1,hob⟩;have c2:=hob.cell (i:=2) (v:=.bool k.b) rfl;have c1:=hob.cell (i:=0) (v:=.int .i64 k.n) rfl;have gl2:=hob.lt;have HF:=zh (HO.out.move hb1).below;clear HO hb1 hob HW HN;by_cases hs:SndV v
 ·have hk:k.b=false:=by rw[HB.out,aH hs];rfl
  have HE:=zh (show sizV v=k.n by rw[HS.out hs];unfold sizV;rw[if_pos (aH hs)]);rw[hk] at c2;clear HB HS HD hs hk;go_wp2;exact hR.out _ _ ⟨by rw[HE.out] <;> rfl,HF.out⟩
 ·have hk:k.b=true:=by rw[HB.out,az hs];rfl
  have HE:=zh (show sizV v=0 by unfold sizV;rw[if_neg (by rw[az hs];simp)]);rw[hk] at c2;clear HB HS HD hs hk;go_wp2;exact hR.out _ _ ⟨by rw[HE.out] <;> rfl,HF.out⟩
theorem oV.exec {P:Program} {t:TypeId} {n:Nat} (S:oV P t n) {w:World} {o:Oper} {ev:Operand→Value} {p:Operand} (hop:o.op=Op.load t p) {b off:Nat} (hp:ev p=.pointer (some ⟨b,off,none⟩)) {cs:List Value} (hl:cs.length=n) (hc:∀j u,cs[j]?=some u→w.cell? ⟨b,off+j,none⟩=some u) :
 (execOp ev o).run P w=.ok (.value (.agg cs.toArray)) w:=by
 simp[execOp,hop,hp,Instr.loadAt,Instr.sureAddr,S.load hl hc,Result.andThen]
def OD (m:Mem) (v:Value) (fs:List (Nat × Array Value)):Prop:=Mem.mF (fun b o f=>m.cell b o=some (.func (.func f.1) #[] f.2)) v fs
structure OC (m:Mem) (fs:List (Nat × Array Value)) (rs:List Int):Prop where
 ent:∀i (h:i<fs.length),∀args w,(callFunc (fs[i]).1 args).run Tryz.prog w=.ok (.enter (fs[i]).1 args) w
 run:∀i (h:i<fs.length) (h2:i<rs.length) (w:World),m.inn w→Calls Tryz.prog (fs[i]).1 (fs[i]).2 w fun e w'=>e=.returned (.int .i64 rs[i])∧Below w.heap.size w w'
 le:rs.length≤fs.length
 rest:rs.length<fs.length→∃i,∃h:i<rs.length,rs[i]≠0
theorem yI (v:Value) (fs:List (Nat × Array Value)) (rs:List Int) (m:Mem) (w:World) (hm:m.inn w) (hf:OD m v fs) (hok:OC m fs rs) :
 Calls Tryz.prog 71 #[v] w fun e w'=>e=.returned (.int .i64 (ll rs))∧Below w.heap.size w w':=by
 obtain⟨a,c,rfl,p1,q1,k1⟩:=hf;unfold maxLen at q1;have HK:=zh k1;have HO:=zh (Own.start hm);have HF:=zh hok;clear k1 hok;refine av fun R hR=>?_
 go_enter Tryz.func71,Tryz.ntmps71
 go_wp2;refine au [6,7,8] (fun q vs wr=>∃(i:Nat),i≤fs.length∧q=fs.length - i∧vs=[.slice a fs.length c,.int .i64 (fs.length:Int),.int .i64 (i:Int)]∧(∀j (h:j<rs.length),j<i→rs[j]=0)∧(i<fs.length→i<rs.length)∧ll rs=ll (rs.drop i)∧Own w m wr m []) ?_ ?_
 ·refine ⟨_,0,Nat.zero_le _,rfl,rfl,fun j _ h=>absurd h (Nat.not_lt_zero _),fun h=>?_,rfl,HO.out⟩;by_cases e:rs.length<fs.length
  ·obtain⟨i,hi,-⟩:=HF.out.rest e;omega
  ·omega
 clear HO;rintro X z q vs wr hX - ⟨i,hi,rfl,rfl,hA,hB,hC,hO⟩;simp[litL,lk];have HA:=zh (zi hA (zi hB hC));clear hA hB hC;by_cases hlt:i<fs.length
 case neg=>
  have HR:=zh (show ll rs=0 by
   rw[HA.out.2.2,List.drop_eq_nil_of_le (by have:=HF.out.le;omega)];rfl)
  have HB:=zh hO.below;clear hO hX;go_wp2;exact hR.out _ _ ⟨by rw[HR.out] <;> rfl,HB.out⟩
 have hrl:=HA.out.2.1 hlt;obtain⟨b,off,rfl,h4⟩:=HK.out (by intro h;simp[h] at hlt);have x1:=Mem.aj hO.inn (h4 i hlt);have xl:=Mem.ay hO.inn (h4 i hlt);have HRN:=zh (HF.out.run i hlt hrl wr hO.inn);have eg:=HF.out.ent i hlt;have HFD:=zh (CE rs hrl);have HNX:=zh (show rs[i]=0→(∀j (h:j<rs.length),j<i+1→rs[j]=0)∧(i+1<fs.length→i+1<rs.length)∧ll rs=ll (rs.drop (i+1)) from fun h=>by
  have h1:∀j (h:j<rs.length),j<i+1→rs[j]=0:=fun j hj h2=>by
   by_cases e:j=i
   ·subst e;exact h
   ·exact HA.out.1 j hj zo
  refine ⟨h1,fun h2=>?_,?_⟩
  ·by_cases e:rs.length<fs.length
   ·obtain⟨k,hk,hz⟩:=HF.out.rest e;have:¬ k<i+1:=fun h3=>hz (h1 k hk h3);omega
   ·omega
  ·rw[HA.out.2.2,HFD.out,h];rfl)
 have HNE:=zh (show rs[i]≠0→ll rs=rs[i] from fun h=>by
  rw[HA.out.2.2,HFD.out,orI,if_neg h])
 have HO:=zh hO;generalize rs[i]=r at *
 generalize (fs[i]).1=f at *
 generalize (fs[i]).2=caps at *
 clear hO h4
 go_wp2_with fail
 refine HRN.out.mono ?_;rintro e w1 ⟨rfl,hb1⟩;have HO1:=zh (HO.out.move hb1);clear HO HRN hb1 eg;by_cases hr:r=0
 ·subst hr;have HN:=zh (HNX.out rfl);clear HNX HNE;go_wp2;exact hX.out _ _ _ zo rfl ⟨i+1,zo,rfl,rfl,HN.out.1,HN.out.2.1,HN.out.2.2,HO1.out⟩
 ·have hd:(r != 0)=true:=bne_iff_ne.2 hr;have HN:=zh (HNE.out hr);clear HNX HNE hr hX;go_wp2;exact hR.out _ _ ⟨by rw[HN.out] <;> rfl,HO1.out.below⟩
theorem kg {w0 w:World} {m mk:Mem} {L:List Item} (t:TypeId) (arr:Array Value) (h:Own w0 m w mk L):∃mk',mk.le mk'∧(∀i u,arr[i]?=some u→mk'.cell w.heap.size i=some u)∧Own w0 m (w.alloc (.cells arr t)) mk' L:=
 have hO:=h.al arr t
 ⟨_,Mem.kC hO.jr,fun _ _ hi=>Mem.dR hO.obj hi,hO.jm⟩
theorem CU:∀args w,(callFunc 72 args).run Tryz.prog w=.ok (.enter 72 args) w:=enters_of Tryz.func72 zk rfl
theorem CS:∀args w,(callFunc 74 args).run Tryz.prog w=.ok (.enter 74 args) w:=enters_of Tryz.func74 zk rfl
theorem CR:∀args w,(callFunc 76 args).run Tryz.prog w=.ok (.enter 76 args) w:=enters_of Tryz.func76 zk rfl
theorem CQ:∀args w,(callFunc 79 args).run Tryz.prog w=.ok (.enter 79 args) w:=enters_of Tryz.func79 zk rfl
theorem Bv (g1 g2:Nat) (a b:Bool) (m:Mem) (w:World) (hm:m.inn w) (h1:m.cell g1 0=some (.bool a)) (h2:m.cell g2 0=some (.bool b)) :
 Calls Tryz.prog 72 #[.pointer (some ⟨g1,0,none⟩),.pointer (some ⟨g2,0,none⟩)] w fun e w'=>e=.returned (.int .i64 (xL a b))∧Below w.heap.size w w':=by
 have x1:=Mem.aj hm h1;have x2:=Mem.aj hm h2;have l1:=Mem.ay hm h1;have l2:=Mem.ay hm h2;have HF:=zh (Bu a b w);refine av fun R hR=>?_
 go_enter Tryz.func72,Tryz.ntmps72
 go_wp2_with (go_at_call 73;refine HF.out.mono ?_;rintro e w1 ⟨rfl,hb1⟩)
 exact hR.out _ _ ⟨rfl,hb1⟩
abbrev Et (g1 g2:Nat):List (Nat × Array Value):=[(72,#[.pointer (some ⟨g1,0,none⟩),.pointer (some ⟨g2,0,none⟩)]),(74,#[.pointer (some ⟨g1,0,none⟩),.pointer (some ⟨g2,0,none⟩)]),(76,#[.pointer (some ⟨g1,0,none⟩),.pointer (some ⟨g2,0,none⟩)]),(79,#[.pointer (some ⟨g1,0,none⟩),.pointer (some ⟨g2,0,none⟩)])]
theorem GH (g1 g2:Nat):∀i (h:i<(Et g1 g2).length),∀args w,(callFunc ((Et g1 g2)[i]).1 args).run Tryz.prog w=.ok (.enter ((Et g1 g2)[i]).1 args) w:=fun i h=>by
 match i,h with
 | 0,_=>exact CU
 | 1,_=>exact CS
 | 2,_=>exact CR
 | 3,_=>exact CQ
theorem qN (v v':Vl) (s s':Sl) (m:Mem) (w:World) (hm:m.inn w) (hne:v.any≠v'.any) :
 Calls Tryz.prog 53 #[v.val s,v'.val s'] w fun e w'=>e=.returned (.int .i64 (xL v.any v'.any))∧Below w.heap.size w w':=by
 obtain⟨m1,l1,c1,hO1⟩:=kg 33 (nine v s).toArray (Own.start hm);obtain⟨m2,l2,c2,hO2⟩:=kg 33 (nine v' s').toArray hO1;obtain⟨m3,l3,c3,hO3⟩:=kg 96 #[.func (.func 72) #[] #[.pointer (some ⟨w.heap.size,0,none⟩),.pointer (some ⟨w.heap.size+1,0,none⟩)],.func (.func 74) #[] #[.pointer (some ⟨w.heap.size,0,none⟩),.pointer (some ⟨w.heap.size+1,0,none⟩)],.func (.func 76) #[] #[.pointer (some ⟨w.heap.size,0,none⟩),.pointer (some ⟨w.heap.size+1,0,none⟩)],.func (.func 79) #[] #[.pointer (some ⟨w.heap.size,0,none⟩),.pointer (some ⟨w.heap.size+1,0,none⟩)]] hO2;simp only[cz] at c2 c3;have hc1:=Mem.aA (Mem.le_trans l2 l3) (c1 0 (.bool v.any) rfl);have hc2:=Mem.aA l3 (c2 0 (.bool v'.any) rfl);have hfl:xL v.any v'.any≠0:=by
  cases h1:v.any <;> cases h2:v'.any <;> simp[h1,h2] at hne <;> simp[xL]
 have HF:=zh (yI (.slice (some ⟨w.heap.size+1+1,0,none⟩) 4 4) (Et w.heap.size (w.heap.size+1)) [xL v.any v'.any] m3 _ hO3.inn
  ⟨some ⟨w.heap.size+1+1,0,none⟩,4,rfl,zS,by simp[maxLen],fun _=>⟨_,0,rfl,fun i h=>by
   rw[Nat.zero_add]
   match i,h with
   | 0,_=>exact c3 0 _ rfl
   | 1,_=>exact c3 1 _ rfl
   | 2,_=>exact c3 2 _ rfl
   | 3,_=>exact c3 3 _ rfl⟩⟩
  ⟨GH _ _,fun i h h2 w' hm'=>by
   match i,h2 with
   | 0,_=>exact Bv _ _ v.any v'.any m3 w' hm' hc1 hc2,zS,fun _=>⟨0,zS,hfl⟩⟩)
 have HE:=zh (show ll [xL v.any v'.any]=xL v.any v'.any by simp[ll,orI,hfl]);have HO:=zh hO3;unfold Vl.val;clear hO1 hO2 hO3 c1 c2 c3 hc1 hc2 l1 l2 l3 hne hfl;generalize (nine v s).toArray=N at *
 generalize (nine v' s').toArray=N' at *
 refine av fun R hR=>?_
 go_enter Tryz.func53,Tryz.ntmps53
 go_wp2_with (go_at_call 71;refine HF.out.mono ?_;rintro e w1 ⟨rfl,hb1⟩)
 exact hR.out _ _ ⟨by rw[HE.out] <;> rfl,(HO.out.move hb1).below⟩
theorem rQ (v v':Vl) (s s':Sl) (m:Mem) (n:Nat) (w:World) (hm:m.inn w) (htab:TabM m) (hv:VAt m n s v) (hv':VAt m n s' v') (f1:FewV n v) (f2:FewV n v') (t1:vcnt n v≤1048576) (t2:vcnt n v'≤1048576) (s1:SndV v) (s2:SndV v') (hne:v.any≠v'.any) :
 Calls Tryz.prog 25 #[v.val s,v'.val s'] w fun e w'=>e=.returned (.int .i64 (xL v.any v'.any))∧Below w.heap.size w w':=by
 have hO:=((Own.start hm).al (nine v s).toArray 33).al (nine v' s').toArray 33;simp only[cz] at hO;have h1:=lL v s m n _ hO.inn htab hv f1 t1;rw[aH s1] at h1;have H1:=zh h1;have H2:=zh (show ∀w',m.inn w'→_ from fun w' (h:m.inn w')=>by have:=lL v' s' m n w' h htab hv' f2 t2;rw[aH s2] at this;exact this);have H3:=zh (fun w' (h:m.inn w')=>qN v v' s s' m w' h hne);have HO:=zh hO;have hN:(nine v s).length=9:=rfl;have hN':(nine v' s').length=9:=rfl;have q0:=hO.swap.obj.all;unfold Vl.val at *
 clear hO h1 hv hv' f1 f2 hne s1 s2;generalize nine v s=N at *
 generalize nine v' s'=N' at *
 refine av fun R hR=>?_
 go_enter Tryz.func25,Tryz.ntmps25
 go_wp2_with (first
  | (go_at_call 47;first
   | (refine (H2.out _ hO1.inn).mono ?_;rintro e w2 ⟨rfl,hb2⟩;have hO2:=hO1.move hb2;have q2:=hO2.swap.obj.all;have q3:=hO2.obj.all)
   | (refine H1.out.mono ?_;rintro e w1 ⟨rfl,hb1⟩;have hO1:=HO.out.move hb1;have q1:=hO1.obj.all))
  | refine ae tyV rfl (.tmp 2) rfl rfl N hN q2 ?_
  | refine ae tyV rfl (.tmp 3) rfl rfl N' hN' q3 ?_
  | refine ae tyV rfl (.tmp 3) rfl rfl N' hN' q1 ?_
  | refine ae tyV rfl (.tmp 2) rfl rfl N hN q0 ?_
  | (go_at_call 53;refine (H3.out _ hO2.inn).mono ?_;rintro e w3 ⟨rfl,hb3⟩))
 exact hR.out _ _ ⟨rfl,(hO2.move hb3).below⟩
theorem r9 (vi vf vt ui uf ut:Value) (a b:RS) (m:Mem) (w:World) (hm:m.inn w) (ha:ScAt m vi vf vt a) (hb:ScAt m ui uf ut b) :
 Calls Tryz.prog 133 #[a.val vi vf vt,b.val ui uf ut] w fun e w'=>e=.returned (.bool (tf (a=b)))∧Below w.heap.size w w':=by
 have hO:=((Own.start hm).al #[.bool a.nul,.bool a.fal,.bool a.tru,vi,vf,vt] 29).al #[.bool b.nul,.bool b.fal,.bool b.tru,ui,uf,ut] 29;simp only[cz] at hO;have HI:=zh (fun w' (h:m.inn w')=>gM _ _ a.i b.i m w' h ha.i hb.i);have HF:=zh (fun w' (h:m.inn w')=>gM _ _ a.f b.f m w' h ha.f hb.f);have HT:=zh (fun w' (h:m.inn w')=>pY _ _ a.t b.t m w' h ha.t hb.t);have HE:=zh (RS.eq_iff a b);obtain⟨a1,b1,a2,b2,a3,b3,rfl,rfl,rfl⟩:=ha.spell;obtain⟨c1,d1,c2,d2,c3,d3,rfl,rfl,rfl⟩:=hb.spell;unfold RS.val;have HO:=zh hO;clear hO ha hb;refine av fun R hR=>?_;by_cases h1:a.nul=b.nul
 case neg=>
  have HE3:=zh (show ¬ a=b from fun h=>h1 (HE.out.1 h).1);have HB:=zh HO.out.below;have e1:(a.nul==b.nul)=false:=by simp[h1]
  clear h1 HE HO
  go_enter Tryz.func133,Tryz.ntmps133
  go_wp2;exact hR.out _ _ ⟨aJ (by rw[az HE3.out]),HB.out⟩
 have e1:(a.nul==b.nul)=true:=by simp[h1]
 by_cases h2:a.fal=b.fal
 case neg=>
  have HE3:=zh (show ¬ a=b from fun h=>h2 (HE.out.1 h).2.1);have HB:=zh HO.out.below;have e2:(a.fal==b.fal)=false:=by simp[h2]
  clear h1 h2 HE HO
  go_enter Tryz.func133,Tryz.ntmps133
  go_wp2;exact hR.out _ _ ⟨aJ (by rw[az HE3.out]),HB.out⟩
 have e2:(a.fal==b.fal)=true:=by simp[h2]
 by_cases h3:a.tru=b.tru
 case neg=>
  have HE3:=zh (show ¬ a=b from fun h=>h3 (HE.out.1 h).2.2.1);have HB:=zh HO.out.below;have e3:(a.tru==b.tru)=false:=by simp[h3]
  clear h1 h2 h3 HE HO
  go_enter Tryz.func133,Tryz.ntmps133
  go_wp2;exact hR.out _ _ ⟨aJ (by rw[az HE3.out]),HB.out⟩
 have e3:(a.tru==b.tru)=true:=by simp[h3]
 have HE2:=zh (show a=b↔(a.i=b.i∧a.f=b.f)∧a.t=b.t from HE.out.trans ⟨fun h=>h.2.2.2,fun h=>⟨h1,h2,h3,h⟩⟩);clear h1 h2 h3 HE;generalize a.nul=an at *
 generalize b.nul=bn at *
 generalize a.fal=af at *
 generalize b.fal=bf at *
 generalize a.tru=at' at *
 generalize b.tru=bt at *
 go_enter Tryz.func133,Tryz.ntmps133
 go_wp2_with fail
 refine (HI.out _ HO.out.inn).mono ?_;rintro e w1 ⟨rfl,hb1⟩;have hO:=HO.out.move hb1;clear HI HO hb1;by_cases h4:a.i=b.i
 case neg=>
  rw[az h4];have HB:=zh hO.below;have HE3:=zh (show ¬ a=b from fun h=>h4 (HE2.out.1 h).1.1);clear hO HE2 h4 HT HF;go_wp2;exact hR.out _ _ ⟨aJ (by rw[az HE3.out]),HB.out⟩
 rw[aH h4];have q4:=hO.obj.cell (i:=4) rfl;have q6:=hO.obj.lt;have p4:=hO.swap.obj.cell (i:=4) rfl;have p6:=hO.swap.obj.lt;have HO:=zh hO;have HE3:=zh (show a=b↔a.f=b.f∧a.t=b.t from HE2.out.trans ⟨fun h=>⟨h.1.2,h.2⟩,fun h=>⟨⟨h4,h.1⟩,h.2⟩⟩);clear hO HE2 h4
 go_wp2_with fail
 refine (HF.out _ HO.out.inn).mono ?_;rintro e w2 ⟨rfl,hb2⟩;have hO:=HO.out.move hb2;clear HF HO hb2 q4 q6 p4 p6;by_cases h5:a.f=b.f
 case neg=>
  rw[az h5];have HB:=zh hO.below;have HE4:=zh (show ¬ a=b from fun h=>h5 (HE3.out.1 h).1);clear hO HE3 h5 HT;go_wp2;exact hR.out _ _ ⟨aJ (by rw[az HE4.out]),HB.out⟩
 rw[aH h5];have q5:=hO.obj.cell (i:=5) rfl;have q6:=hO.obj.lt;have p5:=hO.swap.obj.cell (i:=5) rfl;have p6:=hO.swap.obj.lt;have HO:=zh hO;have HE4:=zh (show a=b↔a.t=b.t from HE3.out.trans ⟨fun h=>h.2,fun h=>⟨h5,h⟩⟩);clear hO HE3 h5
 go_wp2_with fail
 refine (HT.out _ HO.out.inn).mono ?_;rintro e w3 ⟨rfl,hb3⟩;have HB:=zh (HO.out.move hb3).below;clear HO HT hb3 q5 q6 p5 p6;generalize hc:tf (a.t=b.t)=tc at *
 have HC:=zh (show tc=tf (a=b) by rw[← hc];exact (bg HE4.out).symm);clear hc;go_wp2;exact hR.out _ _ ⟨aJ (by rw[← HC.out]),HB.out⟩
theorem Ny {α:Type} (A:Nat→Nat→α→Prop) (Rp:List Value→α→Prop) (v v':Value) (l l':List α) (m:Mem) (w:World) (hm:m.inn w)
 (hA:∀b o x,A b o x→∃cs:List Value,cs.length=18∧(∀j u,cs[j]?=some u→m.cell b (o+j)=some u)∧(∀u∈cs,u.oneCell'=true)∧Rp cs x)
 (hc:∀cs cs' x x' w',m.inn w'→Rp cs x→Rp cs' x'→Calls Tryz.prog 55 #[.agg cs.toArray,.agg cs'.toArray] w' fun e w''=>e=.returned (.bool (tf (x=x')))∧Below w'.heap.size w' w'')
 (hl:Mem.slice A 18 v l) (hl':Mem.slice A 18 v' l') :
 Calls Tryz.prog 134 #[v,v',.func (.func 55) #[] #[]] w fun e w'=>e=.returned (.bool (tf (l=l')))∧Below w.heap.size w w':=by
 obtain⟨a,c,rfl,h1,h2,h3⟩:=hl;obtain⟨a',c',rfl,h1',h2',h3'⟩:=hl';unfold maxLen at h2 h2';have HK:=zh (zi h3 h3');have HA:=zh (zi hA hc);have HO:=zh (Own.start hm);clear h3 h3' hA hc;refine av fun R hR=>?_;by_cases hlen:l.length=l'.length
 case neg=>
  have hne:((l.length:Int) != (l'.length:Int))=true:=by simp;omega
  have HL:=zh (show ¬ l=l' from fun h=>hlen (by rw[h]));clear hlen
  go_enter Tryz.func134,Tryz.ntmps134
  go_wp2;exact hR.out _ _ ⟨aJ (by rw[az HL.out]),HO.out.below⟩
 have hne:((l.length:Int) != (l'.length:Int))=false:=by simp[hlen]
 have Hlen:=zh hlen;clear hlen
 go_enter Tryz.func134,Tryz.ntmps134
 go_wp2;refine au [0,1,2,15,16,17] (fun n vs wr=>∃k:Nat,k≤l.length∧n=l.length - k∧vs=[.slice a l.length c,.slice a' l'.length c',.func (.func 55) #[] #[],.slice a l.length c,.int .i64 l.length,.int .i64 k]∧(l=l'↔l.drop k=l'.drop k)∧Own w m wr m []) ?_ ?_
 ·exact⟨_,0,Nat.zero_le _,rfl,rfl,Iff.rfl,HO.out⟩
 clear HO;rintro X z n vs wr hX - ⟨k,hk,rfl,rfl,hrel,hO⟩;have Hrel:=zh hrel;clear hrel;simp[litL,lk];by_cases hlt:k<l.length
 case neg=>
  have HL:=zh (show l=l' from Hrel.out.2 (by rw[List.drop_eq_nil_of_le zo,List.drop_eq_nil_of_le (by rw[← Hlen.out];omega)]));have HB:=zh hO.below;clear hO hX;go_wp2;exact hR.out _ _ ⟨aJ (by rw[aH HL.out]),HB.out⟩
 have hlt':k<l'.length:=by rw[← Hlen.out];exact hlt
 obtain⟨b,off,rfl,h4⟩:=HK.out.1 (by intro h;simp[h] at hlt);obtain⟨b',off',rfl,h4'⟩:=HK.out.2 (by intro h;simp[h] at hlt');obtain⟨cs,hl1,hc1,ho1,hr1⟩:=HA.out.1 _ _ _ (h4 k hlt);obtain⟨cs',hl2,hc2,ho2,hr2⟩:=HA.out.1 _ _ _ (h4' k hlt');have HD:=zh (eU l l' k hlt hlt');have HC:=zh (fun w' (h:m.inn w')=>HA.out.2 cs cs' l[k] l'[k] w' h hr1 hr2);have hO1:=hO.al zcD 35;have HC1:=zh (fun (w':World) (h:m.inn w') j u hj=>Mem.aj h (hc1 j u hj));have HC2:=zh (fun (w':World) (h:m.inn w') j u hj=>Mem.aj h (hc2 j u hj));have hx1:=hc1 0 (cs[0]'zo) (List.getElem?_eq_getElem _);have hx2:=hc2 0 (cs'[0]'zo) (List.getElem?_eq_getElem _);have xl1:=Mem.ay hO.inn hx1;have xl2:=Mem.ay hO.inn hx2;have H1:=zh (zi ho1 ho2);have hin:=hO.inn;have HO:=zh hO1;clear hO hO1 h4 h4' hc1 hc2 ho1 ho2 hr1 hr2 hx1 hx2;generalize l[k]=x at *
 generalize l'[k]=x' at *
 by_cases he:x=x'
 ·have HC3:=zh (show ∀w',m.inn w'→_ from fun w' h=>by have:=HC.out w' h;rw[aH he] at this;exact this);have HL:=zh (Hrel.out.trans (HD.out.trans ⟨fun h=>h.2,fun h=>⟨he,h⟩⟩));clear HC HD Hrel he
  go_wp2_with (first
   | refine ae tyD rfl (.tmp 20) rfl rfl cs hl1 (HC1.out _ hin) ?_
   | (refine aI tyD rfl (.tmp 8) (.tmp 21) rfl (cs:=cs.toArray) rfl rfl rfl (by simpa using hl1) (fun u hu=>H1.out.1 u (by simpa using hu)) HO.out.obj ?_;intro w1 ob1 hg1;have hO2:=(HO.out.setObj ob1 hg1).al zcD 35;have xl3:=hO2.swap.obj.lt;have hin2:=hO2.tail.inn)
   | refine ae tyD rfl (.tmp 24) rfl rfl cs' hl2 (HC2.out _ (HO.out.setObj ob1 hg1).inn) ?_
   | (refine aI tyD rfl (.tmp 9) (.tmp 25) rfl (cs:=cs'.toArray) rfl rfl rfl (by simpa using hl2) (fun u hu=>H1.out.2 u (by simpa using hu)) hO2.obj ?_;intro w2 ob2 hg2;have hO3:=hO2.setObj ob2 hg2;have y1:=hO3.swap.obj.all;have y2:=hO3.obj.all)
   | refine ae tyD rfl (.tmp 8) rfl rfl cs hl1 y1 ?_
   | refine ae tyD rfl (.tmp 9) rfl rfl cs' hl2 y2 ?_
   | (go_at_call 55;refine (HC3.out _ hO3.inn).mono ?_;rintro e w3 ⟨rfl,hb3⟩))
  exact hX.out _ _ _ zo rfl ⟨k+1,zo,rfl,rfl,HL.out,(hO3.move hb3).tail.tail⟩
 ·have HC3:=zh (show ∀w',m.inn w'→_ from fun w' h=>by have:=HC.out w' h;rw[az he] at this;exact this);have HL:=zh (show ¬ l=l' from fun h=>he (HD.out.1 (Hrel.out.1 h)).1);clear HC HD Hrel he hX
  go_wp2_with (first
   | refine ae tyD rfl (.tmp 20) rfl rfl cs hl1 (HC1.out _ hin) ?_
   | (refine aI tyD rfl (.tmp 8) (.tmp 21) rfl (cs:=cs.toArray) rfl rfl rfl (by simpa using hl1) (fun u hu=>H1.out.1 u (by simpa using hu)) HO.out.obj ?_;intro w1 ob1 hg1;have hO2:=(HO.out.setObj ob1 hg1).al zcD 35;have xl3:=hO2.swap.obj.lt;have hin2:=hO2.tail.inn)
   | refine ae tyD rfl (.tmp 24) rfl rfl cs' hl2 (HC2.out _ (HO.out.setObj ob1 hg1).inn) ?_
   | (refine aI tyD rfl (.tmp 9) (.tmp 25) rfl (cs:=cs'.toArray) rfl rfl rfl (by simpa using hl2) (fun u hu=>H1.out.2 u (by simpa using hu)) hO2.obj ?_;intro w2 ob2 hg2;have hO3:=hO2.setObj ob2 hg2;have y1:=hO3.swap.obj.all;have y2:=hO3.obj.all)
   | refine ae tyD rfl (.tmp 8) rfl rfl cs hl1 y1 ?_
   | refine ae tyD rfl (.tmp 9) rfl rfl cs' hl2 y2 ?_
   | (go_at_call 55;refine (HC3.out _ hO3.inn).mono ?_;rintro e w3 ⟨rfl,hb3⟩))
  exact hR.out _ _ ⟨aJ (by rw[az HL.out]),(hO3.move hb3).below⟩
theorem NA {α:Type} (A:Nat→Nat→α→Prop) (Rp:List Value→α→Prop) (v v':Value) (l l':List α) (m:Mem) (w:World) (hm:m.inn w)
 (hA:∀b o x,A b o x→∃cs:List Value,cs.length=20∧(∀j u,cs[j]?=some u→m.cell b (o+j)=some u)∧(∀u∈cs,u.oneCell'=true)∧Rp cs x)
 (hc:∀cs cs' x x' w',m.inn w'→Rp cs x→Rp cs' x'→Calls Tryz.prog 178 #[.agg cs.toArray,.agg cs'.toArray] w' fun e w''=>e=.returned (.bool (tf (x=x')))∧Below w'.heap.size w' w'')
 (hl:Mem.slice A 20 v l) (hl':Mem.slice A 20 v' l') :
 Calls Tryz.prog 177 #[v,v',.func (.func 178) #[] #[]] w fun e w'=>e=.returned (.bool (tf (l=l')))∧Below w.heap.size w w':=by
 obtain⟨a,c,rfl,h1,h2,h3⟩:=hl;obtain⟨a',c',rfl,h1',h2',h3'⟩:=hl';unfold maxLen at h2 h2';have HK:=zh (zi h3 h3');have HA:=zh (zi hA hc);have HO:=zh (Own.start hm);clear h3 h3' hA hc;refine av fun R hR=>?_;by_cases hlen:l.length=l'.length
 case neg=>
  have hne:((l.length:Int) != (l'.length:Int))=true:=by simp;omega
  have HL:=zh (show ¬ l=l' from fun h=>hlen (by rw[h]));clear hlen
  go_enter Tryz.func177,Tryz.ntmps177
  go_wp2;exact hR.out _ _ ⟨aJ (by rw[az HL.out]),HO.out.below⟩
 have hne:((l.length:Int) != (l'.length:Int))=false:=by simp[hlen]
 have Hlen:=zh hlen;clear hlen
 go_enter Tryz.func177,Tryz.ntmps177
 go_wp2;refine au [0,1,2,15,16,17] (fun n vs wr=>∃k:Nat,k≤l.length∧n=l.length - k∧vs=[.slice a l.length c,.slice a' l'.length c',.func (.func 178) #[] #[],.slice a l.length c,.int .i64 l.length,.int .i64 k]∧(l=l'↔l.drop k=l'.drop k)∧Own w m wr m []) ?_ ?_
 ·exact⟨_,0,Nat.zero_le _,rfl,rfl,Iff.rfl,HO.out⟩
 clear HO;rintro X z n vs wr hX - ⟨k,hk,rfl,rfl,hrel,hO⟩;have Hrel:=zh hrel;clear hrel;simp[litL,lk];by_cases hlt:k<l.length
 case neg=>
  have HL:=zh (show l=l' from Hrel.out.2 (by rw[List.drop_eq_nil_of_le zo,List.drop_eq_nil_of_le (by rw[← Hlen.out];omega)]));have HB:=zh hO.below;clear hO hX;go_wp2;exact hR.out _ _ ⟨aJ (by rw[aH HL.out]),HB.out⟩
 have hlt':k<l'.length:=by rw[← Hlen.out];exact hlt
 obtain⟨b,off,rfl,h4⟩:=HK.out.1 (by intro h;simp[h] at hlt);obtain⟨b',off',rfl,h4'⟩:=HK.out.2 (by intro h;simp[h] at hlt');obtain⟨cs,hl1,hc1,ho1,hr1⟩:=HA.out.1 _ _ _ (h4 k hlt);obtain⟨cs',hl2,hc2,ho2,hr2⟩:=HA.out.1 _ _ _ (h4' k hlt');have HD:=zh (eU l l' k hlt hlt');have HC:=zh (fun w' (h:m.inn w')=>HA.out.2 cs cs' l[k] l'[k] w' h hr1 hr2);have hO1:=hO.al zcF 58;have HC1:=zh (fun (w':World) (h:m.inn w') j u hj=>Mem.aj h (hc1 j u hj));have HC2:=zh (fun (w':World) (h:m.inn w') j u hj=>Mem.aj h (hc2 j u hj));have hx1:=hc1 0 (cs[0]'zo) (List.getElem?_eq_getElem _);have hx2:=hc2 0 (cs'[0]'zo) (List.getElem?_eq_getElem _);have xl1:=Mem.ay hO.inn hx1;have xl2:=Mem.ay hO.inn hx2;have H1:=zh (zi ho1 ho2);have hin:=hO.inn;have HO:=zh hO1;clear hO hO1 h4 h4' hc1 hc2 ho1 ho2 hr1 hr2 hx1 hx2;generalize l[k]=x at *
 generalize l'[k]=x' at *
 by_cases he:x=x'
 ·have HC3:=zh (show ∀w',m.inn w'→_ from fun w' h=>by have:=HC.out w' h;rw[aH he] at this;exact this);have HL:=zh (Hrel.out.trans (HD.out.trans ⟨fun h=>h.2,fun h=>⟨he,h⟩⟩));clear HC HD Hrel he
  go_wp2_with (first
   | refine ae tyF rfl (.tmp 20) rfl rfl cs hl1 (HC1.out _ hin) ?_
   | (refine aI tyF rfl (.tmp 8) (.tmp 21) rfl (cs:=cs.toArray) rfl rfl rfl (by simpa using hl1) (fun u hu=>H1.out.1 u (by simpa using hu)) HO.out.obj ?_;intro w1 ob1 hg1;have hO2:=(HO.out.setObj ob1 hg1).al zcF 58;have xl3:=hO2.swap.obj.lt;have hin2:=hO2.tail.inn)
   | refine ae tyF rfl (.tmp 24) rfl rfl cs' hl2 (HC2.out _ (HO.out.setObj ob1 hg1).inn) ?_
   | (refine aI tyF rfl (.tmp 9) (.tmp 25) rfl (cs:=cs'.toArray) rfl rfl rfl (by simpa using hl2) (fun u hu=>H1.out.2 u (by simpa using hu)) hO2.obj ?_;intro w2 ob2 hg2;have hO3:=hO2.setObj ob2 hg2;have y1:=hO3.swap.obj.all;have y2:=hO3.obj.all)
   | refine ae tyF rfl (.tmp 8) rfl rfl cs hl1 y1 ?_
   | refine ae tyF rfl (.tmp 9) rfl rfl cs' hl2 y2 ?_
   | (go_at_call 178;refine (HC3.out _ hO3.inn).mono ?_;rintro e w3 ⟨rfl,hb3⟩))
  exact hX.out _ _ _ zo rfl ⟨k+1,zo,rfl,rfl,HL.out,(hO3.move hb3).tail.tail⟩
 ·have HC3:=zh (show ∀w',m.inn w'→_ from fun w' h=>by have:=HC.out w' h;rw[az he] at this;exact this);have HL:=zh (show ¬ l=l' from fun h=>he (HD.out.1 (Hrel.out.1 h)).1);clear HC HD Hrel he hX
  go_wp2_with (first
   | refine ae tyF rfl (.tmp 20) rfl rfl cs hl1 (HC1.out _ hin) ?_
   | (refine aI tyF rfl (.tmp 8) (.tmp 21) rfl (cs:=cs.toArray) rfl rfl rfl (by simpa using hl1) (fun u hu=>H1.out.1 u (by simpa using hu)) HO.out.obj ?_;intro w1 ob1 hg1;have hO2:=(HO.out.setObj ob1 hg1).al zcF 58;have xl3:=hO2.swap.obj.lt;have hin2:=hO2.tail.inn)
   | refine ae tyF rfl (.tmp 24) rfl rfl cs' hl2 (HC2.out _ (HO.out.setObj ob1 hg1).inn) ?_
   | (refine aI tyF rfl (.tmp 9) (.tmp 25) rfl (cs:=cs'.toArray) rfl rfl rfl (by simpa using hl2) (fun u hu=>H1.out.2 u (by simpa using hu)) hO2.obj ?_;intro w2 ob2 hg2;have hO3:=hO2.setObj ob2 hg2;have y1:=hO3.swap.obj.all;have y2:=hO3.obj.all)
   | refine ae tyF rfl (.tmp 8) rfl rfl cs hl1 y1 ?_
   | refine ae tyF rfl (.tmp 9) rfl rfl cs' hl2 y2 ?_
   | (go_at_call 178;refine (HC3.out _ hO3.inn).mono ?_;rintro e w3 ⟨rfl,hb3⟩))
  exact hR.out _ _ ⟨aJ (by rw[az HL.out]),(hO3.move hb3).below⟩
theorem Nz {α:Type} (A:Nat→Nat→α→Prop) (Rp:List Value→α→Prop) (v v':Value) (l l':List α) (m:Mem) (w:World) (hm:m.inn w)
 (hA:∀b o x,A b o x→∃cs:List Value,cs.length=19∧(∀j u,cs[j]?=some u→m.cell b (o+j)=some u)∧(∀u∈cs,u.oneCell'=true)∧Rp cs x)
 (hc:∀cs cs' x x' w',m.inn w'→Rp cs x→Rp cs' x'→Calls Tryz.prog 180 #[.agg cs.toArray,.agg cs'.toArray] w' fun e w''=>e=.returned (.bool (tf (x=x')))∧Below w'.heap.size w' w'')
 (hl:Mem.slice A 19 v l) (hl':Mem.slice A 19 v' l') :
 Calls Tryz.prog 179 #[v,v',.func (.func 180) #[] #[]] w fun e w'=>e=.returned (.bool (tf (l=l')))∧Below w.heap.size w w':=by
 obtain⟨a,c,rfl,h1,h2,h3⟩:=hl;obtain⟨a',c',rfl,h1',h2',h3'⟩:=hl';unfold maxLen at h2 h2';have HK:=zh (zi h3 h3');have HA:=zh (zi hA hc);have HO:=zh (Own.start hm);clear h3 h3' hA hc;refine av fun R hR=>?_;by_cases hlen:l.length=l'.length
 case neg=>
  have hne:((l.length:Int) != (l'.length:Int))=true:=by simp;omega
  have HL:=zh (show ¬ l=l' from fun h=>hlen (by rw[h]));clear hlen
  go_enter Tryz.func179,Tryz.ntmps179
  go_wp2;exact hR.out _ _ ⟨aJ (by rw[az HL.out]),HO.out.below⟩
 have hne:((l.length:Int) != (l'.length:Int))=false:=by simp[hlen]
 have Hlen:=zh hlen;clear hlen
 go_enter Tryz.func179,Tryz.ntmps179
 go_wp2;refine au [0,1,2,15,16,17] (fun n vs wr=>∃k:Nat,k≤l.length∧n=l.length - k∧vs=[.slice a l.length c,.slice a' l'.length c',.func (.func 180) #[] #[],.slice a l.length c,.int .i64 l.length,.int .i64 k]∧(l=l'↔l.drop k=l'.drop k)∧Own w m wr m []) ?_ ?_
 ·exact⟨_,0,Nat.zero_le _,rfl,rfl,Iff.rfl,HO.out⟩
 clear HO;rintro X z n vs wr hX - ⟨k,hk,rfl,rfl,hrel,hO⟩;have Hrel:=zh hrel;clear hrel;simp[litL,lk];by_cases hlt:k<l.length
 case neg=>
  have HL:=zh (show l=l' from Hrel.out.2 (by rw[List.drop_eq_nil_of_le zo,List.drop_eq_nil_of_le (by rw[← Hlen.out];omega)]));have HB:=zh hO.below;clear hO hX;go_wp2;exact hR.out _ _ ⟨aJ (by rw[aH HL.out]),HB.out⟩
 have hlt':k<l'.length:=by rw[← Hlen.out];exact hlt
 obtain⟨b,off,rfl,h4⟩:=HK.out.1 (by intro h;simp[h] at hlt);obtain⟨b',off',rfl,h4'⟩:=HK.out.2 (by intro h;simp[h] at hlt');obtain⟨cs,hl1,hc1,ho1,hr1⟩:=HA.out.1 _ _ _ (h4 k hlt);obtain⟨cs',hl2,hc2,ho2,hr2⟩:=HA.out.1 _ _ _ (h4' k hlt');have HD:=zh (eU l l' k hlt hlt');have HC:=zh (fun w' (h:m.inn w')=>HA.out.2 cs cs' l[k] l'[k] w' h hr1 hr2);have hO1:=hO.al zcK 61;have HC1:=zh (fun (w':World) (h:m.inn w') j u hj=>Mem.aj h (hc1 j u hj));have HC2:=zh (fun (w':World) (h:m.inn w') j u hj=>Mem.aj h (hc2 j u hj));have hx1:=hc1 0 (cs[0]'zo) (List.getElem?_eq_getElem _);have hx2:=hc2 0 (cs'[0]'zo) (List.getElem?_eq_getElem _);have xl1:=Mem.ay hO.inn hx1;have xl2:=Mem.ay hO.inn hx2;have H1:=zh (zi ho1 ho2);have hin:=hO.inn;have HO:=zh hO1;clear hO hO1 h4 h4' hc1 hc2 ho1 ho2 hr1 hr2 hx1 hx2;generalize l[k]=x at *
 generalize l'[k]=x' at *
 by_cases he:x=x'
 ·have HC3:=zh (show ∀w',m.inn w'→_ from fun w' h=>by have:=HC.out w' h;rw[aH he] at this;exact this);have HL:=zh (Hrel.out.trans (HD.out.trans ⟨fun h=>h.2,fun h=>⟨he,h⟩⟩));clear HC HD Hrel he
  go_wp2_with (first
   | refine ae tyK rfl (.tmp 20) rfl rfl cs hl1 (HC1.out _ hin) ?_
   | (refine aI tyK rfl (.tmp 8) (.tmp 21) rfl (cs:=cs.toArray) rfl rfl rfl (by simpa using hl1) (fun u hu=>H1.out.1 u (by simpa using hu)) HO.out.obj ?_;intro w1 ob1 hg1;have hO2:=(HO.out.setObj ob1 hg1).al zcK 61;have xl3:=hO2.swap.obj.lt;have hin2:=hO2.tail.inn)
   | refine ae tyK rfl (.tmp 24) rfl rfl cs' hl2 (HC2.out _ (HO.out.setObj ob1 hg1).inn) ?_
   | (refine aI tyK rfl (.tmp 9) (.tmp 25) rfl (cs:=cs'.toArray) rfl rfl rfl (by simpa using hl2) (fun u hu=>H1.out.2 u (by simpa using hu)) hO2.obj ?_;intro w2 ob2 hg2;have hO3:=hO2.setObj ob2 hg2;have y1:=hO3.swap.obj.all;have y2:=hO3.obj.all)
   | refine ae tyK rfl (.tmp 8) rfl rfl cs hl1 y1 ?_
   | refine ae tyK rfl (.tmp 9) rfl rfl cs' hl2 y2 ?_
   | (go_at_call 180;refine (HC3.out _ hO3.inn).mono ?_;rintro e w3 ⟨rfl,hb3⟩))
  exact hX.out _ _ _ zo rfl ⟨k+1,zo,rfl,rfl,HL.out,(hO3.move hb3).tail.tail⟩
 ·have HC3:=zh (show ∀w',m.inn w'→_ from fun w' h=>by have:=HC.out w' h;rw[az he] at this;exact this);have HL:=zh (show ¬ l=l' from fun h=>he (HD.out.1 (Hrel.out.1 h)).1);clear HC HD Hrel he hX
  go_wp2_with (first
   | refine ae tyK rfl (.tmp 20) rfl rfl cs hl1 (HC1.out _ hin) ?_
   | (refine aI tyK rfl (.tmp 8) (.tmp 21) rfl (cs:=cs.toArray) rfl rfl rfl (by simpa using hl1) (fun u hu=>H1.out.1 u (by simpa using hu)) HO.out.obj ?_;intro w1 ob1 hg1;have hO2:=(HO.out.setObj ob1 hg1).al zcK 61;have xl3:=hO2.swap.obj.lt;have hin2:=hO2.tail.inn)
   | refine ae tyK rfl (.tmp 24) rfl rfl cs' hl2 (HC2.out _ (HO.out.setObj ob1 hg1).inn) ?_
   | (refine aI tyK rfl (.tmp 9) (.tmp 25) rfl (cs:=cs'.toArray) rfl rfl rfl (by simpa using hl2) (fun u hu=>H1.out.2 u (by simpa using hu)) hO2.obj ?_;intro w2 ob2 hg2;have hO3:=hO2.setObj ob2 hg2;have y1:=hO3.swap.obj.all;have y2:=hO3.obj.all)
   | refine ae tyK rfl (.tmp 8) rfl rfl cs hl1 y1 ?_
   | refine ae tyK rfl (.tmp 9) rfl rfl cs' hl2 y2 ?_
   | (go_at_call 180;refine (HC3.out _ hO3.inn).mono ?_;rintro e w3 ⟨rfl,hb3⟩))
  exact hR.out _ _ ⟨aJ (by rw[az HL.out]),(hO3.move hb3).below⟩
theorem Ev {a b:ByteArray} (h:a=b):(a.toList==b.toList)=true:=by rw[h];simp
theorem Ew {a b:ByteArray} (h:¬ a=b):(a.toList==b.toList)=false:=by
 rw[ByteArray.toList_eq,ByteArray.toList_eq];exact beq_eq_false_iff_ne.2 fun e=>h (Oc e)
def uW (n:Nat):Prop:=∀(v v':Vl) (s s':Sl) (m:Mem) (w:World),m.inn w→VAt m n s v→VAt m n s' v'→vcnt n v≤1048576→vcnt n v'≤1048576→Calls Tryz.prog 86 #[v.val s,v'.val s'] w fun e w'=>e=.returned (.bool (tf (v=v')))∧Below w.heap.size w w'
def gN (n:Nat) (d:Vd):Prop:=vcnt n d.1≤1048576∧vcnt n d.2≤1048576
theorem jB {α:Type} {A:Nat→Nat→α→Prop} {P:α→Prop} {size:Nat} {v:Value} {l:List α} (h:Mem.slice A size v l) (hp:∀x∈l,P x):Mem.slice (fun b o x=>A b o x∧P x) size v l:=by
 obtain⟨a,c,e,h1,h2,h3⟩:=h;refine ⟨a,c,e,h1,h2,fun hne=>?_⟩;obtain⟨b,off,e2,h4⟩:=h3 hne;exact⟨b,off,e2,fun i hi=>⟨h4 i hi,hp _ (List.getElem_mem hi)⟩⟩
theorem jP {n:Nat} (H:uW n) (d d':Vd) (x y x' y':Sl) (m:Mem) (w:World) (hm:m.inn w) (h1:VAt m n x d.1) (h2:VAt m n y d.2) (h1':VAt m n x' d'.1) (h2':VAt m n y' d'.2) (kd:gN n d) (kd':gN n d') :
 Calls Tryz.prog 55 #[cZ d x y,cZ d' x' y'] w fun e w'=>e=.returned (.bool (tf (d=d')))∧Below w.heap.size w w':=by
 have hO:=((Own.start hm).al (dcs d x y).toArray 35).al (dcs d' x' y').toArray 35;simp only[cz] at hO;have HC:=zh (H d.1 d'.1 x x' m _ hO.inn h1 h1' kd.1 kd'.1);have HF:=zh (fun w' (h:m.inn w')=>H d.2 d'.2 y y' m w' h h2 h2' kd.2 kd'.2);have hN:(nine d.1 x).length=9:=rfl;have hN2:(nine d.2 y).length=9:=rfl;have hN':(nine d'.1 x').length=9:=rfl;have hN2':(nine d'.2 y').length=9:=rfl;have HD:=zh (zi (fun j u=>@lw d x y j u) (fun j u=>@lu d x y j u));have HD':=zh (zi (fun j u=>@lw d' x' y' j u) (fun j u=>@lu d' x' y' j u));have HE:=zh (show d=d'↔d.1=d'.1∧d.2=d'.2 from Prod.ext_iff);have HO:=zh hO;unfold Vl.val cZ at *
 generalize nine d.1 x=N at *
 generalize nine d.2 y=N2 at *
 generalize dcs d x y=D at *
 generalize nine d'.1 x'=N' at *
 generalize nine d'.2 y'=N2' at *
 generalize dcs d' x' y'=D' at *
 clear hO h1 h2 h1' h2';have q0:=HO.out.swap.obj.sub (o:=0) (cs:=N) fun j u hj=>by simpa using HD.out.1 j u hj
 have q0':=HO.out.obj.sub (o:=0) (cs:=N') fun j u hj=>by simpa using HD'.out.1 j u hj
 refine av fun R hR=>?_
 go_enter Tryz.func55,Tryz.ntmps55
 by_cases e1:d.1=d'.1
 case neg=>
  have hh:=HC.out;rw[az e1] at hh;have HC:=zh hh;have HX:=zh (show ¬ d=d' from fun h=>e1 (HE.out.1 h).1);clear hh HF e1 HE
  go_wp2_with (first | refine ae tyV rfl (.tmp 5) rfl rfl N hN q0 ?_ | refine ae tyV rfl (.tmp 7) rfl rfl N' hN' q0' ?_ | (go_at_call 86;refine HC.out.mono ?_;rintro e w1 ⟨rfl,hb1⟩))
  exact hR.out _ _ ⟨aJ (by rw[az HX.out]),(HO.out.move hb1).below⟩
 have hh:=HC.out;rw[aH e1] at hh;have HC1:=zh hh;have HX:=zh (bg (show d.2=d'.2↔d=d' from ⟨fun h=>HE.out.2 ⟨e1,h⟩,fun h=>(HE.out.1 h).2⟩));clear hh HC e1 HE;generalize tf (d.2=d'.2)=ts at *
 go_wp2_with (first
  | refine ae tyV rfl (.tmp 5) rfl rfl N hN q0 ?_
  | refine ae tyV rfl (.tmp 7) rfl rfl N' hN' q0' ?_
  | refine ae tyV rfl (.tmp 11) rfl rfl N2 hN2 q1 ?_
  | refine ae tyV rfl (.tmp 13) rfl rfl N2' hN2' q1' ?_
  | (go_at_call 86;first
   | (refine (HF.out _ hO1.inn).mono ?_;rintro e w2 ⟨rfl,hb2⟩)
   | (refine HC1.out.mono ?_;rintro e w1 ⟨rfl,hb1⟩;have hO1:=HO.out.move hb1;have q1:=hO1.swap.obj.sub (o:=9) (cs:=N2) (fun j u hj=>by simpa using HD.out.2 j u hj);have q1':=hO1.obj.sub (o:=9) (cs:=N2') (fun j u hj=>by simpa using HD'.out.2 j u hj))))
 exact hR.out _ _ ⟨aJ (by rw[HX.out]),(hO1.move hb2).below⟩
theorem NL {c:St} {f:Fd} (h:f∈c.1):f.2∈dF c:=List.mem_append.2 (.inl (List.mem_map.2 ⟨f,h,rfl⟩))
theorem NK {c:St} {f:Kl} (h:f∈c.2):f.2∈dF c:=List.mem_append.2 (.inr (List.mem_map.2 ⟨f,h,rfl⟩))
theorem JK {n:Nat} (H:uW n) (v v':Value) (l l':List Vd) (m:Mem) (w:World) (hm:m.inn w) (h:dB (VAt m n) m v l) (h':dB (VAt m n) m v' l') (kl:∀d∈l,gN n d) (kl':∀d∈l',gN n d) :
 Calls Tryz.prog 134 #[v,v',.func (.func 55) #[] #[]] w fun e w'=>e=.returned (.bool (tf (l=l')))∧Below w.heap.size w w':=
 Ny (fun b o d=>VdAt (VAt m n) m b o d∧gN n d) (fun cs d=>(∃x y,cs=dcs d x y∧VAt m n x d.1∧VAt m n y d.2)∧gN n d) v v' l l' m w hm
  (fun b o d hd=>by obtain⟨x,y,h1,h2,h3⟩:=hd.1.cells;exact⟨_,rfl,h1,eF h2 h3,⟨x,y,rfl,h2,h3⟩,hd.2⟩)
  (fun cs cs' d d' w' hm' h1 h2=>by
   obtain⟨⟨x,y,rfl,k1,k2⟩,k3⟩:=h1;obtain⟨⟨x',y',rfl,k1',k2'⟩,k3'⟩:=h2;exact jP H d d' x y x' y' m w' hm' k1 k2 k1' k2' k3 k3') (jB h kl) (jB h' kl')
theorem Iy {n:Nat} (H:uW n) (f f':Fd) (x y x' y':Sl) (m:Mem) (w:World) (hm:m.inn w) (h1:VAt m n x f.2.1) (h2:VAt m n y f.2.2) (h1':VAt m n x' f'.2.1) (h2':VAt m n y' f'.2.2) (kd:gN n f.2) (kd':gN n f'.2) :
 Calls Tryz.prog 178 #[.agg (fcs f x y).toArray,.agg (fcs f' x' y').toArray] w fun e w'=>e=.returned (.bool (tf (f=f')))∧Below w.heap.size w w':=by
 have hO:=((Own.start hm).al (fcs f x y).toArray 58).al (fcs f' x' y').toArray 58;simp only[cz] at hO;have HC:=zh (fun w' (h:m.inn w')=>jP H f.2 f'.2 x y x' y' m w' h h1 h2 h1' h2' kd kd');have hN:(dcs f.2 x y).length=18:=rfl;have hN':(dcs f'.2 x' y').length=18:=rfl;have c0:=hO.swap.obj.cell (i:=0) (v:=.string f.1.1) rfl;have c1:=hO.swap.obj.cell (i:=1) (v:=.int .i64 f.1.2) rfl;have c0':=hO.obj.cell (i:=0) (v:=.string f'.1.1) rfl;have c1':=hO.obj.cell (i:=1) (v:=.int .i64 f'.1.2) rfl;have q0:=hO.swap.obj.sub (o:=2) (cs:=dcs f.2 x y) fun j u hj=>by simpa using xN hj
 have q0':=hO.obj.sub (o:=2) (cs:=dcs f'.2 x' y') fun j u hj=>by simpa using xN hj
 have HE:=zh (show f=f'↔f.1.1=f'.1.1∧f.1.2=f'.1.2∧f.2=f'.2 from ⟨fun h=>by rw[h];exact⟨rfl,rfl,rfl⟩,fun h=>Prod.ext (Prod.ext h.1 h.2.1) h.2.2⟩);have HO:=zh hO;have hin:=hO.inn;unfold cZ at *
 generalize dcs f.2 x y=N at *
 generalize dcs f'.2 x' y'=N' at *
 generalize fcs f x y=D at *
 generalize fcs f' x' y'=D' at *
 clear hO h1 h2 h1' h2';refine av fun R hR=>?_
 go_enter Tryz.func178,Tryz.ntmps178
 by_cases e1:f.1.1=f'.1.1
 case neg=>
  have HX:=zh (show ¬ f=f' from fun h=>e1 (HE.out.1 h).1);have hd:(f.1.1.toList==f'.1.1.toList)=false:=Ew e1;clear HE HC e1 q0 q0';go_wp2;exact hR.out _ _ ⟨aJ (by rw[az HX.out]),HO.out.below⟩
 have hd:(f.1.1.toList==f'.1.1.toList)=true:=Ev e1;by_cases e2:f.1.2=f'.1.2
 case neg=>
  have HX:=zh (show ¬ f=f' from fun h=>e2 (HE.out.1 h).2.1);have hd2:(f.1.2==f'.1.2)=false:=beq_eq_false_iff_ne.2 e2;clear HE HC e1 e2 q0 q0';go_wp2;exact hR.out _ _ ⟨aJ (by rw[az HX.out]),HO.out.below⟩
 have hd2:(f.1.2==f'.1.2)=true:=beq_iff_eq.2 e2;have HX:=zh (bg (show f.2=f'.2↔f=f' from ⟨fun h=>HE.out.2 ⟨e1,e2,h⟩,fun h=>(HE.out.1 h).2.2⟩));clear e1 e2 HE;generalize tf (f.2=f'.2)=ts at *
 go_wp2_with (first
  | refine ae tyD rfl (.tmp 18) rfl rfl N hN q0 ?_
  | refine ae tyD rfl (.tmp 20) rfl rfl N' hN' q0' ?_
  | (go_at_call 55;refine (HC.out _ hin).mono ?_;rintro e w2 ⟨rfl,hb2⟩))
 exact hR.out _ _ ⟨aJ (by rw[HX.out]),(HO.out.move hb2).below⟩
theorem LC {n:Nat} (H:uW n) (v v':Value) (l l':List Fd) (m:Mem) (w:World) (hm:m.inn w) (h:ja (VAt m n) m v l) (h':ja (VAt m n) m v' l') (kl:∀d∈l,gN n d.2) (kl':∀d∈l',gN n d.2) :
 Calls Tryz.prog 177 #[v,v',.func (.func 178) #[] #[]] w fun e w'=>e=.returned (.bool (tf (l=l')))∧Below w.heap.size w w':=
 NA (fun b o d=>FdAt (VAt m n) m b o d∧gN n d.2) (fun cs d=>(∃x y,cs=fcs d x y∧VAt m n x d.2.1∧VAt m n y d.2.2)∧gN n d.2) v v' l l' m w hm
  (fun b o d hd=>by obtain⟨x,y,h1,h2,h3⟩:=hd.1.cells;exact⟨_,rfl,h1,nH h2 h3,⟨x,y,rfl,h2,h3⟩,hd.2⟩)
  (fun cs cs' d d' w' hm' h1 h2=>by
   obtain⟨⟨x,y,rfl,k1,k2⟩,k3⟩:=h1;obtain⟨⟨x',y',rfl,k1',k2'⟩,k3'⟩:=h2;exact Iy H d d' x y x' y' m w' hm' k1 k2 k1' k2' k3 k3') (jB h kl) (jB h' kl')
theorem Iw {n:Nat} (H:uW n) (f f':Kl) (c c':Value) (x y x' y':Sl) (m:Mem) (w:World) (hm:m.inn w) (hc:aQ m c f.1) (hc':aQ m c' f'.1) (h1:VAt m n x f.2.1) (h2:VAt m n y f.2.2) (h1':VAt m n x' f'.2.1) (h2':VAt m n y' f'.2.2) (kd:gN n f.2) (kd':gN n f'.2) :
 Calls Tryz.prog 180 #[.agg (kcs f c x y).toArray,.agg (kcs f' c' x' y').toArray] w fun e w'=>e=.returned (.bool (tf (f=f')))∧Below w.heap.size w w':=by
 have hO:=((Own.start hm).al (kcs f c x y).toArray 61).al (kcs f' c' x' y').toArray 61;simp only[cz] at hO;have HS:=zh (pY c c' f.1 f'.1 m _ hO.inn hc hc');have HC:=zh (fun w' (h:m.inn w')=>jP H f.2 f'.2 x y x' y' m w' h h1 h2 h1' h2' kd kd');have hN:(dcs f.2 x y).length=18:=rfl;have hN':(dcs f'.2 x' y').length=18:=rfl;have c0:=hO.swap.obj.cell (i:=0) (v:=c) rfl;have c0':=hO.obj.cell (i:=0) (v:=c') rfl;have HQ:=zh (fun (w':World) (h:bz w' w.heap.size 61 (kcs f c x y).toArray)=>h.sub (o:=1) (cs:=dcs f.2 x y) fun j u hj=>by simpa using xG hj);have HQ':=zh (fun (w':World) (h:bz w' (w.heap.size+1) 61 (kcs f' c' x' y').toArray)=>h.sub (o:=1) (cs:=dcs f'.2 x' y') fun j u hj=>by simpa using xG hj);have HE:=zh (show f=f'↔f.1=f'.1∧f.2=f'.2 from Prod.ext_iff);have HO:=zh hO;obtain⟨ta,tc,rfl,-⟩:=hc;obtain⟨ta',tc',rfl,-⟩:=hc';unfold cZ at *
 generalize dcs f.2 x y=N at *
 generalize dcs f'.2 x' y'=N' at *
 generalize kcs f _ x y=D at *
 generalize kcs f' _ x' y'=D' at *
 clear hO h1 h2 h1' h2';refine av fun R hR=>?_
 go_enter Tryz.func180,Tryz.ntmps180
 by_cases e1:f.1=f'.1
 case neg=>
  have hh:=HS.out;rw[az e1] at hh;have HS:=zh hh;have HX:=zh (show ¬ f=f' from fun h=>e1 (HE.out.1 h).1);clear HE HC e1 HQ HQ' hh
  go_wp2_with (go_at_call 176;refine HS.out.mono ?_;rintro e w2 ⟨rfl,hb2⟩)
  exact hR.out _ _ ⟨aJ (by rw[az HX.out]),(HO.out.move hb2).below⟩
 have hh:=HS.out;rw[aH e1] at hh;have HS1:=zh hh;have HX:=zh (bg (show f.2=f'.2↔f=f' from ⟨fun h=>HE.out.2 ⟨e1,h⟩,fun h=>(HE.out.1 h).2⟩));clear e1 HE HS hh;generalize tf (f.2=f'.2)=ts at *
 go_wp2_with (first
  | (go_at_call 176;refine HS1.out.mono ?_;rintro e w2 ⟨rfl,hb2⟩;have hO2:=HO.out.move hb2;have q0:=HQ.out _ hO2.swap.obj;have q0':=HQ'.out _ hO2.obj)
  | refine ae tyD rfl (.tmp 11) rfl rfl N hN q0 ?_
  | refine ae tyD rfl (.tmp 13) rfl rfl N' hN' q0' ?_
  | (go_at_call 55;refine (HC.out _ hO2.inn).mono ?_;rintro e w3 ⟨rfl,hb3⟩))
 exact hR.out _ _ ⟨aJ (by rw[HX.out]),(hO2.move hb3).below⟩
theorem LB {n:Nat} (H:uW n) (v v':Value) (l l':List Kl) (m:Mem) (w:World) (hm:m.inn w) (h:iA (VAt m n) m v l) (h':iA (VAt m n) m v' l') (kl:∀d∈l,gN n d.2) (kl':∀d∈l',gN n d.2) :
 Calls Tryz.prog 179 #[v,v',.func (.func 180) #[] #[]] w fun e w'=>e=.returned (.bool (tf (l=l')))∧Below w.heap.size w w':=
 Nz (fun b o d=>KlAt (VAt m n) m b o d∧gN n d.2) (fun cs d=>(∃c x y,cs=kcs d c x y∧aQ m c d.1∧VAt m n x d.2.1∧VAt m n y d.2.2)∧gN n d.2) v v' l l' m w hm
  (fun b o d hd=>by obtain⟨c,x,y,h0,h1,h2,h3⟩:=hd.1.cells;exact⟨_,rfl,h1,nA h0 h2 h3,⟨c,x,y,rfl,h0,h2,h3⟩,hd.2⟩)
  (fun cs cs' d d' w' hm' h1 h2=>by
   obtain⟨⟨c,x,y,rfl,k0,k1,k2⟩,k3⟩:=h1;obtain⟨⟨c',x',y',rfl,k0',k1',k2'⟩,k3'⟩:=h2;exact Iw H d d' c c' x y x' y' m w' hm' k0 k0' k1 k2 k1' k2' k3 k3') (jB h kl) (jB h' kl')
theorem Fh {n:Nat} (H:uW n) (c c':St) (u u2 v v2:Value) (m:Mem) (w:World) (hm:m.inn w) (h1:ja (VAt m n) m u c.1) (h2:iA (VAt m n) m u2 c.2) (h1':ja (VAt m n) m v c'.1) (h2':iA (VAt m n) m v2 c'.2) (kd:∀d∈dF c,gN n d) (kd':∀d∈dF c',gN n d) :
 Calls Tryz.prog 135 #[.agg #[u,u2],.agg #[v,v2]] w fun e w'=>e=.returned (.bool (tf (c=c')))∧Below w.heap.size w w':=by
 have hO:=((Own.start hm).al #[u,u2] 45).al #[v,v2] 45;simp only[cz] at hO;have HS:=zh (LC H u v c.1 c'.1 m _ hO.inn h1 h1' (fun f hf=>kd _ (NL hf)) (fun f hf=>kd' _ (NL hf)));have HC:=zh (fun w' (h:m.inn w')=>LB H u2 v2 c.2 c'.2 m w' h h2 h2' (fun f hf=>kd _ (NK hf)) (fun f hf=>kd' _ (NK hf)));have HE:=zh (show c=c'↔c.1=c'.1∧c.2=c'.2 from Prod.ext_iff);have HO:=zh hO;obtain⟨a1,b1,rfl,-⟩:=h1;obtain⟨a2,b2,rfl,-⟩:=h2;obtain⟨a3,b3,rfl,-⟩:=h1';obtain⟨a4,b4,rfl,-⟩:=h2';clear hO;refine av fun R hR=>?_
 go_enter Tryz.func135,Tryz.ntmps135
 by_cases e1:c.1=c'.1
 case neg=>
  have hh:=HS.out;rw[az e1] at hh;have HS:=zh hh;have HX:=zh (show ¬ c=c' from fun h=>e1 (HE.out.1 h).1);clear HE HC e1 hh
  go_wp2_with (go_at_call 177;refine HS.out.mono ?_;rintro e w2 ⟨rfl,hb2⟩)
  exact hR.out _ _ ⟨aJ (by rw[az HX.out]),(HO.out.move hb2).below⟩
 have hh:=HS.out;rw[aH e1] at hh;have HS1:=zh hh;have HX:=zh (bg (show c.2=c'.2↔c=c' from ⟨fun h=>HE.out.2 ⟨e1,h⟩,fun h=>(HE.out.1 h).2⟩));clear e1 HE HS hh;generalize tf (c.2=c'.2)=ts at *
 generalize c.1.length=l1 at *
 generalize c.2.length=l2 at *
 generalize c'.1.length=l3 at *
 generalize c'.2.length=l4 at *
 go_wp2_with (first
  | (go_at_call 177;refine HS1.out.mono ?_;rintro e w2 ⟨rfl,hb2⟩;have hO2:=HO.out.move hb2;have y1:=hO2.obj.cell (i:=1) rfl;have y2:=hO2.swap.obj.cell (i:=1) rfl;have y3:=hO2.obj.lt;have y4:=hO2.swap.obj.lt)
  | (go_at_call 179;refine (HC.out _ hO2.inn).mono ?_;rintro e w3 ⟨rfl,hb3⟩))
 exact hR.out _ _ ⟨aJ (by rw[HX.out]),(hO2.move hb3).below⟩
noncomputable def accB (s:ByteArray) (l:Table):Bool:=tf (WF l)&&aF l 0 s.data.toList
theorem xZ (v0:Value) (l:Table) (s:ByteArray) (m:Mem) (w:World) (hm:m.inn w) (hl:aQ m v0 l) (hs:s.size≤maxLen) :
 Calls Tryz.prog 57 #[.agg #[v0],.string s] w fun e w'=>e=.returned (.bool (accB s l))∧Below w.heap.size w w':=by
 unfold accB;have hl0:=hl;obtain⟨a,c,rfl,h1,h2,h3⟩:=hl;unfold maxLen at h2 hs;have hO:=(Own.start hm).al #[.slice a l.length c] 27;have HW:=zh (mr (.slice a l.length c) l m _ hO.inn hl0);have HO:=zh hO;have HK:=zh h3;have hin:=hO.inn;clear hO h3 hl0;refine av fun R hR=>?_
 go_enter Tryz.func57,Tryz.ntmps57
 go_wp2
 go_step3
 by_cases h0:l.length=0
 ·have hdec:((l.length:Int)==0)=true:=by simp[h0]
  have HX:=zh (show (tf (WF l)&&aF l 0 s.data.toList)=false by rw[d9 l 0 _ zo,Bool.and_false]);clear h0 HW;go_wp2;exact hR.out _ _ ⟨aJ (by rw[HX.out]),HO.out.below⟩
 have hdec:((l.length:Int)==0)=false:=beq_eq_false_iff_ne.2 zo;have hh:=HW.out;by_cases hwf:WF l
 case neg=>
  rw[az hwf] at hh;have HW2:=zh hh;have HX:=zh (show (tf (WF l)&&aF l 0 s.data.toList)=false by rw[az hwf,Bool.false_and]);clear hh HW hwf h0
  go_wp2_with (go_at_call 87;refine HW2.out.mono ?_;rintro e w1 ⟨rfl,hb1⟩)
  exact hR.out _ _ ⟨aJ (by rw[HX.out]),(HO.out.move hb1).below⟩
 rw[aH hwf] at hh;have HW2:=zh hh;have HX:=zh (show (tf (WF l)&&aF l 0 s.data.toList)=aF l 0 s.data.toList by rw[aH hwf,Bool.true_and]);have HWF:=zh hwf;clear hh HW hwf
 go_wp2_with (go_at_call 87;refine HW2.out.mono ?_;rintro e w1 ⟨rfl,hb1⟩)
 have HO1:=zh (HO.out.move hb1);clear HO hb1 HW2 hin
 go_step3
 go_wp2;refine au [1,2,5,20,21] (fun n vs wr=>∃(k x:Nat),k≤s.size∧x<l.length∧n=s.size - k∧vs=[.string s,.pointer (some ⟨w.heap.size,0,none⟩),.int .i64 x,.int .i64 s.size,.int .i64 k]∧aF l 0 s.data.toList=aF l x (s.data.toList.drop k) ∧
  Own w m wr m [.obj w.heap.size 27 #[.slice a l.length c]]) ?_ ?_
 ·exact⟨_,0,0,Nat.zero_le _,zo,rfl,rfl,rfl,HO1.out⟩
 clear HO1;rintro X z n vs wr hX - ⟨k,x,hk,hx,rfl,rfl,hacc,hO⟩;simp[litL,lk];have g1:=hO.obj.cell (i:=0) rfl;have g2:=hO.obj.lt;obtain⟨b,off,rfl,h4⟩:=HK.out (by intro h;simp[h] at h0);obtain⟨s1,ve,s2,se⟩:=h4 x hx;have HA:=zh hacc;clear hacc;by_cases hlt:k<s.size
 case neg=>
  have x1:=Mem.aj hO.inn s1;have xl:=Mem.ay hO.inn s1;have HA2:=zh (show aF l 0 s.data.toList=l[x].accept by
   rw[HA.out,List.drop_eq_nil_of_le (by simp;omega),aF,dG l x hx])
  have HB:=zh hO.below;generalize l[x].accept=ac at *
  clear hO HA h4 s1 s2 se hX;go_wp2;exact hR.out _ _ ⟨aJ (by rw[HX.out,HA2.out]),HB.out⟩
 have hstep:aF l 0 s.data.toList=aF l (aS (l[x]).edges (s[k]).toNat) (s.data.toList.drop (k+1)):=by
  rw[HA.out,List.drop_eq_getElem_cons (by simpa using hlt),aF];have e:(s.data.toList[k]'(by simpa using hlt))=s[k]:=rfl;rw[e,bP l x _ hx]
 have HST:=zh hstep;have HWE:=zh (fun e (he:e∈(l[x]).edges)=>eO (HWF.out _ (List.getElem_mem hx)) e he);have x2:=Mem.aj hO.inn s2;have xl:=Mem.ay hO.inn s2;obtain⟨ea,ec,rfl,e1,e2,e3⟩:=se;unfold maxLen at e2;have HEK:=zh e3;have HO:=zh hO;have hbt:=(s[k]).toNat_lt;generalize (l[x]).edges=es at *
 clear hO hstep h4 s1 s2 e3 HA;go_wp2;refine au [1,2,5,6,20,21,29,30,31] (fun n vs wr=>∃(j:Nat),j≤es.length∧n=es.length - j∧vs=[.string s,.pointer (some ⟨w.heap.size,0,none⟩),.int .i64 x,.int .i64 k,.int .i64 s.size,.int .i64 k,.slice ea es.length ec,.int .i64 es.length,.int .i64 j]∧aS es (s[k]).toNat=aS (es.drop j) (s[k]).toNat ∧
  Own w m wr m [.obj w.heap.size 27 #[.slice (some ⟨b,off,none⟩) l.length c]]) ?_ ?_
 ·exact⟨_,0,Nat.zero_le _,rfl,rfl,rfl,HO.out⟩
 clear HO x2 xl g1 g2;rintro Y z n vs wr hY - ⟨j,hj,rfl,rfl,hrel,hO⟩;simp[litL,lk];have HRL:=zh hrel;clear hrel;by_cases hlj:j<es.length
 case neg=>
  have HA2:=zh (show aF l 0 s.data.toList=false by
   rw[HST.out,HRL.out,List.drop_eq_nil_of_le zo];exact bK (by simp[aS]) _)
  have HB:=zh hO.below;clear hO hX hY;go_wp2;exact hR.out _ _ ⟨aJ (by rw[HX.out,HA2.out]),HB.out⟩
 obtain⟨b',off',rfl,h5⟩:=HEK.out (by intro h;simp[h] at hlj);obtain⟨y1,y2,y3,-⟩:=h5 j hlj;have d1:=Mem.aj hO.inn y1;have d2:=Mem.aj hO.inn y2;have d3:=Mem.aj hO.inn y3;have dl:=Mem.ay hO.inn y1;have HD:=zh (wB es (s[k]).toNat j hlj);have hsep:=HWE.out es[j] (List.getElem_mem hlj);have HO:=zh (hO.al #[.int .u8 (es[j]).lo,.int .u8 (es[j]).hi,.int .i64 (es[j]).to] 104);generalize es[j]=e at *
 obtain⟨-,-,hto,htn⟩:=hsep;obtain⟨tn,htn2⟩:=Int.eq_ofNat_of_zero_le hto;clear hO h5 y1 y2 y3;rw[htn2] at d3 HO;generalize hbb:(s[k]).toNat=bb at *
 by_cases hm1:e.lo≤bb
 ·by_cases hm2:bb≤e.hi
  ·have HA2:=zh (show aF l 0 s.data.toList=aF l (tn:Int) (s.data.toList.drop (k+1)) by rw[HST.out,HRL.out,HD.out,if_pos ⟨hm1,hm2⟩,htn2]);clear HRL HD HST hY;go_wp2
   go_quiet (fail)
   go_wp2;exact hX.out _ _ _ zo rfl ⟨k+1,tn,zo,zo,rfl,rfl,HA2.out,(HO.out.drN _).tail⟩
  ·have HA2:=zh (show aS es bb=aS (es.drop (j+1)) bb by rw[HRL.out,HD.out,if_neg zo]);clear HRL HD;go_wp2
   go_quiet (fail)
   go_wp2;exact hY.out _ _ _ zo rfl ⟨j+1,zo,rfl,rfl,HA2.out,(HO.out.drN _).tail⟩
 ·have HA2:=zh (show aS es bb=aS (es.drop (j+1)) bb by rw[HRL.out,HD.out,if_neg zo]);clear HRL HD;go_wp2
  go_quiet (fail)
  go_wp2;exact hY.out _ _ _ zo rfl ⟨j+1,zo,rfl,rfl,HA2.out,(HO.out.drN _).tail⟩
theorem GQ {P:Program} {t:TypeId} {n:Nat} {w:World} {o:Oper} {a:Act} {K:Act→World→Prop} {Q:Exit→Act→World→Prop} (S:oV P t n) (p v:Operand) (hop:o.op=Op.store t p v) {g:Nat} {T:TypeId} {cur cs:Array Value} (hp:a.eval p=.pointer (some ⟨g,0,none⟩)) (hv:a.eval v=.agg cs) (hcur:cur.size=n) (hl:cs.size=n) (h1:∀u∈cs.toList,u.oneCell'=true) (hO:bz w g T cur)
 (hK:∀w',bz w' g T cs→w.grownBy w' (some g)→K (a.put o.dst undef) w'):o.wp P a w K Q:=by
 have hst:=run_storeCells_from (P:=P) g T cs.toList 0 cur w hO.get (by simp;omega) h1;simp only[List.take_zero,List.nil_append,Array.toArray_toList] at hst;unfold Oper.wp;simp[execOp,hop,hp,hv,Instr.storeAt,Instr.sureAddr,storeVar,S.size,Value.cells,hl,hst,Result.andThen];exact hK _ ⟨setRow_heap w g cur cs T (0,0) hO.get⟩ (grownBy_setRow' hO.get)
theorem Kr {acc:Table→Bool} {c:St} {s:ByteArray} {i:Nat} (hi:i<c.1.length) (h:∀j (hj:j<c.1.length),j<i→¬ c.1[j].1.1=s) (e:c.1[i].1.1=s):qM acc c s=(c.1[i].2,c.1[i].1.2):=by
 unfold qM;rw[CF i hi (fun j hj hlt=>decide_eq_false (h j hj hlt)) (decide_eq_true e)]
theorem Kq {acc:Table→Bool} {c:St} {s:ByteArray} {i:Nat} (h0:∀j (hj:j<c.1.length),¬ c.1[j].1.1=s) (hi:i<c.2.length) (h:∀j (hj:j<c.2.length),j<i→acc c.2[j].1=false) (e:acc c.2[i].1=true):qM acc c s=(c.2[i].2,3):=by
 unfold qM;rw[tN (p:=fun f:Fd=>decide (f.1.1=s)) (fun j hj=>decide_eq_false (h0 j hj)),CF (p:=fun k:Kl=>acc k.1) i hi (fun j hj hlt=>h j hj hlt) e]
theorem Ko {acc:Table→Bool} {c:St} {s:ByteArray} (h0:∀j (hj:j<c.1.length),¬ c.1[j].1.1=s) (h:∀j (hj:j<c.2.length),acc c.2[j].1=false):qM acc c s=((botV,botV),3):=by
 unfold qM;rw[tN (p:=fun f:Fd=>decide (f.1.1=s)) (fun j hj=>decide_eq_false (h0 j hj)),tN (p:=fun k:Kl=>acc k.1) (fun j hj=>h j hj)]
def L6 (m:Mem) (n:Nat) (r:Vd × Int) (e:Ending):Prop:=∃x y,e=.returned (.tuple #[cZ r.1 x y,.int .i64 r.2])∧VAt m (n+1) x r.1.1∧VAt m (n+1) y r.1.2
theorem Bq (u u2:Value) (c:St) (s:ByteArray) (m:Mem) (n:Nat) (w:World) (hm:m.inn w) (h1:ja (VAt m n) m u c.1) (h2:iA (VAt m n) m u2 c.2) (hs:s.size≤maxLen) :
 Calls Tryz.prog 29 #[.agg #[u,u2],.string s] w fun e w'=>L6 m n (qM (accB s) c s) e∧Below w.heap.size w w':=by
 obtain⟨a1,c1,rfl,p1,q1,k1⟩:=h1;obtain⟨a2,c2,rfl,p2,q2,k2⟩:=h2;unfold maxLen at q1 q2;have HK:=zh (zi k1 k2);have HO:=zh (((Own.start hm).al #[.slice a1 c.1.length c1,.slice a2 c.2.length c2] 45).al zcD 35);have HSZ:=zh hs;clear k1 k2 hs;refine av fun R hR=>?_
 go_enter Tryz.func29,Tryz.ntmps29
 go_wp2;refine au [1,2,4,12,11,13] (fun q vs wr=>∃(i:Nat),i≤c.1.length∧q=c.1.length - i∧vs=[.string s,.pointer (some ⟨w.heap.size,0,none⟩),.pointer (some ⟨w.heap.size+1,0,none⟩),.int .i64 (c.1.length:Int),.slice a1 c.1.length c1,.int .i64 (i:Int)]∧(∀j (hj:j<c.1.length),j<i→¬ c.1[j].1.1=s) ∧
  Own w m wr m [.obj (w.heap.size+1) 35 zcD,.obj w.heap.size 45 #[.slice a1 c.1.length c1,.slice a2 c.2.length c2]]) ?_ ?_
 ·exact⟨_,0,Nat.zero_le _,rfl,rfl,fun j hj h=>absurd h (Nat.not_lt_zero _),by simpa only[cz] using HO.out⟩
 clear HO;rintro X z q vs wr hX - ⟨i,hi,rfl,rfl,hA,hO⟩;simp[litL,lk];have HA:=zh hA;clear hA;by_cases hlt:i<c.1.length
 ·obtain⟨b,off,rfl,h4⟩:=HK.out.1 (by intro h;simp[h] at hlt);obtain⟨x,y,hc,hx,hy⟩:=(h4 i hlt).cells;have hl:(fcs c.1[i] x y).length=20:=rfl;have hl2:(dcs (c.1[i]).2 x y).length=18:=rfl;have h1c:=nH hx hy;have h1d:=eF hx hy;have HC:=zh (fun (w':World) (h:m.inn w') j u hj=>Mem.aj h (hc j u hj));have hcl:=Mem.ay hO.inn (hc 0 _ rfl);have H0:(fcs c.1[i] x y).toArray[0]?=some (.string c.1[i].1.1):=rfl;have H1:(fcs c.1[i] x y).toArray[1]?=some (.int .i64 c.1[i].1.2):=rfl;have HSU:=zh (fun (w':World) (g:Nat) (h:bz w' g 58 (fcs c.1[i] x y).toArray)=>h.sub (o:=2) (cs:=dcs (c.1[i]).2 x y) fun j u hj=>by simpa using xN hj);have HR:=zh (show c.1[i].1.1=s→L6 m n (qM (accB s) c s) (.returned (.tuple #[cZ (c.1[i]).2 x y,.int .i64 c.1[i].1.2])) from fun e=>by
   rw[Kr hlt HA.out e];exact⟨x,y,rfl,hx.succ,hy.succ⟩)
  have HNX:=zh (show ¬ c.1[i].1.1=s→∀j (hj:j<c.1.length),j<i+1→¬ c.1[j].1.1=s from fun h j hj h3=>by
   by_cases e:j=i
   ·subst e;exact h
   ·exact HA.out j hj zo)
  have HO:=zh (hO.al zcF 58);unfold cZ at HR;generalize dcs (c.1[i]).2 x y=D at *
  generalize fcs c.1[i] x y=N at *
  generalize c.1[i].1.1=lab at *
  generalize c.1[i].1.2=pr at *
  have hin:=hO.inn;clear hO h4 hc hx hy;by_cases he:lab=s
  ·have hd:(lab.toList==s.toList)=true:=Ev he;have HR2:=zh (HR.out he);clear HR HNX he
   go_upto_region 5 with (first
    | refine ae tyF rfl (.tmp 15) rfl rfl N hl (HC.out _ hin) ?_
    | (refine aI tyF rfl (.tmp 7) (.tmp 16) rfl (cs:=N.toArray) rfl rfl rfl (by simpa using hl) (fun u hu=>h1c u (by simpa using hu)) HO.out.obj ?_;intro w1 ob1 hg1;have hO2:=HO.out.setObj ob1 hg1;have y0:=hO2.obj.cell H0;have y1:=hO2.obj.lt))
   refine aR [4,5] (fun vs w'=>vs=[.pointer (some ⟨w.heap.size+1,0,none⟩),.int .i64 pr]∧Own w m w' m [.obj (w.heap.size+1) 35 D.toArray]) ?_ ?_
   ·intro Y hY;refine gT (fun w'=>bz w' wr.heap.size 58 N.toArray) 5 zk ?_;have hO3:=hO2.dr;have hS:=hO3.obj;refine aG 0 rfl zk (fun _ _ _ h=>h) hS (aB rfl fun w' hS'=>by go_simp;rfl) ?_;refine aG 1 rfl zk (fun _ _ _ h=>h) hS (aB rfl fun w' hS'=>tyD.exec rfl zg hl2 (HSU.out w' _ hS')) ?_;refine aG 2 rfl zk (fun _ _ _ h=>h) hS (aB rfl fun w' hS'=>by have q:=hS'.cell H1;go_simp;rfl) ?_;refine aG 3 rfl zk (fun _ _ _ h=>h) hS (aB rfl fun w' hS'=>by have q:=hS'.cell H1;go_simp;rfl) ?_;refine aW 4 zk (aP rfl rfl (GQ tyD (.tmp 4) (.tmp 22) rfl (cs:=D.toArray) zg zg rfl (by simpa using hl2) (fun u hu=>h1d u (by simpa using hu)) hO3.swap.obj fun w2 ob2 hg2=>?_));have hO4:=hO3.swap.setObj ob2 hg2;refine andS hO4.swap.obj fun hS1=>?_;go_simp;refine aW 5 zk (aP rfl rfl (aM (by go_simp;first | exact⟨rfl,rfl⟩ | rfl) (p8 rfl ?_)));refine gU zk ?_ _;exact hY.out _ _ rfl ⟨rfl,hO4.drop2.drop2⟩
   rintro z1 vs w3 - ⟨rfl,hO5⟩;simp[litL,lk];have hr:=tyD.load hl2 hO5.obj.all;have HB:=zh hO5.below;clear hO5;go_wp2;refine bodyPost_ret (v:=.tuple #[.agg D.toArray,.int .i64 pr]) (fD Tryz.results29 rfl hr) rfl ?_;exact hR.out _ _ ⟨HR2.out,HB.out⟩
  ·have hd:(lab.toList==s.toList)=false:=Ew he;have HNX2:=zh (HNX.out he);clear HR HNX he
   go_wp2_with (first
    | refine ae tyF rfl (.tmp 15) rfl rfl N hl (HC.out _ hin) ?_
    | (refine aI tyF rfl (.tmp 7) (.tmp 16) rfl (cs:=N.toArray) rfl rfl rfl (by simpa using hl) (fun u hu=>h1c u (by simpa using hu)) HO.out.obj ?_;intro w1 ob1 hg1;have hO2:=HO.out.setObj ob1 hg1;have y0:=hO2.obj.cell H0;have y1:=hO2.obj.lt))
   exact hX.out _ _ _ zo rfl ⟨i+1,zo,rfl,rfl,HNX2.out,hO2.tail⟩
 obtain rfl:i=c.1.length:=zo;have HA0:=zh (fun j (hj:j<c.1.length)=>HA.out j hj hj);have g1:=hO.swap.obj.cell (i:=1) rfl;have g2:=hO.swap.obj.lt;have HO:=zh hO;clear hO hX HA;go_wp2;refine au [1,4,28,27,29] (fun q vs wr=>∃(i:Nat),i≤c.2.length∧q=c.2.length - i∧vs=[.string s,.pointer (some ⟨w.heap.size+1,0,none⟩),.int .i64 (c.2.length:Int),.slice a2 c.2.length c2,.int .i64 (i:Int)]∧(∀j (hj:j<c.2.length),j<i→accB s c.2[j].1=false) ∧
  Own w m wr m [.obj (w.heap.size+1) 35 zcD]) ?_ ?_
 ·exact⟨_,0,Nat.zero_le _,rfl,rfl,fun j hj h=>absurd h (Nat.not_lt_zero _),HO.out.drop2⟩
 clear HO g1 g2;rintro X z q vs wr hX - ⟨i,hi,rfl,rfl,hA,hO⟩;simp[litL,lk];have HA:=zh hA;clear hA;by_cases hlt:i<c.2.length
 ·obtain⟨b,off,rfl,h4⟩:=HK.out.2 (by intro h;simp[h] at hlt);obtain⟨kc,x,y,hks,hc,hx,hy⟩:=(h4 i hlt).cells;have hl:(kcs c.2[i] kc x y).length=19:=rfl;have hl2:(dcs (c.2[i]).2 x y).length=18:=rfl;have h1c:=nA hks hx hy;have h1d:=eF hx hy;have HC:=zh (fun (w':World) (h:m.inn w') j u hj=>Mem.aj h (hc j u hj));have hcl:=Mem.ay hO.inn (hc 0 _ rfl);have H0:(kcs c.2[i] kc x y).toArray[0]?=some kc:=rfl;have HSU:=zh (fun (w':World) (g:Nat) (h:bz w' g 61 (kcs c.2[i] kc x y).toArray)=>h.sub (o:=1) (cs:=dcs (c.2[i]).2 x y) fun j u hj=>by simpa using xG hj);have HR:=zh (show accB s c.2[i].1=true→L6 m n (qM (accB s) c s) (.returned (.tuple #[cZ (c.2[i]).2 x y,.int .i64 3])) from fun e=>by
   rw[Kq HA0.out hlt HA.out e];exact⟨x,y,rfl,hx.succ,hy.succ⟩)
  have HNX:=zh (show accB s c.2[i].1=false→∀j (hj:j<c.2.length),j<i+1→accB s c.2[j].1=false from fun h j hj h3=>by
   by_cases e:j=i
   ·subst e;exact h
   ·exact HA.out j hj zo)
  have HAC:=zh (fun (w':World) (h:m.inn w')=>xZ kc c.2[i].1 s m w' h hks HSZ.out);obtain⟨ta,tc,rfl,-⟩:=hks;have HO:=zh (hO.al zcK 61);unfold cZ at HR;generalize dcs (c.2[i]).2 x y=D at *
  generalize kcs c.2[i] _ x y=N at *
  generalize accB s c.2[i].1=ab at *
  have hin:=hO.inn;clear hO h4 hc hx hy;cases ab
  ·have HNX2:=zh (HNX.out rfl);clear HR HNX
   go_wp2_with (first
    | refine ae tyK rfl (.tmp 31) rfl rfl N hl (HC.out _ hin) ?_
    | (refine aI tyK rfl (.tmp 9) (.tmp 32) rfl (cs:=N.toArray) rfl rfl rfl (by simpa using hl) (fun u hu=>h1c u (by simpa using hu)) HO.out.obj ?_;intro w1 ob1 hg1;have hO2:=HO.out.setObj ob1 hg1;have y0:=hO2.obj.cell H0;have y1:=hO2.obj.lt)
    | (go_at_call 57;refine (HAC.out _ hO2.inn).mono ?_;rintro e w2 ⟨rfl,hb2⟩))
   exact hX.out _ _ _ zo rfl ⟨i+1,zo,rfl,rfl,HNX2.out,(hO2.move hb2).tail⟩
  ·have HR2:=zh (HR.out rfl);clear HR HNX hX
   go_wp2_with (first
    | refine ae tyK rfl (.tmp 31) rfl rfl N hl (HC.out _ hin) ?_
    | (refine aI tyK rfl (.tmp 9) (.tmp 32) rfl (cs:=N.toArray) rfl rfl rfl (by simpa using hl) (fun u hu=>h1c u (by simpa using hu)) HO.out.obj ?_;intro w1 ob1 hg1;have hO2:=HO.out.setObj ob1 hg1;have y0:=hO2.obj.cell H0;have y1:=hO2.obj.lt)
    | (go_at_call 57;refine (HAC.out _ hO2.inn).mono ?_;rintro e w2 ⟨rfl,hb2⟩;have hO3:=hO2.move hb2;have y2:=HSU.out _ _ hO3.obj;have y3:=hO3.obj.lt)
    | refine ae tyD rfl (.tmp 37) rfl rfl D hl2 y2 ?_
    | (refine aI tyD rfl (.tmp 4) (.tmp 38) rfl (cs:=D.toArray) rfl rfl rfl (by simpa using hl2) (fun u hu=>h1d u (by simpa using hu)) hO3.swap.obj ?_;intro w3 ob3 hg3;have hO4:=hO3.swap.setObj ob3 hg3;have hr:=tyD.load hl2 ob3.all))
   refine bodyPost_ret (v:=.tuple #[.agg D.toArray,.int .i64 3]) (fD Tryz.results29 rfl hr) rfl ?_;exact hR.out _ _ ⟨HR2.out,hO4.below⟩
 obtain rfl:i=c.2.length:=zo;have HR:=zh (show L6 m n (qM (accB s) c s) (.returned (.tuple #[cZ (botV,botV) bQ bQ,.int .i64 3])) by
  rw[Ko HA0.out (fun j hj=>HA.out j hj hj)];exact⟨bQ,bQ,rfl,(VAt.leaf m false).mono zo,(VAt.leaf m false).mono zo⟩)
 have HO:=zh hO;clear hO hX HA HA0
 go_wp2_with (refine aI tyD rfl (.tmp 4) (.tmp 40) rfl (cs:=zcD) rfl rfl rfl rfl zD HO.out.obj ?_)
 intro w' ho hg;have HF:=zh (HO.out.setObj ho hg);have hr:=tyD.load (cs:=zcD.toList) rfl ho.all;clear HO hg ho;go_wp2;refine bodyPost_ret (v:=.tuple #[.agg zcD,.int .i64 3]) (fD Tryz.results29 rfl hr) rfl ?_;exact hR.out _ _ ⟨HR.out,HF.out.below⟩
end Cl
