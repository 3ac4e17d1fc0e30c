/- The law's walk. -/
import Derived.Test.YtajbfioncdnkcaaGreatDoorProg
import Derived.BigQuiet
import Derived.Deep.Cut
import Derived.Deep.QuietTactic
import Derived.Laws.StructEq
import Derived.Lib.AppendStr
import Derived.Lib.Builder
import Derived.Lib.Hide
import Derived.Lib.ItoaLen
import Derived.Maps.OwnOps
import Derived.Maps.OwnSet
import Derived.OrdersHeld
import Derived.Outline
import Derived.StillTailTactics
import Derived.StringKeys
import Derived.WalkKit
import Derived.WalkLawsBesides
import Derived.WalkSpells
import Derived.Deep.RegionHeld
import Derived.Shelf.Strings.Builder1
import Derived.Shelf.Small.Wraps
import Derived.Shelf.LaysM
import Derived.Shelf.Strconv.Itoa3
import Derived.Laws.EntriesVeiled
import Derived.RegionTactic
import Derived.RangeFuncNested
import Derived.RangeFuncBound
import Derived.RangeFuncCalls
import Derived.RangeFuncLeaves
import Derived.OwnWalkIn
import Derived.TacticsInMore
import Derived.LoopNIn
import Derived.LoopIn
import Derived.Shelf.Spec.SlicesGrow
import Derived.Shelf.SlSortCmp.WholeK
import Derived.ChangeAlike
import Derived.Laws.BytesArg
import Derived.Laws.CopyOwn
import Derived.Deep.Slices
import Derived.Lib.SmallJoins
import Derived.ChangeMaps5
import Derived.Carry
import Derived.KernelRfl
import Derived.ChangeArms
import Derived.Test.YtajbfioncdnkcaaGreatDoorCards
import Derived.Test.YtajbfioncdnkcaaGreatDoorTie
import Derived.ProofKit
import Derived.OpenShut
import Derived.Deep.DeepHandedRow
import Derived.Lib.LaidTab
import Derived.Stop.LaidErr
import Derived.Test.YtajbfioncdnkcaaGreatDoorZz
import Derived.Test.YtajbfioncdnkcaaGreatDoorPkM3
import Derived.Test.YtajbfioncdnkcaaGreatDoorPkM1
import Derived.Test.YtajbfioncdnkcaaGreatDoorPkM2
import Derived.Test.YtajbfioncdnkcaaGreatDoorPkM19
import Derived.Test.YtajbfioncdnkcaaGreatDoorPkM27
import Derived.Test.YtajbfioncdnkcaaGreatDoorPkM29
import Derived.Test.YtajbfioncdnkcaaGreatDoorPkM39
import Derived.Test.YtajbfioncdnkcaaGreatDoorPkM8
import Derived.Test.YtajbfioncdnkcaaGreatDoorPkM14
import Derived.Test.YtajbfioncdnkcaaGreatDoorPkM61
import Derived.Test.YtajbfioncdnkcaaGreatDoorPkM5
import Derived.Test.YtajbfioncdnkcaaGreatDoorPkM11
import Derived.Test.YtajbfioncdnkcaaGreatDoorPkM4
import Derived.Test.YtajbfioncdnkcaaGreatDoorPkM7
import Derived.Test.YtajbfioncdnkcaaGreatDoorPkM12
import Derived.Test.YtajbfioncdnkcaaGreatDoorPkM6
import Derived.Test.YtajbfioncdnkcaaGreatDoorPkM20
import Derived.Test.YtajbfioncdnkcaaGreatDoorPkM13
import Derived.Test.YtajbfioncdnkcaaGreatDoorPkM9
import Derived.Test.YtajbfioncdnkcaaGreatDoorPkM31
import Derived.Test.YtajbfioncdnkcaaGreatDoorPkM18
import Derived.Test.YtajbfioncdnkcaaGreatDoorPkM28
import Derived.Test.YtajbfioncdnkcaaGreatDoorPkM10
import Derived.Test.YtajbfioncdnkcaaGreatDoorPkM15
import Derived.Test.YtajbfioncdnkcaaGreatDoorPkM21
import Derived.Test.YtajbfioncdnkcaaGreatDoorPkM16
import Derived.Test.YtajbfioncdnkcaaGreatDoorPkM22
import Derived.Test.YtajbfioncdnkcaaGreatDoorPkM17
import Derived.Test.YtajbfioncdnkcaaGreatDoorPkM38
import Derived.Test.YtajbfioncdnkcaaGreatDoorPkM30
set_option maxRecDepth 100000
set_option maxHeartbeats 16000000
namespace Cl
open Go Go.RowKit Go.Proofs
def xG (x d:Dt):Bool:=if d.kind=4 then Op.bytesLess x.str.toList d.str.toList else decide (x.num<d.num)
def Ep (x d:Dt):Bool:=if d.kind=4 then x.str.toList==d.str.toList else x.num==d.num
def lV (op:List UInt8) (x d:Dt):Bool:=if op=[60] then xG x d else if op=[60,61] then xG x d || Ep x d else if op=[62] then !xG x d && !Ep x d else !xG x d
theorem AU (op:ByteArray) (vi vm:Value) (x:Dt) (ui um:Value) (d:Dt) (m:Mem) (w:World) (hm:m.inn w) (hx:DtAt m vi vm x) (hd:DtAt m ui um d) :
 Calls Tryz.prog 29 #[.string op,x.val vi vm,d.val ui um] w fun e w'=>e=.returned (.bool (lV op.toList x d))∧Below w.heap.size w w':=by
 have hO:=((Own.start hm).al #[.int .i64 x.kind,.int .i64 x.num,.string x.str,vi,vm] 33).al #[.int .i64 d.kind,.int .i64 d.num,.string d.str,ui,um] 33;simp only[df] at hO;have HE:=zh (zi (show xG x d=if d.kind=4 then Op.bytesLess x.str.toList d.str.toList else decide (x.num<d.num) from rfl) (show Ep x d=if d.kind=4 then x.str.toList==d.str.toList else x.num==d.num from rfl));have HH:=zh (show lV op.toList x d=if op.toList=[60] then xG x d else if op.toList=[60,61] then xG x d || Ep x d else if op.toList=[62] then !xG x d && !Ep x d else !xG x d from rfl);obtain⟨a1,b1,a2,b2,rfl,rfl⟩:=hx.slices;obtain⟨c1,d1,c2,d2,rfl,rfl⟩:=hd.slices;unfold Dt.val;have HO:=zh hO;have q0:=hO.obj.cell (i:=0) rfl;have q1:=hO.obj.cell (i:=1) rfl;have q2:=hO.obj.cell (i:=2) rfl;have q5:=hO.obj.lt;have p0:=hO.swap.obj.cell (i:=0) rfl;have p1:=hO.swap.obj.cell (i:=1) rfl;have p2:=hO.swap.obj.cell (i:=2) rfl;have p5:=hO.swap.obj.lt;clear hO hx hd;generalize lV op.toList x d=hv at *
 generalize xG x d=lv at *
 generalize Ep x d=ev at *
 refine aj fun R hR=>?_
 go_enter Tryz.func29,Tryz.ntmps29
 go_upto_region 1 with (fail)
 generalize hW:(w.alloc (.cells #[.int .i64 x.kind,.int .i64 x.num,.string x.str,.slice a1 x.items.length b1,.slice a2 x.bv.length b2] 33)).alloc (.cells #[.int .i64 d.kind,.int .i64 d.num,.string d.str,.slice c1 d.items.length d1,.slice c2 d.bv.length d2] 33)=w0 at *
 clear hW;refine aA [0,4,5,7,8] (fun vs w'=>vs=[.string op,.pointer (some ⟨w.heap.size,0,none⟩),.pointer (some ⟨w.heap.size+1,0,none⟩),.bool (decide (x.num<d.num)),.bool (x.num==d.num)]∧Own w m w' m [.obj (w.heap.size+1) 33 #[.int .i64 d.kind,.int .i64 d.num,.string d.str,.slice c1 d.items.length d1,.slice c2 d.bv.length d2],.obj w.heap.size 33 #[.int .i64 x.kind,.int .i64 x.num,.string x.str,.slice a1 x.items.length b1,.slice a2 x.bv.length b2]]) ?_ ?_
 ·intro X hX
  go_quiet (fail)
  exact hX.out _ _ rfl ⟨rfl,HO.out.drN _⟩
 clear q0 q1 q2 q5 p0 p1 p2 p5 HO;rintro z vs w1 - ⟨rfl,hO⟩;simp[litL,lk];have HO:=zh hO;have q0:=hO.obj.cell (i:=0) rfl;have q2:=hO.obj.cell (i:=2) rfl;have q5:=hO.obj.lt;have p2:=hO.swap.obj.cell (i:=2) rfl;have p5:=hO.swap.obj.lt;clear hO;by_cases hk:d.kind=4
 ·have k4:(d.kind==4)=true:=beq_iff_eq.2 hk;have HE2:=zh (show lv=Op.bytesLess x.str.toList d.str.toList∧ev=(x.str.toList==d.str.toList) from ⟨by rw[HE.out.1,if_pos hk],by rw[HE.out.2,if_pos hk]⟩);clear hk HE
  go_upto_region 3 with (fail)
  refine aA [0,7,8] (fun vs w'=>vs=[.string op,.bool lv,.bool ev]∧Below w.heap.size w w') ?_ ?_
  ·intro X hX
   go_quiet (fail)
   exact hX.out _ _ rfl ⟨by rw[HE2.out.1,HE2.out.2];rfl,(HO.out.drN _).below⟩
  clear q0 q2 q5 p2 p5 HO HE2;rintro z vs w2 - ⟨rfl,hb⟩;simp[litL,lk];have HB:=zh hb;clear hb;by_cases h0:op.toList=[60]
  ·have b0:(op.toList==[60])=true:=beq_iff_eq.2 h0;have HR:=zh (show hv=lv by rw[HH.out,if_pos h0]);clear h0 HH;go_wp2;exact hR.out _ _ ⟨aQ (by rw[HR.out]),HB.out⟩
  have b0:(op.toList==[60])=false:=beq_eq_false_iff_ne.2 h0;by_cases h1:op.toList=[60,61]
  ·have b1:(op.toList==[60,61])=true:=beq_iff_eq.2 h1;have HR:=zh (show hv=(lv || ev) by rw[HH.out,if_neg h0,if_pos h1]);clear h0 h1 HH;cases lv <;> cases ev <;> go_wp2 <;> exact hR.out _ _ ⟨aQ (by rw[HR.out];first | done | rfl),HB.out⟩
  have b1:(op.toList==[60,61])=false:=beq_eq_false_iff_ne.2 h1;by_cases h2:op.toList=[62]
  ·have b2:(op.toList==[62])=true:=beq_iff_eq.2 h2;have HR:=zh (show hv=(!lv && !ev) by rw[HH.out,if_neg h0,if_neg h1,if_pos h2]);clear h0 h1 h2 HH;cases lv <;> cases ev <;> go_wp2 <;> exact hR.out _ _ ⟨aQ (by rw[HR.out];first | done | rfl),HB.out⟩
  have b2:(op.toList==[62])=false:=beq_eq_false_iff_ne.2 h2;have HR:=zh (show hv = !lv by rw[HH.out,if_neg h0,if_neg h1,if_neg h2]);clear h0 h1 h2 HH;cases lv <;> go_wp2 <;> exact hR.out _ _ ⟨aQ (by rw[HR.out];first | done | rfl),HB.out⟩
 ·have k4:(d.kind==4)=false:=beq_eq_false_iff_ne.2 hk;have HE2:=zh (show lv=decide (x.num<d.num)∧ev=(x.num==d.num) from ⟨by rw[HE.out.1,if_neg hk],by rw[HE.out.2,if_neg hk]⟩);rw[← HE2.out.1,← HE2.out.2];have HB:=zh HO.out.below;clear hk HE HE2 HO;by_cases h0:op.toList=[60]
  ·have b0:(op.toList==[60])=true:=beq_iff_eq.2 h0;have HR:=zh (show hv=lv by rw[HH.out,if_pos h0]);clear h0 HH;go_wp2;exact hR.out _ _ ⟨aQ (by rw[HR.out]),HB.out⟩
  have b0:(op.toList==[60])=false:=beq_eq_false_iff_ne.2 h0;by_cases h1:op.toList=[60,61]
  ·have b1:(op.toList==[60,61])=true:=beq_iff_eq.2 h1;have HR:=zh (show hv=(lv || ev) by rw[HH.out,if_neg h0,if_pos h1]);clear h0 h1 HH;cases lv <;> cases ev <;> go_wp2 <;> exact hR.out _ _ ⟨aQ (by rw[HR.out];first | done | rfl),HB.out⟩
  have b1:(op.toList==[60,61])=false:=beq_eq_false_iff_ne.2 h1;by_cases h2:op.toList=[62]
  ·have b2:(op.toList==[62])=true:=beq_iff_eq.2 h2;have HR:=zh (show hv=(!lv && !ev) by rw[HH.out,if_neg h0,if_neg h1,if_pos h2]);clear h0 h1 h2 HH;cases lv <;> cases ev <;> go_wp2 <;> exact hR.out _ _ ⟨aQ (by rw[HR.out];first | done | rfl),HB.out⟩
  have b2:(op.toList==[62])=false:=beq_eq_false_iff_ne.2 h2;have HR:=zh (show hv = !lv by rw[HH.out,if_neg h0,if_neg h1,if_neg h2]);clear h0 h1 h2 HH;cases lv <;> go_wp2 <;> exact hR.out _ _ ⟨aQ (by rw[HR.out];first | done | rfl),HB.out⟩
theorem FL {d:Dt} {u:Int} (h:dtEl d=some (.num u)):d.kind=3∧d.num=u∧bP u:=by
 have hc:chkD d 1=0:=Classical.byContradiction fun k=>by rw[(CQ k).1] at h;cases h
 cases uD hc with
 | nul hk h'=>rw[h'] at h;cases h
 | fal hk hn h'=>rw[h'] at h;cases h
 | tru hk hn h'=>rw[h'] at h;cases h
 | num hk hv h'=>rw[h'] at h;cases h;exact⟨hk,rfl,hv⟩
 | str hk h'=>rw[h'] at h;cases h
 | parts hk h'=>rw[h'] at h;cases h
theorem Am:∀v s:List UInt8,jM false v s=Op.bytesLess v s
 | [],[]=>rfl
 | _::_,[]=>rfl
 | [],_::_=>rfl
 | t::v,c::s=>by
  simp only[jM,Op.bytesLess];by_cases h:t=c
  ·subst h;simp[Am v s]
  ·simp[h]
theorem Ao:∀v s:List UInt8,jM true v s=(Op.bytesLess v s || v==s)
 | [],[]=>rfl
 | _::_,[]=>rfl
 | [],_::_=>rfl
 | t::v,c::s=>by
  simp only[jM,Op.bytesLess];by_cases h:t=c
  ·subst h;simp[Ao v s]
  ·have hb:(t==c)=false:=beq_eq_false_iff_ne.2 h;simp[h,hb]
theorem S9 {op:List UInt8} {x d:Dt} {u v:Int} (ho:jI op=true) (hx:dtEl x=some (.num v)) (hd:dtEl d=some (.num u)):relN op v u↔lV op x d=true:=by
 obtain⟨-,rfl,-⟩:=FL hx;obtain⟨hk,rfl,-⟩:=FL hd;have h4:¬ d.kind=4:=zo;unfold lV xG Ep;rw[if_neg h4,if_neg h4];rcases lH ho with rfl | rfl | rfl | rfl
 ·simp[relN,opLt]
 ·simp[relN,opLt,opLe];omega
 ·simp[relN,opLt,opLe,opGt];omega
 ·simp[relN,opLt,opLe,opGt,opGe]
theorem SY {op:List UInt8} {x d:Dt} {z v:List UInt8} (ho:jI op=true) (hx:dtEl x=some (.str v)) (hd:dtEl d=some (.str z)):(∃f,dx op z=some f∧f v=true)↔lV op x d=true:=by
 obtain⟨-,rfl⟩:=Cc hx;obtain⟨hk,rfl⟩:=Cc hd;unfold lV xG Ep;rw[if_pos hk,if_pos hk,ByteArray.toList_eq,ByteArray.toList_eq];rcases lH ho with rfl | rfl | rfl | rfl
 ·simp[dx,Am]
 ·simp[dx,Ao]
 ·simp[dx,Ao]
 ·simp[dx,Am]
def relE (op:List UInt8) (a e:El):Prop:=match a,e with
 | .num u,.num v=>bP v∧relN op v u
 | .str s,.str x=>∃f,dx op s=some f∧f x=true
 | _,_=>False
theorem LQ {op:List UInt8} {d:Dt} {a:El} (ha:dtEl d=some a) (ho:jI op=true) (e:El):gV op d e↔relE op a e:=by
 unfold gV relE;rw[ha];simp only[if_neg (I9 ho),if_pos ho];cases a <;> cases e <;> exact Iff.rfl
theorem Ta {op:List UInt8} {x d:Dt} {s:RS} (hf:ofE d=0) (hE:jL op d=0) (hne:op≠[33,61]) (h1:ScIs (gV op d) s):hasD s x=(decide (chkD x 1=0)&&decide (x.kind=d.kind)&&lV op x d):=by
 obtain⟨a,ha⟩:=iI.1 hf;unfold jL at hE;rw[if_neg (by simpa using hf),if_neg (show ¬ op=opNe from hne)] at hE;by_cases ho:jI op=true
 case neg=>rw[if_neg ho] at hE;exact absurd hE zD
 rw[if_pos ho] at hE;have hk:d.kind=3∨d.kind=4:=Classical.byContradiction fun k=>by rw[if_neg k] at hE;exact absurd hE zD
 have hb:∀e,gV op d e↔relE op a e:=LQ ha ho;by_cases hc:chkD x 1=0
 case neg=>rw[jA (CQ hc).1];simp[hc]
 have no:∀e,dtEl x=some e→¬ gV op d e→x.kind≠d.kind→hasD s x=(decide (chkD x 1=0)&&decide (x.kind=d.kind)&&lV op x d):=fun e h1' h2 h3=>by
  rw[sS h1 h1',aL h2];simp[h3]
 have hkd:∀e,a=e→(e=.nul∨e=.fal∨e=.tru)→False:=fun e h1 h2=>by
  have hcd:chkD d 1=0:=Classical.byContradiction fun k=>by rw[(CQ k).1] at ha;cases ha
  cases uD hcd with
  | nul hk' h'=>omega
  | fal hk' hn h'=>omega
  | tru hk' hn h'=>omega
  | num hk' hv h'=>rw[h'] at ha;cases ha;rcases h2 with h | h | h <;> rw[h] at h1 <;> cases h1
  | str hk' h'=>rw[h'] at ha;cases ha;rcases h2 with h | h | h <;> rw[h] at h1 <;> cases h1
  | parts hk' h'=>rw[h'] at ha;cases ha
 cases uD hc with
 | nul hk' h'=>exact no _ h' (by rw[hb];cases a <;> exact id) zo
 | fal hk' hn h'=>exact no _ h' (by rw[hb];cases a <;> exact id) zo
 | tru hk' hn h'=>exact no _ h' (by rw[hb];cases a <;> exact id) zo
 | parts hk' h'=>
  rw[jA h'];have:x.kind≠d.kind:=zo
  simp[this]
 | num hk' hv h'=>
  cases a with
  | nul=>exact (hkd _ rfl (.inl rfl)).elim
  | fal=>exact (hkd _ rfl (.inr (.inl rfl))).elim
  | tru=>exact (hkd _ rfl (.inr (.inr rfl))).elim
  | str z=>exact no _ h' (by rw[hb];exact id) (by have:=(Cc ha).1;omega)
  | num u=>
   have e:x.kind=d.kind:=by have:=(FL ha).1;omega
   rw[sS h1 h'];have:=S9 ho h' ha;have h2:tf (gV op d (.num x.num))=lV op x d:=by
    cases hh:lV op x d with
    | true=>exact aN ((hb _).2 ⟨hv,this.2 hh⟩)
    | false=>exact aL fun k=>by rw[this.1 ((hb _).1 k).2] at hh;cases hh
   rw[h2];simp[hc,e]
 | str hk' h'=>
  cases a with
  | nul=>exact (hkd _ rfl (.inl rfl)).elim
  | fal=>exact (hkd _ rfl (.inr (.inl rfl))).elim
  | tru=>exact (hkd _ rfl (.inr (.inr rfl))).elim
  | num u=>exact no _ h' (by rw[hb];exact id) (by have:=(FL ha).1;omega)
  | str z=>
   have e:x.kind=d.kind:=by have:=(Cc ha).1;omega
   rw[sS h1 h'];have:=SY ho h' ha;have h2:tf (gV op d (.str x.str.data.toList))=lV op x d:=by
    cases hh:lV op x d with
    | true=>exact aN ((hb _).2 (this.2 hh))
    | false=>exact aL fun k=>by rw[this.1 ((hb _).1 k)] at hh;cases hh
   rw[h2];simp[hc,e]
theorem TC {op:List UInt8} {d:Dt} (h:jL op d=0):ofE d=0:=by
 unfold jL at h;by_cases k:ofE d=0
 ·exact k
 ·rw[if_pos k] at h;exact absurd h k
theorem Tc {op:List UInt8} {d:Dt} (h:jL op d≠0):(∀e,¬ gV op d e)∧(ofE d=0→op≠[33,61]):=by
 by_cases k:ofE d=0
 ·unfold jL at h;rw[if_neg (by simpa using k)] at h;have hne:op≠opNe:=fun e=>by rw[if_pos e] at h;exact h rfl
  refine ⟨fun e=>?_,fun _=>hne⟩;rw[if_neg hne] at h;obtain⟨a,ha⟩:=iI.1 k;by_cases ho:jI op=true
  ·rw[if_pos ho] at h;have hk:¬ (d.kind=3∨d.kind=4):=fun e=>by rw[if_pos e] at h;exact h rfl
   refine ww ho ha ?_ e
   cases a with
   | nul=>exact .inl rfl
   | fal=>exact .inr (.inl rfl)
   | tru=>exact .inr (.inr rfl)
   | num u=>exact absurd (.inl (FL ha).1) hk
   | str z=>exact absurd (.inr (Cc ha).1) hk
  ·exact Ah (by simpa using ho) hne e
 ·refine ⟨tJ ?_,fun e=>absurd e k⟩
  cases hd:dtEl d with
  | none=>rfl
  | some a=>exact absurd (iI.2 ⟨a,hd⟩) k
theorem TD {d:Dt} {s1 s:RS} (h0:ofE d=0) (h1:ScIs (gV [33,61] d) s1) (h:ScIs (fun e=>elOk e∧¬ (dtEl d=some e)) s):s1=s:=by
 obtain⟨a,ha⟩:=iI.1 h0;refine (fD h1 h).2 fun e=>?_;rw[vz ha,ha];exact⟨fun ⟨p,q⟩=>⟨q,fun e1=>p (by cases e1;rfl)⟩,fun ⟨p,q⟩=>⟨fun e1=>q (by rw[e1]),p⟩⟩
theorem pU (op:ByteArray) (d1 d2:Value) (d:Dt) (x1 x2:Value) (x:Dt) (m:Mem) (w:World) (hm:m.inn w) (htab:TabM m) (hd:DtAt m d1 d2 d) (hx:DtAt m x1 x2 x) :
 Calls Tryz.prog 5 #[.string op,d.val d1 d2,x.val x1 x2] w fun e w'=>e=.returned (.bool true)∧Below w.heap.size w w':=by
 obtain⟨qda,qdb,qdc,qdd,rfl,rfl⟩:=hd.slices;obtain⟨qxa,qxb,qxc,qxd,rfl,rfl⟩:=hx.slices;have hO:=Own.start hm;have l0:=Mem.le_refl m;obtain⟨m1,k1,bd,hO⟩:=lC 33 hO (hd.le l0);have l1:=Mem.le_trans l0 k1;obtain⟨m2,k2,bx,hO⟩:=lC 33 hO (hx.le l1);have l2:=Mem.le_trans l1 k2;have bd:=bd.le k2;have HT:=zh (htab.le l2);simp only[df] at hO bx;have HO:=zh hO;clear hO htab hd hx l1 k1 l2 k2 l0;unfold Dt.val;refine aj fun R hR=>?_
 go_enter Tryz.func5,Tryz.ntmps5
 go_upto_region 1 with (fail)
 generalize hW:((w.alloc (.cells #[.int .i64 d.kind,.int .i64 d.num,.string d.str,.slice qda d.items.length qdb,.slice qdc d.bv.length qdd] 33)).alloc (.cells #[.int .i64 x.kind,.int .i64 x.num,.string x.str,.slice qxa x.items.length qxb,.slice qxc x.bv.length qxd] 33))=w0 at *
 clear hW;refine aA [0,4,5,31] (fun vs w'=>∃c:Bool,vs=[.string op,.pointer (some ⟨w.heap.size,0,none⟩),.pointer (some ⟨w.heap.size+1,0,none⟩),.bool c]∧Own w m w' m2 []∧(c=false→kr d=true∧kr x=true∧d.str.size≤60∧x.str.size≤60)) ?_ ?_
 ·intro X hX;obtain⟨yd0,yd1,yd2,yd3,yd4⟩:=bd.cw HO.out.inn;have ydl:=Mem.ak HO.out.inn bd.c0;have HB:=zh (jq _ _ d m2 _ HO.out.inn bd.at')
  go_wp2_with fail
  refine HB.out.mono ?_;rintro e w3 ⟨rfl,hb⟩;have HO:=zh (HO.out.move hb);clear HB hb;clear yd0 yd1 yd2 yd3 yd4 ydl;by_cases h:kr d=true
  case neg=>
   rw[Bool.eq_false_iff.2 h];clear h;go_wp2;exact hX.out _ _ rfl ⟨true,rfl,HO.out,fun h=>by cases h⟩
  rw[h];have HG0:=zh h;clear h;obtain⟨yx0,yx1,yx2,yx3,yx4⟩:=bx.cw HO.out.inn;have yxl:=Mem.ak HO.out.inn bx.c0;have HB:=zh (jq _ _ x m2 _ HO.out.inn bx.at')
  go_wp2_with fail
  refine HB.out.mono ?_;rintro e w3 ⟨rfl,hb⟩;have HO:=zh (HO.out.move hb);clear HB hb;clear yx0 yx1 yx2 yx3 yx4 yxl;by_cases h:kr x=true
  case neg=>
   rw[Bool.eq_false_iff.2 h];clear h;go_wp2;exact hX.out _ _ rfl ⟨true,rfl,HO.out,fun h=>by cases h⟩
  rw[h];have HG1:=zh h;clear h;have y2:=Mem.av HO.out.inn bd.c2;have y0:=Mem.ak HO.out.inn bd.c0;by_cases h:d.str.size≤60
  case neg=>
   have hd:decide ((60:Int)<(d.str.size:Int))=true:=decide_eq_true zo;clear h;go_wp2;exact hX.out _ _ rfl ⟨true,rfl,HO.out,fun h=>by cases h⟩
  have hd2:decide ((60:Int)<(d.str.size:Int))=false:=decide_eq_false zo;have HG2:=zh h;clear h;have y2:=Mem.av HO.out.inn bx.c2;have y0:=Mem.ak HO.out.inn bx.c0;by_cases h:x.str.size≤60
  case neg=>
   have hd:decide ((60:Int)<(x.str.size:Int))=true:=decide_eq_true zo;clear h;go_wp2;exact hX.out _ _ rfl ⟨true,rfl,HO.out,fun h=>by cases h⟩
  have hd3:decide ((60:Int)<(x.str.size:Int))=false:=decide_eq_false zo;have HG3:=zh h;clear h;go_wp2;exact hX.out _ _ rfl ⟨false,rfl,HO.out,fun _=>⟨HG0.out,HG1.out,HG2.out,HG3.out⟩⟩
 rintro z vs w1 - ⟨c,rfl,hO,hc⟩;simp[litL,lk];clear HO;have HO:=zh hO;have HC:=zh hc;clear hO hc
 cases c with
 | true=>
  clear HC
  go_wp2_with fail
  refine (bJ m2 _ HO.out.inn HT.out).mono ?_;rintro e w2 ⟨rfl,hb⟩;have HE:=zh (HO.out.move hb).below;clear hb HO;go_wp2
  exact hR.out _ _ ⟨rfl,HE.out⟩
 | false=>
  obtain⟨g0,g1,g2,g3⟩:=HC.out rfl;clear HC;have Cd:=zh (kS g0);clear g0;have Cx:=zh (kS g1);clear g1;have Zd:=zh g2;clear g2;have Zx:=zh g3;clear g3;obtain⟨yd0,yd1,yd2,yd3,yd4⟩:=bd.cw HO.out.inn;have ydl:=Mem.ak HO.out.inn bd.c0;have HB:=zh (kT op _ _ d m2 _ HO.out.inn HT.out bd.at' (by have:=Cd.out;omega) (by have:=Zd.out;omega));unfold Dt.val at HB
  go_wp2_with fail
  refine HB.out.mono ?_;rintro e w4 ⟨s1,si,sf,st,rfl,hb,hn,hS,hL⟩;clear yd0 yd1 yd2 yd3 yd4 ydl;have Is1:=zh hS;have Ls1:=zh (hL.mono (Nat.le_refl 6) (show 3*(d.str.size+5)+1≤196 by have:=Zd.out;omega));clear hS hL;obtain⟨ua,ub,uc,ud,ue,uf,rfl,rfl,rfl⟩:=hn.spell;unfold RS.val;obtain⟨m3,lk,bs1,hO⟩:=iJ 29 HO.out hb hn;have HT:=zh (HT.out.le lk);have bd:=bd.le lk;have bx:=bx.le lk
  go_upto_region 4 with (fail)
  generalize hW:w4.alloc (.cells #[.bool s1.nul,.bool s1.fal,.bool s1.tru,.slice ua s1.i.length ub,.slice uc s1.f.length ud,.slice ue s1.t.length uf] 29)=w4' at *
  generalize w4.heap.size=gs1 at *
  have HO:=zh hO;clear hb hn hO HB hW lk;obtain⟨yd0,yd1,yd2,yd3,yd4⟩:=bd.cw HO.out.inn;have ydl:=Mem.ak HO.out.inn bd.c0;have HB:=zh (nK _ _ d m3 _ HO.out.inn HT.out bd.at' (by have:=Cd.out;omega) (by have:=Zd.out;omega));unfold Dt.val at HB
  go_wp2_with fail
  refine HB.out.mono ?_;rintro e w5 ⟨s2,si,sf,st,rfl,hb,hn,hS,hL⟩;clear yd0 yd1 yd2 yd3 yd4 ydl;have Is2:=zh hS;have Ls2:=zh (hL.mono (Nat.le_refl 1) (show d.str.size+1≤61 by have:=Zd.out;omega));clear hS hL;obtain⟨va,vb,vc,vd,ve,vf,rfl,rfl,rfl⟩:=hn.spell;unfold RS.val;obtain⟨m4,lk,bs2,hO⟩:=iJ 29 HO.out hb hn;have HT:=zh (HT.out.le lk);have bd:=bd.le lk;have bx:=bx.le lk;have bs1:=bs1.le lk
  go_upto_region 5 with (fail)
  generalize hW:w5.alloc (.cells #[.bool s2.nul,.bool s2.fal,.bool s2.tru,.slice va s2.i.length vb,.slice vc s2.f.length vd,.slice ve s2.t.length vf] 29)=w5' at *
  generalize w5.heap.size=gs2 at *
  have HO:=zh hO;clear hb hn hO HB hW lk;by_cases hE:jL op.toList d=0
  ·have HF:ofE d=0:=TC hE;rw[hE,HF];by_cases hne:op.toList=[33,61]
   ·have b0:(op.toList==[33,61])=true:=beq_iff_eq.2 hne;have Q:=zh (fun s (h:ScIs (fun e=>elOk e∧¬ (dtEl d=some e)) s)=>TD HF (show ScIs (gV [33,61] d) s1 by rw[← hne];exact Is1.out) h);clear hE hne
    go_upto_region 8 with (fail)
    refine aA [6] (fun vs w'=>vs=[.bool true]∧Own w m w' m4 []) ?_ ?_
    ·intro X hX;refine aM 13 6 (fun j=>[Fact.is (·=.int .i64 0),Fact.is (·=.bool true),Fact.is (·=.bool true),Fact.is (·=.agg #[.bool s1.nul,.bool s1.fal,.bool s1.tru,.slice ua s1.i.length ub,.slice uc s1.f.length ud,.slice ue s1.t.length uf]),Fact.mem m4 [4] (ScRV elOk 1 1),Fact.is (·=.agg #[.bool s2.nul,.bool s2.fal,.bool s2.tru,.slice va s2.i.length vb,.slice vc s2.f.length vd,.slice ve s2.t.length vf]),Fact.mem m4 [6,4] (ScRV (fun e=>(elOk e)∧¬ (dtEl d=some e)) 6 190),Fact.is (·=.bool true),Fact.is (·=.bool true),Fact.is (·=.bool true),Fact.is (·=.bool true),Fact.is (·=.bool true),Fact.is (·=.bool true)].getD j Fact.any) zk zk ?_ ?_
     ·intro i hi o win a wr ho RA;have HO2:=HO.out.dr.move RA.below;obtain⟨y70,y71,y72,y73,y74,y75⟩:=bs1.cw HO2.inn;have y7l:=Mem.ak HO2.inn bs1.c0;obtain⟨y90,y91,y92,y93,y94,y95⟩:=bs2.cw HO2.inn;have y9l:=Mem.ak HO2.inn bs2.c0;rcases (show i=0∨i=1∨i=2∨i=3∨i=4∨i=5∨i=6∨i=7∨i=8∨i=9∨i=10∨i=11∨i=12 by omega) with rfl | rfl | rfl | rfl | rfl | rfl | rfl | rfl | rfl | rfl | rfl | rfl | rfl
      ·have e10:=RA.k 10;cases ho;exact wv rfl rfl rfl
      ·have e61:a.tmps.getD 61 undef=_:=RA.d 0 rfl;cases ho;exact wv rfl rfl rfl
      ·have e62:a.tmps.getD 62 undef=_:=RA.d 1 rfl;cases ho;exact wv rfl rfl rfl
      ·have e7:=RA.k 7;have e63:a.tmps.getD 63 undef=_:=RA.d 2 rfl;cases ho;exact wy rfl rfl rfl e63 rfl
      ·have e63:a.tmps.getD 63 undef=_:=RA.d 2 rfl;cases ho;refine we2 rfl rfl rfl e63 (oh m4 wr HO2.inn) ?_;rintro e w' ⟨ri,rf,rt,rfl,hb,hn⟩;exact⟨_,rfl,_,rfl,hb,bH (R:=ScRV elOk 1 1) ScRV.le HO2.inn hb (d9 hn nX qF)⟩
      ·have e9:=RA.k 9;have e63:a.tmps.getD 63 undef=_:=RA.d 2 rfl;cases ho;exact wy rfl rfl rfl e63 rfl
      ·have e65:(Fact.mem m4 [4] (ScRV elOk 1 1)).holds (a.tmps.getD 65 undef) win wr:=RA.d 4 rfl;have e66:a.tmps.getD 66 undef=_:=RA.d 5 rfl;have e63:a.tmps.getD 63 undef=_:=RA.d 2 rfl;cases ho;obtain⟨s4,⟨a4,b4,c4,d4,x4,y4,k4,t4⟩,S4,L4⟩:ScRV _ _ _ _ _:=e65;refine we2 rfl rfl rfl e63 (jU _ _ _ s4 _ _ _ s2 1 1 1 61 (m4.wins wr win [4]) wr (Mem.bK HO2.inn win [4]) (HT.out.le (Mem.dw HO2.inn win [4])) t4 (bs2.at'.le (Mem.dw HO2.inn win [4])) L4 Ls2.out zo zo zo) ?_;rintro e w' ⟨s,si,sf,st,rfl,hb,hn,hS,hL⟩;exact⟨_,rfl,_,rfl,hb,fG (R:=ScRV (fun e=>(elOk e)∧¬ (dtEl d=some e)) 6 190) ScRV.le HO2.inn zS (fun d hd=>(RA.rng d (by simp at hd;subst hd;kernel_rfl)).2.2) hb (d9 hn (hS.congr fun e=>and_congr (S4.good e) (not_congr (Is2.out.good e))) hL)⟩
      ·have e64:a.tmps.getD 64 undef=_:=RA.d 3 rfl;have e67:(Fact.mem m4 [6,4] (ScRV (fun e=>(elOk e)∧¬ (dtEl d=some e)) 6 190)).holds (a.tmps.getD 67 undef) win wr:=RA.d 6 rfl;have e63:a.tmps.getD 63 undef=_:=RA.d 2 rfl;cases ho;obtain⟨s6,⟨a6,b6,c6,d6,x6,y6,k6,t6⟩,S6,L6⟩:ScRV _ _ _ _ _:=e67;refine we2 rfl rfl rfl e63 (dB _ _ _ _ _ _ s1 s6 (m4.wins wr win [6,4]) wr (Mem.bK HO2.inn win [6,4]) (bs1.at'.le (Mem.dw HO2.inn win [6,4])) t6) ?_;rintro e w' ⟨rfl,hb⟩;exact⟨_,rfl,_,rfl,hb,congrArg Value.bool (aN (Q.out _ S6))⟩
      ·have e63:a.tmps.getD 63 undef=_:=RA.d 2 rfl;have e68:a.tmps.getD 68 undef=_:=RA.d 7 rfl;cases ho;exact wv rfl rfl rfl
      ·have e69:a.tmps.getD 69 undef=_:=RA.d 8 rfl;cases ho;exact wv rfl rfl rfl
      ·have e70:a.tmps.getD 70 undef=_:=RA.d 9 rfl;cases ho;refine we2 rfl rfl rfl e70 (bJ m4 wr HO2.inn HT.out) ?_;rintro e w' ⟨rfl,hb⟩;exact⟨_,rfl,_,rfl,hb,rfl⟩
      ·have e70:a.tmps.getD 70 undef=_:=RA.d 9 rfl;have e71:a.tmps.getD 71 undef=_:=RA.d 10 rfl;cases ho;exact wv rfl rfl rfl
      ·have e72:a.tmps.getD 72 undef=_:=RA.d 11 rfl;cases ho;exact wv rfl rfl rfl
     ·intro win a wr E;have e6:a.tmps.getD 6 undef=.bool true:=E.fact 12 _ zo rfl;obtain⟨t,d⟩:=a;obtain rfl:d=[]:=E.defers;refine aV zk (hX.out _ _ E.size ⟨?_,HO.out.dr.move E.below⟩) _;simp only[List.map_cons,List.map_nil,e6]
      first | done | rfl
    rintro z' vs w9 - ⟨rfl,hO⟩;simp[litL,lk];have HE:=zh hO.below;clear hO HO;go_wp2;exact hR.out _ _ ⟨rfl,HE.out⟩
   ·have b0:(op.toList==[33,61])=false:=beq_eq_false_iff_ne.2 hne;have Q:=zh (fun x=>Ta HF hE hne Is1.out (x:=x));clear hE hne HF
    go_upto_region 9 with (fail)
    refine aA [5,7,10,11] (fun vs w'=>vs=[.pointer (some ⟨w.heap.size+1,0,none⟩),.pointer (some ⟨gs1,0,none⟩),.int .i64 0,.bool (decide (chkD x 1=0)&&decide (x.kind=d.kind)&&lV op.toList x d)]∧Own w m w' m4 []) ?_ ?_
    ·intro X hX;obtain⟨yx0,yx1,yx2,yx3,yx4⟩:=bx.cw HO.out.inn;have yxl:=Mem.ak HO.out.inn bx.c0;have HB:=zh (kG _ _ x m4 _ HO.out.inn bx.at' (by have:=Cx.out;omega));unfold Dt.val at HB
     go_wp2_with fail
     refine HB.out.mono ?_;rintro e w7 ⟨rfl,hb⟩;clear yx0 yx1 yx2 yx3 yx4 yxl;have HO:=zh (HO.out.move hb);clear hb HB;obtain⟨yx0,yx1,yx2,yx3,yx4⟩:=bx.cw HO.out.inn;have yxl:=Mem.ak HO.out.inn bx.c0;obtain⟨yd0,yd1,yd2,yd3,yd4⟩:=bd.cw HO.out.inn;have ydl:=Mem.ak HO.out.inn bd.c0;have HW:=zh (Q.out x);generalize hwv:(decide (chkD x 1=0)&&decide (x.kind=d.kind)&&lV op.toList x d)=wv at *
     by_cases hc:chkD x 1=0
     ·have c0:(chkD x 1==0)=true:=beq_iff_eq.2 hc;by_cases hk:x.kind=d.kind
      ·have c1:(x.kind==d.kind)=true:=beq_iff_eq.2 hk;have HV:=zh (show lV op.toList x d=wv by rw[← hwv];simp[hc,hk]);have HB:=zh (AU op _ _ x _ _ d m4 _ HO.out.inn bx.at' bd.at');unfold Dt.val at HB;clear hc hk hwv
       go_wp2_with fail
       refine HB.out.mono ?_;rintro e w8 ⟨rfl,hb⟩;have HO:=zh (HO.out.move hb);clear hb HB;rw[HV.out];go_wp2;exact hX.out _ _ rfl ⟨rfl,HO.out⟩
      ·have c1:(x.kind==d.kind)=false:=beq_eq_false_iff_ne.2 hk;have HV:=zh (show wv=false by rw[← hwv];simp[hk]);clear hc hk hwv;go_wp2;exact hX.out _ _ rfl ⟨by rw[HV.out];rfl,HO.out⟩
     ·have c0:(chkD x 1==0)=false:=beq_eq_false_iff_ne.2 hc;have HV:=zh (show wv=false by rw[← hwv];simp[hc]);clear hc hwv;go_wp2;exact hX.out _ _ rfl ⟨by rw[HV.out];rfl,HO.out⟩
    rintro z0 vs w9 - ⟨rfl,hO⟩;simp[litL,lk];clear HO;have HO:=zh hO;clear hO;rw[← Q.out x];obtain⟨y10,y11,y12,y13,y14,y15⟩:=bs1.cw HO.out.inn;have y1l:=Mem.ak HO.out.inn bs1.c0;obtain⟨yx0,yx1,yx2,yx3,yx4⟩:=bx.cw HO.out.inn;have yxl:=Mem.ak HO.out.inn bx.c0;have HB:=zh (ek _ _ _ s1 _ _ x 6 196 m4 _ HO.out.inn HT.out bs1.at' bx.at' (by have:=Cx.out;omega) (by have:=Zx.out;omega) Ls1.out zo (Nat.le_trans (Nat.mul_le_mul_right _ (show x.str.size+1+2≤63 by have:=Zx.out;omega)) zo));unfold RS.val Dt.val at HB
    go_wp2_with fail
    refine HB.out.mono ?_;rintro e w10 ⟨rfl,hb⟩;clear y10 y11 y12 y13 y14 y15 y1l yx0 yx1 yx2 yx3 yx4 yxl;have HO:=zh (HO.out.move hb);clear hb HB;generalize hasD s1 x=hv at *
    clear Q;have hvv:(hv==hv)=true:=beq_self_eq_true hv;have HB:=zh (bJ m4 _ HO.out.inn HT.out)
    go_wp2_with fail
    refine HB.out.mono ?_;rintro e w8 ⟨rfl,hb⟩;have HE:=zh (HO.out.move hb).below;clear hb HB HO;go_wp2;exact hR.out _ _ ⟨rfl,HE.out⟩
  ·have HQ:=zh (Tc hE);have ce:(jL op.toList d != 0)=true:=by simpa using hE
   have HM:=zh (show nk s1=true from aN fun e h=>HQ.out.1 e ((Is1.out.good e).1 h));obtain⟨y10,y11,y12,y13,y14,y15⟩:=bs1.cw HO.out.inn;have y1l:=Mem.ak HO.out.inn bs1.c0;have HB:=zh (gT _ _ _ s1 m4 _ HO.out.inn HT.out bs1.at' (Ls1.out.mono zo zo));unfold RS.val at HB
   go_wp2_with fail
   refine HB.out.mono ?_;rintro e w7 ⟨rfl,hb⟩;clear y10 y11 y12 y13 y14 y15 y1l;rw[HM.out];have HO:=zh (HO.out.move hb);clear hb HB;by_cases hF:ofE d=0
   ·have cf:(ofE d != 0)=false:=by simp[hF]
    have cn:(op.toList==[33,61])=false:=beq_eq_false_iff_ne.2 (HQ.out.2 hF);clear hF hE;have HB:=zh (bJ m4 _ HO.out.inn HT.out)
    go_wp2_with fail
    refine HB.out.mono ?_;rintro e w8 ⟨rfl,hb⟩;have HE:=zh (HO.out.move hb).below;clear hb HB HO;go_wp2;exact hR.out _ _ ⟨rfl,HE.out⟩
   ·have cf:(ofE d != 0)=true:=by simpa using hF
    clear hF hE;have HB:=zh (bJ m4 _ HO.out.inn HT.out)
    go_wp2_with fail
    refine HB.out.mono ?_;rintro e w8 ⟨rfl,hb⟩;have HE:=zh (HO.out.move hb).below;clear hb HB HO;go_wp2;exact hR.out _ _ ⟨rfl,HE.out⟩
end Cl
