/- The law's walk. -/
import Derived.Shelf.Strings.Builder1
import Derived.Shelf.Small.Wraps
import Derived.Shelf.LaysM
import Derived.Shelf.Strconv.Itoa3
import Derived.Test.YtajbfioncdnkcaaGreatDoorProg
import Derived.BigQuiet
import Derived.Deep.Cut
import Derived.Deep.QuietTactic
import Derived.Laws.StructEq
import Derived.Lib.AppendStr
import Derived.Lib.Builder
import Derived.Lib.Hide
import Derived.Lib.ItoaLen
import Derived.Maps.OwnOps
import Derived.Maps.OwnSet
import Derived.OrdersHeld
import Derived.Outline
import Derived.StillTailTactics
import Derived.StringKeys
import Derived.WalkKit
import Derived.WalkLawsBesides
import Derived.WalkSpells
import Derived.Deep.RegionHeld
import Derived.RangeFuncNested
import Derived.RangeFuncBound
import Derived.RangeFuncCalls
import Derived.RangeFuncLeaves
import Derived.OwnWalkIn
import Derived.TacticsInMore
import Derived.LoopNIn
import Derived.LoopIn
import Derived.RegionTactic
import Derived.ChangeAlike
import Derived.Laws.BytesArg
import Derived.Laws.EntriesVeiled
import Derived.Shelf.SlSortCmp.WholeK
import Derived.Laws.CopyOwn
import Derived.Shelf.Spec.SlicesGrow
import Derived.Deep.Slices
import Derived.Lib.SmallJoins
import Derived.ChangeMaps5
import Derived.Carry
import Derived.KernelRfl
import Derived.ChangeArms
import Derived.Test.YtajbfioncdnkcaaGreatDoorCards
import Derived.Test.YtajbfioncdnkcaaGreatDoorTie
import Derived.ProofKit
import Derived.OpenShut
import Derived.Deep.DeepHandedRow
import Derived.Lib.LaidTab
import Derived.Stop.LaidErr
import Derived.Test.YtajbfioncdnkcaaGreatDoorZz
import Derived.Test.YtajbfioncdnkcaaGreatDoorPkM3
import Derived.Test.YtajbfioncdnkcaaGreatDoorPkM1
import Derived.Test.YtajbfioncdnkcaaGreatDoorPkM19
import Derived.Test.YtajbfioncdnkcaaGreatDoorPkM2
import Derived.Test.YtajbfioncdnkcaaGreatDoorPkM40
import Derived.Test.YtajbfioncdnkcaaGreatDoorPkM4
import Derived.Test.YtajbfioncdnkcaaGreatDoorPkM8
import Derived.Test.YtajbfioncdnkcaaGreatDoorPkM7
import Derived.Test.YtajbfioncdnkcaaGreatDoorPkM36
import Derived.Test.YtajbfioncdnkcaaGreatDoorPkM12
import Derived.Test.YtajbfioncdnkcaaGreatDoorPkM6
import Derived.Test.YtajbfioncdnkcaaGreatDoorPkM20
import Derived.Test.YtajbfioncdnkcaaGreatDoorPkM13
import Derived.Test.YtajbfioncdnkcaaGreatDoorPkM59
import Derived.Test.YtajbfioncdnkcaaGreatDoorPkM9
import Derived.Test.YtajbfioncdnkcaaGreatDoorPkM5
import Derived.Test.YtajbfioncdnkcaaGreatDoorPkM10
import Derived.Test.YtajbfioncdnkcaaGreatDoorPkM11
import Derived.Test.YtajbfioncdnkcaaGreatDoorPkM21
import Derived.Test.YtajbfioncdnkcaaGreatDoorPkM16
import Derived.Test.YtajbfioncdnkcaaGreatDoorPkM24
import Derived.Test.YtajbfioncdnkcaaGreatDoorPkM14
import Derived.Test.YtajbfioncdnkcaaGreatDoorPkM18
import Derived.Test.YtajbfioncdnkcaaGreatDoorPkM26
import Derived.Test.YtajbfioncdnkcaaGreatDoorPkM58
import Derived.Test.YtajbfioncdnkcaaGreatDoorPkM28
import Derived.Test.YtajbfioncdnkcaaGreatDoorPkM15
import Derived.Test.YtajbfioncdnkcaaGreatDoorPkM37
import Derived.Test.YtajbfioncdnkcaaGreatDoorPkM22
import Derived.Test.YtajbfioncdnkcaaGreatDoorPkM25
import Derived.Test.YtajbfioncdnkcaaGreatDoorPkM17
import Derived.Test.YtajbfioncdnkcaaGreatDoorPkM23
set_option maxRecDepth 100000
set_option maxHeartbeats 16000000
namespace Go.Proofs
open Go.Shelf
open Go.RowKit in
open Go.RowKit in
def Tryz.Hu:Go.Shelf.Ren:=⟨fun | 122=>140 | 215=>205 | n=>n,fun | 3=>3 | 4=>4 | n=>n,fun | n=>n⟩
theorem Tryz.Rw:Go.Proofs.Lays.n122 Tryz.prog Tryz.Hu:={
 mixed:=by kernel_rfl
 f122:=Tryz.func140.trans (congrArg some zk)
 f215:=Tryz.func205.trans (congrArg some zk)
 t3:=Tryz.underlying3
 a3:=Tryz.isAgg3
 z3:=Tryz.sizeOf3
 v3:=Tryz.zeroValue3
 t4:=Tryz.underlying4
 a4:=Tryz.isAgg4
 z4:=Tryz.sizeOf4
 v4:=Tryz.zeroValue4 }
open Go.RowKit in
theorem Tryz.cmp_Compare_int (x y:Int) (w:World) :
 Calls Tryz.prog 140 #[.int .i64 x,.int .i64 y] w fun e w'=>e=.returned (.int .i64 (Lib.compareInt x y))∧w'=w:=Any.cmp_Compare_int Tryz.Rw x y w
end Go.Proofs
namespace Cl
def cmpU:Option Int→Option Int→Int
 | none,none=>0
 | some _,none => -1
 | none,some _=>1
 | some u,some v=>if near u v then -1 else 1
def cmpN (x y:NS):Int:=cmpU (gz (eT x y)) (gz (eT y x))
def IK (p q:Int→Prop):Prop:=∃u,p u∧¬ q u∧∀v,near v u→(p v↔q v)
theorem JA {x y:NS} (hx:NSok x) (hy:NSok y):cmpN x y = -1↔IK x.has y.has:=by
 have a:=kC (il hx hy);have b:=kC (il hy hx);have key:∀u,gz (eT x y)=some u→(∀v,gz (eT y x)=some v→near u v)→IK x.has y.has:=fun u hu hv=>by
  obtain⟨h1,h2⟩:=a.one u hu;obtain⟨h3,h4⟩:=(gu hx hy u).1 h1;refine ⟨u,h3,h4,fun v hvu=>⟨fun hxv=>?_,fun hyv=>?_⟩⟩
  ·refine Classical.byContradiction fun hn=>?_;rcases h2 v ((gu hx hy v).2 ⟨hxv,hn⟩) with rfl | h
   ·exact zt _ hvu
   ·exact mH h hvu
  ·refine Classical.byContradiction fun hn=>?_;have hm:=(gu hy hx v).2 ⟨hyv,hn⟩
   cases hs:gz (eT y x) with
   | none=>exact b.no hs v hm
   | some z=>
    have hz:=hv z hs;rcases (b.one z hs).2 v hm with rfl | h
    ·exact mH hz hvu
    ·exact mH (oz hz h) hvu
 constructor
 ·intro h;unfold cmpN at h
  cases hr:gz (eT x y) with
  | none=>
   rw[hr] at h
   cases hs:gz (eT y x) with
   | none=>rw[hs] at h;simp[cmpU] at h
   | some v=>rw[hs] at h;simp[cmpU] at h
  | some u=>
   rw[hr] at h;refine key u hr fun v hs=>?_;rw[hs] at h;simp only[cmpU] at h
   split at h
   ·assumption
   ·simp at h
 ·rintro ⟨u,h1,h2,h3⟩;have hm:=(gu hx hy u).2 ⟨h1,h2⟩;unfold cmpN
  cases hr:gz (eT x y) with
  | none=>exact absurd hm (a.no hr u)
  | some z=>
   cases hs:gz (eT y x) with
   | none=>rfl
   | some v=>
    obtain⟨k1,k2⟩:=a.one z hr;obtain⟨k3,k4⟩:=b.one v hs;have k1':=(gu hx hy z).1 k1;have k3':=(gu hy hx v).1 k3;have huz:z=u:=by
     rcases k2 u hm with e | e
     ·exact e.symm
     ·exact absurd ((h3 z e).1 k1'.1) k1'.2
    subst huz;have hzv:near z v:=by
     by_cases e:z=v
     ·subst e;exact absurd k3'.1 h2
     ·rcases qZ e with h | h
      ·exact h
      ·exact absurd ((h3 v h).2 k3'.1) k3'.2
    simp only[cmpU,if_pos hzv]
theorem OI {x y:NS} (hx:NSok x) (hy:NSok y):cmpN x y=0↔x=y:=by
 have a:=kC (il hx hy);have b:=kC (il hy hx);constructor
 ·intro h;unfold cmpN at h;refine rO hx hy fun u=>?_
  cases hr:gz (eT x y) with
  | some z=>
   rw[hr] at h
   cases hs:gz (eT y x) with
   | none=>rw[hs] at h;simp[cmpU] at h
   | some v=>rw[hs] at h;simp only[cmpU] at h;split at h <;> simp at h
  | none=>
   cases hs:gz (eT y x) with
   | some v=>rw[hr,hs] at h;simp[cmpU] at h
   | none=>
    constructor
    ·exact fun hu=>Classical.byContradiction fun hn=>a.no hr u ((gu hx hy u).2 ⟨hu,hn⟩)
    ·exact fun hu=>Classical.byContradiction fun hn=>b.no hs u ((gu hy hx u).2 ⟨hu,hn⟩)
 ·rintro rfl;have e:eT x x=j3:=rO (il hx hx) lM fun u=>by
   rw[gu hx hx];exact⟨fun h=>absurd h.1 h.2,fun h=>absurd h (je u)⟩
  unfold cmpN;rw[e]
  rfl
theorem Lx (x y:NS):cmpN x y = -1∨cmpN x y=0∨cmpN x y=1:=by
 unfold cmpN;cases gz (eT x y) <;> cases gz (eT y x)
 ·exact .inr (.inl rfl)
 ·exact .inr (.inr rfl)
 ·exact .inl rfl
 ·rename_i u v;by_cases h:near u v
  ·exact .inl (if_pos h)
  ·exact .inr (.inr (if_neg h))
theorem OJ {x y:NS} (hx:NSok x) (hy:NSok y):cmpN x y=1↔IK y.has x.has:=by
 rw[← JA hy hx];unfold cmpN
 cases hr:gz (eT x y) with
 | none=>cases hs:gz (eT y x) <;> simp[cmpU]
 | some u=>
  cases hs:gz (eT y x) with
  | none=>simp[cmpU]
  | some v=>
   have h1:=(gu hx hy u).1 ((kC (il hx hy)).one u hr).1;have h2:=(gu hy hx v).1 ((kC (il hy hx)).one v hs).1;have hne:u≠v:=fun e=>by subst e;exact h1.2 h2.1
   simp only[cmpU];rcases qZ hne with h | h
   ·rw[if_pos h,if_neg (mH h)];simp
   ·rw[if_neg (mH h),if_pos h];simp
end Cl
namespace Cl
theorem FV {f g:List UInt8→Bool} {a b:Option (List UInt8)} (h:kI (fun w=>f w && !g w) a) (k:kI (fun w=>g w && !f w) b) :
 match a,b with
 | none,none=>kJ f g 0
 | some _,none=>kJ f g (-1)
 | none,some _=>kJ f g 1
 | some x,some y=>x≠y∧(slt x y→kJ f g (-1))∧(slt y x→kJ f g 1):=by
 have hn:(∀y,(f y && !g y)=false)→∀y,f y=true→g y=true:=fun h y hy=>by have:=h y;simpa [hy] using this
 have kn:(∀y,(g y && !f y)=false)→∀y,g y=true→f y=true:=fun h y hy=>by have:=h y;simpa [hy] using this
 have lo:∀x,(∀y,(f y && !g y)=true→y=x∨slt x y)→∀y,slt y x→f y=true→g y=true:=fun x hx y hy hf=>by
  cases hg:g y with
  | true=>rfl
  | false=>
   rcases hx y (by simp[hf,hg]) with e | e
   ·subst e;exact (jG _ hy).elim
   ·exact (uh hy e).elim
 have lo':∀x,(∀y,(g y && !f y)=true→y=x∨slt x y)→∀y,slt y x→g y=true→f y=true:=fun x hx y hy hf=>by
  cases hg:f y with
  | true=>rfl
  | false=>
   rcases hx y (by simp[hf,hg]) with e | e
   ·subst e;exact (jG _ hy).elim
   ·exact (uh hy e).elim
 have eqb:∀{p q:Bool},(p=true→q=true)→(q=true→p=true)→p=q:=fun {p q} a b=>by cases p <;> cases q <;> simp_all
 cases a with
 | none=>
  cases b with
  | none=>exact .same fun w=>eqb (hn h w) (kn k w)
  | some y=>
   have h1:=k.1;simp only[Bool.and_eq_true,Bool.not_eq_true'] at h1
   exact .gt y h1.2 h1.1 fun z hz=>eqb (hn h z) (lo' y k.2 z hz)
 | some x=>
  have h1:=h.1;simp only[Bool.and_eq_true,Bool.not_eq_true'] at h1
  cases b with
  | none=>exact .lt x h1.1 h1.2 fun z hz=>eqb (lo x h.2 z hz) (kn k z)
  | some y=>
   have k1:=k.1;simp only[Bool.and_eq_true,Bool.not_eq_true'] at k1;refine ⟨fun e=>(by subst e;rw[h1.2] at k1;exact absurd k1.1 zS),fun q=>?_,fun q=>?_⟩
   ·exact .lt x h1.1 h1.2 fun z hz=>eqb (lo x h.2 z hz) (lo' y k.2 z (tZ hz q))
   ·exact .gt y k1.2 k1.1 fun z hz=>eqb (lo x h.2 z (tZ hz q)) (lo' y k.2 z hz)
end Cl
namespace Cl
theorem Dq {p q r:El→Prop} (h:CmpE p q (-1)) (h':CmpE q r (-1)):CmpE p r (-1):=by
 cases h with
 | lt x a b e=>
  cases h' with
  | lt y a' b' e'=>
   rcases El.CZ x y with o | o | o
   ·exact .lt x a (fun hr=>b ((e' x o).2 hr)) fun z hz=>(e z hz).trans (e' z (El.lt_trans hz o))
   ·subst o;exact absurd a' b
   ·exact .lt y ((e y o).2 a') b' fun z hz=>(e z (El.lt_trans hz o)).trans (e' z hz)
theorem LF {p q r:El→Prop} {x y z:Int} (h1:CmpE p q x) (h2:CmpE q r y) (h3:CmpE p r z) (hx:x≤0) (hy:y≤0):z≤0∧(z=0↔x=0∧y=0):=by
 have r1:=h1.range;have r2:=h2.range;by_cases ex:x=0
 ·have e:=h1.zero.1 ex;have h4:=h2.congr (fun w=>(e w).symm) (fun _=>Iff.rfl);have:=nA h3 h4;omega
 ·obtain rfl:x = -1:=zo;by_cases ey:y=0
  ·have e:=h2.zero.1 ey;have h4:=h1.congr (fun _=>Iff.rfl) e;have:=nA h3 h4;omega
  ·obtain rfl:y = -1:=zo;have:=nA h3 (Dq h1 h2);omega
theorem LG {p q:El→Prop} {c:Int} (h:CmpE p (fun a=>p a∨q a) c):c=1↔¬ ∀a,q a→p a:=by
 cases h with
 | same h=>simp;intro a ha;exact (h a).2 (.inr ha)
 | lt x a b _=>exact absurd (.inl a) b
 | gt x a b _=>simp;exact⟨x,b.resolve_left a,a⟩
theorem Qh {r s:RS} (h:r.nul≠s.nul):CmpE r.has s.has (if r.nul then -1 else 1):=by
 cases hr:r.nul with
 | true=>
  rw[hr] at h
  exact .lt .nul hr (fun hs=>h hs.symm) fun y hy=>by cases y <;> simp[El.lt,El.rk] at hy
 | false=>
  rw[hr] at h;exact .gt .nul (fun e=>by simp[RS.has,hr] at e) (by cases hs:s.nul with | true=>exact hs | false=>exact absurd hs.symm h) fun y hy=>by cases y <;> simp[El.lt,El.rk] at hy
theorem Qi {r s:RS} (h0:r.nul=s.nul) (h:r.fal≠s.fal):CmpE r.has s.has (if r.fal then -1 else 1):=by
 have hb:∀y,El.lt y .fal→(r.has y↔s.has y):=fun y hy=>by cases y <;> simp[El.lt,El.rk] at hy;simp[RS.has,h0]
 cases hr:r.fal with
 | true=>
  rw[hr] at h
  exact .lt .fal hr (fun hs=>h hs.symm) hb
 | false=>
  rw[hr] at h;exact .gt .fal (fun e=>by simp[RS.has,hr] at e) (by cases hs:s.fal with | true=>exact hs | false=>exact absurd hs.symm h) hb
theorem Qe {r s:RS} (h0:r.nul=s.nul) (h1:r.fal=s.fal) (h:r.tru≠s.tru):CmpE r.has s.has (if r.tru then -1 else 1):=by
 have hb:∀y,El.lt y .tru→(r.has y↔s.has y):=fun y hy=>by cases y <;> simp[El.lt,El.rk] at hy <;> simp[RS.has,h0,h1]
 cases hr:r.tru with
 | true=>
  rw[hr] at h
  exact .lt .tru hr (fun hs=>h hs.symm) hb
 | false=>
  rw[hr] at h;exact .gt .tru (fun e=>by simp[RS.has,hr] at e) (by cases hs:s.tru with | true=>exact hs | false=>exact absurd hs.symm h) hb
theorem Qg {r s:RS} (h0:r.nul=s.nul) (h1:r.fal=s.fal) (h2:r.tru=s.tru) (h:cmpN r.ns s.ns≠0):CmpE r.has s.has (cmpN r.ns s.ns):=by
 have hb:∀u,(∀v,near v u→(r.ns.has v↔s.ns.has v))→∀y,El.lt y (.num u)→(r.has y↔s.has y):=fun u hu y hy=>by
  cases y with
  | nul=>simp[RS.has,h0]
  | fal=>simp[RS.has,h1]
  | tru=>simp[RS.has,h2]
  | num v=>exact hu v hy
  | str w=>simp[El.lt,El.rk] at hy
 rcases Lx r.ns s.ns with e | e | e
 ·rw[e];obtain⟨u,a,b,c⟩:=(JA r.lJ s.lJ).1 e;exact .lt (.num u) a b (hb u c)
 ·exact absurd e h
 ·rw[e];obtain⟨u,a,b,c⟩:=(OJ r.lJ s.lJ).1 e;exact .gt (.num u) b a (hb u fun v hv=>(c v hv).symm)
theorem Qf {r s:RS} (h0:r.nul=s.nul) (h1:r.fal=s.fal) (h2:r.tru=s.tru) (h3:cmpN r.ns s.ns=0) {c:Int} (h:kJ (Sem r.t) (Sem s.t) c):CmpE r.has s.has c:=by
 have hn:=(OI r.lJ s.lJ).1 h3;have hb:∀y,(∀w,y=.str w→Sem r.t w=Sem s.t w)→(r.has y↔s.has y):=fun y hy=>by
  cases y with
  | nul=>simp[RS.has,h0]
  | fal=>simp[RS.has,h1]
  | tru=>simp[RS.has,h2]
  | num v=>simp[RS.has,hn]
  | str w=>simp[RS.has,hy w rfl]
 have hb':∀x,(∀z,slt z x→Sem r.t z=Sem s.t z)→∀y,El.lt y (.str x)→(r.has y↔s.has y):=fun x hx y hy=>hb y fun w e=>by subst e;exact hx w hy
 cases h with
 | same h=>exact .same fun y=>hb y fun w _=>h w
 | lt x a b e=>exact .lt (.str x) a (fun hs=>by simp only[RS.has] at hs;rw[b] at hs;cases hs) (hb' x e)
 | gt x a b e=>exact .gt (.str x) (fun hs=>by simp only[RS.has] at hs;rw[a] at hs;cases hs) b (hb' x e)
end Cl
namespace Cl
open Go Go.RowKit Go.Proofs
theorem O0:∀x y:List UInt8,x.length=y.length→(Op.bytesLess x y=true↔lex x y)
 | [],[],_=>by simp[Op.bytesLess,lex]
 | [],_::_,h=>by simp at h
 | _::_,[],h=>by simp at h
 | a::x,b::y,h=>by
  have ih:=O0 x y (by simpa using h);simp[Op.bytesLess,lex,ih]
def cmpO:Option (List UInt8)→Option (List UInt8)→Int
 | none,none=>0
 | some _,none => -1
 | none,some _=>1
 | some x,some y=>if Lib.compareInt x.length y.length=0 then cmpS x y else Lib.compareInt x.length y.length
theorem RU {f g:List UInt8→Bool} {a b:Option (List UInt8)} (h:kI (fun w=>f w && !g w) a) (k:kI (fun w=>g w && !f w) b):kJ f g (cmpO a b):=by
 have q:=FV h k
 cases a with
 | none=>
  cases b with
  | none=>exact q
  | some y=>exact q
 | some x=>
  cases b with
  | none=>exact q
  | some y=>
   obtain⟨hne,h1,h2⟩:=q;show kJ f g (if Lib.compareInt x.length y.length=0 then cmpS x y else Lib.compareInt x.length y.length);have hc:Lib.compareInt x.length y.length=if x.length<y.length then -1 else if x.length > y.length then 1 else 0:=by
    unfold Lib.compareInt;by_cases p1:x.length<y.length
    ·rw[if_pos zo,if_pos p1]
    ·rw[if_neg zo,if_neg p1];by_cases p2:x.length > y.length
     ·rw[if_pos zo,if_pos p2]
     ·rw[if_neg zo,if_neg p2]
   rw[hc];by_cases p1:x.length<y.length
   ·rw[if_pos p1,if_neg zo];exact h1 (.inl p1)
   ·rw[if_neg p1];by_cases p2:x.length > y.length
    ·rw[if_pos p2,if_neg zo];exact h2 (.inl p2)
    ·rw[if_neg p2,if_pos rfl];have he:x.length=y.length:=zo;unfold cmpS;by_cases p3:Op.bytesLess x y=true
     ·rw[if_pos p3];exact h1 (.inr ⟨he,(O0 x y he).1 p3⟩)
     ·rw[if_neg p3,if_neg hne];rcases ug x y with t | t | t
      ·rcases t with t | ⟨-,t⟩
       ·omega
       ·exact absurd ((O0 x y he).2 t) p3
      ·exact absurd t hne
      ·exact h2 t
theorem Fw (A:Table) (x:List UInt8):Sem (cZ A) x=Sem A x:=by
 rw[gD (iV A)];exact (uM A).2 x
theorem ze:optV none=.tuple #[.string ⟨#[]⟩,.bool false]:=rfl
theorem y9 (x:List UInt8):optV (some x)=.tuple #[.string (bstr x),.bool true]:=rfl
theorem zA (v0 v1:Value) (A B:Table) (m:Mem) (w:World) (hm:m.inn w) (htab:TabM m) (hA:aI m v0 A) (hB:aI m v1 B) (hlen:(A.length+2)*(B.length+2)≤300000) :
 Calls Tryz.prog 104 #[.agg #[v0],.agg #[v1]] w fun e w'=>∃c,e=.returned (.int .i64 c)∧Below w.heap.size w w'∧kJ (Sem A) (Sem B) c:=by
 have hF:=Fits.of (A:=A) (B:=B) (Nat.le_refl _) (Nat.le_refl _) zo;have hO:=((Own.start hm).al #[v0] 27).al #[v1] 27;have hsz1:(w.alloc (.cells #[v0] 27)).heap.size=w.heap.size+1:=by simp
 rw[hsz1] at hO;have HO:=zh hO;have HA:=zh (fun w (hw:m.inn w)=>mi v0 A m w hw htab hA hF.a);have HB:=zh (fun mk w (hw:mk.inn w) (hle:m.le mk)=>mi v1 B mk w hw (htab.le hle) (aK hle hB) hF.b);clear hO hsz1;refine aj fun R hR=>?_;obtain⟨va,vc,rfl,-⟩:=hA;obtain⟨vb,vd,rfl,-⟩:=hB
 go_enter Tryz.func104,Tryz.ntmps104
 go_wp2;refine aA [2,3] (fun vs w'=>∃(r1 r2:Value) (mk:Mem),vs=[.pointer (some ⟨w.heap.size,0,none⟩),.pointer (some ⟨w.heap.size+1,0,none⟩)] ∧
  Own w m w' mk [.obj (w.heap.size+1) 27 #[r2],.obj w.heap.size 27 #[r1]]∧m.le mk∧aI mk r1 (cZ A)∧aI mk r2 (cZ B)) ?_ ?_
 ·intro X hX;refine mJ (fun j w'=>(j≠4→j≠5→bI w' w.heap.size 27 #[.slice va A.length vc])∧(j≠5→bI w' (w.heap.size+1) 27 #[.slice vb B.length vd])) zk ?_;have hO:=HO.out.dr;refine mK 0 (fun w'=>bI w' w.heap.size 27 #[.slice va A.length vc]) rfl zk (fun _ _ _ h=>h) (fun j w' hj hd=>hd.1 (by rintro rfl;exact qK zk hj) (by rintro rfl;exact qK zk hj)) hO.swap.obj (au rfl fun w' hS'=>by have q:=hS'.cell (i:=0) rfl;go_simp;rfl) ?_;refine mK 2 (fun w'=>bI w' (w.heap.size+1) 27 #[.slice vb B.length vd]) rfl zk (fun _ _ _ h=>h) (fun j w' hj hd=>hd.2 (by rintro rfl;exact qK zk hj)) hO.obj (au rfl fun w' hS'=>by have q:=hS'.cell (i:=0) rfl;go_simp;rfl) ?_;refine bz 1 zk (aB rfl rfl (dI (by go_simp) (HA.out _ hO.inn) ?_));rintro e w1 ⟨r1,rfl,hb1,hr1⟩;have hO2:=hO.call hb1;have hle:=Mem.eO (w:=w1) hO.inn;refine ⟨_,rfl,.inr ⟨fun _ _=>hO2.swap.obj,fun _=>hO2.obj⟩,?_⟩;go_simp;refine bz 3 zk (aB rfl rfl (dI (by go_simp) (HB.out _ _ hO2.inn hle) ?_));rintro e w2 ⟨r2,rfl,hb2,hr2⟩;have hO3:=hO2.call hb2;have hle2:=Mem.eO (w:=w2) hO2.inn;refine ⟨_,rfl,.inr ⟨fun _ _=>hO3.swap.obj,fun _=>hO3.obj⟩,?_⟩;obtain⟨xa,xc,rfl⟩:∃xa xc,r1=.slice xa (cZ A).length xc:=by obtain⟨x,y,e,-⟩:=hr1;exact⟨x,y,e⟩
  obtain⟨ya,yc,rfl⟩:∃xa xc,r2=.slice xa (cZ B).length xc:=by obtain⟨x,y,e,-⟩:=hr2;exact⟨x,y,e⟩
  go_simp;have f1:=hO3.swap.obj.frozen 0;have c1:=hO3.swap.obj.cell (i:=0) rfl;have hO4:=hO3.swap.set 0 (.slice xa (cZ A).length xc);have f3:=hO4.swap.obj.frozen 0;have c3:=hO4.swap.obj.cell (i:=0) rfl;have hO6:=hO4.swap.set 0 (.slice ya (cZ B).length yc);refine bz 4 zk (aB rfl rfl (aS zg ⟨.inr ⟨fun h=>absurd rfl h,fun _=>hO4.swap.obj⟩,?_⟩));refine bz 5 zk (aB rfl rfl (aS zg ⟨.inr ⟨fun _ h=>absurd rfl h,fun h=>absurd rfl h⟩,?_⟩));refine iA zk ?_ _;exact hX.out _ _ rfl ⟨_,_,_,rfl,hO6,Mem.le_trans hle hle2,aK hle2 hr1,hr2⟩
 rintro z vs w1 - ⟨r1,r2,mk,rfl,hO,hmk,hr1,hr2⟩;simp[litL,lk];clear HO HA HB;have hgAl:=iq A;have hgBl:=iq B;have hmul:((cZ A).length+2)*((cZ B).length+2)≤(A.length+2)*(B.length+2):=Nat.mul_le_mul zo zo;have hmul2:((cZ B).length+2)*((cZ A).length+2)≤300000:=by rw[Nat.mul_comm];omega
 have hsA:=Fw A;have hsB:=Fw B;have HF:=zh (zi (Fits.of (A:=cZ A) (B:=cZ B) (Nat.le_refl _) (Nat.le_refl _) zo) (zi (Fits.of (A:=cZ B) (B:=cZ A) (Nat.le_refl _) (Nat.le_refl _) zo) (zi hsA (zi hsB (zi (show ((cZ A).length+2)*((cZ B).length+2)≤300000 by omega) hmul2)))));clear hgAl hgBl hmul hmul2 hsA hsB hF hlen;generalize cZ A=A' at *
 generalize cZ B=B' at *
 have g1:=hO.obj.cell (i:=0) rfl;have g2:=hO.swap.obj.cell (i:=0) rfl;have HM:=zh (mh r1 r2 A' B' mk _ hO.inn (htab.le hmk) hr1 hr2 HF.out.1);have HO:=zh (zi hO (zi hr1 (zi hr2 hmk)));clear hO hr1 hr2 hmk
 go_wp2_with fail
 refine HM.out.mono ?_;rintro e w2 ⟨d1,D1,rfl,hb2,hd1,hl1,hlen1⟩;clear HM g1 g2;have hO2:=HO.out.1.call hb2;have hle2:=Mem.eO (w:=w2) HO.out.1.inn;have HL:=zh (oZ d1 D1 _ _ hO2.inn (htab.le (Mem.le_trans HO.out.2.2.2 hle2)) hd1 (by have:=HF.out.2.2.2.2.1;omega));have HO2:=zh (zi hO2 (zi (aK hle2 HO.out.2.1) (zi (aK hle2 HO.out.2.2.1) (Mem.le_trans HO.out.2.2.2 hle2))));have Hl1:=zh hl1;clear hO2 hle2 hb2 HO hd1 hl1 hlen1
 go_wp2_with fail
 refine HL.out.mono ?_;rintro e w3 ⟨o1,rfl,hb3,hle1⟩;have hO3:=HO2.out.1.call hb3;have hq:=Mem.eO (w:=w3) HO2.out.1.inn;have hO3:=zh (zi hO3 (zi (aK hq HO2.out.2.1) (zi (aK hq HO2.out.2.2.1) (Mem.le_trans HO2.out.2.2.2 hq))));have Hl1':=zh (show kI (fun x=>Sem A x && !Sem B x) o1 by
  have e:Sem D1=fun x=>Sem A x && !Sem B x:=by
   funext x;rw[Hl1.out.sem x,HF.out.2.2.1 x,HF.out.2.2.2.1 x]
  rw[← e];exact hle1)
 clear hle1 Hl1 HL HO2 hb3 hq D1;generalize hmm:(mk.grow w1 w2).grow w2 w3=mk3 at *
 clear hmm;have g1:=hO3.out.1.obj.cell (i:=0) rfl;have g2:=hO3.out.1.swap.obj.cell (i:=0) rfl;have HM:=zh (mh r2 r1 B' A' mk3 _ hO3.out.1.inn (htab.le hO3.out.2.2.2) hO3.out.2.2.1 hO3.out.2.1 HF.out.2.1);obtain⟨s1,b1,e1⟩:∃s1 b1,optV o1=.tuple #[.string s1,.bool b1]:=⟨_,_,rfl⟩;have E1:=zh e1;rw[e1];clear e1
 go_wp2_with fail
 refine HM.out.mono ?_;rintro e w4 ⟨d2,D2,rfl,hb4,hd2,hl2,hlen2⟩;clear HM g1 g2;have hO4:=hO3.out.1.call hb4;have hle4:=Mem.eO (w:=w4) hO3.out.1.inn;have HL:=zh (oZ d2 D2 _ _ hO4.inn (htab.le (Mem.le_trans hO3.out.2.2.2 hle4)) hd2 (by have:=HF.out.2.2.2.2.2;omega));have HO4:=zh hO4;have Hl2:=zh hl2;clear hO4 hle4 hb4 hO3 hd2 hl2 hlen2
 go_wp2_with fail
 refine HL.out.mono ?_;rintro e w5 ⟨o2,rfl,hb5,hle2⟩;have hO5:=HO4.out.call hb5;have Hl2':=zh (show kI (fun x=>Sem B x && !Sem A x) o2 by
  have e:Sem D2=fun x=>Sem B x && !Sem A x:=by
   funext x;rw[Hl2.out.sem x,HF.out.2.2.2.1 x,HF.out.2.2.1 x]
  rw[← e];exact hle2)
 have HC:=zh (RU Hl1'.out Hl2'.out);have HO5:=zh hO5;clear hle2 Hl2 HL HO4 hb5 hO5 D2 HF Hl1' Hl2' htab;have E1:=E1.out
 cases o1 with
 | none=>
  rw[ze] at E1;cases E1
  cases o2 with
  | none=>
   rw[ze];go_wp2
   exact hR.out _ _ ⟨_,rfl,HO5.out.below,HC.out⟩
  | some y=>
   rw[y9];go_wp2
   exact hR.out _ _ ⟨_,rfl,HO5.out.below,HC.out⟩
 | some x=>
  rw[y9] at E1;cases E1
  cases o2 with
  | none=>
   rw[ze];go_wp2
   exact hR.out _ _ ⟨_,rfl,HO5.out.below,HC.out⟩
  | some y=>
   rw[y9]
   go_wp2_with first | ((go_at_call 140);refine (Tryz.cmp_Compare_int _ _ _).mono ?_;rintro e w' ⟨rfl,rfl⟩) | ((go_at_call 143);refine (Cg _ _ _).mono ?_;rintro e w' ⟨rfl,rfl⟩)
   have hO6:=HO5.out.al #[.int .i64 (Lib.compareInt (bstr x).size (bstr y).size),.int .i64 (cmpS (bstr x).data.toList (bstr y).data.toList)] 3;refine (Nc _ _ _ _ _ hO6.obj).mono ?_;rintro e w7 ⟨rfl,rfl⟩;have H6:=zh hO6.below;have HC2:Hid (kJ (Sem A) (Sem B) (if Lib.compareInt (bstr x).size (bstr y).size=0 then cmpS (bstr x).data.toList (bstr y).data.toList else Lib.compareInt (bstr x).size (bstr y).size)):=HC;clear hO6 HC;generalize (if Lib.compareInt (bstr x).size (bstr y).size=0 then cmpS (bstr x).data.toList (bstr y).data.toList else Lib.compareInt (bstr x).size (bstr y).size)=c at *
   generalize w'.alloc (.cells #[.int .i64 (Lib.compareInt (bstr x).size (bstr y).size),.int .i64 (cmpS (bstr x).data.toList (bstr y).data.toList)] 3)=w8 at *
   go_wp2;exact hR.out _ _ ⟨_,rfl,H6.out,HC2.out⟩
theorem Jh {x:NS} (h:NSok x):KA (gz x):=fun u hu=>by
 have:=h.kD ((kC h).one u hu).1;unfold bP maxU at this;omega
theorem CV (vi vf ui uf:Value) (I F J G:List Spn) (m:Mem) (w:World) (hm:m.inn w) (h1:bF m vi vf I F) (h2:bF m ui uf J G) (hI:I.length≤250) (hF:F.length≤250) (hJ:J.length≤250) (hG:G.length≤250) :
 Calls Tryz.prog 103 #[.agg #[vi,vf],.agg #[ui,uf]] w fun e w'=>e=.returned (.int .i64 (cmpN (mkN I F) (mkN J G)))∧Below w.heap.size w w':=by
 have hO:=((Own.start hm).al #[vi,vf] 24).al #[ui,uf] 24;have hsz1:(w.alloc (.cells #[vi,vf] 24)).heap.size=w.heap.size+1:=by simp
 rw[hsz1] at hO;have HA:=zh (sH vi vf I F ui uf J G m _ hO.inn h1 h2 zo zo zo zo);have HB:=zh (fun (mk:Mem) w' (h:mk.inn w') (hl:m.le mk)=>sH ui uf J G vi vf I F mk w' h (h2.le hl) (h1.le hl) zo zo zo zo);obtain⟨a1,c1,b1,d1,rfl,rfl⟩:=h1.spell;obtain⟨a2,c2,b2,d2,rfl,rfl⟩:=h2.spell;have hxo:=jk I F;have hyo:=jk J G;have hl1:=uH (fF hI hF) (fF hJ hG);have hl2:=uH (fF hJ hG) (fF hI hF);have l1:=hl1.i;have l2:=hl1.f;have l3:=hl2.i;have l4:=hl2.f;rw[← NS.ky] at l2 l4;have hr1:=jv (il hxo hyo);have hr2:=jv (il hyo hxo);have hi1:=Jh (il hxo hyo);have hi2:=Jh (il hyo hxo);have hcmp:cmpN (mkN I F) (mkN J G)=cmpU (gz (eT (mkN I F) (mkN J G))) (gz (eT (mkN J G) (mkN I F))):=rfl;have HO:=zh hO;have HX:=zh (zi hr1 (zi hr2 (zi hi1 (zi hi2 hcmp))));clear hO h1 h2 hsz1 hr1 hr2 hi1 hi2 hcmp hl1 hl2 hxo hyo;refine aj fun R hR=>?_;generalize eT (mkN I F) (mkN J G)=x at *
 generalize eT (mkN J G) (mkN I F)=y at *
 go_enter Tryz.func103,Tryz.ntmps103
 go_wp2_with fail
 refine HA.out.mono ?_;rintro e w1 ⟨ri,rf,rfl,hb1,hn1⟩;have hO1:=HO.out.call hb1;have HL:=zh (sI _ _ x.i x.rf _ w1 hO1.inn hn1 zo zo);obtain⟨xa,xc,ya,yc,rfl,rfl⟩:=hn1.spell;have HO1:=zh hO1;clear HA HO hO1 hb1 hn1
 go_wp2_with fail
 refine HL.out.mono ?_;rintro e w2 ⟨rfl,hb2⟩;rw[HX.out.1];have hO2:=HO1.out.move hb2;have HM:=zh (HB.out _ w2 hO2.inn hO2.ext.1);have d1:=hO2.obj.cell (i:=0) rfl;have d2:=hO2.obj.cell (i:=1) rfl;have d3:=hO2.obj.lt;have d4:=hO2.swap.obj.cell (i:=0) rfl;have d5:=hO2.swap.obj.cell (i:=1) rfl;have d6:=hO2.swap.obj.lt;have HO2:=zh hO2;clear hO2 hb2 HO1 HB HL
 go_wp2_with fail
 refine HM.out.mono ?_;rintro e w3 ⟨ri,rf,rfl,hb3,hn3⟩;have hO3:=HO2.out.call hb3;have HL:=zh (sI _ _ y.i y.rf _ w3 hO3.inn hn3 zo zo);obtain⟨xa,xc,ya,yc,rfl,rfl⟩:=hn3.spell;have HO3:=zh hO3;clear HM HO2 hO3 hb3 hn3 d1 d2 d3 d4 d5 d6
 go_wp2_with fail
 refine HL.out.mono ?_;rintro e w4 ⟨rfl,hb4⟩;rw[HX.out.2.1];have HE:=zh (HO3.out.move hb4).below;have HI:=zh HX.out.2.2;clear HL HO3 hb4 HX;rw[HI.out.2.2] at hR;have hp:=HI.out.1;have hq:=HI.out.2.1;clear HI;generalize gz x=r at *
 generalize gz y=s at *
 cases r with
 | none=>
  cases s with
  | none=>
   go_wp2
   exact hR.out _ _ ⟨rfl,HE.out⟩
  | some v=>
   go_wp2
   exact hR.out _ _ ⟨rfl,HE.out⟩
 | some u=>
  cases s with
  | none=>
   go_wp2
   exact hR.out _ _ ⟨rfl,HE.out⟩
  | some v=>
   have hu:=hp u rfl;have hv:=hq v rfl;have HN:=zh (xq u v w4 hu.1 hu.2 hv.1 hv.2);clear hu hv hp hq
   go_wp2_with fail
   refine HN.out.mono ?_;rintro e w5 ⟨rfl,hb5⟩;have HF:=zh (dE HE.out hb5);have hc:cmpU (some u) (some v)=if near u v then -1 else 1:=rfl;rw[hc] at hR;clear HN hb5 HE hc;by_cases hn:near u v
   ·rw[decide_eq_true hn];rw[if_pos hn] at hR;clear hn;go_wp2;exact hR.out _ _ ⟨rfl,HF.out⟩
   ·rw[decide_eq_false hn];rw[if_neg hn] at hR;clear hn;go_wp2;exact hR.out _ _ ⟨rfl,HF.out⟩
def CmpS (a b:RS) (c:Int):Prop:=(a.gK∧b.gK∧CmpE a.has b.has c)∨(¬ (a.gK∧b.gK)∧c=0)
theorem vZ:Tryz.prog.eqGuardType Tryz.prog.depth 95=false:=by kernel_rfl
theorem vV (a b a' b':Bool) (w:World):(Op.equalIn 10000 95 (.agg #[.bool a,.bool b]) (.agg #[.bool a',.bool b'])).run Tryz.prog w=.ok (a==a'&&b==b') w:=by
 cases a <;> cases b <;> cases a' <;> cases b' <;> kernel_rfl
theorem Si (a b c d e f:Bool) (w:World):(Instr.index 96 (.agg #[.bool a,.bool b,.bool c,.bool d,.bool e,.bool f]) (.int .i64 0)).run Tryz.prog w=.ok (.agg #[.bool a,.bool b]) w:=by kernel_rfl
theorem Sg (a b c d e f:Bool) (w:World):(Instr.index 96 (.agg #[.bool a,.bool b,.bool c,.bool d,.bool e,.bool f]) (.int .i64 1)).run Tryz.prog w=.ok (.agg #[.bool c,.bool d]) w:=by kernel_rfl
theorem Sd (a b c d e f:Bool) (w:World):(Instr.index 96 (.agg #[.bool a,.bool b,.bool c,.bool d,.bool e,.bool f]) (.int .i64 2)).run Tryz.prog w=.ok (.agg #[.bool e,.bool f]) w:=by kernel_rfl
theorem kw (vi vf vt:Value) (A:RS) (ui uf ut:Value) (B:RS) (na ta nb tb:Nat) (m:Mem) (w:World) (hm:m.inn w) (htab:TabM m) (ha:ScAt m vi vf vt A) (hb:ScAt m ui uf ut B) (la:ScLe A na ta) (lb:ScLe B nb tb) (hn1:na≤250) (hn2:nb≤250) (ht:(ta+2)*(tb+2)≤300000) :
 Calls Tryz.prog 47 #[A.val vi vf vt,B.val ui uf ut] w fun e w'=>∃c,e=.returned (.int .i64 c)∧Below w.heap.size w w'∧CmpS A B c:=by
 have hta:ta+2≤(ta+2)*(tb+2):=Nat.le_mul_of_pos_right _ zo;have htb:tb+2≤(ta+2)*(tb+2):=Nat.le_mul_of_pos_left _ zo;have htt:(A.t.length+2)*(B.t.length+2)≤300000:=Nat.le_trans (Nat.mul_le_mul (Nat.add_le_add_right la.t 2) (Nat.add_le_add_right lb.t 2)) ht;have hO:=((Own.start hm).al #[.bool A.nul,.bool A.fal,.bool A.tru,vi,vf,vt] 29).al #[.bool B.nul,.bool B.fal,.bool B.tru,ui,uf,ut] 29;simp only[df] at hO;have HVA:=zh (fC vi vf vt A m _ hO.inn htab ha (la.mono zo zo));have HVB:=zh (fun w' (h:m.inn w')=>fC ui uf ut B m w' h htab hb (lb.mono zo zo));have HN:=zh (fun w' (h:m.inn w')=>CV vi vf ui uf A.i A.f B.i B.f m w' h ha.nums hb.nums (Nat.le_trans la.i hn1) (Nat.le_trans la.f hn1) (Nat.le_trans lb.i hn2) (Nat.le_trans lb.f hn2));have HL:=zh (fun w' (h:m.inn w')=>zA vt ut A.t B.t m w' h htab ha.t hb.t htt);obtain⟨a1,b1,a2,b2,a3,b3,rfl,rfl,rfl⟩:=ha.spell;obtain⟨c1,d1,c2,d2,c3,d3,rfl,rfl,rfl⟩:=hb.spell;unfold RS.val;have HO:=zh hO;clear hO ha hb htab hta htb htt ht;refine aj fun R hR=>?_
 go_enter Tryz.func47,Tryz.ntmps47
 go_wp2_with fail
 refine HVA.out.mono ?_;rintro e w1 ⟨rfl,hb1⟩;have hO:=HO.out.move hb1;clear HVA HO hb1;by_cases hva:A.gK
 case neg=>
  rw[aL hva];have HB:=zh hO.below;have HC:=zh (show CmpS A B 0 from .inr ⟨fun h=>hva h.1,rfl⟩);clear hO hva HVB HN HL;go_wp2;exact hR.out _ _ ⟨0,rfl,HB.out,HC.out⟩
 rw[aN hva];have HA:=zh hva;clear hva;obtain⟨q0,q1,q2,q3,q4,q5⟩:=hO.obj.cs6;have q6:=hO.obj.lt;have HO:=zh hO;clear hO
 go_wp2_with fail
 refine (HVB.out _ HO.out.inn).mono ?_;rintro e w2 ⟨rfl,hb2⟩;have hO:=HO.out.move hb2;clear HVB HO hb2 q0 q1 q2 q3 q4 q5 q6;by_cases hvb:B.gK
 case neg=>
  rw[aL hvb];have HB:=zh hO.below;have HC:=zh (show CmpS A B 0 from .inr ⟨fun h=>hvb h.2,rfl⟩);clear hO hvb HN HL;go_wp2;exact hR.out _ _ ⟨0,rfl,HB.out,HC.out⟩
 rw[aN hvb];have HS:=zh (fun (c:Int) (h:CmpE A.has B.has c)=>show CmpS A B c from .inl ⟨HA.out,hvb,h⟩);clear hvb HA;have HE1:=zh (fun (h:A.nul≠B.nul)=>HS.out _ (Qh h));have HE2:=zh (fun (h0:A.nul=B.nul) (h:A.fal≠B.fal)=>HS.out _ (Qi h0 h));have HE3:=zh (fun (h0:A.nul=B.nul) (h1:A.fal=B.fal) (h:A.tru≠B.tru)=>HS.out _ (Qe h0 h1 h));have HE4:=zh (fun (h0:A.nul=B.nul) (h1:A.fal=B.fal) (h2:A.tru=B.tru) (h:cmpN A.ns B.ns≠0)=>HS.out _ (Qg h0 h1 h2 h));have HE5:=zh (fun (h0:A.nul=B.nul) (h1:A.fal=B.fal) (h2:A.tru=B.tru) (h:cmpN A.ns B.ns=0) (c:Int) (k:kJ (Sem A.t) (Sem B.t) c)=>HS.out _ (Qf h0 h1 h2 h k));have hn0:cmpN (mkN A.i A.f) (mkN B.i B.f)=cmpN A.ns B.ns:=rfl;rw[hn0] at HN;clear HS hn0;generalize CmpS A B=CS at *
 generalize cmpN A.ns B.ns=cn at *
 generalize kJ (Sem A.t) (Sem B.t)=CI at *
 generalize A.nul=x0 at *
 generalize A.fal=x1 at *
 generalize A.tru=x2 at *
 generalize B.nul=y0 at *
 generalize B.fal=y1 at *
 generalize B.tru=y2 at *
 have q0:=hO.obj.cell (i:=0) rfl;have q1:=hO.obj.cell (i:=1) rfl;have q2:=hO.obj.cell (i:=2) rfl;have q6:=hO.obj.lt;have p0:=hO.swap.obj.cell (i:=0) rfl;have p1:=hO.swap.obj.cell (i:=1) rfl;have p2:=hO.swap.obj.cell (i:=2) rfl;have p6:=hO.swap.obj.lt;have HO:=zh hO;clear hO;go_wp2;refine ay [2,3,32,33] (fun n vs wr=>∃k:Nat,k≤3∧n=3 - k∧vs=[.pointer (some ⟨w.heap.size,0,none⟩),.pointer (some ⟨w.heap.size+1,0,none⟩),.agg #[.bool x0,.bool y0,.bool x1,.bool y1,.bool x2,.bool y2],.int .i64 k] ∧
  (1≤k→x0=y0)∧(2≤k→x1=y1)∧(3≤k→x2=y2)∧Own w m wr m [.obj (w.heap.size+1) 29 #[.bool y0,.bool y1,.bool y2,.slice c1 B.i.length d1,.slice c2 B.f.length d2,.slice c3 B.t.length d3],.obj w.heap.size 29 #[.bool x0,.bool x1,.bool x2,.slice a1 A.i.length b1,.slice a2 A.f.length b2,.slice a3 A.t.length b3]]) ?_ ?_
 ·exact⟨_,0,zo,rfl,rfl,fun h=>zo,fun h=>zo,fun h=>zo,HO.out⟩
 rintro X z n vs wr hX - ⟨k,hk,rfl,rfl,h1,h2,h3,hO⟩;clear HO q0 q1 q2 q6 p0 p1 p2 p6;simp[litL,lk];have H1:=zh h1;have H2:=zh h2;have H3:=zh h3;have HO:=zh hO;clear h1 h2 h3;rcases (show k=0∨k=1∨k=2∨k=3 by omega) with rfl | rfl | rfl | rfl
 ·have hO2:=hO.al #[.bool x0,.bool y0] 95;have q1:=hO2.obj.cell (i:=0) rfl;have q2:=hO2.obj.cell (i:=1) rfl;have q3:=hO2.obj.lt;have HO2:=zh hO2.tail;have hq:=vV;have hgd:=vZ;have hix:=Si;clear hO hO2;cases x0 <;> cases y0
  all_goals go_wp2
  ·exact hX.out _ _ _ zo rfl ⟨1,zo,rfl,rfl,fun _=>zS,fun h=>zo,fun h=>zo,HO2.out⟩
  ·exact hR.out _ _ ⟨_,rfl,HO2.out.below,HE1.out zD⟩
  ·exact hR.out _ _ ⟨_,rfl,HO2.out.below,HE1.out zD⟩
  ·exact hX.out _ _ _ zo rfl ⟨1,zo,rfl,rfl,fun _=>zS,fun h=>zo,fun h=>zo,HO2.out⟩
 ·have hO2:=hO.al #[.bool x1,.bool y1] 95;have q1:=hO2.obj.cell (i:=0) rfl;have q2:=hO2.obj.cell (i:=1) rfl;have q3:=hO2.obj.lt;have HO2:=zh hO2.tail;have hq:=vV;have hgd:=vZ;have hix:=Sg;clear hO hO2;cases x1 <;> cases y1
  all_goals go_wp2
  ·exact hX.out _ _ _ zo rfl ⟨2,zo,rfl,rfl,fun _=>H1.out zo,fun h=>zS,fun h=>zo,HO2.out⟩
  ·exact hR.out _ _ ⟨_,rfl,HO2.out.below,HE2.out (H1.out zo) zD⟩
  ·exact hR.out _ _ ⟨_,rfl,HO2.out.below,HE2.out (H1.out zo) zD⟩
  ·exact hX.out _ _ _ zo rfl ⟨2,zo,rfl,rfl,fun _=>H1.out zo,fun h=>zS,fun h=>zo,HO2.out⟩
 ·have hO2:=hO.al #[.bool x2,.bool y2] 95;have q1:=hO2.obj.cell (i:=0) rfl;have q2:=hO2.obj.cell (i:=1) rfl;have q3:=hO2.obj.lt;have HO2:=zh hO2.tail;have hq:=vV;have hgd:=vZ;have hix:=Sd;clear hO hO2;cases x2 <;> cases y2
  all_goals go_wp2
  ·exact hX.out _ _ _ zo rfl ⟨3,zo,rfl,rfl,fun _=>H1.out zo,fun h=>H2.out zo,fun h=>zS,HO2.out⟩
  ·exact hR.out _ _ ⟨_,rfl,HO2.out.below,HE3.out (H1.out zo) (H2.out zo) zD⟩
  ·exact hR.out _ _ ⟨_,rfl,HO2.out.below,HE3.out (H1.out zo) (H2.out zo) zD⟩
  ·exact hX.out _ _ _ zo rfl ⟨3,zo,rfl,rfl,fun _=>H1.out zo,fun h=>H2.out zo,fun h=>zS,HO2.out⟩
 ·have q3:=hO.obj.cell (i:=3) rfl;have q4:=hO.obj.cell (i:=4) rfl;have q6:=hO.obj.lt;have p3:=hO.swap.obj.cell (i:=3) rfl;have p4:=hO.swap.obj.cell (i:=4) rfl;have p6:=hO.swap.obj.lt;clear hO
  go_wp2_with fail
  refine (HN.out _ HO.out.inn).mono ?_;rintro e w4 ⟨rfl,hb4⟩;have hO4:=HO.out.move hb4;clear HN HO hb4 q3 q4 q6 p3 p4 p6;by_cases hc:cn=0
  ·subst hc;have q5:=hO4.obj.cell (i:=5) rfl;have q6:=hO4.obj.lt;have p5:=hO4.swap.obj.cell (i:=5) rfl;have p6:=hO4.swap.obj.lt;have HO:=zh hO4;clear hO4
   go_wp2_with fail
   refine (HL.out _ HO.out.inn).mono ?_;rintro e w5 ⟨c,rfl,hb5,hc⟩;have HB:=zh (HO.out.move hb5).below;have HC:=zh (HE5.out (H1.out zo) (H2.out zo) (H3.out zo) zS c hc);clear HL HO hb5 q5 q6 p5 p6 hc;go_wp2;exact hR.out _ _ ⟨_,rfl,HB.out,HC.out⟩
  ·have HC:=zh (HE4.out (H1.out zo) (H2.out zo) (H3.out zo) hc);have HB:=zh hO4.below;have hcn:(cn != 0)=true:=by simpa using hc
   clear hO4 hc HL;go_wp2;exact hR.out _ _ ⟨_,rfl,HB.out,HC.out⟩
theorem oI {A B:RS} {c:Int} (hA:A.gK) (hB:B.gK) (h:CmpS A B c):CmpE A.has B.has c:=by
 rcases h with ⟨-,-,h⟩ | ⟨h,-⟩
 ·exact h
 ·exact absurd ⟨hA,hB⟩ h
theorem SV {p q:El→Prop} {A B s:RS} {c:Int} (hA:ScIs p A) (hB:ScIs q B) (h:ScIs (fun e=>p e∨q e) s) (hc:CmpS A s c):(c==1) = !subB B A:=by
 have h1:=(oI hA.valid h.valid hc).congr hA.mem h.mem;have h2:=LG h1;unfold subB;by_cases k:∀e,q e→p e
 ·have:tf (∀e,(bU B).has e→(bU A).has e)=true:=aN fun e x=>(hA.good e).2 (k e ((hB.good e).1 x));rw[this,beq_eq_false_iff_ne.2 (fun e=>(h2.1 e) k)];rfl
 ·have:tf (∀e,(bU B).has e→(bU A).has e)=false:=aL fun x=>k fun e y=>(hA.good e).1 (x e ((hB.good e).2 y));rw[this,beq_iff_eq.2 (h2.2 k)];rfl
theorem wF (A1 A2 A3:Value) (A:RS) (B1 B2 B3:Value) (B:RS) (C1 C2 C3:Value) (C:RS) (m:Mem) (w:World) (hm:m.inn w) (htab:TabM m) (hA:ScAt m A1 A2 A3 A) (hB:ScAt m B1 B2 B3 B) (hC:ScAt m C1 C2 C3 C) :
 Calls Tryz.prog 11 #[A.val A1 A2 A3,B.val B1 B2 B3,C.val C1 C2 C3] w fun e w'=>e=.returned (.bool true)∧Below w.heap.size w w':=by
 obtain⟨aa,ab,ac,ad,ae,af,rfl,rfl,rfl⟩:=hA.spell;obtain⟨ba,bb,bc,bd,be,bf,rfl,rfl,rfl⟩:=hB.spell;obtain⟨ca,cb,cc,cd,ce,cf,rfl,rfl,rfl⟩:=hC.spell;have hO:=Own.start hm;have l0:=Mem.le_refl m;obtain⟨m1,k1,bA,hO⟩:=kZ 29 hO (hA.le l0);have l1:=Mem.le_trans l0 k1;obtain⟨m2,k2,bB,hO⟩:=kZ 29 hO (hB.le l1);have l2:=Mem.le_trans l1 k2;have bA:=bA.le k2;obtain⟨m3,k3,bC,hO⟩:=kZ 29 hO (hC.le l2);have l3:=Mem.le_trans l2 k3;have bA:=bA.le k3;have bB:=bB.le k3;have HT:=zh (htab.le l3);simp only[df] at hO bB bC;have HO:=zh hO;clear hO htab hA hB hC l1 k1 l2 k2 l3 k3 l0;unfold RS.val;refine aj fun R hR=>?_
 go_enter Tryz.func11,Tryz.ntmps11
 go_upto_region 1 with (fail)
 generalize hW:(((w.alloc (.cells #[.bool A.nul,.bool A.fal,.bool A.tru,.slice aa A.i.length ab,.slice ac A.f.length ad,.slice ae A.t.length af] 29)).alloc (.cells #[.bool B.nul,.bool B.fal,.bool B.tru,.slice ba B.i.length bb,.slice bc B.f.length bd,.slice be B.t.length bf] 29)).alloc (.cells #[.bool C.nul,.bool C.fal,.bool C.tru,.slice ca C.i.length cb,.slice cc C.f.length cd,.slice ce C.t.length cf] 29))=w0 at *
 clear hW;refine aA [3,4,5,30] (fun vs w'=>∃c:Bool,vs=[.pointer (some ⟨w.heap.size,0,none⟩),.pointer (some ⟨w.heap.size+1,0,none⟩),.pointer (some ⟨w.heap.size+1+1,0,none⟩),.bool c]∧Own w m w' m3 []∧(c=false→(∀s∈[A,B,C],gZ s)∧A.gK∧B.gK∧C.gK)) ?_ ?_
 ·intro X hX;obtain⟨yA0,yA1,yA2,yA3,yA4,yA5⟩:=bA.cw HO.out.inn;have yAl:=Mem.ak HO.out.inn bA.c0;obtain⟨yB0,yB1,yB2,yB3,yB4,yB5⟩:=bB.cw HO.out.inn;have yBl:=Mem.ak HO.out.inn bB.c0;obtain⟨yC0,yC1,yC2,yC3,yC4,yC5⟩:=bC.cw HO.out.inn;have yCl:=Mem.ak HO.out.inn bC.c0;have hO2:=HO.out.al #[.bool A.nul,.bool A.fal,.bool A.tru,.slice aa A.i.length ab,.slice ac A.f.length ad,.slice ae A.t.length af,.bool B.nul,.bool B.fal,.bool B.tru,.slice ba B.i.length bb,.slice bc B.f.length bd,.slice be B.t.length bf,.bool C.nul,.bool C.fal,.bool C.tru,.slice ca C.i.length cb,.slice cc C.f.length cd,.slice ce C.t.length cf] 29;have HB:=zh (jc _ [A,B,C] _ _ hO2.ib.inn (Ej hO2 bA.at' bB.at' bC.at'));have HO:=zh hO2.tail;clear hO2
  go_wp2_with fail
  refine HB.out.mono ?_;rintro e w3 ⟨rfl,hb⟩;have HO:=zh (HO.out.move hb);clear HB hb;clear yA0 yA1 yA2 yA3 yA4 yA5 yAl yB0 yB1 yB2 yB3 yB4 yB5 yBl yC0 yC1 yC2 yC3 yC4 yC5 yCl;by_cases h:∀s∈[A,B,C],gZ s
  case neg=>
   rw[aL h];clear h;go_wp2;exact hX.out _ _ rfl ⟨true,rfl,HO.out,fun h=>by cases h⟩
  rw[aN h];have HG0:=zh h;clear h;obtain⟨yA0,yA1,yA2,yA3,yA4,yA5⟩:=bA.cw HO.out.inn;have yAl:=Mem.ak HO.out.inn bA.c0;have HB:=zh (fC _ _ _ A m3 _ HO.out.inn HT.out bA.at' (((gB HG0.out).1).mono zo zo))
  go_wp2_with fail
  refine HB.out.mono ?_;rintro e w3 ⟨rfl,hb⟩;have HO:=zh (HO.out.move hb);clear HB hb;clear yA0 yA1 yA2 yA3 yA4 yA5 yAl;by_cases h:A.gK
  case neg=>
   rw[aL h];clear h;go_wp2;exact hX.out _ _ rfl ⟨true,rfl,HO.out,fun h=>by cases h⟩
  rw[aN h];have HG1:=zh h;clear h;obtain⟨yB0,yB1,yB2,yB3,yB4,yB5⟩:=bB.cw HO.out.inn;have yBl:=Mem.ak HO.out.inn bB.c0;have HB:=zh (fC _ _ _ B m3 _ HO.out.inn HT.out bB.at' (((gB HG0.out).2.1).mono zo zo))
  go_wp2_with fail
  refine HB.out.mono ?_;rintro e w3 ⟨rfl,hb⟩;have HO:=zh (HO.out.move hb);clear HB hb;clear yB0 yB1 yB2 yB3 yB4 yB5 yBl;by_cases h:B.gK
  case neg=>
   rw[aL h];clear h;go_wp2;exact hX.out _ _ rfl ⟨true,rfl,HO.out,fun h=>by cases h⟩
  rw[aN h];have HG2:=zh h;clear h;obtain⟨yC0,yC1,yC2,yC3,yC4,yC5⟩:=bC.cw HO.out.inn;have yCl:=Mem.ak HO.out.inn bC.c0;have HB:=zh (fC _ _ _ C m3 _ HO.out.inn HT.out bC.at' (((gB HG0.out).2.2).mono zo zo))
  go_wp2_with fail
  refine HB.out.mono ?_;rintro e w3 ⟨rfl,hb⟩;have HO:=zh (HO.out.move hb);clear HB hb;clear yC0 yC1 yC2 yC3 yC4 yC5 yCl;by_cases h:C.gK
  case neg=>
   rw[aL h];clear h;go_wp2;exact hX.out _ _ rfl ⟨true,rfl,HO.out,fun h=>by cases h⟩
  rw[aN h];have HG3:=zh h;clear h;go_wp2;exact hX.out _ _ rfl ⟨false,rfl,HO.out,fun _=>⟨HG0.out,HG1.out,HG2.out,HG3.out⟩⟩
 rintro z vs w1 - ⟨c,rfl,hO,hc⟩;simp[litL,lk];clear HO;have HO:=zh hO;have HC:=zh hc;clear hO hc
 cases c with
 | true=>
  clear HC
  go_wp2_with fail
  refine (bJ m3 _ HO.out.inn HT.out).mono ?_;rintro e w2 ⟨rfl,hb⟩;have HE:=zh (HO.out.move hb).below;clear hb HO;go_wp2
  exact hR.out _ _ ⟨rfl,HE.out⟩
 | false=>
  obtain⟨g0,g1,g2,g3⟩:=HC.out rfl;clear HC;have LA:=zh ((gB g0).1);have LB:=zh ((gB g0).2.1);have LC:=zh ((gB g0).2.2);clear g0;have VA:=zh g1;clear g1;have VB:=zh g2;clear g2;have VC:=zh g3;clear g3;obtain⟨PA,GA,SA⟩:∃p:El→Prop,(∀e,(bU A).has e↔p e)∧ScIs p A:=⟨A.has,(iL VA.out).good,iL VA.out⟩;have GA:=zh GA;have SA:=zh SA;obtain⟨PB,GB,SB⟩:∃p:El→Prop,(∀e,(bU B).has e↔p e)∧ScIs p B:=⟨B.has,(iL VB.out).good,iL VB.out⟩;have GB:=zh GB;have SB:=zh SB;obtain⟨PC,GC,SC⟩:∃p:El→Prop,(∀e,(bU C).has e↔p e)∧ScIs p C:=⟨C.has,(iL VC.out).good,iL VC.out⟩;have GC:=zh GC;have SC:=zh SC
  go_upto_region 3 with (fail)
  refine aA [3,4,5,7,8,9] (fun vs w'=>∃x y q:Int,vs=[.pointer (some ⟨w.heap.size,0,none⟩),.pointer (some ⟨w.heap.size+1,0,none⟩),.pointer (some ⟨w.heap.size+1+1,0,none⟩),.int .i64 x,.int .i64 y,.int .i64 q]∧CmpE A.has B.has x∧CmpE B.has C.has y∧CmpE A.has C.has q∧Own w m w' m3 []) ?_ ?_
  ·intro X hX;refine aM 12 6 (fun j=>[Fact.is (·=.agg #[.bool A.nul,.bool A.fal,.bool A.tru,.slice aa A.i.length ab,.slice ac A.f.length ad,.slice ae A.t.length af]),Fact.is (·=.agg #[.bool B.nul,.bool B.fal,.bool B.tru,.slice ba B.i.length bb,.slice bc B.f.length bd,.slice be B.t.length bf]),Fact.is (fun v=>∃c,v=.int .i64 c∧CmpE A.has B.has c),Fact.is (·=.agg #[.bool B.nul,.bool B.fal,.bool B.tru,.slice ba B.i.length bb,.slice bc B.f.length bd,.slice be B.t.length bf]),Fact.is (·=.agg #[.bool C.nul,.bool C.fal,.bool C.tru,.slice ca C.i.length cb,.slice cc C.f.length cd,.slice ce C.t.length cf]),Fact.is (fun v=>∃c,v=.int .i64 c∧CmpE B.has C.has c),Fact.is (·=.agg #[.bool A.nul,.bool A.fal,.bool A.tru,.slice aa A.i.length ab,.slice ac A.f.length ad,.slice ae A.t.length af]),Fact.is (·=.agg #[.bool C.nul,.bool C.fal,.bool C.tru,.slice ca C.i.length cb,.slice cc C.f.length cd,.slice ce C.t.length cf]),Fact.is (fun v=>∃c,v=.int .i64 c∧CmpE A.has C.has c),Fact.is (fun v=>∃c,v=.int .i64 c∧CmpE A.has B.has c),Fact.is (fun v=>∃c,v=.int .i64 c∧CmpE B.has C.has c),Fact.is (fun v=>∃c,v=.int .i64 c∧CmpE A.has C.has c)].getD j Fact.any) zk zk ?_ ?_
   ·intro i hi o win a wr ho RA;have HO2:=HO.out.dr.move RA.below;obtain⟨y30,y31,y32,y33,y34,y35⟩:=bA.cw HO2.inn;have y3l:=Mem.ak HO2.inn bA.c0;obtain⟨y40,y41,y42,y43,y44,y45⟩:=bB.cw HO2.inn;have y4l:=Mem.ak HO2.inn bB.c0;obtain⟨y50,y51,y52,y53,y54,y55⟩:=bC.cw HO2.inn;have y5l:=Mem.ak HO2.inn bC.c0;rcases (show i=0∨i=1∨i=2∨i=3∨i=4∨i=5∨i=6∨i=7∨i=8∨i=9∨i=10∨i=11 by omega) with rfl | rfl | rfl | rfl | rfl | rfl | rfl | rfl | rfl | rfl | rfl | rfl
    ·have e3:=RA.k 3;cases ho;exact wv rfl rfl rfl
    ·have e4:=RA.k 4;cases ho;exact wv rfl rfl rfl
    ·have e32:a.tmps.getD 32 undef=_:=RA.d 0 rfl;have e33:a.tmps.getD 33 undef=_:=RA.d 1 rfl;cases ho;refine we rfl rfl (kw _ _ _ A _ _ _ B 8 8 8 8 m3 wr HO2.inn HT.out bA.at' bB.at' LA.out LB.out zo zo zo) ?_;rintro e w' ⟨c,rfl,hb,hc⟩;exact⟨_,rfl,_,rfl,hb,c,rfl,oI VA.out VB.out hc⟩
    ·have e4:=RA.k 4;cases ho;exact wv rfl rfl rfl
    ·have e5:=RA.k 5;cases ho;exact wv rfl rfl rfl
    ·have e35:a.tmps.getD 35 undef=_:=RA.d 3 rfl;have e36:a.tmps.getD 36 undef=_:=RA.d 4 rfl;cases ho;refine we rfl rfl (kw _ _ _ B _ _ _ C 8 8 8 8 m3 wr HO2.inn HT.out bB.at' bC.at' LB.out LC.out zo zo zo) ?_;rintro e w' ⟨c,rfl,hb,hc⟩;exact⟨_,rfl,_,rfl,hb,c,rfl,oI VB.out VC.out hc⟩
    ·have e3:=RA.k 3;cases ho;exact wv rfl rfl rfl
    ·have e5:=RA.k 5;cases ho;exact wv rfl rfl rfl
    ·have e38:a.tmps.getD 38 undef=_:=RA.d 6 rfl;have e39:a.tmps.getD 39 undef=_:=RA.d 7 rfl;cases ho;refine we rfl rfl (kw _ _ _ A _ _ _ C 8 8 8 8 m3 wr HO2.inn HT.out bA.at' bC.at' LA.out LC.out zo zo zo) ?_;rintro e w' ⟨c,rfl,hb,hc⟩;exact⟨_,rfl,_,rfl,hb,c,rfl,oI VA.out VC.out hc⟩
    ·have e34:(Fact.is (fun v=>∃c,v=.int .i64 c∧CmpE A.has B.has c)).holds (a.tmps.getD 34 undef) win wr:=RA.d 2 rfl;cases ho;obtain⟨c,e34,hc⟩:∃c,_∧_:=e34;exact aB rfl rfl (aD zg ⟨_,rfl,Below.refl _ _,c,rfl,hc⟩)
    ·have e37:(Fact.is (fun v=>∃c,v=.int .i64 c∧CmpE B.has C.has c)).holds (a.tmps.getD 37 undef) win wr:=RA.d 5 rfl;cases ho;obtain⟨c,e37,hc⟩:∃c,_∧_:=e37;exact aB rfl rfl (aD zg ⟨_,rfl,Below.refl _ _,c,rfl,hc⟩)
    ·have e40:(Fact.is (fun v=>∃c,v=.int .i64 c∧CmpE A.has C.has c)).holds (a.tmps.getD 40 undef) win wr:=RA.d 8 rfl;cases ho;obtain⟨c,e40,hc⟩:∃c,_∧_:=e40;exact aB rfl rfl (aD zg ⟨_,rfl,Below.refl _ _,c,rfl,hc⟩)
   ·intro win a wr E;have e3:=E.keep 3 zk;have e4:=E.keep 4 zk;have e5:=E.keep 5 zk;have e7:(Fact.is (fun v=>∃c,v=.int .i64 c∧CmpE A.has B.has c)).holds (a.tmps.getD 7 undef) win wr:=E.fact 9 _ zo rfl;have e8:(Fact.is (fun v=>∃c,v=.int .i64 c∧CmpE B.has C.has c)).holds (a.tmps.getD 8 undef) win wr:=E.fact 10 _ zo rfl;have e9:(Fact.is (fun v=>∃c,v=.int .i64 c∧CmpE A.has C.has c)).holds (a.tmps.getD 9 undef) win wr:=E.fact 11 _ zo rfl;obtain⟨x,e7,hx⟩:∃c,_∧_:=e7;obtain⟨y,e8,hy⟩:∃c,_∧_:=e8;obtain⟨q,e9,hq⟩:∃c,_∧_:=e9;obtain⟨t,d⟩:=a;obtain rfl:d=[]:=E.defers;refine aV zk (hX.out _ _ E.size ⟨x,y,q,?_,hx,hy,hq,HO.out.dr.move E.below⟩) _;simp only[List.map_cons,List.map_nil,e3,e4,e5,e7,e8,e9]
    first | done | rfl
  rintro z0 vs w4 - ⟨x,y,q,rfl,hx,hy,hq,hO⟩;simp[litL,lk];clear HO;have HO:=zh hO;clear hO;have HX:=zh (zi (fun c (h:CmpS B A c)=>nA (oI VB.out VA.out h) hx.swap) (show x=0↔A=B from hx.zero.trans ⟨fun h=>QH VA.out VB.out h,fun h e=>by rw[h]⟩));have hr:x=1∨(x=0∧y=1)∨(x=0∧y=0∧q=0)∨(x=0∧y = -1∧q = -1)∨(x = -1∧y=1)∨(x = -1∧y=0∧q = -1)∨(x = -1∧y = -1∧q = -1):=by
   have r1:=hx.range;have r2:=hy.range;have r3:=hq.range;by_cases h1:x≤0
   ·by_cases h2:y≤0
    ·have:=LF hx hy hq h1 h2;omega
    ·omega
   ·omega
  have HR:=zh hr;clear hx hy hq hr
  go_upto_region 4 with (fail)
  refine aA [3,4,5,86] (fun vs w'=>vs=[.pointer (some ⟨w.heap.size,0,none⟩),.pointer (some ⟨w.heap.size+1,0,none⟩),.pointer (some ⟨w.heap.size+1+1,0,none⟩),.bool false]∧Own w m w' m3 []) ?_ ?_
  ·intro X hX;obtain⟨yA0,yA1,yA2,yA3,yA4,yA5⟩:=bA.cw HO.out.inn;have yAl:=Mem.ak HO.out.inn bA.c0;obtain⟨yB0,yB1,yB2,yB3,yB4,yB5⟩:=bB.cw HO.out.inn;have yBl:=Mem.ak HO.out.inn bB.c0;have HB:=zh (kw _ _ _ B _ _ _ A 8 8 8 8 m3 _ HO.out.inn HT.out bB.at' bA.at' LB.out LA.out zo zo zo);unfold RS.val at HB
   go_wp2_with fail
   refine HB.out.mono ?_;rintro e w5 ⟨c,rfl,hb,hc⟩;clear yA0 yA1 yA2 yA3 yA4 yA5 yAl yB0 yB1 yB2 yB3 yB4 yB5 yBl;obtain rfl:=HX.out.1 c hc;clear hc;have HO:=zh (HO.out.move hb);clear hb HB;have HX:=zh HX.out.2;obtain⟨yA0,yA1,yA2,yA3,yA4,yA5⟩:=bA.cw HO.out.inn;have yAl:=Mem.ak HO.out.inn bA.c0;obtain⟨yB0,yB1,yB2,yB3,yB4,yB5⟩:=bB.cw HO.out.inn;have yBl:=Mem.ak HO.out.inn bB.c0;have HB:=zh (dB _ _ _ _ _ _ A B m3 _ HO.out.inn bA.at' bB.at');unfold RS.val at HB;rcases HR.out with rfl | ⟨rfl,rfl⟩ | ⟨rfl,rfl,rfl⟩ | ⟨rfl,rfl,rfl⟩ | ⟨rfl,rfl⟩ | ⟨rfl,rfl,rfl⟩ | ⟨rfl,rfl,rfl⟩
   ·have HQ:=zh (show tf (A=B)=false from aL (fun h=>absurd (HX.out.2 h) zD));rw[HQ.out] at HB
    go_wp2_with fail
    refine HB.out.mono ?_;rintro e w6 ⟨rfl,hb⟩;have HO:=zh (HO.out.move hb);clear hb HB;go_wp2;exact hX.out _ _ rfl ⟨rfl,HO.out⟩
   ·have HQ:=zh (show tf (A=B)=true from aN (HX.out.1 rfl));rw[HQ.out] at HB
    go_wp2_with fail
    refine HB.out.mono ?_;rintro e w6 ⟨rfl,hb⟩;have HO:=zh (HO.out.move hb);clear hb HB;go_wp2;exact hX.out _ _ rfl ⟨rfl,HO.out⟩
   ·have HQ:=zh (show tf (A=B)=true from aN (HX.out.1 rfl));rw[HQ.out] at HB
    go_wp2_with fail
    refine HB.out.mono ?_;rintro e w6 ⟨rfl,hb⟩;have HO:=zh (HO.out.move hb);clear hb HB;go_wp2;exact hX.out _ _ rfl ⟨rfl,HO.out⟩
   ·have HQ:=zh (show tf (A=B)=true from aN (HX.out.1 rfl));rw[HQ.out] at HB
    go_wp2_with fail
    refine HB.out.mono ?_;rintro e w6 ⟨rfl,hb⟩;have HO:=zh (HO.out.move hb);clear hb HB;go_wp2;exact hX.out _ _ rfl ⟨rfl,HO.out⟩
   ·have HQ:=zh (show tf (A=B)=false from aL (fun h=>absurd (HX.out.2 h) zD));rw[HQ.out] at HB
    go_wp2_with fail
    refine HB.out.mono ?_;rintro e w6 ⟨rfl,hb⟩;have HO:=zh (HO.out.move hb);clear hb HB;go_wp2;exact hX.out _ _ rfl ⟨rfl,HO.out⟩
   ·have HQ:=zh (show tf (A=B)=false from aL (fun h=>absurd (HX.out.2 h) zD));rw[HQ.out] at HB
    go_wp2_with fail
    refine HB.out.mono ?_;rintro e w6 ⟨rfl,hb⟩;have HO:=zh (HO.out.move hb);clear hb HB;go_wp2;exact hX.out _ _ rfl ⟨rfl,HO.out⟩
   ·have HQ:=zh (show tf (A=B)=false from aL (fun h=>absurd (HX.out.2 h) zD));rw[HQ.out] at HB
    go_wp2_with fail
    refine HB.out.mono ?_;rintro e w6 ⟨rfl,hb⟩;have HO:=zh (HO.out.move hb);clear hb HB;go_wp2;exact hX.out _ _ rfl ⟨rfl,HO.out⟩
  rintro z0 vs w7 - ⟨rfl,hO⟩;simp[litL,lk];clear HO;have HO:=zh hO;clear hO;clear HR HX
  go_upto_region 6 with (fail)
  refine aA [6] (fun vs w'=>vs=[.bool true]∧Own w m w' m3 []) ?_ ?_
  ·intro X hX;refine aM 15 6 (fun j=>[Fact.is (·=.agg #[.bool A.nul,.bool A.fal,.bool A.tru,.slice aa A.i.length ab,.slice ac A.f.length ad,.slice ae A.t.length af]),Fact.is (·=.agg #[.bool A.nul,.bool A.fal,.bool A.tru,.slice aa A.i.length ab,.slice ac A.f.length ad,.slice ae A.t.length af]),Fact.is (·=.agg #[.bool B.nul,.bool B.fal,.bool B.tru,.slice ba B.i.length bb,.slice bc B.f.length bd,.slice be B.t.length bf]),Fact.mem m3 [3] (ScRV (fun e=>(PA e)∨(PB e)) 20 101),Fact.is (fun v=>∃c:Int,v=.int .i64 c∧(c==1) = !subB B A),Fact.is (·=.bool (!subB B A)),Fact.is (·=.agg #[.bool B.nul,.bool B.fal,.bool B.tru,.slice ba B.i.length bb,.slice bc B.f.length bd,.slice be B.t.length bf]),Fact.is (·=.agg #[.bool A.nul,.bool A.fal,.bool A.tru,.slice aa A.i.length ab,.slice ac A.f.length ad,.slice ae A.t.length af]),Fact.is (·=.bool (subB B A)),Fact.is (·=.bool (!subB B A)),Fact.is (·=.bool true),Fact.is (·=.bool true),Fact.is (·=.bool true),Fact.is (·=.bool true),Fact.is (·=.bool true)].getD j Fact.any) zk zk ?_ ?_
   ·intro i hi o win a wr ho RA;have HO2:=HO.out.dr.move RA.below;obtain⟨y30,y31,y32,y33,y34,y35⟩:=bA.cw HO2.inn;have y3l:=Mem.ak HO2.inn bA.c0;obtain⟨y40,y41,y42,y43,y44,y45⟩:=bB.cw HO2.inn;have y4l:=Mem.ak HO2.inn bB.c0;obtain⟨y50,y51,y52,y53,y54,y55⟩:=bC.cw HO2.inn;have y5l:=Mem.ak HO2.inn bC.c0;rcases (show i=0∨i=1∨i=2∨i=3∨i=4∨i=5∨i=6∨i=7∨i=8∨i=9∨i=10∨i=11∨i=12∨i=13∨i=14 by omega) with rfl | rfl | rfl | rfl | rfl | rfl | rfl | rfl | rfl | rfl | rfl | rfl | rfl | rfl | rfl
    ·have e3:=RA.k 3;cases ho;exact wv rfl rfl rfl
    ·have e3:=RA.k 3;cases ho;exact wv rfl rfl rfl
    ·have e4:=RA.k 4;cases ho;exact wv rfl rfl rfl
    ·have e88:a.tmps.getD 88 undef=_:=RA.d 1 rfl;have e89:a.tmps.getD 89 undef=_:=RA.d 2 rfl;cases ho;refine we rfl rfl (lh _ _ _ A _ _ _ B 8 8 8 8 m3 wr HO2.inn HT.out bA.at' bB.at' LA.out LB.out zo zo zo) ?_;rintro e w' ⟨s,si,sf,st,rfl,hb,hn,hS,hL⟩;exact⟨_,rfl,_,rfl,hb,bH (R:=ScRV (fun e=>(PA e)∨(PB e)) 20 101) ScRV.le HO2.inn hb (d9 hn (hS.congr fun e=>or_congr (GA.out e) (GB.out e)) hL)⟩
    ·have e87:a.tmps.getD 87 undef=_:=RA.d 0 rfl;have e90:(Fact.mem m3 [3] (ScRV (fun e=>(PA e)∨(PB e)) 20 101)).holds (a.tmps.getD 90 undef) win wr:=RA.d 3 rfl;cases ho;obtain⟨s3,⟨a3,b3,c3,d3,x3,y3,k3,t3⟩,S3,L3⟩:ScRV _ _ _ _ _:=e90;refine we rfl rfl (kw _ _ _ A _ _ _ s3 8 8 20 101 (m3.wins wr win [3]) wr (Mem.bK HO2.inn win [3]) (HT.out.le (Mem.dw HO2.inn win [3])) (bA.at'.le (Mem.dw HO2.inn win [3])) t3 LA.out L3 zo zo zo) ?_;rintro e w' ⟨c,rfl,hb,hc⟩;exact⟨_,rfl,_,rfl,hb,c,rfl,SV SA.out SB.out S3 hc⟩
    ·have e91:(Fact.is (fun v=>∃c:Int,v=.int .i64 c∧(c==1) = !subB B A)).holds (a.tmps.getD 91 undef) win wr:=RA.d 4 rfl;cases ho;obtain⟨c,e91,hc⟩:∃c:Int,_∧_:=e91;exact aB rfl rfl (aD zg ⟨_,rfl,Below.refl _ _,congrArg Value.bool hc⟩)
    ·have e4:=RA.k 4;cases ho;exact wv rfl rfl rfl
    ·have e3:=RA.k 3;cases ho;exact wv rfl rfl rfl
    ·have e93:a.tmps.getD 93 undef=_:=RA.d 6 rfl;have e94:a.tmps.getD 94 undef=_:=RA.d 7 rfl;cases ho;refine we rfl rfl (ik _ _ _ B _ _ _ A 8 8 8 8 m3 wr HO2.inn HT.out bB.at' bA.at' LB.out LA.out zo zo zo) ?_;rintro e w' ⟨rfl,hb⟩;exact⟨_,rfl,_,rfl,hb,rfl⟩
    ·have e95:a.tmps.getD 95 undef=_:=RA.d 8 rfl;cases ho;exact wv rfl rfl rfl
    ·have e92:a.tmps.getD 92 undef=_:=RA.d 5 rfl;have e96:a.tmps.getD 96 undef=_:=RA.d 9 rfl;cases ho;exact wv rfl rfl rfl
    ·have e97:a.tmps.getD 97 undef=_:=RA.d 10 rfl;cases ho;exact wv rfl rfl rfl
    ·have e98:a.tmps.getD 98 undef=_:=RA.d 11 rfl;cases ho;refine we2 rfl rfl rfl e98 (bJ m3 wr HO2.inn HT.out) ?_;rintro e w' ⟨rfl,hb⟩;exact⟨_,rfl,_,rfl,hb,rfl⟩
    ·have e98:a.tmps.getD 98 undef=_:=RA.d 11 rfl;have e99:a.tmps.getD 99 undef=_:=RA.d 12 rfl;cases ho;exact wv rfl rfl rfl
    ·have e100:a.tmps.getD 100 undef=_:=RA.d 13 rfl;cases ho;exact wv rfl rfl rfl
   ·intro win a wr E;have e6:a.tmps.getD 6 undef=.bool true:=E.fact 14 _ zo rfl;obtain⟨t,d⟩:=a;obtain rfl:d=[]:=E.defers;refine aV zk (hX.out _ _ E.size ⟨?_,HO.out.dr.move E.below⟩) _;simp only[List.map_cons,List.map_nil,e6]
    first | done | rfl
  rintro z' vs w9 - ⟨rfl,hO⟩;simp[litL,lk];have HE:=zh hO.below;clear hO HO;go_wp2;exact hR.out _ _ ⟨rfl,HE.out⟩
end Cl
