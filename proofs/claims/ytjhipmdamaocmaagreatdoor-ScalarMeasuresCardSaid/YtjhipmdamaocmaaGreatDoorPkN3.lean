/- Lemmas for the proofs of chapter 11. -/
import Derived.Shelf.Strings.Builder1
import Derived.Shelf.Small.Wraps
import Derived.Shelf.Strconv.Itoa3
import Derived.BigQuiet
import Derived.Deep.Cut
import Derived.Lib.ItoaLen
import Derived.StillTailTactics
import Derived.WalkLawsBesides
import Derived.WalkSpells
import Derived.Deep.RegionHeld
import Derived.Lib.SmallJoins
import Derived.Test.YtjhipmdamaocmaaGreatDoorCards
import Derived.Test.YtjhipmdamaocmaaGreatDoorTie
import Derived.Deep.DeepHandedRow
import Derived.Stop.LaidErr
import Derived.Test.YtjhipmdamaocmaaGreatDoorPkN2
set_option maxRecDepth 100000
set_option maxHeartbeats 16000000
namespace Go.Proofs
open Go.Shelf
def Tryz.xw:Go.Shelf.Ren:=⟨fun | 169=>320 | n=>n,fun | 70=>282 | 9=>9 | 0=>0 | 72=>284 | 37=>234 | 127=>300 | 3=>3 | 5=>5 | n=>n,fun | n=>n⟩
theorem Tryz.QZ:Go.Proofs.Lays.n169 Tryz.prog Tryz.xw:={
 mixed:=by kernel_rfl
 f169:=Tryz.func320.trans (congrArg some zk)
 t0:=Tryz.underlying0
 a0:=Tryz.isAgg0
 z0:=Tryz.sizeOf0
 v0:=Tryz.zeroValue0
 t3:=Tryz.underlying3
 a3:=Tryz.isAgg3
 z3:=Tryz.sizeOf3
 v3:=Tryz.zeroValue3
 t9:=Tryz.underlying9
 a9:=Tryz.isAgg9
 z9:=Tryz.sizeOf9
 v9:=Tryz.zeroValue9
 t37:=Tryz.underlying234
 a37:=Tryz.isAgg234
 z37:=Tryz.sizeOf234
 v37:=Tryz.zeroValue234
 t70:=Tryz.underlying282
 a70:=Tryz.isAgg282
 z70:=Tryz.sizeOf282
 v70:=Tryz.zeroValue282
 t72:=Tryz.underlying284
 a72:=Tryz.isAgg284
 z72:=Tryz.sizeOf284
 v72:=Tryz.zeroValue284
 t127:=Tryz.underlying300
 a127:=Tryz.isAgg300
 z127:=Tryz.sizeOf300
 v127:=Tryz.zeroValue300 }
theorem Tryz.uj:Builder.Extra Tryz.prog Tryz.xw:={
 sizeBuilder:=by kernel_rfl
 liesBuilder:=by kernel_rfl
 t5:=Tryz.underlying5
 a5:=Tryz.isAgg5
 z5:=Tryz.sizeOf5
 v5:=Tryz.zeroValue5
 infoByte:=by kernel_rfl
 cellsByte:=by kernel_rfl
 sizeByte:=by kernel_rfl
 neB5:=by decide }
open Go.RowKit in
open Go.RowKit in
theorem Tryz.Builder_String_any (B b:Nat) (l:List UInt8) (w:World) (h:Lib.IsBuilder 284 5 B b (Lib.byteCells l) w) (hBw:B≤w.heap.size) :
 Calls Tryz.prog 320 #[.pointer (some ⟨b,0,none⟩)] w fun e w'=>e=.returned (.string ⟨l.toArray⟩)∧Below B w w':=Any.Builder_String_any Tryz.QZ Tryz.uj B b l w h hBw
def Tryz.Gw:Go.Shelf.Ren:=⟨fun | 122=>163 | 215=>228 | n=>n,fun | 3=>3 | 4=>4 | n=>n,fun | n=>n⟩
theorem Tryz.Q0:Go.Proofs.Lays.n122 Tryz.prog Tryz.Gw:={
 mixed:=by kernel_rfl
 f122:=Tryz.func163.trans (congrArg some zk)
 f215:=Tryz.func228.trans (congrArg some zk)
 t3:=Tryz.underlying3
 a3:=Tryz.isAgg3
 z3:=Tryz.sizeOf3
 v3:=Tryz.zeroValue3
 t4:=Tryz.underlying4
 a4:=Tryz.isAgg4
 z4:=Tryz.sizeOf4
 v4:=Tryz.zeroValue4 }
open Go.RowKit in
theorem Tryz.cmp_Compare_int (x y:Int) (w:World) :
 Calls Tryz.prog 163 #[.int .i64 x,.int .i64 y] w fun e w'=>e=.returned (.int .i64 (Lib.compareInt x y))∧w'=w:=Any.cmp_Compare_int Tryz.Q0 x y w
def Tryz.Ez:Go.Shelf.Ren:=⟨fun | 171=>319 | 243=>333 | 246=>341 | 283=>343 | 284=>344 | 285=>345 | 286=>346 | 129=>330 | 317=>347 | 318=>348 | 319=>349 | 320=>350 | 337=>351 | 338=>352 | n=>n,fun | 3=>3 | 9=>9 | 2=>2 | 4=>4 | 171=>314 | 0=>0 | 53=>299 | 37=>234 | 5=>5 | 173=>316 | 212=>320 | 51=>297 | 20=>20 | 213=>321 | 46=>272 | 232=>322 | 233=>323 | n=>n,fun | 17=>0 | 18=>1 | 19=>2 | n=>n⟩
theorem Tryz.Pt:Go.Proofs.LaysM.n171 Tryz.prog Tryz.Ez:={
 mixed:=by kernel_rfl
 f129:=Tryz.func330.trans (congrArg some zk)
 f171:=Tryz.func319.trans (congrArg some zk)
 f243:=Tryz.func333.trans (congrArg some zk)
 f246:=Tryz.func341.trans (congrArg some zk)
 f283:=Tryz.func343.trans (congrArg some zk)
 f284:=Tryz.func344.trans (congrArg some zk)
 f285:=Tryz.func345.trans (congrArg some zk)
 f286:=Tryz.func346.trans (congrArg some zk)
 f317:=Tryz.func347.trans (congrArg some zk)
 f318:=Tryz.func348.trans (congrArg some zk)
 f319:=Tryz.func349.trans (congrArg some zk)
 f320:=Tryz.func350.trans (congrArg some zk)
 f337:=Tryz.func351.trans (congrArg some zk)
 f338:=Tryz.func352.trans (congrArg some zk)
 t0:=Tryz.underlying0
 a0:=Tryz.isAgg0
 z0:=Tryz.sizeOf0
 v0:=Tryz.zeroValue0
 t2:=Tryz.underlying2
 a2:=Tryz.isAgg2
 z2:=Tryz.sizeOf2
 v2:=Tryz.zeroValue2
 t3:=Tryz.underlying3
 a3:=Tryz.isAgg3
 z3:=Tryz.sizeOf3
 v3:=Tryz.zeroValue3
 t4:=Tryz.underlying4
 a4:=Tryz.isAgg4
 z4:=Tryz.sizeOf4
 v4:=Tryz.zeroValue4
 t5:=Tryz.underlying5
 a5:=Tryz.isAgg5
 z5:=Tryz.sizeOf5
 v5:=Tryz.zeroValue5
 t9:=Tryz.underlying9
 a9:=Tryz.isAgg9
 z9:=Tryz.sizeOf9
 v9:=Tryz.zeroValue9
 t20:=Tryz.underlying20
 a20:=Tryz.isAgg20
 z20:=Tryz.sizeOf20
 v20:=Tryz.zeroValue20
 t37:=Tryz.underlying234
 a37:=Tryz.isAgg234
 z37:=Tryz.sizeOf234
 v37:=Tryz.zeroValue234
 t46:=Tryz.underlying272
 a46:=Tryz.isAgg272
 z46:=Tryz.sizeOf272
 v46:=Tryz.zeroValue272
 t51:=Tryz.underlying297
 a51:=Tryz.isAgg297
 z51:=Tryz.sizeOf297
 v51:=Tryz.zeroValue297
 t53:=Tryz.underlying299
 a53:=Tryz.isAgg299
 z53:=Tryz.sizeOf299
 v53:=Tryz.zeroValue299
 t171:=Tryz.underlying314
 a171:=Tryz.isAgg314
 z171:=Tryz.sizeOf314
 v171:=Tryz.zeroValue314
 t173:=Tryz.underlying316
 a173:=Tryz.isAgg316
 z173:=Tryz.sizeOf316
 v173:=Tryz.zeroValue316
 t212:=Tryz.underlying320
 a212:=Tryz.isAgg320
 z212:=Tryz.sizeOf320
 v212:=Tryz.zeroValue320
 t213:=Tryz.underlying321
 a213:=Tryz.isAgg321
 z213:=Tryz.sizeOf321
 t232:=Tryz.underlying322
 a232:=Tryz.isAgg322
 z232:=Tryz.sizeOf322
 v232:=Tryz.zeroValue322
 t233:=Tryz.underlying323
 a233:=Tryz.isAgg323
 z233:=Tryz.sizeOf323
 v233:=Tryz.zeroValue323
 g17:=by kernel_rfl
 g18:=by kernel_rfl
 g19:=by kernel_rfl
 i0:=by kernel_rfl
 i2:=by kernel_rfl
 i3:=by kernel_rfl
 i4:=by kernel_rfl
 i5:=by kernel_rfl
 i9:=by kernel_rfl
 i20:=by kernel_rfl
 i37:=by kernel_rfl
 i46:=by kernel_rfl
 i51:=by kernel_rfl
 i53:=by kernel_rfl
 i171:=by kernel_rfl
 i173:=by kernel_rfl
 i212:=by kernel_rfl
 i232:=by kernel_rfl
 i233:=by kernel_rfl
 m17:=by kernel_rfl
 m18:=by kernel_rfl
 m19:=by kernel_rfl }
open Go.RowKit Go.Sort Go.Lib in
theorem Tryz.strconv_Itoa (n : Int) (h0 : -9223372036854775808 ≤ n) (h1 : n ≤ 9223372036854775807) (w : World) (htab : Lib.TabIs Tryz.prog w "internal/strconv.uint64pow10" .u64 Lib.pow10Tab) :
 Calls Tryz.prog 319 #[.int .i64 n] w fun e w'=>e=.returned (.string ⟨(Lib.itoa n).toArray⟩)∧∃k os,w'=grow (w.drewN k) os:=Any.strconv_Itoa Tryz.Pt n h0 h1 w htab
end Go.Proofs
namespace Cl
open Go Go.RowKit
abbrev Mem:=Nat→Option Obj
structure Mem.le (m m':Mem):Prop where
 get:∀k o,m k=some o→m' k=some o
structure Mem.inn (m:Mem) (w:World):Prop where
 get:∀k o,m k=some o→w.heap[k]?=some o
def Mem.cell (m:Mem) (b o:Nat):Option Value:=match m b with
 | some (.cells c _ _)=>c[o]?
 | _=>none
def Mem.of (w:World):Mem:=fun k=>w.heap[k]?
theorem Mem.Ef (w:World):(Mem.of w).inn w:=⟨fun _ _ h=>h⟩
theorem Mem.le_refl (m:Mem):m.le m:=⟨fun _ _ h=>h⟩
theorem Mem.le_trans {a b c:Mem} (h:a.le b) (k:b.le c):a.le c:=⟨fun i o x=>k.get i o (h.get i o x)⟩
theorem Mem.cK {m m':Mem} {w:World} (h:m.le m') (k:m'.inn w):m.inn w:=⟨fun i o x=>k.get i o (h.get i o x)⟩
theorem Mem.ak {m:Mem} {w:World} (h:m.inn w) {b o:Nat} {v:Value} (hc:m.cell b o=some v):w.cell? ⟨b,o,none⟩=some v:=by
 unfold Mem.cell at hc
 split at hc
 ·rename_i c t fr hb;simp[World.cell?,h.get _ _ hb,hc]
 ·cases hc
theorem Mem.ay {m:Mem} {w:World} (h:m.inn w) {b o:Nat} {v:Value} (hc:m.cell b o=some v):b<w.heap.size:=by
 have:=Mem.ak h hc;simp only[World.cell?] at this
 split at this
 ·rename_i hb;exact (Array.getElem?_eq_some_iff.1 hb).1
 ·cases this
theorem Mem.aB {m m':Mem} (h:m.le m') {b o:Nat} {v:Value} (hc:m.cell b o=some v):m'.cell b o=some v:=by
 unfold Mem.cell at hc ⊢
 split at hc
 ·rename_i c t fr hb;rw[h.get _ _ hb];exact hc
 ·cases hc
def Mem.slice {α:Type} (R:Nat→Nat→α→Prop) (size:Nat) (v:Value) (l:List α):Prop:=
 ∃a c,v=.slice a l.length c∧l.length≤c∧c≤maxLen∧(l≠[]→∃b off,a=some ⟨b,off,none⟩∧∀i (h:i<l.length),R b (off+i*size) l[i])
theorem Mem.oH {α:Type} {R R':Nat→Nat→α→Prop} {size:Nat} {v:Value} {l:List α} (h:Mem.slice R size v l) (hr:∀b o x,R b o x→R' b o x):Mem.slice R' size v l:=by
 obtain⟨a,c,h1,h2,h3,h4⟩:=h;refine ⟨a,c,h1,h2,h3,fun hne=>?_⟩;obtain⟨b,off,h5,h6⟩:=h4 hne;exact⟨b,off,h5,fun i hi=>hr _ _ _ (h6 i hi)⟩
def Bj (m:Mem) (b o:Nat) (e:Ed):Prop:=
 m.cell b o=some (.int .u8 e.lo)∧m.cell b (o+1)=some (.int .u8 e.hi)∧m.cell b (o+2)=some (.int .i64 e.to) ∧
 e.lo<256∧e.hi<256 ∧ -9223372036854775808≤e.to∧e.to≤9223372036854775807
def jv (m:Mem) (v:Value) (es:List Ed):Prop:=Mem.slice (Bj m) 3 v es
def vY (m:Mem) (b o:Nat) (s:Sn):Prop:=
 m.cell b o=some (.bool s.accept)∧∃ve,m.cell b (o+1)=some ve∧jv m ve s.edges
def aG (m:Mem) (v:Value) (l:Table):Prop:=Mem.slice (vY m) 2 v l
theorem NF {m m':Mem} (h:m.le m') {b o:Nat} {e:Ed} (k:Bj m b o e):Bj m' b o e:=
 ⟨Mem.aB h k.1,Mem.aB h k.2.1,Mem.aB h k.2.2.1,k.2.2.2⟩
theorem mo {m m':Mem} (h:m.le m') {v:Value} {es:List Ed} (k:jv m v es):jv m' v es:=Mem.oH k fun _ _ _=>NF h
theorem JL {m m':Mem} (h:m.le m') {b o:Nat} {s:Sn} (k:vY m b o s):vY m' b o s:=by
 obtain⟨h1,ve,h2,h3⟩:=k;exact⟨Mem.aB h h1,ve,Mem.aB h h2,mo h h3⟩
theorem aJ {m m':Mem} (h:m.le m') {v:Value} {l:Table} (k:aG m v l):aG m' v l:=Mem.oH k fun _ _ _=>JL h
theorem Mem.bJ {m:Mem} {w w':World} (h:m.inn w) (hb:Below w.heap.size w w'):m.inn w':=⟨fun k o hk=>by
 have:=h.get k o hk;rw[hb.block k (Array.getElem?_eq_some_iff.1 this).1];exact this⟩
def Mem.qZ {α:Type} (R:Nat→Nat→α→Prop) (v:Value) (l:List α):Prop:=
 ∃a c,v=.slice a l.length c∧l.length≤c∧c≤maxLen∧(l≠[]→∃b off,a=some ⟨b,off,none⟩∧∀i (h:i<l.length),R b (off+i) l[i])
theorem Mem.mH {α:Type} {R R':Nat→Nat→α→Prop} {v:Value} {l:List α} (h:Mem.qZ R v l) (hr:∀b o x,R b o x→R' b o x):Mem.qZ R' v l:=by
 obtain⟨a,c,h1,h2,h3,h4⟩:=h;refine ⟨a,c,h1,h2,h3,fun hne=>?_⟩;obtain⟨b,off,h5,h6⟩:=h4 hne;exact⟨b,off,h5,fun i hi=>hr _ _ _ (h6 i hi)⟩
def Om (m:Mem) (b o:Nat) (x:Bool):Prop:=m.cell b o=some (.bool x)
def Sz (m:Mem) (b o:Nat) (x:Int):Prop:=m.cell b o=some (.int .i64 x) ∧ -9223372036854775808≤x∧x≤9223372036854775807
def Sv (m:Mem) (b o:Nat) (x:ByteArray):Prop:=m.cell b o=some (.string x)∧x.size≤maxLen
def IK (m:Mem) (b o:Nat) (x:Int × Int):Prop:=m.cell b o=some (.int .i64 x.1)∧m.cell b (o+1)=some (.int .i64 x.2) ∧ -9223372036854775808≤x.1∧x.1≤9223372036854775807 ∧ -9223372036854775808≤x.2∧x.2≤9223372036854775807
def iq (m:Mem) (v:Value) (l:List Bool):Prop:=Mem.qZ (Om m) v l
def iy (m:Mem) (v:Value) (l:List Int):Prop:=Mem.qZ (Sz m) v l
def pG (m:Mem) (v:Value) (l:List ByteArray):Prop:=Mem.qZ (Sv m) v l
def bM (m:Mem) (v:Value) (l:List (Int × Int)):Prop:=Mem.slice (IK m) 2 v l
def mU (m:Mem) (v:Value) (l:List (List Int)):Prop:=Mem.qZ (fun b o x=>∃u,m.cell b o=some u∧iy m u x) v l
def Jo (m:Mem) (v:Value) (l:List (List Bool)):Prop:=Mem.qZ (fun b o x=>∃u,m.cell b o=some u∧iq m u x) v l
theorem ji {m m':Mem} (h:m.le m') {v:Value} {l:List Bool} (k:iq m v l):iq m' v l:=Mem.mH k fun _ _ _=>Mem.aB h
theorem fH {m m':Mem} (h:m.le m') {v:Value} {l:List Int} (k:iy m v l):iy m' v l:=Mem.mH k fun _ _ _ k=>⟨Mem.aB h k.1,k.2⟩
theorem lS {m m':Mem} (h:m.le m') {v:Value} {l:List ByteArray} (k:pG m v l):pG m' v l:=Mem.mH k fun _ _ _ k=>⟨Mem.aB h k.1,k.2⟩
theorem aW {m m':Mem} (h:m.le m') {v:Value} {l:List (Int × Int)} (k:bM m v l):bM m' v l:=
 Mem.oH k fun _ _ _ k=>⟨Mem.aB h k.1,Mem.aB h k.2.1,k.2.2⟩
theorem o6 {m m':Mem} (h:m.le m') {v:Value} {l:List (List Int)} (k:mU m v l):mU m' v l:=
 Mem.mH k fun _ _ _ ⟨u,k1,k2⟩=>⟨u,Mem.aB h k1,fH h k2⟩
noncomputable def firstIdx {α:Type} (p:α→Prop):List α→Nat→Int
 | [],_ => -1
 | x::l,k=>if tf (p x) then (k:Int) else firstIdx p l (k+1)
theorem iM {α:Type} (p:α→Prop) (l:List α) (k:Nat) (h:k<l.length):firstIdx p (l.drop k) k=if tf (p l[k]) then (k:Int) else firstIdx p (l.drop (k+1)) (k+1):=by
 rw[zZ h];rfl
theorem kw {α:Type} (p:α→Prop) (l:List α):∀k,(firstIdx p l k = -1∧∀x∈l,¬ p x)∨(∃i,∃h:i<l.length,firstIdx p l k=((k+i:Nat):Int)∧p l[i]∧∀j,∀hj:j<l.length,j<i→¬ p l[j]):=by
 induction l with
 | nil=>intro k;left;exact⟨rfl,zS⟩
 | cons x l ih=>
  intro k;by_cases hx:p x
  ·right;exact⟨0,zS,by simp[firstIdx,aN hx],hx,fun j _ hj=>zo⟩
  ·have e:firstIdx p (x::l) k=firstIdx p l (k+1):=by simp[firstIdx,aK hx]
   rcases ih (k+1) with ⟨h1,h2⟩ | ⟨i,h1,h2,h3,h4⟩
   ·left;exact⟨e.trans h1,by simpa using ⟨hx,h2⟩⟩
   ·right;refine ⟨i+1,by simp;omega,e.trans (h2.trans (by congr 1;omega)),by simpa using h3,?_⟩;intro j hj hji
    cases j with
    | zero=>simpa using hx
    | succ j=>simpa using h4 j (by simpa using hj) zo
theorem kS {α:Type} (l l':List α) (k:Nat) (h:k<l.length) (h':k<l'.length):l.drop k=l'.drop k↔l[k]=l'[k]∧l.drop (k+1)=l'.drop (k+1):=by
 rw[zZ h,zZ h',List.cons.injEq]
end Cl
namespace Cl
open Go Go.RowKit Go.Proofs
theorem Aa (b:Nat) (w:World) (h0:w.cell? ⟨b,0,none⟩=some (.pointer (some ⟨b,0,none⟩))) :
 Calls Tryz.prog 332 #[.pointer (some ⟨b,0,none⟩)] w fun e w'=>e=.returned (.tuple #[])∧w'=w:=by
 obtain⟨j,hj,_⟩:=Option.map_eq_some_iff.1 (show (Tryz.prog.info? 284).map (·.size)=some 2 by kernel_rfl)
 go_enter Tryz.func332,Tryz.ntmps332
 go_wp2;rw[Lib.run_neq_ptr_same w _ Tryz.underlying282 hj];go_wp2
 go_end0
 exact⟨rfl,rfl⟩
theorem xX (b:Nat) (w:World) (h0:w.cell? ⟨b,0,none⟩=some (.pointer none)) (hsh:w.shape? b=some (284,2)) (hfz:w.frozen? ⟨b,0,none⟩=false) :
 Calls Tryz.prog 332 #[.pointer (some ⟨b,0,none⟩)] w fun e w'=>e=.returned (.tuple #[])∧w'=w.setCell ⟨b,0,none⟩ (.pointer (some ⟨b,0,none⟩)):=by
 obtain⟨j,hj,hjs⟩:=Option.map_eq_some_iff.1 (show (Tryz.prog.info? 284).map (·.size)=some 2 by kernel_rfl)
 go_enter Tryz.func332,Tryz.ntmps332
 go_wp2;rw[Lib.run_to_unsafe w ⟨b,0,none⟩ Tryz.underlying282 Tryz.underlying308 hj (by rw[hjs];decide) hsh (Nat.zero_lt_succ 1)];simp only[Result.andThen];rw[Oper.upon_value];go_wp2;rw[run_callFunc_extern Tryz.func340 zk zk zk (e:=Extern.AbiNoEscape.same) zk];rw[Lib.run_noEscape];simp only[Result.andThen];rw[Oper.upon_value];go_wp2;rw[Lib.run_from_unsafe w ⟨b,0,none⟩ Tryz.underlying308 Tryz.underlying282 hj hsh zk];simp only[Result.andThen];rw[Oper.upon_value];go_wp2
 go_end0
 exact⟨rfl,rfl⟩
theorem Cy (B b:Nat) (bs:List Value) (w:World) (h:Lib.IsBuilder 284 5 B b bs w) :
 Calls Tryz.prog 332 #[.pointer (some ⟨b,0,none⟩)] w fun e w'=>e=.returned (.tuple #[])∧(Lib.BuilderAt 284 5 B b (.pointer (some ⟨b,0,none⟩)) bs w'∧Below B w w'):=by
 rcases h with h | h
 ·refine (xX b w h.cell0 h.shape h.frozen0).mono ?_;rintro e w' ⟨rfl,rfl⟩;exact⟨rfl,h.used _,(zP B w).setCell (p:=⟨b,0,none⟩) h.1 _⟩
 ·refine (Aa b w h.cell0).mono ?_;rintro e w' ⟨rfl,rfl⟩;exact⟨rfl,h,zP B _⟩
theorem ow (B b:Nat) (bs:List Value) (s:ByteArray) (w:World) (h:Lib.IsBuilder 284 5 B b bs w) (hlen:bs.length+s.size≤140737488355328) (hBw:B≤w.heap.size) :
 Calls Tryz.prog 318 #[.pointer (some ⟨b,0,none⟩),.string s] w fun e w'=>e=.returned (.tuple #[.int .i64 s.size,.nilIface])∧(Lib.BuilderAt 284 5 B b (.pointer (some ⟨b,0,none⟩)) (bs ++ Lib.strCells s) w'∧Below B w w'):=by
 obtain⟨i0,hi,hz0,hz1,hz2⟩:=info_parts (show (Tryz.prog.info? 5).map (fun i=>(i.zero,i.size,i.bytes))=some (some (.int .u8 0),1,1) by kernel_rfl)
 go_enter Tryz.func318,Tryz.ntmps318
 go_wp2_with (go_at_call 332;refine (Cy B b bs _ h).mono ?_)
 rintro e w1 ⟨rfl,h1,hb1⟩;obtain⟨hB,v,hbk,hown,hne⟩:=h1;have c0:w1.cell? ⟨b,0,none⟩=some (.pointer (some ⟨b,0,none⟩)):=by rw[Lib.cell_of_heap hbk];rfl
 have c1:w1.cell? ⟨b,1,none⟩=some v:=by rw[Lib.cell_of_heap hbk];rfl
 go_wp2_with (at_builtin;refine Lib.wpList_append_own_string _ rfl _ _ 234 9 rfl B 5 i0 Tryz.underlying234 Tryz.underlying9 hi hz0 hz1 hz2 _ _ _ rfl hown s rfl ?c3 ?c4 ?c5 ?_)
 case c3=>unfold maxLen;omega
 case c4=>omega
 case c5=>have:=hb1.size;omega
 intro v' w2 hown' hgrow _;have hlt:b<w1.heap.size:=by
  rcases Nat.lt_or_ge b w1.heap.size with h' | h'
  ·exact h'
  ·simp[Array.getElem?_eq_none h'] at hbk
 have hb2:w2.heap[b]?=some (.cells #[.pointer (some ⟨b,0,none⟩),v] 284 (0,0)):=by
  rw[hgrow.block b hlt (fun e=>hne e.symm)];exact hbk
 have d0:w2.cell? ⟨b,0,none⟩=some (.pointer (some ⟨b,0,none⟩)):=by rw[Lib.cell_of_heap hb2];rfl
 have d1:w2.cell? ⟨b,1,none⟩=some v:=by rw[Lib.cell_of_heap hb2];rfl
 have f1:w2.frozen? ⟨b,1,none⟩=false:=Lib.frozen_of_heap hb2 1;obtain⟨ao,n',cap,rfl⟩:∃ao n' cap,v'=.slice ao n' cap:=by
  rcases hown'.2 with ⟨hv,_⟩ | ⟨g,cap,cur,hv,_⟩
  ·exact⟨_,_,_,hv⟩
  ·exact⟨_,_,_,hv⟩
 go_wp2
 go_ret2
 refine ⟨rfl,?_,?_⟩
 ·exact Lib.BuilderAt.put (T:=284) (e:=5) hB hb2 (bs':=bs ++ Lib.strCells s) (by simpa [Lib.strCells_length] using hown') zD
 ·exact (hb1.grown hgrow (by have:=hb1.size;omega) (fun k hk=>(hown.lt k hk).1)).setCell (p:=⟨b,1,none⟩) hB _
structure TabM (m:Mem):Prop where
 get : ∀ w, m.inn w → Lib.TabIs Tryz.prog w "internal/strconv.uint64pow10" .u64 Lib.pow10Tab
theorem TabM.le {m m':Mem} (h:TabM m) (hl:m.le m'):TabM m':=⟨fun w hw=>h.get w (Mem.cK hl hw)⟩
end Cl
namespace Cl
open Go Go.RowKit Go.Proofs Go.WideShapes Go.ChangeShapes Go.Deep Go.Joins
theorem Mem.of_cell {w:World} {b o:Nat} {v:Value} (h:w.cell? ⟨b,o,none⟩=some v):(Mem.of w).cell b o=some v:=by
 unfold World.cell? at h;unfold Mem.cell Mem.of
 split at h
 ·rename_i hb;rw[hb];simpa using h
 ·cases h
theorem QX {α:Type} {l:List α} (h:l.length=2):∃a b,l=[a,b]:=by
 match l,h with
 | [a,b],_=>exact⟨a,b,rfl⟩
theorem Sy {α:Type} {l:List α} (h:l.length=3):∃a b c,l=[a,b,c]:=by
 match l,h with
 | [a,b,c],_=>exact⟨a,b,c,rfl⟩
theorem LZ {w:World} {a:Addr} {v:Value} (h:w.cell? a=some v):a.spot=none:=by
 unfold World.cell? at h
 split at h
 ·split at h
  ·cases h
  ·rename_i hs
   cases hx:a.spot with
   | none=>rfl
   | some x=>rw[hx] at hs;exact absurd rfl hs
 ·cases h
theorem eD {w:World} {b o n:Nat} {cs:List Value} (h:w.cells? 0 ⟨b,o,none⟩ n=some cs) {i:Nat} {v:Value} (hi:cs[i]?=some v):(Mem.of w).cell b (o+i)=some v:=by
 obtain⟨-,h2,h3⟩:=World.cells?_some h;have hlt:i<n:=by rw[← h2];exact (List.getElem?_eq_some_iff.1 hi).1
 have:=h3 i hlt;rw[hi,Addr.add_lit] at this;exact Mem.of_cell this
section
variable {H:Type} {enc:TypeId × Value→H} {P:Program} {w:World} {spare:Nat→Bool} {held:Bool}
theorem j3 {α:Type} [Inhabited α] {t e:TypeId} {size:Nat} (ht:P.underlying t=some (.slice e)) (hc:P.cellsOf e=size) (hpos:0<size) (R:Nat→Nat→α→Prop)
 (hR:∀(fuel b o:Nat) (cs:List Value) (x:DataW H × List MemPlace),w.cells? 0 ⟨b,o,none⟩ size=some cs→DataW.trod enc P w 0 spare held fuel e cs=some x→∃y:α,R b o y)
 {fuel:Nat} {cs:List Value} {x:DataW H × List MemPlace} (h:DataW.trod enc P w 0 spare held fuel t cs=some x):∃v l,cs=[v]∧Mem.slice R size v l:=by
 rcases open_slice ht h with ⟨rfl,-⟩ | ⟨a,len,cap,m,n,D,Pl,rfl,hb,hl,hm,hmm,rfl,hx⟩
 ·exact⟨_,[],rfl,none,0,rfl,zG _,zC _,fun h=>absurd rfl h⟩
 ·have hlm:len≤m:=by rw[hmm];split <;> omega
  by_cases h0:len=0
  ·subst h0;exact⟨_,[],rfl,some a,cap,rfl,zC _,hm,fun h=>absurd rfl h⟩
  ·have hsp:a.spot=none:=by
    obtain⟨cs',h1,-⟩:=hx 0 zo;obtain⟨-,h2,h3⟩:=World.cells?_some h1;rw[hc] at h2 h3;have:=h3 0 hpos;rw[Nat.zero_mul] at this;have e:(a.add 0).add 0=a:=by simp[Addr.add]
    rw[e,yC zo] at this;exact LZ this
   obtain⟨b,o,sp⟩:=a;simp only at hsp;subst hsp;obtain⟨f,hf⟩:=choose_lt (α:=α) (n:=len) (p:=fun i y=>R b (o+i*size) y) (fun i hi=>by
    obtain⟨cs',h1,h2⟩:=hx i zo;rw[hc,Addr.add_lit] at h1;exact hR _ _ _ _ _ h1 h2)
   refine ⟨_,(List.range len).map f,rfl,some ⟨b,o,none⟩,cap,zS,by simpa using hl,hm,fun _=>⟨b,o,rfl,fun i hi=>?_⟩⟩;have hi':i<len:=by simpa using hi
   simpa using hf i hi'
end
instance:Inhabited Ed:=⟨⟨0,0,0⟩⟩
instance:Inhabited Sn:=⟨⟨false,[]⟩⟩
section
variable {H:Type} {enc:TypeId × Value→H} {w:World} {spare:Nat→Bool} {held:Bool}
theorem RD {n:Int} (h:(Lit.int .u8 n).wf=true):∃k:Nat,n=k∧k<256:=by
 simp only[Lit.wf,Bool.and_eq_true,decide_eq_true_eq] at h;have e1:IntKind.min .u8=0:=by decide
 have e2:IntKind.max .u8=255:=by decide
 exact⟨n.toNat,zo,zo⟩
theorem EF {n:Int} (h:(Lit.int .i64 n).wf=true) : -9223372036854775808≤n∧n≤9223372036854775807:=by
 simp only[Lit.wf,Bool.and_eq_true,decide_eq_true_eq] at h;have e1:IntKind.min .i64 = -9223372036854775808:=by decide
 have e2:IntKind.max .i64=9223372036854775807:=by decide
 omega
theorem NE (fuel b o:Nat) (cs:List Value) (x:DataW H × List MemPlace) (hc:w.cells? 0 ⟨b,o,none⟩ 3=some cs) (h:DataW.trod enc Tryz.prog w 0 spare held fuel 133 cs=some x):∃e,Bj (Mem.of w) b o e:=by
 obtain⟨y0,y1,y2,n,-,hl,h0,h1,h2⟩:=trod_struct3 Tryz.underlying133 h;have hl3:cs.length=3:=(World.cells?_some hc).2.1;obtain⟨c0,c1,c2,rfl⟩:=Sy hl3;have e8:Tryz.prog.cellsOf 5=1:=by kernel_rfl
 have e64:Tryz.prog.cellsOf 3=1:=by kernel_rfl
 simp[e8,e64] at h0 h1 h2;obtain⟨a0,e0,-,w0⟩:=DataW.trod_int Tryz.underlying5 h0;obtain⟨a1,e1,-,w1⟩:=DataW.trod_int Tryz.underlying5 h1;obtain⟨a2,e2,-,w2⟩:=DataW.trod_int Tryz.underlying3 h2;obtain⟨k0,rfl,l0⟩:=RD w0;obtain⟨k1,rfl,l1⟩:=RD w1;cases e0;cases e1;cases e2;have w2:=EF w2;exact⟨⟨k0,k1,a2⟩,eD (i:=0) hc rfl,eD (i:=1) hc rfl,eD (i:=2) hc rfl,l0,l1,w2.1,w2.2⟩
theorem JK (fuel b o:Nat) (cs:List Value) (x:DataW H × List MemPlace) (hc:w.cells? 0 ⟨b,o,none⟩ 2=some cs) (h:DataW.trod enc Tryz.prog w 0 spare held fuel 92 cs=some x):∃s,vY (Mem.of w) b o s:=by
 obtain⟨y0,y1,n,-,hl,h0,h1⟩:=trod_struct2 Tryz.underlying92 h;have hl2:cs.length=2:=(World.cells?_some hc).2.1;obtain⟨c0,c1,rfl⟩:=QX hl2;have eb:Tryz.prog.cellsOf 4=1:=by kernel_rfl
 have es:Tryz.prog.cellsOf 90=1:=by kernel_rfl
 simp[eb,es] at h0 h1;obtain⟨a0,e0,-⟩:=DataW.trod_bool Tryz.underlying4 h0;cases e0;obtain⟨v,l,e1,hs⟩:=j3 Tryz.underlying90 zk zo (Bj (Mem.of w)) NE h1;cases e1;exact⟨⟨a0,l⟩,eD (i:=0) hc rfl,c1,eD (i:=1) hc rfl,hs⟩
end
end Cl
namespace Cl
open Go Go.RowKit Go.Proofs Go.ChangeShapes Go.WideShapes
theorem O7:ownKnob Tryz.prog.godebug=none:=by kernel_rfl
theorem Dv:laidOutB Tryz.prog=true:=by kernel_rfl
theorem gTab : Tryz.prog.globalNamed "internal/strconv.uint64pow10" = some 0 := by kernel_rfl
theorem PH:(Tryz.prog.globals[0]?).map (·.type)=some 320:=by kernel_rfl
theorem PV:Tryz.prog.cellsOf 320=20:=by kernel_rfl
theorem PU:Tryz.prog.cellsOf 299=1:=by kernel_rfl
abbrev BQ : List (String × DataW Unit) := [("math/bits.deBruijn32tab", Go.Proofs.YtjhipmdamaocmaaGreatDoor.Rows.laid_math_bits_deBruijn32tab), ("math/bits.deBruijn64tab", Go.Proofs.YtjhipmdamaocmaaGreatDoor.Rows.laid_math_bits_deBruijn64tab), ("internal/strconv.uint64pow10", Go.Proofs.YtjhipmdamaocmaaGreatDoor.Rows.laid_internal_strconv_uint64pow10)]
theorem O6 {W:World} (h:laidMetH Tryz.prog BQ W):TabM (Mem.of W):=by
 have h0:laidMet Tryz.prog BQ W:=h
 have h1 : Lib.TabIs Tryz.prog W "internal/strconv.uint64pow10" .u64 Lib.pow10Tab :=
  Lib.tabIs_of_head (rest:=[]) gTab PH Tryz.underlying320 Tryz.underlying299 PU PV h0.tail.tail
 refine ⟨fun w hw=>?_⟩;unfold Lib.TabIs World.var? at h1 ⊢;rw[gTab] at h1 ⊢;simp only[Option.bind_some] at h1 ⊢
 split at h1
 ·rename_i cs t f hb;rw[hw.get 0 _ hb];exact h1
 ·cases h1
def Ch:DataW Unit→Array Value
 | .agg l=>(l.map fun d=>match d with
  | .lit (.int k n)=>Value.int k n
  | _=>undef).toArray
 | _=>#[]
def M9 (c:Array Value):Obj→Obj
 | .cells _ t frozen=>.cells c t frozen
 | o=>o
noncomputable def xz (os:Os):World:=
 { World.holding Tryz.prog os ⟨#[],#[],[]⟩ with heap:=(((World.holding Tryz.prog os ⟨#[],#[],[]⟩).heap.modify 0 (M9 (Ch Go.Proofs.YtjhipmdamaocmaaGreatDoor.Rows.laid_internal_strconv_uint64pow10))).modify 1 (M9 (Ch Go.Proofs.YtjhipmdamaocmaaGreatDoor.Rows.laid_math_bits_deBruijn32tab))).modify 2 (M9 (Ch Go.Proofs.YtjhipmdamaocmaaGreatDoor.Rows.laid_math_bits_deBruijn64tab)) }
section
variable {H:Type} {enc:TypeId × Value→H}
theorem qW {W W':World} (hb:Below W.heap.size W W') {sp:Nat→Bool}:∀(ts:List TypeId) (vs:List Value) (ds:List (DataW H)) (ps:List MemPlace),(∀t∈ts,Tryz.prog.readableRec t=true∧t<Tryz.prog.types.size) →
 (∀x∈ps,x.block<W.heap.size)→(∀x∈ps,sp x.block=true)→DataW.TrodAll enc Tryz.prog W 0 (fun _=>true) true ts vs ds ps→DataW.TrodAll enc Tryz.prog W' 0 sp true ts vs ds ps
 | [],_,_,_,_,_,_,h=>by
  obtain⟨rfl,rfl,rfl⟩:=trodAll_nil h
  exact trodAll_mk0
 | t::ts,_,_,_,ht,hl,hs,h=>by
  obtain⟨v,vs1,d,ds1,a,b,rfl,rfl,rfl,h1,h2⟩:=trodAll_cons h;have h0:=ht t (yA ..);exact trodAll_cons_mk (WideElems.Trod_stays Dv h0.1 h0.2 h1 (fun x hx=>hb.same (hl x (List.mem_append_left _ hx))) (fun x hx=>hs x (List.mem_append_left _ hx)))
   (qW hb ts vs1 ds1 b (fun t ht'=>ht t (zR _ ht')) (fun x hx=>hl x (List.mem_append_right _ hx)) (fun x hx=>hs x (List.mem_append_right _ hx)) h2)
theorem Pv {f:Func} {s:ChangeSpec} {W W':World} {args:Array Value} {ds:List (DataW H)} {before:List MemPlace} (hv:s.vars=[]) (hr:f.resultTypes=#[4])
 (ht:(f.params.toList.all fun t=>Tryz.prog.readableRec t&&decide (t<Tryz.prog.types.size))=true) (hfn:s.fn H (ds ++ [])={ results:=[.lit (.bool true)],args:=ds })
 (hW:DataW.Whole enc Tryz.prog f.params.toList s.vars false W args.toList ds [] before) (hb:Below W.heap.size W W') :
 s.post enc Tryz.prog f false true false false W args (.bool true) W':=by
 have hlt:=hW.lt;obtain⟨p,q,h1,h2,rfl,h3⟩:=id hW;rw[hv] at h2;obtain⟨-,rfl⟩:=trodVars_none h2;rw[yM] at hW hlt;refine ⟨ds,[],p,[],p,[],hW,?_,?_,?_,hb.frame _,fun h=>by cases h⟩
 ·rw[hfn,hr];exact trodAll_cons_mk (shut_bool Tryz.underlying4 _) trodAll_mk0
 ·rw[hfn];exact qW hb _ _ _ _ (fun t h=>by have:=List.all_eq_true.1 ht t h;simpa using this) hlt (fun x hx=>by simpa using hlt x hx) h1
 ·rw[hfn,hv]
  rfl
end
end Cl
namespace Cl
open Go Go.RowKit
theorem aj {P:Program} {f:FuncId} {args:Array Value} {w:World} {X:Ending→World→Prop}
 (h:∀R:Ending→World→Prop,Hid (∀e w',X e w'→R e w')→Calls P f args w R):Calls P f args w X:=h X (fun _ _ h=>h)
theorem dB {k:IntKind} {a b:Int} (h:a=b):Ending.returned (.int k a)=.returned (.int k b):=by rw[h]
theorem aL {a b:Bool} (h:a=b):Ending.returned (.bool a)=.returned (.bool b):=by rw[h]
def lk:List (Nat × Value)→Nat→Value→Value
 | [],_,d=>d
 | (k,v)::r,i,d=>if i=k then v else lk r i d
def litL (z:Nat→Value) (kv:List (Nat × Value)):Nat→Nat→List Value
 | _,0=>[]
 | i,n+1=>lk kv i (z i)::litL z kv (i+1) n
theorem Gu (z:Nat→Value) (kv:List (Nat × Value)):∀n i,(litL z kv i n).length=n:=by
 intro n
 induction n with
 | zero=>intro i;rfl
 | succ n ih=>intro i;simp[litL,ih]
theorem Pq (z:Nat→Value) (kv:List (Nat × Value)):∀n i j,j<n→(litL z kv i n)[j]?=some (lk kv (i+j) (z (i+j))):=by
 intro n
 induction n with
 | zero=>intro i j h;omega
 | succ n ih=>
  intro i j h
  cases j with
  | zero=>simp[litL]
  | succ j=>
   simp only[litL,List.getElem?_cons_succ];rw[ih (i+1) j zo];rw[show i+1+j=i+(j+1) by omega]
theorem Kt (f:Nat→Value) (K:List Nat) (i:Nat):lk (K.zip (K.map f)) i (f i)=f i:=by
 induction K with
 | nil=>rfl
 | cons k K ih=>
  simp only[yG,List.zip_cons_cons,lk];by_cases h:i=k
  ·subst h;simp
  ·simp[h,ih]
theorem Ev (tmps:Array Value) (K:List Nat):(litL (fun i=>tmps.getD i undef) (K.zip (K.map fun i=>tmps.getD i undef)) 0 tmps.size).toArray=tmps:=by
 apply Array.ext
 ·simp[Gu]
 ·intro i h1 h2;have:=Pq (fun i=>tmps.getD i undef) (K.zip (K.map fun i=>tmps.getD i undef)) tmps.size 0 i (by simpa using h2);rw[Nat.zero_add,Kt (fun i=>tmps.getD i undef) K i] at this;have h3:=List.getElem?_eq_some_iff.1 this;obtain⟨h4,h5⟩:=h3;simp only[List.getElem_toArray];rw[h5];simp[Array.getD,h2]
theorem au {P:Program} {c:Code} {Q:Exit→Act→World→Prop} {tmps:Array Value} {w:World} (K:List Nat) (body:Nat→List Value→World→Prop)
 (h0:∃n,body n (K.map fun i=>tmps.getD i undef) w)
 (round:∀(X:Act→World→Prop) (z:Nat→Value) (n:Nat) (vs:List Value) (wr:World),Hid (∀n' (tmps':Array Value) w',n'<n→tmps'.size=tmps.size→body n' (K.map fun i=>tmps'.getD i undef) w'→X ⟨tmps',[]⟩ w') →
  vs.length=K.length→body n vs wr→c.wp P (Exit.then X Q) ⟨(litL z (K.zip vs) 0 tmps.size).toArray,[]⟩ wr) :
 (Code.loop c).wp P Q ⟨tmps,[]⟩ w:=by
 let I:Nat→Act→World→Prop:=fun n a w=>a.defers=[]∧a.tmps.size=tmps.size∧body n (K.map fun i=>a.tmps.getD i undef) w;intro b k cs;have key:∀n a w,I n a w→∃e a' w',Q e a' w'∧Arrives P (lone (b.at a (.code c::.inLoop c::k)) cs w) b k cs e a' w':=by
  intro n
  induction n using Nat.strongRecOn with
  | _ n ih=>
   intro a w ⟨hd,hs,hb⟩;have ha:a=⟨(litL (fun i=>a.tmps.getD i undef) (K.zip (K.map fun i=>a.tmps.getD i undef)) 0 tmps.size).toArray,[]⟩:=by
    rw[← hs,Ev];cases a;simp_all
   have hr:=round (fun a' w'=>∃n',n'<n∧I n' a' w') (fun i=>a.tmps.getD i undef) n _ w (fun n' t' w' h1 h2 h3=>⟨n',h1,rfl,h2,h3⟩) zS hb;rw[← ha] at hr;obtain⟨e,a₁,w₁,hq,harr⟩:=hr b (.inLoop c::k) cs
   cases e with
   | normal=>
    obtain⟨n',hlt,hI1⟩:=hq;obtain⟨e₂,a₂,w₂,hq₂,harr₂⟩:=ih n' hlt a₁ w₁ hI1
    exact⟨e₂,a₂,w₂,hq₂,.of_steps (Steps.trans harr (.one step_inLoop)) harr₂⟩
   | exit id=>exact⟨_,a₁,w₁,hq,.pass (x:=.inLoop c) rfl (fun _ _=>.inl zS) harr⟩
   | goto l=>exact⟨_,a₁,w₁,hq,.pass (x:=.inLoop c) rfl (fun _ _=>.inl zS) harr⟩
   | ret=>exact⟨_,a₁,w₁,hq,.pass (x:=.inLoop c) rfl (fun _ _=>.inl zS) harr⟩
   | panic ch=>exact⟨_,a₁,w₁,hq,.pass (x:=.inLoop c) rfl (fun _ _=>.inl zS) harr⟩
   | outgrown=>exact⟨_,a₁,w₁,hq,.pass (x:=.inLoop c) rfl (fun _ _=>.inl zS) harr⟩
 obtain⟨n,h0⟩:=h0;obtain⟨e,a',w',hq,harr⟩:=key n ⟨tmps,[]⟩ w ⟨rfl,rfl,h0⟩;exact⟨e,a',w',hq,.of_steps (.one step_loop) harr⟩
theorem aI {P:Program} {c:Code} {Q:Exit→Act→World→Prop} {tmps:Array Value} {w:World} (K:List Nat) (Mid:List Value→World→Prop)
 (h1:∀(X:Act→World→Prop),Hid (∀(tmps':Array Value) w',tmps'.size=tmps.size→Mid (K.map fun i=>tmps'.getD i undef) w'→X ⟨tmps',[]⟩ w')→c.wp P (Exit.then X (fun _ _ _=>False)) ⟨tmps,[]⟩ w)
 (h2:∀(z:Nat→Value) (vs:List Value) (w':World),vs.length=K.length→Mid vs w'→Q .normal ⟨(litL z (K.zip vs) 0 tmps.size).toArray,[]⟩ w'):c.wp P Q ⟨tmps,[]⟩ w:=by
 refine wp_mono (h1 (fun a' w'=>a'.defers=[]∧a'.tmps.size=tmps.size∧Mid (K.map fun i=>a'.tmps.getD i undef) w') (fun t w' hs hm=>⟨rfl,hs,hm⟩)) ?_;rintro e ⟨t,d⟩ w' hq
 cases e with
 | normal=>
  obtain⟨hd,hs,hm⟩:=hq;have h:=h2 (fun i=>t.getD i undef) _ w' zS hm
  dsimp only at hs hd
  subst hd;rw[← hs,Ev] at h
  exact h
 | _=>exact hq.elim
theorem aR {w wr:World} (h:Below w.heap.size w wr) (o:Obj):Below w.heap.size w (wr.alloc o):=h.alloc h.size o
theorem gu {w w':World} (h:Below w.heap.size w w') {b o:Nat} {v:Value} (hb:b<w.heap.size) (hc:w.cell? ⟨b,o,none⟩=some v):w'.cell? ⟨b,o,none⟩=some v:=
 (h.cell (p:=⟨b,o,none⟩) hb).trans hc
theorem bU {w wr w':World} (h:Below w.heap.size w wr) (h':Below wr.heap.size wr w'):Below w.heap.size w w':=h.trans (h'.mono h.size)
theorem below_drewN {B:Nat} {a w:World} (h:Below B a w) (n:Nat):Below B a (w.drewN n):=⟨h.os,h.tape,h.output,h.size,h.block⟩
structure bE (w:World) (g:Nat) (t:TypeId) (arr:Array Value):Prop where
 get:w.heap[g]?=some (.cells arr t (0,0))
theorem bE.lt {w:World} {g:Nat} {t:TypeId} {arr:Array Value} (h:bE w g t arr):g<w.heap.size:=(Array.getElem?_eq_some_iff.1 h.get).1
theorem bE.cell {w:World} {g:Nat} {t:TypeId} {arr:Array Value} (h:bE w g t arr) {i:Nat} {v:Value} (hi:arr[i]?=some v):w.cell? ⟨g,i,none⟩=some v:=by
 simp[World.cell?,h.get,hi]
theorem bE.frozen {w:World} {g:Nat} {t:TypeId} {arr:Array Value} (h:bE w g t arr) (i:Nat):w.frozen? ⟨g,i,none⟩=false:=by
 simp[World.frozen?,h.get]
theorem bE.of_heap {w w':World} {g:Nat} {t:TypeId} {arr:Array Value} (h:bE w g t arr) (e:w'.heap[g]?=w.heap[g]?):bE w' g t arr:=⟨e.trans h.get⟩
theorem bE.al {w:World} {g:Nat} {t:TypeId} {arr:Array Value} (h:bE w g t arr) (o:Obj):bE (w.alloc o) g t arr:=h.of_heap (Below.heap_alloc _ _ _ h.lt)
theorem bE.dr {w:World} {g:Nat} {t:TypeId} {arr:Array Value} (h:bE w g t arr):bE w.drew g t arr:=h.of_heap rfl
theorem bE.drN {w:World} {g:Nat} {t:TypeId} {arr:Array Value} (h:bE w g t arr) (n:Nat):bE (w.drewN n) g t arr:=h.of_heap rfl
theorem bE.set {w:World} {g:Nat} {t:TypeId} {arr:Array Value} (h:bE w g t arr) (i:Nat) (v:Value):bE (w.setCell ⟨g,i,none⟩ v) g t (arr.setIfInBounds i v):=by
 constructor;simp[World.setCell,Array.getElem?_modify,h.get]
theorem bE.below {B:Nat} {w w':World} {g:Nat} {t:TypeId} {arr:Array Value} (h:bE w g t arr) (hb:Below B w w') (hg:g<B):bE w' g t arr:=h.of_heap (hb.block _ hg)
theorem bE.grown {w w':World} {row:Option Nat} {g:Nat} {t:TypeId} {arr:Array Value} (h:bE w g t arr) (hg:w.grownBy w' row) (hne:some g≠row):bE w' g t arr:=h.of_heap (hg.block _ h.lt hne)
theorem bE.new (w:World) (t:TypeId) (arr:Array Value):bE (w.alloc (.cells arr t)) w.heap.size t arr:=by
 constructor;show (w.heap.push _)[w.heap.size]?=_;simp
theorem Mem.Nf {m:Mem} {w:World} (h:m.inn w) (o:Obj):m.inn (w.alloc o):=
 ⟨fun k u hk=>(Below.heap_alloc _ _ _ (Array.getElem?_eq_some_iff.1 (h.get k u hk)).1).trans (h.get k u hk)⟩
theorem Mem.Q3 {m:Mem} {w:World} (h:m.inn w) {a:Addr} (ha:m a.block=none) (v:Value):m.inn (w.setCell a v):=
 ⟨fun k u hk=>(Below.heap_setCell _ _ _ _ (by intro e;rw[e,ha] at hk;cases hk)).trans (h.get k u hk)⟩
theorem Mem.rO {m:Mem} {w w':World} {row:Option Nat} (h:m.inn w) (hg:w.grownBy w' row) (hr:∀k,row=some k→m k=none):m.inn w':=
 ⟨fun k u hk=>(hg.block k (Array.getElem?_eq_some_iff.1 (h.get k u hk)).1 (by intro e;rw[hr k e.symm] at hk;cases hk)).trans (h.get k u hk)⟩
theorem Mem.R5 {m:Mem} {w:World} (h:m.inn w) {k:Nat} {o:Obj} (hk:m k=some o):k<w.heap.size:=(Array.getElem?_eq_some_iff.1 (h.get k o hk)).1
theorem Mem.fU {m:Mem} {w:World} (h:m.inn w) {k:Nat} (hk:w.heap.size≤k):m k=none:=by
 cases hm:m k with
 | none=>rfl
 | some o=>have:=Mem.R5 h hm;omega
def Mem.grow (m:Mem) (w0 w:World):Mem:=fun k=>if k<w0.heap.size then m k else w.heap[k]?
theorem Mem.dF {m:Mem} {w0 w:World} (h:m.inn w0):m.le (m.grow w0 w):=⟨fun k o hk=>by
 unfold Mem.grow;rw[zI (Mem.R5 h hk)];exact hk⟩
theorem Mem.I8 {m:Mem} {w0 w:World} (h:m.inn w0) (hb:Below w0.heap.size w0 w):(m.grow w0 w).inn w:=⟨fun k o hk=>by
 unfold Mem.grow at hk
 split at hk
 ·rename_i hlt;exact (hb.block k hlt).trans (h.get k o hk)
 ·exact hk⟩
theorem Mem.Nq {m:Mem} {w0 w:World} {k:Nat} (h:m k=none) (hk:k<w0.heap.size):m.grow w0 w k=none:=by simp[Mem.grow,hk,h]
structure Mem.ext (m:Mem) (w0:World) (mk:Mem):Prop where
 le:m.le mk
 dom:∀k o,mk k=some o→m k=some o∨w0.heap.size≤k
theorem Mem.Jc (m:Mem) (w0:World):m.ext w0 m:=⟨Mem.le_refl m,fun _ _ h=>.inl h⟩
theorem Mem.PL {m:Mem} {w0 w1 w2:World} {mk:Mem} (h:m.ext w0 mk) (hi:mk.inn w1) (hs:w0.heap.size≤w1.heap.size):m.ext w0 (mk.grow w1 w2):=
 ⟨Mem.le_trans h.le (Mem.dF hi),fun k o hk=>by
  unfold Mem.grow at hk
  split at hk
  ·exact h.dom k o hk
  ·exact .inr zo⟩
theorem Mem.xL {m:Mem} {w0 w:World} {mk:Mem} (h:m.ext w0 mk) (hi:mk.inn w):mk.le (m.grow w0 w):=⟨fun k o hk=>by
 unfold Mem.grow
 split
 ·rename_i hlt;rcases h.dom k o hk with h1 | h1
  ·exact h1
  ·omega
 ·exact hi.get k o hk⟩
def Mem.add (m:Mem) (w:World) (g:Nat):Mem:=fun k=>if k=g then w.heap[g]? else m k
theorem Mem.OG {m:Mem} {w:World} {g:Nat} (h:m.inn w):(m.add w g).inn w:=⟨fun k o hk=>by
 unfold Mem.add at hk
 split at hk
 ·rename_i e;rw[e];exact hk
 ·exact h.get k o hk⟩
theorem Mem.jE {m:Mem} {w:World} {g:Nat} (h:m g=none):m.le (m.add w g):=⟨fun k o hk=>by
 unfold Mem.add;rw[zH (fun e=>by rw[e,h] at hk;cases hk)];exact hk⟩
theorem Mem.NB {m mk:Mem} {w0 w:World} {g:Nat} (h:m.ext w0 mk) (hg:mk g=none) (hge:w0.heap.size≤g):m.ext w0 (mk.add w g):=
 ⟨Mem.le_trans h.le (Mem.jE hg),fun k o hk=>by
  unfold Mem.add at hk
  split at hk
  ·exact .inr zo
  ·exact h.dom k o hk⟩
theorem Mem.Ju {m:Mem} {w:World} {g k:Nat} (h:m k=none) (hne:k≠g):m.add w g k=none:=by simp[Mem.add,hne,h]
theorem Mem.bW {m:Mem} {w:World} {g:Nat} {t:TypeId} {arr:Array Value} (h:bE w g t arr) {i:Nat} {v:Value} (hi:arr[i]?=some v):(m.add w g).cell g i=some v:=by
 simp[Mem.cell,Mem.add,h.get,hi]
structure gL (P:Program) (t e:TypeId) (size bytes:Nat):Prop where
 ht:P.underlying t=some (.slice e)
 pos:0<size
 info:∃i z,P.info? e=some i∧i.zero=some z∧i.size=size∧i.bytes=bytes∧z.cells.size=size
theorem iR {P:Program} {t e:TypeId} {size bytes:Nat} (S:gL P t e size bytes) (w:World) (ty:TypeId)
 (v:Value) (n:Nat) (xs:List Value) (hown:w.ownsRow 0 e size v n xs)
 (a:Addr) (m c:Nat) (news:List Value) (hl:news.length=m*size) (hnews:∀j u,news[j]?=some u→w.cell? (a.add j)=some u) (h1:∀u∈news,u.oneCell'=true)
 (h63:n+m≤maxLen) (hbytes:(n+m)*bytes≤140737488355328) :
 ∃v' w',(Builtin.append_ #[t,t] ty #[v,.slice (some a) m c]).run P w=.ok v' w'∧w'.ownsRow 0 e size v' (n+m) (xs ++ news)∧w.grownBy w' v.ownBlock ∧
  (∀k,v'.ownBlock=some k→v.ownBlock=some k∨w.heap.size≤k):=by
 obtain⟨i,z,hi,hz,hsize,hby,hzs⟩:=S.info;obtain⟨v',w',hr,h2,h3,h4⟩:=run_append_own (P:=P) w 0 t ty e i z size bytes S.ht hi hz hsize hby hzs S.pos v n xs hown a m c news hl hnews h1 h63 hbytes (zC _);refine ⟨v',w',hr,h2,h3,?_⟩;intro k hk;rcases hown.2 with ⟨rfl,rfl⟩ | ⟨g,cap,cur,rfl,hbg,hg,hnc,hcm,hcs,htake⟩
 ·
  have hx:xs=[]:=yH (by simpa using hown.1);subst hx;obtain⟨v2,w2,hr2,h22,-,-⟩:=run_append_own (P:=P) w w.heap.size t ty e i z size bytes S.ht hi hz hsize hby hzs S.pos (.slice none 0 0) 0 [] (World.ownsRow_nil _ _ _ _) a m c news hl hnews h1 h63 hbytes (zG _);rw[hr] at hr2;cases hr2;exact .inr (h22.lt k hk).1
 ·by_cases hroom:n+m≤cap
  ·have hfit:n*size+news.length≤cur.size:=by rw[hl,hcs,← Nat.add_mul];exact Nat.mul_le_mul_right _ hroom
   subst hsize;have hr2:=run_append_room (P:=P) w t ty e i S.ht hi g n cap cur hg a m c news hl hnews h1 hroom hfit;rw[hr] at hr2;cases hr2;exact .inl hk
  ·have holds:∀j u,xs[j]?=some u→w.cell? ((⟨g,0,none⟩:Addr).add j)=some u:=hown.cells (g:=g) rfl;subst hsize;have hb:(n+m)*i.bytes≤140737488355328:=by rw[hby];exact hbytes
   have hr2:=run_append_grow (P:=P) w t ty e i z S.ht hi hz ⟨g,0,none⟩ n cap xs hown.1 holds a m c news hl hnews zo (by simp only[maxLen] at h63;omega) (growslice_fits zo hb);rw[hr] at hr2;cases hr2;simp[Value.ownBlock] at hk;exact .inr zo
theorem aM {w:World} {t:TypeId} {size:Nat} {v:Value} {n:Nat} {xs:List Value} (h:w.ownsRow 0 t size v n xs):∃a c,v=.slice a n c:=by
 rcases h.2 with ⟨rfl,rfl⟩ | ⟨g,cap,cur,rfl,-⟩
 ·exact⟨_,_,rfl⟩
 ·exact⟨_,_,rfl⟩
theorem dR {P:Program} {t e:TypeId} {size bytes:Nat} (S:gL P t e size bytes) {w:World} {o:Oper} {a:Act} {K:Act→World→Prop} {Q:Exit→Act→World→Prop} (s x:Operand)
 (ho:o.op=.call { callee:=.builtin .append,args:=#[s,x],argTypes:=#[t,t] })
 (v:Value) (n:Nat) (xs:List Value) (hs:a.eval s=v) (hown:w.ownsRow 0 e size v n xs)
 (ad:Addr) (m c:Nat) (news:List Value) (hx:a.eval x=.slice (some ad) m c) (hl:news.length=m*size) (hnews:∀j u,news[j]?=some u→w.cell? (ad.add j)=some u) (h1:∀u∈news,u.oneCell'=true)
 (h63:n+m≤maxLen) (hbytes:(n+m)*bytes≤140737488355328)
 (h:∀va vc w',w'.ownsRow 0 e size (.slice va (n+m) vc) (n+m) (xs ++ news)→w.grownBy w' v.ownBlock→(∀k,(Value.slice va (n+m) vc).ownBlock=some k→v.ownBlock=some k∨w.heap.size≤k)→K (a.put o.dst (.slice va (n+m) vc)) w'):o.wp P a w K Q:=by
 obtain⟨v',w',hr,h2,h3,h4⟩:=iR S w o.type v n xs hown ad m c news hl hnews h1 h63 hbytes;obtain⟨va,vc,rfl⟩:=aM h2;unfold Oper.wp execOp;simp only[ho,resolve,invoke,builtin,Sem.run_bind,Sem.run_pure,Result.andThen_ok,List.map_toArray,yG,List.map_nil,hs,hx,hr];exact h va vc w' h2 h3 h4
theorem aA {P:Program} {t e:TypeId} {size bytes:Nat} (S:gL P t e size bytes) {w:World} {ops:Array Oper} {rest:List Oper} {o:Oper} {a:Act} {Q:Exit→Act→World→Prop} (hgd:o.guard=none) (s x:Operand)
 (ho:o.op=.call { callee:=.builtin .append,args:=#[s,x],argTypes:=#[t,t] })
 (v:Value) (n:Nat) (xs:List Value) (hs:a.eval s=v) (hown:w.ownsRow 0 e size v n xs)
 (ad:Addr) (m c:Nat) (news:List Value) (hx:a.eval x=.slice (some ad) m c) (hl:news.length=m*size) (hnews:∀j u,news[j]?=some u→w.cell? (ad.add j)=some u) (h1:∀u∈news,u.oneCell'=true)
 (h63:n+m≤maxLen) (hbytes:(n+m)*bytes≤140737488355328)
 (h:∀va vc w',w'.ownsRow 0 e size (.slice va (n+m) vc) (n+m) (xs ++ news)→w.grownBy w' v.ownBlock→(∀k,(Value.slice va (n+m) vc).ownBlock=some k→v.ownBlock=some k∨w.heap.size≤k)→wpList P ops Q rest (a.put o.dst (.slice va (n+m) vc)) w'):wpList P ops Q (o::rest) a w:=
 wpList_plain hgd fun _ hK=>dR S s x ho v n xs hs hown ad m c news hx hl hnews h1 h63 hbytes fun va vc w' h2 h3 h4=>hK _ _ (h va vc w' h2 h3 h4)
def Mem.addv (m:Mem) (w:World) (v:Value):Mem:=match v.ownBlock with
 | some g=>m.add w g
 | none=>m
def Mem.free (m:Mem) (v:Value):Prop:=∀k,v.ownBlock=some k→m k=none
theorem Mem.Jt {m:Mem} {w:World} (h:m.inn w) (v:Value):(m.addv w v).inn w:=by
 unfold Mem.addv;split
 ·exact Mem.OG h
 ·exact h
theorem Mem.dG {m:Mem} {w:World} {v:Value} (h:m.free v):m.le (m.addv w v):=by
 unfold Mem.addv;split
 ·rename_i g hg;exact Mem.jE (h g hg)
 ·exact Mem.le_refl m
theorem Mem.Jd {m mk:Mem} {w0 w:World} {v:Value} (h:m.ext w0 mk) (hg:mk.free v) (hge:∀k,v.ownBlock=some k→w0.heap.size≤k):m.ext w0 (mk.addv w v):=by
 unfold Mem.addv;split
 ·rename_i g e;exact Mem.NB h (hg g e) (hge g e)
 ·exact h
theorem Mem.OE {m:Mem} {w:World} {v:Value} {k:Nat} (h:m k=none) (hne:v.ownBlock≠some k):m.addv w v k=none:=by
 cases hv:v.ownBlock with
 | none=>simp only[Mem.addv,hv];exact h
 | some g=>simp only[Mem.addv,hv];exact Mem.Ju h (fun x=>hne (by rw[hv,x]))
theorem fw {w:World} {t:TypeId} {size:Nat} {v:Value} {n:Nat} {xs:List Value} (hown:w.ownsRow 0 t size v n xs) {g:Nat} (hg:v.ownBlock=some g) (m:Mem) {j:Nat} {u:Value} (hj:xs[j]?=some u):(m.addv w v).cell g j=some u:=by
 rcases hown.2 with ⟨rfl,rfl⟩ | ⟨g',cap,cur,rfl,-,hb,hnc,hcm,hcs,htake⟩
 ·cases hg
 ·simp only[Value.ownBlock,Option.some.injEq] at hg;subst hg;simp only[Mem.addv,Value.ownBlock,Mem.cell,Mem.add,if_true,hb];rw[← htake,List.getElem?_take] at hj
  split at hj
  ·simpa using hj
  ·cases hj
theorem jc {α:Type} {R:Nat→Nat→α→Prop} {w:World} {t:TypeId} {size:Nat} {v:Value} {l:List α} {xs:List Value} (hown:w.ownsRow 0 t size v l.length xs)
 (hR:∀g,v.ownBlock=some g→∀i (h:i<l.length),R g (i*size) l[i]):Mem.slice R size v l:=by
 rcases hown.2 with ⟨rfl,h0⟩ | ⟨g,cap,cur,rfl,-,hb,hnc,hcm,hcs,htake⟩
 ·refine ⟨none,0,by rw[h0],zo,by simp[maxLen],fun hne=>absurd (yH h0) hne⟩
 ·refine ⟨some ⟨g,0,none⟩,cap,rfl,hnc,hcm,fun _=>⟨g,0,rfl,fun i h=>?_⟩⟩;rw[Nat.zero_add];exact hR g rfl i h
theorem j4 {α:Type} {R:Nat→Nat→α→Prop} {w:World} {t:TypeId} {v:Value} {l:List α} {xs:List Value} (hown:w.ownsRow 0 t 1 v l.length xs)
 (hR:∀g,v.ownBlock=some g→∀i (h:i<l.length),R g i l[i]):Mem.qZ R v l:=by
 obtain⟨a,c,h1,h2,h3,h4⟩:=jc (R:=R) hown (fun g hg i h=>by rw[Nat.mul_one];exact hR g hg i h);refine ⟨a,c,h1,h2,h3,fun hne=>?_⟩;obtain⟨b,off,h5,h6⟩:=h4 hne;exact⟨b,off,h5,fun i hi=>by have:=h6 i hi;rwa [Nat.mul_one] at this⟩
structure jA (m:Mem) (xs:List Value) (l:Table):Prop where
 len:xs.length=l.length*2
 acc:∀i (h:i<l.length),xs[i*2]?=some (.bool (l[i]).accept)
 edg:∀i (h:i<l.length),∃ve,xs[i*2+1]?=some ve∧jv m ve (l[i]).edges
theorem jA.nil (m:Mem):jA m [] []:=⟨rfl,fun i h=>by simp at h,fun i h=>by simp at h⟩
theorem jA.mono {m m':Mem} {xs:List Value} {l:Table} (h:jA m xs l) (hl:m.le m'):jA m' xs l:=
 ⟨h.len,h.acc,fun i hi=>let ⟨ve,h1,h2⟩:=h.edg i hi;⟨ve,h1,mo hl h2⟩⟩
theorem jA.push {m:Mem} {xs:List Value} {l:Table} (h:jA m xs l) {s:Sn} {ve:Value} (he:jv m ve s.edges):jA m (xs ++ [.bool s.accept,ve]) (l ++ [s]):=by
 refine ⟨by simp[h.len,Nat.add_mul],fun i hi=>?_,fun i hi=>?_⟩
 ·by_cases c:i<l.length
  ·rw[yF (by rw[h.len];omega),h.acc i c,List.getElem_append_left c]
  ·have:i=l.length:=by simp at hi;omega
   subst this;rw[yI (by rw[h.len];omega)];simp[h.len]
 ·by_cases c:i<l.length
  ·obtain⟨u,h1,h2⟩:=h.edg i c;exact⟨u,by rw[yF (by rw[h.len];omega)];exact h1,by rw[List.getElem_append_left c];exact h2⟩
  ·have:i=l.length:=by simp at hi;omega
   subst this;refine ⟨ve,?_,by simpa using he⟩;rw[yI (by rw[h.len];omega)];simp[h.len]
theorem dK {w:World} {t:TypeId} {v:Value} {l:Table} {xs:List Value} {m:Mem} (hown:w.ownsRow 0 t 2 v l.length xs) (hr:jA m xs l) (hf:m.free v):aG (m.addv w v) v l:=
 jc hown fun _ hg i h=>⟨fw hown hg m (hr.acc i h),let ⟨ve,h1,h2⟩:=hr.edg i h;⟨ve,fw hown hg m h1,mo (Mem.dG hf) h2⟩⟩
def bQ (es:List Ed):List Value:=es.flatMap fun e=>[.int .u8 e.lo,.int .u8 e.hi,.int .i64 e.to]
def edOk (e:Ed):Prop:=e.lo<256∧e.hi<256 ∧ -9223372036854775808≤e.to∧e.to≤9223372036854775807
theorem jQ (es:List Ed):(bQ es).length=es.length*3:=by
 induction es with
 | nil=>rfl
 | cons e es ih=>simp only[bQ,List.flatMap_cons,zJ] at *;simp[ih];omega
theorem ja (es:List Ed):∀i (h:i<es.length),(bQ es)[i*3]?=some (.int .u8 es[i].lo)∧(bQ es)[i*3+1]?=some (.int .u8 es[i].hi)∧(bQ es)[i*3+2]?=some (.int .i64 es[i].to):=by
 induction es with
 | nil=>intro i h;simp at h
 | cons e es ih=>
  intro i h
  cases i with
  | zero=>simp[bQ]
  | succ i=>
   have:=ih i (by simpa using h);simp only[bQ,List.flatMap_cons] at *
   rw[show (i+1)*3=i*3+3 by omega,show i*3+3+1=(i*3+1)+3 by omega,show i*3+3+2=(i*3+2)+3 by omega];simpa using this
theorem eT (es:List Ed) (e:Ed):bQ (es ++ [e])=bQ es ++ [.int .u8 e.lo,.int .u8 e.hi,.int .i64 e.to]:=by simp[bQ]
theorem fC {w:World} {t:TypeId} {v:Value} {l:List Ed} {m:Mem} (hown:w.ownsRow 0 t 3 v l.length (bQ l)) (hk:∀e∈l,edOk e):jv (m.addv w v) v l:=
 jc hown fun g hg i h=>by
  obtain⟨h1,h2,h3⟩:=ja l i h;exact⟨fw hown hg m h1,fw hown hg m h2,fw hown hg m h3,hk _ (zB h)⟩
theorem dO {w:World} {t:TypeId} {v:Value} {l:List Int} {m:Mem} (hown:w.ownsRow 0 t 1 v l.length (l.map (Value.int .i64))) (hk:∀x∈l,-9223372036854775808≤x∧x≤9223372036854775807):iy (m.addv w v) v l:=
 j4 hown fun g hg i h=>⟨fw hown hg m (by simp[h]),hk _ (zB h)⟩
theorem iV {w:World} {t:TypeId} {v:Value} {l:List Bool} {m:Mem} (hown:w.ownsRow 0 t 1 v l.length (l.map Value.bool)):iq (m.addv w v) v l:=
 j4 hown fun g hg i h=>fw hown hg m (by simp[h])
theorem QY {m mk:Mem} {w0 w:World} {v:Value} (hx:m.ext w0 mk) (hi:mk.inn w) (hf:mk.free v) (hge:∀k,v.ownBlock=some k→w0.heap.size≤k):(mk.addv w v).le (m.grow w0 w):=
 Mem.xL (Mem.Jd hx hf hge) (Mem.Jt hi v)
theorem below_grown {w0 w w':World} {v:Value} (hb:Below w0.heap.size w0 w) (hg:w.grownBy w' v.ownBlock) (hge:∀k,v.ownBlock=some k→w0.heap.size≤k):Below w0.heap.size w0 w':=
 hb.grown hg hb.size hge
theorem Nz {mk:Mem} {w:World} {v v':Value} {N:Nat} (hi:mk.inn w) (hf:mk.free v) (hrow:∀k,v'.ownBlock=some k→v.ownBlock=some k∨N≤k) (hN:w.heap.size≤N):mk.free v':=fun k hk=>by
 rcases hrow k hk with h | h
 ·exact hf k h
 ·exact Mem.fU hi zo
theorem Q6 {n N:Nat} {v v':Value} (hge:∀k,v.ownBlock=some k→n≤k) (hrow:∀k,v'.ownBlock=some k→v.ownBlock=some k∨N≤k) (hN:n≤N):∀k,v'.ownBlock=some k→n≤k:=fun k hk=>by
 rcases hrow k hk with h | h
 ·exact hge k h
 ·omega
theorem bE.news {w:World} {g:Nat} {t:TypeId} {arr:Array Value} (h:bE w g t arr) {l:List Value} (hl:arr.toList=l):∀j u,l[j]?=some u→w.cell? ((⟨g,0,none⟩:Addr).add j)=some u:=by
 intro j u hj;subst hl;rw[Addr.add_lit,Nat.zero_add];exact h.cell (by simpa using hj)
theorem bE.c {w:World} {g:Nat} {t:TypeId} {arr:Array Value} {v:Value} (h:bE w g t arr) (i:Nat) (e:arr[i]?=some v:=by rfl):w.cell? ⟨g,i,none⟩=some v:=h.cell e
theorem bE.cs6 {w:World} {g:Nat} {t:TypeId} {a b c d e f:Value} (h:bE w g t #[a,b,c,d,e,f]):w.cell? ⟨g,0,none⟩=some a∧w.cell? ⟨g,1,none⟩=some b∧w.cell? ⟨g,2,none⟩=some c∧w.cell? ⟨g,3,none⟩=some d∧w.cell? ⟨g,4,none⟩=some e∧w.cell? ⟨g,5,none⟩=some f:=⟨h.cell rfl,h.cell rfl,h.cell rfl,h.cell rfl,h.cell rfl,h.cell rfl⟩
theorem bE.cs5 {w:World} {g:Nat} {t:TypeId} {a b c d e:Value} (h:bE w g t #[a,b,c,d,e]):w.cell? ⟨g,0,none⟩=some a∧w.cell? ⟨g,1,none⟩=some b∧w.cell? ⟨g,2,none⟩=some c∧w.cell? ⟨g,3,none⟩=some d∧w.cell? ⟨g,4,none⟩=some e:=⟨h.cell rfl,h.cell rfl,h.cell rfl,h.cell rfl,h.cell rfl⟩
theorem bE.fr6 {w:World} {g:Nat} {t:TypeId} {arr:Array Value} (h:bE w g t arr):w.frozen? ⟨g,0,none⟩=false∧w.frozen? ⟨g,1,none⟩=false∧w.frozen? ⟨g,2,none⟩=false∧w.frozen? ⟨g,3,none⟩=false∧w.frozen? ⟨g,4,none⟩=false∧w.frozen? ⟨g,5,none⟩=false:=⟨h.frozen 0,h.frozen 1,h.frozen 2,h.frozen 3,h.frozen 4,h.frozen 5⟩
theorem bE.fr5 {w:World} {g:Nat} {t:TypeId} {arr:Array Value} (h:bE w g t arr):w.frozen? ⟨g,0,none⟩=false∧w.frozen? ⟨g,1,none⟩=false∧w.frozen? ⟨g,2,none⟩=false∧w.frozen? ⟨g,3,none⟩=false∧w.frozen? ⟨g,4,none⟩=false:=⟨h.frozen 0,h.frozen 1,h.frozen 2,h.frozen 3,h.frozen 4⟩
theorem bE.cf6 {w:World} {g:Nat} {t:TypeId} {a b c d e f:Value} (h:bE w g t #[a,b,c,d,e,f]):w.cell? ⟨g,0,none⟩=some a∧w.cell? ⟨g,1,none⟩=some b∧w.cell? ⟨g,2,none⟩=some c∧w.cell? ⟨g,3,none⟩=some d∧w.cell? ⟨g,4,none⟩=some e∧w.cell? ⟨g,5,none⟩=some f∧w.frozen? ⟨g,0,none⟩=false∧w.frozen? ⟨g,1,none⟩=false∧w.frozen? ⟨g,2,none⟩=false∧w.frozen? ⟨g,3,none⟩=false∧w.frozen? ⟨g,4,none⟩=false∧w.frozen? ⟨g,5,none⟩=false:=⟨h.cell rfl,h.cell rfl,h.cell rfl,h.cell rfl,h.cell rfl,h.cell rfl,h.fr6⟩
theorem bE.cf5 {w:World} {g:Nat} {t:TypeId} {a b c d e:Value} (h:bE w g t #[a,b,c,d,e]):w.cell? ⟨g,0,none⟩=some a∧w.cell? ⟨g,1,none⟩=some b∧w.cell? ⟨g,2,none⟩=some c∧w.cell? ⟨g,3,none⟩=some d∧w.cell? ⟨g,4,none⟩=some e∧w.frozen? ⟨g,0,none⟩=false∧w.frozen? ⟨g,1,none⟩=false∧w.frozen? ⟨g,2,none⟩=false∧w.frozen? ⟨g,3,none⟩=false∧w.frozen? ⟨g,4,none⟩=false:=⟨h.cell rfl,h.cell rfl,h.cell rfl,h.cell rfl,h.cell rfl,h.fr5⟩
inductive Item where
 | obj (g:Nat) (t:TypeId) (arr:Array Value)
 | row (v:Value) (t:TypeId) (size n:Nat) (xs:List Value)
 | blob (g:Nat) (o:Obj)
def Item.blk:Item→Option Nat
 | .obj g _ _=>some g
 | .row v _ _ _ _=>v.ownBlock
 | .blob g _=>some g
def Item.ok (w:World):Item→Prop
 | .obj g t arr=>bE w g t arr
 | .row v t size n xs=>w.ownsRow 0 t size v n xs
 | .blob g o=>w.heap[g]?=some o
def Item.apart (a b:Item):Prop:=∀k,a.blk=some k→b.blk=some k→False
theorem Item.lX {w w':World} {it:Item} (h:it.ok w) (e:∀k,it.blk=some k→w'.heap[k]?=w.heap[k]?):it.ok w':=by
 cases it with
 | obj g t arr=>exact bE.of_heap h (e g rfl)
 | row v t size n xs=>
  obtain⟨h1,h2⟩:=h;refine ⟨h1,?_⟩;rcases h2 with h2 | ⟨g,cap,cur,hv,hg,hh,r⟩
  ·exact .inl h2
  ·exact .inr ⟨g,cap,cur,hv,hg,by rw[e g (by rw[hv];rfl)];exact hh,r⟩
 | blob g o=>exact (e g rfl).trans h
theorem Item.lt {w:World} {it:Item} (h:it.ok w) {k:Nat} (hk:it.blk=some k):k<w.heap.size:=by
 cases it with
 | obj g t arr=>simp only[Item.blk,Option.some.injEq] at hk;subst hk;exact bE.lt h
 | row v t size n xs=>exact (World.ownsRow.lt h k hk).2
 | blob g o=>simp only[Item.blk,Option.some.injEq] at hk;subst hk;exact (Array.getElem?_eq_some_iff.1 h).1
structure Own (w0:World) (m:Mem) (w:World) (mk:Mem) (L:List Item):Prop where
 m0:m.inn w0
 below:Below w0.heap.size w0 w
 ext:m.ext w0 mk
 inn:mk.inn w
 ok:∀it∈L,it.ok w
 fresh:∀it∈L,∀k,it.blk=some k→w0.heap.size≤k∧mk k=none
 apart:L.Pairwise Item.apart
section
variable {w0 w w':World} {m mk:Mem} {L:List Item}
theorem Own.start (h:m.inn w):Own w m w m []:=⟨h,zP _ _,Mem.Jc _ _,h,zS,zS,.nil⟩
theorem Own.move (h:Own w0 m w mk L) (hb:Below w.heap.size w w'):Own w0 m w' mk L:=
 ⟨h.m0,bU h.below hb,h.ext,Mem.bJ h.inn hb,fun it hi=>Item.lX (h.ok it hi) fun k hk=>hb.block k (Item.lt (h.ok it hi) hk),h.fresh,h.apart⟩
theorem Own.al' (h:Own w0 m w mk L) (o:Obj):Own w0 m (w.alloc o) mk L:=h.move (aR (zP _ _) o)
theorem Own.dr (h:Own w0 m w mk L):Own w0 m w.drew mk L:=h.move (zP _ _).drew
theorem Own.drN (h:Own w0 m w mk L) (n:Nat):Own w0 m (w.drewN n) mk L:=h.move (below_drewN (zP _ _) n)
theorem Own.cons (h:Own w0 m w mk L) {it:Item} (h1:it.ok w) (h2:∀k,it.blk=some k→w0.heap.size≤k∧mk k=none) (h3:∀b∈L,it.apart b):Own w0 m w mk (it::L):=
 ⟨h.m0,h.below,h.ext,h.inn,by simp only[zV,forall_eq_or_imp];exact⟨h1,h.ok⟩,by simp only[zV,forall_eq_or_imp];exact⟨h2,h.fresh⟩,.cons h3 h.apart⟩
theorem Own.sub {L':List Item} (h:Own w0 m w mk L) (hs:L'.Sublist L):Own w0 m w mk L':=
 ⟨h.m0,h.below,h.ext,h.inn,fun it hi=>h.ok it (hs.subset hi),fun it hi=>h.fresh it (hs.subset hi),h.apart.sublist hs⟩
theorem Own.perm {L':List Item} (h:Own w0 m w mk L) (hp:L'.Perm L):Own w0 m w mk L':=
 ⟨h.m0,h.below,h.ext,h.inn,fun it hi=>h.ok it (hp.subset hi),fun it hi=>h.fresh it (hp.subset hi),(hp.symm.pairwise_iff (fun {_ _} hab k h1 h2=>hab k h2 h1)).1 h.apart⟩
theorem Own.tail {it:Item} (h:Own w0 m w mk (it::L)):Own w0 m w mk L:=h.sub (List.sublist_cons_self _ _)
theorem Own.drop2 {a b:Item} (h:Own w0 m w mk (a::b::L)):Own w0 m w mk (a::L):=h.sub (.cons_cons _ (.cons _ (List.Sublist.refl _)))
theorem Own.kV {a b c:Item} (h:Own w0 m w mk (a::b::c::L)):Own w0 m w mk (a::b::L):=h.sub (.cons_cons _ (.cons_cons _ (.cons _ (List.Sublist.refl _))))
theorem Own.Sb {a b c d:Item} (h:Own w0 m w mk (a::b::c::d::L)):Own w0 m w mk (a::b::c::L):=h.sub (.cons_cons _ (.cons_cons _ (.cons_cons _ (.cons _ (List.Sublist.refl _)))))
theorem Own.swap {a b:Item} (h:Own w0 m w mk (a::b::L)):Own w0 m w mk (b::a::L):=h.perm (List.Perm.swap _ _ _)
theorem Own.third {a b c:Item} (h:Own w0 m w mk (a::b::c::L)):Own w0 m w mk (c::a::b::L):=h.perm ((List.Perm.swap _ _ _).trans (List.Perm.cons _ (List.Perm.swap _ _ _)))
theorem Own.fourth {a b c d:Item} (h:Own w0 m w mk (a::b::c::d::L)):Own w0 m w mk (d::a::b::c::L):=
 h.perm ((List.Perm.swap _ _ _).trans (List.Perm.cons _ ((List.Perm.swap _ _ _).trans (List.Perm.cons _ (List.Perm.swap _ _ _)))))
theorem Own.RL {a b c:Item} (h:Own w0 m w mk (a::b::c::L)):Own w0 m w mk (a::c::b::L):=h.perm (List.Perm.cons _ (List.Perm.swap _ _ _))
theorem Own.at {g:Nat} {t:TypeId} {arr:Array Value} (h:Own w0 m w mk L) (hi:Item.obj g t arr∈L):bE w g t arr:=h.ok _ hi
theorem Own.al (h:Own w0 m w mk L) (arr:Array Value) (t:TypeId):Own w0 m (w.alloc (.cells arr t)) mk (.obj w.heap.size t arr::L):=
 (h.al' (.cells arr t)).cons (bE.new _ _ _) (fun k hk=>by simp only[Item.blk,Option.some.injEq] at hk;subst hk;exact⟨h.below.size,Mem.fU h.inn (zG _)⟩)
  (fun b hb k h1 h2=>by simp only[Item.blk,Option.some.injEq] at h1;subst h1;exact absurd (Item.lt (h.ok b hb) h2) (Nat.lt_irrefl _))
theorem Own.dI (h:Own w0 m w mk L) (t:TypeId) (size:Nat):Own w0 m w mk (.row (.slice none 0 0) t size 0 []::L):=
 h.cons (World.ownsRow_nil _ _ _ _) (fun k hk=>by cases hk) (fun b _ k h1 _=>by cases h1)
theorem Own.set {g:Nat} {t:TypeId} {arr:Array Value} (h:Own w0 m w mk (.obj g t arr::L)) (i:Nat) (v:Value):Own w0 m (w.setCell ⟨g,i,none⟩ v) mk (.obj g t (arr.setIfInBounds i v)::L):=by
 have hf:=h.fresh _ (yA ..) g rfl;have hap:=List.pairwise_cons.1 h.apart;refine ⟨h.m0,h.below.setCell hf.1 v,h.ext,Mem.Q3 h.inn hf.2 v,?_,?_,.cons ?_ hap.2⟩
 ·simp only[zV,forall_eq_or_imp];exact⟨bE.set (h.ok _ (yA ..)) i v,fun it hi=>Item.lX (h.ok it (zR _ hi)) fun k hk=>
   Below.heap_setCell _ _ _ _ (fun e=>hap.1 it hi g rfl (by rw[hk,e]))⟩
 ·simp only[zV,forall_eq_or_imp];exact⟨fun k hk=>by simp only[Item.blk,Option.some.injEq] at hk;subst hk;exact hf,fun it hi=>h.fresh it (zR _ hi)⟩
 ·intro b hb k h1 h2;exact hap.1 b hb k h1 h2
theorem Own.app {v v':Value} {t:TypeId} {size n n':Nat} {xs xs':List Value} (h:Own w0 m w mk (.row v t size n xs::L)) (ho:w'.ownsRow 0 t size v' n' xs') (hg:w.grownBy w' v.ownBlock)
 {N:Nat} (hr:∀k,v'.ownBlock=some k→v.ownBlock=some k∨N≤k) (hN:w.heap.size≤N):Own w0 m w' mk (.row v' t size n' xs'::L):=by
 have hf:=h.fresh _ (yA ..);have hap:=List.pairwise_cons.1 h.apart;refine ⟨h.m0,below_grown h.below hg (fun k hk=>(hf k hk).1),h.ext,Mem.rO h.inn hg (fun k hk=>(hf k hk).2),?_,?_,.cons ?_ hap.2⟩
 ·simp only[zV,forall_eq_or_imp];exact⟨ho,fun it hi=>Item.lX (h.ok it (zR _ hi)) fun k hk=>hg.block k (Item.lt (h.ok it (zR _ hi)) hk) (fun e=>hap.1 it hi k e.symm hk)⟩
 ·simp only[zV,forall_eq_or_imp];exact⟨fun k hk=>(hr k hk).elim (fun h1=>hf k h1) (fun h1=>⟨by have:=h.below.size;omega,Mem.fU h.inn zo⟩),fun it hi=>h.fresh it (zR _ hi)⟩
 ·intro b hb k h1 h2;rcases hr k h1 with h3 | h3
  ·exact hap.1 b hb k h3 h2
  ·have:=Item.lt (h.ok b (zR _ hb)) h2;omega
theorem Own.call (h:Own w0 m w mk L) (hb:Below w.heap.size w w'):Own w0 m w' (mk.grow w w') L:=
 ⟨h.m0,bU h.below hb,Mem.PL h.ext h.inn h.below.size,Mem.I8 h.inn hb,(h.move hb).ok,
  fun it hi k hk=>⟨(h.fresh it hi k hk).1,Mem.Nq (h.fresh it hi k hk).2 (Item.lt (h.ok it hi) hk)⟩,h.apart⟩
theorem Own.bv {v:Value} {t:TypeId} {size n:Nat} {xs:List Value} (h:Own w0 m w mk (.row v t size n xs::L)):Own w0 m w (mk.addv w v) L:=by
 have hf:=h.fresh _ (yA ..);have hap:=List.pairwise_cons.1 h.apart;exact⟨h.m0,h.below,Mem.Jd h.ext (fun k hk=>(hf k hk).2) (fun k hk=>(hf k hk).1),Mem.Jt h.inn v,fun it hi=>h.ok it (zR _ hi),
  fun it hi k hk=>⟨(h.fresh it (zR _ hi) k hk).1,Mem.OE (h.fresh it (zR _ hi) k hk).2 (fun e=>hap.1 it hi k e hk)⟩,hap.2⟩
theorem Own.iY {g:Nat} {t:TypeId} {arr:Array Value} (h:Own w0 m w mk (.obj g t arr::L)):Own w0 m w (mk.add w g) L:=by
 have hf:=h.fresh _ (yA ..) g rfl;have hap:=List.pairwise_cons.1 h.apart;exact⟨h.m0,h.below,Mem.NB h.ext hf.2 hf.1,Mem.OG h.inn,fun it hi=>h.ok it (zR _ hi),
  fun it hi k hk=>⟨(h.fresh it (zR _ hi) k hk).1,Mem.Ju (h.fresh it (zR _ hi) k hk).2 (fun e=>hap.1 it hi g rfl (by rw[hk,e]))⟩,hap.2⟩
theorem Own.free {v:Value} {t:TypeId} {size n:Nat} {xs:List Value} (h:Own w0 m w mk (.row v t size n xs::L)):mk.free v:=fun k hk=>(h.fresh _ (yA ..) k hk).2
theorem Own.iO {g:Nat} {t:TypeId} {arr:Array Value} (h:Own w0 m w mk (.obj g t arr::L)):mk g=none:=(h.fresh _ (yA ..) g rfl).2
theorem Own.row {v:Value} {t:TypeId} {size n:Nat} {xs:List Value} (h:Own w0 m w mk (.row v t size n xs::L)):w.ownsRow 0 t size v n xs:=h.ok _ (yA ..)
theorem Own.obj {g:Nat} {t:TypeId} {arr:Array Value} (h:Own w0 m w mk (.obj g t arr::L)):bE w g t arr:=h.ok _ (yA ..)
theorem Own.done (h:Own w0 m w mk L):mk.le (m.grow w0 w):=Mem.xL h.ext h.inn
end
theorem aT {w:World} {t:TypeId} {size n cap g:Nat} {xs:List Value} (h:w.ownsRow 0 t size (.slice (some ⟨g,0,none⟩) n cap) n xs) {j:Nat} {u:Value} (hj:xs[j]?=some u):w.cell? ⟨g,j,none⟩=some u:=by
 have:=h.cells (g:=g) rfl j u hj
 rwa [Addr.add_lit,Nat.zero_add] at this
theorem dh {w:World} {t:TypeId} {size n cap g:Nat} {xs:List Value} (h:w.ownsRow 0 t size (.slice (some ⟨g,0,none⟩) n cap) n xs) (j:Nat):w.frozen? ⟨g,j,none⟩=false:=by
 rcases h.2 with ⟨h',-⟩ | ⟨g',cap',cur,h',-,hb,-⟩
 ·cases h'
 ·cases h';simp[World.frozen?,hb]
section
variable {w0 w w':World} {m mk mk':Mem} {L L':List Item}
theorem Own.setRow {g n cap size:Nat} {t:TypeId} {xs:List Value} (h:Own w0 m w mk (.row (.slice (some ⟨g,0,none⟩) n cap) t size n xs::L)) (j:Nat) (u:Value) :
 Own w0 m (w.setCell ⟨g,j,none⟩ u) mk (.row (.slice (some ⟨g,0,none⟩) n cap) t size n (xs.set j u)::L):=by
 obtain⟨h1,h2⟩:=h.row.stored j u;exact h.app h1 h2 (N:=w.heap.size) (fun k hk=>.inl hk) (zG _)
theorem Own.make (h:Own w0 m w mk L) {n cap size:Nat} {t:TypeId} {xs:List Value} (ho:w'.ownsRow 0 t size (.slice (some ⟨w.heap.size,0,none⟩) n cap) n xs) (hg:w.grownBy w' none) :
 Own w0 m w' mk (.row (.slice (some ⟨w.heap.size,0,none⟩) n cap) t size n xs::L):=
 (h.dI t size).app ho hg (N:=w.heap.size) (fun k hk=>by simp[Value.ownBlock] at hk;exact .inr zo) (zG _)
theorem Own.join (h:Own w0 m w mk L) (h':Own w mk w' mk' L'):Own w0 m w' mk' (L' ++ L):=by
 refine ⟨h.m0,bU h.below h'.below,⟨Mem.le_trans h.ext.le h'.ext.le,fun k o hk=>?_⟩,h'.inn,?_,?_,?_⟩
 ·rcases h'.ext.dom k o hk with h1 | h1
  ·exact h.ext.dom k o h1
  ·exact .inr (yE h.below.size h1)
 ·intro it hi;rcases List.mem_append.1 hi with h1 | h1
  ·exact h'.ok it h1
  ·exact (h.move h'.below).ok it h1
 ·intro it hi k hk;rcases List.mem_append.1 hi with h1 | h1
  ·exact⟨yE h.below.size (h'.fresh it h1 k hk).1,(h'.fresh it h1 k hk).2⟩
  ·refine ⟨(h.fresh it h1 k hk).1,?_⟩
   cases hm:mk' k with
   | none=>rfl
   | some o=>
    rcases h'.ext.dom k o hm with h2 | h2
    ·rw[(h.fresh it h1 k hk).2] at h2;cases h2
    ·exact absurd (Item.lt (h.ok it h1) hk) zo
 ·rw[List.pairwise_append];refine ⟨h'.apart,h.apart,fun a ha b hb k h1 h2=>?_⟩;have e1:=(h'.fresh a ha k h1).1;have e2:=Item.lt (h.ok b hb) h2;omega
end
theorem Pk (z:Value) (n:Nat):(madeCells #[z] (n*1)).toList=List.replicate n z:=by
 apply List.ext_getElem
 ·simp[madeCells]
 ·intro i h1 h2;simp[madeCells,Nat.mod_one]
structure Jz (P:Program) (t e:TypeId) (bytes:Nat) (z:Value):Prop where
 ht:P.underlying t=some (.slice e)
 info:(P.info? e).map (fun i=>(i.zero,i.size,i.bytes))=some (some z,1,bytes)
 one:z.cells=#[z]
theorem wpList_make_row {P:Program} {t e:TypeId} {bytes:Nat} {z:Value} (S:Jz P t e bytes z) {w:World} {ops:Array Oper} {rest:List Oper} {o:Oper} {a:Act} {Q:Exit→Act→World→Prop}
 (hg:o.guard=none) (l c:Operand) (hop:o.op=Op.makeSlice t l c) (n:Nat) (hl:a.eval l=.int .i64 n) (hc:a.eval c=.int .i64 n) (b2:bytes*n≤281474976710656) (b3:n≤maxLen)
 (hK:∀w',w'.ownsRow 0 e 1 (.slice (some ⟨w.heap.size,0,none⟩) n n) n (List.replicate n z)→w.grownBy w' none→wpList P ops Q rest (a.put o.dst (.slice (some ⟨w.heap.size,0,none⟩) n n)) w') :
 wpList P ops Q (o::rest) a w:=by
 obtain⟨i,hi,hz,hs,hb⟩:=info_parts S.info;refine wpList_make_full w hg l c t hop 0 e i z 1 S.ht hi hz hs .i64 .i64 n n n hl hc rfl rfl (by rw[hb];exact b2) b3 (zC _) ?_;intro w' h1 h2;rw[S.one,Pk] at h1;exact hK w' h1 h2
section
variable {w0 w w':World} {m mk:Mem} {L:List Item}
theorem Own.BA (h:Own w0 m w mk L) (o:Obj):Own w0 m (w.alloc o) mk (.blob w.heap.size o::L):=
 (h.al' o).cons (show (w.heap.push o)[w.heap.size]?=some o by simp) (fun k hk=>by simp only[Item.blk,Option.some.injEq] at hk;subst hk;exact⟨h.below.size,Mem.fU h.inn (zG _)⟩)
  (fun b hb k h1 h2=>by simp only[Item.blk,Option.some.injEq] at h1;subst h1;exact absurd (Item.lt (h.ok b hb) h2) (Nat.lt_irrefl _))
theorem Own.blob {g:Nat} {o:Obj} (h:Own w0 m w mk (.blob g o::L)):w.heap[g]?=some o:=h.ok _ (yA ..)
theorem Own.jm {g:Nat} {o o':Obj} (h:Own w0 m w mk (.blob g o::L)) (ho:w'.heap[g]?=some o') (hg:w.grownBy w' (some g)):Own w0 m w' mk (.blob g o'::L):=by
 have hf:=h.fresh _ (yA ..) g rfl;have hap:=List.pairwise_cons.1 h.apart;refine ⟨h.m0,h.below.grown hg h.below.size (fun k hk=>by cases hk;exact hf.1),h.ext,Mem.rO h.inn hg (fun k hk=>by cases hk;exact hf.2),?_,?_,.cons ?_ hap.2⟩
 ·simp only[zV,forall_eq_or_imp];exact⟨ho,fun it hi=>Item.lX (h.ok it (zR _ hi)) fun k hk=>hg.block k (Item.lt (h.ok it (zR _ hi)) hk) (fun e=>hap.1 it hi g rfl (by cases e;exact hk))⟩
 ·simp only[zV,forall_eq_or_imp];exact⟨fun k hk=>by simp only[Item.blk,Option.some.injEq] at hk;subst hk;exact hf,fun it hi=>h.fresh it (zR _ hi)⟩
 ·intro b hb k h1 h2;exact hap.1 b hb k h1 h2
theorem Own.fifth {a b c d e:Item} (h:Own w0 m w mk (a::b::c::d::e::L)):Own w0 m w mk (e::a::b::c::d::L):=
 h.perm (((List.perm_append_comm (l₁:=[e]) (l₂:=[a,b,c,d])).append_right L))
theorem Own.jY {v:Value} {t:TypeId} {size n:Nat} {xs:List Value} (h:Own w0 m w mk L) (hi:Item.row v t size n xs∈L):w.ownsRow 0 t size v n xs:=h.ok _ hi
theorem Own.d9 {g:Nat} {t:TypeId} {arr:Array Value} (h:Own w0 m w mk L) (hi:Item.obj g t arr∈L):bE w g t arr:=h.ok _ hi
theorem Own.CK {g:Nat} {o:Obj} (h:Own w0 m w mk L) (hi:Item.blob g o∈L):w.heap[g]?=some o:=h.ok _ hi
end
def aS (l:List Spn):List Value:=l.flatMap fun p=>[.int .i64 p.1,.int .i64 p.2]
def spOk (p:Spn):Prop := -9223372036854775808≤p.1∧p.1≤9223372036854775807 ∧ -9223372036854775808≤p.2∧p.2≤9223372036854775807
theorem aX (l:List Spn) (p:Spn):aS (l ++ [p])=aS l ++ [.int .i64 p.1,.int .i64 p.2]:=by simp[aS]
theorem bN (l:List Spn):(aS l).length=l.length*2:=by
 induction l with
 | nil=>rfl
 | cons p l ih=>simp only[aS,List.flatMap_cons,zJ] at *;simp[ih];omega
theorem jH:∀(l:List Spn) (i:Nat) (h:i<l.length),(aS l)[i*2]?=some (.int .i64 l[i].1)∧(aS l)[i*2+1]?=some (.int .i64 l[i].2)
 | [],i,h=>by simp at h
 | p::l,0,_=>by simp[aS]
 | p::l,i+1,h=>by
  have:=jH l i (by simpa using h);simp only[aS,List.flatMap_cons] at *
  rw[show (i+1)*2=i*2+2 by omega,show i*2+2+1=(i*2+1)+2 by omega];simpa using this
theorem cz {w:World} {t:TypeId} {v:Value} {l:List Spn} {m:Mem} (hown:w.ownsRow 0 t 2 v l.length (aS l)) (hk:∀p∈l,spOk p):bM (m.addv w v) v l:=
 jc hown fun g hg i h=>by
  obtain⟨h1,h2⟩:=jH l i h;exact⟨fw hown hg m h1,fw hown hg m h2,hk _ (zB h)⟩
theorem aV (m:Mem):bM m (.slice none 0 0) []:=⟨none,0,rfl,zG _,by simp[maxLen],fun h=>absurd rfl h⟩
theorem jf {m:Mem} {v:Value} {l:List Spn} (h:bM m v l):∀p∈l,spOk p:=by
 obtain⟨a,c,rfl,h1,h2,h3⟩:=h;intro p hp;obtain⟨i,hi,rfl⟩:=yR hp;obtain⟨b,off,-,h4⟩:=h3 (fun e=>by rw[e] at hi;simp at hi);exact (h4 i hi).2.2
theorem bO {m:Mem} {v:Value} {l:List Spn} (h:bM m v l):∃a c,v=.slice a l.length c:=by
 obtain⟨a,c,rfl,-⟩:=h;exact⟨a,c,rfl⟩
theorem tu {m:Mem} {w:World} (hm:m.inn w) {ad:Option Addr} {c:Nat} {l:List Spn} (h:bM m (.slice ad l.length c) l) (hne:l≠[]) :
 ∃b off,ad=some ⟨b,off,none⟩∧∀j u,(aS l)[j]?=some u→w.cell? ((⟨b,off,none⟩:Addr).add j)=some u:=by
 obtain⟨a,c',e,h1,h2,h3⟩:=h;injection e with e1 e2 e3;subst e1;obtain⟨b,off,rfl,h4⟩:=h3 hne;refine ⟨b,off,rfl,fun j u hj=>?_⟩;rw[Addr.add_lit];have hj2:j<(aS l).length:=(List.getElem?_eq_some_iff.1 hj).1;rw[bN] at hj2;obtain⟨i,hij⟩:∃i,j=i*2∨j=i*2+1:=⟨j / 2,zo⟩;have hi:i<l.length:=zo;obtain⟨g1,g2,-⟩:=h4 i hi;obtain⟨k1,k2⟩:=jH l i hi;rcases hij with rfl | rfl
 ·rw[k1] at hj;cases hj;exact Mem.ak hm g1
 ·rw[k2] at hj;cases hj;exact Mem.ak hm g2
structure bu (m:Mem) (vi vf:Value) (I F:List Spn):Prop where
 i:bM m vi I
 f:bM m vf F
theorem bu.le {m m':Mem} (h:m.le m') {vi vf:Value} {I F:List Spn} (k:bu m vi vf I F):bu m' vi vf I F:=⟨aW h k.i,aW h k.f⟩
theorem bu.nil (m:Mem):bu m (.slice none 0 0) (.slice none 0 0) [] []:=⟨aV m,aV m⟩
structure p9 (m:Mem) (b o:Nat) (k n:Int) (s:ByteArray) (vi vm:Value):Prop where
 k:m.cell b o=some (.int .i64 k)
 n:m.cell b (o+1)=some (.int .i64 n)
 s:m.cell b (o+2)=some (.string s)
 i:m.cell b (o+3)=some vi
 m:m.cell b (o+4)=some vm
theorem p9.le {m m':Mem} (h:m.le m') {b o:Nat} {k n:Int} {s:ByteArray} {vi vm:Value} (x:p9 m b o k n s vi vm):p9 m' b o k n s vi vm:=
 ⟨Mem.aB h x.k,Mem.aB h x.n,Mem.aB h x.s,Mem.aB h x.i,Mem.aB h x.m⟩
inductive DtAt (m:Mem):Value→Value→Dt→Prop
 | mk (k n:Int) (s:ByteArray) (items:List Dt) (labels:List ByteArray) (bK:List Dt) (ai:Option Addr) (ci:Nat) (am:Option Addr) (cm:Nat)
  (hk : -9223372036854775808≤k∧k≤9223372036854775807) (hn : -9223372036854775808≤n∧n≤9223372036854775807) (hs:s.size≤maxLen) (hl:labels.length=bK.length)
  (i1:items.length≤ci) (i2:ci≤maxLen) (m1:bK.length≤cm) (m2:cm≤maxLen)
  (bi oi:Nat) (i3:items≠[]→ai=some ⟨bi,oi,none⟩) (fi gi:Nat→Value) (i4:∀i (h:i<items.length),p9 m bi (oi+i*5) (items[i]).kind (items[i]).num (items[i]).str (fi i) (gi i)) (i5:∀i (h:i<items.length),DtAt m (fi i) (gi i) items[i])
  (bm om:Nat) (m3:bK≠[]→am=some ⟨bm,om,none⟩) (fm gm:Nat→Value) (m4:∀i (h:i<bK.length),p9 m bm (om+i*6+1) (bK[i]).kind (bK[i]).num (bK[i]).str (fm i) (gm i)) (m5:∀i (h:i<bK.length),DtAt m (fm i) (gm i) bK[i])
  (m6:∀i (h:i<labels.length),m.cell bm (om+i*6)=some (.string labels[i])∧(labels[i]).size≤maxLen) :
  DtAt m (.slice ai items.length ci) (.slice am bK.length cm) (.mk k n s items labels bK)
theorem DtAt.le {m m':Mem} (h:m.le m') {vi vm:Value} {d:Dt} (k:DtAt m vi vm d):DtAt m' vi vm d:=by
 induction k with
 | mk k n s items labels bK ai ci am cm hk hn hs hl i1 i2 m1 m2 bi oi i3 fi gi i4 i5 bm om m3 fm gm m4 m5 m6 ih1 ih2=>
  exact .mk k n s items labels bK ai ci am cm hk hn hs hl i1 i2 m1 m2 bi oi i3 fi gi (fun i h'=>(i4 i h').le h) ih1 bm om m3 fm gm (fun i h'=>(m4 i h').le h) ih2 (fun i h'=>⟨Mem.aB h (m6 i h').1,(m6 i h').2⟩)
def DAt (m:Mem) (b o:Nat) (d:Dt):Prop:=∃vi vm,p9 m b o d.kind d.num d.str vi vm∧DtAt m vi vm d
def DsAt (m:Mem) (v:Value) (l:List Dt):Prop:=Mem.slice (DAt m) 5 v l
theorem DAt.le {m m':Mem} (h:m.le m') {b o:Nat} {d:Dt} (k:DAt m b o d):DAt m' b o d:=by
 obtain⟨vi,vm,h1,h2⟩:=k;exact⟨vi,vm,h1.le h,h2.le h⟩
theorem DsAt.le {m m':Mem} (h:m.le m') {v:Value} {l:List Dt} (k:DsAt m v l):DsAt m' v l:=Mem.oH k fun _ _ _=>DAt.le h
structure MsAt (m:Mem) (v:Value) (labels:List ByteArray) (bK:List Dt):Prop where
 len:labels.length=bK.length
 at':∃a c,v=.slice a bK.length c∧bK.length≤c∧c≤maxLen∧(bK≠[]→∃b off,a=some ⟨b,off,none⟩ ∧
  (∀i (h:i<bK.length),DAt m b (off+i*6+1) bK[i])∧∀i (h:i<labels.length),m.cell b (off+i*6)=some (.string labels[i])∧(labels[i]).size≤maxLen)
structure DtOk (d:Dt):Prop where
 k : -9223372036854775808≤d.kind∧d.kind≤9223372036854775807
 n : -9223372036854775808≤d.num∧d.num≤9223372036854775807
 s:d.str.size≤maxLen
theorem DtAt.items {m:Mem} {vi vm:Value} {d:Dt} (h:DtAt m vi vm d):DsAt m vi d.items:=by
 cases h with
 | mk k n s items labels bK ai ci am cm hk hn hs hl i1 i2 m1 m2 bi oi i3 fi gi i4 i5 bm om m3 fm gm m4 m5 m6=>
  exact⟨ai,ci,rfl,i1,i2,fun hne=>⟨bi,oi,i3 hne,fun i h=>⟨_,_,i4 i h,i5 i h⟩⟩⟩
theorem DtAt.members {m:Mem} {vi vm:Value} {d:Dt} (h:DtAt m vi vm d):MsAt m vm d.labels d.bK:=by
 cases h with
 | mk k n s items labels bK ai ci am cm hk hn hs hl i1 i2 m1 m2 bi oi i3 fi gi i4 i5 bm om m3 fm gm m4 m5 m6=>
  exact⟨hl,am,cm,rfl,m1,m2,fun hne=>⟨bm,om,m3 hne,fun i h=>⟨_,_,m4 i h,m5 i h⟩,m6⟩⟩
theorem DtAt.ok {m:Mem} {vi vm:Value} {d:Dt} (h:DtAt m vi vm d):DtOk d:=by
 cases h with
 | mk k n s items labels bK ai ci am cm hk hn hs hl i1 i2 m1 m2 bi oi i3 fi gi i4 i5 bm om m3 fm gm m4 m5 m6=>exact⟨hk,hn,hs⟩
theorem DtAt.leaf (m:Mem) (k n:Int) (s:ByteArray) (hk : -9223372036854775808≤k∧k≤9223372036854775807) (hn : -9223372036854775808≤n∧n≤9223372036854775807) (hs:s.size≤maxLen) :
 DtAt m (.slice none 0 0) (.slice none 0 0) (.mk k n s [] [] []):=
 .mk k n s [] [] [] none 0 none 0 hk hn hs rfl (zG _) (by simp[maxLen]) (zG _) (by simp[maxLen]) 0 0 (fun h=>absurd rfl h) (fun _=>.bool true) (fun _=>.bool true) (fun i h=>by simp at h) (fun i h=>by simp at h)
  0 0 (fun h=>absurd rfl h) (fun _=>.bool true) (fun _=>.bool true) (fun i h=>by simp at h) (fun i h=>by simp at h) (fun i h=>by simp at h)
def Dt.val (d:Dt) (vi vm:Value):Value:=.agg #[.int .i64 d.kind,.int .i64 d.num,.string d.str,vi,vm]
def RS.val (s:RS) (vi vf vt:Value):Value:=.agg #[.bool s.nul,.bool s.fal,.bool s.tru,vi,vf,vt]
structure ScAt (m:Mem) (vi vf vt:Value) (s:RS):Prop where
 i:bM m vi s.i
 f:bM m vf s.f
 t:aG m vt s.t
theorem ScAt.le {m m':Mem} (h:m.le m') {vi vf vt:Value} {s:RS} (k:ScAt m vi vf vt s):ScAt m' vi vf vt s:=⟨aW h k.i,aW h k.f,aJ h k.t⟩
end Cl
