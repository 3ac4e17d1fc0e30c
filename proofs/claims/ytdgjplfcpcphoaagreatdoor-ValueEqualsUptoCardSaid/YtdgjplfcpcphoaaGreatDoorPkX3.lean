/- Lemmas for the proofs of chapter 11. -/
import Derived.Shelf.Strings.Builder1
import Derived.Shelf.Small.Wraps
import Derived.Shelf.LaysM
import Derived.Shelf.Strconv.Itoa3
import Derived.Test.YtdgjplfcpcphoaaGreatDoorProg
import Derived.WalkKit
import Derived.BigQuiet
import Derived.Deep.Cut
import Derived.Deep.QuietTactic
import Derived.Laws.StructEq
import Derived.Lib.AppendStr
import Derived.Lib.Builder
import Derived.Lib.Hide
import Derived.Lib.ItoaLen
import Derived.Maps.OwnOps
import Derived.Maps.OwnSet
import Derived.OrdersHeld
import Derived.Outline
import Derived.StillTailTactics
import Derived.StringKeys
import Derived.WalkLawsBesides
import Derived.WalkSpells
import Derived.Deep.RegionHeld
import Derived.Deep.Slices
import Derived.Lib.SmallJoins
import Derived.ChangeMaps5
import Derived.Carry
import Derived.KernelRfl
import Derived.Test.YtdgjplfcpcphoaaGreatDoorCards
import Derived.Test.YtdgjplfcpcphoaaGreatDoorTie
import Derived.ProofKit
import Derived.OpenShut
import Derived.Deep.DeepHandedRow
import Derived.Lib.LaidTab
import Derived.Stop.LaidErr
import Derived.ChangeArms
import Derived.Test.YtdgjplfcpcphoaaGreatDoorZz
import Derived.Test.YtdgjplfcpcphoaaGreatDoorPkX1
import Derived.Test.YtdgjplfcpcphoaaGreatDoorPkX2
set_option maxRecDepth 100000
set_option maxHeartbeats 16000000
namespace Go.Proofs
open Go.Shelf
def Tryz.um:Go.Shelf.Ren:=⟨fun | 169=>274 | n=>n,fun | 70=>260 | 9=>9 | 0=>0 | 72=>262 | 37=>185 | 127=>277 | 3=>3 | 5=>5 | n=>n,fun | n=>n⟩
theorem Tryz.NC:Go.Proofs.Lays.n169 Tryz.prog Tryz.um:={
 mixed:=by kernel_rfl
 f169:=Tryz.func274.trans (congrArg some zk)
 t0:=Tryz.underlying0
 a0:=Tryz.isAgg0
 z0:=Tryz.sizeOf0
 v0:=Tryz.zeroValue0
 t3:=Tryz.underlying3
 a3:=Tryz.isAgg3
 z3:=Tryz.sizeOf3
 v3:=Tryz.zeroValue3
 t9:=Tryz.underlying9
 a9:=Tryz.isAgg9
 z9:=Tryz.sizeOf9
 v9:=Tryz.zeroValue9
 t37:=Tryz.underlying185
 a37:=Tryz.isAgg185
 z37:=Tryz.sizeOf185
 v37:=Tryz.zeroValue185
 t70:=Tryz.underlying260
 a70:=Tryz.isAgg260
 z70:=Tryz.sizeOf260
 v70:=Tryz.zeroValue260
 t72:=Tryz.underlying262
 a72:=Tryz.isAgg262
 z72:=Tryz.sizeOf262
 v72:=Tryz.zeroValue262
 t127:=Tryz.underlying277
 a127:=Tryz.isAgg277
 z127:=Tryz.sizeOf277
 v127:=Tryz.zeroValue277 }
theorem Tryz.qU:Builder.Extra Tryz.prog Tryz.um:={
 sizeBuilder:=by kernel_rfl
 liesBuilder:=by kernel_rfl
 t5:=Tryz.underlying5
 a5:=Tryz.isAgg5
 z5:=Tryz.sizeOf5
 v5:=Tryz.zeroValue5
 infoByte:=by kernel_rfl
 cellsByte:=by kernel_rfl
 sizeByte:=by kernel_rfl
 neB5:=by decide }
open Go.RowKit in
open Go.RowKit in
theorem Tryz.Builder_String_any (B b:Nat) (l:List UInt8) (w:World) (h:Lib.IsBuilder 262 5 B b (Lib.byteCells l) w) (hBw:B≤w.heap.size) :
 Calls Tryz.prog 274 #[.pointer (some ⟨b,0,none⟩)] w fun e w'=>e=.returned (.string ⟨l.toArray⟩)∧Below B w w':=Any.Builder_String_any Tryz.NC Tryz.qU B b l w h hBw
open Go.RowKit in
def Tryz.Az:Go.Shelf.Ren:=⟨fun | 171=>273 | 243=>285 | 246=>292 | 283=>280 | 284=>281 | 285=>282 | 286=>283 | 129=>270 | 317=>287 | 318=>288 | 319=>289 | 320=>290 | 337=>293 | 338=>294 | n=>n,fun | 3=>3 | 9=>9 | 2=>2 | 4=>4 | 171=>273 | 0=>0 | 53=>258 | 37=>185 | 5=>5 | 173=>275 | 212=>283 | 51=>256 | 20=>20 | 213=>284 | 46=>234 | 232=>288 | 233=>289 | n=>n,fun | 17=>0 | 18=>1 | 19=>2 | n=>n⟩
theorem Tryz.LH:Go.Proofs.LaysM.n171 Tryz.prog Tryz.Az:={
 mixed:=by kernel_rfl
 f129:=Tryz.func270.trans (congrArg some zk)
 f171:=Tryz.func273.trans (congrArg some zk)
 f243:=Tryz.func285.trans (congrArg some zk)
 f246:=Tryz.func292.trans (congrArg some zk)
 f283:=Tryz.func280.trans (congrArg some zk)
 f284:=Tryz.func281.trans (congrArg some zk)
 f285:=Tryz.func282.trans (congrArg some zk)
 f286:=Tryz.func283.trans (congrArg some zk)
 f317:=Tryz.func287.trans (congrArg some zk)
 f318:=Tryz.func288.trans (congrArg some zk)
 f319:=Tryz.func289.trans (congrArg some zk)
 f320:=Tryz.func290.trans (congrArg some zk)
 f337:=Tryz.func293.trans (congrArg some zk)
 f338:=Tryz.func294.trans (congrArg some zk)
 t0:=Tryz.underlying0
 a0:=Tryz.isAgg0
 z0:=Tryz.sizeOf0
 v0:=Tryz.zeroValue0
 t2:=Tryz.underlying2
 a2:=Tryz.isAgg2
 z2:=Tryz.sizeOf2
 v2:=Tryz.zeroValue2
 t3:=Tryz.underlying3
 a3:=Tryz.isAgg3
 z3:=Tryz.sizeOf3
 v3:=Tryz.zeroValue3
 t4:=Tryz.underlying4
 a4:=Tryz.isAgg4
 z4:=Tryz.sizeOf4
 v4:=Tryz.zeroValue4
 t5:=Tryz.underlying5
 a5:=Tryz.isAgg5
 z5:=Tryz.sizeOf5
 v5:=Tryz.zeroValue5
 t9:=Tryz.underlying9
 a9:=Tryz.isAgg9
 z9:=Tryz.sizeOf9
 v9:=Tryz.zeroValue9
 t20:=Tryz.underlying20
 a20:=Tryz.isAgg20
 z20:=Tryz.sizeOf20
 v20:=Tryz.zeroValue20
 t37:=Tryz.underlying185
 a37:=Tryz.isAgg185
 z37:=Tryz.sizeOf185
 v37:=Tryz.zeroValue185
 t46:=Tryz.underlying234
 a46:=Tryz.isAgg234
 z46:=Tryz.sizeOf234
 v46:=Tryz.zeroValue234
 t51:=Tryz.underlying256
 a51:=Tryz.isAgg256
 z51:=Tryz.sizeOf256
 v51:=Tryz.zeroValue256
 t53:=Tryz.underlying258
 a53:=Tryz.isAgg258
 z53:=Tryz.sizeOf258
 v53:=Tryz.zeroValue258
 t171:=Tryz.underlying273
 a171:=Tryz.isAgg273
 z171:=Tryz.sizeOf273
 v171:=Tryz.zeroValue273
 t173:=Tryz.underlying275
 a173:=Tryz.isAgg275
 z173:=Tryz.sizeOf275
 v173:=Tryz.zeroValue275
 t212:=Tryz.underlying283
 a212:=Tryz.isAgg283
 z212:=Tryz.sizeOf283
 v212:=Tryz.zeroValue283
 t213:=Tryz.underlying284
 a213:=Tryz.isAgg284
 z213:=Tryz.sizeOf284
 t232:=Tryz.underlying288
 a232:=Tryz.isAgg288
 z232:=Tryz.sizeOf288
 v232:=Tryz.zeroValue288
 t233:=Tryz.underlying289
 a233:=Tryz.isAgg289
 z233:=Tryz.sizeOf289
 v233:=Tryz.zeroValue289
 g17:=by kernel_rfl
 g18:=by kernel_rfl
 g19:=by kernel_rfl
 i0:=by kernel_rfl
 i2:=by kernel_rfl
 i3:=by kernel_rfl
 i4:=by kernel_rfl
 i5:=by kernel_rfl
 i9:=by kernel_rfl
 i20:=by kernel_rfl
 i37:=by kernel_rfl
 i46:=by kernel_rfl
 i51:=by kernel_rfl
 i53:=by kernel_rfl
 i171:=by kernel_rfl
 i173:=by kernel_rfl
 i212:=by kernel_rfl
 i232:=by kernel_rfl
 i233:=by kernel_rfl
 m17:=by kernel_rfl
 m18:=by kernel_rfl
 m19:=by kernel_rfl }
open Go.RowKit Go.Sort Go.Lib in
theorem Tryz.strconv_Itoa (n : Int) (h0 : -9223372036854775808 ≤ n) (h1 : n ≤ 9223372036854775807) (w : World) (htab : Lib.TabIs Tryz.prog w "internal/strconv.uint64pow10" .u64 Lib.pow10Tab) :
 Calls Tryz.prog 273 #[.int .i64 n] w fun e w'=>e=.returned (.string ⟨(Lib.itoa n).toArray⟩)∧∃k os,w'=grow (w.drewN k) os:=Any.strconv_Itoa Tryz.LH n h0 h1 w htab
end Go.Proofs
namespace Cl
open Go Go.RowKit
abbrev Mem:=Nat→Option Obj
structure Mem.le (m m':Mem):Prop where
 get:∀k o,m k=some o→m' k=some o
structure Mem.inn (m:Mem) (w:World):Prop where
 get:∀k o,m k=some o→w.heap[k]?=some o
def Mem.cell (m:Mem) (b o:Nat):Option Value:=match m b with
 | some (.cells c _ _)=>c[o]?
 | _=>none
def Mem.of (w:World):Mem:=fun k=>w.heap[k]?
theorem Mem.o9 (w:World):(Mem.of w).inn w:=⟨fun _ _ h=>h⟩
theorem Mem.le_refl (m:Mem):m.le m:=⟨fun _ _ h=>h⟩
theorem Mem.le_trans {a b c:Mem} (h:a.le b) (k:b.le c):a.le c:=⟨fun i o x=>k.get i o (h.get i o x)⟩
theorem Mem.cz {m m':Mem} {w:World} (h:m.le m') (k:m'.inn w):m.inn w:=⟨fun i o x=>k.get i o (h.get i o x)⟩
theorem Mem.aj {m:Mem} {w:World} (h:m.inn w) {b o:Nat} {v:Value} (hc:m.cell b o=some v):w.cell? ⟨b,o,none⟩=some v:=by
 unfold Mem.cell at hc
 split at hc
 ·rename_i c t fr hb;simp[World.cell?,h.get _ _ hb,hc]
 ·cases hc
theorem Mem.av {m:Mem} {w:World} (h:m.inn w) {b o:Nat} {v:Value} (hc:m.cell b o=some v):b<w.heap.size:=by
 have:=Mem.aj h hc;simp only[World.cell?] at this
 split at this
 ·rename_i hb;exact (Array.getElem?_eq_some_iff.1 hb).1
 ·cases this
theorem Mem.aA {m m':Mem} (h:m.le m') {b o:Nat} {v:Value} (hc:m.cell b o=some v):m'.cell b o=some v:=by
 unfold Mem.cell at hc ⊢
 split at hc
 ·rename_i c t fr hb;rw[h.get _ _ hb];exact hc
 ·cases hc
def Mem.slice {α:Type} (R:Nat→Nat→α→Prop) (size:Nat) (v:Value) (l:List α):Prop:=
 ∃a c,v=.slice a l.length c∧l.length≤c∧c≤maxLen∧(l≠[]→∃b off,a=some ⟨b,off,none⟩∧∀i (h:i<l.length),R b (off+i*size) l[i])
theorem Mem.fU {α:Type} {R R':Nat→Nat→α→Prop} {size:Nat} {v:Value} {l:List α} (h:Mem.slice R size v l) (hr:∀b o x,R b o x→R' b o x):Mem.slice R' size v l:=by
 obtain⟨a,c,h1,h2,h3,h4⟩:=h;refine ⟨a,c,h1,h2,h3,fun hne=>?_⟩;obtain⟨b,off,h5,h6⟩:=h4 hne;exact⟨b,off,h5,fun i hi=>hr _ _ _ (h6 i hi)⟩
def Bf (m:Mem) (b o:Nat) (e:Ed):Prop:=
 m.cell b o=some (.int .u8 e.lo)∧m.cell b (o+1)=some (.int .u8 e.hi)∧m.cell b (o+2)=some (.int .i64 e.to) ∧
 e.lo<256∧e.hi<256 ∧ -9223372036854775808≤e.to∧e.to≤9223372036854775807
def iG (m:Mem) (v:Value) (es:List Ed):Prop:=Mem.slice (Bf m) 3 v es
def qy (m:Mem) (b o:Nat) (s:Sn):Prop:=
 m.cell b o=some (.bool s.accept)∧∃ve,m.cell b (o+1)=some ve∧iG m ve s.edges
def aR (m:Mem) (v:Value) (l:Table):Prop:=Mem.slice (qy m) 2 v l
theorem Kq {m m':Mem} (h:m.le m') {b o:Nat} {e:Ed} (k:Bf m b o e):Bf m' b o e:=
 ⟨Mem.aA h k.1,Mem.aA h k.2.1,Mem.aA h k.2.2.1,k.2.2.2⟩
theorem qL {m m':Mem} (h:m.le m') {v:Value} {es:List Ed} (k:iG m v es):iG m' v es:=Mem.fU k fun _ _ _=>Kq h
theorem FJ {m m':Mem} (h:m.le m') {b o:Nat} {s:Sn} (k:qy m b o s):qy m' b o s:=by
 obtain⟨h1,ve,h2,h3⟩:=k;exact⟨Mem.aA h h1,ve,Mem.aA h h2,qL h h3⟩
theorem bu {m m':Mem} (h:m.le m') {v:Value} {l:Table} (k:aR m v l):aR m' v l:=Mem.fU k fun _ _ _=>FJ h
theorem Mem.bE {m:Mem} {w w':World} (h:m.inn w) (hb:Below w.heap.size w w'):m.inn w':=⟨fun k o hk=>by
 have:=h.get k o hk;rw[hb.block k (Array.getElem?_eq_some_iff.1 this).1];exact this⟩
def Mem.mU {α:Type} (R:Nat→Nat→α→Prop) (v:Value) (l:List α):Prop:=
 ∃a c,v=.slice a l.length c∧l.length≤c∧c≤maxLen∧(l≠[]→∃b off,a=some ⟨b,off,none⟩∧∀i (h:i<l.length),R b (off+i) l[i])
theorem Mem.ig {α:Type} {R R':Nat→Nat→α→Prop} {v:Value} {l:List α} (h:Mem.mU R v l) (hr:∀b o x,R b o x→R' b o x):Mem.mU R' v l:=by
 obtain⟨a,c,h1,h2,h3,h4⟩:=h;refine ⟨a,c,h1,h2,h3,fun hne=>?_⟩;obtain⟨b,off,h5,h6⟩:=h4 hne;exact⟨b,off,h5,fun i hi=>hr _ _ _ (h6 i hi)⟩
def OI (m:Mem) (b o:Nat) (x:Bool):Prop:=m.cell b o=some (.bool x)
def O5 (m:Mem) (b o:Nat) (x:Int):Prop:=m.cell b o=some (.int .i64 x) ∧ -9223372036854775808≤x∧x≤9223372036854775807
def OZ (m:Mem) (b o:Nat) (x:ByteArray):Prop:=m.cell b o=some (.string x)∧x.size≤maxLen
def Eo (m:Mem) (b o:Nat) (x:Int × Int):Prop:=m.cell b o=some (.int .i64 x.1)∧m.cell b (o+1)=some (.int .i64 x.2) ∧ -9223372036854775808≤x.1∧x.1≤9223372036854775807 ∧ -9223372036854775808≤x.2∧x.2≤9223372036854775807
def fP (m:Mem) (v:Value) (l:List Bool):Prop:=Mem.mU (OI m) v l
def dA (m:Mem) (v:Value) (l:List Int):Prop:=Mem.mU (O5 m) v l
def Eb (m:Mem) (v:Value) (l:List ByteArray):Prop:=Mem.mU (OZ m) v l
def dx (m:Mem) (v:Value) (l:List (Int × Int)):Prop:=Mem.slice (Eo m) 2 v l
def j5 (m:Mem) (v:Value) (l:List (List Int)):Prop:=Mem.mU (fun b o x=>∃u,m.cell b o=some u∧dA m u x) v l
theorem gM {m m':Mem} (h:m.le m') {v:Value} {l:List Bool} (k:fP m v l):fP m' v l:=Mem.ig k fun _ _ _=>Mem.aA h
theorem dC {m m':Mem} (h:m.le m') {v:Value} {l:List Int} (k:dA m v l):dA m' v l:=Mem.ig k fun _ _ _ k=>⟨Mem.aA h k.1,k.2⟩
theorem zJ {m m':Mem} (h:m.le m') {v:Value} {l:List ByteArray} (k:Eb m v l):Eb m' v l:=Mem.ig k fun _ _ _ k=>⟨Mem.aA h k.1,k.2⟩
theorem bX {m m':Mem} (h:m.le m') {v:Value} {l:List (Int × Int)} (k:dx m v l):dx m' v l:=
 Mem.fU k fun _ _ _ k=>⟨Mem.aA h k.1,Mem.aA h k.2.1,k.2.2⟩
theorem mr {m m':Mem} (h:m.le m') {v:Value} {l:List (List Int)} (k:j5 m v l):j5 m' v l:=
 Mem.ig k fun _ _ _ ⟨u,k1,k2⟩=>⟨u,Mem.aA h k1,dC h k2⟩
noncomputable def firstIdx {α:Type} (p:α→Prop):List α→Nat→Int
 | [],_ => -1
 | x::l,k=>if tf (p x) then (k:Int) else firstIdx p l (k+1)
theorem ku {α:Type} (p:α→Prop) (l:List α) (k:Nat) (h:k<l.length):firstIdx p (l.drop k) k=if tf (p l[k]) then (k:Int) else firstIdx p (l.drop (k+1)) (k+1):=by
 rw[List.drop_eq_getElem_cons h];rfl
theorem kr {α:Type} (p:α→Prop) (l:List α):∀k,(firstIdx p l k = -1∧∀x∈l,¬ p x)∨(∃i,∃h:i<l.length,firstIdx p l k=((k+i:Nat):Int)∧p l[i]∧∀j,∀hj:j<l.length,j<i→¬ p l[j]):=by
 induction l with
 | nil=>intro k;left;exact⟨rfl,zS⟩
 | cons x l ih=>
  intro k;by_cases hx:p x
  ·right;exact⟨0,zS,by simp[firstIdx,aI hx],hx,fun j _ hj=>zo⟩
  ·have e:firstIdx p (x::l) k=firstIdx p l (k+1):=by simp[firstIdx,az hx]
   rcases ih (k+1) with ⟨h1,h2⟩ | ⟨i,h1,h2,h3,h4⟩
   ·left;exact⟨e.trans h1,by simpa using ⟨hx,h2⟩⟩
   ·right;refine ⟨i+1,by simp;omega,e.trans (h2.trans (by congr 1;omega)),by simpa using h3,?_⟩;intro j hj hji
    cases j with
    | zero=>simpa using hx
    | succ j=>simpa using h4 j (by simpa using hj) zo
theorem dM {α:Type} (l l':List α) (k:Nat) (h:k<l.length) (h':k<l'.length):l.drop k=l'.drop k↔l[k]=l'[k]∧l.drop (k+1)=l'.drop (k+1):=by
 rw[List.drop_eq_getElem_cons h,List.drop_eq_getElem_cons h',List.cons.injEq]
end Cl
namespace Cl
open Go Go.RowKit Go.Proofs
theorem vI (b:Nat) (w:World) (h0:w.cell? ⟨b,0,none⟩=some (.pointer (some ⟨b,0,none⟩))) :
 Calls Tryz.prog 284 #[.pointer (some ⟨b,0,none⟩)] w fun e w'=>e=.returned (.tuple #[])∧w'=w:=by
 obtain⟨j,hj,_⟩:=Option.map_eq_some_iff.1 (show (Tryz.prog.info? 262).map (·.size)=some 2 by kernel_rfl)
 go_enter Tryz.func284,Tryz.ntmps284
 go_wp2;rw[Lib.run_neq_ptr_same w _ Tryz.underlying260 hj];go_wp2
 go_end0
 exact⟨rfl,rfl⟩
theorem uS (b:Nat) (w:World) (h0:w.cell? ⟨b,0,none⟩=some (.pointer none)) (hsh:w.shape? b=some (262,2)) (hfz:w.frozen? ⟨b,0,none⟩=false) :
 Calls Tryz.prog 284 #[.pointer (some ⟨b,0,none⟩)] w fun e w'=>e=.returned (.tuple #[])∧w'=w.setCell ⟨b,0,none⟩ (.pointer (some ⟨b,0,none⟩)):=by
 obtain⟨j,hj,hjs⟩:=Option.map_eq_some_iff.1 (show (Tryz.prog.info? 262).map (·.size)=some 2 by kernel_rfl)
 go_enter Tryz.func284,Tryz.ntmps284
 go_wp2;rw[Lib.run_to_unsafe w ⟨b,0,none⟩ Tryz.underlying260 Tryz.underlying285 hj (by rw[hjs];decide) hsh (Nat.zero_lt_succ 1)];simp only[Result.andThen];rw[Oper.upon_value];go_wp2;rw[run_callFunc_extern Tryz.func291 zk zk zk (e:=Extern.AbiNoEscape.same) zk];rw[Lib.run_noEscape];simp only[Result.andThen];rw[Oper.upon_value];go_wp2;rw[Lib.run_from_unsafe w ⟨b,0,none⟩ Tryz.underlying285 Tryz.underlying260 hj hsh zk];simp only[Result.andThen];rw[Oper.upon_value];go_wp2
 go_end0
 exact⟨rfl,rfl⟩
theorem yB (B b:Nat) (bs:List Value) (w:World) (h:Lib.IsBuilder 262 5 B b bs w) :
 Calls Tryz.prog 284 #[.pointer (some ⟨b,0,none⟩)] w fun e w'=>e=.returned (.tuple #[])∧(Lib.BuilderAt 262 5 B b (.pointer (some ⟨b,0,none⟩)) bs w'∧Below B w w'):=by
 rcases h with h | h
 ·refine (uS b w h.cell0 h.shape h.frozen0).mono ?_;rintro e w' ⟨rfl,rfl⟩;exact⟨rfl,h.used _,(Below.refl B w).setCell (p:=⟨b,0,none⟩) h.1 _⟩
 ·refine (vI b w h.cell0).mono ?_;rintro e w' ⟨rfl,rfl⟩;exact⟨rfl,h,Below.refl B _⟩
theorem lQ (B b:Nat) (bs:List Value) (s:ByteArray) (w:World) (h:Lib.IsBuilder 262 5 B b bs w) (hlen:bs.length+s.size≤140737488355328) (hBw:B≤w.heap.size) :
 Calls Tryz.prog 272 #[.pointer (some ⟨b,0,none⟩),.string s] w fun e w'=>e=.returned (.tuple #[.int .i64 s.size,.nilIface])∧(Lib.BuilderAt 262 5 B b (.pointer (some ⟨b,0,none⟩)) (bs ++ Lib.strCells s) w'∧Below B w w'):=by
 obtain⟨i0,hi,hz0,hz1,hz2⟩:=info_parts (show (Tryz.prog.info? 5).map (fun i=>(i.zero,i.size,i.bytes))=some (some (.int .u8 0),1,1) by kernel_rfl)
 go_enter Tryz.func272,Tryz.ntmps272
 go_wp2_with (go_at_call 284;refine (yB B b bs _ h).mono ?_)
 rintro e w1 ⟨rfl,h1,hb1⟩;obtain⟨hB,v,hbk,hown,hne⟩:=h1;have c0:w1.cell? ⟨b,0,none⟩=some (.pointer (some ⟨b,0,none⟩)):=by rw[Lib.cell_of_heap hbk];rfl
 have c1:w1.cell? ⟨b,1,none⟩=some v:=by rw[Lib.cell_of_heap hbk];rfl
 go_wp2_with (at_builtin;refine Lib.wpList_append_own_string _ rfl _ _ 185 9 rfl B 5 i0 Tryz.underlying185 Tryz.underlying9 hi hz0 hz1 hz2 _ _ _ rfl hown s rfl ?c3 ?c4 ?c5 ?_)
 case c3=>unfold maxLen;omega
 case c4=>omega
 case c5=>have:=hb1.size;omega
 intro v' w2 hown' hgrow _;have hlt:b<w1.heap.size:=by
  rcases Nat.lt_or_ge b w1.heap.size with h' | h'
  ·exact h'
  ·simp[Array.getElem?_eq_none h'] at hbk
 have hb2:w2.heap[b]?=some (.cells #[.pointer (some ⟨b,0,none⟩),v] 262 (0,0)):=by
  rw[hgrow.block b hlt (fun e=>hne e.symm)];exact hbk
 have d0:w2.cell? ⟨b,0,none⟩=some (.pointer (some ⟨b,0,none⟩)):=by rw[Lib.cell_of_heap hb2];rfl
 have d1:w2.cell? ⟨b,1,none⟩=some v:=by rw[Lib.cell_of_heap hb2];rfl
 have f1:w2.frozen? ⟨b,1,none⟩=false:=Lib.frozen_of_heap hb2 1;obtain⟨ao,n',cap,rfl⟩:∃ao n' cap,v'=.slice ao n' cap:=by
  rcases hown'.2 with ⟨hv,_⟩ | ⟨g,cap,cur,hv,_⟩
  ·exact⟨_,_,_,hv⟩
  ·exact⟨_,_,_,hv⟩
 go_wp2
 go_ret2
 refine ⟨rfl,?_,?_⟩
 ·exact Lib.BuilderAt.put (T:=262) (e:=5) hB hb2 (bs':=bs ++ Lib.strCells s) (by simpa [Lib.strCells_length] using hown') zD
 ·exact (hb1.grown hgrow (by have:=hb1.size;omega) (fun k hk=>(hown.lt k hk).1)).setCell (p:=⟨b,1,none⟩) hB _
structure TabM (m:Mem):Prop where
 get : ∀ w, m.inn w → Lib.TabIs Tryz.prog w "internal/strconv.uint64pow10" .u64 Lib.pow10Tab
theorem TabM.le {m m':Mem} (h:TabM m) (hl:m.le m'):TabM m':=⟨fun w hw=>h.get w (Mem.cz hl hw)⟩
end Cl
namespace Cl
open Go Go.RowKit Go.Proofs Go.WideShapes Go.ChangeShapes Go.Deep Go.Joins
theorem Mem.of_cell {w:World} {b o:Nat} {v:Value} (h:w.cell? ⟨b,o,none⟩=some v):(Mem.of w).cell b o=some v:=by
 unfold World.cell? at h;unfold Mem.cell Mem.of
 split at h
 ·rename_i hb;rw[hb];simpa using h
 ·cases h
theorem CZ {α:Type} {l:List α} (h:l.length=2):∃a b,l=[a,b]:=by
 match l,h with
 | [a,b],_=>exact⟨a,b,rfl⟩
theorem OA {α:Type} {l:List α} (h:l.length=3):∃a b c,l=[a,b,c]:=by
 match l,h with
 | [a,b,c],_=>exact⟨a,b,c,rfl⟩
theorem I5 {w:World} {a:Addr} {v:Value} (h:w.cell? a=some v):a.spot=none:=by
 unfold World.cell? at h
 split at h
 ·split at h
  ·cases h
  ·rename_i hs
   cases hx:a.spot with
   | none=>rfl
   | some x=>rw[hx] at hs;exact absurd rfl hs
 ·cases h
theorem dW {w:World} {b o n:Nat} {cs:List Value} (h:w.cells? 0 ⟨b,o,none⟩ n=some cs) {i:Nat} {v:Value} (hi:cs[i]?=some v):(Mem.of w).cell b (o+i)=some v:=by
 obtain⟨-,h2,h3⟩:=World.cells?_some h;have hlt:i<n:=by rw[← h2];exact (List.getElem?_eq_some_iff.1 hi).1
 have:=h3 i hlt;rw[hi,Addr.add_lit] at this;exact Mem.of_cell this
section
variable {H:Type} {enc:TypeId × Value→H} {P:Program} {w:World} {spare:Nat→Bool} {held:Bool}
theorem gQ {α:Type} [Inhabited α] {t e:TypeId} {size:Nat} (ht:P.underlying t=some (.slice e)) (hc:P.cellsOf e=size) (hpos:0<size) (R:Nat→Nat→α→Prop)
 (hR:∀(fuel b o:Nat) (cs:List Value) (x:DataW H × List MemPlace),w.cells? 0 ⟨b,o,none⟩ size=some cs→DataW.trod enc P w 0 spare held fuel e cs=some x→∃y:α,R b o y)
 {fuel:Nat} {cs:List Value} {x:DataW H × List MemPlace} (h:DataW.trod enc P w 0 spare held fuel t cs=some x):∃v l,cs=[v]∧Mem.slice R size v l:=by
 rcases open_slice ht h with ⟨rfl,-⟩ | ⟨a,len,cap,m,n,D,Pl,rfl,hb,hl,hm,hmm,rfl,hx⟩
 ·exact⟨_,[],rfl,none,0,rfl,Nat.le_refl _,Nat.zero_le _,fun h=>absurd rfl h⟩
 ·have hlm:len≤m:=by rw[hmm];split <;> omega
  by_cases h0:len=0
  ·subst h0;exact⟨_,[],rfl,some a,cap,rfl,Nat.zero_le _,hm,fun h=>absurd rfl h⟩
  ·have hsp:a.spot=none:=by
    obtain⟨cs',h1,-⟩:=hx 0 zo;obtain⟨-,h2,h3⟩:=World.cells?_some h1;rw[hc] at h2 h3;have:=h3 0 hpos;rw[Nat.zero_mul] at this;have e:(a.add 0).add 0=a:=by simp[Addr.add]
    rw[e,List.getElem?_eq_getElem zo] at this;exact I5 this
   obtain⟨b,o,sp⟩:=a;simp only at hsp;subst hsp;obtain⟨f,hf⟩:=choose_lt (α:=α) (n:=len) (p:=fun i y=>R b (o+i*size) y) (fun i hi=>by
    obtain⟨cs',h1,h2⟩:=hx i zo;rw[hc,Addr.add_lit] at h1;exact hR _ _ _ _ _ h1 h2)
   refine ⟨_,(List.range len).map f,rfl,some ⟨b,o,none⟩,cap,zS,by simpa using hl,hm,fun _=>⟨b,o,rfl,fun i hi=>?_⟩⟩;have hi':i<len:=by simpa using hi
   simpa using hf i hi'
end
instance:Inhabited Ed:=⟨⟨0,0,0⟩⟩
instance:Inhabited Sn:=⟨⟨false,[]⟩⟩
section
variable {H:Type} {enc:TypeId × Value→H} {w:World} {spare:Nat→Bool} {held:Bool}
theorem Oa {n:Int} (h:(Lit.int .u8 n).wf=true):∃k:Nat,n=k∧k<256:=by
 simp only[Lit.wf,Bool.and_eq_true,decide_eq_true_eq] at h;have e1:IntKind.min .u8=0:=by decide
 have e2:IntKind.max .u8=255:=by decide
 exact⟨n.toNat,zo,zo⟩
theorem EK {n:Int} (h:(Lit.int .i64 n).wf=true) : -9223372036854775808≤n∧n≤9223372036854775807:=by
 simp only[Lit.wf,Bool.and_eq_true,decide_eq_true_eq] at h;have e1:IntKind.min .i64 = -9223372036854775808:=by decide
 have e2:IntKind.max .i64=9223372036854775807:=by decide
 omega
theorem Ko (fuel b o:Nat) (cs:List Value) (x:DataW H × List MemPlace) (hc:w.cells? 0 ⟨b,o,none⟩ 3=some cs) (h:DataW.trod enc Tryz.prog w 0 spare held fuel 104 cs=some x):∃e,Bf (Mem.of w) b o e:=by
 obtain⟨y0,y1,y2,n,-,hl,h0,h1,h2⟩:=trod_struct3 Tryz.underlying104 h;have hl3:cs.length=3:=(World.cells?_some hc).2.1;obtain⟨c0,c1,c2,rfl⟩:=OA hl3;have e8:Tryz.prog.cellsOf 5=1:=by kernel_rfl
 have e64:Tryz.prog.cellsOf 3=1:=by kernel_rfl
 simp[e8,e64] at h0 h1 h2;obtain⟨a0,e0,-,w0⟩:=DataW.trod_int Tryz.underlying5 h0;obtain⟨a1,e1,-,w1⟩:=DataW.trod_int Tryz.underlying5 h1;obtain⟨a2,e2,-,w2⟩:=DataW.trod_int Tryz.underlying3 h2;obtain⟨k0,rfl,l0⟩:=Oa w0;obtain⟨k1,rfl,l1⟩:=Oa w1;cases e0;cases e1;cases e2;have w2:=EK w2;exact⟨⟨k0,k1,a2⟩,dW (i:=0) hc rfl,dW (i:=1) hc rfl,dW (i:=2) hc rfl,l0,l1,w2.1,w2.2⟩
theorem vZ (fuel b o:Nat) (cs:List Value) (x:DataW H × List MemPlace) (hc:w.cells? 0 ⟨b,o,none⟩ 2=some cs) (h:DataW.trod enc Tryz.prog w 0 spare held fuel 80 cs=some x):∃s,qy (Mem.of w) b o s:=by
 obtain⟨y0,y1,n,-,hl,h0,h1⟩:=trod_struct2 Tryz.underlying80 h;have hl2:cs.length=2:=(World.cells?_some hc).2.1;obtain⟨c0,c1,rfl⟩:=CZ hl2;have eb:Tryz.prog.cellsOf 4=1:=by kernel_rfl
 have es:Tryz.prog.cellsOf 78=1:=by kernel_rfl
 simp[eb,es] at h0 h1;obtain⟨a0,e0,-⟩:=DataW.trod_bool Tryz.underlying4 h0;cases e0;obtain⟨v,l,e1,hs⟩:=gQ Tryz.underlying78 zk zo (Bf (Mem.of w)) Ko h1;cases e1;exact⟨⟨a0,l⟩,dW (i:=0) hc rfl,c1,dW (i:=1) hc rfl,hs⟩
end
end Cl
namespace Cl
open Go Go.RowKit Go.Proofs Go.ChangeShapes Go.WideShapes
theorem oQ:ownKnob Tryz.prog.godebug=none:=by kernel_rfl
theorem zO:laidOutB Tryz.prog=true:=by kernel_rfl
theorem gTab : Tryz.prog.globalNamed "internal/strconv.uint64pow10" = some 0 := by kernel_rfl
theorem LY:(Tryz.prog.globals[0]?).map (·.type)=some 283:=by kernel_rfl
theorem Mq:Tryz.prog.cellsOf 283=20:=by kernel_rfl
theorem Mo:Tryz.prog.cellsOf 258=1:=by kernel_rfl
abbrev jX : List (String × DataW Unit) := [("math/bits.deBruijn32tab", Go.Proofs.YtdgjplfcpcphoaaGreatDoor.Rows.laid_math_bits_deBruijn32tab), ("math/bits.deBruijn64tab", Go.Proofs.YtdgjplfcpcphoaaGreatDoor.Rows.laid_math_bits_deBruijn64tab), ("internal/strconv.uint64pow10", Go.Proofs.YtdgjplfcpcphoaaGreatDoor.Rows.laid_internal_strconv_uint64pow10)]
theorem oP {W:World} (h:laidMetH Tryz.prog jX W):TabM (Mem.of W):=by
 have h0:laidMet Tryz.prog jX W:=h
 have h1 : Lib.TabIs Tryz.prog W "internal/strconv.uint64pow10" .u64 Lib.pow10Tab :=
  Lib.tabIs_of_head (rest:=[]) gTab LY Tryz.underlying283 Tryz.underlying258 Mo Mq h0.tail.tail
 refine ⟨fun w hw=>?_⟩;unfold Lib.TabIs World.var? at h1 ⊢;rw[gTab] at h1 ⊢;simp only[Option.bind_some] at h1 ⊢
 split at h1
 ·rename_i cs t f hb;rw[hw.get 0 _ hb];exact h1
 ·cases h1
def xZ:DataW Unit→Array Value
 | .agg l=>(l.map fun d=>match d with
  | .lit (.int k n)=>Value.int k n
  | _=>undef).toArray
 | _=>#[]
def JH (c:Array Value):Obj→Obj
 | .cells _ t frozen=>.cells c t frozen
 | o=>o
noncomputable def dV (os:Os):World:=
 { World.holding Tryz.prog os ⟨#[],#[],[]⟩ with heap:=(((World.holding Tryz.prog os ⟨#[],#[],[]⟩).heap.modify 0 (JH (xZ Go.Proofs.YtdgjplfcpcphoaaGreatDoor.Rows.laid_internal_strconv_uint64pow10))).modify 1 (JH (xZ Go.Proofs.YtdgjplfcpcphoaaGreatDoor.Rows.laid_math_bits_deBruijn32tab))).modify 2 (JH (xZ Go.Proofs.YtdgjplfcpcphoaaGreatDoor.Rows.laid_math_bits_deBruijn64tab)) }
section
variable {H:Type} {enc:TypeId × Value→H}
theorem oL {W W':World} (hb:Below W.heap.size W W') {sp:Nat→Bool}:∀(ts:List TypeId) (vs:List Value) (ds:List (DataW H)) (ps:List MemPlace),(∀t∈ts,Tryz.prog.readableRec t=true∧t<Tryz.prog.types.size) →
 (∀x∈ps,x.block<W.heap.size)→(∀x∈ps,sp x.block=true)→DataW.TrodAll enc Tryz.prog W 0 (fun _=>true) true ts vs ds ps→DataW.TrodAll enc Tryz.prog W' 0 sp true ts vs ds ps
 | [],_,_,_,_,_,_,h=>by
  obtain⟨rfl,rfl,rfl⟩:=trodAll_nil h
  exact trodAll_mk0
 | t::ts,_,_,_,ht,hl,hs,h=>by
  obtain⟨v,vs1,d,ds1,a,b,rfl,rfl,rfl,h1,h2⟩:=trodAll_cons h;have h0:=ht t (List.mem_cons_self ..);exact trodAll_cons_mk (WideElems.Trod_stays zO h0.1 h0.2 h1 (fun x hx=>hb.same (hl x (List.mem_append_left _ hx))) (fun x hx=>hs x (List.mem_append_left _ hx)))
   (oL hb ts vs1 ds1 b (fun t ht'=>ht t (List.mem_cons_of_mem _ ht')) (fun x hx=>hl x (List.mem_append_right _ hx)) (fun x hx=>hs x (List.mem_append_right _ hx)) h2)
theorem pz {f:Func} {s:ChangeSpec} {W W':World} {args:Array Value} {ds:List (DataW H)} {before:List MemPlace} (hv:s.vars=[]) (hr:f.resultTypes=#[4])
 (ht:(f.params.toList.all fun t=>Tryz.prog.readableRec t&&decide (t<Tryz.prog.types.size))=true) (hfn:s.fn H (ds ++ [])={ results:=[.lit (.bool true)],args:=ds })
 (hW:DataW.Whole enc Tryz.prog f.params.toList s.vars false W args.toList ds [] before) (hb:Below W.heap.size W W') :
 s.post enc Tryz.prog f false true false false W args (.bool true) W':=by
 have hlt:=hW.lt;obtain⟨p,q,h1,h2,rfl,h3⟩:=id hW;rw[hv] at h2;obtain⟨-,rfl⟩:=trodVars_none h2;rw[List.append_nil] at hW hlt;refine ⟨ds,[],p,[],p,[],hW,?_,?_,?_,hb.frame _,fun h=>by cases h⟩
 ·rw[hfn,hr];exact trodAll_cons_mk (shut_bool Tryz.underlying4 _) trodAll_mk0
 ·rw[hfn];exact oL hb _ _ _ _ (fun t h=>by have:=List.all_eq_true.1 ht t h;simpa using this) hlt (fun x hx=>by simpa using hlt x hx) h1
 ·rw[hfn,hv]
  rfl
end
end Cl
namespace Cl
open Go Go.RowKit
theorem ay {P:Program} {f:FuncId} {args:Array Value} {w:World} {X:Ending→World→Prop}
 (h:∀R:Ending→World→Prop,Hid (∀e w',X e w'→R e w')→Calls P f args w R):Calls P f args w X:=h X (fun _ _ h=>h)
theorem fF {k:IntKind} {a b:Int} (h:a=b):Ending.returned (.int k a)=.returned (.int k b):=by rw[h]
theorem aJ {a b:Bool} (h:a=b):Ending.returned (.bool a)=.returned (.bool b):=by rw[h]
def lk:List (Nat × Value)→Nat→Value→Value
 | [],_,d=>d
 | (k,v)::r,i,d=>if i=k then v else lk r i d
def litL (z:Nat→Value) (kv:List (Nat × Value)):Nat→Nat→List Value
 | _,0=>[]
 | i,n+1=>lk kv i (z i)::litL z kv (i+1) n
theorem CY (z:Nat→Value) (kv:List (Nat × Value)):∀n i,(litL z kv i n).length=n:=by
 intro n
 induction n with
 | zero=>intro i;rfl
 | succ n ih=>intro i;simp[litL,ih]
theorem LD (z:Nat→Value) (kv:List (Nat × Value)):∀n i j,j<n→(litL z kv i n)[j]?=some (lk kv (i+j) (z (i+j))):=by
 intro n
 induction n with
 | zero=>intro i j h;omega
 | succ n ih=>
  intro i j h
  cases j with
  | zero=>simp[litL]
  | succ j=>
   simp only[litL,List.getElem?_cons_succ];rw[ih (i+1) j zo];rw[show i+1+j=i+(j+1) by omega]
theorem Gw (f:Nat→Value) (K:List Nat) (i:Nat):lk (K.zip (K.map f)) i (f i)=f i:=by
 induction K with
 | nil=>rfl
 | cons k K ih=>
  simp only[List.map_cons,List.zip_cons_cons,lk];by_cases h:i=k
  ·subst h;simp
  ·simp[h,ih]
theorem Aq (tmps:Array Value) (K:List Nat):(litL (fun i=>tmps.getD i undef) (K.zip (K.map fun i=>tmps.getD i undef)) 0 tmps.size).toArray=tmps:=by
 apply Array.ext
 ·simp[CY]
 ·intro i h1 h2;have:=LD (fun i=>tmps.getD i undef) (K.zip (K.map fun i=>tmps.getD i undef)) tmps.size 0 i (by simpa using h2);rw[Nat.zero_add,Gw (fun i=>tmps.getD i undef) K i] at this;have h3:=List.getElem?_eq_some_iff.1 this;obtain⟨h4,h5⟩:=h3;simp only[List.getElem_toArray];rw[h5];simp[Array.getD,h2]
theorem au {P:Program} {c:Code} {Q:Exit→Act→World→Prop} {tmps:Array Value} {w:World} (K:List Nat) (body:Nat→List Value→World→Prop)
 (h0:∃n,body n (K.map fun i=>tmps.getD i undef) w)
 (round:∀(X:Act→World→Prop) (z:Nat→Value) (n:Nat) (vs:List Value) (wr:World),Hid (∀n' (tmps':Array Value) w',n'<n→tmps'.size=tmps.size→body n' (K.map fun i=>tmps'.getD i undef) w'→X ⟨tmps',[]⟩ w') →
  vs.length=K.length→body n vs wr→c.wp P (Exit.then X Q) ⟨(litL z (K.zip vs) 0 tmps.size).toArray,[]⟩ wr) :
 (Code.loop c).wp P Q ⟨tmps,[]⟩ w:=by
 let I:Nat→Act→World→Prop:=fun n a w=>a.defers=[]∧a.tmps.size=tmps.size∧body n (K.map fun i=>a.tmps.getD i undef) w;intro b k cs;have key:∀n a w,I n a w→∃e a' w',Q e a' w'∧Arrives P (lone (b.at a (.code c::.inLoop c::k)) cs w) b k cs e a' w':=by
  intro n
  induction n using Nat.strongRecOn with
  | _ n ih=>
   intro a w ⟨hd,hs,hb⟩;have ha:a=⟨(litL (fun i=>a.tmps.getD i undef) (K.zip (K.map fun i=>a.tmps.getD i undef)) 0 tmps.size).toArray,[]⟩:=by
    rw[← hs,Aq];cases a;simp_all
   have hr:=round (fun a' w'=>∃n',n'<n∧I n' a' w') (fun i=>a.tmps.getD i undef) n _ w (fun n' t' w' h1 h2 h3=>⟨n',h1,rfl,h2,h3⟩) zS hb;rw[← ha] at hr;obtain⟨e,a₁,w₁,hq,harr⟩:=hr b (.inLoop c::k) cs
   cases e with
   | normal=>
    obtain⟨n',hlt,hI1⟩:=hq;obtain⟨e₂,a₂,w₂,hq₂,harr₂⟩:=ih n' hlt a₁ w₁ hI1
    exact⟨e₂,a₂,w₂,hq₂,.of_steps (Steps.trans harr (.one step_inLoop)) harr₂⟩
   | exit id=>exact⟨_,a₁,w₁,hq,.pass (x:=.inLoop c) rfl (fun _ _=>.inl zS) harr⟩
   | goto l=>exact⟨_,a₁,w₁,hq,.pass (x:=.inLoop c) rfl (fun _ _=>.inl zS) harr⟩
   | ret=>exact⟨_,a₁,w₁,hq,.pass (x:=.inLoop c) rfl (fun _ _=>.inl zS) harr⟩
   | panic ch=>exact⟨_,a₁,w₁,hq,.pass (x:=.inLoop c) rfl (fun _ _=>.inl zS) harr⟩
   | outgrown=>exact⟨_,a₁,w₁,hq,.pass (x:=.inLoop c) rfl (fun _ _=>.inl zS) harr⟩
 obtain⟨n,h0⟩:=h0;obtain⟨e,a',w',hq,harr⟩:=key n ⟨tmps,[]⟩ w ⟨rfl,rfl,h0⟩;exact⟨e,a',w',hq,.of_steps (.one step_loop) harr⟩
theorem aN {P:Program} {c:Code} {Q:Exit→Act→World→Prop} {tmps:Array Value} {w:World} (K:List Nat) (Mid:List Value→World→Prop)
 (h1:∀(X:Act→World→Prop),Hid (∀(tmps':Array Value) w',tmps'.size=tmps.size→Mid (K.map fun i=>tmps'.getD i undef) w'→X ⟨tmps',[]⟩ w')→c.wp P (Exit.then X (fun _ _ _=>False)) ⟨tmps,[]⟩ w)
 (h2:∀(z:Nat→Value) (vs:List Value) (w':World),vs.length=K.length→Mid vs w'→Q .normal ⟨(litL z (K.zip vs) 0 tmps.size).toArray,[]⟩ w'):c.wp P Q ⟨tmps,[]⟩ w:=by
 refine wp_mono (h1 (fun a' w'=>a'.defers=[]∧a'.tmps.size=tmps.size∧Mid (K.map fun i=>a'.tmps.getD i undef) w') (fun t w' hs hm=>⟨rfl,hs,hm⟩)) ?_;rintro e ⟨t,d⟩ w' hq
 cases e with
 | normal=>
  obtain⟨hd,hs,hm⟩:=hq;have h:=h2 (fun i=>t.getD i undef) _ w' zS hm
  dsimp only at hs hd
  subst hd;rw[← hs,Aq] at h
  exact h
 | _=>exact hq.elim
theorem bO {w wr:World} (h:Below w.heap.size w wr) (o:Obj):Below w.heap.size w (wr.alloc o):=h.alloc h.size o
theorem kE {w w':World} (h:Below w.heap.size w w') {b o:Nat} {v:Value} (hb:b<w.heap.size) (hc:w.cell? ⟨b,o,none⟩=some v):w'.cell? ⟨b,o,none⟩=some v:=
 (h.cell (p:=⟨b,o,none⟩) hb).trans hc
theorem bZ {w wr w':World} (h:Below w.heap.size w wr) (h':Below wr.heap.size wr w'):Below w.heap.size w w':=h.trans (h'.mono h.size)
theorem below_drewN {B:Nat} {a w:World} (h:Below B a w) (n:Nat):Below B a (w.drewN n):=⟨h.os,h.tape,h.output,h.size,h.block⟩
structure bD (w:World) (g:Nat) (t:TypeId) (arr:Array Value):Prop where
 get:w.heap[g]?=some (.cells arr t (0,0))
theorem bD.lt {w:World} {g:Nat} {t:TypeId} {arr:Array Value} (h:bD w g t arr):g<w.heap.size:=(Array.getElem?_eq_some_iff.1 h.get).1
theorem bD.cell {w:World} {g:Nat} {t:TypeId} {arr:Array Value} (h:bD w g t arr) {i:Nat} {v:Value} (hi:arr[i]?=some v):w.cell? ⟨g,i,none⟩=some v:=by
 simp[World.cell?,h.get,hi]
theorem bD.frozen {w:World} {g:Nat} {t:TypeId} {arr:Array Value} (h:bD w g t arr) (i:Nat):w.frozen? ⟨g,i,none⟩=false:=by
 simp[World.frozen?,h.get]
theorem bD.of_heap {w w':World} {g:Nat} {t:TypeId} {arr:Array Value} (h:bD w g t arr) (e:w'.heap[g]?=w.heap[g]?):bD w' g t arr:=⟨e.trans h.get⟩
theorem bD.al {w:World} {g:Nat} {t:TypeId} {arr:Array Value} (h:bD w g t arr) (o:Obj):bD (w.alloc o) g t arr:=h.of_heap (Below.heap_alloc _ _ _ h.lt)
theorem bD.dr {w:World} {g:Nat} {t:TypeId} {arr:Array Value} (h:bD w g t arr):bD w.drew g t arr:=h.of_heap rfl
theorem bD.drN {w:World} {g:Nat} {t:TypeId} {arr:Array Value} (h:bD w g t arr) (n:Nat):bD (w.drewN n) g t arr:=h.of_heap rfl
theorem bD.set {w:World} {g:Nat} {t:TypeId} {arr:Array Value} (h:bD w g t arr) (i:Nat) (v:Value):bD (w.setCell ⟨g,i,none⟩ v) g t (arr.setIfInBounds i v):=by
 constructor;simp[World.setCell,Array.getElem?_modify,h.get]
theorem bD.below {B:Nat} {w w':World} {g:Nat} {t:TypeId} {arr:Array Value} (h:bD w g t arr) (hb:Below B w w') (hg:g<B):bD w' g t arr:=h.of_heap (hb.block _ hg)
theorem bD.grown {w w':World} {row:Option Nat} {g:Nat} {t:TypeId} {arr:Array Value} (h:bD w g t arr) (hg:w.grownBy w' row) (hne:some g≠row):bD w' g t arr:=h.of_heap (hg.block _ h.lt hne)
theorem bD.new (w:World) (t:TypeId) (arr:Array Value):bD (w.alloc (.cells arr t)) w.heap.size t arr:=by
 constructor;show (w.heap.push _)[w.heap.size]?=_;simp
theorem Mem.NE {m:Mem} {w:World} (h:m.inn w) {a:Addr} (ha:m a.block=none) (v:Value):m.inn (w.setCell a v):=
 ⟨fun k u hk=>(Below.heap_setCell _ _ _ _ (by intro e;rw[e,ha] at hk;cases hk)).trans (h.get k u hk)⟩
theorem Mem.uB {m:Mem} {w w':World} {row:Option Nat} (h:m.inn w) (hg:w.grownBy w' row) (hr:∀k,row=some k→m k=none):m.inn w':=
 ⟨fun k u hk=>(hg.block k (Array.getElem?_eq_some_iff.1 (h.get k u hk)).1 (by intro e;rw[hr k e.symm] at hk;cases hk)).trans (h.get k u hk)⟩
theorem Mem.Oy {m:Mem} {w:World} (h:m.inn w) {k:Nat} {o:Obj} (hk:m k=some o):k<w.heap.size:=(Array.getElem?_eq_some_iff.1 (h.get k o hk)).1
theorem Mem.qF {m:Mem} {w:World} (h:m.inn w) {k:Nat} (hk:w.heap.size≤k):m k=none:=by
 cases hm:m k with
 | none=>rfl
 | some o=>have:=Mem.Oy h hm;omega
def Mem.grow (m:Mem) (w0 w:World):Mem:=fun k=>if k<w0.heap.size then m k else w.heap[k]?
theorem Mem.dN {m:Mem} {w0 w:World} (h:m.inn w0):m.le (m.grow w0 w):=⟨fun k o hk=>by
 unfold Mem.grow;rw[if_pos (Mem.Oy h hk)];exact hk⟩
theorem Mem.EL {m:Mem} {w0 w:World} (h:m.inn w0) (hb:Below w0.heap.size w0 w):(m.grow w0 w).inn w:=⟨fun k o hk=>by
 unfold Mem.grow at hk
 split at hk
 ·rename_i hlt;exact (hb.block k hlt).trans (h.get k o hk)
 ·exact hk⟩
theorem Mem.J4 {m:Mem} {w0 w:World} {k:Nat} (h:m k=none) (hk:k<w0.heap.size):m.grow w0 w k=none:=by simp[Mem.grow,hk,h]
structure Mem.ext (m:Mem) (w0:World) (mk:Mem):Prop where
 le:m.le mk
 dom:∀k o,mk k=some o→m k=some o∨w0.heap.size≤k
theorem Mem.Me (m:Mem) (w0:World):m.ext w0 m:=⟨Mem.le_refl m,fun _ _ h=>.inl h⟩
theorem Mem.Mf {m:Mem} {w0 w1 w2:World} {mk:Mem} (h:m.ext w0 mk) (hi:mk.inn w1) (hs:w0.heap.size≤w1.heap.size):m.ext w0 (mk.grow w1 w2):=
 ⟨Mem.le_trans h.le (Mem.dN hi),fun k o hk=>by
  unfold Mem.grow at hk
  split at hk
  ·exact h.dom k o hk
  ·exact .inr zo⟩
theorem Mem.Di {m:Mem} {w0 w:World} {mk:Mem} (h:m.ext w0 mk) (hi:mk.inn w):mk.le (m.grow w0 w):=⟨fun k o hk=>by
 unfold Mem.grow
 split
 ·rename_i hlt;rcases h.dom k o hk with h1 | h1
  ·exact h1
  ·omega
 ·exact hi.get k o hk⟩
def Mem.add (m:Mem) (w:World) (g:Nat):Mem:=fun k=>if k=g then w.heap[g]? else m k
theorem Mem.KM {m:Mem} {w:World} {g:Nat} (h:m.inn w):(m.add w g).inn w:=⟨fun k o hk=>by
 unfold Mem.add at hk
 split at hk
 ·rename_i e;rw[e];exact hk
 ·exact h.get k o hk⟩
theorem Mem.gZ {m:Mem} {w:World} {g:Nat} (h:m g=none):m.le (m.add w g):=⟨fun k o hk=>by
 unfold Mem.add;rw[if_neg (fun e=>by rw[e,h] at hk;cases hk)];exact hk⟩
theorem Mem.Kg {m mk:Mem} {w0 w:World} {g:Nat} (h:m.ext w0 mk) (hg:mk g=none) (hge:w0.heap.size≤g):m.ext w0 (mk.add w g):=
 ⟨Mem.le_trans h.le (Mem.gZ hg),fun k o hk=>by
  unfold Mem.add at hk
  split at hk
  ·exact .inr zo
  ·exact h.dom k o hk⟩
theorem Mem.E8 {m:Mem} {w:World} {g k:Nat} (h:m k=none) (hne:k≠g):m.add w g k=none:=by simp[Mem.add,hne,h]
theorem Mem.dw {m:Mem} {w:World} {g:Nat} {t:TypeId} {arr:Array Value} (h:bD w g t arr) {i:Nat} {v:Value} (hi:arr[i]?=some v):(m.add w g).cell g i=some v:=by
 simp[Mem.cell,Mem.add,h.get,hi]
structure eT (P:Program) (t e:TypeId) (size bytes:Nat):Prop where
 ht:P.underlying t=some (.slice e)
 pos:0<size
 info:∃i z,P.info? e=some i∧i.zero=some z∧i.size=size∧i.bytes=bytes∧z.cells.size=size
theorem jq {P:Program} {t e:TypeId} {size bytes:Nat} (S:eT P t e size bytes) (w:World) (ty:TypeId)
 (v:Value) (n:Nat) (xs:List Value) (hown:w.ownsRow 0 e size v n xs)
 (a:Addr) (m c:Nat) (news:List Value) (hl:news.length=m*size) (hnews:∀j u,news[j]?=some u→w.cell? (a.add j)=some u) (h1:∀u∈news,u.oneCell'=true)
 (h63:n+m≤maxLen) (hbytes:(n+m)*bytes≤140737488355328) :
 ∃v' w',(Builtin.append_ #[t,t] ty #[v,.slice (some a) m c]).run P w=.ok v' w'∧w'.ownsRow 0 e size v' (n+m) (xs ++ news)∧w.grownBy w' v.ownBlock ∧
  (∀k,v'.ownBlock=some k→v.ownBlock=some k∨w.heap.size≤k):=by
 obtain⟨i,z,hi,hz,hsize,hby,hzs⟩:=S.info;obtain⟨v',w',hr,h2,h3,h4⟩:=run_append_own (P:=P) w 0 t ty e i z size bytes S.ht hi hz hsize hby hzs S.pos v n xs hown a m c news hl hnews h1 h63 hbytes (Nat.zero_le _);refine ⟨v',w',hr,h2,h3,?_⟩;intro k hk;rcases hown.2 with ⟨rfl,rfl⟩ | ⟨g,cap,cur,rfl,hbg,hg,hnc,hcm,hcs,htake⟩
 ·
  have hx:xs=[]:=List.eq_nil_of_length_eq_zero (by simpa using hown.1);subst hx;obtain⟨v2,w2,hr2,h22,-,-⟩:=run_append_own (P:=P) w w.heap.size t ty e i z size bytes S.ht hi hz hsize hby hzs S.pos (.slice none 0 0) 0 [] (World.ownsRow_nil _ _ _ _) a m c news hl hnews h1 h63 hbytes (Nat.le_refl _);rw[hr] at hr2;cases hr2;exact .inr (h22.lt k hk).1
 ·by_cases hroom:n+m≤cap
  ·have hfit:n*size+news.length≤cur.size:=by rw[hl,hcs,← Nat.add_mul];exact Nat.mul_le_mul_right _ hroom
   subst hsize;have hr2:=run_append_room (P:=P) w t ty e i S.ht hi g n cap cur hg a m c news hl hnews h1 hroom hfit;rw[hr] at hr2;cases hr2;exact .inl hk
  ·have holds:∀j u,xs[j]?=some u→w.cell? ((⟨g,0,none⟩:Addr).add j)=some u:=hown.cells (g:=g) rfl;subst hsize;have hb:(n+m)*i.bytes≤140737488355328:=by rw[hby];exact hbytes
   have hr2:=run_append_grow (P:=P) w t ty e i z S.ht hi hz ⟨g,0,none⟩ n cap xs hown.1 holds a m c news hl hnews zo (by simp only[maxLen] at h63;omega) (growslice_fits zo hb);rw[hr] at hr2;cases hr2;simp[Value.ownBlock] at hk;exact .inr zo
theorem aQ {w:World} {t:TypeId} {size:Nat} {v:Value} {n:Nat} {xs:List Value} (h:w.ownsRow 0 t size v n xs):∃a c,v=.slice a n c:=by
 rcases h.2 with ⟨rfl,rfl⟩ | ⟨g,cap,cur,rfl,-⟩
 ·exact⟨_,_,rfl⟩
 ·exact⟨_,_,rfl⟩
theorem eH {P:Program} {t e:TypeId} {size bytes:Nat} (S:eT P t e size bytes) {w:World} {o:Oper} {a:Act} {K:Act→World→Prop} {Q:Exit→Act→World→Prop} (s x:Operand)
 (ho:o.op=.call { callee:=.builtin .append,args:=#[s,x],argTypes:=#[t,t] })
 (v:Value) (n:Nat) (xs:List Value) (hs:a.eval s=v) (hown:w.ownsRow 0 e size v n xs)
 (ad:Addr) (m c:Nat) (news:List Value) (hx:a.eval x=.slice (some ad) m c) (hl:news.length=m*size) (hnews:∀j u,news[j]?=some u→w.cell? (ad.add j)=some u) (h1:∀u∈news,u.oneCell'=true)
 (h63:n+m≤maxLen) (hbytes:(n+m)*bytes≤140737488355328)
 (h:∀va vc w',w'.ownsRow 0 e size (.slice va (n+m) vc) (n+m) (xs ++ news)→w.grownBy w' v.ownBlock→(∀k,(Value.slice va (n+m) vc).ownBlock=some k→v.ownBlock=some k∨w.heap.size≤k)→K (a.put o.dst (.slice va (n+m) vc)) w'):o.wp P a w K Q:=by
 obtain⟨v',w',hr,h2,h3,h4⟩:=jq S w o.type v n xs hown ad m c news hl hnews h1 h63 hbytes;obtain⟨va,vc,rfl⟩:=aQ h2;unfold Oper.wp execOp;simp only[ho,resolve,invoke,builtin,Sem.run_bind,Sem.run_pure,Result.andThen_ok,List.map_toArray,List.map_cons,List.map_nil,hs,hx,hr];exact h va vc w' h2 h3 h4
theorem aC {P:Program} {t e:TypeId} {size bytes:Nat} (S:eT P t e size bytes) {w:World} {ops:Array Oper} {rest:List Oper} {o:Oper} {a:Act} {Q:Exit→Act→World→Prop} (hgd:o.guard=none) (s x:Operand)
 (ho:o.op=.call { callee:=.builtin .append,args:=#[s,x],argTypes:=#[t,t] })
 (v:Value) (n:Nat) (xs:List Value) (hs:a.eval s=v) (hown:w.ownsRow 0 e size v n xs)
 (ad:Addr) (m c:Nat) (news:List Value) (hx:a.eval x=.slice (some ad) m c) (hl:news.length=m*size) (hnews:∀j u,news[j]?=some u→w.cell? (ad.add j)=some u) (h1:∀u∈news,u.oneCell'=true)
 (h63:n+m≤maxLen) (hbytes:(n+m)*bytes≤140737488355328)
 (h:∀va vc w',w'.ownsRow 0 e size (.slice va (n+m) vc) (n+m) (xs ++ news)→w.grownBy w' v.ownBlock→(∀k,(Value.slice va (n+m) vc).ownBlock=some k→v.ownBlock=some k∨w.heap.size≤k)→wpList P ops Q rest (a.put o.dst (.slice va (n+m) vc)) w'):wpList P ops Q (o::rest) a w:=
 wpList_plain hgd fun _ hK=>eH S s x ho v n xs hs hown ad m c news hx hl hnews h1 h63 hbytes fun va vc w' h2 h3 h4=>hK _ _ (h va vc w' h2 h3 h4)
def Mem.addv (m:Mem) (w:World) (v:Value):Mem:=match v.ownBlock with
 | some g=>m.add w g
 | none=>m
def Mem.free (m:Mem) (v:Value):Prop:=∀k,v.ownBlock=some k→m k=none
theorem Mem.MC {m:Mem} {w:World} (h:m.inn w) (v:Value):(m.addv w v).inn w:=by
 unfold Mem.addv;split
 ·exact Mem.KM h
 ·exact h
theorem Mem.dh {m:Mem} {w:World} {v:Value} (h:m.free v):m.le (m.addv w v):=by
 unfold Mem.addv;split
 ·rename_i g hg;exact Mem.gZ (h g hg)
 ·exact Mem.le_refl m
theorem Mem.Mg {m mk:Mem} {w0 w:World} {v:Value} (h:m.ext w0 mk) (hg:mk.free v) (hge:∀k,v.ownBlock=some k→w0.heap.size≤k):m.ext w0 (mk.addv w v):=by
 unfold Mem.addv;split
 ·rename_i g e;exact Mem.Kg h (hg g e) (hge g e)
 ·exact h
theorem Mem.KJ {m:Mem} {w:World} {v:Value} {k:Nat} (h:m k=none) (hne:v.ownBlock≠some k):m.addv w v k=none:=by
 cases hv:v.ownBlock with
 | none=>simp only[Mem.addv,hv];exact h
 | some g=>simp only[Mem.addv,hv];exact Mem.E8 h (fun x=>hne (by rw[hv,x]))
theorem eQ {w:World} {t:TypeId} {size:Nat} {v:Value} {n:Nat} {xs:List Value} (hown:w.ownsRow 0 t size v n xs) {g:Nat} (hg:v.ownBlock=some g) (m:Mem) {j:Nat} {u:Value} (hj:xs[j]?=some u):(m.addv w v).cell g j=some u:=by
 rcases hown.2 with ⟨rfl,rfl⟩ | ⟨g',cap,cur,rfl,-,hb,hnc,hcm,hcs,htake⟩
 ·cases hg
 ·simp only[Value.ownBlock,Option.some.injEq] at hg;subst hg;simp only[Mem.addv,Value.ownBlock,Mem.cell,Mem.add,if_true,hb];rw[← htake,List.getElem?_take] at hj
  split at hj
  ·simpa using hj
  ·cases hj
theorem gK {α:Type} {R:Nat→Nat→α→Prop} {w:World} {t:TypeId} {size:Nat} {v:Value} {l:List α} {xs:List Value} (hown:w.ownsRow 0 t size v l.length xs)
 (hR:∀g,v.ownBlock=some g→∀i (h:i<l.length),R g (i*size) l[i]):Mem.slice R size v l:=by
 rcases hown.2 with ⟨rfl,h0⟩ | ⟨g,cap,cur,rfl,-,hb,hnc,hcm,hcs,htake⟩
 ·refine ⟨none,0,by rw[h0],zo,by simp[maxLen],fun hne=>absurd (List.eq_nil_of_length_eq_zero h0) hne⟩
 ·refine ⟨some ⟨g,0,none⟩,cap,rfl,hnc,hcm,fun _=>⟨g,0,rfl,fun i h=>?_⟩⟩;rw[Nat.zero_add];exact hR g rfl i h
theorem gT {α:Type} {R:Nat→Nat→α→Prop} {w:World} {t:TypeId} {v:Value} {l:List α} {xs:List Value} (hown:w.ownsRow 0 t 1 v l.length xs)
 (hR:∀g,v.ownBlock=some g→∀i (h:i<l.length),R g i l[i]):Mem.mU R v l:=by
 obtain⟨a,c,h1,h2,h3,h4⟩:=gK (R:=R) hown (fun g hg i h=>by rw[Nat.mul_one];exact hR g hg i h);refine ⟨a,c,h1,h2,h3,fun hne=>?_⟩;obtain⟨b,off,h5,h6⟩:=h4 hne;exact⟨b,off,h5,fun i hi=>by have:=h6 i hi;rwa [Nat.mul_one] at this⟩
structure kI (m:Mem) (xs:List Value) (l:Table):Prop where
 len:xs.length=l.length*2
 acc:∀i (h:i<l.length),xs[i*2]?=some (.bool (l[i]).accept)
 edg:∀i (h:i<l.length),∃ve,xs[i*2+1]?=some ve∧iG m ve (l[i]).edges
theorem kI.nil (m:Mem):kI m [] []:=⟨rfl,fun i h=>by simp at h,fun i h=>by simp at h⟩
theorem kI.mono {m m':Mem} {xs:List Value} {l:Table} (h:kI m xs l) (hl:m.le m'):kI m' xs l:=
 ⟨h.len,h.acc,fun i hi=>let ⟨ve,h1,h2⟩:=h.edg i hi;⟨ve,h1,qL hl h2⟩⟩
theorem kI.push {m:Mem} {xs:List Value} {l:Table} (h:kI m xs l) {s:Sn} {ve:Value} (he:iG m ve s.edges):kI m (xs ++ [.bool s.accept,ve]) (l ++ [s]):=by
 refine ⟨by simp[h.len,Nat.add_mul],fun i hi=>?_,fun i hi=>?_⟩
 ·by_cases c:i<l.length
  ·rw[List.getElem?_append_left (by rw[h.len];omega),h.acc i c,List.getElem_append_left c]
  ·have:i=l.length:=by simp at hi;omega
   subst this;rw[List.getElem?_append_right (by rw[h.len];omega)];simp[h.len]
 ·by_cases c:i<l.length
  ·obtain⟨u,h1,h2⟩:=h.edg i c;exact⟨u,by rw[List.getElem?_append_left (by rw[h.len];omega)];exact h1,by rw[List.getElem_append_left c];exact h2⟩
  ·have:i=l.length:=by simp at hi;omega
   subst this;refine ⟨ve,?_,by simpa using he⟩;rw[List.getElem?_append_right (by rw[h.len];omega)];simp[h.len]
theorem fD {w:World} {t:TypeId} {v:Value} {l:Table} {xs:List Value} {m:Mem} (hown:w.ownsRow 0 t 2 v l.length xs) (hr:kI m xs l) (hf:m.free v):aR (m.addv w v) v l:=
 gK hown fun _ hg i h=>⟨eQ hown hg m (hr.acc i h),let ⟨ve,h1,h2⟩:=hr.edg i h;⟨ve,eQ hown hg m h1,qL (Mem.dh hf) h2⟩⟩
def dz (es:List Ed):List Value:=es.flatMap fun e=>[.int .u8 e.lo,.int .u8 e.hi,.int .i64 e.to]
def edOk (e:Ed):Prop:=e.lo<256∧e.hi<256 ∧ -9223372036854775808≤e.to∧e.to≤9223372036854775807
theorem nk (es:List Ed):(dz es).length=es.length*3:=by
 induction es with
 | nil=>rfl
 | cons e es ih=>simp only[dz,List.flatMap_cons,List.length_append] at *;simp[ih];omega
theorem jb (es:List Ed):∀i (h:i<es.length),(dz es)[i*3]?=some (.int .u8 es[i].lo)∧(dz es)[i*3+1]?=some (.int .u8 es[i].hi)∧(dz es)[i*3+2]?=some (.int .i64 es[i].to):=by
 induction es with
 | nil=>intro i h;simp at h
 | cons e es ih=>
  intro i h
  cases i with
  | zero=>simp[dz]
  | succ i=>
   have:=ih i (by simpa using h);simp only[dz,List.flatMap_cons] at *
   rw[show (i+1)*3=i*3+3 by omega,show i*3+3+1=(i*3+1)+3 by omega,show i*3+3+2=(i*3+2)+3 by omega];simpa using this
theorem eY (es:List Ed) (e:Ed):dz (es ++ [e])=dz es ++ [.int .u8 e.lo,.int .u8 e.hi,.int .i64 e.to]:=by simp[dz]
theorem iD {w:World} {t:TypeId} {v:Value} {l:List Ed} {m:Mem} (hown:w.ownsRow 0 t 3 v l.length (dz l)) (hk:∀e∈l,edOk e):iG (m.addv w v) v l:=
 gK hown fun g hg i h=>by
  obtain⟨h1,h2,h3⟩:=jb l i h;exact⟨eQ hown hg m h1,eQ hown hg m h2,eQ hown hg m h3,hk _ (List.getElem_mem h)⟩
theorem bN {w:World} {t:TypeId} {v:Value} {l:List Int} {m:Mem} (hown:w.ownsRow 0 t 1 v l.length (l.map (Value.int .i64))) (hk:∀x∈l,-9223372036854775808≤x∧x≤9223372036854775807):dA (m.addv w v) v l:=
 gT hown fun g hg i h=>⟨eQ hown hg m (by simp[h]),hk _ (List.getElem_mem h)⟩
theorem gG {w:World} {t:TypeId} {v:Value} {l:List Bool} {m:Mem} (hown:w.ownsRow 0 t 1 v l.length (l.map Value.bool)):fP (m.addv w v) v l:=
 gT hown fun g hg i h=>eQ hown hg m (by simp[h])
theorem below_grown {w0 w w':World} {v:Value} (hb:Below w0.heap.size w0 w) (hg:w.grownBy w' v.ownBlock) (hge:∀k,v.ownBlock=some k→w0.heap.size≤k):Below w0.heap.size w0 w':=
 hb.grown hg hb.size hge
theorem bD.news {w:World} {g:Nat} {t:TypeId} {arr:Array Value} (h:bD w g t arr) {l:List Value} (hl:arr.toList=l):∀j u,l[j]?=some u→w.cell? ((⟨g,0,none⟩:Addr).add j)=some u:=by
 intro j u hj;subst hl;rw[Addr.add_lit,Nat.zero_add];exact h.cell (by simpa using hj)
theorem bD.cs6 {w:World} {g:Nat} {t:TypeId} {a b c d e f:Value} (h:bD w g t #[a,b,c,d,e,f]):w.cell? ⟨g,0,none⟩=some a∧w.cell? ⟨g,1,none⟩=some b∧w.cell? ⟨g,2,none⟩=some c∧w.cell? ⟨g,3,none⟩=some d∧w.cell? ⟨g,4,none⟩=some e∧w.cell? ⟨g,5,none⟩=some f:=⟨h.cell rfl,h.cell rfl,h.cell rfl,h.cell rfl,h.cell rfl,h.cell rfl⟩
theorem bD.cs5 {w:World} {g:Nat} {t:TypeId} {a b c d e:Value} (h:bD w g t #[a,b,c,d,e]):w.cell? ⟨g,0,none⟩=some a∧w.cell? ⟨g,1,none⟩=some b∧w.cell? ⟨g,2,none⟩=some c∧w.cell? ⟨g,3,none⟩=some d∧w.cell? ⟨g,4,none⟩=some e:=⟨h.cell rfl,h.cell rfl,h.cell rfl,h.cell rfl,h.cell rfl⟩
theorem bD.fr6 {w:World} {g:Nat} {t:TypeId} {arr:Array Value} (h:bD w g t arr):w.frozen? ⟨g,0,none⟩=false∧w.frozen? ⟨g,1,none⟩=false∧w.frozen? ⟨g,2,none⟩=false∧w.frozen? ⟨g,3,none⟩=false∧w.frozen? ⟨g,4,none⟩=false∧w.frozen? ⟨g,5,none⟩=false:=⟨h.frozen 0,h.frozen 1,h.frozen 2,h.frozen 3,h.frozen 4,h.frozen 5⟩
theorem bD.fr5 {w:World} {g:Nat} {t:TypeId} {arr:Array Value} (h:bD w g t arr):w.frozen? ⟨g,0,none⟩=false∧w.frozen? ⟨g,1,none⟩=false∧w.frozen? ⟨g,2,none⟩=false∧w.frozen? ⟨g,3,none⟩=false∧w.frozen? ⟨g,4,none⟩=false:=⟨h.frozen 0,h.frozen 1,h.frozen 2,h.frozen 3,h.frozen 4⟩
theorem bD.cf6 {w:World} {g:Nat} {t:TypeId} {a b c d e f:Value} (h:bD w g t #[a,b,c,d,e,f]):w.cell? ⟨g,0,none⟩=some a∧w.cell? ⟨g,1,none⟩=some b∧w.cell? ⟨g,2,none⟩=some c∧w.cell? ⟨g,3,none⟩=some d∧w.cell? ⟨g,4,none⟩=some e∧w.cell? ⟨g,5,none⟩=some f∧w.frozen? ⟨g,0,none⟩=false∧w.frozen? ⟨g,1,none⟩=false∧w.frozen? ⟨g,2,none⟩=false∧w.frozen? ⟨g,3,none⟩=false∧w.frozen? ⟨g,4,none⟩=false∧w.frozen? ⟨g,5,none⟩=false:=⟨h.cell rfl,h.cell rfl,h.cell rfl,h.cell rfl,h.cell rfl,h.cell rfl,h.fr6⟩
theorem bD.cf5 {w:World} {g:Nat} {t:TypeId} {a b c d e:Value} (h:bD w g t #[a,b,c,d,e]):w.cell? ⟨g,0,none⟩=some a∧w.cell? ⟨g,1,none⟩=some b∧w.cell? ⟨g,2,none⟩=some c∧w.cell? ⟨g,3,none⟩=some d∧w.cell? ⟨g,4,none⟩=some e∧w.frozen? ⟨g,0,none⟩=false∧w.frozen? ⟨g,1,none⟩=false∧w.frozen? ⟨g,2,none⟩=false∧w.frozen? ⟨g,3,none⟩=false∧w.frozen? ⟨g,4,none⟩=false:=⟨h.cell rfl,h.cell rfl,h.cell rfl,h.cell rfl,h.cell rfl,h.fr5⟩
inductive Item where
 | obj (g:Nat) (t:TypeId) (arr:Array Value)
 | row (v:Value) (t:TypeId) (size n:Nat) (xs:List Value)
 | blob (g:Nat) (o:Obj)
def Item.blk:Item→Option Nat
 | .obj g _ _=>some g
 | .row v _ _ _ _=>v.ownBlock
 | .blob g _=>some g
def Item.ok (w:World):Item→Prop
 | .obj g t arr=>bD w g t arr
 | .row v t size n xs=>w.ownsRow 0 t size v n xs
 | .blob g o=>w.heap[g]?=some o
def Item.apart (a b:Item):Prop:=∀k,a.blk=some k→b.blk=some k→False
theorem Item.jJ {w w':World} {it:Item} (h:it.ok w) (e:∀k,it.blk=some k→w'.heap[k]?=w.heap[k]?):it.ok w':=by
 cases it with
 | obj g t arr=>exact bD.of_heap h (e g rfl)
 | row v t size n xs=>
  obtain⟨h1,h2⟩:=h;refine ⟨h1,?_⟩;rcases h2 with h2 | ⟨g,cap,cur,hv,hg,hh,r⟩
  ·exact .inl h2
  ·exact .inr ⟨g,cap,cur,hv,hg,by rw[e g (by rw[hv];rfl)];exact hh,r⟩
 | blob g o=>exact (e g rfl).trans h
theorem Item.lt {w:World} {it:Item} (h:it.ok w) {k:Nat} (hk:it.blk=some k):k<w.heap.size:=by
 cases it with
 | obj g t arr=>simp only[Item.blk,Option.some.injEq] at hk;subst hk;exact bD.lt h
 | row v t size n xs=>exact (World.ownsRow.lt h k hk).2
 | blob g o=>simp only[Item.blk,Option.some.injEq] at hk;subst hk;exact (Array.getElem?_eq_some_iff.1 h).1
structure Own (w0:World) (m:Mem) (w:World) (mk:Mem) (L:List Item):Prop where
 m0:m.inn w0
 below:Below w0.heap.size w0 w
 ext:m.ext w0 mk
 inn:mk.inn w
 ok:∀it∈L,it.ok w
 fresh:∀it∈L,∀k,it.blk=some k→w0.heap.size≤k∧mk k=none
 apart:L.Pairwise Item.apart
section
variable {w0 w w':World} {m mk:Mem} {L:List Item}
theorem Own.start (h:m.inn w):Own w m w m []:=⟨h,Below.refl _ _,Mem.Me _ _,h,zS,zS,.nil⟩
theorem Own.move (h:Own w0 m w mk L) (hb:Below w.heap.size w w'):Own w0 m w' mk L:=
 ⟨h.m0,bZ h.below hb,h.ext,Mem.bE h.inn hb,fun it hi=>Item.jJ (h.ok it hi) fun k hk=>hb.block k (Item.lt (h.ok it hi) hk),h.fresh,h.apart⟩
theorem Own.al' (h:Own w0 m w mk L) (o:Obj):Own w0 m (w.alloc o) mk L:=h.move (bO (Below.refl _ _) o)
theorem Own.dr (h:Own w0 m w mk L):Own w0 m w.drew mk L:=h.move (Below.refl _ _).drew
theorem Own.drN (h:Own w0 m w mk L) (n:Nat):Own w0 m (w.drewN n) mk L:=h.move (below_drewN (Below.refl _ _) n)
theorem Own.cons (h:Own w0 m w mk L) {it:Item} (h1:it.ok w) (h2:∀k,it.blk=some k→w0.heap.size≤k∧mk k=none) (h3:∀b∈L,it.apart b):Own w0 m w mk (it::L):=
 ⟨h.m0,h.below,h.ext,h.inn,by simp only[List.mem_cons,forall_eq_or_imp];exact⟨h1,h.ok⟩,by simp only[List.mem_cons,forall_eq_or_imp];exact⟨h2,h.fresh⟩,.cons h3 h.apart⟩
theorem Own.sub {L':List Item} (h:Own w0 m w mk L) (hs:L'.Sublist L):Own w0 m w mk L':=
 ⟨h.m0,h.below,h.ext,h.inn,fun it hi=>h.ok it (hs.subset hi),fun it hi=>h.fresh it (hs.subset hi),h.apart.sublist hs⟩
theorem Own.perm {L':List Item} (h:Own w0 m w mk L) (hp:L'.Perm L):Own w0 m w mk L':=
 ⟨h.m0,h.below,h.ext,h.inn,fun it hi=>h.ok it (hp.subset hi),fun it hi=>h.fresh it (hp.subset hi),(hp.symm.pairwise_iff (fun {_ _} hab k h1 h2=>hab k h2 h1)).1 h.apart⟩
theorem Own.tail {it:Item} (h:Own w0 m w mk (it::L)):Own w0 m w mk L:=h.sub (List.sublist_cons_self _ _)
theorem Own.drop2 {a b:Item} (h:Own w0 m w mk (a::b::L)):Own w0 m w mk (a::L):=h.sub (.cons_cons _ (.cons _ (List.Sublist.refl _)))
theorem Own.jO {a b c:Item} (h:Own w0 m w mk (a::b::c::L)):Own w0 m w mk (a::b::L):=h.sub (.cons_cons _ (.cons_cons _ (.cons _ (List.Sublist.refl _))))
theorem Own.OE {a b c d:Item} (h:Own w0 m w mk (a::b::c::d::L)):Own w0 m w mk (a::b::c::L):=h.sub (.cons_cons _ (.cons_cons _ (.cons_cons _ (.cons _ (List.Sublist.refl _)))))
theorem Own.swap {a b:Item} (h:Own w0 m w mk (a::b::L)):Own w0 m w mk (b::a::L):=h.perm (List.Perm.swap _ _ _)
theorem Own.third {a b c:Item} (h:Own w0 m w mk (a::b::c::L)):Own w0 m w mk (c::a::b::L):=h.perm ((List.Perm.swap _ _ _).trans (List.Perm.cons _ (List.Perm.swap _ _ _)))
theorem Own.fourth {a b c d:Item} (h:Own w0 m w mk (a::b::c::d::L)):Own w0 m w mk (d::a::b::c::L):=
 h.perm ((List.Perm.swap _ _ _).trans (List.Perm.cons _ ((List.Perm.swap _ _ _).trans (List.Perm.cons _ (List.Perm.swap _ _ _)))))
theorem Own.Og {a b c:Item} (h:Own w0 m w mk (a::b::c::L)):Own w0 m w mk (a::c::b::L):=h.perm (List.Perm.cons _ (List.Perm.swap _ _ _))
theorem Own.at {g:Nat} {t:TypeId} {arr:Array Value} (h:Own w0 m w mk L) (hi:Item.obj g t arr∈L):bD w g t arr:=h.ok _ hi
theorem Own.al (h:Own w0 m w mk L) (arr:Array Value) (t:TypeId):Own w0 m (w.alloc (.cells arr t)) mk (.obj w.heap.size t arr::L):=
 (h.al' (.cells arr t)).cons (bD.new _ _ _) (fun k hk=>by simp only[Item.blk,Option.some.injEq] at hk;subst hk;exact⟨h.below.size,Mem.qF h.inn (Nat.le_refl _)⟩)
  (fun b hb k h1 h2=>by simp only[Item.blk,Option.some.injEq] at h1;subst h1;exact absurd (Item.lt (h.ok b hb) h2) (Nat.lt_irrefl _))
theorem Own.dI (h:Own w0 m w mk L) (t:TypeId) (size:Nat):Own w0 m w mk (.row (.slice none 0 0) t size 0 []::L):=
 h.cons (World.ownsRow_nil _ _ _ _) (fun k hk=>by cases hk) (fun b _ k h1 _=>by cases h1)
theorem Own.set {g:Nat} {t:TypeId} {arr:Array Value} (h:Own w0 m w mk (.obj g t arr::L)) (i:Nat) (v:Value):Own w0 m (w.setCell ⟨g,i,none⟩ v) mk (.obj g t (arr.setIfInBounds i v)::L):=by
 have hf:=h.fresh _ (List.mem_cons_self ..) g rfl;have hap:=List.pairwise_cons.1 h.apart;refine ⟨h.m0,h.below.setCell hf.1 v,h.ext,Mem.NE h.inn hf.2 v,?_,?_,.cons ?_ hap.2⟩
 ·simp only[List.mem_cons,forall_eq_or_imp];exact⟨bD.set (h.ok _ (List.mem_cons_self ..)) i v,fun it hi=>Item.jJ (h.ok it (List.mem_cons_of_mem _ hi)) fun k hk=>
   Below.heap_setCell _ _ _ _ (fun e=>hap.1 it hi g rfl (by rw[hk,e]))⟩
 ·simp only[List.mem_cons,forall_eq_or_imp];exact⟨fun k hk=>by simp only[Item.blk,Option.some.injEq] at hk;subst hk;exact hf,fun it hi=>h.fresh it (List.mem_cons_of_mem _ hi)⟩
 ·intro b hb k h1 h2;exact hap.1 b hb k h1 h2
theorem Own.app {v v':Value} {t:TypeId} {size n n':Nat} {xs xs':List Value} (h:Own w0 m w mk (.row v t size n xs::L)) (ho:w'.ownsRow 0 t size v' n' xs') (hg:w.grownBy w' v.ownBlock)
 {N:Nat} (hr:∀k,v'.ownBlock=some k→v.ownBlock=some k∨N≤k) (hN:w.heap.size≤N):Own w0 m w' mk (.row v' t size n' xs'::L):=by
 have hf:=h.fresh _ (List.mem_cons_self ..);have hap:=List.pairwise_cons.1 h.apart;refine ⟨h.m0,below_grown h.below hg (fun k hk=>(hf k hk).1),h.ext,Mem.uB h.inn hg (fun k hk=>(hf k hk).2),?_,?_,.cons ?_ hap.2⟩
 ·simp only[List.mem_cons,forall_eq_or_imp];exact⟨ho,fun it hi=>Item.jJ (h.ok it (List.mem_cons_of_mem _ hi)) fun k hk=>hg.block k (Item.lt (h.ok it (List.mem_cons_of_mem _ hi)) hk) (fun e=>hap.1 it hi k e.symm hk)⟩
 ·simp only[List.mem_cons,forall_eq_or_imp];exact⟨fun k hk=>(hr k hk).elim (fun h1=>hf k h1) (fun h1=>⟨by have:=h.below.size;omega,Mem.qF h.inn zo⟩),fun it hi=>h.fresh it (List.mem_cons_of_mem _ hi)⟩
 ·intro b hb k h1 h2;rcases hr k h1 with h3 | h3
  ·exact hap.1 b hb k h3 h2
  ·have:=Item.lt (h.ok b (List.mem_cons_of_mem _ hb)) h2;omega
theorem Own.call (h:Own w0 m w mk L) (hb:Below w.heap.size w w'):Own w0 m w' (mk.grow w w') L:=
 ⟨h.m0,bZ h.below hb,Mem.Mf h.ext h.inn h.below.size,Mem.EL h.inn hb,(h.move hb).ok,
  fun it hi k hk=>⟨(h.fresh it hi k hk).1,Mem.J4 (h.fresh it hi k hk).2 (Item.lt (h.ok it hi) hk)⟩,h.apart⟩
theorem Own.bg {v:Value} {t:TypeId} {size n:Nat} {xs:List Value} (h:Own w0 m w mk (.row v t size n xs::L)):Own w0 m w (mk.addv w v) L:=by
 have hf:=h.fresh _ (List.mem_cons_self ..);have hap:=List.pairwise_cons.1 h.apart;exact⟨h.m0,h.below,Mem.Mg h.ext (fun k hk=>(hf k hk).2) (fun k hk=>(hf k hk).1),Mem.MC h.inn v,fun it hi=>h.ok it (List.mem_cons_of_mem _ hi),
  fun it hi k hk=>⟨(h.fresh it (List.mem_cons_of_mem _ hi) k hk).1,Mem.KJ (h.fresh it (List.mem_cons_of_mem _ hi) k hk).2 (fun e=>hap.1 it hi k e hk)⟩,hap.2⟩
theorem Own.fZ {g:Nat} {t:TypeId} {arr:Array Value} (h:Own w0 m w mk (.obj g t arr::L)):Own w0 m w (mk.add w g) L:=by
 have hf:=h.fresh _ (List.mem_cons_self ..) g rfl;have hap:=List.pairwise_cons.1 h.apart;exact⟨h.m0,h.below,Mem.Kg h.ext hf.2 hf.1,Mem.KM h.inn,fun it hi=>h.ok it (List.mem_cons_of_mem _ hi),
  fun it hi k hk=>⟨(h.fresh it (List.mem_cons_of_mem _ hi) k hk).1,Mem.E8 (h.fresh it (List.mem_cons_of_mem _ hi) k hk).2 (fun e=>hap.1 it hi g rfl (by rw[hk,e]))⟩,hap.2⟩
theorem Own.free {v:Value} {t:TypeId} {size n:Nat} {xs:List Value} (h:Own w0 m w mk (.row v t size n xs::L)):mk.free v:=fun k hk=>(h.fresh _ (List.mem_cons_self ..) k hk).2
theorem Own.gq {g:Nat} {t:TypeId} {arr:Array Value} (h:Own w0 m w mk (.obj g t arr::L)):mk g=none:=(h.fresh _ (List.mem_cons_self ..) g rfl).2
theorem Own.row {v:Value} {t:TypeId} {size n:Nat} {xs:List Value} (h:Own w0 m w mk (.row v t size n xs::L)):w.ownsRow 0 t size v n xs:=h.ok _ (List.mem_cons_self ..)
theorem Own.obj {g:Nat} {t:TypeId} {arr:Array Value} (h:Own w0 m w mk (.obj g t arr::L)):bD w g t arr:=h.ok _ (List.mem_cons_self ..)
theorem Own.done (h:Own w0 m w mk L):mk.le (m.grow w0 w):=Mem.Di h.ext h.inn
end
theorem aP {w:World} {t:TypeId} {size n cap g:Nat} {xs:List Value} (h:w.ownsRow 0 t size (.slice (some ⟨g,0,none⟩) n cap) n xs) {j:Nat} {u:Value} (hj:xs[j]?=some u):w.cell? ⟨g,j,none⟩=some u:=by
 have:=h.cells (g:=g) rfl j u hj
 rwa [Addr.add_lit,Nat.zero_add] at this
theorem bU {w:World} {t:TypeId} {size n cap g:Nat} {xs:List Value} (h:w.ownsRow 0 t size (.slice (some ⟨g,0,none⟩) n cap) n xs) (j:Nat):w.frozen? ⟨g,j,none⟩=false:=by
 rcases h.2 with ⟨h',-⟩ | ⟨g',cap',cur,h',-,hb,-⟩
 ·cases h'
 ·cases h';simp[World.frozen?,hb]
section
variable {w0 w w':World} {m mk mk':Mem} {L L':List Item}
theorem Own.setRow {g n cap size:Nat} {t:TypeId} {xs:List Value} (h:Own w0 m w mk (.row (.slice (some ⟨g,0,none⟩) n cap) t size n xs::L)) (j:Nat) (u:Value) :
 Own w0 m (w.setCell ⟨g,j,none⟩ u) mk (.row (.slice (some ⟨g,0,none⟩) n cap) t size n (xs.set j u)::L):=by
 obtain⟨h1,h2⟩:=h.row.stored j u;exact h.app h1 h2 (N:=w.heap.size) (fun k hk=>.inl hk) (Nat.le_refl _)
theorem Own.make (h:Own w0 m w mk L) {n cap size:Nat} {t:TypeId} {xs:List Value} (ho:w'.ownsRow 0 t size (.slice (some ⟨w.heap.size,0,none⟩) n cap) n xs) (hg:w.grownBy w' none) :
 Own w0 m w' mk (.row (.slice (some ⟨w.heap.size,0,none⟩) n cap) t size n xs::L):=
 (h.dI t size).app ho hg (N:=w.heap.size) (fun k hk=>by simp[Value.ownBlock] at hk;exact .inr zo) (Nat.le_refl _)
theorem Own.join (h:Own w0 m w mk L) (h':Own w mk w' mk' L'):Own w0 m w' mk' (L' ++ L):=by
 refine ⟨h.m0,bZ h.below h'.below,⟨Mem.le_trans h.ext.le h'.ext.le,fun k o hk=>?_⟩,h'.inn,?_,?_,?_⟩
 ·rcases h'.ext.dom k o hk with h1 | h1
  ·exact h.ext.dom k o h1
  ·exact .inr (Nat.le_trans h.below.size h1)
 ·intro it hi;rcases List.mem_append.1 hi with h1 | h1
  ·exact h'.ok it h1
  ·exact (h.move h'.below).ok it h1
 ·intro it hi k hk;rcases List.mem_append.1 hi with h1 | h1
  ·exact⟨Nat.le_trans h.below.size (h'.fresh it h1 k hk).1,(h'.fresh it h1 k hk).2⟩
  ·refine ⟨(h.fresh it h1 k hk).1,?_⟩
   cases hm:mk' k with
   | none=>rfl
   | some o=>
    rcases h'.ext.dom k o hm with h2 | h2
    ·rw[(h.fresh it h1 k hk).2] at h2;cases h2
    ·exact absurd (Item.lt (h.ok it h1) hk) zo
 ·rw[List.pairwise_append];refine ⟨h'.apart,h.apart,fun a ha b hb k h1 h2=>?_⟩;have e1:=(h'.fresh a ha k h1).1;have e2:=Item.lt (h.ok b hb) h2;omega
end
theorem Lx (z:Value) (n:Nat):(madeCells #[z] (n*1)).toList=List.replicate n z:=by
 apply List.ext_getElem
 ·simp[madeCells]
 ·intro i h1 h2;simp[madeCells,Nat.mod_one]
structure Ff (P:Program) (t e:TypeId) (bytes:Nat) (z:Value):Prop where
 ht:P.underlying t=some (.slice e)
 info:(P.info? e).map (fun i=>(i.zero,i.size,i.bytes))=some (some z,1,bytes)
 one:z.cells=#[z]
theorem wpList_make_row {P:Program} {t e:TypeId} {bytes:Nat} {z:Value} (S:Ff P t e bytes z) {w:World} {ops:Array Oper} {rest:List Oper} {o:Oper} {a:Act} {Q:Exit→Act→World→Prop}
 (hg:o.guard=none) (l c:Operand) (hop:o.op=Op.makeSlice t l c) (n:Nat) (hl:a.eval l=.int .i64 n) (hc:a.eval c=.int .i64 n) (b2:bytes*n≤281474976710656) (b3:n≤maxLen)
 (hK:∀w',w'.ownsRow 0 e 1 (.slice (some ⟨w.heap.size,0,none⟩) n n) n (List.replicate n z)→w.grownBy w' none→wpList P ops Q rest (a.put o.dst (.slice (some ⟨w.heap.size,0,none⟩) n n)) w') :
 wpList P ops Q (o::rest) a w:=by
 obtain⟨i,hi,hz,hs,hb⟩:=info_parts S.info;refine wpList_make_full w hg l c t hop 0 e i z 1 S.ht hi hz hs .i64 .i64 n n n hl hc rfl rfl (by rw[hb];exact b2) b3 (Nat.zero_le _) ?_;intro w' h1 h2;rw[S.one,Lx] at h1;exact hK w' h1 h2
section
variable {w0 w w':World} {m mk:Mem} {L:List Item}
theorem Own.BB (h:Own w0 m w mk L) (o:Obj):Own w0 m (w.alloc o) mk (.blob w.heap.size o::L):=
 (h.al' o).cons (show (w.heap.push o)[w.heap.size]?=some o by simp) (fun k hk=>by simp only[Item.blk,Option.some.injEq] at hk;subst hk;exact⟨h.below.size,Mem.qF h.inn (Nat.le_refl _)⟩)
  (fun b hb k h1 h2=>by simp only[Item.blk,Option.some.injEq] at h1;subst h1;exact absurd (Item.lt (h.ok b hb) h2) (Nat.lt_irrefl _))
theorem Own.blob {g:Nat} {o:Obj} (h:Own w0 m w mk (.blob g o::L)):w.heap[g]?=some o:=h.ok _ (List.mem_cons_self ..)
theorem Own.iW {g:Nat} {o o':Obj} (h:Own w0 m w mk (.blob g o::L)) (ho:w'.heap[g]?=some o') (hg:w.grownBy w' (some g)):Own w0 m w' mk (.blob g o'::L):=by
 have hf:=h.fresh _ (List.mem_cons_self ..) g rfl;have hap:=List.pairwise_cons.1 h.apart;refine ⟨h.m0,h.below.grown hg h.below.size (fun k hk=>by cases hk;exact hf.1),h.ext,Mem.uB h.inn hg (fun k hk=>by cases hk;exact hf.2),?_,?_,.cons ?_ hap.2⟩
 ·simp only[List.mem_cons,forall_eq_or_imp];exact⟨ho,fun it hi=>Item.jJ (h.ok it (List.mem_cons_of_mem _ hi)) fun k hk=>hg.block k (Item.lt (h.ok it (List.mem_cons_of_mem _ hi)) hk) (fun e=>hap.1 it hi g rfl (by cases e;exact hk))⟩
 ·simp only[List.mem_cons,forall_eq_or_imp];exact⟨fun k hk=>by simp only[Item.blk,Option.some.injEq] at hk;subst hk;exact hf,fun it hi=>h.fresh it (List.mem_cons_of_mem _ hi)⟩
 ·intro b hb k h1 h2;exact hap.1 b hb k h1 h2
theorem Own.jT {v:Value} {t:TypeId} {size n:Nat} {xs:List Value} (h:Own w0 m w mk L) (hi:Item.row v t size n xs∈L):w.ownsRow 0 t size v n xs:=h.ok _ hi
theorem Own.p8 {g:Nat} {t:TypeId} {arr:Array Value} (h:Own w0 m w mk L) (hi:Item.obj g t arr∈L):bD w g t arr:=h.ok _ hi
theorem Own.yJ {g:Nat} {o:Obj} (h:Own w0 m w mk L) (hi:Item.blob g o∈L):w.heap[g]?=some o:=h.ok _ hi
end
def bC (l:List Spn):List Value:=l.flatMap fun p=>[.int .i64 p.1,.int .i64 p.2]
def spOk (p:Spn):Prop := -9223372036854775808≤p.1∧p.1≤9223372036854775807 ∧ -9223372036854775808≤p.2∧p.2≤9223372036854775807
theorem aU (l:List Spn) (p:Spn):bC (l ++ [p])=bC l ++ [.int .i64 p.1,.int .i64 p.2]:=by simp[bC]
theorem bR (l:List Spn):(bC l).length=l.length*2:=by
 induction l with
 | nil=>rfl
 | cons p l ih=>simp only[bC,List.flatMap_cons,List.length_append] at *;simp[ih];omega
theorem ic:∀(l:List Spn) (i:Nat) (h:i<l.length),(bC l)[i*2]?=some (.int .i64 l[i].1)∧(bC l)[i*2+1]?=some (.int .i64 l[i].2)
 | [],i,h=>by simp at h
 | p::l,0,_=>by simp[bC]
 | p::l,i+1,h=>by
  have:=ic l i (by simpa using h);simp only[bC,List.flatMap_cons] at *
  rw[show (i+1)*2=i*2+2 by omega,show i*2+2+1=(i*2+1)+2 by omega];simpa using this
theorem dQ {w:World} {t:TypeId} {v:Value} {l:List Spn} {m:Mem} (hown:w.ownsRow 0 t 2 v l.length (bC l)) (hk:∀p∈l,spOk p):dx (m.addv w v) v l:=
 gK hown fun g hg i h=>by
  obtain⟨h1,h2⟩:=ic l i h;exact⟨eQ hown hg m h1,eQ hown hg m h2,hk _ (List.getElem_mem h)⟩
theorem iX (m:Mem):dx m (.slice none 0 0) []:=⟨none,0,rfl,Nat.le_refl _,by simp[maxLen],fun h=>absurd rfl h⟩
theorem bW {m:Mem} {v:Value} {l:List Spn} (h:dx m v l):∃a c,v=.slice a l.length c:=by
 obtain⟨a,c,rfl,-⟩:=h;exact⟨a,c,rfl⟩
theorem Ga {m:Mem} {w:World} (hm:m.inn w) {ad:Option Addr} {c:Nat} {l:List Spn} (h:dx m (.slice ad l.length c) l) (hne:l≠[]) :
 ∃b off,ad=some ⟨b,off,none⟩∧∀j u,(bC l)[j]?=some u→w.cell? ((⟨b,off,none⟩:Addr).add j)=some u:=by
 obtain⟨a,c',e,h1,h2,h3⟩:=h;injection e with e1 e2 e3;subst e1;obtain⟨b,off,rfl,h4⟩:=h3 hne;refine ⟨b,off,rfl,fun j u hj=>?_⟩;rw[Addr.add_lit];have hj2:j<(bC l).length:=(List.getElem?_eq_some_iff.1 hj).1;rw[bR] at hj2;obtain⟨i,hij⟩:∃i,j=i*2∨j=i*2+1:=⟨j / 2,zo⟩;have hi:i<l.length:=zo;obtain⟨g1,g2,-⟩:=h4 i hi;obtain⟨k1,k2⟩:=ic l i hi;rcases hij with rfl | rfl
 ·rw[k1] at hj;cases hj;exact Mem.aj hm g1
 ·rw[k2] at hj;cases hj;exact Mem.aj hm g2
structure eF (m:Mem) (vi vf:Value) (I F:List Spn):Prop where
 i:dx m vi I
 f:dx m vf F
theorem eF.le {m m':Mem} (h:m.le m') {vi vf:Value} {I F:List Spn} (k:eF m vi vf I F):eF m' vi vf I F:=⟨bX h k.i,bX h k.f⟩
theorem eF.nil (m:Mem):eF m (.slice none 0 0) (.slice none 0 0) [] []:=⟨iX m,iX m⟩
structure xw (m:Mem) (b o:Nat) (k n:Int) (s:ByteArray) (vi vm:Value):Prop where
 k:m.cell b o=some (.int .i64 k)
 n:m.cell b (o+1)=some (.int .i64 n)
 s:m.cell b (o+2)=some (.string s)
 i:m.cell b (o+3)=some vi
 m:m.cell b (o+4)=some vm
theorem xw.le {m m':Mem} (h:m.le m') {b o:Nat} {k n:Int} {s:ByteArray} {vi vm:Value} (x:xw m b o k n s vi vm):xw m' b o k n s vi vm:=
 ⟨Mem.aA h x.k,Mem.aA h x.n,Mem.aA h x.s,Mem.aA h x.i,Mem.aA h x.m⟩
inductive DtAt (m:Mem):Value→Value→Dt→Prop
 | mk (k n:Int) (s:ByteArray) (items:List Dt) (labels:List ByteArray) (lL:List Dt) (ai:Option Addr) (ci:Nat) (am:Option Addr) (cm:Nat)
  (hk : -9223372036854775808≤k∧k≤9223372036854775807) (hn : -9223372036854775808≤n∧n≤9223372036854775807) (hs:s.size≤maxLen) (hl:labels.length=lL.length)
  (i1:items.length≤ci) (i2:ci≤maxLen) (m1:lL.length≤cm) (m2:cm≤maxLen)
  (bi oi:Nat) (i3:items≠[]→ai=some ⟨bi,oi,none⟩) (fi gi:Nat→Value) (i4:∀i (h:i<items.length),xw m bi (oi+i*5) (items[i]).kind (items[i]).num (items[i]).str (fi i) (gi i)) (i5:∀i (h:i<items.length),DtAt m (fi i) (gi i) items[i])
  (bm om:Nat) (m3:lL≠[]→am=some ⟨bm,om,none⟩) (fm gm:Nat→Value) (m4:∀i (h:i<lL.length),xw m bm (om+i*6+1) (lL[i]).kind (lL[i]).num (lL[i]).str (fm i) (gm i)) (m5:∀i (h:i<lL.length),DtAt m (fm i) (gm i) lL[i])
  (m6:∀i (h:i<labels.length),m.cell bm (om+i*6)=some (.string labels[i])∧(labels[i]).size≤maxLen) :
  DtAt m (.slice ai items.length ci) (.slice am lL.length cm) (.mk k n s items labels lL)
theorem DtAt.le {m m':Mem} (h:m.le m') {vi vm:Value} {d:Dt} (k:DtAt m vi vm d):DtAt m' vi vm d:=by
 induction k with
 | mk k n s items labels lL ai ci am cm hk hn hs hl i1 i2 m1 m2 bi oi i3 fi gi i4 i5 bm om m3 fm gm m4 m5 m6 ih1 ih2=>
  exact .mk k n s items labels lL ai ci am cm hk hn hs hl i1 i2 m1 m2 bi oi i3 fi gi (fun i h'=>(i4 i h').le h) ih1 bm om m3 fm gm (fun i h'=>(m4 i h').le h) ih2 (fun i h'=>⟨Mem.aA h (m6 i h').1,(m6 i h').2⟩)
def DAt (m:Mem) (b o:Nat) (d:Dt):Prop:=∃vi vm,xw m b o d.kind d.num d.str vi vm∧DtAt m vi vm d
def DsAt (m:Mem) (v:Value) (l:List Dt):Prop:=Mem.slice (DAt m) 5 v l
theorem DAt.le {m m':Mem} (h:m.le m') {b o:Nat} {d:Dt} (k:DAt m b o d):DAt m' b o d:=by
 obtain⟨vi,vm,h1,h2⟩:=k;exact⟨vi,vm,h1.le h,h2.le h⟩
theorem DsAt.le {m m':Mem} (h:m.le m') {v:Value} {l:List Dt} (k:DsAt m v l):DsAt m' v l:=Mem.fU k fun _ _ _=>DAt.le h
structure DtOk (d:Dt):Prop where
 k : -9223372036854775808≤d.kind∧d.kind≤9223372036854775807
 n : -9223372036854775808≤d.num∧d.num≤9223372036854775807
 s:d.str.size≤maxLen
theorem DtAt.items {m:Mem} {vi vm:Value} {d:Dt} (h:DtAt m vi vm d):DsAt m vi d.items:=by
 cases h with
 | mk k n s items labels lL ai ci am cm hk hn hs hl i1 i2 m1 m2 bi oi i3 fi gi i4 i5 bm om m3 fm gm m4 m5 m6=>
  exact⟨ai,ci,rfl,i1,i2,fun hne=>⟨bi,oi,i3 hne,fun i h=>⟨_,_,i4 i h,i5 i h⟩⟩⟩
theorem DtAt.ok {m:Mem} {vi vm:Value} {d:Dt} (h:DtAt m vi vm d):DtOk d:=by
 cases h with
 | mk k n s items labels lL ai ci am cm hk hn hs hl i1 i2 m1 m2 bi oi i3 fi gi i4 i5 bm om m3 fm gm m4 m5 m6=>exact⟨hk,hn,hs⟩
theorem DtAt.leaf (m:Mem) (k n:Int) (s:ByteArray) (hk : -9223372036854775808≤k∧k≤9223372036854775807) (hn : -9223372036854775808≤n∧n≤9223372036854775807) (hs:s.size≤maxLen) :
 DtAt m (.slice none 0 0) (.slice none 0 0) (.mk k n s [] [] []):=
 .mk k n s [] [] [] none 0 none 0 hk hn hs rfl (Nat.le_refl _) (by simp[maxLen]) (Nat.le_refl _) (by simp[maxLen]) 0 0 (fun h=>absurd rfl h) (fun _=>.bool true) (fun _=>.bool true) (fun i h=>by simp at h) (fun i h=>by simp at h)
  0 0 (fun h=>absurd rfl h) (fun _=>.bool true) (fun _=>.bool true) (fun i h=>by simp at h) (fun i h=>by simp at h) (fun i h=>by simp at h)
def Dt.val (d:Dt) (vi vm:Value):Value:=.agg #[.int .i64 d.kind,.int .i64 d.num,.string d.str,vi,vm]
def RS.val (s:RS) (vi vf vt:Value):Value:=.agg #[.bool s.nul,.bool s.fal,.bool s.tru,vi,vf,vt]
structure ScAt (m:Mem) (vi vf vt:Value) (s:RS):Prop where
 i:dx m vi s.i
 f:dx m vf s.f
 t:aR m vt s.t
theorem ScAt.le {m m':Mem} (h:m.le m') {vi vf vt:Value} {s:RS} (k:ScAt m vi vf vt s):ScAt m' vi vf vt s:=⟨bX h k.i,bX h k.f,bu h k.t⟩
end Cl
namespace Cl
open Go Go.RowKit Go.Proofs Go.WideShapes Go.ChangeShapes Go.Deep Go.Joins
section
variable {H:Type} {enc:TypeId × Value→H} {w:World} {spare:Nat→Bool} {held:Bool}
theorem O3 {α:Type} {l:List α} (h:l.length=5):∃a b c d e,l=[a,b,c,d,e]:=by
 match l,h with
 | [a,b,c,d,e],_=>exact⟨a,b,c,d,e,rfl⟩
theorem O1 {α:Type} {l:List α} (h:l.length=6):∃a b c d e f,l=[a,b,c,d,e,f]:=by
 match l,h with
 | [a,b,c,d,e,f],_=>exact⟨a,b,c,d,e,f,rfl⟩
theorem zL (fuel b o:Nat) (cs:List Value) (x:DataW H × List MemPlace) (hc:w.cells? 0 ⟨b,o,none⟩ 2=some cs) (h:DataW.trod enc Tryz.prog w 0 spare held fuel 139 cs=some x):∃p,Eo (Mem.of w) b o p:=by
 obtain⟨y0,y1,n,-,hl,h0,h1⟩:=trod_struct2 Tryz.underlying139 h;obtain⟨c0,c1,rfl⟩:=CZ (World.cells?_some hc).2.1;have e64:Tryz.prog.cellsOf 2=1:=by kernel_rfl
 simp[e64] at h0 h1;obtain⟨a0,e0,-,w0⟩:=DataW.trod_int Tryz.underlying2 h0;obtain⟨a1,e1,-,w1⟩:=DataW.trod_int Tryz.underlying2 h1;cases e0;cases e1;have w0:=EK w0;have w1:=EK w1;exact⟨(a0,a1),dW (i:=0) hc rfl,dW (i:=1) hc rfl,w0.1,w0.2,w1.1,w1.2⟩
theorem zP {fuel:Nat} {cs:List Value} {x:DataW H × List MemPlace} (h:DataW.trod enc Tryz.prog w 0 spare held fuel 29 cs=some x) :
 ∃b0 b1 b2 vi vf vt l f t,cs=[.bool b0,.bool b1,.bool b2,vi,vf,vt]∧ScAt (Mem.of w) vi vf vt ⟨b0,b1,b2,l,f,t⟩:=by
 obtain⟨xs,n,rfl,rfl,hl,hlen,hf⟩:=DataW.trod_struct Tryz.underlying29 h;have e0:Tryz.prog.cellsOf 29=6:=by kernel_rfl
 rw[e0] at hl;obtain⟨c0,c1,c2,c3,c4,c5,rfl⟩:=O1 hl;have eb:Tryz.prog.cellsOf 4=1:=by kernel_rfl
 have en:Tryz.prog.cellsOf 24=2:=by kernel_rfl
 have el:Tryz.prog.cellsOf 27=1:=by kernel_rfl
 have es:Tryz.prog.cellsOf 22=1:=by kernel_rfl
 have et:Tryz.prog.cellsOf 25=1:=by kernel_rfl
 obtain⟨y0,y1,y2,y3,y4,rfl⟩:=O3 hlen;have f0:=hf 0 _ rfl;have f1:=hf 1 _ rfl;have f2:=hf 2 _ rfl;have f3:=hf 3 _ rfl;have f4:=hf 4 _ rfl;simp[eb,en,el] at f0 f1 f2 f3 f4;obtain⟨a0,e0,-⟩:=DataW.trod_bool Tryz.underlying4 f0;obtain⟨a1,e1,-⟩:=DataW.trod_bool Tryz.underlying4 f1;obtain⟨a2,e2,-⟩:=DataW.trod_bool Tryz.underlying4 f2;cases e0;cases e1;cases e2;obtain⟨z0,z1,n3,-,-,g0,g1⟩:=trod_struct2 Tryz.underlying24 f3;simp[es] at g0 g1;obtain⟨z2,n4,-,-,g2⟩:=trod_struct1 Tryz.underlying27 f4;simp[et] at g2;obtain⟨vi,l,e3,h3⟩:=gQ Tryz.underlying22 zk zo (Eo (Mem.of w)) zL g0;obtain⟨vf,f,e4,h4⟩:=gQ Tryz.underlying22 zk zo (Eo (Mem.of w)) zL g1;obtain⟨vt,t,e5,h5⟩:=gQ Tryz.underlying25 zk zo (qy (Mem.of w)) vZ g2;cases e3;cases e4;cases e5;exact⟨a0,a1,a2,_,_,_,l,f,t,rfl,h3,h4,h5⟩
end
end Cl
