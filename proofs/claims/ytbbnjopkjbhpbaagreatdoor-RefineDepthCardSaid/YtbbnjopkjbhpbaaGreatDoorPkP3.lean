/- Lemmas for the proofs of chapter 11. -/
import Derived.Shelf.Strings.Builder1
import Derived.Shelf.Small.Wraps
import Derived.Shelf.Strconv.Itoa3
import Derived.BigQuiet
import Derived.Deep.Cut
import Derived.Lib.ItoaLen
import Derived.StillTailTactics
import Derived.WalkLawsBesides
import Derived.WalkSpells
import Derived.Deep.RegionHeld
import Derived.Lib.SmallJoins
import Derived.Test.YtbbnjopkjbhpbaaGreatDoorCards
import Derived.Test.YtbbnjopkjbhpbaaGreatDoorTie
import Derived.Deep.DeepHandedRow
import Derived.Stop.LaidErr
import Derived.Test.YtbbnjopkjbhpbaaGreatDoorPkP2
set_option maxRecDepth 100000
set_option maxHeartbeats 16000000
namespace Go.Proofs
open Go.Shelf Tryz
def Tryz.FZ:Go.Shelf.Ren:=⟨fun|169=>252|n=>n,fun|70=>289|9=>9|0=>0|72=>291|37=>245|127=>317|3=>3|5=>5|n=>n,fun|n=>n⟩
theorem Tryz.dzm:Go.Proofs.Lays.n169 prog Tryz.FZ:={
 mixed:=by kernel_rfl
 f169:=func252.trans (congrArg some zk)
 t0:=underlying0
 a0:=Tryz.isAgg0
 z0:=Tryz.sizeOf0
 v0:=Tryz.zeroValue0
 t3:=underlying3
 a3:=Tryz.isAgg3
 z3:=Tryz.sizeOf3
 v3:=Tryz.zeroValue3
 t9:=underlying9
 a9:=Tryz.isAgg9
 z9:=Tryz.sizeOf9
 v9:=Tryz.zeroValue9
 t37:=underlying245
 a37:=Tryz.isAgg245
 z37:=Tryz.sizeOf245
 v37:=Tryz.zeroValue245
 t70:=underlying289
 a70:=Tryz.isAgg289
 z70:=Tryz.sizeOf289
 v70:=Tryz.zeroValue289
 t72:=underlying291
 a72:=Tryz.isAgg291
 z72:=Tryz.sizeOf291
 v72:=Tryz.zeroValue291
 t127:=underlying317
 a127:=Tryz.isAgg317
 z127:=Tryz.sizeOf317
 v127:=Tryz.zeroValue317 }
theorem Tryz.Es:Builder.Extra prog Tryz.FZ:={
 sizeBuilder:=by kernel_rfl
 liesBuilder:=by kernel_rfl
 t5:=underlying5
 a5:=Tryz.isAgg5
 z5:=Tryz.sizeOf5
 v5:=Tryz.zeroValue5
 infoByte:=by kernel_rfl
 cellsByte:=by kernel_rfl
 sizeByte:=by kernel_rfl
 neB5:=by decide }
open Go.RowKit in
open Go.RowKit in
theorem Tryz.Builder_String_any(B b:Nat)(l:List UInt8)(w:zW)(h:Lib.IsBuilder 291 5 B b (Lib.byteCells l) w)(a:B<=w.heap.size):
 zC 252 #[.pointer (some ⟨b,0,none⟩)] w fun e w'=>e=.returned (.string ⟨l.toArray⟩)/\Below B w w':=Any.Builder_String_any Tryz.dzm Tryz.Es B b l w h a
def Tryz.QH:Go.Shelf.Ren:=⟨fun|122=>169|215=>209|n=>n,fun|3=>3|4=>4|n=>n,fun|n=>n⟩
theorem Tryz.dzn:Go.Proofs.Lays.n122 prog Tryz.QH:={
 mixed:=by kernel_rfl
 f122:=func169.trans (congrArg some zk)
 f215:=func209.trans (congrArg some zk)
 t3:=underlying3
 a3:=Tryz.isAgg3
 z3:=Tryz.sizeOf3
 v3:=Tryz.zeroValue3
 t4:=underlying4
 a4:=Tryz.isAgg4
 z4:=Tryz.sizeOf4
 v4:=Tryz.zeroValue4 }
open Go.RowKit in
theorem Tryz.cmp_Compare_int(x y:Int)(w:zW):
 zC 169 #[.int .i64 x,.int .i64 y] w fun e w'=>e=.returned (.int .i64 (Lib.compareInt x y))/\w'=w:=Any.cmp_Compare_int Tryz.dzn x y w
def Tryz.Oz:Go.Shelf.Ren:=⟨fun|171=>251|243=>287|246=>296|283=>298|284=>299|285=>300|286=>301|129=>208|317=>302|318=>303|319=>304|320=>305|337=>306|338=>307|n=>n,fun|3=>3|9=>9|2=>2|4=>4|171=>328|0=>0|53=>258|37=>245|5=>5|173=>330|212=>334|51=>256|20=>20|213=>335|46=>205|232=>336|233=>337|n=>n,fun|17=>0|18=>1|19=>2|n=>n⟩
theorem Tryz.az7:Go.Proofs.LaysM.n171 prog Tryz.Oz:={
 mixed:=by kernel_rfl
 f129:=func208.trans (congrArg some zk)
 f171:=func251.trans (congrArg some zk)
 f243:=func287.trans (congrArg some zk)
 f246:=func296.trans (congrArg some zk)
 f283:=func298.trans (congrArg some zk)
 f284:=func299.trans (congrArg some zk)
 f285:=func300.trans (congrArg some zk)
 f286:=func301.trans (congrArg some zk)
 f317:=func302.trans (congrArg some zk)
 f318:=func303.trans (congrArg some zk)
 f319:=func304.trans (congrArg some zk)
 f320:=func305.trans (congrArg some zk)
 f337:=func306.trans (congrArg some zk)
 f338:=func307.trans (congrArg some zk)
 t0:=underlying0
 a0:=Tryz.isAgg0
 z0:=Tryz.sizeOf0
 v0:=Tryz.zeroValue0
 t2:=underlying2
 a2:=Tryz.isAgg2
 z2:=Tryz.sizeOf2
 v2:=Tryz.zeroValue2
 t3:=underlying3
 a3:=Tryz.isAgg3
 z3:=Tryz.sizeOf3
 v3:=Tryz.zeroValue3
 t4:=underlying4
 a4:=Tryz.isAgg4
 z4:=Tryz.sizeOf4
 v4:=Tryz.zeroValue4
 t5:=underlying5
 a5:=Tryz.isAgg5
 z5:=Tryz.sizeOf5
 v5:=Tryz.zeroValue5
 t9:=underlying9
 a9:=Tryz.isAgg9
 z9:=Tryz.sizeOf9
 v9:=Tryz.zeroValue9
 t20:=underlying20
 a20:=Tryz.isAgg20
 z20:=Tryz.sizeOf20
 v20:=Tryz.zeroValue20
 t37:=underlying245
 a37:=Tryz.isAgg245
 z37:=Tryz.sizeOf245
 v37:=Tryz.zeroValue245
 t46:=underlying205
 a46:=Tryz.isAgg205
 z46:=Tryz.sizeOf205
 v46:=Tryz.zeroValue205
 t51:=underlying256
 a51:=Tryz.isAgg256
 z51:=Tryz.sizeOf256
 v51:=Tryz.zeroValue256
 t53:=underlying258
 a53:=Tryz.isAgg258
 z53:=Tryz.sizeOf258
 v53:=Tryz.zeroValue258
 t171:=underlying328
 a171:=Tryz.isAgg328
 z171:=Tryz.sizeOf328
 v171:=Tryz.zeroValue328
 t173:=underlying330
 a173:=Tryz.isAgg330
 z173:=Tryz.sizeOf330
 v173:=Tryz.zeroValue330
 t212:=underlying334
 a212:=Tryz.isAgg334
 z212:=Tryz.sizeOf334
 v212:=Tryz.zeroValue334
 t213:=underlying335
 a213:=Tryz.isAgg335
 z213:=Tryz.sizeOf335
 t232:=underlying336
 a232:=Tryz.isAgg336
 z232:=Tryz.sizeOf336
 v232:=Tryz.zeroValue336
 t233:=underlying337
 a233:=Tryz.isAgg337
 z233:=Tryz.sizeOf337
 v233:=Tryz.zeroValue337
 g17:=by kernel_rfl
 g18:=by kernel_rfl
 g19:=by kernel_rfl
 i0:=by kernel_rfl
 i2:=by kernel_rfl
 i3:=by kernel_rfl
 i4:=by kernel_rfl
 i5:=by kernel_rfl
 i9:=by kernel_rfl
 i20:=by kernel_rfl
 i37:=by kernel_rfl
 i46:=by kernel_rfl
 i51:=by kernel_rfl
 i53:=by kernel_rfl
 i171:=by kernel_rfl
 i173:=by kernel_rfl
 i212:=by kernel_rfl
 i232:=by kernel_rfl
 i233:=by kernel_rfl
 m17:=by kernel_rfl
 m18:=by kernel_rfl
 m19:=by kernel_rfl }
open Go.RowKit Go.Sort Go.Lib in
theorem Tryz.strconv_Itoa (n : Int) (h0 : -9223372036854775808 ≤ n) (h1 : n ≤ 9223372036854775807) (w : World) (htab : Lib.TabIs prog w "internal/strconv.uint64pow10" .u64 Lib.pow10Tab) :
 zC 251 #[.int .i64 n] w fun e w'=>e=.returned (.string ⟨(Lib.itoa n).toArray⟩)∧∃k os,w'=grow (w.drewN k) os:=Any.strconv_Itoa Tryz.az7 n h0 h1 w htab
end Go.Proofs
namespace Cl
open Go Go.RowKit
abbrev Mem:=Nat->Option Obj
structure Mem.le (m m':Mem):Prop where
 get:∀k o,m k=some o->m' k=some o
structure Mem.ay (m:Mem) (w:zW):Prop where
 get:∀k o,m k=some o->w.heap[k]?=some o
def Mem.cell(m:Mem)(b o:Nat):Option Value:=match m b with
 |some (.cells c _ _)=>c[o]?
 |_=>none
def Mem.of(w:zW):Mem:=fun k=>w.heap[k]?
theorem Mem_of_inn(w:zW):(Mem.of w).ay w:=⟨fun _ _ h=>h⟩
theorem Mem.le_refl(m:Mem):m.le m:=⟨fun _ _ h=>h⟩
theorem Mem.le_trans{a b c:Mem}(h:a.le b)(k:b.le c):a.le c:=⟨fun i o x=>k.get i o (h.get i o x)⟩
theorem Mem_inn_le{m m':Mem}{w:zW}(h:m.le m')(k:m'.ay w):m.ay w:=⟨fun i o x=>k.get i o (h.get i o x)⟩
theorem Mem_cell_w{m:Mem}{w:zW}(h:m.ay w){b o:Nat}{v:zV}(a:m.cell b o=some v):w.cell? ⟨b,o,none⟩=some v:=by
 unfold Mem.cell at a
 split at a
 .rename_i c t e d;simp[World.cell?,h.get _ _ d,a]
 .cases a
theorem Mem_cell_lt{m:Mem}{w:zW}(h:m.ay w){b o:Nat}{v:zV}(a:m.cell b o=some v):b<w.heap.size:=by
 have:=Mem_cell_w h a;simp only[World.cell?]at this
 split at this
 .rename_i c;exact(yC.1 c).1
 .cases this
theorem Mem_cell_le{m m':Mem}(h:m.le m'){b o:Nat}{v:zV}(a:m.cell b o=some v):m'.cell b o=some v:=by
 unfold Mem.cell at a⊢
 split at a
 .rename_i c t e d;rw[h.get _ _ d];exact a
 .cases a
def Mem.slice{α:Type}(R:Nat->Nat->α->Prop)(size:Nat)(v:zV)(l:List α):Prop:=
 ∃a c,v=.slice a l.length c/\l.length<=c/\c<=maxLen/\(l≠[]->∃b off,a=some ⟨b,off,none⟩/\∀i (h:i<l.length),R b (off+i*size) l[i])
theorem Mem_slice_mono{α:Type}{R R':Nat->Nat->α->Prop}{size:Nat}{v:zV}{l:List α}(h:Mem.slice R size v l)(hr:∀b o x,R b o x->R' b o x):Mem.slice R' size v l:=by
 exact qbs
def E9(m:Mem)(b o:Nat)(e:Ed):Prop:=
 m.cell b o=some (.int .u8 e.lo)/\m.cell b (o+1)=some (.int .u8 e.hi)/\m.cell b (o+2)=some (.int .i64 e.to) /\
 e.lo<256/\e.hi<256 /\ -9223372036854775808<=e.to/\e.to<=9223372036854775807
def kH(m:Mem)(v:zV)(es:List Ed):Prop:=Mem.slice (E9 m) 3 v es
def AB(m:Mem)(b o:Nat)(s:Sn):Prop:=
 m.cell b o=some (.bool s.bU)/\∃a,m.cell b (o+1)=some a/\kH m a s.bv
def aU(m:Mem)(v:zV)(l:aK):Prop:=Mem.slice (AB m) 2 v l
theorem YU{m m':Mem}(h:m.le m'){b o:Nat}{e:Ed}(k:E9 m b o e):E9 m' b o e:=
 ⟨Mem_cell_le h k.1,Mem_cell_le h k.2.1,Mem_cell_le h k.2.2.1,k.2.2.2⟩
theorem rQ{m m':Mem}(h:m.le m'){v:zV}{es:List Ed}(k:kH m v es):kH m' v es:=Mem_slice_mono k fun _ _ _=>YU h
theorem Tk{m m':Mem}(h:m.le m'){b o:Nat}{s:Sn}(k:AB m b o s):AB m' b o s:=by
 obtain⟨e,a,d,c⟩:=k;exact⟨Mem_cell_le h e,a,Mem_cell_le h d,rQ h c⟩
theorem aX{m m':Mem}(h:m.le m'){v:zV}{l:aK}(k:aU m v l):aU m' v l:=Mem_slice_mono k fun _ _ _=>Tk h
theorem Mem_inn_below{m:Mem}{w w':zW}(h:m.ay w)(a:zB w w'):m.ay w':=⟨fun k o hk=>by
 have:=h.get k o hk;rw[a.block k (yC.1 this).1];exact this⟩
def Mem.uZ{α:Type}(R:Nat->Nat->α->Prop)(v:zV)(l:List α):Prop:=
 ∃a c,v=.slice a l.length c/\l.length<=c/\c<=maxLen/\(l≠[]->∃b off,a=some ⟨b,off,none⟩/\∀i (h:i<l.length),R b (off+i) l[i])
theorem Mem_slice1_mono{α:Type}{R R':Nat->Nat->α->Prop}{v:zV}{l:List α}(h:Mem.uZ R v l)(hr:∀b o x,R b o x->R' b o x):Mem.uZ R' v l:=by
 exact qbs
def fzG(m:Mem)(b o:Nat)(x:Bool):Prop:=m.cell b o=some (.bool x)
def gzm(m:Mem)(b o:Nat)(x:Int):Prop:=m.cell b o=some (.int .i64 x) /\ -9223372036854775808<=x/\x<=9223372036854775807
def fz6(m:Mem)(b o:Nat)(x:ByteArray):Prop:=m.cell b o=some (.string x)/\x.size<=maxLen
def NZ(m:Mem)(b o:Nat)(x:Int×Int):Prop:=m.cell b o=some (.int .i64 x.1)/\m.cell b (o+1)=some (.int .i64 x.2) /\ -9223372036854775808<=x.1/\x.1<=9223372036854775807 /\ -9223372036854775808<=x.2/\x.2<=9223372036854775807
def jV(m:Mem)(v:zV)(l:List Bool):Prop:=Mem.uZ (fzG m) v l
def jd(m:Mem)(v:zV)(l:List Int):Prop:=Mem.uZ (gzm m) v l
def BX(m:Mem)(v:zV)(l:List ByteArray):Prop:=Mem.uZ (fz6 m) v l
def dK(m:Mem)(v:zV)(l:List (Int×Int)):Prop:=Mem.slice (NZ m) 2 v l
def sS(m:Mem)(v:zV)(l:List (List Int)):Prop:=Mem.uZ (fun b o x=>∃u,m.cell b o=some u/\jd m u x) v l
theorem nk{m m':Mem}(h:m.le m'){v:zV}{l:List Bool}(k:jV m v l):jV m' v l:=Mem_slice1_mono k fun _ _ _=>Mem_cell_le h
theorem iU{m m':Mem}(h:m.le m'){v:zV}{l:List Int}(k:jd m v l):jd m' v l:=Mem_slice1_mono k fun _ _ _ k=>⟨Mem_cell_le h k.1,k.2⟩
theorem gzx{m m':Mem}(h:m.le m'){v:zV}{l:List ByteArray}(k:BX m v l):BX m' v l:=Mem_slice1_mono k fun _ _ _ k=>⟨Mem_cell_le h k.1,k.2⟩
theorem bZ{m m':Mem}(h:m.le m'){v:zV}{l:List (Int×Int)}(k:dK m v l):dK m' v l:=
 Mem_slice_mono k fun _ _ _ k=>⟨Mem_cell_le h k.1,Mem_cell_le h k.2.1,k.2.2⟩
theorem Cn{m m':Mem}(h:m.le m'){v:zV}{l:List (List Int)}(k:sS m v l):sS m' v l:=
 Mem_slice1_mono k fun _ _ _ ⟨u,b,a⟩=>⟨u,Mem_cell_le h b,iU h a⟩
noncomputable def firstIdx{α:Type}(p:α->Prop):List α->Nat->Int
 |[],_ => -1
 |x::l,k=>if tf (p x)then(k:Int)else firstIdx p l (k+1)
theorem tK{α:Type}(p:α->Prop)(l:List α)(k:Nat)(h:k<l.length):firstIdx p (l.drop k) k=if tf (p l[k])then(k:Int)else firstIdx p (l.drop (k+1)) (k+1):=by
 rw[yE h];rfl
theorem BC{α:Type}(p:α->Prop)(l:List α):∀k,(firstIdx p l k = -1/\∀x∈l,¬p x)\/(∃i,∃h:i<l.length,firstIdx p l k=((k+i:Nat):Int)/\p l[i]/\∀j,∀hj:j<l.length,j<i->¬p l[j]):=by
 induction l with
 |nil=>intro k;left;exact⟨rfl,zS⟩
 |cons x l ih=>
  intro k;by_cases a:p x
  .right;exact⟨0,zS,by simp[firstIdx,aM a],a,fun j _ hj=>zo⟩
  .have e:firstIdx p (x::l) k=firstIdx p l (k+1):=by simp[firstIdx,aF a]
   rcases ih (k+1)with⟨c,b⟩|⟨i,c,b,g,f⟩
   .left;exact⟨e.trans c,by simpa using⟨a,b⟩⟩
   .right;refine⟨i+1,by simp;omega,e.trans (b.trans (by congr 1;omega)),by simpa using g,?_⟩;intro j hj d
    cases j with
    |zero=>simpa using a
    |succ j=>simpa using f j qdU zo
theorem nE{α:Type}(l a:List α)(k:Nat)(h:k<l.length)(b:k<a.length):l.drop k=a.drop k↔l[k]=a[k]/\l.drop (k+1)=a.drop (k+1):=by
 rw[yE h,yE b,List.cons.injEq]
end Cl
namespace Cl
open Go Go.RowKit Go.Proofs Tryz
theorem JR(b:Nat)(w:zW)(c:w.cell? ⟨b,0,none⟩=some (.pointer (some ⟨b,0,none⟩))):
 zC 286 #[.pointer (some ⟨b,0,none⟩)] w fun e w'=>e=.returned (.tuple #[])/\w'=w:=by
 obtain⟨j,a,_⟩:=Option.map_eq_some_iff.1 (show(prog.info? 291).map (·.size)=some 2 by kernel_rfl)
 go_enter func286,ntmps286
 go_wp2;rw[Lib.run_neq_ptr_same w _ underlying289 a];go_wp2
 go_end0
 exact⟨rfl,rfl⟩
theorem Gx(b:Nat)(w:zW)(g:w.cell? ⟨b,0,none⟩=some (.pointer none))(a:w.shape? b=some (291,2))(f:w.frozen? ⟨b,0,none⟩=false):
 zC 286 #[.pointer (some ⟨b,0,none⟩)] w fun e w'=>e=.returned (.tuple #[])/\w'=w.setCell ⟨b,0,none⟩ (.pointer (some ⟨b,0,none⟩)):=by
 obtain⟨j,d,c⟩:=Option.map_eq_some_iff.1 (show(prog.info? 291).map (·.size)=some 2 by kernel_rfl)
 go_enter func286,ntmps286
 go_wp2;rw[Lib.run_to_unsafe w ⟨b,0,none⟩ underlying289 underlying324 d (by rw[c];decide) a (Nat.zero_lt_succ 1)];simp only[Result.andThen];rw[Oper.upon_value];go_wp2;rw[run_callFunc_extern func295 zk zk zk (e:=Extern.AbiNoEscape.same) zk];rw[Lib.run_noEscape];simp only[Result.andThen];rw[Oper.upon_value];go_wp2;rw[Lib.run_from_unsafe w ⟨b,0,none⟩ underlying324 underlying289 d a zk];simp only[Result.andThen];rw[Oper.upon_value];go_wp2
 go_end0
 exact⟨rfl,rfl⟩
theorem K7(B b:Nat)(a:List Value)(w:zW)(h:Lib.IsBuilder 291 5 B b a w):
 zC 286 #[.pointer (some ⟨b,0,none⟩)] w fun e w'=>e=.returned (.tuple #[])/\(Lib.BuilderAt 291 5 B b (.pointer (some ⟨b,0,none⟩)) a w'/\Below B w w'):=by
 rcases h with h|h
 .refine(Gx b w h.cell0 h.shape h.frozen0).mono ?_;rintro e w' ⟨rfl,rfl⟩;exact⟨rfl,h.used _,(zR B w).setCell (p:=⟨b,0,none⟩) h.1 _⟩
 .refine(JR b w h.cell0).mono ?_;rintro e w' ⟨rfl,rfl⟩;exact⟨rfl,h,zR B _⟩
theorem ww(B b:Nat)(n:List Value)(s:ByteArray)(w:zW)(h:Lib.IsBuilder 291 5 B b n w)(D:n.length+s.size<=140737488355328)(H:B<=w.heap.size):
 zC 250 #[.pointer (some ⟨b,0,none⟩),.string s] w fun e w'=>e=.returned (.tuple #[.int .i64 s.size,.nilIface])/\(Lib.BuilderAt 291 5 B b (.pointer (some ⟨b,0,none⟩)) (n++Lib.strCells s) w'/\Below B w w'):=by
 obtain⟨G,hi,u,t,r⟩:=info_parts (show(prog.info? 5).map (fun i=>(i.zero,i.size,i.bytes))=some (some (.int .u8 0),1,1)by kernel_rfl)
 go_enter func250,ntmps250
 go_wp2_with (go_at_call 286;refine(K7 B b n _ h).mono ?_)
 rintro e q ⟨rfl,I,l⟩;obtain⟨E,v,d,j,y⟩:=I;have N:q.cell? ⟨b,0,none⟩=some (.pointer (some ⟨b,0,none⟩)):=by rw[Lib.cell_of_heap d];rfl
 have M:q.cell? ⟨b,1,none⟩=some v:=by rw[Lib.cell_of_heap d];rfl
 go_wp2_with (at_builtin;refine Lib.wpList_append_own_string _ rfl _ _ 245 9 rfl B 5 G underlying245 underlying9 hi u t r _ _ _ rfl j s rfl ?c3 ?c4 ?c5 ?_)
 case c3=>unfold maxLen;omega
 case c4=>omega
 case c5=>have:=l.size;omega
 intro v' o a c _;have z:b<q.heap.size:=by
  rcases Nat.lt_or_ge b q.heap.size with A|A
  .exact A
  .simp[Array.getElem?_eq_none A]at d
 have f:o.heap[b]?=some (.cells #[.pointer (some ⟨b,0,none⟩),v] 291 (0,0)):=by
  rw[c.block b z (fun e=>y e.symm)];exact d
 have L:o.cell? ⟨b,0,none⟩=some (.pointer (some ⟨b,0,none⟩)):=by rw[Lib.cell_of_heap f];rfl
 have K:o.cell? ⟨b,1,none⟩=some v:=by rw[Lib.cell_of_heap f];rfl
 have f1:o.frozen? ⟨b,1,none⟩=false:=Lib.frozen_of_heap f 1;obtain⟨F,C,m,rfl⟩:∃F C m,v'=.slice F C m:=by
  rcases a.2 with⟨x,_⟩|⟨g,m,J,x,_⟩
  .exact⟨_,_,_,x⟩
  .exact⟨_,_,_,x⟩
 go_wp2
 go_ret2
 refine⟨rfl,?_,?_⟩
 .exact Lib.BuilderAt.put (T:=291) (e:=5) E f (bs':=n++Lib.strCells s) (by simpa [Lib.strCells_length]using a) zD
 .exact(l.grown c (by have:=l.size;omega) (fun k hk=>(j.lt k hk).1)).setCell (p:=⟨b,1,none⟩) E _
structure dV (m:Mem):Prop where
 get : ∀ w, m.ay w → Lib.TabIs prog w "internal/strconv.uint64pow10" .u64 Lib.pow10Tab
theorem dV.le{m m':Mem}(h:dV m)(b:m.le m'):dV m':=⟨fun w a=>h.get w (Mem_inn_le b a)⟩
end Cl
namespace Cl
open Go Go.RowKit Go.Proofs Go.WideShapes Go.ChangeShapes Go.Deep Go.Joins
instance:Inhabited Ed:=⟨⟨0,0,0⟩⟩
instance:Inhabited Sn:=⟨⟨false,[]⟩⟩
end Cl
namespace Cl
open Go Go.RowKit Go.Proofs Go.ChangeShapes Go.WideShapes Tryz
theorem azr:ownKnob prog.godebug=none:=by kernel_rfl
theorem NK:laidOutB prog=true:=by kernel_rfl
theorem gzq : prog.globalNamed "internal/strconv.uint64pow10" = some 0 := by kernel_rfl
theorem bzs:(prog.globals[0]?).map (·.type)=some 334:=by kernel_rfl
theorem bzW:prog.cellsOf 334=20:=by kernel_rfl
theorem bzV:prog.cellsOf 258=1:=by kernel_rfl
abbrev Iw : List (String × DataW Unit) := [("math/bits.deBruijn32tab", Go.Proofs.YtbbnjopkjbhpbaaGreatDoor.Rows.laid_math_bits_deBruijn32tab), ("math/bits.deBruijn64tab", Go.Proofs.YtbbnjopkjbhpbaaGreatDoor.Rows.laid_math_bits_deBruijn64tab), ("internal/strconv.uint64pow10", Go.Proofs.YtbbnjopkjbhpbaaGreatDoor.Rows.laid_internal_strconv_uint64pow10)]
theorem azq {W:zW} (h:laidMetH prog Iw W):dV (Mem.of W):=by
 have h0:laidMet prog Iw W:=h
 have h1 : Lib.TabIs prog W "internal/strconv.uint64pow10" .u64 Lib.pow10Tab :=
  Lib.tabIs_of_head (rest:=[]) gzq bzs underlying334 underlying258 bzV bzW h0.tail.tail
 refine ⟨fun w hw=>?_⟩;unfold Lib.TabIs World.var? at h1 ⊢;rw[gzq] at h1 ⊢;simp only[Option.bind_some] at h1 ⊢
 split at h1
 ·rename_i cs t f hb;rw[hw.get 0 _ hb];exact h1
 ·cases h1
def Jd:DataW Unit->Array Value
 | .agg l=>(l.map fun d=>match d with
  |.lit (.int k n)=>Value.int k n
  | _=>undef).toArray
 |_=>#[]
def Uu(c:Array Value):Obj->Obj
 |.cells _ t frozen=>.cells c t frozen
 |o=>o
noncomputable def EU(a:Os):World:=
 { World.holding prog a ⟨#[],#[],[]⟩with heap:=(((World.holding prog a ⟨#[],#[],[]⟩).heap.modify 0 (Uu (Jd Go.Proofs.YtbbnjopkjbhpbaaGreatDoor.Rows.laid_internal_strconv_uint64pow10))).modify 1 (Uu (Jd Go.Proofs.YtbbnjopkjbhpbaaGreatDoor.Rows.laid_math_bits_deBruijn32tab))).modify 2 (Uu (Jd Go.Proofs.YtbbnjopkjbhpbaaGreatDoor.Rows.laid_math_bits_deBruijn64tab)) }
section
variable {H:Type} {enc:TypeId×Value->H}
theorem Bq{W o:zW}(m:Below W.heap.size W o){l:Nat->Bool}:∀(e:List TypeId) (k:List Value) (ds:List (DataW H)) (f:List MemPlace),(∀t∈e,prog.readableRec t=true/\t<prog.types.size) ->
 (∀x∈f,x.block<W.heap.size)->(∀x∈f,l x.block=true)->DataW.TrodAll enc prog W 0 (fun _=>true) true e k ds f->DataW.TrodAll enc prog o 0 l true e k ds f
 |[],_,_,_,_,_,_,h=>by
  obtain⟨rfl,rfl,rfl⟩:=trodAll_nil h
  exact trodAll_mk0
 |t::e,_,_,_,ht,hl,hs,h=>by
  obtain⟨v,g,d,j,a,b,rfl,rfl,rfl,q,p⟩:=trodAll_cons h;have n:=ht t (yF ..);exact trodAll_cons_mk (WideElems.Trod_stays NK n.1 n.2 q (fun x c=>m.same (hl x (xI _ c))) (fun x c=>hs x (xI _ c)))
   (Bq m e g j b (fun t i=>ht t (zU _ i)) (fun x c=>hl x (xS _ c)) (fun x c=>hs x (xS _ c)) p)
theorem az8{f:Func}{s:ChangeSpec}{W W':zW}{args:Array Value}{ds:List (DataW H)}{before:List MemPlace}(hv:s.vars=[])(hr:f.resultTypes=#[4])
(ht:(f.params.toList.all fun t=>prog.readableRec t&&decide (t<prog.types.size))=true)(hfn:s.fn H (ds++[])={ results:=[.lit (.bool true)],args:=ds })
(hW:DataW.Whole enc prog f.params.toList s.vars false W args.toList ds [] before)(hb:Below W.heap.size W W'):
 s.post enc prog f false true false false W args (.bool true) W':=by
 have hlt:=hW.lt;obtain⟨p,q,h1,h2,rfl,h3⟩:=id hW;rw[hv]at h2;obtain⟨-,rfl⟩:=trodVars_none h2;rw[yR]at hW hlt;refine⟨ds,[],p,[],p,[],hW,?_,?_,?_,hb.frame _,fun h=>by cases h⟩
 .rw[hfn,hr];exact trodAll_cons_mk (shut_bool underlying4 _) trodAll_mk0
 .rw[hfn];exact Bq hb _ _ _ _ (fun t h=>by have:=vD.1 ht t h;simpa using this) hlt (fun x hx=>by simpa using hlt x hx) h1
 .rw[hfn,hv]
  rfl
end
end Cl
namespace Cl
open Go Go.RowKit
theorem au{P:Program}{f:FuncId}{args:Array Value}{w:zW}{X:Ending->World->Prop}
(h:∀R:Ending->World->Prop,Hid (∀e w',X e w'->R e w')->Calls P f args w R):Calls P f args w X:=h X (fun _ _ h=>h)
theorem jq{k:IntKind}{a b:Int}(h:a=b):Ending.returned (.int k a)=.returned (.int k b):=by rw[h]
theorem aR{a b:Bool}(h:a=b):Ending.returned (.bool a)=.returned (.bool b):=by rw[h]
def lk:List (Nat×Value)->Nat->Value->Value
 |[],_,d=>d
 |(k,v)::r,i,d=>if i=k then v else lk r i d
def bB(z:Nat->Value)(a:List (Nat×Value)):Nat->Nat->List Value
 |_,0=>[]
 |i,n+1=>lk a i (z i)::bB z a (i+1) n
theorem Qz(z:Nat->Value)(a:List (Nat×Value)):∀n i,(bB z a i n).length=n:=by
 intro n
 induction n with
 |zero=>intro i;rfl
 |succ n ih=>intro i;simp[bB,ih]
theorem az2(z:Nat->Value)(a:List (Nat×Value)):∀n i j,j<n->(bB z a i n)[j]?=some (lk a (i+j) (z (i+j))):=by
 intro n
 induction n with
 |zero=>intro i j h;omega
 |succ n ih=>
  intro i j h
  cases j with
  |zero=>simp[bB]
  |succ j=>
   simp only[bB,List.getElem?_cons_succ];rw[ih (i+1) j zo];rw[show i+1+j=i+(j+1)by omega]
theorem Ul(f:Nat->Value)(K:List Nat)(i:Nat):lk (K.zip (K.map f)) i (f i)=f i:=by
 induction K with
 |nil=>rfl
 |cons k K ih=>
  simp only[yL,List.zip_cons_cons,lk];by_cases h:i=k
  .subst h;simp
  .simp[h,ih]
theorem Mr(a:Array Value)(K:List Nat):(bB (fun i=>a.getD i undef) (K.zip (K.map fun i=>a.getD i undef)) 0 a.size).toArray=a:=by
 apply Array.ext
 .simp[Qz]
 .intro i e h2;have:=az2 (fun i=>a.getD i undef) (K.zip (K.map fun i=>a.getD i undef)) a.size 0 i qeu;rw[yZ,Ul (fun i=>a.getD i undef) K i]at this;have c:=yB.1 this;obtain⟨d,b⟩:=c;simp only[List.getElem_toArray];rw[b];simp[Array.getD,h2]
theorem aC{P:Program}{c:Code}{Q:Exit->Act->World->Prop}{f:Array Value}{w:zW}(K:List Nat)(h:Nat->List Value->World->Prop)
(B:∃n,h n (K.map fun i=>f.getD i undef) w)
(o:∀(X:Act->World->Prop) (z:Nat->Value) (n:Nat) (t:List Value) (C:zW),Hid (∀j (g:Array Value) w',j<n->g.size=f.size->h j (K.map fun i=>g.getD i undef) w'->X ⟨g,[]⟩ w') ->
  t.length=K.length->h n t C->c.wp P (Exit.then X Q) ⟨(bB z (K.zip t) 0 f.size).toArray,[]⟩ C):
 (Code.loop c).wp P Q ⟨f,[]⟩ w:=by
 let I:Nat->Act->World->Prop:=fun n a w=>a.defers=[]/\a.tmps.size=f.size/\h n (K.map fun i=>a.tmps.getD i undef) w;intro b k cs;have u:∀n a w,I n a w->∃e s w',Q e s w'/\Arrives P (lone (b.at a (.code c::.inLoop c::k)) cs w) b k cs e s w':=by
  intro n
  induction n using Nat.strongRecOn with
  |_ n ih=>
   intro a w ⟨hd,hs,hb⟩;have F:a=⟨(bB (fun i=>a.tmps.getD i undef) (K.zip (K.map fun i=>a.tmps.getD i undef)) 0 f.size).toArray,[]⟩:=by
    rw[<-hs,Mr];cases a;simp_all
   have D:=o (fun s w'=>∃j,j<n/\I j s w') (fun i=>a.tmps.getD i undef) n _ w (fun j N w' J H G=>⟨j,J,rfl,H,G⟩) zS hb;rw[<-F]at D;obtain⟨e,r,q,m,d⟩:=D b (.inLoop c::k) cs
   cases e with
   |normal=>
    obtain⟨j,y,A⟩:=m;obtain⟨L,M,E,v,p⟩:=ih j y r q A
    exact⟨L,M,E,v,.of_steps (Steps.trans d (.one step_inLoop)) p⟩
   |exit id=>exact⟨_,r,q,m,.pass (x:=.inLoop c) rfl (fun _ _=>.inl zS) d⟩
   |goto l=>exact⟨_,r,q,m,.pass (x:=.inLoop c) rfl (fun _ _=>.inl zS) d⟩
   |ret=>exact⟨_,r,q,m,.pass (x:=.inLoop c) rfl (fun _ _=>.inl zS) d⟩
   |panic ch=>exact⟨_,r,q,m,.pass (x:=.inLoop c) rfl (fun _ _=>.inl zS) d⟩
   |outgrown=>exact⟨_,r,q,m,.pass (x:=.inLoop c) rfl (fun _ _=>.inl zS) d⟩
 obtain⟨n,B⟩:=B;obtain⟨e,s,w',m,d⟩:=u n ⟨f,[]⟩ w ⟨rfl,rfl,B⟩;exact⟨e,s,w',m,.of_steps (.one step_loop) d⟩
theorem aV{P:Program}{c:Code}{Q:Exit->Act->World->Prop}{a:Array Value}{w:zW}(K:List Nat)(f:List Value->World->Prop)
(o:∀(X:Act->World->Prop),Hid (∀(b:Array Value) w',b.size=a.size->f (K.map fun i=>b.getD i undef) w'->X ⟨b,[]⟩ w')->c.wp P (Exit.then X (fun _ _ _=>False)) ⟨a,[]⟩ w)
(n:∀(z:Nat->Value) (j:List Value) (w':zW),j.length=K.length->f j w'->Q .normal ⟨(bB z (K.zip j) 0 a.size).toArray,[]⟩ w'):c.wp P Q ⟨a,[]⟩ w:=by
 refine wp_mono (o (fun l w'=>l.defers=[]/\l.tmps.size=a.size/\f (K.map fun i=>l.tmps.getD i undef) w') (fun t w' g k=>⟨rfl,g,k⟩)) ?_;rintro e ⟨t,d⟩ w' hq
 cases e with
 |normal=>
  obtain⟨m,g,k⟩:=hq;have h:=n (fun i=>t.getD i undef) _ w' zS k
  dsimp only at g m
  subst m;rw[<-g,Mr]at h
  exact h
 |_=>exact hq.elim
theorem cu{w a:zW}(h:zB w a)(o:Obj):zB w (a.alloc o):=h.alloc h.size o
theorem mP{w w':zW}(h:zB w w'){b o:Nat}{v:zV}(c:b<w.heap.size)(a:w.cell? ⟨b,o,none⟩=some v):w'.cell? ⟨b,o,none⟩=some v:=
 (h.cell (p:=⟨b,o,none⟩) c).trans a
theorem iY{w a w':zW}(h:zB w a)(b:Below a.heap.size a w'):zB w w':=h.trans (b.mono h.size)
theorem below_drewN{B:Nat}{a w:zW}(h:Below B a w)(n:Nat):Below B a (w.drewN n):=⟨h.os,h.tape,h.output,h.size,h.block⟩
structure aZ (w:zW) (g:Nat) (t:TypeId) (arr:Array Value):Prop where
 get:w.heap[g]?=some (.cells arr t (0,0))
theorem aZ.lt{w:zW}{g:Nat}{t:TypeId}{arr:Array Value}(h:aZ w g t arr):g<w.heap.size:=(yC.1 h.get).1
theorem aZ.cell{w:zW}{g:Nat}{t:TypeId}{arr:Array Value}(h:aZ w g t arr){i:Nat}{v:zV}(hi:arr[i]?=some v):w.cell? ⟨g,i,none⟩=some v:=by
 simp[World.cell?,h.get,hi]
theorem aZ.frozen{w:zW}{g:Nat}{t:TypeId}{arr:Array Value}(h:aZ w g t arr)(i:Nat):w.frozen? ⟨g,i,none⟩=false:=by
 simp[World.frozen?,h.get]
theorem aZ.of_heap{w w':zW}{g:Nat}{t:TypeId}{arr:Array Value}(h:aZ w g t arr)(e:w'.heap[g]?=w.heap[g]?):aZ w' g t arr:=⟨e.trans h.get⟩
theorem aZ.al{w:zW}{g:Nat}{t:TypeId}{arr:Array Value}(h:aZ w g t arr)(o:Obj):aZ (w.alloc o) g t arr:=h.of_heap (Below.heap_alloc _ _ _ h.lt)
theorem aZ.dr{w:zW}{g:Nat}{t:TypeId}{arr:Array Value}(h:aZ w g t arr):aZ w.drew g t arr:=h.of_heap rfl
theorem aZ.Fa{w:zW}{g:Nat}{t:TypeId}{arr:Array Value}(h:aZ w g t arr)(n:Nat):aZ (w.drewN n) g t arr:=h.of_heap rfl
theorem aZ.set{w:zW}{g:Nat}{t:TypeId}{arr:Array Value}(h:aZ w g t arr)(i:Nat)(v:zV):aZ (w.setCell ⟨g,i,none⟩ v) g t (arr.setIfInBounds i v):=by
 constructor;simp[World.setCell,Array.getElem?_modify,h.get]
theorem aZ.az{B:Nat}{w w':zW}{g:Nat}{t:TypeId}{arr:Array Value}(h:aZ w g t arr)(b:Below B w w')(a:g<B):aZ w' g t arr:=h.of_heap (b.block _ a)
theorem aZ.grown{w w':zW}{row:Option Nat}{g:Nat}{t:TypeId}{arr:Array Value}(h:aZ w g t arr)(b:w.grownBy w' row)(a:some g≠row):aZ w' g t arr:=h.of_heap (b.block _ h.lt a)
theorem aZ.new(w:zW)(t:TypeId)(arr:Array Value):aZ (w.alloc (.cells arr t)) w.heap.size t arr:=by
 constructor;show(w.heap.push _)[w.heap.size]?=_;simp
theorem Mem_inn_al{m:Mem}{w:zW}(h:m.ay w)(o:Obj):m.ay (w.alloc o):=
 ⟨fun k u hk=>(Below.heap_alloc _ _ _ (yC.1 (h.get k u hk)).1).trans (h.get k u hk)⟩
theorem Mem_inn_set{m:Mem}{w:zW}(h:m.ay w){a:Addr}(b:m a.block=none)(v:zV):m.ay (w.setCell a v):=
 ⟨fun k u hk=>(Below.heap_setCell _ _ _ _ (by intro e;rw[e,b]at hk;cases hk)).trans (h.get k u hk)⟩
theorem Mem_inn_grown{m:Mem}{w w':zW}{row:Option Nat}(h:m.ay w)(b:w.grownBy w' row)(a:∀k,row=some k->m k=none):m.ay w':=
 ⟨fun k u hk=>(b.block k (yC.1 (h.get k u hk)).1 (by intro e;rw[a k e.symm]at hk;cases hk)).trans (h.get k u hk)⟩
theorem Mem_lt_of{m:Mem}{w:zW}(h:m.ay w){k:Nat}{o:Obj}(hk:m k=some o):k<w.heap.size:=(yC.1 (h.get k o hk)).1
theorem Mem_none_of_ge{m:Mem}{w:zW}(h:m.ay w){k:Nat}(hk:w.heap.size<=k):m k=none:=by
 cases hm:m k with
 |none=>rfl
 |some o=>have:=Mem_lt_of h hm;omega
def Mem.grow(m:Mem)(w0 w:zW):Mem:=fun k=>if k<w0.heap.size then m k else w.heap[k]?
theorem Mem_le_grow{m:Mem}{w0 w:zW}(h:m.ay w0):m.le (m.grow w0 w):=⟨fun k o hk=>by
 unfold Mem.grow;rw[zK (Mem_lt_of h hk)];exact hk⟩
theorem Mem_grow_inn{m:Mem}{w0 w:zW}(h:m.ay w0)(b:Below w0.heap.size w0 w):(m.grow w0 w).ay w:=⟨fun k o hk=>by
 unfold Mem.grow at hk
 split at hk
 .rename_i a;exact(b.block k a).trans (h.get k o hk)
 .exact hk⟩
theorem Mem_grow_none{m:Mem}{w0 w:zW}{k:Nat}(h:m k=none)(hk:k<w0.heap.size):m.grow w0 w k=none:=by simp[Mem.grow,hk,h]
structure Mem.ext (m:Mem) (w0:zW) (mk:Mem):Prop where
 le:m.le mk
 dom:∀k o,mk k=some o->m k=some o\/w0.heap.size<=k
theorem Mem_ext_refl(m:Mem)(w0:zW):m.ext w0 m:=⟨Mem.le_refl m,fun _ _ h=>.inl h⟩
theorem Mem_ext_grow{m:Mem}{w0 a b:zW}{mk:Mem}(h:m.ext w0 mk)(hi:mk.ay a)(c:w0.heap.size<=a.heap.size):m.ext w0 (mk.grow a b):=
 ⟨Mem.le_trans h.le (Mem_le_grow hi),fun k o hk=>by
  unfold Mem.grow at hk
  split at hk
  .exact h.dom k o hk
  .exact .inr zo⟩
theorem Mem_ext_le_grow{m:Mem}{w0 w:zW}{mk:Mem}(h:m.ext w0 mk)(hi:mk.ay w):mk.le (m.grow w0 w):=⟨fun k o hk=>by
 unfold Mem.grow
 split
 .rename_i b;rcases h.dom k o hk with a|a
  .exact a
  .omega
 .exact hi.get k o hk⟩
def Mem.add(m:Mem)(w:zW)(g:Nat):Mem:=fun k=>if k=g then w.heap[g]? else m k
theorem Mem_add_inn{m:Mem}{w:zW}{g:Nat}(h:m.ay w):(m.add w g).ay w:=⟨fun k o hk=>by
 unfold Mem.add at hk
 split at hk
 .rename_i e;rw[e];exact hk
 .exact h.get k o hk⟩
theorem Mem_le_add{m:Mem}{w:zW}{g:Nat}(h:m g=none):m.le (m.add w g):=⟨fun k o hk=>by
 unfold Mem.add;rw[zJ (fun e=>by rw[e,h]at hk;cases hk)];exact hk⟩
theorem Mem_ext_add{m mk:Mem}{w0 w:zW}{g:Nat}(h:m.ext w0 mk)(b:mk g=none)(a:w0.heap.size<=g):m.ext w0 (mk.add w g):=
 ⟨Mem.le_trans h.le (Mem_le_add b),fun k o hk=>by
  unfold Mem.add at hk
  split at hk
  .exact .inr zo
  .exact h.dom k o hk⟩
theorem Mem_add_none{m:Mem}{w:zW}{g k:Nat}(h:m k=none)(a:k≠g):m.add w g k=none:=by simp[Mem.add,a,h]
theorem Mem_add_cell{m:Mem}{w:zW}{g:Nat}{t:TypeId}{arr:Array Value}(h:aZ w g t arr){i:Nat}{v:zV}(hi:arr[i]?=some v):(m.add w g).cell g i=some v:=by
 simp[Mem.cell,Mem.add,h.get,hi]
structure fB (P:Program) (t e:TypeId) (size bytes:Nat):Prop where
 ht:P.underlying t=some (.slice e)
 pos:0<size
 info:∃i z,P.info? e=some i/\i.zero=some z/\i.size=size/\i.bytes=bytes/\z.cells.size=size
theorem lH{P:Program}{t e:TypeId}{size bytes:Nat}(S:fB P t e size bytes)(w:zW)(x:TypeId)
(v:zV)(n:Nat)(xs:List Value)(l:w.ownsRow 0 e size v n xs)
(a:Addr)(m c:Nat)(dF:List Value)(A:dF.length=m*size)(d:∀j u,dF[j]?=some u->w.cell? (a.add j)=some u)(I:∀u∈dF,u.oneCell'=true)
(r:n+m<=maxLen)(f:(n+m)*bytes<=140737488355328):
 ∃v' w',(Builtin.append_ #[t,t] x #[v,.slice (some a) m c]).run P w=.ok v' w'/\w'.ownsRow 0 e size v' (n+m) (xs++dF)/\w.grownBy w' v.ownBlock /\
  (∀k,v'.ownBlock=some k->v.ownBlock=some k\/w.heap.size<=k):=by
 obtain⟨i,z,hi,E,b,q,y⟩:=S.info;obtain⟨v',w',D,R,Q,V⟩:=run_append_own (P:=P) w 0 t x e i z size bytes S.ht hi E b q y S.pos v n xs l a m c dF A d I r f (zG _);refine⟨v',w',D,R,Q,?_⟩;intro k hk;rcases l.2 with⟨rfl,rfl⟩|⟨g,s,C,rfl,N,L,K,M,G,F⟩
 ·
  have J:xs=[]:=yM (by simpa using l.1);subst J;obtain⟨U,T,h,H,-,-⟩:=run_append_own (P:=P) w w.heap.size t x e i z size bytes S.ht hi E b q y S.pos (.slice none 0 0) 0 [] (World.ownsRow_nil _ _ _ _) a m c dF A d I r f (zI _);rw[D]at h;cases h;exact .inr (H.lt k hk).1
 .by_cases o:n+m<=s
  .have B:n*size+dF.length<=C.size:=by rw[A,G,<-Nat.add_mul];exact Nat.mul_le_mul_right _ o
   subst b;have h:=run_append_room (P:=P) w t x e i S.ht hi g n s C L a m c dF A d I o B;rw[D]at h;cases h;exact .inl hk
  .have p:∀j u,xs[j]?=some u->w.cell? ((⟨g,0,none⟩:Addr).add j)=some u:=l.cells (g:=g) rfl;subst b;have O:(n+m)*i.bytes<=140737488355328:=by rw[q];exact f
   have h:=run_append_grow (P:=P) w t x e i z S.ht hi E ⟨g,0,none⟩ n s xs l.1 p a m c dF A d zo (by simp only[maxLen]at r;omega) (growslice_fits zo O);rw[D]at h;cases h;simp[Value.ownBlock]at hk;exact .inr zo
theorem bz{w:zW}{t:TypeId}{size:Nat}{v:zV}{n:Nat}{xs:List Value}(h:w.ownsRow 0 t size v n xs):∃a c,v=.slice a n c:=by
 rcases h.2 with⟨rfl,rfl⟩|⟨g,d,b,rfl,-⟩
 .exact⟨_,_,rfl⟩
 .exact⟨_,_,rfl⟩
theorem gq{P:Program}{t e:TypeId}{size bytes:Nat}(S:fB P t e size bytes){w:zW}{o:Oper}{a:Act}{K:Act->World->Prop}{Q:Exit->Act->World->Prop}(s x:Operand)
(ho:o.op=.call { callee:=.builtin .append,args:=#[s,x],argTypes:=#[t,t] })
(v:zV)(n:Nat)(xs:List Value)(hs:a.eval s=v)(hown:w.ownsRow 0 e size v n xs)
(ad:Addr)(m c:Nat)(dF:List Value)(hx:a.eval x=.slice (some ad) m c)(hl:dF.length=m*size)(hnews:∀j u,dF[j]?=some u->w.cell? (ad.add j)=some u)(h1:∀u∈dF,u.oneCell'=true)
(h63:n+m<=maxLen)(hbytes:(n+m)*bytes<=140737488355328)
(h:∀va vc w',w'.ownsRow 0 e size (.slice va (n+m) vc) (n+m) (xs++dF)->w.grownBy w' v.ownBlock->(∀k,(Value.slice va (n+m) vc).ownBlock=some k->v.ownBlock=some k\/w.heap.size<=k)->K (a.put o.dst (.slice va (n+m) vc)) w'):o.wp P a w K Q:=by
 obtain⟨v',w',hr,h2,h3,h4⟩:=lH S w o.type v n xs hown ad m c dF hl hnews h1 h63 hbytes;obtain⟨va,vc,rfl⟩:=bz h2;unfold Oper.wp execOp;simp only[ho,resolve,invoke,builtin,Sem.run_bind,Sem.run_pure,Result.andThen_ok,List.map_toArray,yL,xB,hs,hx,hr];exact h va vc w' h2 h3 h4
theorem aT{P:Program}{t e:TypeId}{size bytes:Nat}(S:fB P t e size bytes){w:zW}{ops:Array Oper}{rest:List Oper}{o:Oper}{a:Act}{Q:Exit->Act->World->Prop}(hgd:o.guard=none)(s x:Operand)
(ho:o.op=.call { callee:=.builtin .append,args:=#[s,x],argTypes:=#[t,t] })
(v:zV)(n:Nat)(xs:List Value)(hs:a.eval s=v)(hown:w.ownsRow 0 e size v n xs)
(ad:Addr)(m c:Nat)(dF:List Value)(hx:a.eval x=.slice (some ad) m c)(hl:dF.length=m*size)(hnews:∀j u,dF[j]?=some u->w.cell? (ad.add j)=some u)(h1:∀u∈dF,u.oneCell'=true)
(h63:n+m<=maxLen)(hbytes:(n+m)*bytes<=140737488355328)
(h:∀va vc w',w'.ownsRow 0 e size (.slice va (n+m) vc) (n+m) (xs++dF)->w.grownBy w' v.ownBlock->(∀k,(Value.slice va (n+m) vc).ownBlock=some k->v.ownBlock=some k\/w.heap.size<=k)->wpList P ops Q rest (a.put o.dst (.slice va (n+m) vc)) w'):wpList P ops Q (o::rest) a w:=
 wpList_plain hgd fun _ hK=>gq S s x ho v n xs hs hown ad m c dF hx hl hnews h1 h63 hbytes fun va vc w' h2 h3 h4=>hK _ _ (h va vc w' h2 h3 h4)
def Mem.iH(m:Mem)(w:zW)(v:zV):Mem:=match v.ownBlock with
 |some g=>m.add w g
 |none=>m
def Mem.free(m:Mem)(v:zV):Prop:=∀k,v.ownBlock=some k->m k=none
theorem Mem_addv_inn{m:Mem}{w:zW}(h:m.ay w)(v:zV):(m.iH w v).ay w:=by
 unfold Mem.iH;split
 .exact Mem_add_inn h
 .exact h
theorem Mem_le_addv{m:Mem}{w:zW}{v:zV}(h:m.free v):m.le (m.iH w v):=by
 unfold Mem.iH;split
 .rename_i g a;exact Mem_le_add (h g a)
 .exact Mem.le_refl m
theorem Mem_ext_addv{m mk:Mem}{w0 w:zW}{v:zV}(h:m.ext w0 mk)(b:mk.free v)(a:∀k,v.ownBlock=some k->w0.heap.size<=k):m.ext w0 (mk.iH w v):=by
 unfold Mem.iH;split
 .rename_i g e;exact Mem_ext_add h (b g e) (a g e)
 .exact h
theorem Mem_addv_none{m:Mem}{w:zW}{v:zV}{k:Nat}(h:m k=none)(a:v.ownBlock≠some k):m.iH w v k=none:=by
 cases hv:v.ownBlock with
 |none=>simp only[Mem.iH,hv];exact h
 |some g=>simp only[Mem.iH,hv];exact Mem_add_none h (fun x=>a (by rw[hv,x]))
theorem dZ{w:zW}{t:TypeId}{size:Nat}{v:zV}{n:Nat}{xs:List Value}(b:w.ownsRow 0 t size v n xs){g:Nat}(d:v.ownBlock=some g)(m:Mem){j:Nat}{u:zV}(c:xs[j]?=some u):(m.iH w v).cell g j=some u:=by
 rcases b.2 with⟨rfl,rfl⟩|⟨o,l,k,rfl,-,i,e,h,f,a⟩
 .cases d
 .simp only[Value.ownBlock,Option.some.injEq]at d;subst d;simp only[Mem.iH,Value.ownBlock,Mem.cell,Mem.add,if_true,i];rw[<-a,List.getElem?_take]at c
  split at c
  .simpa using c
  .cases c
theorem fK{α:Type}{R:Nat->Nat->α->Prop}{w:zW}{t:TypeId}{size:Nat}{v:zV}{l:List α}{xs:List Value}(a:w.ownsRow 0 t size v l.length xs)
(m:∀g,v.ownBlock=some g->∀i (h:i<l.length),R g (i*size) l[i]):Mem.slice R size v l:=by
 rcases a.2 with⟨rfl,j⟩|⟨g,f,n,rfl,-,o,d,e,k,b⟩
 .refine⟨none,0,by rw[j],zo,by simp[maxLen],fun c=>absurd (yM j) c⟩
 .refine⟨some ⟨g,0,none⟩,f,rfl,d,e,fun _=>⟨g,0,rfl,fun i h=>?_⟩⟩;rw[yZ];exact m g rfl i h
theorem pq{α:Type}{R:Nat->Nat->α->Prop}{w:zW}{t:TypeId}{v:zV}{l:List α}{xs:List Value}(d:w.ownsRow 0 t 1 v l.length xs)
(j:∀g,v.ownBlock=some g->∀i (h:i<l.length),R g i l[i]):Mem.uZ R v l:=by
 obtain⟨a,c,q,p,o,n⟩:=fK (R:=R) d (fun g f i h=>by rw[Nat.mul_one];exact j g f i h);refine⟨a,c,q,p,o,fun e=>?_⟩;obtain⟨b,off,m,k⟩:=n e;exact⟨b,off,m,fun i hi=>by have:=k i hi;rwa [Nat.mul_one]at this⟩
structure og (m:Mem) (xs:List Value) (l:aK):Prop where
 len:xs.length=l.length*2
 acc:∀i (h:i<l.length),xs[i*2]?=some (.bool (l[i]).bU)
 edg:∀i (h:i<l.length),∃ve,xs[i*2+1]?=some ve/\kH m ve (l[i]).bv
theorem og.nil(m:Mem):og m [] []:=⟨rfl,fun i h=>by simp at h,fun i h=>by simp at h⟩
theorem og.mono{m m':Mem}{xs:List Value}{l:aK}(h:og m xs l)(a:m.le m'):og m' xs l:=
 ⟨h.len,h.acc,fun i hi=>let ⟨ve,h1,h2⟩:=h.edg i hi;⟨ve,h1,rQ a h2⟩⟩
theorem og.push{m:Mem}{xs:List Value}{l:aK}(h:og m xs l){s:Sn}{a:zV}(b:kH m a s.bv):og m (xs++[.bool s.bU,a]) (l++[s]):=by
 refine⟨by simp[h.len,Nat.add_mul],fun i hi=>?_,fun i hi=>?_⟩
 .by_cases c:i<l.length
  .rw[yK (by rw[h.len];omega),h.acc i c,xM c]
  .have:i=l.length:=by simp at hi;omega
   subst this;exact qcT
 .by_cases c:i<l.length
  .obtain⟨u,h1,h2⟩:=h.edg i c;exact qcK
  .have:i=l.length:=by simp at hi;omega
   subst this;refine⟨a,?_,by simpa using b⟩;exact qcT
theorem kM{w:zW}{t:TypeId}{v:zV}{l:aK}{xs:List Value}{m:Mem}(a:w.ownsRow 0 t 2 v l.length xs)(b:og m xs l)(d:m.free v):aU (m.iH w v) v l:=
 fK a fun _ c i h=>⟨dZ a c m (b.acc i h),let ⟨ve,h1,h2⟩:=b.edg i h;⟨ve,dZ a c m h1,rQ (Mem_le_addv d) h2⟩⟩
def fG(es:List Ed):List Value:=es.flatMap fun e=>[.int .u8 e.lo,.int .u8 e.hi,.int .i64 e.to]
def YV(e:Ed):Prop:=e.lo<256/\e.hi<256 /\ -9223372036854775808<=e.to/\e.to<=9223372036854775807
theorem nX(es:List Ed):(fG es).length=es.length*3:=by
 induction es with
 |nil=>rfl
 |cons e es ih=>simp only[fG,xO,zL]at*;simp[ih];omega
theorem ezH(es:List Ed):∀i (h:i<es.length),(fG es)[i*3]?=some (.int .u8 es[i].lo)/\(fG es)[i*3+1]?=some (.int .u8 es[i].hi)/\(fG es)[i*3+2]?=some (.int .i64 es[i].to):=by
 induction es with
 |nil=>intro i h;simp at h
 |cons e es ih=>
  intro i h
  cases i with
  |zero=>simp[fG]
  |succ i=>
   have:=ih i qd9;simp only[fG,xO]at*
   rw[show(i+1)*3=i*3+3 by omega,show i*3+3+1=(i*3+1)+3 by omega,show i*3+3+2=(i*3+2)+3 by omega];exact qbi
theorem lS(es:List Ed)(e:Ed):fG (es++[e])=fG es++[.int .u8 e.lo,.int .u8 e.hi,.int .i64 e.to]:=by simp[fG]
theorem nW{w:zW}{t:TypeId}{v:zV}{l:List Ed}{m:Mem}(a:w.ownsRow 0 t 3 v l.length (fG l))(hk:∀e∈l,YV e):kH (m.iH w v) v l:=
 fK a fun g b i h=>by
  obtain⟨f,d,c⟩:=ezH l i h;exact⟨dZ a b m f,dZ a b m d,dZ a b m c,hk _ (zF h)⟩
theorem jM{w:zW}{t:TypeId}{v:zV}{l:List Int}{m:Mem}(a:w.ownsRow 0 t 1 v l.length (l.map (Value.int .i64)))(hk:∀x∈l,-9223372036854775808<=x/\x<=9223372036854775807):jd (m.iH w v) v l:=
 pq a fun g b i h=>⟨dZ a b m qeI,hk _ (zF h)⟩
theorem nZ{w:zW}{t:TypeId}{v:zV}{l:List Bool}{m:Mem}(a:w.ownsRow 0 t 1 v l.length (l.map Value.bool)):jV (m.iH w v) v l:=
 pq a fun g b i h=>dZ a b m qeI
theorem dzf{m mk:Mem}{w0 w:zW}{v:zV}(b:m.ext w0 mk)(hi:mk.ay w)(c:mk.free v)(a:∀k,v.ownBlock=some k->w0.heap.size<=k):(mk.iH w v).le (m.grow w0 w):=
 Mem_ext_le_grow (Mem_ext_addv b c a) (Mem_addv_inn hi v)
theorem below_grown{w0 w w':zW}{v:zV}(b:Below w0.heap.size w0 w)(c:w.grownBy w' v.ownBlock)(a:∀k,v.ownBlock=some k->w0.heap.size<=k):Below w0.heap.size w0 w':=
 b.grown c b.size a
theorem YH{mk:Mem}{w:zW}{v v':zV}{N:Nat}(hi:mk.ay w)(b:mk.free v)(a:∀k,v'.ownBlock=some k->v.ownBlock=some k\/N<=k)(c:w.heap.size<=N):mk.free v':=fun k hk=>by
 rcases a k hk with h|h
 .exact b k h
 .exact Mem_none_of_ge hi zo
theorem dzw{n N:Nat}{v v':zV}(b:∀k,v.ownBlock=some k->n<=k)(a:∀k,v'.ownBlock=some k->v.ownBlock=some k\/N<=k)(c:n<=N):∀k,v'.ownBlock=some k->n<=k:=fun k hk=>by
 rcases a k hk with h|h
 .exact b k h
 .omega
theorem aZ.dF{w:zW}{g:Nat}{t:TypeId}{arr:Array Value}(h:aZ w g t arr){l:List Value}(a:arr.toList=l):∀j u,l[j]?=some u->w.cell? ((⟨g,0,none⟩:Addr).add j)=some u:=by
 intro j u hj;subst a;rw[Addr.add_lit,yZ];exact h.cell qdU
theorem aZ.c{w:zW}{g:Nat}{t:TypeId}{arr:Array Value}{v:zV}(h:aZ w g t arr)(i:Nat)(e:arr[i]?=some v:=by rfl):w.cell? ⟨g,i,none⟩=some v:=h.cell e
theorem aZ.cs6{w:zW}{g:Nat}{t:TypeId}{a b c d e f:zV}(h:aZ w g t #[a,b,c,d,e,f]):w.cell? ⟨g,0,none⟩=some a/\w.cell? ⟨g,1,none⟩=some b/\w.cell? ⟨g,2,none⟩=some c/\w.cell? ⟨g,3,none⟩=some d/\w.cell? ⟨g,4,none⟩=some e/\w.cell? ⟨g,5,none⟩=some f:=⟨h.cell rfl,h.cell rfl,h.cell rfl,h.cell rfl,h.cell rfl,h.cell rfl⟩
theorem aZ.cs5{w:zW}{g:Nat}{t:TypeId}{a b c d e:zV}(h:aZ w g t #[a,b,c,d,e]):w.cell? ⟨g,0,none⟩=some a/\w.cell? ⟨g,1,none⟩=some b/\w.cell? ⟨g,2,none⟩=some c/\w.cell? ⟨g,3,none⟩=some d/\w.cell? ⟨g,4,none⟩=some e:=⟨h.cell rfl,h.cell rfl,h.cell rfl,h.cell rfl,h.cell rfl⟩
theorem aZ.fr6{w:zW}{g:Nat}{t:TypeId}{arr:Array Value}(h:aZ w g t arr):w.frozen? ⟨g,0,none⟩=false/\w.frozen? ⟨g,1,none⟩=false/\w.frozen? ⟨g,2,none⟩=false/\w.frozen? ⟨g,3,none⟩=false/\w.frozen? ⟨g,4,none⟩=false/\w.frozen? ⟨g,5,none⟩=false:=⟨h.frozen 0,h.frozen 1,h.frozen 2,h.frozen 3,h.frozen 4,h.frozen 5⟩
theorem aZ.fr5{w:zW}{g:Nat}{t:TypeId}{arr:Array Value}(h:aZ w g t arr):w.frozen? ⟨g,0,none⟩=false/\w.frozen? ⟨g,1,none⟩=false/\w.frozen? ⟨g,2,none⟩=false/\w.frozen? ⟨g,3,none⟩=false/\w.frozen? ⟨g,4,none⟩=false:=⟨h.frozen 0,h.frozen 1,h.frozen 2,h.frozen 3,h.frozen 4⟩
theorem aZ.cf6{w:zW}{g:Nat}{t:TypeId}{a b c d e f:zV}(h:aZ w g t #[a,b,c,d,e,f]):w.cell? ⟨g,0,none⟩=some a/\w.cell? ⟨g,1,none⟩=some b/\w.cell? ⟨g,2,none⟩=some c/\w.cell? ⟨g,3,none⟩=some d/\w.cell? ⟨g,4,none⟩=some e/\w.cell? ⟨g,5,none⟩=some f/\w.frozen? ⟨g,0,none⟩=false/\w.frozen? ⟨g,1,none⟩=false/\w.frozen? ⟨g,2,none⟩=false/\w.frozen? ⟨g,3,none⟩=false/\w.frozen? ⟨g,4,none⟩=false/\w.frozen? ⟨g,5,none⟩=false:=⟨h.cell rfl,h.cell rfl,h.cell rfl,h.cell rfl,h.cell rfl,h.cell rfl,h.fr6⟩
theorem aZ.cf5{w:zW}{g:Nat}{t:TypeId}{a b c d e:zV}(h:aZ w g t #[a,b,c,d,e]):w.cell? ⟨g,0,none⟩=some a/\w.cell? ⟨g,1,none⟩=some b/\w.cell? ⟨g,2,none⟩=some c/\w.cell? ⟨g,3,none⟩=some d/\w.cell? ⟨g,4,none⟩=some e/\w.frozen? ⟨g,0,none⟩=false/\w.frozen? ⟨g,1,none⟩=false/\w.frozen? ⟨g,2,none⟩=false/\w.frozen? ⟨g,3,none⟩=false/\w.frozen? ⟨g,4,none⟩=false:=⟨h.cell rfl,h.cell rfl,h.cell rfl,h.cell rfl,h.cell rfl,h.fr5⟩
inductive bA where
 |obj (g:Nat) (t:TypeId) (arr:Array Value)
 |row (v:zV) (t:TypeId) (size n:Nat) (xs:List Value)
 |gT (g:Nat) (o:Obj)
def bA.blk:bA->Option Nat
 |.obj g _ _=>some g
 |.row v _ _ _ _=>v.ownBlock
 |.gT g _=>some g
def bA.ok(w:zW):bA->Prop
 |.obj g t arr=>aZ w g t arr
 |.row v t size n xs=>w.ownsRow 0 t size v n xs
 |.gT g o=>w.heap[g]?=some o
def bA.apart(a b:bA):Prop:=∀k,a.blk=some k->b.blk=some k->False
theorem bA.oK{w w':zW}{it:bA}(h:it.ok w)(e:∀k,it.blk=some k->w'.heap[k]?=w.heap[k]?):it.ok w':=by
 cases it with
 |obj g t arr=>exact aZ.of_heap h (e g rfl)
 |row v t size n xs=>
  obtain⟨j,a⟩:=h;refine⟨j,?_⟩;rcases a with a|⟨g,c,b,d,i,f,r⟩
  .exact .inl a
  .exact .inr ⟨g,c,b,d,i,by rw[e g (by rw[d];rfl)];exact f,r⟩
 |gT g o=>exact(e g rfl).trans h
theorem bA.lt{w:zW}{it:bA}(h:it.ok w){k:Nat}(hk:it.blk=some k):k<w.heap.size:=by
 cases it with
 |obj g t arr=>simp only[bA.blk,Option.some.injEq]at hk;subst hk;exact aZ.lt h
 |row v t size n xs=>exact(World.ownsRow.lt h k hk).2
 |gT g o=>simp only[bA.blk,Option.some.injEq]at hk;subst hk;exact(yC.1 h).1
structure Own (w0:zW) (m:Mem) (w:zW) (mk:Mem) (L:List bA):Prop where
 m0:m.ay w0
 az:Below w0.heap.size w0 w
 ext:m.ext w0 mk
 ay:mk.ay w
 ok:∀it∈L,it.ok w
 iA:∀it∈L,∀k,it.blk=some k->w0.heap.size<=k/\mk k=none
 apart:L.Pairwise bA.apart
section
variable {w0 w w':zW} {m mk:Mem} {L:List bA}
theorem Own.start(h:m.ay w):Own w m w m []:=⟨h,zR _ _,Mem_ext_refl _ _,h,zS,zS,.nil⟩
theorem Own.aS(h:Own w0 m w mk L)(a:zB w w'):Own w0 m w' mk L:=
 ⟨h.m0,iY h.az a,h.ext,Mem_inn_below h.ay a,fun it hi=>bA.oK (h.ok it hi) fun k hk=>a.block k (bA.lt (h.ok it hi) hk),h.iA,h.apart⟩
theorem Own.al'(h:Own w0 m w mk L)(o:Obj):Own w0 m (w.alloc o) mk L:=h.aS (cu (zR _ _) o)
theorem Own.dr(h:Own w0 m w mk L):Own w0 m w.drew mk L:=h.aS (zR _ _).drew
theorem Own.Fa(h:Own w0 m w mk L)(n:Nat):Own w0 m (w.drewN n) mk L:=h.aS (below_drewN (zR _ _) n)
theorem Own.cons(h:Own w0 m w mk L){it:bA}(d:it.ok w)(c:∀k,it.blk=some k->w0.heap.size<=k/\mk k=none)(a:∀b∈L,it.apart b):Own w0 m w mk (it::L):=
 ⟨h.m0,h.az,h.ext,h.ay,by simp only[yA,forall_eq_or_imp];exact⟨d,h.ok⟩,by simp only[yA,forall_eq_or_imp];exact⟨c,h.iA⟩,.cons a h.apart⟩
theorem Own.sub{L':List bA}(h:Own w0 m w mk L)(a:L'.Sublist L):Own w0 m w mk L':=
 ⟨h.m0,h.az,h.ext,h.ay,fun it hi=>h.ok it (a.subset hi),fun it hi=>h.iA it (a.subset hi),h.apart.sublist a⟩
theorem Own.perm{L':List bA}(h:Own w0 m w mk L)(a:L'.Perm L):Own w0 m w mk L':=
 ⟨h.m0,h.az,h.ext,h.ay,fun it hi=>h.ok it (a.subset hi),fun it hi=>h.iA it (a.subset hi),(a.symm.pairwise_iff (fun {_ _} hab k h1 h2=>hab k h2 h1)).1 h.apart⟩
theorem Own.tail{it:bA}(h:Own w0 m w mk (it::L)):Own w0 m w mk L:=h.sub (List.sublist_cons_self _ _)
theorem Own.bK{a b:bA}(h:Own w0 m w mk (a::b::L)):Own w0 m w mk (a::L):=h.sub (.cons_cons _ (.cons _ (List.Sublist.refl _)))
theorem Own.BD{a b c:bA}(h:Own w0 m w mk (a::b::c::L)):Own w0 m w mk (a::b::L):=h.sub (.cons_cons _ (.cons_cons _ (.cons _ (List.Sublist.refl _))))
theorem Own.ezR{a b c d:bA}(h:Own w0 m w mk (a::b::c::d::L)):Own w0 m w mk (a::b::c::L):=h.sub (.cons_cons _ (.cons_cons _ (.cons_cons _ (.cons _ (List.Sublist.refl _)))))
theorem Own.av{a b:bA}(h:Own w0 m w mk (a::b::L)):Own w0 m w mk (b::a::L):=h.perm (List.Perm.swap _ _ _)
theorem Own.aP{a b c:bA}(h:Own w0 m w mk (a::b::c::L)):Own w0 m w mk (c::a::b::L):=h.perm ((List.Perm.swap _ _ _).trans (List.Perm.cons _ (List.Perm.swap _ _ _)))
theorem Own.bR{a b c d:bA}(h:Own w0 m w mk (a::b::c::d::L)):Own w0 m w mk (d::a::b::c::L):=
 h.perm ((List.Perm.swap _ _ _).trans (List.Perm.cons _ ((List.Perm.swap _ _ _).trans (List.Perm.cons _ (List.Perm.swap _ _ _)))))
theorem Own.Z9{a b c:bA}(h:Own w0 m w mk (a::b::c::L)):Own w0 m w mk (a::c::b::L):=h.perm (List.Perm.cons _ (List.Perm.swap _ _ _))
theorem Own.at{g:Nat}{t:TypeId}{arr:Array Value}(h:Own w0 m w mk L)(hi:bA.obj g t arr∈L):aZ w g t arr:=h.ok _ hi
theorem Own.al(h:Own w0 m w mk L)(arr:Array Value)(t:TypeId):Own w0 m (w.alloc (.cells arr t)) mk (.obj w.heap.size t arr::L):=
 (h.al' (.cells arr t)).cons (aZ.new _ _ _) (fun k hk=>by simp only[bA.blk,Option.some.injEq]at hk;subst hk;exact⟨h.az.size,Mem_none_of_ge h.ay (zI _)⟩)
  (fun b c k a d=>by simp only[bA.blk,Option.some.injEq]at a;subst a;exact absurd (bA.lt (h.ok b c) d) (Nat.lt_irrefl _))
theorem Own.fC(h:Own w0 m w mk L)(t:TypeId)(size:Nat):Own w0 m w mk (.row (.slice none 0 0) t size 0 []::L):=
 h.cons (World.ownsRow_nil _ _ _ _) (fun k hk=>by cases hk) (fun b _ k a _=>by cases a)
theorem Own.set{g:Nat}{t:TypeId}{arr:Array Value}(h:Own w0 m w mk (.obj g t arr::L))(i:Nat)(v:zV):Own w0 m (w.setCell ⟨g,i,none⟩ v) mk (.obj g t (arr.setIfInBounds i v)::L):=by
 have hf:=h.iA _ (yF ..) g rfl;have hap:=yS.1 h.apart;refine⟨h.m0,h.az.setCell hf.1 v,h.ext,Mem_inn_set h.ay hf.2 v,?_,?_,.cons ?_ hap.2⟩
 .simp only[yA,forall_eq_or_imp];exact⟨aZ.set (h.ok _ (yF ..)) i v,fun it hi=>bA.oK (h.ok it (zU _ hi)) fun k hk=>
   Below.heap_setCell _ _ _ _ (fun e=>hap.1 it hi g rfl (by rw[hk,e]))⟩
 .exact qgB
 .exact qcz
theorem Own.app{v v':zV}{t:TypeId}{size n i:Nat}{xs c:List Value}(h:Own w0 m w mk (.row v t size n xs::L))(q:w'.ownsRow 0 t size v' i c)(f:w.grownBy w' v.ownBlock)
{N:Nat}(j:∀k,v'.ownBlock=some k->v.ownBlock=some k\/N<=k)(r:w.heap.size<=N):Own w0 m w' mk (.row v' t size i c::L):=by
 have g:=h.iA _ (yF ..);have a:=yS.1 h.apart;refine⟨h.m0,below_grown h.az f (fun k hk=>(g k hk).1),h.ext,Mem_inn_grown h.ay f (fun k hk=>(g k hk).2),?_,?_,.cons ?_ a.2⟩
 .simp only[yA,forall_eq_or_imp];exact⟨q,fun it hi=>bA.oK (h.ok it (zU _ hi)) fun k hk=>f.block k (bA.lt (h.ok it (zU _ hi)) hk) (fun e=>a.1 it hi k e.symm hk)⟩
 .simp only[yA,forall_eq_or_imp];exact⟨fun k hk=>(j k hk).elim (fun d=>g k d) (fun d=>⟨by have:=h.az.size;omega,Mem_none_of_ge h.ay zo⟩),fun it hi=>h.iA it (zU _ hi)⟩
 .intro b l k d p;rcases j k d with o|o
  .exact a.1 b l k o p
  .have:=bA.lt (h.ok b (zU _ l)) p;omega
theorem Own.call(h:Own w0 m w mk L)(a:zB w w'):Own w0 m w' (mk.grow w w') L:=
 ⟨h.m0,iY h.az a,Mem_ext_grow h.ext h.ay h.az.size,Mem_grow_inn h.ay a,(h.aS a).ok,
  fun it hi k hk=>⟨(h.iA it hi k hk).1,Mem_grow_none (h.iA it hi k hk).2 (bA.lt (h.ok it hi) hk)⟩,h.apart⟩
theorem Own.bO{v:zV}{t:TypeId}{size n:Nat}{xs:List Value}(h:Own w0 m w mk (.row v t size n xs::L)):Own w0 m w (mk.iH w v) L:=by
 have b:=h.iA _ (yF ..);have a:=yS.1 h.apart;exact⟨h.m0,h.az,Mem_ext_addv h.ext (fun k hk=>(b k hk).2) (fun k hk=>(b k hk).1),Mem_addv_inn h.ay v,fun it hi=>h.ok it (zU _ hi),
  fun it hi k hk=>⟨(h.iA it (zU _ hi) k hk).1,Mem_addv_none (h.iA it (zU _ hi) k hk).2 (fun e=>a.1 it hi k e hk)⟩,a.2⟩
theorem Own.gU{g:Nat}{t:TypeId}{arr:Array Value}(h:Own w0 m w mk (.obj g t arr::L)):Own w0 m w (mk.add w g) L:=by
 have b:=h.iA _ (yF ..) g rfl;have a:=yS.1 h.apart;exact⟨h.m0,h.az,Mem_ext_add h.ext b.2 b.1,Mem_add_inn h.ay,fun it hi=>h.ok it (zU _ hi),
  fun it hi k hk=>⟨(h.iA it (zU _ hi) k hk).1,Mem_add_none (h.iA it (zU _ hi) k hk).2 (fun e=>a.1 it hi g rfl (by rw[hk,e]))⟩,a.2⟩
theorem Own.free{v:zV}{t:TypeId}{size n:Nat}{xs:List Value}(h:Own w0 m w mk (.row v t size n xs::L)):mk.free v:=fun k hk=>(h.iA _ (yF ..) k hk).2
theorem Own.jG{g:Nat}{t:TypeId}{arr:Array Value}(h:Own w0 m w mk (.obj g t arr::L)):mk g=none:=(h.iA _ (yF ..) g rfl).2
theorem Own.row{v:zV}{t:TypeId}{size n:Nat}{xs:List Value}(h:Own w0 m w mk (.row v t size n xs::L)):w.ownsRow 0 t size v n xs:=h.ok _ (yF ..)
theorem Own.obj{g:Nat}{t:TypeId}{arr:Array Value}(h:Own w0 m w mk (.obj g t arr::L)):aZ w g t arr:=h.ok _ (yF ..)
theorem Own.done(h:Own w0 m w mk L):mk.le (m.grow w0 w):=Mem_ext_le_grow h.ext h.ay
end
theorem bL{w:zW}{t:TypeId}{size n a g:Nat}{xs:List Value}(h:w.ownsRow 0 t size (.slice (some ⟨g,0,none⟩) n a) n xs){j:Nat}{u:zV}(b:xs[j]?=some u):w.cell? ⟨g,j,none⟩=some u:=by
 have:=h.cells (g:=g) rfl j u b
 rwa [Addr.add_lit,yZ]at this
theorem fI{w:zW}{t:TypeId}{size n b g:Nat}{xs:List Value}(h:w.ownsRow 0 t size (.slice (some ⟨g,0,none⟩) n b) n xs)(j:Nat):w.frozen? ⟨g,j,none⟩=false:=by
 rcases h.2 with⟨a,-⟩|⟨f,c,e,a,-,d,-⟩
 .cases a
 .cases a;simp[World.frozen?,d]
section
variable {w0 w w':zW} {m mk mk':Mem} {L L':List bA}
theorem Own.setRow{g n a size:Nat}{t:TypeId}{xs:List Value}(h:Own w0 m w mk (.row (.slice (some ⟨g,0,none⟩) n a) t size n xs::L))(j:Nat)(u:zV):
 Own w0 m (w.setCell ⟨g,j,none⟩ u) mk (.row (.slice (some ⟨g,0,none⟩) n a) t size n (xs.set j u)::L):=by
 obtain⟨c,b⟩:=h.row.stored j u;exact h.app c b (N:=w.heap.size) (fun k hk=>.inl hk) (zI _)
theorem Own.make(h:Own w0 m w mk L){n a size:Nat}{t:TypeId}{xs:List Value}(b:w'.ownsRow 0 t size (.slice (some ⟨w.heap.size,0,none⟩) n a) n xs)(c:w.grownBy w' none):
 Own w0 m w' mk (.row (.slice (some ⟨w.heap.size,0,none⟩) n a) t size n xs::L):=
 (h.fC t size).app b c (N:=w.heap.size) (fun k hk=>by simp[Value.ownBlock]at hk;exact .inr zo) (zI _)
theorem Own.join(h:Own w0 m w mk L)(d:Own w mk w' mk' L'):Own w0 m w' mk' (L'++L):=by
 refine⟨h.m0,iY h.az d.az,⟨Mem.le_trans h.ext.le d.ext.le,fun k o hk=>?_⟩,d.ay,?_,?_,?_⟩
 .rcases d.ext.dom k o hk with c|c
  .exact h.ext.dom k o c
  .exact .inr (yJ h.az.size c)
 .intro it hi;rcases yP.1 hi with c|c
  .exact d.ok it c
  .exact(h.aS d.az).ok it c
 .intro it hi k hk;rcases yP.1 hi with c|c
  .exact⟨yJ h.az.size (d.iA it c k hk).1,(d.iA it c k hk).2⟩
  .refine⟨(h.iA it c k hk).1,?_⟩
   cases hm:mk' k with
   |none=>rfl
   |some o=>
    rcases d.ext.dom k o hm with e|e
    .rw[(h.iA it c k hk).2]at e;cases e
    .exact absurd (bA.lt (h.ok it c) hk) zo
 .rw[List.pairwise_append];refine⟨d.apart,h.apart,fun a g b f k c e=>?_⟩;have j:=(d.iA a g k c).1;have i:=bA.lt (h.ok b f) e;omega
end
theorem azZ(z:zV)(n:Nat):(madeCells #[z] (n*1)).toList=List.replicate n z:=by
 apply vF
 .simp[madeCells]
 .intro i b a;simp[madeCells,Nat.mod_one]
structure Pg (P:Program) (t e:TypeId) (bytes:Nat) (z:zV):Prop where
 ht:P.underlying t=some (.slice e)
 info:(P.info? e).map (fun i=>(i.zero,i.size,i.bytes))=some (some z,1,bytes)
 one:z.cells=#[z]
theorem wpList_make_row{P:Program}{t e:TypeId}{bytes:Nat}{z:zV}(S:Pg P t e bytes z){w:zW}{ops:Array Oper}{rest:List Oper}{o:Oper}{a:Act}{Q:Exit->Act->World->Prop}
(j:o.guard=none)(l c:Operand)(b:o.op=Op.makeSlice t l c)(n:Nat)(h:a.eval l=.int .i64 n)(k:a.eval c=.int .i64 n)(s:bytes*n<=281474976710656)(r:n<=maxLen)
(p:∀w',w'.ownsRow 0 e 1 (.slice (some ⟨w.heap.size,0,none⟩) n n) n (List.replicate n z)->w.grownBy w' none->wpList P ops Q rest (a.put o.dst (.slice (some ⟨w.heap.size,0,none⟩) n n)) w'):
 wpList P ops Q (o::rest) a w:=by
 obtain⟨i,hi,f,g,m⟩:=info_parts S.info;refine wpList_make_full w j l c t b 0 e i z 1 S.ht hi f g .i64 .i64 n n n h k rfl rfl (by rw[m];exact s) r (zG _) ?_;intro w' d q;rw[S.one,azZ]at d;exact p w' d q
section
variable {w0 w w':zW} {m mk:Mem} {L:List bA}
theorem Own.CF(h:Own w0 m w mk L)(o:Obj):Own w0 m (w.alloc o) mk (.gT w.heap.size o::L):=
 (h.al' o).cons (show(w.heap.push o)[w.heap.size]?=some o by simp) (fun k hk=>by simp only[bA.blk,Option.some.injEq]at hk;subst hk;exact⟨h.az.size,Mem_none_of_ge h.ay (zI _)⟩)
  (fun b c k a d=>by simp only[bA.blk,Option.some.injEq]at a;subst a;exact absurd (bA.lt (h.ok b c) d) (Nat.lt_irrefl _))
theorem Own.gT{g:Nat}{o:Obj}(h:Own w0 m w mk (.gT g o::L)):w.heap[g]?=some o:=h.ok _ (yF ..)
theorem Own.jU{g:Nat}{o o':Obj}(h:Own w0 m w mk (.gT g o::L))(ho:w'.heap[g]?=some o')(hg:w.grownBy w' (some g)):Own w0 m w' mk (.gT g o'::L):=by
 have hf:=h.iA _ (yF ..) g rfl;have hap:=yS.1 h.apart;refine⟨h.m0,h.az.grown hg h.az.size (fun k hk=>by cases hk;exact hf.1),h.ext,Mem_inn_grown h.ay hg (fun k hk=>by cases hk;exact hf.2),?_,?_,.cons ?_ hap.2⟩
 .exact qg6
 .exact qgB
 .exact qcz
theorem Own.fifth{a b c d e:bA}(h:Own w0 m w mk (a::b::c::d::e::L)):Own w0 m w mk (e::a::b::c::d::L):=
 h.perm (((List.perm_append_comm (l₁:=[e]) (l₂:=[a,b,c,d])).append_right L))
theorem Own.CE{v:zV}{t:TypeId}{size n:Nat}{xs:List Value}(h:Own w0 m w mk L)(hi:bA.row v t size n xs∈L):w.ownsRow 0 t size v n xs:=h.ok _ hi
theorem Own.jP{g:Nat}{t:TypeId}{arr:Array Value}(h:Own w0 m w mk L)(hi:bA.obj g t arr∈L):aZ w g t arr:=h.ok _ hi
theorem Own.GZ{g:Nat}{o:Obj}(h:Own w0 m w mk L)(hi:bA.gT g o∈L):w.heap[g]?=some o:=h.ok _ hi
end
def bM(l:List dm):List Value:=l.flatMap fun p=>[.int .i64 p.1,.int .i64 p.2]
def qj(p:dm):Prop := -9223372036854775808<=p.1/\p.1<=9223372036854775807 /\ -9223372036854775808<=p.2/\p.2<=9223372036854775807
theorem fe(l:List dm)(p:dm):bM (l++[p])=bM l++[.int .i64 p.1,.int .i64 p.2]:=by simp[bM]
theorem dP(l:List dm):(bM l).length=l.length*2:=by
 induction l with
 |nil=>rfl
 |cons p l ih=>simp only[bM,xO,zL]at*;simp[ih];omega
theorem nA:∀(l:List dm) (i:Nat) (h:i<l.length),(bM l)[i*2]?=some (.int .i64 l[i].1)/\(bM l)[i*2+1]?=some (.int .i64 l[i].2)
 |[],i,h=>by simp at h
 |p::l,0,_=>by simp[bM]
 |p::l,i+1,h=>by
  have:=nA l i qd9;simp only[bM,xO]at*
  rw[show(i+1)*2=i*2+2 by omega,show i*2+2+1=(i*2+1)+2 by omega];exact qbi
theorem j3{w:zW}{t:TypeId}{v:zV}{l:List dm}{m:Mem}(a:w.ownsRow 0 t 2 v l.length (bM l))(hk:∀p∈l,qj p):dK (m.iH w v) v l:=
 fK a fun g b i h=>by
  obtain⟨d,c⟩:=nA l i h;exact⟨dZ a b m d,dZ a b m c,hk _ (zF h)⟩
theorem bQ(m:Mem):dK m (.slice none 0 0) []:=⟨none,0,rfl,zI _,by simp[maxLen],fun h=>absurd rfl h⟩
theorem Ce{m:Mem}{v:zV}{l:List dm}(h:dK m v l):∀p∈l,qj p:=by
 obtain⟨a,c,rfl,k,j,g⟩:=h;intro p d;obtain⟨i,hi,rfl⟩:=yX d;obtain⟨b,off,-,f⟩:=g (fun e=>by rw[e]at hi;simp at hi);exact(f i hi).2.2
theorem eG{m:Mem}{v:zV}{l:List dm}(h:dK m v l):∃a c,v=.slice a l.length c:=by
 obtain⟨a,c,rfl,-⟩:=h;exact⟨a,c,rfl⟩
theorem IK{m:Mem}{w:zW}(n:m.ay w){o:Option Addr}{c:Nat}{l:List dm}(h:dK m (.slice o l.length c) l)(f:l≠[]):
 ∃b off,o=some ⟨b,off,none⟩/\∀j u,(bM l)[j]?=some u->w.cell? ((⟨b,off,none⟩:Addr).add j)=some u:=by
 obtain⟨a,z,e,y,x,s⟩:=h;injection e with e1 e2 e3;subst e1;obtain⟨b,off,rfl,r⟩:=s f;refine⟨b,off,rfl,fun j u d=>?_⟩;rw[Addr.add_lit];have g:j<(bM l).length:=(yB.1 d).1;rw[dP]at g;obtain⟨i,k⟩:∃i,j=i*2\/j=i*2+1:=⟨j/2,zo⟩;have hi:i<l.length:=zo;obtain⟨v,t,-⟩:=r i hi;obtain⟨q,p⟩:=nA l i hi;rcases k with rfl|rfl
 .rw[q]at d;cases d;exact Mem_cell_w n v
 .rw[p]at d;cases d;exact Mem_cell_w n t
structure dH (m:Mem) (vi vf:zV) (I F:List dm):Prop where
 i:dK m vi I
 f:dK m vf F
theorem dH.le{m m':Mem}(h:m.le m'){a b:zV}{I F:List dm}(k:dH m a b I F):dH m' a b I F:=⟨bZ h k.i,bZ h k.f⟩
theorem dH.nil(m:Mem):dH m (.slice none 0 0) (.slice none 0 0) [] []:=⟨bQ m,bQ m⟩
structure FD (m:Mem) (b o:Nat) (k n:Int) (s:ByteArray) (vi vm:zV):Prop where
 k:m.cell b o=some (.int .i64 k)
 n:m.cell b (o+1)=some (.int .i64 n)
 s:m.cell b (o+2)=some (.string s)
 i:m.cell b (o+3)=some vi
 m:m.cell b (o+4)=some vm
theorem FD.le{m m':Mem}(h:m.le m'){b o:Nat}{k n:Int}{s:ByteArray}{c a:zV}(x:FD m b o k n s c a):FD m' b o k n s c a:=
 ⟨Mem_cell_le h x.k,Mem_cell_le h x.n,Mem_cell_le h x.s,Mem_cell_le h x.i,Mem_cell_le h x.m⟩
inductive qA (m:Mem):Value->Value->Dt->Prop
 |mk (k n:Int) (s:ByteArray) (items:List Dt) (labels:List ByteArray) (dS:List Dt) (ai:Option Addr) (ci:Nat) (am:Option Addr) (cm:Nat)
  (hk : -9223372036854775808<=k/\k<=9223372036854775807) (hn : -9223372036854775808<=n/\n<=9223372036854775807) (hs:s.size<=maxLen) (hl:labels.length=dS.length)
  (i1:items.length<=ci) (i2:ci<=maxLen) (m1:dS.length<=cm) (m2:cm<=maxLen)
  (bi oi:Nat) (i3:items≠[]->ai=some ⟨bi,oi,none⟩) (fi gi:Nat->Value) (i4:∀i (h:i<items.length),FD m bi (oi+i*5) (items[i]).kind (items[i]).num (items[i]).str (fi i) (gi i)) (i5:∀i (h:i<items.length),qA m (fi i) (gi i) items[i])
  (bm om:Nat) (m3:dS≠[]->am=some ⟨bm,om,none⟩) (fm gm:Nat->Value) (m4:∀i (h:i<dS.length),FD m bm (om+i*6+1) (dS[i]).kind (dS[i]).num (dS[i]).str (fm i) (gm i)) (m5:∀i (h:i<dS.length),qA m (fm i) (gm i) dS[i])
  (m6:∀i (h:i<labels.length),m.cell bm (om+i*6)=some (.string labels[i])/\(labels[i]).size<=maxLen) :
  qA m (.slice ai items.length ci) (.slice am dS.length cm) (.mk k n s items labels dS)
theorem qA.le{m m':Mem}(h:m.le m'){c b:zV}{d:Dt}(k:qA m c b d):qA m' c b d:=by
 induction k with
 |mk k n s items labels dS ai ci am cm hk hn hs hl i1 i2 m1 m2 bi oi i3 fi gi i4 i5 bm om m3 fm gm m4 m5 m6 ih1 ih2=>
  exact .mk k n s items labels dS ai ci am cm hk hn hs hl i1 i2 m1 m2 bi oi i3 fi gi (fun i a=>(i4 i a).le h) ih1 bm om m3 fm gm (fun i a=>(m4 i a).le h) ih2 (fun i a=>⟨Mem_cell_le h (m6 i a).1,(m6 i a).2⟩)
def DAt(m:Mem)(b o:Nat)(d:Dt):Prop:=∃c a,FD m b o d.kind d.num d.str c a/\qA m c a d
def VR(m:Mem)(v:zV)(l:List Dt):Prop:=Mem.slice (DAt m) 5 v l
theorem DAt.le{m m':Mem}(h:m.le m'){b o:Nat}{d:Dt}(k:DAt m b o d):DAt m' b o d:=by
 obtain⟨c,a,f,e⟩:=k;exact⟨c,a,f.le h,e.le h⟩
theorem VR.le{m m':Mem}(h:m.le m'){v:zV}{l:List Dt}(k:VR m v l):VR m' v l:=Mem_slice_mono k fun _ _ _=>DAt.le h
structure gz1 (d:Dt):Prop where
 k : -9223372036854775808<=d.kind/\d.kind<=9223372036854775807
 n : -9223372036854775808<=d.num/\d.num<=9223372036854775807
 s:d.str.size<=maxLen
theorem qA.items{m:Mem}{b c:zV}{d:Dt}(h:qA m b c d):VR m b d.items:=by
 cases h with
 |mk k n s items labels dS ai ci am cm hk hn hs hl i1 i2 m1 m2 bi oi i3 fi gi i4 i5 bm om m3 fm gm m4 m5 m6=>
  exact⟨ai,ci,rfl,i1,i2,fun a=>⟨bi,oi,i3 a,fun i h=>⟨_,_,i4 i h,i5 i h⟩⟩⟩
theorem qA.ok{m:Mem}{b a:zV}{d:Dt}(h:qA m b a d):gz1 d:=by
 cases h with
 |mk k n s items labels dS ai ci am cm hk hn hs hl i1 i2 m1 m2 bi oi i3 fi gi i4 i5 bm om m3 fm gm m4 m5 m6=>exact⟨hk,hn,hs⟩
theorem qA.leaf(m:Mem)(k n:Int)(s:ByteArray)(hk : -9223372036854775808<=k/\k<=9223372036854775807)(b : -9223372036854775808<=n/\n<=9223372036854775807)(a:s.size<=maxLen):
 qA m (.slice none 0 0) (.slice none 0 0) (.mk k n s [] [] []):=
 .mk k n s [] [] [] none 0 none 0 hk b a rfl (zI _) (by simp[maxLen]) (zI _) (by simp[maxLen]) 0 0 (fun h=>absurd rfl h) (fun _=>.bool true) (fun _=>.bool true) (fun i h=>by simp at h) (fun i h=>by simp at h)
  0 0 (fun h=>absurd rfl h) (fun _=>.bool true) (fun _=>.bool true) (fun i h=>by simp at h) (fun i h=>by simp at h) (fun i h=>by simp at h)
def Dt.val(d:Dt)(b a:zV):Value:=.agg #[.int .i64 d.kind,.int .i64 d.num,.string d.str,b,a]
def RS.val(s:RS)(b c a:zV):Value:=.agg #[.bool s.dI,.bool s.dM,.bool s.dO,b,c,a]
structure dD (m:Mem) (vi vf vt:zV) (s:RS):Prop where
 i:dK m vi s.i
 f:dK m vf s.f
 t:aU m vt s.t
theorem dD.le{m m':Mem}(h:m.le m'){b c a:zV}{s:RS}(k:dD m b c a s):dD m' b c a s:=⟨bZ h k.i,bZ h k.f,aX h k.t⟩
structure Sl where
 i:Value
 f:Value
 t:Value
 l:Value
 s:Value
structure tO (m:Mem) (b o:Nat) (x:Sl) (v:Vl):Prop where
 a:m.cell b o=some (.bool v.any)
 n:m.cell b (o+1)=some (.bool v.s.dI)
 f:m.cell b (o+2)=some (.bool v.s.dM)
 t:m.cell b (o+3)=some (.bool v.s.dO)
 si:m.cell b (o+4)=some x.i
 sf:m.cell b (o+5)=some x.f
 st:m.cell b (o+6)=some x.t
 l:m.cell b (o+7)=some x.l
 s:m.cell b (o+8)=some x.s
theorem tO.le{m m':Mem}(h:m.le m'){b o:Nat}{x:Sl}{v:Vl}(k:tO m b o x v):tO m' b o x v:=
 ⟨Mem_cell_le h k.a,Mem_cell_le h k.n,Mem_cell_le h k.f,Mem_cell_le h k.t,Mem_cell_le h k.si,Mem_cell_le h k.sf,Mem_cell_le h k.st,Mem_cell_le h k.l,Mem_cell_le h k.s⟩
def Bh(R:Sl->Vl->Prop)(m:Mem)(b o:Nat)(d:Vd):Prop:=∃x y,tO m b o x d.1/\R x d.1/\tO m b (o+9) y d.2/\R y d.2
def bG(R:Sl->Vl->Prop)(m:Mem)(v:zV)(l:List Vd):Prop:=Mem.slice (Bh R m) 18 v l
def Ph(R:Sl->Vl->Prop)(m:Mem)(b o:Nat)(c:Lc):Prop:=∃u a,m.cell b o=some u/\m.cell b (o+1)=some a/\bG R m u c.1/\bG R m a c.2
structure Ky (R:Sl->Vl->Prop) (m:Mem) (b o:Nat) (f:Fd):Prop where
 s:m.cell b o=some (.string f.1.1)
 sz:f.1.1.size<=maxLen
 p:m.cell b (o+1)=some (.int .i64 f.1.2)
 pr : -9223372036854775808<=f.1.2/\f.1.2<=9223372036854775807
 v:Bh R m b (o+2) f.2
structure Li (R:Sl->Vl->Prop) (m:Mem) (b o:Nat) (k:Kl):Prop where
 s:∃u,m.cell b o=some u/\aU m u k.1
 v:Bh R m b (o+1) k.2
def gN(R:Sl->Vl->Prop)(m:Mem)(v:zV)(l:List Fd):Prop:=Mem.slice (Ky R m) 20 v l
def gP(R:Sl->Vl->Prop)(m:Mem)(v:zV)(l:List Kl):Prop:=Mem.slice (Li R m) 19 v l
def O9(R:Sl->Vl->Prop)(m:Mem)(b o:Nat)(c:St):Prop:=∃u a,m.cell b o=some u/\m.cell b (o+1)=some a/\gN R m u c.1/\gP R m a c.2
def Am(R:Sl->Vl->Prop)(m:Mem)(v:zV)(l:List Lc):Prop:=Mem.slice (Ph R m) 2 v l
def Aj(R:Sl->Vl->Prop)(m:Mem)(v:zV)(l:List St):Prop:=Mem.slice (O9 R m) 2 v l
def bq(m:Mem):Nat->Sl->Vl->Prop
 |0,_,_=>False
 |n+1,x,v=>dD m x.i x.f x.t v.s/\Am (bq m n) m x.l v.aN/\Aj (bq m n) m x.s v.aA
section
variable {R R':Sl->Vl->Prop} {m m':Mem}
theorem Bh.le(h:m.le m')(a:∀x v,R x v->R' x v){b o:Nat}{d:Vd}(k:Bh R m b o d):Bh R' m' b o d:=by
 obtain⟨x,y,g,f,e,c⟩:=k;exact⟨x,y,g.le h,a _ _ f,e.le h,a _ _ c⟩
theorem bG.le(h:m.le m')(a:∀x v,R x v->R' x v){v:zV}{l:List Vd}(k:bG R m v l):bG R' m' v l:=Mem_slice_mono k fun _ _ _=>Bh.le h a
theorem Ph.le(h:m.le m')(hr:∀x v,R x v->R' x v){b o:Nat}{c:Lc}(k:Ph R m b o c):Ph R' m' b o c:=by
 exact qb2
theorem Ky.le(h:m.le m')(a:∀x v,R x v->R' x v){b o:Nat}{c:Fd}(k:Ky R m b o c):Ky R' m' b o c:=⟨Mem_cell_le h k.s,k.sz,Mem_cell_le h k.p,k.pr,k.v.le h a⟩
theorem Li.le(h:m.le m')(a:∀x v,R x v->R' x v){b o:Nat}{c:Kl}(k:Li R m b o c):Li R' m' b o c:=by
 obtain⟨u,e,d⟩:=k.s;exact⟨⟨u,Mem_cell_le h e,aX h d⟩,k.v.le h a⟩
theorem gN.le(h:m.le m')(a:∀x v,R x v->R' x v){v:zV}{l:List Fd}(k:gN R m v l):gN R' m' v l:=Mem_slice_mono k fun _ _ _=>Ky.le h a
theorem gP.le(h:m.le m')(a:∀x v,R x v->R' x v){v:zV}{l:List Kl}(k:gP R m v l):gP R' m' v l:=Mem_slice_mono k fun _ _ _=>Li.le h a
theorem O9.le(h:m.le m')(hr:∀x v,R x v->R' x v){b o:Nat}{c:St}(k:O9 R m b o c):O9 R' m' b o c:=by
 exact qb2
theorem Am.le(h:m.le m')(a:∀x v,R x v->R' x v){v:zV}{l:List Lc}(k:Am R m v l):Am R' m' v l:=Mem_slice_mono k fun _ _ _=>Ph.le h a
theorem Aj.le(h:m.le m')(a:∀x v,R x v->R' x v){v:zV}{l:List St}(k:Aj R m v l):Aj R' m' v l:=Mem_slice_mono k fun _ _ _=>O9.le h a
end
theorem bq.le{m m':Mem}(h:m.le m'):∀{n:Nat} {x:Sl} {v:Vl},bq m n x v->bq m' n x v
 |0,_,_,k=>k.elim
 |_+1,_,_,k=>⟨k.1.le h,k.2.1.le h fun _ _=>bq.le h,k.2.2.le h fun _ _=>bq.le h⟩
theorem bq.succ{m:Mem}:∀{n:Nat} {x:Sl} {v:Vl},bq m n x v->bq m (n+1) x v
 |0,_,_,k=>k.elim
 |_+1,_,_,k=>⟨k.1,k.2.1.le (Mem.le_refl m) fun _ _=>bq.succ,k.2.2.le (Mem.le_refl m) fun _ _=>bq.succ⟩
theorem bq.mono{m:Mem}{n a:Nat}{x:Sl}{v:Vl}(k:bq m n x v)(h:n<=a):bq m a x v:=by
 induction h with
 |refl=>exact k
 |step _ ih=>exact ih.succ
theorem ezT{α:Type}{R:Nat->Nat->α->Prop}{size:Nat}{v:zV}{l:List α}(h:Mem.slice R size v l){x:α}(d:x∈l):∃b o,R b o x:=by
 obtain⟨a,c,-,-,-,g⟩:=h;obtain⟨i,hi,rfl⟩:=yX d;obtain⟨b,off,-,f⟩:=g (fun e=>by rw[e]at hi;simp at hi);exact⟨b,_,f i hi⟩
theorem fM{α:Type}(R:Nat->Nat->α->Prop)(size:Nat):Mem.slice R size (.slice none 0 0) []:=⟨none,0,rfl,zI _,by simp[maxLen],fun h=>absurd rfl h⟩
theorem bG.all{R:Sl->Vl->Prop}{m:Mem}{v:zV}{l:List Vd}(h:bG R m v l){d:Vd}(a:d∈l):(∃x,R x d.1)/\∃x,R x d.2:=by
 obtain⟨b,o,x,y,-,e,-,c⟩:=ezT h a;exact⟨⟨x,e⟩,y,c⟩
theorem bq.kids{m:Mem}{n:Nat}{x:Sl}{v:Vl}(h:bq m (n+1) x v){d:Vd}(a:d∈v.kids):(∃x,bq m n x d.1)/\∃x,bq m n x d.2:=by
 rcases yP.1 a with a|a
 .obtain⟨c,g,a⟩:=xW.1 a;obtain⟨b,o,u,k,-,-,j,i⟩:=ezT h.2.1 g;rcases yP.1 a with a|a
  .exact j.all a
  .exact i.all a
 .obtain⟨c,g,a⟩:=xW.1 a;obtain⟨b,o,u,k,-,-,j,i⟩:=ezT h.2.2 g;rcases yP.1 a with a|a
  .obtain⟨f,e,rfl⟩:=yD.1 a;obtain⟨b,o,h3⟩:=ezT j e;exact qdx
  .obtain⟨f,e,rfl⟩:=yD.1 a;obtain⟨b,o,h3⟩:=ezT i e;exact qdx
theorem bq.ht{m:Mem}:∀{n:Nat} {x:Sl} {v:Vl},bq m n x v->Ht n v
 |0,_,_,k=>k.elim
 |n+1,_,_,k=>fun d a=>by
  obtain⟨⟨x,c⟩,y,b⟩:=k.kids a;exact⟨c.ht,b.ht⟩
def bu(v:Vl)(s:Sl):List Value:=[.bool v.any,.bool v.s.dI,.bool v.s.dM,.bool v.s.dO,s.i,s.f,s.t,s.l,s.s]
def dC(d:Vd)(x y:Sl):List Value:=bu d.1 x++bu d.2 y
theorem DX(d:Vd)(x y:Sl):(dC d x y).length=18:=rfl
theorem tO.get{m:Mem}{b o:Nat}{x:Sl}{v:Vl}(h:tO m b o x v){j:Nat}{u:zV}(c:(bu v x)[j]?=some u):m.cell b (o+j)=some u:=by
 match j,c with
 |0,c=>cases c;exact h.a
 |1,c=>cases c;exact h.n
 |2,c=>cases c;exact h.f
 |3,c=>cases c;exact h.t
 |4,c=>cases c;exact h.si
 |5,c=>cases c;exact h.sf
 |6,c=>cases c;exact h.st
 |7,c=>cases c;exact h.l
 |8,c=>cases c;exact h.s
 |j+9,c=>simp[bu]at c
theorem tO.of{m:Mem}{b o:Nat}{x:Sl}{v:Vl}(h:∀j u,(bu v x)[j]?=some u->m.cell b (o+j)=some u):tO m b o x v:=
 ⟨h 0 _ rfl,h 1 _ rfl,h 2 _ rfl,h 3 _ rfl,h 4 _ rfl,h 5 _ rfl,h 6 _ rfl,h 7 _ rfl,h 8 _ rfl⟩
structure kW (R:Sl->Vl->Prop) (xs:List Value) (l:List Vd):Prop where
 len:xs.length=l.length*18
 at':∀i (h:i<l.length),∃x y,(∀j u,(dC l[i] x y)[j]?=some u->xs[i*18+j]?=some u)/\R x l[i].1/\R y l[i].2
theorem kW.nil(R:Sl->Vl->Prop):kW R [] []:=⟨rfl,fun i h=>by simp at h⟩
theorem kW.mono{R R':Sl->Vl->Prop}{xs:List Value}{l:List Vd}(h:kW R xs l)(a:∀x v,R x v->R' x v):kW R' xs l:=
 ⟨h.len,fun i hi=>let ⟨x,y,h1,h2,h3⟩:=h.at' i hi;⟨x,y,h1,a _ _ h2,a _ _ h3⟩⟩
theorem kW.append{R:Sl->Vl->Prop}{xs f:List Value}{l k:List Vd}(h:kW R xs l)(g:kW R f k):kW R (xs++f) (l++k):=by
 refine⟨by simp[h.len,g.len];omega,fun i hi=>?_⟩;by_cases c:i<l.length
 .obtain⟨x,y,e,d⟩:=h.at' i c;rw[xM c];exact⟨x,y,fun j u b=>by
   have a:=e j u b;rw[yK (yB.1 a).1];exact a,d⟩
 .obtain⟨x,y,e,d⟩:=g.at' (i-l.length) (by simp at hi;omega);rw[List.getElem_append_right zo];exact⟨x,y,fun j u b=>by
   have a:=e j u b;rw[yN (by rw[h.len];omega),h.len];rw[show i*18+j-l.length*18=(i-l.length)*18+j by omega];exact a,d⟩
theorem kW.one{R:Sl->Vl->Prop}{d:Vd}{x y:Sl}(b:R x d.1)(a:R y d.2):kW R (dC d x y) [d]:=
 ⟨by simp[DX],fun i hi=>by
  obtain rfl:i=0:=by simpa using hi
  exact⟨x,y,fun j u c=>by simpa using c,b,a⟩⟩
theorem kW.push{R:Sl->Vl->Prop}{xs:List Value}{l:List Vd}(h:kW R xs l){d:Vd}{x y:Sl}(b:R x d.1)(a:R y d.2):kW R (xs++dC d x y) (l++[d]):=h.append (.one b a)
theorem Bh.cells{R:Sl->Vl->Prop}{m:Mem}{b o:Nat}{d:Vd}(h:Bh R m b o d):∃x y,(∀j u,(dC d x y)[j]?=some u->m.cell b (o+j)=some u)/\R x d.1/\R y d.2:=by
 obtain⟨x,y,i,g,f,e⟩:=h;refine⟨x,y,fun j u a=>?_,g,e⟩;by_cases c:j<9
 .rw[dC,yK (by simpa [bu]using c)]at a;exact i.get a
 .rw[dC,yN (by simp[bu];omega),show(bu d.1 x).length=9 from rfl]at a;have:=f.get a
  rwa [show o+9+(j-9)=o+j by omega]at this
theorem Bh.of{R:Sl->Vl->Prop}{m:Mem}{b o:Nat}{d:Vd}{x y:Sl}(h:∀j u,(dC d x y)[j]?=some u->m.cell b (o+j)=some u)(e:R x d.1)(c:R y d.2):Bh R m b o d:=by
 refine⟨x,y,.of fun j u a=>h j u ?_,e,.of fun j u a=>?_,c⟩
 .rw[dC,yK (yB.1 a).1];exact a
 .have:=h (9+j) u (by rw[dC,yN (by simp[bu]),show(bu d.1 x).length=9 from rfl,show 9+j-9=j by omega];exact a)
  rwa [<-Nat.add_assoc]at this
theorem V4{R:Sl->Vl->Prop}{m:Mem}{b:Nat}:∀(l:List Vd) (off:Nat),(∀i (h:i<l.length),Bh R m b (off+i*18) l[i])->∃xs,kW R xs l/\∀j u,xs[j]?=some u->m.cell b (off+j)=some u
 |[],off,_=>⟨[],kW.nil R,fun j u a=>by simp at a⟩
 |d::l,off,h=>by
  obtain⟨xs,o,n⟩:=V4 l (off+18) fun i hi=>by
   have:=h (i+1) qef;rw[show off+(i+1)*18=off+18+i*18 by omega]at this;exact qbi
  have e:=h 0 zS;simp only[Nat.zero_mul,Nat.add_zero,xL]at e;obtain⟨x,y,k,g,f⟩:=e.cells;refine⟨dC d x y++xs,(kW.one g f).append o,fun j u a=>?_⟩;by_cases c:j<18
  .rw[yK (by rw[DX];exact c)]at a;exact k j u a
  .rw[yN (by rw[DX];omega),DX]at a;have:=n (j-18) u a
   rwa [show off+18+(j-18)=off+j by omega]at this
theorem bG.row{R:Sl->Vl->Prop}{m:Mem}{f:Option Addr}{c:Nat}{l:List Vd}(h:bG R m (.slice f l.length c) l)(d:l≠[]):
 ∃b off xs,f=some ⟨b,off,none⟩/\kW R xs l/\∀j u,xs[j]?=some u->m.cell b (off+j)=some u:=by
 obtain⟨a,q,e,p,o,n⟩:=h;injection e with e1 e2 e3;subst e1;obtain⟨b,off,rfl,k⟩:=n d;obtain⟨xs,i,g⟩:=V4 l off k;exact⟨b,off,xs,rfl,i,g⟩
theorem KJ{R:Sl->Vl->Prop}{w:zW}{t:TypeId}{v:zV}{l:List Vd}{xs:List Value}{m:Mem}(a:w.ownsRow 0 t 18 v l.length xs)(b:kW R xs l):bG R (m.iH w v) v l:=
 fK a fun g d i h=>by
  obtain⟨x,y,k,f,e⟩:=b.at' i h;exact .of (fun j u c=>dZ a d m (k j u c)) f e
def Vl.val(v:Vl)(x:Sl):Value:=.agg (bu v x).toArray
def bP(d:Vd)(x y:Sl):Value:=.agg (dC d x y).toArray
def qI(f:Fd)(x y:Sl):List Value:=.string f.1.1::.int .i64 f.1.2::dC f.2 x y
def ow(k:Kl)(u:zV)(x y:Sl):List Value:=u::dC k.2 x y
theorem Ky.cells{R:Sl->Vl->Prop}{m:Mem}{b o:Nat}{f:Fd}(h:Ky R m b o f):∃x y,(∀j u,(qI f x y)[j]?=some u->m.cell b (o+j)=some u)/\R x f.2.1/\R y f.2.2:=by
 obtain⟨x,y,d,c⟩:=h.v.cells;refine⟨x,y,fun j u a=>?_,c⟩
 match j,a with
 |0,a=>cases a;exact h.s
 |1,a=>cases a;exact h.p
 |j+2,a=>
  have:=d j u a
  rwa [show o+2+j=o+(j+2)by omega]at this
theorem Li.cells{R:Sl->Vl->Prop}{m:Mem}{b o:Nat}{k:Kl}(h:Li R m b o k):∃c x y,aU m c k.1/\(∀j u,(ow k c x y)[j]?=some u->m.cell b (o+j)=some u)/\R x k.2.1/\R y k.2.2:=by
 obtain⟨c,e,d⟩:=h.s;obtain⟨x,y,g,f⟩:=h.v.cells;refine⟨c,x,y,d,fun j u a=>?_,f⟩
 match j,a with
 |0,a=>cases a;exact e
 |j+1,a=>
  have:=g j u a
  rwa [show o+1+j=o+(j+1)by omega]at this
theorem qH{f:Fd}{x y:Sl}{j:Nat}{u:zV}(h:(dC f.2 x y)[j]?=some u):(qI f x y)[2+j]?=some u:=by rw[Nat.add_comm];exact h
theorem kZ{k:Kl}{c:zV}{x y:Sl}{j:Nat}{u:zV}(h:(dC k.2 x y)[j]?=some u):(ow k c x y)[1+j]?=some u:=by rw[Nat.add_comm];exact h
theorem lh{d:Vd}{x y:Sl}{j:Nat}{u:zV}(h:(bu d.1 x)[j]?=some u):(dC d x y)[0+j]?=some u:=by
 rw[yZ,dC,yK (yB.1 h).1];exact h
theorem pI{d:Vd}{x y:Sl}{j:Nat}{u:zV}(h:(bu d.2 y)[j]?=some u):(dC d x y)[9+j]?=some u:=by
 rw[dC,yN (by simp[bu]),show(bu d.1 x).length=9 from rfl,show 9+j-9=j by omega];exact h
def dR:Sl:=⟨.slice none 0 0,.slice none 0 0,.slice none 0 0,.slice none 0 0,.slice none 0 0⟩
theorem bq.leaf(m:Mem)(a:Bool):bq m 1 dR (.mk a cK [] []):=⟨⟨fM _ _,fM _ _,fM _ _⟩,fM _ _,fM _ _⟩
end Cl
namespace Cl
open Go Go.RowKit Go.Proofs Go.WideShapes Go.ChangeShapes Go.Deep Go.Joins
section
variable {H:Type} {enc:TypeId×Value->H} {w:zW} {spare:Nat->Bool} {held:Bool} {B:DataW H->Nat}
instance:Inhabited Vl:=⟨dB⟩
end
end Cl
namespace Cl
open Go
section
variable {P:Program} {ops:Array Oper} {Q:Exit->Act->World->Prop} {S:World->Prop} {last:Nat}
def oH(P:Program)(ops:Array Oper)(Q:Exit->Act->World->Prop)(S:World->Prop)(last:Nat):Nat->Array Bool->Act->World->Prop
 |0,listed,a,w=>Region.ready .any ops listed=[]/\Q .normal a w
 |fuel+1,listed,a,w=>
  (Region.ready .any ops listed=[]->Q .normal a w) /\
  ∀i∈Region.ready .any ops listed,wpOp P ops Q i (fun b w'=>(i≠last->S w')/\oH P ops Q S last fuel (listed.setIfInBounds i true) b w') a w
theorem G9:∀(fuel:Nat) (b:Array Bool) (a:Act) (w:zW),oH P ops Q S last fuel b a w->wpAny P .any ops Q fuel b a w
 |0,_,_,_,h=>h
 |fuel+1,_,_,_,h=>⟨h.1,fun i hi=>wpOp_mono (fun d w' c=>G9 fuel _ d w' c.2) (h.2 i hi)⟩
def waits(ops:Array Oper)(last i:Nat):Bool:=((ops[last]?).map fun o=>o.after.any fun e=>Region.binds .any e&&e.on==i).getD false
theorem xz{a:Array Bool}{i:Nat}(f:waits ops last i=true)(g:i∈Region.ready .any ops a):last ∉ Region.ready .any ops a:=by
 intro h;obtain⟨-,l,d,b⟩:=mem_ready.1 h;simp only[waits,d,vH,xA,Array.any_eq_true',xG,beq_iff_eq]at f;obtain⟨e,j,k,c⟩:=f;have h1:=b e j k;have h0:=(mem_ready.1 g).1;rw[c]at h1;rcases Nat.lt_or_ge i a.size with h'|h'
 .exact qb5
 .exact qcc
theorem Nu{i:Nat}{p:Oper}{v:zV}(hi:ops[i]?=some p)(l:∀(j:Nat) (o:Oper) cs b,ops[j]?=some o->o.op≠.select cs b)
(F:∀c a w,Q (.panic c) (a.put p.dst v) w->Q (.panic c) a w)(r:waits ops last i=true):
 ∀(fuel:Nat) (d:Array Bool) (a:Act) (w:zW),
  (∀j n,ops[j]?=some n->j≠i->d.getD j true=false->(∀e∈n.after,Region.binds .any e=true->e.on≠i)->p.apart ops n=true) ->
  i∈Region.ready .any ops d->YieldsIf P ops S p v a->S w ->
  oH P ops Q S last fuel (d.setIfInBounds i true) (a.put p.dst v) w->oH P ops Q S last (fuel+1) d a w:=by
 intro fuel
 induction fuel with
 |zero=>
  intro d a w _ hr z y H;refine⟨fun h=>qej,fun j u=>?_⟩;by_cases hji:j=i
  .subst hji;exact z.wpOp hi y ⟨fun _=>y,H⟩
  .have:=ready_mono u hji;rw[H.1]at this
   cases this
 |succ fuel ih=>
  intro d a w f hr z y H;refine⟨fun h=>qej,fun j u=>?_⟩;by_cases hji:j=i
  .subst hji;exact z.wpOp hi y ⟨fun _=>y,H⟩
  .have h1:=H.2 j (ready_mono u hji);have t:j≠last:=fun e=>xz r hr (e ▸ u);obtain⟨m,n,q,x⟩:=mem_ready.1 u;have s:∀e∈n.after,Region.binds .any e=true->e.on≠i:=fun e D E C=>by
    have h1:=x e D E;have h0:=(mem_ready.1 hr).1;rw[C]at h1;rcases Nat.lt_or_ge i d.size with h'|h'
    .exact qb5
    .exact qcc
   have G:=wpOp_putIf q (f j n q hji m s) (fun cs b=>l i p cs b hi) (fun cs b=>l j n cs b q) F z h1;have g:∀k ok,ops[k]?=some ok->k≠i->(d.setIfInBounds j true).getD k true=false ->
    (∀e∈ok.after,Region.binds .any e=true->e.on≠i)->p.apart ops ok=true:=fun k ok hk B hun A=>by
    refine f k ok hk B ?_ A;by_cases hjk:j=k
    .subst hjk;exact m
    .exact qcI
   refine wpOp_mono (fun I w' h3=>⟨fun _=>h3.2.1 t,ih (d.setIfInBounds j true) I w' g (ready_mono hr (Ne.symm hji)) h3.1 (h3.2.1 t) ?_⟩) G;exact qci
theorem aD(i:Nat){d:Oper}{v:zV}{fuel:Nat}{b:Array Bool}{a:Act}{w:zW}(hi:ops[i]?=some d)
(e:(Region.noSelect ops&&Region.free .any ops b i&&(Region.ready .any ops b).contains i&&waits ops last i)=true)
(j:∀c a w,Q (.panic c) (a.put d.dst v) w->Q (.panic c) a w)(g:S w)(f:YieldsIf P ops S d v a)
(h:oH P ops Q S last fuel (b.setIfInBounds i true) (a.put d.dst v) w):oH P ops Q S last (fuel+1) b a w:=by
 simp only[xG]at e;obtain⟨⟨⟨m,l⟩,h3⟩,k⟩:=e;exact Nu hi (Region.noSelect_spec m) j k fuel b a w (Region.free_spec hi l) qeF f g h
theorem aQ(i:Nat){fuel:Nat}{b:Array Bool}{a:Act}{w:zW}(c:(Region.ready .any ops b==[i])=true)
(h:wpOp P ops Q i (fun d w'=>(i≠last->S w')/\oH P ops Q S last fuel (b.setIfInBounds i true) d w') a w):oH P ops Q S last (fuel+1) b a w:=by
 have hr':Region.ready .any ops b=[i]:=by simpa using c
 exact qa0
theorem eP{b:Array Bool}{a:Act}{w:zW}(d:(Region.ready .any ops b==[])=true)(h:Q .normal a w):∀fuel,oH P ops Q S last fuel b a w:=by
 have c:Region.ready .any ops b=[]:=by simpa using d
 intro fuel
 cases fuel with
 |zero=>exact⟨c,h⟩
 |succ n=>exact⟨fun _=>h,by rw[c];simp⟩
theorem gL{id:Nat}{a:Act}{w:zW}(S:World->Prop)(last:Nat)(b:P.follows .mixedOrders=true)
(h:oH P ops Q S last ops.size (Array.replicate ops.size false) a w.drew):(Code.region id ops true).wp P Q a w:=
 wp_region_any b (G9 _ _ _ _ h)
theorem iq{i last:Nat}{A B:Prop}(h:A)(k:A->B):(i≠last->A)/\B:=⟨fun _=>h,k h⟩
theorem jJ{i last:Nat}{A B:Prop}(e:i=last)(k:B):(i≠last->A)/\B:=⟨fun h=>absurd e h,k⟩
theorem aJ{i:Nat}{o:Oper}{K:Act->World->Prop}{a:Act}{w:zW}(hi:ops[i]?=some o)(b:o.guard=none)(h:o.wp P a w K Q):wpOp P ops Q i K a w:=by
 unfold wpOp;rw[hi];simp only[Region.wanted,b,if_true];exact .inl h
theorem ax{o:Oper}{v:zV}{a:Act}(b:Region.wanted o (yielded ops a.tmps)=true)(h:∀w,S w->(execOp a.eval o).run P w=.ok (.value v) w):YieldsIf P ops S o v a:=.inl ⟨b,h⟩
theorem aO{o:Oper}{K:Act->World->Prop}{a:Act}{w w':zW}{v:zV}(b:(execOp a.eval o).run P w=.ok (.value v) w')(h:K (a.put o.dst v) w'):o.wp P a w K Q:=by
 unfold Oper.wp;rw[b];exact h
theorem dE{o:Oper}{K:Act->World->Prop}{a:Act}{w w':zW}{f:FuncId}{args:Array Value}(d:(execOp a.eval o).run P w=.ok (.enter f args) w'){X:Ending->World->Prop}
(g:Calls P f args w' X)(h:∀e b,X e b->∃v,e=.returned v/\K (a.put o.dst v) b):o.wp P a w K Q:=by
 unfold Oper.wp;rw[d];refine g.mono fun e b c=>?_;obtain⟨v,rfl,hk⟩:=h e b c;exact hk
theorem bT{o:Oper}{K:Act->World->Prop}{a:Act}{w w':zW}(b:(execOp a.eval o).run P w=.ok .skip w')(h:K (a.put o.dst undef) w'):o.wp P a w K Q:=by
 unfold Oper.wp;rw[b];exact h
end
section
variable {P:Program} {ops:Array Oper} {Q:Exit->Act->World->Prop} {D:Nat->World->Prop}
def mH(P:Program)(ops:Array Oper)(Q:Exit->Act->World->Prop)(D:Nat->World->Prop):Nat->Array Bool->Act->World->Prop
 |0,listed,a,w=>Region.ready .any ops listed=[]/\Q .normal a w
 |fuel+1,listed,a,w=>
  (Region.ready .any ops listed=[]->Q .normal a w) /\
  ∀i∈Region.ready .any ops listed,wpOp P ops Q i (fun b w'=>(w'=w\/D i w')/\mH P ops Q D fuel (listed.setIfInBounds i true) b w') a w
theorem Ha:∀(fuel:Nat) (b:Array Bool) (a:Act) (w:zW),mH P ops Q D fuel b a w->wpAny P .any ops Q fuel b a w
 |0,_,_,_,h=>h
 |fuel+1,_,_,_,h=>⟨h.1,fun i hi=>wpOp_mono (fun d w' c=>Ha fuel _ d w' c.2) (h.2 i hi)⟩
theorem Qm{a:Array Bool}{i j:Nat}(b:i∈Region.ready .any ops a)(c:j∈Region.ready .any ops a):waits ops j i=false:=by
 cases h:waits ops j i with
 |false=>rfl
 |true=>exact absurd c (xz h b)
theorem Nv{i:Nat}{p:Oper}{v:zV}(hi:ops[i]?=some p)(l:∀(j:Nat) (o:Oper) cs b,ops[j]?=some o->o.op≠.select cs b)
(E:∀c a w,Q (.panic c) (a.put p.dst v) w->Q (.panic c) a w){S:World->Prop}(r:∀j w',waits ops j i=false->D j w'->S w'):
 ∀(fuel:Nat) (d:Array Bool) (a:Act) (w:zW),
  (∀j n,ops[j]?=some n->j≠i->d.getD j true=false->(∀e∈n.after,Region.binds .any e=true->e.on≠i)->p.apart ops n=true) ->
  i∈Region.ready .any ops d->YieldsIf P ops S p v a->S w ->
  mH P ops Q D fuel (d.setIfInBounds i true) (a.put p.dst v) w->mH P ops Q D (fuel+1) d a w:=by
 intro fuel
 induction fuel with
 |zero=>
  intro d a w _ hr hy hS H;refine⟨fun h=>qej,fun j t=>?_⟩;by_cases hji:j=i
  .exact qbK
  .have:=ready_mono t hji;rw[H.1]at this
   cases this
 |succ fuel ih=>
  intro d a w f hr hy hS H;refine⟨fun h=>qej,fun j t=>?_⟩;by_cases hji:j=i
  .exact qbK
  .have h1:=H.2 j (ready_mono t hji);have z:=fun w'=>r j w' (Qm hr t);obtain⟨m,n,q,u⟩:=mem_ready.1 t;have s:∀e∈n.after,Region.binds .any e=true->e.on≠i:=fun e B C A=>by
    have h1:=u e B C;have h0:=(mem_ready.1 hr).1;rw[A]at h1;rcases Nat.lt_or_ge i d.size with h'|h'
    .exact qb5
    .exact qcc
   have F:=wpOp_putIf q (f j n q hji m s) (fun cs b=>l i p cs b hi) (fun cs b=>l j n cs b q) E hy h1;have g:∀k ok,ops[k]?=some ok->k≠i->(d.setIfInBounds j true).getD k true=false ->
    (∀e∈ok.after,Region.binds .any e=true->e.on≠i)->p.apart ops ok=true:=fun k ok hk y hun x=>by
    refine f k ok hk y ?_ x;by_cases hjk:j=k
    .subst hjk;exact m
    .exact qcI
   refine wpOp_mono (fun G w' h3=>⟨h3.2.1,ih (d.setIfInBounds j true) G w' g (ready_mono hr (Ne.symm hji)) h3.1 (h3.2.1.elim (fun e=>by rw[e];exact hS) (z w')) ?_⟩) F;exact qci
theorem tZ{j i:Nat}(h:waits ops j i=true)(k:waits ops j i=false):False:=by rw[h]at k;cases k
theorem pJ(i:Nat)(S:World->Prop){e:Oper}{v:zV}{fuel:Nat}{b:Array Bool}{a:Act}{w:zW}(hi:ops[i]?=some e)
(f:(Region.noSelect ops&&Region.free .any ops b i&&(Region.ready .any ops b).contains i)=true)
(l:∀c a w,Q (.panic c) (a.put e.dst v) w->Q (.panic c) a w)(d:∀j w',waits ops j i=false->D j w'->S w')(k:S w)(g:YieldsIf P ops S e v a)
(h:mH P ops Q D fuel (b.setIfInBounds i true) (a.put e.dst v) w):mH P ops Q D (fuel+1) b a w:=by
 simp only[xG]at f;obtain⟨⟨n,m⟩,h3⟩:=f;exact Nv hi (Region.noSelect_spec n) l d fuel b a w (Region.free_spec hi m) qeF g k h
theorem bg(i:Nat){fuel:Nat}{b:Array Bool}{a:Act}{w:zW}(c:(Region.ready .any ops b==[i])=true)
(h:wpOp P ops Q i (fun d w'=>(w'=w\/D i w')/\mH P ops Q D fuel (b.setIfInBounds i true) d w') a w):mH P ops Q D (fuel+1) b a w:=by
 have hr':Region.ready .any ops b=[i]:=by simpa using c
 exact qa0
theorem gM{b:Array Bool}{a:Act}{w:zW}(d:(Region.ready .any ops b==[])=true)(h:Q .normal a w):∀fuel,mH P ops Q D fuel b a w:=by
 have c:Region.ready .any ops b=[]:=by simpa using d
 intro fuel
 cases fuel with
 |zero=>exact⟨c,h⟩
 |succ n=>exact⟨fun _=>h,by rw[c];simp⟩
theorem kz{id:Nat}{a:Act}{w:zW}(D:Nat->World->Prop)(b:P.follows .mixedOrders=true)
(h:mH P ops Q D ops.size (Array.replicate ops.size false) a w.drew):(Code.region id ops true).wp P Q a w:=
 wp_region_any b (Ha _ _ _ _ h)
theorem bW(i:Nat){S:World->Prop}{d:Oper}{v:zV}{fuel:Nat}{b:Array Bool}{a:Act}{w:zW}(hi:ops[i]?=some d)
(f:(Region.noSelect ops&&Region.free .any ops b i&&(Region.ready .any ops b).contains i)=true)
(j:∀c a w,Q (.panic c) (a.put d.dst v) w->Q (.panic c) a w)(g:S w)(e:YieldsIf P ops S d v a)
(h:mH P ops Q (fun _ w=>S w) fuel (b.setIfInBounds i true) (a.put d.dst v) w):mH P ops Q (fun _ w=>S w) (fuel+1) b a w:=
 pJ i S hi f j qfd g e h
end
section
variable {P:Program} {ops:Array Oper} {Q:Exit->Act->World->Prop} {D:Nat->World->Prop}
def jK(ops:Array Oper):Nat->Nat->Nat->Bool
 |0,_,_=>false
 |n+1,j,i=>((ops[j]?).map fun o=>o.after.any fun e=>Region.binds .any e&&(e.on==i||jK ops n e.on i)).getD false
def WX(ops:Array Oper)(a:Array Bool):Bool:=
 (List.range ops.size).all fun k => !(a.getD k true)||((ops[k]?).map fun o=>o.after.all fun e => !(Region.binds .any e)||a.getD e.on true).getD true
theorem OZ{a:Array Bool}(h:WX ops a=true){k:Nat}{ok:Oper}(hk:ops[k]?=some ok)(f:a.getD k true=true):∀e∈ok.after,Region.binds .any e=true->a.getD e.on true=true:=by
 intro e g i;have b:=(yC.1 hk).1;have c:=vD.1 h k (yQ.2 b);rw[f,hk]at c;simp only[Bool.not_true,Bool.false_or,vH,xA]at c;have d:=(Array.all_eq_true_iff_forall_mem.1 c) e g;rw[i]at d;simpa using d
theorem Nz{a:Array Bool}(g:∀k ok,ops[k]?=some ok->a.getD k true=true->∀e∈ok.after,Region.binds .any e=true->a.getD e.on true=true){i:Nat}:
 ∀(n j:Nat),a.getD j true=true->jK ops n j i=true->a.getD i true=true:=by
 intro n
 induction n with
 |zero=>intro j _ h;cases h
 |succ n ih=>
  intro j d h;unfold jK at h
  cases ho:ops[j]? with
  |none=>rw[ho]at h;cases h
  |some o=>
   rw[ho]at h;simp only[vH,xA,Array.any_eq_true',xG,Bool.or_eq_true,beq_iff_eq]at h;obtain⟨e,f,l,b⟩:=h;have c:=g j o ho d e f l;rcases b with b|b
   .rw[<-b];exact c
   .exact ih e.on c b
theorem Ql{a:Array Bool}(s:∀k ok,ops[k]?=some ok->a.getD k true=true->∀e∈ok.after,Region.binds .any e=true->a.getD e.on true=true){i j n:Nat}(p:i∈Region.ready .any ops a)(q:j∈Region.ready .any ops a):jK ops n j i=false:=by
 cases h:jK ops n j i with
 |false=>rfl
 |true=>
  obtain⟨b,-⟩:=mem_ready.1 p;obtain⟨-,u,l,f⟩:=mem_ready.1 q;have d:¬a.getD i true=true:=by
   rcases Nat.lt_or_ge i a.size with c|c
   .simp[c]at b⊢;exact b
   .simp[Array.getElem?_eq_none c]at b
  cases n with
  |zero=>cases h
  |succ n=>
   unfold jK at h;rw[l]at h;simp only[vH,xA,Array.any_eq_true',xG,Bool.or_eq_true,beq_iff_eq]at h;obtain⟨e,r,t,g⟩:=h;have o:=f e r t;have m:a.getD e.on true=true:=by
    rcases Nat.lt_or_ge e.on a.size with c|c
    .simp[c]at o⊢;exact o
    .simp[Array.getElem?_eq_none c]
   rcases g with g|g
   .rw[g]at m;exact absurd m d
   .exact absurd (Nz s n e.on m g) d
theorem KI{n i:Nat}{s:Oper}{v:zV}(hi:ops[i]?=some s)(m:∀(j:Nat) (o:Oper) cs b,ops[j]?=some o->o.op≠.select cs b)
(O:∀c a w,Q (.panic c) (a.put s.dst v) w->Q (.panic c) a w){S:World->Prop}(t:∀j w',jK ops n j i=false->D j w'->S w'):
 ∀(fuel:Nat) (d:Array Bool) (a:Act) (w:zW),
  (∀k ok,ops[k]?=some ok->d.getD k true=true->∀e∈ok.after,Region.binds .any e=true->d.getD e.on true=true) ->
  (∀j r,ops[j]?=some r->j≠i->d.getD j true=false->(∀e∈r.after,Region.binds .any e=true->e.on≠i)->s.apart ops r=true) ->
  i∈Region.ready .any ops d->YieldsIf P ops S s v a->S w ->
  mH P ops Q D fuel (d.setIfInBounds i true) (a.put s.dst v) w->mH P ops Q D (fuel+1) d a w:=by
 intro fuel
 induction fuel with
 |zero=>
  intro d a w _ _ hr hy hS H;refine⟨fun h=>qej,fun j z=>?_⟩;by_cases hji:j=i
  .exact qbK
  .have:=ready_mono z hji;rw[H.1]at this
   cases this
 |succ fuel ih=>
  intro d a w B f hr hy hS H;refine⟨fun h=>qej,fun j z=>?_⟩;by_cases hji:j=i
  .exact qbK
  .have h1:=H.2 j (ready_mono z hji);have J:=fun w'=>t j w' (Ql B hr z);obtain⟨p,r,g,q⟩:=mem_ready.1 z;have A:∀k ok,ops[k]?=some ok->(d.setIfInBounds j true).getD k true=true->∀e∈ok.after,Region.binds .any e=true->(d.setIfInBounds j true).getD e.on true=true:=by
    have up:∀x,d.getD x true=true->(d.setIfInBounds j true).getD x true=true:=fun x M=>by
     by_cases e:j=x
     .subst e;by_cases N:j<d.size
      .simp[N]
      .simp
     .rw[getD_set_ne true e];exact M
    intro k ok hk L e C E;by_cases y:j=k
    .subst y;rw[g]at hk;cases hk;refine up _ ?_;have F:=q e C E;rcases Nat.lt_or_ge e.on d.size with h'|h'
     .simp[h']at F⊢;exact F
     .simp[Array.getElem?_eq_none h']
    .rw[getD_set_ne true y]at L;exact up _ (B k ok hk L e C E)
   have u:∀e∈r.after,Region.binds .any e=true->e.on≠i:=fun e C E K=>by
    have h1:=q e C E;have h0:=(mem_ready.1 hr).1;rw[K]at h1;rcases Nat.lt_or_ge i d.size with h'|h'
    .exact qb5
    .exact qcc
   have F:=wpOp_putIf g (f j r g hji p u) (fun cs b=>m i s cs b hi) (fun cs b=>m j r cs b g) O hy h1;have l:∀k ok,ops[k]?=some ok->k≠i->(d.setIfInBounds j true).getD k true=false ->
    (∀e∈ok.after,Region.binds .any e=true->e.on≠i)->s.apart ops ok=true:=fun k ok hk I hun G=>by
    refine f k ok hk I ?_ G;by_cases hjk:j=k
    .subst hjk;exact p
    .exact qcI
   refine wpOp_mono (fun R w' h3=>⟨h3.2.1,ih (d.setIfInBounds j true) R w' A l (ready_mono hr (Ne.symm hji)) h3.1 (h3.2.1.elim (fun e=>by rw[e];exact hS) (J w')) ?_⟩) F;exact qci
theorem aL(i n:Nat)(S:World->Prop){e:Oper}{v:zV}{fuel:Nat}{b:Array Bool}{a:Act}{w:zW}(hi:ops[i]?=some e)
(f:(Region.noSelect ops&&Region.free .any ops b i&&(Region.ready .any ops b).contains i&&WX ops b)=true)
(o:∀c a w,Q (.panic c) (a.put e.dst v) w->Q (.panic c) a w)(d:∀j w',jK ops n j i=false->D j w'->S w')(m:S w)(g:YieldsIf P ops S e v a)
(h:mH P ops Q D fuel (b.setIfInBounds i true) (a.put e.dst v) w):mH P ops Q D (fuel+1) b a w:=by
 simp only[xG]at f;obtain⟨⟨⟨r,q⟩,h3⟩,p⟩:=f;exact KI hi (Region.noSelect_spec r) o d fuel b a w (fun k ok hk l=>OZ p hk l) (Region.free_spec hi q) qeF g m h
theorem aG{n j i:Nat}(h:jK ops n j i=true)(k:jK ops n j i=false):False:=by rw[h]at k;cases k
theorem fH{i:Nat}{o:Oper}{K:Act->World->Prop}{a:Act}{w:zW}(hi:ops[i]?=some o)(b:Region.wanted o (yielded ops a.tmps)=true)(h:o.wp P a w K Q):wpOp P ops Q i K a w:=by
 unfold wpOp;rw[hi];simp only[b,if_true];exact .inl h
theorem Ns{i:Nat}{o:Oper}{K:Act->World->Prop}{a:Act}{w:zW}(hi:ops[i]?=some o)(b:Region.wanted o (yielded ops a.tmps)=false)(h:K (a.put o.dst undef) w):wpOp P ops Q i K a w:=by
 unfold wpOp;rw[hi];simp only[b];simpa using h
end
end Cl
