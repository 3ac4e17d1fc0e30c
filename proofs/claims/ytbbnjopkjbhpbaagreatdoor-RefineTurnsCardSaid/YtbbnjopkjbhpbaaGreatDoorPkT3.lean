/- Lemmas. -/
import Derived.Shelf.Strings.Builder1
import Derived.Shelf.Small.Wraps
import Derived.Shelf.Strconv.Itoa3
import Derived.BigQuiet
import Derived.Deep.Cut
import Derived.Lib.ItoaLen
import Derived.StillTailTactics
import Derived.WalkLawsBesides
import Derived.WalkSpells
import Derived.Deep.RegionHeld
import Derived.Lib.SmallJoins
import Derived.Test.YtbbnjopkjbhpbaaGreatDoorCards
import Derived.Test.YtbbnjopkjbhpbaaGreatDoorTie
import Derived.Deep.DeepHandedRow
import Derived.Stop.LaidErr
import Derived.Test.YtbbnjopkjbhpbaaGreatDoorPkT2
set_option maxRecDepth 99999
set_option maxHeartbeats 9999999
namespace Go.Proofs
open Go.Shelf Tryz
def Tryz.Fa:Go.Shelf.Ren:=⟨fun|169=>252|n=>n,fun|70=>289|9=>9|0=>0|72=>291|37=>245|127=>317|3=>3|5=>5|n=>n,fun|n=>n⟩
theorem Tryz.czm:Go.Proofs.Lays.n169 prog Tryz.Fa:={
 mixed:=by kernel_rfl
 f169:=func252.trans (congrArg some zk)
 t0:=underlying0
 a0:=Tryz.isAgg0
 z0:=Tryz.sizeOf0
 v0:=Tryz.zeroValue0
 t3:=underlying3
 a3:=Tryz.isAgg3
 z3:=Tryz.sizeOf3
 v3:=Tryz.zeroValue3
 t9:=underlying9
 a9:=Tryz.isAgg9
 z9:=Tryz.sizeOf9
 v9:=Tryz.zeroValue9
 t37:=underlying245
 a37:=Tryz.isAgg245
 z37:=Tryz.sizeOf245
 v37:=Tryz.zeroValue245
 t70:=underlying289
 a70:=Tryz.isAgg289
 z70:=Tryz.sizeOf289
 v70:=Tryz.zeroValue289
 t72:=underlying291
 a72:=Tryz.isAgg291
 z72:=Tryz.sizeOf291
 v72:=Tryz.zeroValue291
 t127:=underlying317
 a127:=Tryz.isAgg317
 z127:=Tryz.sizeOf317
 v127:=Tryz.zeroValue317 }
theorem Tryz.DC:Builder.Extra prog Tryz.Fa:={
 sizeBuilder:=by kernel_rfl
 liesBuilder:=by kernel_rfl
 t5:=underlying5
 a5:=Tryz.isAgg5
 z5:=Tryz.sizeOf5
 v5:=Tryz.zeroValue5
 infoByte:=by kernel_rfl
 cellsByte:=by kernel_rfl
 sizeByte:=by kernel_rfl
 neB5:=by decide }
open Go.RowKit in
open Go.RowKit in
theorem Tryz.Builder_String_any(B b:Nat)(l:List UInt8)(w:zW)(h:Lib.IsBuilder 291 5 B b (Lib.byteCells l) w)(a:B<=w.heap.size):
 zC 252 #[.pointer (some ⟨b,0,none⟩)] w fun e w'=>e=.returned (.string ⟨l.toArray⟩)/\Below B w w':=Any.Builder_String_any Tryz.czm Tryz.DC B b l w h a
def Tryz.Qj:Go.Shelf.Ren:=⟨fun|122=>169|215=>209|n=>n,fun|3=>3|4=>4|n=>n,fun|n=>n⟩
theorem Tryz.czn:Go.Proofs.Lays.n122 prog Tryz.Qj:={
 mixed:=by kernel_rfl
 f122:=func169.trans (congrArg some zk)
 f215:=func209.trans (congrArg some zk)
 t3:=underlying3
 a3:=Tryz.isAgg3
 z3:=Tryz.sizeOf3
 v3:=Tryz.zeroValue3
 t4:=underlying4
 a4:=Tryz.isAgg4
 z4:=Tryz.sizeOf4
 v4:=Tryz.zeroValue4 }
open Go.RowKit in
theorem Tryz.cmp_Compare_int(x y:Int)(w:zW):
 zC 169 #[.int .i64 x,.int .i64 y] w fun e w'=>e=.returned (.j (Lib.compareInt x y))/\w'=w:=Any.cmp_Compare_int Tryz.czn x y w
def Tryz.NT:Go.Shelf.Ren:=⟨fun|171=>251|243=>287|246=>296|283=>298|284=>299|285=>300|286=>301|129=>208|317=>302|318=>303|319=>304|320=>305|337=>306|338=>307|n=>n,fun|3=>3|9=>9|2=>2|4=>4|171=>328|0=>0|53=>258|37=>245|5=>5|173=>330|212=>334|51=>256|20=>20|213=>335|46=>205|232=>336|233=>337|n=>n,fun|17=>0|18=>1|19=>2|n=>n⟩
theorem Tryz.azb:Go.Proofs.LaysM.n171 prog Tryz.NT:={
 mixed:=by kernel_rfl
 f129:=func208.trans (congrArg some zk)
 f171:=func251.trans (congrArg some zk)
 f243:=func287.trans (congrArg some zk)
 f246:=func296.trans (congrArg some zk)
 f283:=func298.trans (congrArg some zk)
 f284:=func299.trans (congrArg some zk)
 f285:=func300.trans (congrArg some zk)
 f286:=func301.trans (congrArg some zk)
 f317:=func302.trans (congrArg some zk)
 f318:=func303.trans (congrArg some zk)
 f319:=func304.trans (congrArg some zk)
 f320:=func305.trans (congrArg some zk)
 f337:=func306.trans (congrArg some zk)
 f338:=func307.trans (congrArg some zk)
 t0:=underlying0
 a0:=Tryz.isAgg0
 z0:=Tryz.sizeOf0
 v0:=Tryz.zeroValue0
 t2:=underlying2
 a2:=Tryz.isAgg2
 z2:=Tryz.sizeOf2
 v2:=Tryz.zeroValue2
 t3:=underlying3
 a3:=Tryz.isAgg3
 z3:=Tryz.sizeOf3
 v3:=Tryz.zeroValue3
 t4:=underlying4
 a4:=Tryz.isAgg4
 z4:=Tryz.sizeOf4
 v4:=Tryz.zeroValue4
 t5:=underlying5
 a5:=Tryz.isAgg5
 z5:=Tryz.sizeOf5
 v5:=Tryz.zeroValue5
 t9:=underlying9
 a9:=Tryz.isAgg9
 z9:=Tryz.sizeOf9
 v9:=Tryz.zeroValue9
 t20:=underlying20
 a20:=Tryz.isAgg20
 z20:=Tryz.sizeOf20
 v20:=Tryz.zeroValue20
 t37:=underlying245
 a37:=Tryz.isAgg245
 z37:=Tryz.sizeOf245
 v37:=Tryz.zeroValue245
 t46:=underlying205
 a46:=Tryz.isAgg205
 z46:=Tryz.sizeOf205
 v46:=Tryz.zeroValue205
 t51:=underlying256
 a51:=Tryz.isAgg256
 z51:=Tryz.sizeOf256
 v51:=Tryz.zeroValue256
 t53:=underlying258
 a53:=Tryz.isAgg258
 z53:=Tryz.sizeOf258
 v53:=Tryz.zeroValue258
 t171:=underlying328
 a171:=Tryz.isAgg328
 z171:=Tryz.sizeOf328
 v171:=Tryz.zeroValue328
 t173:=underlying330
 a173:=Tryz.isAgg330
 z173:=Tryz.sizeOf330
 v173:=Tryz.zeroValue330
 t212:=underlying334
 a212:=Tryz.isAgg334
 z212:=Tryz.sizeOf334
 v212:=Tryz.zeroValue334
 t213:=underlying335
 a213:=Tryz.isAgg335
 z213:=Tryz.sizeOf335
 t232:=underlying336
 a232:=Tryz.isAgg336
 z232:=Tryz.sizeOf336
 v232:=Tryz.zeroValue336
 t233:=underlying337
 a233:=Tryz.isAgg337
 z233:=Tryz.sizeOf337
 v233:=Tryz.zeroValue337
 g17:=by kernel_rfl
 g18:=by kernel_rfl
 g19:=by kernel_rfl
 i0:=by kernel_rfl
 i2:=by kernel_rfl
 i3:=by kernel_rfl
 i4:=by kernel_rfl
 i5:=by kernel_rfl
 i9:=by kernel_rfl
 i20:=by kernel_rfl
 i37:=by kernel_rfl
 i46:=by kernel_rfl
 i51:=by kernel_rfl
 i53:=by kernel_rfl
 i171:=by kernel_rfl
 i173:=by kernel_rfl
 i212:=by kernel_rfl
 i232:=by kernel_rfl
 i233:=by kernel_rfl
 m17:=by kernel_rfl
 m18:=by kernel_rfl
 m19:=by kernel_rfl }
open Go.RowKit Go.Sort Go.Lib in
theorem Tryz.strconv_Itoa (n : Int) (h0 : -9223372036854775808 ≤ n) (h1 : n ≤ 9223372036854775807) (w : World) (htab : Lib.TabIs prog w "internal/strconv.uint64pow10" .u64 Lib.pow10Tab) :
 zC 251 #[.int .i64 n] w fun e w'=>e=.returned (.string ⟨(Lib.itoa n).toArray⟩)∧∃k os,w'=grow (w.drewN k) os:=Any.strconv_Itoa Tryz.azb n h0 h1 w htab
end Go.Proofs
namespace Cl
open Go Go.RowKit
abbrev Mem:=Nat->Option Obj
structure Mem.le (m m':Mem):Prop where
 get:∀k o,m k=some o->m' k=some o
structure Mem.az (m:Mem) (w:zW):Prop where
 get:∀k o,m k=some o->w.heap[k]?=some o
def Mem.cell(m:Mem)(b o:Nat):Option Value:=match m b with
 |some (.cells c _ _)=>c[o]?
 |_=>none
def Mem.of(w:zW):Mem:=fun k=>w.heap[k]?
theorem ezr(w:zW):(Mem.of w).az w:=⟨fun _ _ h=>h⟩
theorem Mem.le_refl(m:Mem):m.le m:=⟨fun _ _ h=>h⟩
theorem Mem.le_trans{a b c:Mem}(h:a.le b)(k:b.le c):a.le c:=⟨fun i o x=>k.get i o (h.get i o x)⟩
theorem bzw{m m':Mem}{w:zW}(h:m.le m')(k:m'.az w):m.az w:=⟨fun i o x=>k.get i o (h.get i o x)⟩
theorem azk{m:Mem}{w:zW}(h:m.az w){b o:Nat}{v:zV}(a:m.cell b o=some v):w.cell? ⟨b,o,none⟩=some v:=by
 unfold Mem.cell at a
 split at a
 .rename_i c t e d;simp[World.cell?,h.get _ _ d,a]
 .cases a
theorem bzu{m:Mem}{w:zW}(h:m.az w){b o:Nat}{v:zV}(a:m.cell b o=some v):b<w.heap.size:=by
 have:=azk h a;simp only[World.cell?]at this
 split at this
 .rename_i c;exact(yC.1 c).1
 .cases this
theorem bzv{m m':Mem}(h:m.le m'){b o:Nat}{v:zV}(a:m.cell b o=some v):m'.cell b o=some v:=by
 unfold Mem.cell at a⊢
 split at a
 .rename_i c t e d;rw[h.get _ _ d];exact a
 .cases a
def Mem.slice{α:Type}(R:Nat->Nat->α->Prop)(size:Nat)(v:zV)(l:List α):Prop:=
 ∃a c,v=.slice a l.length c/\l.length<=c/\c<=maxLen/\(l≠[]->∃b off,a=some ⟨b,off,none⟩/\∀i (h:i<l.length),R b (off+i*size) l[i])
theorem dzT{α:Type}{R R':Nat->Nat->α->Prop}{size:Nat}{v:zV}{l:List α}(h:Mem.slice R size v l)(hr:∀b o x,R b o x->R' b o x):Mem.slice R' size v l:=by
 exact qbn
def Ev(m:Mem)(b o:Nat)(e:Ed):Prop:=
 m.cell b o=some (.int .u8 e.lo)/\m.cell b (o+1)=some (.int .u8 e.hi)/\m.cell b (o+2)=some (.j e.to) /\
 e.lo<256/\e.hi<256 /\ -9223372036854775808<=e.to/\e.to<=9223372036854775807
def lW(m:Mem)(v:zV)(es:List Ed):Prop:=Mem.slice (Ev m) 3 v es
def Ac(m:Mem)(b o:Nat)(s:Sn):Prop:=
 m.cell b o=some (.bool s.bW)/\∃a,m.cell b (o+1)=some a/\lW m a s.bu
def aV(m:Mem)(v:zV)(l:aK):Prop:=Mem.slice (Ac m) 2 v l
theorem X6{m m':Mem}(h:m.le m'){b o:Nat}{e:Ed}(k:Ev m b o e):Ev m' b o e:=
 ⟨bzv h k.1,bzv h k.2.1,bzv h k.2.2.1,k.2.2.2⟩
theorem rq{m m':Mem}(h:m.le m'){v:zV}{es:List Ed}(k:lW m v es):lW m' v es:=dzT k fun _ _ _=>X6 h
theorem R9{m m':Mem}(h:m.le m'){b o:Nat}{s:Sn}(k:Ac m b o s):Ac m' b o s:=by
 obtain⟨e,a,d,c⟩:=k;exact⟨bzv h e,a,bzv h d,rq h c⟩
theorem bq{m m':Mem}(h:m.le m'){v:zV}{l:aK}(k:aV m v l):aV m' v l:=dzT k fun _ _ _=>R9 h
theorem dzE{m:Mem}{w w':zW}(h:m.az w)(a:zB w w'):m.az w':=⟨fun k o hk=>by
 have:=h.get k o hk;rw[a.block k (yC.1 this).1];exact this⟩
def Mem.uR{α:Type}(R:Nat->Nat->α->Prop)(v:zV)(l:List α):Prop:=
 ∃a c,v=.slice a l.length c/\l.length<=c/\c<=maxLen/\(l≠[]->∃b off,a=some ⟨b,off,none⟩/\∀i (h:i<l.length),R b (off+i) l[i])
theorem ezP{α:Type}{R R':Nat->Nat->α->Prop}{v:zV}{l:List α}(h:Mem.uR R v l)(hr:∀b o x,R b o x->R' b o x):Mem.uR R' v l:=by
 exact qbn
def ezJ(m:Mem)(b o:Nat)(x:Bool):Prop:=m.cell b o=some (.bool x)
def fzq(m:Mem)(b o:Nat)(x:Int):Prop:=m.cell b o=some (.j x) /\ -9223372036854775808<=x/\x<=9223372036854775807
def ez9(m:Mem)(b o:Nat)(x:ByteArray):Prop:=m.cell b o=some (.string x)/\x.size<=maxLen
def Nq(m:Mem)(b o:Nat)(x:Int×Int):Prop:=m.cell b o=some (.j x.1)/\m.cell b (o+1)=some (.j x.2) /\ -9223372036854775808<=x.1/\x.1<=9223372036854775807 /\ -9223372036854775808<=x.2/\x.2<=9223372036854775807
def jK(m:Mem)(v:zV)(l:List Bool):Prop:=Mem.uR (ezJ m) v l
def iT(m:Mem)(v:zV)(l:List Int):Prop:=Mem.uR (fzq m) v l
def Bu(m:Mem)(v:zV)(l:List ByteArray):Prop:=Mem.uR (ez9 m) v l
def dD(m:Mem)(v:zV)(l:List (Int×Int)):Prop:=Mem.slice (Nq m) 2 v l
def rY(m:Mem)(v:zV)(l:List (List Int)):Prop:=Mem.uR (fun b o x=>∃u,m.cell b o=some u/\iT m u x) v l
theorem mV{m m':Mem}(h:m.le m'){v:zV}{l:List Bool}(k:jK m v l):jK m' v l:=ezP k fun _ _ _=>bzv h
theorem iK{m m':Mem}(h:m.le m'){v:zV}{l:List Int}(k:iT m v l):iT m' v l:=ezP k fun _ _ _ k=>⟨bzv h k.1,k.2⟩
theorem KF{m m':Mem}(h:m.le m'){v:zV}{l:List ByteArray}(k:Bu m v l):Bu m' v l:=ezP k fun _ _ _ k=>⟨bzv h k.1,k.2⟩
theorem bS{m m':Mem}(h:m.le m'){v:zV}{l:List (Int×Int)}(k:dD m v l):dD m' v l:=
 dzT k fun _ _ _ k=>⟨bzv h k.1,bzv h k.2.1,k.2.2⟩
theorem BJ{m m':Mem}(h:m.le m'){v:zV}{l:List (List Int)}(k:rY m v l):rY m' v l:=
 ezP k fun _ _ _ ⟨u,b,a⟩=>⟨u,bzv h b,iK h a⟩
noncomputable def firstIdx{α:Type}(p:α->Prop):List α->Nat->Int
 |[],_ => -1
 |x::l,k=>if tf (p x)then(k:Int)else firstIdx p l (k+1)
theorem sP{α:Type}(p:α->Prop)(l:List α)(k:Nat)(h:k<l.length):firstIdx p (l.drop k) k=if tf (p l[k])then(k:Int)else firstIdx p (l.drop (k+1)) (k+1):=by
 rw[yE h];rfl
theorem Bc{α:Type}(p:α->Prop)(l:List α):∀k,(firstIdx p l k = -1/\∀x∈l,¬p x)\/(∃i,∃h:i<l.length,firstIdx p l k=((k+i:Nat):Int)/\p l[i]/\∀j,∀hj:j<l.length,j<i->¬p l[j]):=by
 induction l with
 |nil=>intro k;left;exact⟨rfl,zS⟩
 |cons x l ih=>
  intro k;by_cases a:p x
  .right;exact⟨0,zS,by simp[firstIdx,aN a],a,fun j _ hj=>zo⟩
  .have e:firstIdx p (x::l) k=firstIdx p l (k+1):=by simp[firstIdx,aG a]
   rcases ih (k+1)with⟨c,b⟩|⟨i,c,b,g,f⟩
   .left;exact⟨e.trans c,by simpa using⟨a,b⟩⟩
   .right;refine⟨i+1,by simp;omega,e.trans (b.trans (by congr 1;omega)),by simpa using g,?_⟩;intro j hj d
    cases j with
    |zero=>simpa using a
    |succ j=>simpa using f j qdP zo
theorem nk{α:Type}(l l':List α)(k:Nat)(h:k<l.length)(a:k<l'.length):l.drop k=l'.drop k↔l[k]=l'[k]/\l.drop (k+1)=l'.drop (k+1):=by
 rw[yE h,yE a,List.cons.injEq]
end Cl
namespace Cl
open Go Go.RowKit Go.Proofs Tryz
theorem Je(b:Nat)(w:zW)(c:w.cell? ⟨b,0,none⟩=some (.p b)):
 zC 286 #[.pointer (some ⟨b,0,none⟩)] w fun e w'=>e=.returned (.tuple #[])/\w'=w:=by
 obtain⟨j,a,_⟩:=Option.map_eq_some_iff.1 (show(prog.info? 291).map (·.size)=some 2 by kernel_rfl)
 go_enter func286,ntmps286
 go_wp2;rw[Lib.run_neq_ptr_same w _ underlying289 a];go_wp2
 go_end0
 exact⟨rfl,rfl⟩
theorem FP(b:Nat)(w:zW)(g:w.cell? ⟨b,0,none⟩=some (.pointer none))(a:w.shape? b=some (291,2))(f:w.frozen? ⟨b,0,none⟩=false):
 zC 286 #[.pointer (some ⟨b,0,none⟩)] w fun e w'=>e=.returned (.tuple #[])/\w'=w.setCell ⟨b,0,none⟩ (.p b):=by
 obtain⟨j,d,c⟩:=Option.map_eq_some_iff.1 (show(prog.info? 291).map (·.size)=some 2 by kernel_rfl)
 go_enter func286,ntmps286
 go_wp2;rw[Lib.run_to_unsafe w ⟨b,0,none⟩ underlying289 underlying324 d (by rw[c];decide) a (Nat.zero_lt_succ 1)];simp only[Result.andThen];rw[Oper.upon_value];go_wp2;rw[run_callFunc_extern func295 zk zk zk (e:=Extern.AbiNoEscape.same) zk];rw[Lib.run_noEscape];simp only[Result.andThen];rw[Oper.upon_value];go_wp2;rw[Lib.run_from_unsafe w ⟨b,0,none⟩ underlying324 underlying289 d a zk];simp only[Result.andThen];rw[Oper.upon_value];go_wp2
 go_end0
 exact⟨rfl,rfl⟩
theorem Ka(B b:Nat)(a:List Value)(w:zW)(h:Lib.IsBuilder 291 5 B b a w):
 zC 286 #[.pointer (some ⟨b,0,none⟩)] w fun e w'=>e=.returned (.tuple #[])/\(Lib.BuilderAt 291 5 B b (.p b) a w'/\Below B w w'):=by
 rcases h with h|h
 .refine(FP b w h.cell0 h.shape h.frozen0).mono ?_;rintro e w' ⟨rfl,rfl⟩;exact⟨rfl,h.used _,(zR B w).setCell (p:=⟨b,0,none⟩) h.1 _⟩
 .refine(Je b w h.cell0).mono ?_;rintro e w' ⟨rfl,rfl⟩;exact⟨rfl,h,zR B _⟩
theorem vP(B b:Nat)(n:List Value)(s:ByteArray)(w:zW)(h:Lib.IsBuilder 291 5 B b n w)(D:n.length+s.size<=140737488355328)(H:B<=w.heap.size):
 zC 250 #[.pointer (some ⟨b,0,none⟩),.string s] w fun e w'=>e=.returned (.tuple #[.int .i64 s.size,.nilIface])/\(Lib.BuilderAt 291 5 B b (.p b) (n++Lib.strCells s) w'/\Below B w w'):=by
 obtain⟨G,hi,u,t,r⟩:=info_parts (show(prog.info? 5).map (fun i=>(i.zero,i.size,i.bytes))=some (some (.int .u8 0),1,1)by kernel_rfl)
 go_enter func250,ntmps250
 go_wp2_with (go_at_call 286;refine(Ka B b n _ h).mono ?_)
 rintro e q ⟨rfl,I,l⟩;obtain⟨E,v,d,j,y⟩:=I;have N:q.cell? ⟨b,0,none⟩=some (.p b):=by rw[Lib.cell_of_heap d];rfl
 have M:q.cell? ⟨b,1,none⟩=some v:=by rw[Lib.cell_of_heap d];rfl
 go_wp2_with (at_builtin;refine Lib.wpList_append_own_string _ rfl _ _ 245 9 rfl B 5 G underlying245 underlying9 hi u t r _ _ _ rfl j s rfl ?c3 ?c4 ?c5 ?_)
 case c3=>unfold maxLen;omega
 case c4=>omega
 case c5=>have:=l.size;omega
 intro v' o a c _;have z:b<q.heap.size:=by
  rcases Nat.lt_or_ge b q.heap.size with A|A
  .exact A
  .simp[Array.getElem?_eq_none A]at d
 have f:o.heap[b]?=some (.cells #[.pointer (some ⟨b,0,none⟩),v] 291 (0,0)):=by
  rw[c.block b z (fun e=>y e.symm)];exact d
 have L:o.cell? ⟨b,0,none⟩=some (.p b):=by rw[Lib.cell_of_heap f];rfl
 have K:o.cell? ⟨b,1,none⟩=some v:=by rw[Lib.cell_of_heap f];rfl
 have f1:o.frozen? ⟨b,1,none⟩=false:=Lib.frozen_of_heap f 1;obtain⟨F,C,m,rfl⟩:∃F C m,v'=.slice F C m:=by
  rcases a.2 with⟨x,_⟩|⟨g,m,J,x,_⟩
  .exact⟨_,_,_,x⟩
  .exact⟨_,_,_,x⟩
 go_wp2
 go_ret2
 refine⟨rfl,?_,?_⟩
 .exact Lib.BuilderAt.put (T:=291) (e:=5) E f (bs':=n++Lib.strCells s) (by simpa [Lib.strCells_length]using a) zD
 .exact(l.grown c (by have:=l.size;omega) (fun k hk=>(j.lt k hk).1)).setCell (p:=⟨b,1,none⟩) E _
structure eD (m:Mem):Prop where
 get : ∀ w, m.az w → Lib.TabIs prog w "internal/strconv.uint64pow10" .u64 Lib.pow10Tab
theorem eD.le{m m':Mem}(h:eD m)(b:m.le m'):eD m':=⟨fun w a=>h.get w (bzw b a)⟩
end Cl
namespace Cl
open Go Go.RowKit Go.Proofs Go.WideShapes Go.ChangeShapes Go.Deep Go.Joins Tryz
theorem gzb{w:zW}{b o:Nat}{v:zV}(h:w.cell? ⟨b,o,none⟩=some v):(Mem.of w).cell b o=some v:=by
 unfold World.cell? at h;unfold Mem.cell Mem.of
 split at h
 .rename_i a;rw[a];simpa using h
 .cases h
theorem Qf{α:Type}{l:List α}(h:l.length=2):∃a b,l=[a,b]:=by
 match l,h with
 |[a,b],_=>exact⟨a,b,rfl⟩
theorem dzJ{α:Type}{l:List α}(h:l.length=3):∃a b c,l=[a,b,c]:=by
 match l,h with
 |[a,b,c],_=>exact⟨a,b,c,rfl⟩
theorem Vm{w:zW}{a:Addr}{v:zV}(h:w.cell? a=some v):a.spot=none:=by
 unfold World.cell? at h
 split at h
 .split at h
  .cases h
  .rename_i b
   cases hx:a.spot with
   |none=>rfl
   |some x=>rw[hx]at b;exact absurd rfl b
 .cases h
theorem iw{w:zW}{b o n:Nat}{cs:List Value}(h:w.cells? 0 ⟨b,o,none⟩ n=some cs){i:Nat}{v:zV}(hi:cs[i]?=some v):(Mem.of w).cell b (o+i)=some v:=by
 obtain⟨-,d,c⟩:=World.cells?_some h;have a:i<n:=by rw[<-d];exact(yB.1 hi).1
 have:=c i a;rw[hi,Addr.add_lit]at this;exact gzb this
section
variable {H:Type} {enc:TypeId×Value->H} {P:Program} {w:zW} {spare:Nat->Bool} {held:Bool}
theorem mD{α:Type}[Inhabited α]{t e:TypeId}{size:Nat}(ht:P.underlying t=some (.slice e))(A:P.cellsOf e=size)(d:0<size)(R:Nat->Nat->α->Prop)
(G:∀(fuel b o:Nat) (cs:List Value) (x:DataW H×List MemPlace),w.cells? 0 ⟨b,o,none⟩ size=some cs->DataW.trod enc P w 0 spare held fuel e cs=some x->∃y:α,R b o y)
{fuel:Nat}{cs:List Value}{x:DataW H×List MemPlace}(h:DataW.trod enc P w 0 spare held fuel t cs=some x):∃v l,cs=[v]/\Mem.slice R size v l:=by
 rcases open_slice ht h with⟨rfl,-⟩|⟨a,len,g,m,n,D,L,rfl,K,E,z,k,rfl,u⟩
 .exact⟨_,[],rfl,none,0,rfl,zI _,zG _,fun h=>absurd rfl h⟩
 .have C:len<=m:=by rw[k];split<;>omega
  by_cases I:len=0
  .subst I;exact⟨_,[],rfl,some a,g,rfl,zG _,z,fun h=>absurd rfl h⟩
  .have c:a.spot=none:=by
    obtain⟨s,j,-⟩:=u 0 zo;obtain⟨-,r,B⟩:=World.cells?_some j;rw[A]at r B;have:=B 0 d;rw[Nat.zero_mul]at this;have e:(a.add 0).add 0=a:=by simp[Addr.add]
    rw[e,yH zo]at this;exact Vm this
   obtain⟨b,o,J⟩:=a;simp only at c;subst c;obtain⟨f,F⟩:=choose_lt (α:=α) (n:=len) (p:=fun i y=>R b (o+i*size) y) (fun i hi=>by
    obtain⟨s,j,r⟩:=u i zo;rw[A,Addr.add_lit]at j;exact G _ _ _ _ _ j r)
   refine⟨_,(List.range len).map f,rfl,some ⟨b,o,none⟩,g,zS,by simpa using E,z,fun _=>⟨b,o,rfl,fun i hi=>?_⟩⟩;have q:i<len:=by simpa using hi
   simpa using F i q
end
instance:Inhabited Ed:=⟨⟨0,0,0⟩⟩
instance:Inhabited Sn:=⟨⟨false,[]⟩⟩
section
variable {H:Type} {enc:TypeId×Value->H} {w:zW} {spare:Nat->Bool} {held:Bool}
theorem dzw{n:Int}(h:(Lit.int .u8 n).wf=true):∃k:Nat,n=k/\k<256:=by
 simp only[Lit.wf,xG,decide_eq_true_eq]at h;have b:IntKind.min .u8=0:=by decide
 have a:IntKind.max .u8=255:=by decide
 exact⟨n.toNat,zo,zo⟩
theorem NV{n:Int}(h:(Lit.int .i64 n).wf=true): -9223372036854775808<=n/\n<=9223372036854775807:=by
 simp only[Lit.wf,xG,decide_eq_true_eq]at h;have b:IntKind.min .i64 = -9223372036854775808:=by decide
 have a:IntKind.max .i64=9223372036854775807:=by decide
 omega
theorem X0(fuel b o:Nat)(cs:List Value)(x:DataW H×List MemPlace)(c:w.cells? 0 ⟨b,o,none⟩ 3=some cs)(h:DataW.trod enc prog w 0 spare held fuel 102 cs=some x):∃e,Ev (Mem.of w) b o e:=by
 obtain⟨B,A,z,n,-,C,k,j,g⟩:=trod_struct3 underlying102 h;have d:cs.length=3:=(World.cells?_some c).2.1;obtain⟨F,E,D,rfl⟩:=dzJ d;have s:prog.cellsOf 5=1:=by kernel_rfl
 have f:prog.cellsOf 3=1:=by kernel_rfl
 simp[s,f]at k j g;obtain⟨a0,v,-,w0⟩:=DataW.trod_int underlying5 k;obtain⟨G,u,-,l⟩:=DataW.trod_int underlying5 j;obtain⟨y,t,-,a⟩:=DataW.trod_int underlying3 g;obtain⟨r,rfl,p⟩:=dzw w0;obtain⟨q,rfl,m⟩:=dzw l;cases v;cases u;cases t;have a:=NV a;exact⟨⟨r,q,y⟩,iw (i:=0) c rfl,iw (i:=1) c rfl,iw (i:=2) c rfl,p,m,a.1,a.2⟩
theorem GA(fuel b o:Nat)(cs:List Value)(x:DataW H×List MemPlace)(c:w.cells? 0 ⟨b,o,none⟩ 2=some cs)(h:DataW.trod enc prog w 0 spare held fuel 105 cs=some x):∃s,Ac (Mem.of w) b o s:=by
 obtain⟨q,p,n,-,r,e,d⟩:=trod_struct2 underlying105 h;have a:cs.length=2:=(World.cells?_some c).2.1;obtain⟨t,m,rfl⟩:=Qf a;have g:prog.cellsOf 4=1:=by kernel_rfl
 have es:prog.cellsOf 103=1:=by kernel_rfl
 simp[g,es]at e d;obtain⟨a0,k,-⟩:=DataW.trod_bool underlying4 e;cases k;obtain⟨v,l,j,f⟩:=mD underlying103 zk zo (Ev (Mem.of w)) X0 d;cases j;exact⟨⟨a0,l⟩,iw (i:=0) c rfl,m,iw (i:=1) c rfl,f⟩
end
end Cl
namespace Cl
open Go Go.RowKit Go.Proofs Go.ChangeShapes Go.WideShapes Tryz
theorem Zt:ownKnob prog.godebug=none:=by kernel_rfl
theorem M9:laidOutB prog=true:=by kernel_rfl
theorem fzu : prog.globalNamed "internal/strconv.uint64pow10" = some 0 := by kernel_rfl
theorem azw:(prog.globals[0]?).map (·.type)=some 334:=by kernel_rfl
theorem az1:prog.cellsOf 334=20:=by kernel_rfl
theorem az0:prog.cellsOf 258=1:=by kernel_rfl
abbrev GN : List (String × DataW Unit) := [("math/bits.deBruijn32tab", Go.Proofs.YtbbnjopkjbhpbaaGreatDoor.Rows.laid_math_bits_deBruijn32tab), ("math/bits.deBruijn64tab", Go.Proofs.YtbbnjopkjbhpbaaGreatDoor.Rows.laid_math_bits_deBruijn64tab), ("internal/strconv.uint64pow10", Go.Proofs.YtbbnjopkjbhpbaaGreatDoor.Rows.laid_internal_strconv_uint64pow10)]
theorem Zr {W:zW} (h:laidMetH prog GN W):eD (Mem.of W):=by
 have h0:laidMet prog GN W:=h
 have h1 : Lib.TabIs prog W "internal/strconv.uint64pow10" .u64 Lib.pow10Tab :=
  Lib.tabIs_of_head (rest:=[]) fzu azw underlying334 underlying258 az0 az1 h0.tail.tail
 refine ⟨fun w hw=>?_⟩;unfold Lib.TabIs World.var? at h1 ⊢;rw[fzu] at h1 ⊢;simp only[Option.bind_some] at h1 ⊢
 split at h1
 ·rename_i cs t f hb;rw[hw.get 0 _ hb];exact h1
 ·cases h1
def Ik:DataW Unit->Array Value
 | .agg l=>(l.map fun d=>match d with
  |.lit (.int k n)=>Value.int k n
  | _=>undef).toArray
 |_=>#[]
def TD(c:Array Value):Obj->Obj
 |.cells _ t frozen=>.cells c t frozen
 |o=>o
noncomputable def En(a:Os):World:=
 { World.holding prog a ⟨#[],#[],[]⟩with heap:=(((World.holding prog a ⟨#[],#[],[]⟩).heap.modify 0 (TD (Ik Go.Proofs.YtbbnjopkjbhpbaaGreatDoor.Rows.laid_internal_strconv_uint64pow10))).modify 1 (TD (Ik Go.Proofs.YtbbnjopkjbhpbaaGreatDoor.Rows.laid_math_bits_deBruijn32tab))).modify 2 (TD (Ik Go.Proofs.YtbbnjopkjbhpbaaGreatDoor.Rows.laid_math_bits_deBruijn64tab)) }
section
variable {H:Type} {enc:TypeId×Value->H}
theorem AV{W o:zW}(m:Below W.heap.size W o){l:Nat->Bool}:∀(e:List TypeId) (k:List Value) (ds:List (DataW H)) (f:List MemPlace),(∀t∈e,prog.readableRec t=true/\t<prog.types.size) ->
 (∀x∈f,x.block<W.heap.size)->(∀x∈f,l x.block=true)->DataW.TrodAll enc prog W 0 (fun _=>true) true e k ds f->DataW.TrodAll enc prog o 0 l true e k ds f
 |[],_,_,_,_,_,_,h=>by
  obtain⟨rfl,rfl,rfl⟩:=trodAll_nil h
  exact trodAll_mk0
 |t::e,_,_,_,ht,hl,hs,h=>by
  obtain⟨v,g,d,j,a,b,rfl,rfl,rfl,q,p⟩:=trodAll_cons h;have n:=ht t (yF ..);exact trodAll_cons_mk (WideElems.Trod_stays M9 n.1 n.2 q (fun x c=>m.same (hl x (xI _ c))) (fun x c=>hs x (xI _ c)))
   (AV m e g j b (fun t i=>ht t (zU _ i)) (fun x c=>hl x (xS _ c)) (fun x c=>hs x (xS _ c)) p)
theorem azd{f:Func}{s:ChangeSpec}{W W':zW}{args:Array Value}{ds:List (DataW H)}{before:List MemPlace}(hv:s.vars=[])(hr:f.resultTypes=#[4])
(ht:(f.params.toList.all fun t=>prog.readableRec t&&decide (t<prog.types.size))=true)(hfn:s.fn H (ds++[])={ results:=[.lit (.bool true)],args:=ds })
(hW:DataW.Whole enc prog f.params.toList s.vars false W args.toList ds [] before)(hb:Below W.heap.size W W'):
 s.post enc prog f false true false false W args (.bool true) W':=by
 have hlt:=hW.lt;obtain⟨p,q,h1,h2,rfl,h3⟩:=id hW;rw[hv]at h2;obtain⟨-,rfl⟩:=trodVars_none h2;rw[yR]at hW hlt;refine⟨ds,[],p,[],p,[],hW,?_,?_,?_,hb.frame _,fun h=>by cases h⟩
 .rw[hfn,hr];exact trodAll_cons_mk (shut_bool underlying4 _) trodAll_mk0
 .rw[hfn];exact AV hb _ _ _ _ (fun t h=>by have:=vD.1 ht t h;simpa using this) hlt (fun x hx=>by simpa using hlt x hx) h1
 .rw[hfn,hv]
  rfl
end
end Cl
namespace Cl
open Go Go.RowKit
theorem au{P:Program}{f:FuncId}{args:Array Value}{w:zW}{X:Ending->World->Prop}
(h:∀R:Ending->World->Prop,Hid (∀e w',X e w'->R e w')->Calls P f args w R):Calls P f args w X:=h X (fun _ _ h=>h)
theorem je{k:IntKind}{a b:Int}(h:a=b):Ending.returned (.int k a)=.returned (.int k b):=by rw[h]
theorem aP{a b:Bool}(h:a=b):Ending.returned (.bool a)=.returned (.bool b):=by rw[h]
def lk:List (Nat×Value)->Nat->Value->Value
 |[],_,d=>d
 |(k,v)::r,i,d=>if i=k then v else lk r i d
def bz(z:Nat->Value)(a:List (Nat×Value)):Nat->Nat->List Value
 |_,0=>[]
 |i,n+1=>lk a i (z i)::bz z a (i+1) n
theorem Qe(z:Nat->Value)(a:List (Nat×Value)):∀n i,(bz z a i n).length=n:=by
 intro n
 induction n with
 |zero=>intro i;rfl
 |succ n ih=>intro i;simp[bz,ih]
theorem Z5(z:Nat->Value)(a:List (Nat×Value)):∀n i j,j<n->(bz z a i n)[j]?=some (lk a (i+j) (z (i+j))):=by
 intro n
 induction n with
 |zero=>intro i j h;omega
 |succ n ih=>
  intro i j h
  cases j with
  |zero=>simp[bz]
  |succ j=>
   simp only[bz,List.getElem?_cons_succ];rw[ih (i+1) j zo];rw[show i+1+j=i+(j+1)by omega]
theorem Tv(f:Nat->Value)(K:List Nat)(i:Nat):lk (K.zip (K.map f)) i (f i)=f i:=by
 induction K with
 |nil=>rfl
 |cons k K ih=>
  simp only[yL,List.zip_cons_cons,lk];by_cases h:i=k
  .subst h;simp
  .simp[h,ih]
theorem Lg(a:Array Value)(K:List Nat):(bz (fun i=>a.getD i undef) (K.zip (K.map fun i=>a.getD i undef)) 0 a.size).toArray=a:=by
 apply Array.ext
 .simp[Qe]
 .intro i e h2;have:=Z5 (fun i=>a.getD i undef) (K.zip (K.map fun i=>a.getD i undef)) a.size 0 i qep;rw[yZ,Tv (fun i=>a.getD i undef) K i]at this;have c:=yB.1 this;obtain⟨d,b⟩:=c;simp only[List.getElem_toArray];rw[b];simp[Array.getD,h2]
theorem aB{P:Program}{c:Code}{Q:Exit->Act->World->Prop}{f:Array Value}{w:zW}(K:List Nat)(h:Nat->List Value->World->Prop)
(B:∃n,h n (K.map fun i=>f.getD i undef) w)
(o:∀(X:Act->World->Prop) (z:Nat->Value) (n:Nat) (t:List Value) (C:zW),Hid (∀j (g:Array Value) w',j<n->g.size=f.size->h j (K.map fun i=>g.getD i undef) w'->X ⟨g,[]⟩ w') ->
  t.length=K.length->h n t C->c.wp P (Exit.then X Q) ⟨(bz z (K.zip t) 0 f.size).toArray,[]⟩ C):
 (Code.loop c).wp P Q ⟨f,[]⟩ w:=by
 let I:Nat->Act->World->Prop:=fun n a w=>a.defers=[]/\a.tmps.size=f.size/\h n (K.map fun i=>a.tmps.getD i undef) w;intro b k cs;have u:∀n a w,I n a w->∃e s w',Q e s w'/\Arrives P (lone (b.at a (.code c::.inLoop c::k)) cs w) b k cs e s w':=by
  intro n
  induction n using Nat.strongRecOn with
  |_ n ih=>
   intro a w ⟨hd,hs,hb⟩;have F:a=⟨(bz (fun i=>a.tmps.getD i undef) (K.zip (K.map fun i=>a.tmps.getD i undef)) 0 f.size).toArray,[]⟩:=by
    rw[<-hs,Lg];cases a;simp_all
   have D:=o (fun s w'=>∃j,j<n/\I j s w') (fun i=>a.tmps.getD i undef) n _ w (fun j N w' J H G=>⟨j,J,rfl,H,G⟩) zS hb;rw[<-F]at D;obtain⟨e,r,q,m,d⟩:=D b (.inLoop c::k) cs
   cases e with
   |normal=>
    obtain⟨j,y,A⟩:=m;obtain⟨L,M,E,v,p⟩:=ih j y r q A
    exact⟨L,M,E,v,.of_steps (Steps.trans d (.one step_inLoop)) p⟩
   |exit id=>exact⟨_,r,q,m,.pass (x:=.inLoop c) rfl (fun _ _=>.inl zS) d⟩
   |goto l=>exact⟨_,r,q,m,.pass (x:=.inLoop c) rfl (fun _ _=>.inl zS) d⟩
   |ret=>exact⟨_,r,q,m,.pass (x:=.inLoop c) rfl (fun _ _=>.inl zS) d⟩
   |panic ch=>exact⟨_,r,q,m,.pass (x:=.inLoop c) rfl (fun _ _=>.inl zS) d⟩
   |outgrown=>exact⟨_,r,q,m,.pass (x:=.inLoop c) rfl (fun _ _=>.inl zS) d⟩
 obtain⟨n,B⟩:=B;obtain⟨e,s,w',m,d⟩:=u n ⟨f,[]⟩ w ⟨rfl,rfl,B⟩;exact⟨e,s,w',m,.of_steps (.one step_loop) d⟩
theorem aW{P:Program}{c:Code}{Q:Exit->Act->World->Prop}{a:Array Value}{w:zW}(K:List Nat)(f:List Value->World->Prop)
(o:∀(X:Act->World->Prop),Hid (∀(b:Array Value) w',b.size=a.size->f (K.map fun i=>b.getD i undef) w'->X ⟨b,[]⟩ w')->c.wp P (Exit.then X (fun _ _ _=>False)) ⟨a,[]⟩ w)
(n:∀(z:Nat->Value) (j:List Value) (w':zW),j.length=K.length->f j w'->Q .normal ⟨(bz z (K.zip j) 0 a.size).toArray,[]⟩ w'):c.wp P Q ⟨a,[]⟩ w:=by
 refine wp_mono (o (fun l w'=>l.defers=[]/\l.tmps.size=a.size/\f (K.map fun i=>l.tmps.getD i undef) w') (fun t w' g k=>⟨rfl,g,k⟩)) ?_;rintro e ⟨t,d⟩ w' hq
 cases e with
 |normal=>
  obtain⟨m,g,k⟩:=hq;have h:=n (fun i=>t.getD i undef) _ w' zS k
  dsimp only at g m
  subst m;rw[<-g,Lg]at h
  exact h
 |_=>exact hq.elim
theorem bY{w a:zW}(h:zB w a)(o:Obj):zB w (a.alloc o):=h.alloc h.size o
theorem mH{w w':zW}(h:zB w w'){b o:Nat}{v:zV}(c:b<w.heap.size)(a:w.cell? ⟨b,o,none⟩=some v):w'.cell? ⟨b,o,none⟩=some v:=
 (h.cell (p:=⟨b,o,none⟩) c).trans a
theorem iO{w a w':zW}(h:zB w a)(b:Below a.heap.size a w'):zB w w':=h.trans (b.mono h.size)
theorem below_drewN{B:Nat}{a w:zW}(h:Below B a w)(n:Nat):Below B a (w.drewN n):=⟨h.os,h.tape,h.output,h.size,h.block⟩
structure bg (w:zW) (g:Nat) (t:TypeId) (arr:Array Value):Prop where
 get:w.heap[g]?=some (.cells arr t (0,0))
theorem bg.lt{w:zW}{g:Nat}{t:TypeId}{arr:Array Value}(h:bg w g t arr):g<w.heap.size:=(yC.1 h.get).1
theorem bg.cell{w:zW}{g:Nat}{t:TypeId}{arr:Array Value}(h:bg w g t arr){i:Nat}{v:zV}(hi:arr[i]?=some v):w.cell? ⟨g,i,none⟩=some v:=by
 simp[World.cell?,h.get,hi]
theorem bg.frozen{w:zW}{g:Nat}{t:TypeId}{arr:Array Value}(h:bg w g t arr)(i:Nat):w.frozen? ⟨g,i,none⟩=false:=by
 simp[World.frozen?,h.get]
theorem bg.of_heap{w w':zW}{g:Nat}{t:TypeId}{arr:Array Value}(h:bg w g t arr)(e:w'.heap[g]?=w.heap[g]?):bg w' g t arr:=⟨e.trans h.get⟩
theorem bg.al{w:zW}{g:Nat}{t:TypeId}{arr:Array Value}(h:bg w g t arr)(o:Obj):bg (w.alloc o) g t arr:=h.of_heap (Below.heap_alloc _ _ _ h.lt)
theorem bg.dr{w:zW}{g:Nat}{t:TypeId}{arr:Array Value}(h:bg w g t arr):bg w.drew g t arr:=h.of_heap rfl
theorem bg.FN{w:zW}{g:Nat}{t:TypeId}{arr:Array Value}(h:bg w g t arr)(n:Nat):bg (w.drewN n) g t arr:=h.of_heap rfl
theorem bg.set{w:zW}{g:Nat}{t:TypeId}{arr:Array Value}(h:bg w g t arr)(i:Nat)(v:zV):bg (w.setCell ⟨g,i,none⟩ v) g t (arr.setIfInBounds i v):=by
 constructor;simp[World.setCell,Array.getElem?_modify,h.get]
theorem bg.aF{B:Nat}{w w':zW}{g:Nat}{t:TypeId}{arr:Array Value}(h:bg w g t arr)(b:Below B w w')(a:g<B):bg w' g t arr:=h.of_heap (b.block _ a)
theorem bg.grown{w w':zW}{row:Option Nat}{g:Nat}{t:TypeId}{arr:Array Value}(h:bg w g t arr)(b:w.grownBy w' row)(a:some g≠row):bg w' g t arr:=h.of_heap (b.block _ h.lt a)
theorem bg.new(w:zW)(t:TypeId)(arr:Array Value):bg (w.alloc (.cells arr t)) w.heap.size t arr:=by
 constructor;show(w.heap.push _)[w.heap.size]?=_;simp
theorem fzJ{m:Mem}{w:zW}(h:m.az w)(o:Obj):m.az (w.alloc o):=
 ⟨fun k u hk=>(Below.heap_alloc _ _ _ (yC.1 (h.get k u hk)).1).trans (h.get k u hk)⟩
theorem gzc{m:Mem}{w:zW}(h:m.az w){a:Addr}(b:m a.block=none)(v:zV):m.az (w.setCell a v):=
 ⟨fun k u hk=>(Below.heap_setCell _ _ _ _ (by intro e;rw[e,b]at hk;cases hk)).trans (h.get k u hk)⟩
theorem ezU{m:Mem}{w w':zW}{row:Option Nat}(h:m.az w)(b:w.grownBy w' row)(a:∀k,row=some k->m k=none):m.az w':=
 ⟨fun k u hk=>(b.block k (yC.1 (h.get k u hk)).1 (by intro e;rw[a k e.symm]at hk;cases hk)).trans (h.get k u hk)⟩
theorem fz1{m:Mem}{w:zW}(h:m.az w){k:Nat}{o:Obj}(hk:m k=some o):k<w.heap.size:=(yC.1 (h.get k o hk)).1
theorem eza{m:Mem}{w:zW}(h:m.az w){k:Nat}(hk:w.heap.size<=k):m k=none:=by
 cases hm:m k with
 |none=>rfl
 |some o=>have:=fz1 h hm;omega
def Mem.grow(m:Mem)(w0 w:zW):Mem:=fun k=>if k<w0.heap.size then m k else w.heap[k]?
theorem bzx{m:Mem}{w0 w:zW}(h:m.az w0):m.le (m.grow w0 w):=⟨fun k o hk=>by
 unfold Mem.grow;rw[zK (fz1 h hk)];exact hk⟩
theorem fz6{m:Mem}{w0 w:zW}(h:m.az w0)(b:Below w0.heap.size w0 w):(m.grow w0 w).az w:=⟨fun k o hk=>by
 unfold Mem.grow at hk
 split at hk
 .rename_i a;exact(b.block k a).trans (h.get k o hk)
 .exact hk⟩
theorem fzQ{m:Mem}{w0 w:zW}{k:Nat}(h:m k=none)(hk:k<w0.heap.size):m.grow w0 w k=none:=by simp[Mem.grow,hk,h]
structure Mem.ext (m:Mem) (w0:zW) (mk:Mem):Prop where
 le:m.le mk
 dom:∀k o,mk k=some o->m k=some o\/w0.heap.size<=k
theorem ezZ(m:Mem)(w0:zW):m.ext w0 m:=⟨Mem.le_refl m,fun _ _ h=>.inl h⟩
theorem fz7{m:Mem}{w0 a b:zW}{mk:Mem}(h:m.ext w0 mk)(hi:mk.az a)(c:w0.heap.size<=a.heap.size):m.ext w0 (mk.grow a b):=
 ⟨Mem.le_trans h.le (bzx hi),fun k o hk=>by
  unfold Mem.grow at hk
  split at hk
  .exact h.dom k o hk
  .exact .inr zo⟩
theorem ezW{m:Mem}{w0 w:zW}{mk:Mem}(h:m.ext w0 mk)(hi:mk.az w):mk.le (m.grow w0 w):=⟨fun k o hk=>by
 unfold Mem.grow
 split
 .rename_i b;rcases h.dom k o hk with a|a
  .exact a
  .omega
 .exact hi.get k o hk⟩
def Mem.add(m:Mem)(w:zW)(g:Nat):Mem:=fun k=>if k=g then w.heap[g]? else m k
theorem fzF{m:Mem}{w:zW}{g:Nat}(h:m.az w):(m.add w g).az w:=⟨fun k o hk=>by
 unfold Mem.add at hk
 split at hk
 .rename_i e;rw[e];exact hk
 .exact h.get k o hk⟩
theorem dz9{m:Mem}{w:zW}{g:Nat}(h:m g=none):m.le (m.add w g):=⟨fun k o hk=>by
 unfold Mem.add;rw[zJ (fun e=>by rw[e,h]at hk;cases hk)];exact hk⟩
theorem fzE{m mk:Mem}{w0 w:zW}{g:Nat}(h:m.ext w0 mk)(b:mk g=none)(a:w0.heap.size<=g):m.ext w0 (mk.add w g):=
 ⟨Mem.le_trans h.le (dz9 b),fun k o hk=>by
  unfold Mem.add at hk
  split at hk
  .exact .inr zo
  .exact h.dom k o hk⟩
theorem fzw{m:Mem}{w:zW}{g k:Nat}(h:m k=none)(a:k≠g):m.add w g k=none:=by simp[Mem.add,a,h]
theorem bzy{m:Mem}{w:zW}{g:Nat}{t:TypeId}{arr:Array Value}(h:bg w g t arr){i:Nat}{v:zV}(hi:arr[i]?=some v):(m.add w g).cell g i=some v:=by
 simp[Mem.cell,Mem.add,h.get,hi]
structure fB (P:Program) (t e:TypeId) (size bytes:Nat):Prop where
 ht:P.underlying t=some (.slice e)
 pos:0<size
 info:∃i z,P.info? e=some i/\i.zero=some z/\i.size=size/\i.bytes=bytes/\z.cells.size=size
theorem kX{P:Program}{t e:TypeId}{size bytes:Nat}(S:fB P t e size bytes)(w:zW)(x:TypeId)
(v:zV)(n:Nat)(xs:List Value)(l:w.ownsRow 0 e size v n xs)
(a:Addr)(m c:Nat)(dQ:List Value)(A:dQ.length=m*size)(d:∀j u,dQ[j]?=some u->w.cell? (a.add j)=some u)(I:∀u∈dQ,u.oneCell'=true)
(r:n+m<=maxLen)(f:(n+m)*bytes<=140737488355328):
 ∃v' w',(Builtin.append_ #[t,t] x #[v,.slice (some a) m c]).run P w=.ok v' w'/\w'.ownsRow 0 e size v' (n+m) (xs++dQ)/\w.grownBy w' v.ownBlock /\
  (∀k,v'.ownBlock=some k->v.ownBlock=some k\/w.heap.size<=k):=by
 obtain⟨i,z,hi,E,b,q,y⟩:=S.info;obtain⟨v',w',D,R,Q,V⟩:=run_append_own (P:=P) w 0 t x e i z size bytes S.ht hi E b q y S.pos v n xs l a m c dQ A d I r f (zG _);refine⟨v',w',D,R,Q,?_⟩;intro k hk;rcases l.2 with⟨rfl,rfl⟩|⟨g,s,C,rfl,N,L,K,M,G,F⟩
 ·
  have J:xs=[]:=yM (by simpa using l.1);subst J;obtain⟨U,T,h,H,-,-⟩:=run_append_own (P:=P) w w.heap.size t x e i z size bytes S.ht hi E b q y S.pos (.n) 0 [] (World.ownsRow_nil _ _ _ _) a m c dQ A d I r f (zI _);rw[D]at h;cases h;exact .inr (H.lt k hk).1
 .by_cases o:n+m<=s
  .have B:n*size+dQ.length<=C.size:=by rw[A,G,<-Nat.add_mul];exact Nat.mul_le_mul_right _ o
   subst b;have h:=run_append_room (P:=P) w t x e i S.ht hi g n s C L a m c dQ A d I o B;rw[D]at h;cases h;exact .inl hk
  .have p:∀j u,xs[j]?=some u->w.cell? ((⟨g,0,none⟩:Addr).add j)=some u:=l.cells (g:=g) rfl;subst b;have O:(n+m)*i.bytes<=140737488355328:=by rw[q];exact f
   have h:=run_append_grow (P:=P) w t x e i z S.ht hi E ⟨g,0,none⟩ n s xs l.1 p a m c dQ A d zo (by simp only[maxLen]at r;omega) (growslice_fits zo O);rw[D]at h;cases h;simp[Value.ownBlock]at hk;exact .inr zo
theorem bv{w:zW}{t:TypeId}{size:Nat}{v:zV}{n:Nat}{xs:List Value}(h:w.ownsRow 0 t size v n xs):∃a c,v=.slice a n c:=by
 rcases h.2 with⟨rfl,rfl⟩|⟨g,d,b,rfl,-⟩
 .exact⟨_,_,rfl⟩
 .exact⟨_,_,rfl⟩
theorem fQ{P:Program}{t e:TypeId}{size bytes:Nat}(S:fB P t e size bytes){w:zW}{o:Oper}{a:Act}{K:Act->World->Prop}{Q:Exit->Act->World->Prop}(s x:Operand)
(ho:o.op=.call { callee:=.builtin .append,args:=#[s,x],argTypes:=#[t,t] })
(v:zV)(n:Nat)(xs:List Value)(hs:a.eval s=v)(hown:w.ownsRow 0 e size v n xs)
(ad:Addr)(m c:Nat)(dQ:List Value)(hx:a.eval x=.slice (some ad) m c)(hl:dQ.length=m*size)(hnews:∀j u,dQ[j]?=some u->w.cell? (ad.add j)=some u)(h1:∀u∈dQ,u.oneCell'=true)
(h63:n+m<=maxLen)(hbytes:(n+m)*bytes<=140737488355328)
(h:∀va vc w',w'.ownsRow 0 e size (.slice va (n+m) vc) (n+m) (xs++dQ)->w.grownBy w' v.ownBlock->(∀k,(Value.slice va (n+m) vc).ownBlock=some k->v.ownBlock=some k\/w.heap.size<=k)->K (a.put o.dst (.slice va (n+m) vc)) w'):o.wp P a w K Q:=by
 obtain⟨v',w',hr,h2,h3,h4⟩:=kX S w o.type v n xs hown ad m c dQ hl hnews h1 h63 hbytes;obtain⟨va,vc,rfl⟩:=bv h2;unfold Oper.wp execOp;simp only[ho,resolve,invoke,builtin,Sem.run_bind,Sem.run_pure,Result.andThen_ok,List.map_toArray,yL,xB,hs,hx,hr];exact h va vc w' h2 h3 h4
theorem aU{P:Program}{t e:TypeId}{size bytes:Nat}(S:fB P t e size bytes){w:zW}{ops:Array Oper}{rest:List Oper}{o:Oper}{a:Act}{Q:Exit->Act->World->Prop}(hgd:o.guard=none)(s x:Operand)
(ho:o.op=.call { callee:=.builtin .append,args:=#[s,x],argTypes:=#[t,t] })
(v:zV)(n:Nat)(xs:List Value)(hs:a.eval s=v)(hown:w.ownsRow 0 e size v n xs)
(ad:Addr)(m c:Nat)(dQ:List Value)(hx:a.eval x=.slice (some ad) m c)(hl:dQ.length=m*size)(hnews:∀j u,dQ[j]?=some u->w.cell? (ad.add j)=some u)(h1:∀u∈dQ,u.oneCell'=true)
(h63:n+m<=maxLen)(hbytes:(n+m)*bytes<=140737488355328)
(h:∀va vc w',w'.ownsRow 0 e size (.slice va (n+m) vc) (n+m) (xs++dQ)->w.grownBy w' v.ownBlock->(∀k,(Value.slice va (n+m) vc).ownBlock=some k->v.ownBlock=some k\/w.heap.size<=k)->wpList P ops Q rest (a.put o.dst (.slice va (n+m) vc)) w'):wpList P ops Q (o::rest) a w:=
 wpList_plain hgd fun _ hK=>fQ S s x ho v n xs hs hown ad m c dQ hx hl hnews h1 h63 hbytes fun va vc w' h2 h3 h4=>hK _ _ (h va vc w' h2 h3 h4)
def Mem.iA(m:Mem)(w:zW)(v:zV):Mem:=match v.ownBlock with
 |some g=>m.add w g
 |none=>m
def Mem.free(m:Mem)(v:zV):Prop:=∀k,v.ownBlock=some k->m k=none
theorem fzv{m:Mem}{w:zW}(h:m.az w)(v:zV):(m.iA w v).az w:=by
 unfold Mem.iA;split
 .exact fzF h
 .exact h
theorem czS{m:Mem}{w:zW}{v:zV}(h:m.free v):m.le (m.iA w v):=by
 unfold Mem.iA;split
 .rename_i g a;exact dz9 (h g a)
 .exact Mem.le_refl m
theorem ez2{m mk:Mem}{w0 w:zW}{v:zV}(h:m.ext w0 mk)(b:mk.free v)(a:∀k,v.ownBlock=some k->w0.heap.size<=k):m.ext w0 (mk.iA w v):=by
 unfold Mem.iA;split
 .rename_i g e;exact fzE h (b g e) (a g e)
 .exact h
theorem fz0{m:Mem}{w:zW}{v:zV}{k:Nat}(h:m k=none)(a:v.ownBlock≠some k):m.iA w v k=none:=by
 cases hv:v.ownBlock with
 |none=>simp only[Mem.iA,hv];exact h
 |some g=>simp only[Mem.iA,hv];exact fzw h (fun x=>a (by rw[hv,x]))
theorem eO{w:zW}{t:TypeId}{size:Nat}{v:zV}{n:Nat}{xs:List Value}(b:w.ownsRow 0 t size v n xs){g:Nat}(d:v.ownBlock=some g)(m:Mem){j:Nat}{u:zV}(c:xs[j]?=some u):(m.iA w v).cell g j=some u:=by
 rcases b.2 with⟨rfl,rfl⟩|⟨o,l,k,rfl,-,i,e,h,f,a⟩
 .cases d
 .simp only[Value.ownBlock,Option.some.injEq]at d;subst d;simp only[Mem.iA,Value.ownBlock,Mem.cell,Mem.add,if_true,i];rw[<-a,List.getElem?_take]at c
  split at c
  .simpa using c
  .cases c
theorem eY{α:Type}{R:Nat->Nat->α->Prop}{w:zW}{t:TypeId}{size:Nat}{v:zV}{l:List α}{xs:List Value}(a:w.ownsRow 0 t size v l.length xs)
(m:∀g,v.ownBlock=some g->∀i (h:i<l.length),R g (i*size) l[i]):Mem.slice R size v l:=by
 rcases a.2 with⟨rfl,j⟩|⟨g,f,n,rfl,-,o,d,e,k,b⟩
 .refine⟨none,0,by rw[j],zo,by simp[maxLen],fun c=>absurd (yM j) c⟩
 .refine⟨some ⟨g,0,none⟩,f,rfl,d,e,fun _=>⟨g,0,rfl,fun i h=>?_⟩⟩;rw[yZ];exact m g rfl i h
theorem oN{α:Type}{R:Nat->Nat->α->Prop}{w:zW}{t:TypeId}{v:zV}{l:List α}{xs:List Value}(d:w.ownsRow 0 t 1 v l.length xs)
(j:∀g,v.ownBlock=some g->∀i (h:i<l.length),R g i l[i]):Mem.uR R v l:=by
 obtain⟨a,c,q,p,o,n⟩:=eY (R:=R) d (fun g f i h=>by rw[Nat.mul_one];exact j g f i h);refine⟨a,c,q,p,o,fun e=>?_⟩;obtain⟨b,off,m,k⟩:=n e;exact⟨b,off,m,fun i hi=>by have:=k i hi;rwa [Nat.mul_one]at this⟩
structure rD (m:Mem) (xs:List Value) (l:aK):Prop where
 len:xs.length=l.length*2
 acc:∀i (h:i<l.length),xs[i*2]?=some (.bool (l[i]).bW)
 edg:∀i (h:i<l.length),∃ve,xs[i*2+1]?=some ve/\lW m ve (l[i]).bu
theorem rD.nil(m:Mem):rD m [] []:=⟨rfl,fun i h=>by simp at h,fun i h=>by simp at h⟩
theorem rD.mono{m m':Mem}{xs:List Value}{l:aK}(h:rD m xs l)(a:m.le m'):rD m' xs l:=
 ⟨h.len,h.acc,fun i hi=>let ⟨ve,h1,h2⟩:=h.edg i hi;⟨ve,h1,rq a h2⟩⟩
theorem rD.push{m:Mem}{xs:List Value}{l:aK}(h:rD m xs l){s:Sn}{a:zV}(b:lW m a s.bu):rD m (xs++[.bool s.bW,a]) (l++[s]):=by
 refine⟨by simp[h.len,Nat.add_mul],fun i hi=>?_,fun i hi=>?_⟩
 .by_cases c:i<l.length
  .rw[yK (by rw[h.len];omega),h.acc i c,xM c]
  .have:i=l.length:=by simp at hi;omega
   subst this;exact qcN
 .by_cases c:i<l.length
  .obtain⟨u,h1,h2⟩:=h.edg i c;exact qcE
  .have:i=l.length:=by simp at hi;omega
   subst this;refine⟨a,?_,by simpa using b⟩;exact qcN
theorem pQ{w:zW}{t:TypeId}{v:zV}{l:aK}{xs:List Value}{m:Mem}(a:w.ownsRow 0 t 2 v l.length xs)(b:rD m xs l)(d:m.free v):aV (m.iA w v) v l:=
 eY a fun _ c i h=>⟨eO a c m (b.acc i h),let ⟨ve,h1,h2⟩:=b.edg i h;⟨ve,eO a c m h1,rq (czS d) h2⟩⟩
def gF(es:List Ed):List Value:=es.flatMap fun e=>[.int .u8 e.lo,.int .u8 e.hi,.j e.to]
def ezE(e:Ed):Prop:=e.lo<256/\e.hi<256 /\ -9223372036854775808<=e.to/\e.to<=9223372036854775807
theorem nN(es:List Ed):(gF es).length=es.length*3:=by
 induction es with
 |nil=>rfl
 |cons e es ih=>simp only[gF,xO,zL]at*;simp[ih];omega
theorem pE(es:List Ed):∀i (h:i<es.length),(gF es)[i*3]?=some (.int .u8 es[i].lo)/\(gF es)[i*3+1]?=some (.int .u8 es[i].hi)/\(gF es)[i*3+2]?=some (.j es[i].to):=by
 induction es with
 |nil=>intro i h;simp at h
 |cons e es ih=>
  intro i h
  cases i with
  |zero=>simp[gF]
  |succ i=>
   have:=ih i qd5;simp only[gF,xO]at*
   rw[show(i+1)*3=i*3+3 by omega,show i*3+3+1=(i*3+1)+3 by omega,show i*3+3+2=(i*3+2)+3 by omega];exact qbe
theorem nO(es:List Ed)(e:Ed):gF (es++[e])=gF es++[.int .u8 e.lo,.int .u8 e.hi,.j e.to]:=by simp[gF]
theorem q9{w:zW}{t:TypeId}{v:zV}{l:List Ed}{m:Mem}(a:w.ownsRow 0 t 3 v l.length (gF l))(hk:∀e∈l,ezE e):lW (m.iA w v) v l:=
 eY a fun g b i h=>by
  obtain⟨f,d,c⟩:=pE l i h;exact⟨eO a b m f,eO a b m d,eO a b m c,hk _ (zF h)⟩
theorem jE{w:zW}{t:TypeId}{v:zV}{l:List Int}{m:Mem}(a:w.ownsRow 0 t 1 v l.length (l.map (Value.int .i64)))(hk:∀x∈l,-9223372036854775808<=x/\x<=9223372036854775807):iT (m.iA w v) v l:=
 oN a fun g b i h=>⟨eO a b m qeE,hk _ (zF h)⟩
theorem nR{w:zW}{t:TypeId}{v:zV}{l:List Bool}{m:Mem}(a:w.ownsRow 0 t 1 v l.length (l.map Value.bool)):jK (m.iA w v) v l:=
 oN a fun g b i h=>eO a b m qeE
theorem czf{m mk:Mem}{w0 w:zW}{v:zV}(b:m.ext w0 mk)(hi:mk.az w)(c:mk.free v)(a:∀k,v.ownBlock=some k->w0.heap.size<=k):(mk.iA w v).le (m.grow w0 w):=
 ezW (ez2 b c a) (fzv hi v)
theorem below_grown{w0 w w':zW}{v:zV}(b:Below w0.heap.size w0 w)(c:w.grownBy w' v.ownBlock)(a:∀k,v.ownBlock=some k->w0.heap.size<=k):Below w0.heap.size w0 w':=
 b.grown c b.size a
theorem XN{mk:Mem}{w:zW}{v v':zV}{N:Nat}(hi:mk.az w)(b:mk.free v)(a:∀k,v'.ownBlock=some k->v.ownBlock=some k\/N<=k)(c:w.heap.size<=N):mk.free v':=fun k hk=>by
 rcases a k hk with h|h
 .exact b k h
 .exact eza hi zo
theorem czw{n N:Nat}{v v':zV}(b:∀k,v.ownBlock=some k->n<=k)(a:∀k,v'.ownBlock=some k->v.ownBlock=some k\/N<=k)(c:n<=N):∀k,v'.ownBlock=some k->n<=k:=fun k hk=>by
 rcases a k hk with h|h
 .exact b k h
 .omega
theorem bg.dQ{w:zW}{g:Nat}{t:TypeId}{arr:Array Value}(h:bg w g t arr){l:List Value}(a:arr.toList=l):∀j u,l[j]?=some u->w.cell? ((⟨g,0,none⟩:Addr).add j)=some u:=by
 intro j u hj;subst a;rw[Addr.add_lit,yZ];exact h.cell qdP
theorem bg.c{w:zW}{g:Nat}{t:TypeId}{arr:Array Value}{v:zV}(h:bg w g t arr)(i:Nat)(e:arr[i]?=some v:=by rfl):w.cell? ⟨g,i,none⟩=some v:=h.cell e
theorem bg.cs6{w:zW}{g:Nat}{t:TypeId}{a b c d e f:zV}(h:bg w g t #[a,b,c,d,e,f]):w.cell? ⟨g,0,none⟩=some a/\w.cell? ⟨g,1,none⟩=some b/\w.cell? ⟨g,2,none⟩=some c/\w.cell? ⟨g,3,none⟩=some d/\w.cell? ⟨g,4,none⟩=some e/\w.cell? ⟨g,5,none⟩=some f:=⟨h.cell rfl,h.cell rfl,h.cell rfl,h.cell rfl,h.cell rfl,h.cell rfl⟩
theorem bg.cs5{w:zW}{g:Nat}{t:TypeId}{a b c d e:zV}(h:bg w g t #[a,b,c,d,e]):w.cell? ⟨g,0,none⟩=some a/\w.cell? ⟨g,1,none⟩=some b/\w.cell? ⟨g,2,none⟩=some c/\w.cell? ⟨g,3,none⟩=some d/\w.cell? ⟨g,4,none⟩=some e:=⟨h.cell rfl,h.cell rfl,h.cell rfl,h.cell rfl,h.cell rfl⟩
theorem bg.fr6{w:zW}{g:Nat}{t:TypeId}{arr:Array Value}(h:bg w g t arr):w.frozen? ⟨g,0,none⟩=false/\w.frozen? ⟨g,1,none⟩=false/\w.frozen? ⟨g,2,none⟩=false/\w.frozen? ⟨g,3,none⟩=false/\w.frozen? ⟨g,4,none⟩=false/\w.frozen? ⟨g,5,none⟩=false:=⟨h.frozen 0,h.frozen 1,h.frozen 2,h.frozen 3,h.frozen 4,h.frozen 5⟩
theorem bg.fr5{w:zW}{g:Nat}{t:TypeId}{arr:Array Value}(h:bg w g t arr):w.frozen? ⟨g,0,none⟩=false/\w.frozen? ⟨g,1,none⟩=false/\w.frozen? ⟨g,2,none⟩=false/\w.frozen? ⟨g,3,none⟩=false/\w.frozen? ⟨g,4,none⟩=false:=⟨h.frozen 0,h.frozen 1,h.frozen 2,h.frozen 3,h.frozen 4⟩
theorem bg.cf6{w:zW}{g:Nat}{t:TypeId}{a b c d e f:zV}(h:bg w g t #[a,b,c,d,e,f]):w.cell? ⟨g,0,none⟩=some a/\w.cell? ⟨g,1,none⟩=some b/\w.cell? ⟨g,2,none⟩=some c/\w.cell? ⟨g,3,none⟩=some d/\w.cell? ⟨g,4,none⟩=some e/\w.cell? ⟨g,5,none⟩=some f/\w.frozen? ⟨g,0,none⟩=false/\w.frozen? ⟨g,1,none⟩=false/\w.frozen? ⟨g,2,none⟩=false/\w.frozen? ⟨g,3,none⟩=false/\w.frozen? ⟨g,4,none⟩=false/\w.frozen? ⟨g,5,none⟩=false:=⟨h.cell rfl,h.cell rfl,h.cell rfl,h.cell rfl,h.cell rfl,h.cell rfl,h.fr6⟩
theorem bg.cf5{w:zW}{g:Nat}{t:TypeId}{a b c d e:zV}(h:bg w g t #[a,b,c,d,e]):w.cell? ⟨g,0,none⟩=some a/\w.cell? ⟨g,1,none⟩=some b/\w.cell? ⟨g,2,none⟩=some c/\w.cell? ⟨g,3,none⟩=some d/\w.cell? ⟨g,4,none⟩=some e/\w.frozen? ⟨g,0,none⟩=false/\w.frozen? ⟨g,1,none⟩=false/\w.frozen? ⟨g,2,none⟩=false/\w.frozen? ⟨g,3,none⟩=false/\w.frozen? ⟨g,4,none⟩=false:=⟨h.cell rfl,h.cell rfl,h.cell rfl,h.cell rfl,h.cell rfl,h.fr5⟩
inductive bA where
 |obj (g:Nat) (t:TypeId) (arr:Array Value)
 |row (v:zV) (t:TypeId) (size n:Nat) (xs:List Value)
 |gN (g:Nat) (o:Obj)
def bA.blk:bA->Option Nat
 |.obj g _ _=>some g
 |.row v _ _ _ _=>v.ownBlock
 |.gN g _=>some g
def bA.ok(w:zW):bA->Prop
 |.obj g t arr=>bg w g t arr
 |.row v t size n xs=>w.ownsRow 0 t size v n xs
 |.gN g o=>w.heap[g]?=some o
def bA.apart(a b:bA):Prop:=∀k,a.blk=some k->b.blk=some k->False
theorem bA.oq{w w':zW}{it:bA}(h:it.ok w)(e:∀k,it.blk=some k->w'.heap[k]?=w.heap[k]?):it.ok w':=by
 cases it with
 |obj g t arr=>exact bg.of_heap h (e g rfl)
 |row v t size n xs=>
  obtain⟨j,a⟩:=h;refine⟨j,?_⟩;rcases a with a|⟨g,c,b,d,i,f,r⟩
  .exact .inl a
  .exact .inr ⟨g,c,b,d,i,by rw[e g (by rw[d];rfl)];exact f,r⟩
 |gN g o=>exact(e g rfl).trans h
theorem bA.lt{w:zW}{it:bA}(h:it.ok w){k:Nat}(hk:it.blk=some k):k<w.heap.size:=by
 cases it with
 |obj g t arr=>simp only[bA.blk,Option.some.injEq]at hk;subst hk;exact bg.lt h
 |row v t size n xs=>exact(World.ownsRow.lt h k hk).2
 |gN g o=>simp only[bA.blk,Option.some.injEq]at hk;subst hk;exact(yC.1 h).1
structure Own (w0:zW) (m:Mem) (w:zW) (mk:Mem) (L:List bA):Prop where
 m0:m.az w0
 aF:Below w0.heap.size w0 w
 ext:m.ext w0 mk
 az:mk.az w
 ok:∀it∈L,it.ok w
 ik:∀it∈L,∀k,it.blk=some k->w0.heap.size<=k/\mk k=none
 apart:L.Pairwise bA.apart
section
variable {w0 w w':zW} {m mk:Mem} {L:List bA}
theorem Own.start(h:m.az w):Own w m w m []:=⟨h,zR _ _,ezZ _ _,h,zS,zS,.nil⟩
theorem Own.aT(h:Own w0 m w mk L)(a:zB w w'):Own w0 m w' mk L:=
 ⟨h.m0,iO h.aF a,h.ext,dzE h.az a,fun it hi=>bA.oq (h.ok it hi) fun k hk=>a.block k (bA.lt (h.ok it hi) hk),h.ik,h.apart⟩
theorem Own.al'(h:Own w0 m w mk L)(o:Obj):Own w0 m (w.alloc o) mk L:=h.aT (bY (zR _ _) o)
theorem Own.dr(h:Own w0 m w mk L):Own w0 m w.drew mk L:=h.aT (zR _ _).drew
theorem Own.FN(h:Own w0 m w mk L)(n:Nat):Own w0 m (w.drewN n) mk L:=h.aT (below_drewN (zR _ _) n)
theorem Own.cons(h:Own w0 m w mk L){it:bA}(d:it.ok w)(c:∀k,it.blk=some k->w0.heap.size<=k/\mk k=none)(a:∀b∈L,it.apart b):Own w0 m w mk (it::L):=
 ⟨h.m0,h.aF,h.ext,h.az,by simp only[yA,forall_eq_or_imp];exact⟨d,h.ok⟩,by simp only[yA,forall_eq_or_imp];exact⟨c,h.ik⟩,.cons a h.apart⟩
theorem Own.sub{L':List bA}(h:Own w0 m w mk L)(a:L'.Sublist L):Own w0 m w mk L':=
 ⟨h.m0,h.aF,h.ext,h.az,fun it hi=>h.ok it (a.subset hi),fun it hi=>h.ik it (a.subset hi),h.apart.sublist a⟩
theorem Own.perm{L':List bA}(h:Own w0 m w mk L)(a:L'.Perm L):Own w0 m w mk L':=
 ⟨h.m0,h.aF,h.ext,h.az,fun it hi=>h.ok it (a.subset hi),fun it hi=>h.ik it (a.subset hi),(a.symm.pairwise_iff (fun {_ _} hab k h1 h2=>hab k h2 h1)).1 h.apart⟩
theorem Own.tail{it:bA}(h:Own w0 m w mk (it::L)):Own w0 m w mk L:=h.sub (List.sublist_cons_self _ _)
theorem Own.bM{a b:bA}(h:Own w0 m w mk (a::b::L)):Own w0 m w mk (a::L):=h.sub (.cons_cons _ (.cons _ (List.Sublist.refl _)))
theorem Own.Bd{a b c:bA}(h:Own w0 m w mk (a::b::c::L)):Own w0 m w mk (a::b::L):=h.sub (.cons_cons _ (.cons_cons _ (.cons _ (List.Sublist.refl _))))
theorem Own.dzO{a b c d:bA}(h:Own w0 m w mk (a::b::c::d::L)):Own w0 m w mk (a::b::c::L):=h.sub (.cons_cons _ (.cons_cons _ (.cons_cons _ (.cons _ (List.Sublist.refl _)))))
theorem Own.av{a b:bA}(h:Own w0 m w mk (a::b::L)):Own w0 m w mk (b::a::L):=h.perm (List.Perm.swap _ _ _)
theorem Own.aR{a b c:bA}(h:Own w0 m w mk (a::b::c::L)):Own w0 m w mk (c::a::b::L):=h.perm ((List.Perm.swap _ _ _).trans (List.Perm.cons _ (List.Perm.swap _ _ _)))
theorem Own.bV{a b c d:bA}(h:Own w0 m w mk (a::b::c::d::L)):Own w0 m w mk (d::a::b::c::L):=
 h.perm ((List.Perm.swap _ _ _).trans (List.Perm.cons _ ((List.Perm.swap _ _ _).trans (List.Perm.cons _ (List.Perm.swap _ _ _)))))
theorem Own.R8{a b c:bA}(h:Own w0 m w mk (a::b::c::L)):Own w0 m w mk (a::c::b::L):=h.perm (List.Perm.cons _ (List.Perm.swap _ _ _))
theorem Own.at{g:Nat}{t:TypeId}{arr:Array Value}(h:Own w0 m w mk L)(hi:bA.obj g t arr∈L):bg w g t arr:=h.ok _ hi
theorem Own.al(h:Own w0 m w mk L)(arr:Array Value)(t:TypeId):Own w0 m (w.alloc (.cells arr t)) mk (.obj w.heap.size t arr::L):=
 (h.al' (.cells arr t)).cons (bg.new _ _ _) (fun k hk=>by simp only[bA.blk,Option.some.injEq]at hk;subst hk;exact⟨h.aF.size,eza h.az (zI _)⟩)
  (fun b c k a d=>by simp only[bA.blk,Option.some.injEq]at a;subst a;exact absurd (bA.lt (h.ok b c) d) (Nat.lt_irrefl _))
theorem Own.fE(h:Own w0 m w mk L)(t:TypeId)(size:Nat):Own w0 m w mk (.row (.n) t size 0 []::L):=
 h.cons (World.ownsRow_nil _ _ _ _) (fun k hk=>by cases hk) (fun b _ k a _=>by cases a)
theorem Own.set{g:Nat}{t:TypeId}{arr:Array Value}(h:Own w0 m w mk (.obj g t arr::L))(i:Nat)(v:zV):Own w0 m (w.setCell ⟨g,i,none⟩ v) mk (.obj g t (arr.setIfInBounds i v)::L):=by
 have hf:=h.ik _ (yF ..) g rfl;have hap:=yS.1 h.apart;refine⟨h.m0,h.aF.setCell hf.1 v,h.ext,gzc h.az hf.2 v,?_,?_,.cons ?_ hap.2⟩
 .simp only[yA,forall_eq_or_imp];exact⟨bg.set (h.ok _ (yF ..)) i v,fun it hi=>bA.oq (h.ok it (zU _ hi)) fun k hk=>
   Below.heap_setCell _ _ _ _ (fun e=>hap.1 it hi g rfl (by rw[hk,e]))⟩
 .exact qgx
 .exact qct
theorem Own.app{v v':zV}{t:TypeId}{size n i:Nat}{xs c:List Value}(h:Own w0 m w mk (.row v t size n xs::L))(q:w'.ownsRow 0 t size v' i c)(f:w.grownBy w' v.ownBlock)
{N:Nat}(j:∀k,v'.ownBlock=some k->v.ownBlock=some k\/N<=k)(r:w.heap.size<=N):Own w0 m w' mk (.row v' t size i c::L):=by
 have g:=h.ik _ (yF ..);have a:=yS.1 h.apart;refine⟨h.m0,below_grown h.aF f (fun k hk=>(g k hk).1),h.ext,ezU h.az f (fun k hk=>(g k hk).2),?_,?_,.cons ?_ a.2⟩
 .simp only[yA,forall_eq_or_imp];exact⟨q,fun it hi=>bA.oq (h.ok it (zU _ hi)) fun k hk=>f.block k (bA.lt (h.ok it (zU _ hi)) hk) (fun e=>a.1 it hi k e.symm hk)⟩
 .simp only[yA,forall_eq_or_imp];exact⟨fun k hk=>(j k hk).elim (fun d=>g k d) (fun d=>⟨by have:=h.aF.size;omega,eza h.az zo⟩),fun it hi=>h.ik it (zU _ hi)⟩
 .intro b l k d p;rcases j k d with o|o
  .exact a.1 b l k o p
  .have:=bA.lt (h.ok b (zU _ l)) p;omega
theorem Own.call(h:Own w0 m w mk L)(a:zB w w'):Own w0 m w' (mk.grow w w') L:=
 ⟨h.m0,iO h.aF a,fz7 h.ext h.az h.aF.size,fz6 h.az a,(h.aT a).ok,
  fun it hi k hk=>⟨(h.ik it hi k hk).1,fzQ (h.ik it hi k hk).2 (bA.lt (h.ok it hi) hk)⟩,h.apart⟩
theorem Own.bP{v:zV}{t:TypeId}{size n:Nat}{xs:List Value}(h:Own w0 m w mk (.row v t size n xs::L)):Own w0 m w (mk.iA w v) L:=by
 have b:=h.ik _ (yF ..);have a:=yS.1 h.apart;exact⟨h.m0,h.aF,ez2 h.ext (fun k hk=>(b k hk).2) (fun k hk=>(b k hk).1),fzv h.az v,fun it hi=>h.ok it (zU _ hi),
  fun it hi k hk=>⟨(h.ik it (zU _ hi) k hk).1,fz0 (h.ik it (zU _ hi) k hk).2 (fun e=>a.1 it hi k e hk)⟩,a.2⟩
theorem Own.iC{g:Nat}{t:TypeId}{arr:Array Value}(h:Own w0 m w mk (.obj g t arr::L)):Own w0 m w (mk.add w g) L:=by
 have b:=h.ik _ (yF ..) g rfl;have a:=yS.1 h.apart;exact⟨h.m0,h.aF,fzE h.ext b.2 b.1,fzF h.az,fun it hi=>h.ok it (zU _ hi),
  fun it hi k hk=>⟨(h.ik it (zU _ hi) k hk).1,fzw (h.ik it (zU _ hi) k hk).2 (fun e=>a.1 it hi g rfl (by rw[hk,e]))⟩,a.2⟩
theorem Own.free{v:zV}{t:TypeId}{size n:Nat}{xs:List Value}(h:Own w0 m w mk (.row v t size n xs::L)):mk.free v:=fun k hk=>(h.ik _ (yF ..) k hk).2
theorem Own.j6{g:Nat}{t:TypeId}{arr:Array Value}(h:Own w0 m w mk (.obj g t arr::L)):mk g=none:=(h.ik _ (yF ..) g rfl).2
theorem Own.row{v:zV}{t:TypeId}{size n:Nat}{xs:List Value}(h:Own w0 m w mk (.row v t size n xs::L)):w.ownsRow 0 t size v n xs:=h.ok _ (yF ..)
theorem Own.obj{g:Nat}{t:TypeId}{arr:Array Value}(h:Own w0 m w mk (.obj g t arr::L)):bg w g t arr:=h.ok _ (yF ..)
theorem Own.done(h:Own w0 m w mk L):mk.le (m.grow w0 w):=ezW h.ext h.az
end
theorem bO{w:zW}{t:TypeId}{size n a g:Nat}{xs:List Value}(h:w.ownsRow 0 t size (.slice (some ⟨g,0,none⟩) n a) n xs){j:Nat}{u:zV}(b:xs[j]?=some u):w.cell? ⟨g,j,none⟩=some u:=by
 have:=h.cells (g:=g) rfl j u b
 rwa [Addr.add_lit,yZ]at this
theorem fD{w:zW}{t:TypeId}{size n b g:Nat}{xs:List Value}(h:w.ownsRow 0 t size (.slice (some ⟨g,0,none⟩) n b) n xs)(j:Nat):w.frozen? ⟨g,j,none⟩=false:=by
 rcases h.2 with⟨a,-⟩|⟨f,c,e,a,-,d,-⟩
 .cases a
 .cases a;simp[World.frozen?,d]
section
variable {w0 w w':zW} {m mk mk':Mem} {L L':List bA}
theorem Own.setRow{g n a size:Nat}{t:TypeId}{xs:List Value}(h:Own w0 m w mk (.row (.slice (some ⟨g,0,none⟩) n a) t size n xs::L))(j:Nat)(u:zV):
 Own w0 m (w.setCell ⟨g,j,none⟩ u) mk (.row (.slice (some ⟨g,0,none⟩) n a) t size n (xs.set j u)::L):=by
 obtain⟨c,b⟩:=h.row.stored j u;exact h.app c b (N:=w.heap.size) (fun k hk=>.inl hk) (zI _)
theorem Own.make(h:Own w0 m w mk L){n a size:Nat}{t:TypeId}{xs:List Value}(b:w'.ownsRow 0 t size (.slice (some ⟨w.heap.size,0,none⟩) n a) n xs)(c:w.grownBy w' none):
 Own w0 m w' mk (.row (.slice (some ⟨w.heap.size,0,none⟩) n a) t size n xs::L):=
 (h.fE t size).app b c (N:=w.heap.size) (fun k hk=>by simp[Value.ownBlock]at hk;exact .inr zo) (zI _)
theorem Own.join(h:Own w0 m w mk L)(d:Own w mk w' mk' L'):Own w0 m w' mk' (L'++L):=by
 refine⟨h.m0,iO h.aF d.aF,⟨Mem.le_trans h.ext.le d.ext.le,fun k o hk=>?_⟩,d.az,?_,?_,?_⟩
 .rcases d.ext.dom k o hk with c|c
  .exact h.ext.dom k o c
  .exact .inr (yJ h.aF.size c)
 .intro it hi;rcases yP.1 hi with c|c
  .exact d.ok it c
  .exact(h.aT d.aF).ok it c
 .intro it hi k hk;rcases yP.1 hi with c|c
  .exact⟨yJ h.aF.size (d.ik it c k hk).1,(d.ik it c k hk).2⟩
  .refine⟨(h.ik it c k hk).1,?_⟩
   cases hm:mk' k with
   |none=>rfl
   |some o=>
    rcases d.ext.dom k o hm with e|e
    .rw[(h.ik it c k hk).2]at e;cases e
    .exact absurd (bA.lt (h.ok it c) hk) zo
 .rw[List.pairwise_append];refine⟨d.apart,h.apart,fun a g b f k c e=>?_⟩;have j:=(d.ik a g k c).1;have i:=bA.lt (h.ok b f) e;omega
end
theorem ZZ(z:zV)(n:Nat):(madeCells #[z] (n*1)).toList=List.replicate n z:=by
 apply vF
 .simp[madeCells]
 .intro i b a;simp[madeCells,Nat.mod_one]
structure OM (P:Program) (t e:TypeId) (bytes:Nat) (z:zV):Prop where
 ht:P.underlying t=some (.slice e)
 info:(P.info? e).map (fun i=>(i.zero,i.size,i.bytes))=some (some z,1,bytes)
 one:z.cells=#[z]
theorem wpList_make_row{P:Program}{t e:TypeId}{bytes:Nat}{z:zV}(S:OM P t e bytes z){w:zW}{ops:Array Oper}{rest:List Oper}{o:Oper}{a:Act}{Q:Exit->Act->World->Prop}
(j:o.guard=none)(l c:Operand)(b:o.op=Op.makeSlice t l c)(n:Nat)(h:a.eval l=.j n)(k:a.eval c=.j n)(s:bytes*n<=281474976710656)(r:n<=maxLen)
(p:∀w',w'.ownsRow 0 e 1 (.slice (some ⟨w.heap.size,0,none⟩) n n) n (List.replicate n z)->w.grownBy w' none->wpList P ops Q rest (a.put o.dst (.slice (some ⟨w.heap.size,0,none⟩) n n)) w'):
 wpList P ops Q (o::rest) a w:=by
 obtain⟨i,hi,f,g,m⟩:=info_parts S.info;refine wpList_make_full w j l c t b 0 e i z 1 S.ht hi f g .i64 .i64 n n n h k rfl rfl (by rw[m];exact s) r (zG _) ?_;intro w' d q;rw[S.one,ZZ]at d;exact p w' d q
section
variable {w0 w w':zW} {m mk:Mem} {L:List bA}
theorem Own.BZ(h:Own w0 m w mk L)(o:Obj):Own w0 m (w.alloc o) mk (.gN w.heap.size o::L):=
 (h.al' o).cons (show(w.heap.push o)[w.heap.size]?=some o by simp) (fun k hk=>by simp only[bA.blk,Option.some.injEq]at hk;subst hk;exact⟨h.aF.size,eza h.az (zI _)⟩)
  (fun b c k a d=>by simp only[bA.blk,Option.some.injEq]at a;subst a;exact absurd (bA.lt (h.ok b c) d) (Nat.lt_irrefl _))
theorem Own.gN{g:Nat}{o:Obj}(h:Own w0 m w mk (.gN g o::L)):w.heap[g]?=some o:=h.ok _ (yF ..)
theorem Own.jJ{g:Nat}{o o':Obj}(h:Own w0 m w mk (.gN g o::L))(ho:w'.heap[g]?=some o')(hg:w.grownBy w' (some g)):Own w0 m w' mk (.gN g o'::L):=by
 have hf:=h.ik _ (yF ..) g rfl;have hap:=yS.1 h.apart;refine⟨h.m0,h.aF.grown hg h.aF.size (fun k hk=>by cases hk;exact hf.1),h.ext,ezU h.az hg (fun k hk=>by cases hk;exact hf.2),?_,?_,.cons ?_ hap.2⟩
 .exact qgS
 .exact qgx
 .exact qct
theorem Own.fifth{a b c d e:bA}(h:Own w0 m w mk (a::b::c::d::e::L)):Own w0 m w mk (e::a::b::c::d::L):=
 h.perm (((List.perm_append_comm (l₁:=[e]) (l₂:=[a,b,c,d])).append_right L))
theorem Own.BX{v:zV}{t:TypeId}{size n:Nat}{xs:List Value}(h:Own w0 m w mk L)(hi:bA.row v t size n xs∈L):w.ownsRow 0 t size v n xs:=h.ok _ hi
theorem Own.jG{g:Nat}{t:TypeId}{arr:Array Value}(h:Own w0 m w mk L)(hi:bA.obj g t arr∈L):bg w g t arr:=h.ok _ hi
theorem Own.Ga{g:Nat}{o:Obj}(h:Own w0 m w mk L)(hi:bA.gN g o∈L):w.heap[g]?=some o:=h.ok _ hi
end
def bN(l:List dh):List Value:=l.flatMap fun p=>[.j p.1,.j p.2]
def pR(p:dh):Prop := -9223372036854775808<=p.1/\p.1<=9223372036854775807 /\ -9223372036854775808<=p.2/\p.2<=9223372036854775807
theorem eH(l:List dh)(p:dh):bN (l++[p])=bN l++[.j p.1,.j p.2]:=by simp[bN]
theorem dN(l:List dh):(bN l).length=l.length*2:=by
 induction l with
 |nil=>rfl
 |cons p l ih=>simp only[bN,xO,zL]at*;simp[ih];omega
theorem mZ:∀(l:List dh) (i:Nat) (h:i<l.length),(bN l)[i*2]?=some (.j l[i].1)/\(bN l)[i*2+1]?=some (.j l[i].2)
 |[],i,h=>by simp at h
 |p::l,0,_=>by simp[bN]
 |p::l,i+1,h=>by
  have:=mZ l i qd5;simp only[bN,xO]at*
  rw[show(i+1)*2=i*2+2 by omega,show i*2+2+1=(i*2+1)+2 by omega];exact qbe
theorem jO{w:zW}{t:TypeId}{v:zV}{l:List dh}{m:Mem}(a:w.ownsRow 0 t 2 v l.length (bN l))(hk:∀p∈l,pR p):dD (m.iA w v) v l:=
 eY a fun g b i h=>by
  obtain⟨d,c⟩:=mZ l i h;exact⟨eO a b m d,eO a b m c,hk _ (zF h)⟩
theorem pq(m:Mem):dD m (.n) []:=⟨none,0,rfl,zI _,by simp[maxLen],fun h=>absurd rfl h⟩
theorem BB{m:Mem}{v:zV}{l:List dh}(h:dD m v l):∀p∈l,pR p:=by
 obtain⟨a,c,rfl,k,j,g⟩:=h;intro p d;obtain⟨i,hi,rfl⟩:=yX d;obtain⟨b,off,-,f⟩:=g (fun e=>by rw[e]at hi;simp at hi);exact(f i hi).2.2
theorem eT{m:Mem}{v:zV}{l:List dh}(h:dD m v l):∃a c,v=.slice a l.length c:=by
 obtain⟨a,c,rfl,-⟩:=h;exact⟨a,c,rfl⟩
theorem G5{m:Mem}{w:zW}(n:m.az w){o:Option Addr}{c:Nat}{l:List dh}(h:dD m (.slice o l.length c) l)(f:l≠[]):
 ∃b off,o=some ⟨b,off,none⟩/\∀j u,(bN l)[j]?=some u->w.cell? ((⟨b,off,none⟩:Addr).add j)=some u:=by
 obtain⟨a,z,e,y,x,s⟩:=h;injection e with e1 e2 e3;subst e1;obtain⟨b,off,rfl,r⟩:=s f;refine⟨b,off,rfl,fun j u d=>?_⟩;rw[Addr.add_lit];have g:j<(bN l).length:=(yB.1 d).1;rw[dN]at g;obtain⟨i,k⟩:∃i,j=i*2\/j=i*2+1:=⟨j/2,zo⟩;have hi:i<l.length:=zo;obtain⟨v,t,-⟩:=r i hi;obtain⟨q,p⟩:=mZ l i hi;rcases k with rfl|rfl
 .rw[q]at d;cases d;exact azk n v
 .rw[p]at d;cases d;exact azk n t
structure dA (m:Mem) (vi vf:zV) (I F:List dh):Prop where
 i:dD m vi I
 f:dD m vf F
theorem dA.le{m m':Mem}(h:m.le m'){a b:zV}{I F:List dh}(k:dA m a b I F):dA m' a b I F:=⟨bS h k.i,bS h k.f⟩
theorem dA.nil(m:Mem):dA m (.n) (.n) [] []:=⟨pq m,pq m⟩
structure EL (m:Mem) (b o:Nat) (k n:Int) (s:ByteArray) (vi vm:zV):Prop where
 k:m.cell b o=some (.j k)
 n:m.cell b (o+1)=some (.j n)
 s:m.cell b (o+2)=some (.string s)
 i:m.cell b (o+3)=some vi
 m:m.cell b (o+4)=some vm
theorem EL.le{m m':Mem}(h:m.le m'){b o:Nat}{k n:Int}{s:ByteArray}{c a:zV}(x:EL m b o k n s c a):EL m' b o k n s c a:=
 ⟨bzv h x.k,bzv h x.n,bzv h x.s,bzv h x.i,bzv h x.m⟩
inductive EK (m:Mem):Value->Value->Dt->Prop
 |mk (k n:Int) (s:ByteArray) (items:List Dt) (labels:List ByteArray) (qg:List Dt) (ai:Option Addr) (ci:Nat) (am:Option Addr) (cm:Nat)
  (hk : -9223372036854775808<=k/\k<=9223372036854775807) (hn : -9223372036854775808<=n/\n<=9223372036854775807) (hs:s.size<=maxLen) (hl:labels.length=qg.length)
  (i1:items.length<=ci) (i2:ci<=maxLen) (m1:qg.length<=cm) (m2:cm<=maxLen)
  (bi oi:Nat) (i3:items≠[]->ai=some ⟨bi,oi,none⟩) (fi gi:Nat->Value) (i4:∀i (h:i<items.length),EL m bi (oi+i*5) (items[i]).kind (items[i]).num (items[i]).str (fi i) (gi i)) (i5:∀i (h:i<items.length),EK m (fi i) (gi i) items[i])
  (bm om:Nat) (m3:qg≠[]->am=some ⟨bm,om,none⟩) (fm gm:Nat->Value) (m4:∀i (h:i<qg.length),EL m bm (om+i*6+1) (qg[i]).kind (qg[i]).num (qg[i]).str (fm i) (gm i)) (m5:∀i (h:i<qg.length),EK m (fm i) (gm i) qg[i])
  (m6:∀i (h:i<labels.length),m.cell bm (om+i*6)=some (.string labels[i])/\(labels[i]).size<=maxLen) :
  EK m (.slice ai items.length ci) (.slice am qg.length cm) (.mk k n s items labels qg)
theorem EK.le{m m':Mem}(h:m.le m'){c b:zV}{d:Dt}(k:EK m c b d):EK m' c b d:=by
 induction k with
 |mk k n s items labels qg ai ci am cm hk hn hs hl i1 i2 m1 m2 bi oi i3 fi gi i4 i5 bm om m3 fm gm m4 m5 m6 ih1 ih2=>
  exact .mk k n s items labels qg ai ci am cm hk hn hs hl i1 i2 m1 m2 bi oi i3 fi gi (fun i a=>(i4 i a).le h) ih1 bm om m3 fm gm (fun i a=>(m4 i a).le h) ih2 (fun i a=>⟨bzv h (m6 i a).1,(m6 i a).2⟩)
def DAt(m:Mem)(b o:Nat)(d:Dt):Prop:=∃c a,EL m b o d.kind d.num d.str c a/\EK m c a d
def cz6(m:Mem)(v:zV)(l:List Dt):Prop:=Mem.slice (DAt m) 5 v l
theorem DAt.le{m m':Mem}(h:m.le m'){b o:Nat}{d:Dt}(k:DAt m b o d):DAt m' b o d:=by
 obtain⟨c,a,f,e⟩:=k;exact⟨c,a,f.le h,e.le h⟩
theorem cz6.le{m m':Mem}(h:m.le m'){v:zV}{l:List Dt}(k:cz6 m v l):cz6 m' v l:=dzT k fun _ _ _=>DAt.le h
structure fz9 (d:Dt):Prop where
 k : -9223372036854775808<=d.kind/\d.kind<=9223372036854775807
 n : -9223372036854775808<=d.num/\d.num<=9223372036854775807
 s:d.str.size<=maxLen
theorem EK.items{m:Mem}{b c:zV}{d:Dt}(h:EK m b c d):cz6 m b d.items:=by
 cases h with
 |mk k n s items labels qg ai ci am cm hk hn hs hl i1 i2 m1 m2 bi oi i3 fi gi i4 i5 bm om m3 fm gm m4 m5 m6=>
  exact⟨ai,ci,rfl,i1,i2,fun a=>⟨bi,oi,i3 a,fun i h=>⟨_,_,i4 i h,i5 i h⟩⟩⟩
theorem EK.ok{m:Mem}{b a:zV}{d:Dt}(h:EK m b a d):fz9 d:=by
 cases h with
 |mk k n s items labels qg ai ci am cm hk hn hs hl i1 i2 m1 m2 bi oi i3 fi gi i4 i5 bm om m3 fm gm m4 m5 m6=>exact⟨hk,hn,hs⟩
theorem EK.leaf(m:Mem)(k n:Int)(s:ByteArray)(hk : -9223372036854775808<=k/\k<=9223372036854775807)(b : -9223372036854775808<=n/\n<=9223372036854775807)(a:s.size<=maxLen):
 EK m (.n) (.n) (.mk k n s [] [] []):=
 .mk k n s [] [] [] none 0 none 0 hk b a rfl (zI _) (by simp[maxLen]) (zI _) (by simp[maxLen]) 0 0 (fun h=>absurd rfl h) (fun _=>.bool true) (fun _=>.bool true) (fun i h=>by simp at h) (fun i h=>by simp at h)
  0 0 (fun h=>absurd rfl h) (fun _=>.bool true) (fun _=>.bool true) (fun i h=>by simp at h) (fun i h=>by simp at h) (fun i h=>by simp at h)
def Dt.val(d:Dt)(b a:zV):Value:=.agg #[.int .i64 d.kind,.int .i64 d.num,.string d.str,b,a]
def RS.val(s:RS)(b c a:zV):Value:=.agg #[.bool s.dL,.bool s.dS,.bool s.dW,b,c,a]
structure gJ (m:Mem) (vi vf vt:zV) (s:RS):Prop where
 i:dD m vi s.i
 f:dD m vf s.f
 t:aV m vt s.t
theorem gJ.le{m m':Mem}(h:m.le m'){b c a:zV}{s:RS}(k:gJ m b c a s):gJ m' b c a s:=⟨bS h k.i,bS h k.f,bq h k.t⟩
end Cl
namespace Cl
open Go Go.RowKit Go.Proofs Go.WideShapes Go.ChangeShapes Go.Deep Go.Joins Tryz
section
variable {H:Type} {enc:TypeId×Value->H} {w:zW} {spare:Nat->Bool} {held:Bool}
theorem fzl{α:Type}{l:List α}(h:l.length=5):∃a b c d e,l=[a,b,c,d,e]:=by
 match l,h with
 |[a,b,c,d,e],_=>exact⟨a,b,c,d,e,rfl⟩
theorem fzk{α:Type}{l:List α}(h:l.length=6):∃a b c d e f,l=[a,b,c,d,e,f]:=by
 match l,h with
 |[a,b,c,d,e,f],_=>exact⟨a,b,c,d,e,f,rfl⟩
theorem KM(fuel b o:Nat)(cs:List Value)(x:DataW H×List MemPlace)(c:w.cells? 0 ⟨b,o,none⟩ 2=some cs)(h:DataW.trod enc prog w 0 spare held fuel 100 cs=some x):∃p,Nq (Mem.of w) b o p:=by
 obtain⟨m,l,n,-,q,f,e⟩:=trod_struct2 underlying100 h;obtain⟨s,r,rfl⟩:=Qf (World.cells?_some c).2.1;have d:prog.cellsOf 2=1:=by kernel_rfl
 simp[d]at f e;obtain⟨a0,j,-,w0⟩:=DataW.trod_int underlying2 f;obtain⟨k,g,-,a⟩:=DataW.trod_int underlying2 e;cases j;cases g;have w0:=NV w0;have a:=NV a;exact⟨(a0,k),iw (i:=0) c rfl,iw (i:=1) c rfl,w0.1,w0.2,a.1,a.2⟩
theorem WV{fuel:Nat}{cs:List Value}{x:DataW H×List MemPlace}(h:DataW.trod enc prog w 0 spare held fuel 29 cs=some x):
 ∃r q p d e c l f t,cs=[.bool r,.bool q,.bool p,d,e,c]/\gJ (Mem.of w) d e c ⟨r,q,p,l,f,t⟩:=by
 obtain⟨xs,n,rfl,rfl,i,a,b⟩:=DataW.trod_struct underlying29 h;have g:prog.cellsOf 29=6:=by kernel_rfl
 rw[g]at i;obtain⟨Z,Y,X,W,V,U,rfl⟩:=fzk i;have B:prog.cellsOf 4=1:=by kernel_rfl
 have z:prog.cellsOf 24=2:=by kernel_rfl
 have A:prog.cellsOf 27=1:=by kernel_rfl
 have es:prog.cellsOf 22=1:=by kernel_rfl
 have y:prog.cellsOf 25=1:=by kernel_rfl
 obtain⟨R,Q,P,O,N,rfl⟩:=fzl a;have o:=b 0 _ rfl;have f1:=b 1 _ rfl;have f2:=b 2 _ rfl;have f3:=b 3 _ rfl;have f4:=b 4 _ rfl;simp[B,z,A]at o f1 f2 f3 f4;obtain⟨a0,g,-⟩:=DataW.trod_bool underlying4 o;obtain⟨J,G,-⟩:=DataW.trod_bool underlying4 f1;obtain⟨I,F,-⟩:=DataW.trod_bool underlying4 f2;cases g;cases G;cases F;obtain⟨M,L,T,-,-,m,k⟩:=trod_struct2 underlying24 f3;simp[es]at m k;obtain⟨K,S,-,-,j⟩:=trod_struct1 underlying27 f4;simp[y]at j;obtain⟨d,l,E,v⟩:=mD underlying22 zk zo (Nq (Mem.of w)) KM m;obtain⟨e,f,D,u⟩:=mD underlying22 zk zo (Nq (Mem.of w)) KM k;obtain⟨c,t,C,s⟩:=mD underlying25 zk zo (Ac (Mem.of w)) GA j;cases E;cases D;cases C;exact⟨a0,J,I,_,_,_,l,f,t,rfl,v,u,s⟩
end
end Cl
namespace Cl
open Go Go.RowKit
structure Sl where
 i:Value
 f:Value
 t:Value
 l:Value
 s:Value
structure sS (m:Mem) (b o:Nat) (x:Sl) (v:Vl):Prop where
 a:m.cell b o=some (.bool v.any)
 n:m.cell b (o+1)=some (.bool v.s.dL)
 f:m.cell b (o+2)=some (.bool v.s.dS)
 t:m.cell b (o+3)=some (.bool v.s.dW)
 si:m.cell b (o+4)=some x.i
 sf:m.cell b (o+5)=some x.f
 st:m.cell b (o+6)=some x.t
 l:m.cell b (o+7)=some x.l
 s:m.cell b (o+8)=some x.s
theorem sS.le{m m':Mem}(h:m.le m'){b o:Nat}{x:Sl}{v:Vl}(k:sS m b o x v):sS m' b o x v:=
 ⟨bzv h k.a,bzv h k.n,bzv h k.f,bzv h k.t,bzv h k.si,bzv h k.sf,bzv h k.st,bzv h k.l,bzv h k.s⟩
def AJ(R:Sl->Vl->Prop)(m:Mem)(b o:Nat)(d:Vd):Prop:=∃x y,sS m b o x d.1/\R x d.1/\sS m b (o+9) y d.2/\R y d.2
def bD(R:Sl->Vl->Prop)(m:Mem)(v:zV)(l:List Vd):Prop:=Mem.slice (AJ R m) 18 v l
def OO(R:Sl->Vl->Prop)(m:Mem)(b o:Nat)(c:Lc):Prop:=∃u a,m.cell b o=some u/\m.cell b (o+1)=some a/\bD R m u c.1/\bD R m a c.2
structure JJ (R:Sl->Vl->Prop) (m:Mem) (b o:Nat) (f:Fd):Prop where
 s:m.cell b o=some (.string f.1.1)
 sz:f.1.1.size<=maxLen
 p:m.cell b (o+1)=some (.j f.1.2)
 pr : -9223372036854775808<=f.1.2/\f.1.2<=9223372036854775807
 v:AJ R m b (o+2) f.2
structure Km (R:Sl->Vl->Prop) (m:Mem) (b o:Nat) (k:Kl):Prop where
 s:∃u,m.cell b o=some u/\aV m u k.1
 v:AJ R m b (o+1) k.2
def gG(R:Sl->Vl->Prop)(m:Mem)(v:zV)(l:List Fd):Prop:=Mem.slice (JJ R m) 20 v l
def gM(R:Sl->Vl->Prop)(m:Mem)(v:zV)(l:List Kl):Prop:=Mem.slice (Km R m) 19 v l
def OG(R:Sl->Vl->Prop)(m:Mem)(b o:Nat)(c:St):Prop:=∃u a,m.cell b o=some u/\m.cell b (o+1)=some a/\gG R m u c.1/\gM R m a c.2
def vT(R:Sl->Vl->Prop)(m:Mem)(v:zV)(l:List Lc):Prop:=Mem.slice (OO R m) 2 v l
def vQ(R:Sl->Vl->Prop)(m:Mem)(v:zV)(l:List St):Prop:=Mem.slice (OG R m) 2 v l
def aY(m:Mem):Nat->Sl->Vl->Prop
 |0,_,_=>False
 |n+1,x,v=>gJ m x.i x.f x.t v.s/\vT (aY m n) m x.l v.aJ/\vQ (aY m n) m x.s v.ay
section
variable {R R':Sl->Vl->Prop} {m m':Mem}
theorem AJ.le(h:m.le m')(a:∀x v,R x v->R' x v){b o:Nat}{d:Vd}(k:AJ R m b o d):AJ R' m' b o d:=by
 obtain⟨x,y,g,f,e,c⟩:=k;exact⟨x,y,g.le h,a _ _ f,e.le h,a _ _ c⟩
theorem bD.le(h:m.le m')(a:∀x v,R x v->R' x v){v:zV}{l:List Vd}(k:bD R m v l):bD R' m' v l:=dzT k fun _ _ _=>AJ.le h a
theorem OO.le(h:m.le m')(hr:∀x v,R x v->R' x v){b o:Nat}{c:Lc}(k:OO R m b o c):OO R' m' b o c:=by
 exact qin
theorem JJ.le(h:m.le m')(a:∀x v,R x v->R' x v){b o:Nat}{c:Fd}(k:JJ R m b o c):JJ R' m' b o c:=⟨bzv h k.s,k.sz,bzv h k.p,k.pr,k.v.le h a⟩
theorem Km.le(h:m.le m')(a:∀x v,R x v->R' x v){b o:Nat}{c:Kl}(k:Km R m b o c):Km R' m' b o c:=by
 obtain⟨u,e,d⟩:=k.s;exact⟨⟨u,bzv h e,bq h d⟩,k.v.le h a⟩
theorem gG.le(h:m.le m')(a:∀x v,R x v->R' x v){v:zV}{l:List Fd}(k:gG R m v l):gG R' m' v l:=dzT k fun _ _ _=>JJ.le h a
theorem gM.le(h:m.le m')(a:∀x v,R x v->R' x v){v:zV}{l:List Kl}(k:gM R m v l):gM R' m' v l:=dzT k fun _ _ _=>Km.le h a
theorem OG.le(h:m.le m')(hr:∀x v,R x v->R' x v){b o:Nat}{c:St}(k:OG R m b o c):OG R' m' b o c:=by
 exact qin
theorem vT.le(h:m.le m')(a:∀x v,R x v->R' x v){v:zV}{l:List Lc}(k:vT R m v l):vT R' m' v l:=dzT k fun _ _ _=>OO.le h a
theorem vQ.le(h:m.le m')(a:∀x v,R x v->R' x v){v:zV}{l:List St}(k:vQ R m v l):vQ R' m' v l:=dzT k fun _ _ _=>OG.le h a
end
theorem aY.le{m m':Mem}(h:m.le m'):∀{n:Nat} {x:Sl} {v:Vl},aY m n x v->aY m' n x v
 |0,_,_,k=>k.elim
 |_+1,_,_,k=>⟨k.1.le h,k.2.1.le h fun _ _=>aY.le h,k.2.2.le h fun _ _=>aY.le h⟩
theorem aY.succ{m:Mem}:∀{n:Nat} {x:Sl} {v:Vl},aY m n x v->aY m (n+1) x v
 |0,_,_,k=>k.elim
 |_+1,_,_,k=>⟨k.1,k.2.1.le (Mem.le_refl m) fun _ _=>aY.succ,k.2.2.le (Mem.le_refl m) fun _ _=>aY.succ⟩
theorem aY.mono{m:Mem}{n a:Nat}{x:Sl}{v:Vl}(k:aY m n x v)(h:n<=a):aY m a x v:=by
 induction h with
 |refl=>exact k
 |step _ ih=>exact ih.succ
theorem tL{α:Type}{R:Nat->Nat->α->Prop}{size:Nat}{v:zV}{l:List α}(h:Mem.slice R size v l){x:α}(d:x∈l):∃b o,R b o x:=by
 obtain⟨a,c,-,-,-,g⟩:=h;obtain⟨i,hi,rfl⟩:=yX d;obtain⟨b,off,-,f⟩:=g (fun e=>by rw[e]at hi;simp at hi);exact⟨b,_,f i hi⟩
theorem fq{α:Type}(R:Nat->Nat->α->Prop)(size:Nat):Mem.slice R size (.n) []:=⟨none,0,rfl,zI _,by simp[maxLen],fun h=>absurd rfl h⟩
theorem bD.all{R:Sl->Vl->Prop}{m:Mem}{v:zV}{l:List Vd}(h:bD R m v l){d:Vd}(a:d∈l):(∃x,R x d.1)/\∃x,R x d.2:=by
 obtain⟨b,o,x,y,-,e,-,c⟩:=tL h a;exact⟨⟨x,e⟩,y,c⟩
theorem aY.kids{m:Mem}{n:Nat}{x:Sl}{v:Vl}(h:aY m (n+1) x v){d:Vd}(a:d∈v.kids):(∃x,aY m n x d.1)/\∃x,aY m n x d.2:=by
 rcases yP.1 a with a|a
 .obtain⟨c,g,a⟩:=xW.1 a;obtain⟨b,o,u,k,-,-,j,i⟩:=tL h.2.1 g;rcases yP.1 a with a|a
  .exact j.all a
  .exact i.all a
 .obtain⟨c,g,a⟩:=xW.1 a;obtain⟨b,o,u,k,-,-,j,i⟩:=tL h.2.2 g;rcases yP.1 a with a|a
  .obtain⟨f,e,rfl⟩:=yD.1 a;obtain⟨b,o,h3⟩:=tL j e;exact qdr
  .obtain⟨f,e,rfl⟩:=yD.1 a;obtain⟨b,o,h3⟩:=tL i e;exact qdr
theorem aY.ht{m:Mem}:∀{n:Nat} {x:Sl} {v:Vl},aY m n x v->Ht n v
 |0,_,_,k=>k.elim
 |n+1,_,_,k=>fun d a=>by
  obtain⟨⟨x,c⟩,y,b⟩:=k.kids a;exact⟨c.ht,b.ht⟩
def aZ(v:Vl)(s:Sl):List Value:=[.bool v.any,.bool v.s.dL,.bool v.s.dS,.bool v.s.dW,s.i,s.f,s.t,s.l,s.s]
def dw(d:Vd)(x y:Sl):List Value:=aZ d.1 x++aZ d.2 y
theorem Dc(d:Vd)(x y:Sl):(dw d x y).length=18:=rfl
theorem sS.get{m:Mem}{b o:Nat}{x:Sl}{v:Vl}(h:sS m b o x v){j:Nat}{u:zV}(c:(aZ v x)[j]?=some u):m.cell b (o+j)=some u:=by
 match j,c with
 |0,c=>cases c;exact h.a
 |1,c=>cases c;exact h.n
 |2,c=>cases c;exact h.f
 |3,c=>cases c;exact h.t
 |4,c=>cases c;exact h.si
 |5,c=>cases c;exact h.sf
 |6,c=>cases c;exact h.st
 |7,c=>cases c;exact h.l
 |8,c=>cases c;exact h.s
 |j+9,c=>simp[aZ]at c
theorem sS.of{m:Mem}{b o:Nat}{x:Sl}{v:Vl}(h:∀j u,(aZ v x)[j]?=some u->m.cell b (o+j)=some u):sS m b o x v:=
 ⟨h 0 _ rfl,h 1 _ rfl,h 2 _ rfl,h 3 _ rfl,h 4 _ rfl,h 5 _ rfl,h 6 _ rfl,h 7 _ rfl,h 8 _ rfl⟩
structure kK (R:Sl->Vl->Prop) (xs:List Value) (l:List Vd):Prop where
 len:xs.length=l.length*18
 at':∀i (h:i<l.length),∃x y,(∀j u,(dw l[i] x y)[j]?=some u->xs[i*18+j]?=some u)/\R x l[i].1/\R y l[i].2
theorem kK.nil(R:Sl->Vl->Prop):kK R [] []:=⟨rfl,fun i h=>by simp at h⟩
theorem kK.mono{R R':Sl->Vl->Prop}{xs:List Value}{l:List Vd}(h:kK R xs l)(a:∀x v,R x v->R' x v):kK R' xs l:=
 ⟨h.len,fun i hi=>let ⟨x,y,h1,h2,h3⟩:=h.at' i hi;⟨x,y,h1,a _ _ h2,a _ _ h3⟩⟩
theorem kK.append{R:Sl->Vl->Prop}{xs f:List Value}{l k:List Vd}(h:kK R xs l)(g:kK R f k):kK R (xs++f) (l++k):=by
 refine⟨by simp[h.len,g.len];omega,fun i hi=>?_⟩;by_cases c:i<l.length
 .obtain⟨x,y,e,d⟩:=h.at' i c;rw[xM c];exact⟨x,y,fun j u b=>by
   have a:=e j u b;rw[yK (yB.1 a).1];exact a,d⟩
 .obtain⟨x,y,e,d⟩:=g.at' (i-l.length) (by simp at hi;omega);rw[List.getElem_append_right zo];exact⟨x,y,fun j u b=>by
   have a:=e j u b;rw[yN (by rw[h.len];omega),h.len];rw[show i*18+j-l.length*18=(i-l.length)*18+j by omega];exact a,d⟩
theorem kK.one{R:Sl->Vl->Prop}{d:Vd}{x y:Sl}(b:R x d.1)(a:R y d.2):kK R (dw d x y) [d]:=
 ⟨by simp[Dc],fun i hi=>by
  obtain rfl:i=0:=by simpa using hi
  exact⟨x,y,fun j u c=>by simpa using c,b,a⟩⟩
theorem kK.push{R:Sl->Vl->Prop}{xs:List Value}{l:List Vd}(h:kK R xs l){d:Vd}{x y:Sl}(b:R x d.1)(a:R y d.2):kK R (xs++dw d x y) (l++[d]):=h.append (.one b a)
theorem AJ.cells{R:Sl->Vl->Prop}{m:Mem}{b o:Nat}{d:Vd}(h:AJ R m b o d):∃x y,(∀j u,(dw d x y)[j]?=some u->m.cell b (o+j)=some u)/\R x d.1/\R y d.2:=by
 obtain⟨x,y,i,g,f,e⟩:=h;refine⟨x,y,fun j u a=>?_,g,e⟩;by_cases c:j<9
 .rw[dw,yK (by simpa [aZ]using c)]at a;exact i.get a
 .rw[dw,yN (by simp[aZ];omega),show(aZ d.1 x).length=9 from rfl]at a;have:=f.get a
  rwa [show o+9+(j-9)=o+j by omega]at this
theorem AJ.of{R:Sl->Vl->Prop}{m:Mem}{b o:Nat}{d:Vd}{x y:Sl}(h:∀j u,(dw d x y)[j]?=some u->m.cell b (o+j)=some u)(e:R x d.1)(c:R y d.2):AJ R m b o d:=by
 refine⟨x,y,.of fun j u a=>h j u ?_,e,.of fun j u a=>?_,c⟩
 .rw[dw,yK (yB.1 a).1];exact a
 .have:=h (9+j) u (by rw[dw,yN (by simp[aZ]),show(aZ d.1 x).length=9 from rfl,show 9+j-9=j by omega];exact a)
  rwa [<-Nat.add_assoc]at this
theorem Ve{R:Sl->Vl->Prop}{m:Mem}{b:Nat}:∀(l:List Vd) (off:Nat),(∀i (h:i<l.length),AJ R m b (off+i*18) l[i])->∃xs,kK R xs l/\∀j u,xs[j]?=some u->m.cell b (off+j)=some u
 |[],off,_=>⟨[],kK.nil R,fun j u a=>by simp at a⟩
 |d::l,off,h=>by
  obtain⟨xs,o,n⟩:=Ve l (off+18) fun i hi=>by
   have:=h (i+1) qec;rw[show off+(i+1)*18=off+18+i*18 by omega]at this;exact qbe
  have e:=h 0 zS;simp only[Nat.zero_mul,Nat.add_zero,xL]at e;obtain⟨x,y,k,g,f⟩:=e.cells;refine⟨dw d x y++xs,(kK.one g f).append o,fun j u a=>?_⟩;by_cases c:j<18
  .rw[yK (by rw[Dc];exact c)]at a;exact k j u a
  .rw[yN (by rw[Dc];omega),Dc]at a;have:=n (j-18) u a
   rwa [show off+18+(j-18)=off+j by omega]at this
theorem bD.row{R:Sl->Vl->Prop}{m:Mem}{f:Option Addr}{c:Nat}{l:List Vd}(h:bD R m (.slice f l.length c) l)(d:l≠[]):
 ∃b off xs,f=some ⟨b,off,none⟩/\kK R xs l/\∀j u,xs[j]?=some u->m.cell b (off+j)=some u:=by
 obtain⟨a,q,e,p,o,n⟩:=h;injection e with e1 e2 e3;subst e1;obtain⟨b,off,rfl,k⟩:=n d;obtain⟨xs,i,g⟩:=Ve l off k;exact⟨b,off,xs,rfl,i,g⟩
theorem JS{R:Sl->Vl->Prop}{w:zW}{t:TypeId}{v:zV}{l:List Vd}{xs:List Value}{m:Mem}(a:w.ownsRow 0 t 18 v l.length xs)(b:kK R xs l):bD R (m.iA w v) v l:=
 eY a fun g d i h=>by
  obtain⟨x,y,k,f,e⟩:=b.at' i h;exact .of (fun j u c=>eO a d m (k j u c)) f e
def Vl.val(v:Vl)(x:Sl):Value:=.agg (aZ v x).toArray
def bQ(d:Vd)(x y:Sl):Value:=.agg (dw d x y).toArray
def qx(f:Fd)(x y:Sl):List Value:=.string f.1.1::.j f.1.2::dw f.2 x y
def nE(k:Kl)(u:zV)(x y:Sl):List Value:=u::dw k.2 x y
theorem JJ.cells{R:Sl->Vl->Prop}{m:Mem}{b o:Nat}{f:Fd}(h:JJ R m b o f):∃x y,(∀j u,(qx f x y)[j]?=some u->m.cell b (o+j)=some u)/\R x f.2.1/\R y f.2.2:=by
 obtain⟨x,y,d,c⟩:=h.v.cells;refine⟨x,y,fun j u a=>?_,c⟩
 match j,a with
 |0,a=>cases a;exact h.s
 |1,a=>cases a;exact h.p
 |j+2,a=>
  have:=d j u a
  rwa [show o+2+j=o+(j+2)by omega]at this
theorem Km.cells{R:Sl->Vl->Prop}{m:Mem}{b o:Nat}{k:Kl}(h:Km R m b o k):∃c x y,aV m c k.1/\(∀j u,(nE k c x y)[j]?=some u->m.cell b (o+j)=some u)/\R x k.2.1/\R y k.2.2:=by
 obtain⟨c,e,d⟩:=h.s;obtain⟨x,y,g,f⟩:=h.v.cells;refine⟨c,x,y,d,fun j u a=>?_,f⟩
 match j,a with
 |0,a=>cases a;exact e
 |j+1,a=>
  have:=g j u a
  rwa [show o+1+j=o+(j+1)by omega]at this
theorem qw{f:Fd}{x y:Sl}{j:Nat}{u:zV}(h:(dw f.2 x y)[j]?=some u):(qx f x y)[2+j]?=some u:=by rw[Nat.add_comm];exact h
theorem kQ{k:Kl}{c:zV}{x y:Sl}{j:Nat}{u:zV}(h:(dw k.2 x y)[j]?=some u):(nE k c x y)[1+j]?=some u:=by rw[Nat.add_comm];exact h
theorem ku{d:Vd}{x y:Sl}{j:Nat}{u:zV}(h:(aZ d.1 x)[j]?=some u):(dw d x y)[0+j]?=some u:=by
 rw[yZ,dw,yK (yB.1 h).1];exact h
theorem nP{d:Vd}{x y:Sl}{j:Nat}{u:zV}(h:(aZ d.2 y)[j]?=some u):(dw d x y)[9+j]?=some u:=by
 rw[dw,yN (by simp[aZ]),show(aZ d.1 x).length=9 from rfl,show 9+j-9=j by omega];exact h
def dI:Sl:=⟨.n,.n,.n,.n,.n⟩
theorem aY.leaf(m:Mem)(a:Bool):aY m 1 dI (.mk a fe [] []):=⟨⟨fq _ _,fq _ _,fq _ _⟩,fq _ _,fq _ _⟩
end Cl
namespace Cl
open Go Go.RowKit Go.Proofs Go.WideShapes Go.ChangeShapes Go.Deep Go.Joins Tryz
structure uC {H:Type} (B:DataW H->Nat):Prop where
 sl:∀es sp,(es.map B).sum+1<=B (.slice es sp)
 nil:1<=B .nil
 ag:∀ps,(ps.map B).sum<=B (.agg ps)
theorem KC(f:Nat->Nat)(g:Nat->Nat):∀n,(∀i,i<n->f i<=g i)->((List.range n).map f).sum<=((List.range n).map g).sum
 |0,_=>zI _
 |n+1,h=>by
  have:=KC f g n fun i hi=>h i zo;have a:=h n zo;simp only[List.range_succ,yI,List.sum_append,yL,xB,vG,List.sum_nil];omega
theorem Vi{α:Type}(B:α->Nat)(d:α):∀(l:List α),(l.map B).sum=((List.range l.length).map fun i=>B (l.getD i d)).sum
 |[]=>rfl
 |x::l=>by
  rw[yO,List.range_succ_eq_map,yL,vG,yL,vG,Vi B d l,vE];simp only[List.getD_cons_zero]
  congr 2
section
variable {H:Type} {enc:TypeId×Value->H} {P:Program} {w:zW} {spare:Nat->Bool} {held:Bool}
theorem kW{α:Type}[Inhabited α]{B:DataW H->Nat}(G:uC B)(f:α->Nat){t e:TypeId}{size:Nat}(ht:P.underlying t=some (.slice e))(F:P.cellsOf e=size)(m:0<size)(R:Nat->Nat->α->Prop){fuel:Nat}
(M:∀(n b o:Nat) (cs:List Value) (x:DataW H×List MemPlace),n<fuel->w.cells? 0 ⟨b,o,none⟩ size=some cs->DataW.trod enc P w 0 spare held n e cs=some x->∃y:α,R b o y/\f y<=B x.1)
{cs:List Value}{x:DataW H×List MemPlace}(h:DataW.trod enc P w 0 spare held fuel t cs=some x):∃v l,cs=[v]/\Mem.slice R size v l/\(l.map f).sum+1<=B x.1:=by
 rcases DataW.trod_slice ht h with⟨rfl,rfl⟩|⟨a,len,s,c,rest,n,rfl,rfl,rfl,Q,L,D,q,A,-,-⟩
 .exact⟨_,[],rfl,⟨none,0,rfl,zI _,zG _,fun h=>absurd rfl h⟩,G.nil⟩
 .have C:∀i (hi:i<len),∃d,w.cells? 0 (a.add (i*P.cellsOf e)) (P.cellsOf e)=some d/\DataW.trod enc P w 0 spare held n e d=some (c[i]'zo):=fun i hi=>by
   have j:=A i hi;rw[yH zo]at j;obtain⟨d,r,u⟩:=Option.bind_eq_some_iff.1 j;exact⟨d,r,u⟩
  have K:=G.sl (c.map (·.1)) (rest.map (·.1));by_cases N:len=0
  .subst N;exact⟨_,[],rfl,⟨some a,s,rfl,zG _,D,fun h=>absurd rfl h⟩,by simp only[xB,List.sum_nil];omega⟩
  .have k:a.spot=none:=by
    obtain⟨d,j,-⟩:=C 0 zo;obtain⟨-,r,u⟩:=World.cells?_some j;rw[F]at r u;have:=u 0 m;rw[Nat.zero_mul]at this;have e:(a.add 0).add 0=a:=by simp[Addr.add]
    rw[e,yH zo]at this;exact Vm this
   obtain⟨b,o,O⟩:=a;simp only at k;subst k;obtain⟨g,E⟩:=choose_lt (α:=α) (n:=len) (p:=fun i y=>R b (o+i*size) y/\∀hi:i<c.length,f y<=B (c[i]).1) (fun i hi=>by
    obtain⟨d,j,r⟩:=C i zo;rw[F,Addr.add_lit]at j;obtain⟨y,J,I⟩:=M n _ _ _ _ zo j r;exact⟨y,J,fun _=>I⟩)
   refine⟨_,(List.range len).map g,rfl,⟨some ⟨b,o,none⟩,s,zS,by simpa using L,D,fun _=>⟨b,o,rfl,fun i hi=>?_⟩⟩,?_⟩
   .have z:i<len:=by simpa using hi
    simpa using(E i z).1
   .refine yJ (Nat.succ_le_succ ?_) K;rw[vE,vE,Vi (B ∘ fun x:DataW H×List MemPlace=>x.1) (.nil,[]),q];refine KC _ _ _ fun i hi=>?_;have:=(E i hi).2 zo;simpa [yU,show i<c.length by omega]using this
theorem oM{B:DataW H->Nat}(g:uC B){fuel:Nat}{t:TypeId}{d f1:Field}{cs:List Value}{x:DataW H×List MemPlace}(ht:P.underlying t=some (.struct #[d,f1]))(h:DataW.trod enc P w 0 spare held fuel t cs=some x):
 ∃b a n,fuel=n+1/\cs.length=P.cellsOf t/\DataW.trod enc P w 0 spare held n d.type ((cs.drop d.offset).take (P.cellsOf d.type))=some b/\DataW.trod enc P w 0 spare held n f1.type ((cs.drop f1.offset).take (P.cellsOf f1.type))=some a/\B b.1+B a.1<=B x.1:=by
 obtain⟨xs,n,rfl,rfl,f,c,e⟩:=DataW.trod_struct ht h;obtain⟨b,a,rfl⟩:=Qf c;have:=g.ag [b.1,a.1];exact⟨b,a,n,rfl,f,e 0 _ rfl,e 1 _ rfl,by simpa using this⟩
end
theorem fzm{α:Type}{l:List α}(h:l.length=4):∃a0 c b a,l=[a0,c,b,a]:=by
 match l,h with
 |[a0,c,b,a],_=>exact⟨a0,c,b,a,rfl⟩
theorem fzj{α:Type}{l:List α}(h:l.length=9):∃a0 i g f e d c b a,l=[a0,i,g,f,e,d,c,b,a]:=by
 match l,h with
 |[a0,i,g,f,e,d,c,b,a],_=>exact⟨a0,i,g,f,e,d,c,b,a,rfl⟩
theorem ezv{α:Type}{l:List α}(h:l.length=18):∃a0 s r q p o n m k j i g f e d c b a,l=[a0,s,r,q,p,o,n,m,k,j,i,g,f,e,d,c,b,a]:=by
 match l,h with
 |[a0,s,r,q,p,o,n,m,k,j,i,g,f,e,d,c,b,a],_=>exact⟨a0,s,r,q,p,o,n,m,k,j,i,g,f,e,d,c,b,a,rfl⟩
section
variable {H:Type} {enc:TypeId×Value->H} {w:zW} {spare:Nat->Bool} {held:Bool} {B:DataW H->Nat}
abbrev Dr(enc:TypeId×Value->H)(w:zW)(spare:Nat->Bool)(held:Bool)(fuel:Nat)(t:TypeId)(cs:List Value)(x:DataW H×List MemPlace):Prop:=DataW.trod enc prog w 0 spare held fuel t cs=some x
instance:Inhabited Vl:=⟨dn⟩
def Dv(B:DataW H->Nat)(enc:TypeId×Value->H)(w:zW)(spare:Nat->Bool)(held:Bool)(K:Nat):Prop:=∀k cs x,k<K->Dr enc w spare held k 33 cs x->∃v s,cs=aZ v s/\aY (Mem.of w) K s v/\di K v<=B x.1
def Ey(K:Nat)(d:Vd):Nat:=di K d.1+di K d.2
def azV(K:Nat)(l:List Vd):Nat:=(l.map (Ey K)).sum
theorem H9{b o n:Nat}{cs:List Value}(a:w.cells? 0 ⟨b,o,none⟩ n=some cs){j:Nat}{v:Vl}{s:Sl}(h:∀i x,(aZ v s)[i]?=some x->cs[j+i]?=some x):sS (Mem.of w) b (o+j) s v:=by
 have g:∀i x,(aZ v s)[i]?=some x->(Mem.of w).cell b (o+j+i)=some x:=fun i x hi=>by
  have:=iw a (h i x hi)
  rwa [<-Nat.add_assoc]at this
 exact⟨g 0 _ rfl,g 1 _ rfl,g 2 _ rfl,g 3 _ rfl,g 4 _ rfl,g 5 _ rfl,g 6 _ rfl,g 7 _ rfl,g 8 _ rfl⟩
theorem OY(p:uC B){K:Nat}(f:Dv B enc w spare held K){k:Nat}(hk:k<=K){cs:List Value}{x:DataW H×List MemPlace}(h:Dr enc w spare held k 35 cs x):
 ∃(d:Vd) (b a:Sl),cs=aZ d.1 b++aZ d.2 a/\aY (Mem.of w) K b d.1/\aY (Mem.of w) K a d.2/\Ey K d<=B x.1:=by
 obtain⟨F,E,n,rfl,e,i,g,G⟩:=oM p underlying35 h;have c:prog.cellsOf 35=18:=by kernel_rfl
 have s:prog.cellsOf 33=9:=by kernel_rfl
 rw[c]at e;obtain⟨S,R,Q,P,O,N,M,L,J,I,D,C,A,z,y,v,u,t,rfl⟩:=ezv e;simp[s]at i g;obtain⟨l,b,r,o,U⟩:=f _ _ _ zo i;obtain⟨j,a,q,m,T⟩:=f _ _ _ zo g;exact⟨(l,j),b,a,by rw[<-r,<-q];rfl,o,m,by unfold Ey;simp only;omega⟩
theorem DL(r:uC B){K:Nat}(q:Dv B enc w spare held K){k:Nat}(hk:k<=K){b o n j:Nat}{cs:List Value}{x:DataW H×List MemPlace}(a:w.cells? 0 ⟨b,o,none⟩ n=some cs)(_:n=j+18)
(h:Dr enc w spare held k 35 (cs.drop j) x):∃d:Vd,AJ (aY (Mem.of w) K) (Mem.of w) b (o+j) d/\Ey K d<=B x.1:=by
 obtain⟨d,c,g,e,m,l,p⟩:=OY r q hk h;have f:=(World.cells?_some a).2.1;refine⟨d,⟨c,g,H9 a (j:=j) fun i x hi=>?_,m,?_,l⟩,p⟩
 .have:(cs.drop j)[i]?=some x:=by
   rw[e,yK (yB.1 hi).1];exact hi
  rwa [List.getElem?_drop]at this
 .rw[Nat.add_assoc];refine H9 a (j:=j+9) fun i x hi=>?_;have:(cs.drop j)[9+i]?=some x:=by
   rw[e,yN (by simp[aZ])];rw[show 9+i-(aZ d.1 c).length=i by simp[aZ]];exact hi
  rw[List.getElem?_drop,<-Nat.add_assoc]at this;exact this
theorem Kw(a:uC B){K:Nat}(e:Dv B enc w spare held K){k:Nat}(hk:k<=K){cs:List Value}{x:DataW H×List MemPlace}(h:Dr enc w spare held k 48 cs x):
 ∃v l,cs=[v]/\bD (aY (Mem.of w) K) (Mem.of w) v l/\azV K l+1<=B x.1:=
 kW (α:=Vd) a (Ey K) underlying48 zk zo (AJ (aY (Mem.of w) K) (Mem.of w)) (fun f b o cs x g d c=>DL a e zo (j:=0) d rfl c) h
def Q5(K:Nat)(c:Lc):Nat:=azV K c.1+azV K c.2
def azU(K:Nat)(l:List Fd):Nat:=(l.map fun f=>Ey K f.2).sum
def azS(K:Nat)(l:List Kl):Nat:=(l.map fun f=>Ey K f.2).sum
def Q4(K:Nat)(c:St):Nat:=azU K c.1+azS K c.2
theorem czg(b:uC B){K:Nat}(e:Dv B enc w spare held K){k:Nat}(hk:k<=K){cs:List Value}{x:DataW H×List MemPlace}(h:Dr enc w spare held k 50 cs x):
 ∃(u a:zV) (c:Lc),cs=[u,a]/\bD (aY (Mem.of w) K) (Mem.of w) u c.1/\bD (aY (Mem.of w) K) (Mem.of w) a c.2/\Q5 K c<=B x.1:=by
 obtain⟨s,r,n,rfl,d,g,f,t⟩:=oM b underlying50 h;have p:prog.cellsOf 50=2:=by kernel_rfl
 have q:prog.cellsOf 48=1:=by kernel_rfl
 rw[p]at d;obtain⟨y,v,rfl⟩:=Qf d;simp[q]at g f;obtain⟨u,l,o,j,A⟩:=Kw b e zo g;obtain⟨a,l',m,i,z⟩:=Kw b e zo f;cases o;cases m;exact⟨_,_,(l,l'),rfl,j,i,by unfold Q5;simp only;omega⟩
theorem azD(m:uC B){K:Nat}(D:Dv B enc w spare held K){k:Nat}(hk:k<=K){cs:List Value}{x:DataW H×List MemPlace}(h:Dr enc w spare held k 59 cs x):
 ∃v l,cs=[v]/\gG (aY (Mem.of w) K) (Mem.of w) v l/\azU K l+1<=B x.1:=
 kW (α:=Fd) m (fun f:Fd=>Ey K f.2) underlying59 zk zo (JJ (aY (Mem.of w) K) (Mem.of w)) (fun N b o cs x O c A=>by
  obtain⟨xs,M,rfl,rfl,-,a,g⟩:=DataW.trod_struct underlying82 A;obtain⟨u,t,r,rfl⟩:=dzJ a;have hl:=(World.cells?_some c).2.1;have q:=g 0 _ rfl;have f1:=g 1 _ rfl;have f2:=g 2 _ rfl;have L:prog.cellsOf 3=1:=by kernel_rfl
  have J:prog.cellsOf 9=1:=by kernel_rfl
  have I:prog.cellsOf 35=18:=by kernel_rfl
  simp[L,J,I]at q f1 f2;obtain⟨s,G,-,w0⟩:=DataW.trod_string underlying9 q;obtain⟨p,F,-,e⟩:=DataW.trod_int underlying3 f1;have n:(cs.drop 2).take 18=cs.drop 2:=xH qek;rw[n]at f2;obtain⟨d,C,P⟩:=DL m D zo (j:=2) c rfl f2;have e:=NV e;have z:cs[0]?=some (.string s):=by have:=congrArg (fun l=>l[0]?) G;simpa using this
  have y:cs[1]?=some (.j p):=by have:=congrArg (fun l=>l[0]?) F;simpa using this
  have E:=m.ag [u.1,t.1,r.1];simp only[yL,xB,vG,List.sum_nil]at E⊢;exact⟨((s,p),d),⟨iw (i:=0) c z,w0,iw (i:=1) c y,e,C⟩,by simp only;omega⟩) h
theorem azi(c:uC B){K:Nat}(u:Dv B enc w spare held K){k:Nat}(hk:k<=K){cs:List Value}{x:DataW H×List MemPlace}(h:Dr enc w spare held k 60 cs x):
 ∃v l,cs=[v]/\gM (aY (Mem.of w) K) (Mem.of w) v l/\azS K l+1<=B x.1:=
 kW (α:=Kl) c (fun f:Kl=>Ey K f.2) underlying60 zk zo (Km (aY (Mem.of w) K) (Mem.of w)) (fun L b o cs x M a q=>by
  obtain⟨G,F,J,rfl,-,n,f1,s⟩:=oM c underlying68 q;have hl:=(World.cells?_some a).2.1;have D:prog.cellsOf 27=1:=by kernel_rfl
  have C:prog.cellsOf 35=18:=by kernel_rfl
  have z:prog.cellsOf 25=1:=by kernel_rfl
  simp[D,C]at n f1;obtain⟨E,I,-,-,m⟩:=trod_struct1 underlying27 n;simp[z]at m;obtain⟨g,t,A,y⟩:=mD underlying25 zk zo (Ac (Mem.of w)) GA m;have e:cs.tail.take 18=cs.drop 1:=by rw[List.drop_one];exact xH qek
  rw[e]at f1;obtain⟨d,r,N⟩:=DL c u zo (j:=1) a rfl f1;have p:cs[0]?=some g:=by have:=congrArg (fun l=>l[0]?) A;simpa using this
  exact⟨(t,d),⟨⟨g,iw (i:=0) a p,y⟩,r⟩,by simp only;omega⟩) h
theorem bzN(b:uC B){K:Nat}(e:Dv B enc w spare held K){k:Nat}(hk:k<=K){cs:List Value}{x:DataW H×List MemPlace}(h:Dr enc w spare held k 62 cs x):
 ∃(u a:zV) (c:St),cs=[u,a]/\gG (aY (Mem.of w) K) (Mem.of w) u c.1/\gM (aY (Mem.of w) K) (Mem.of w) a c.2/\Q4 K c<=B x.1:=by
 obtain⟨t,s,n,rfl,d,g,f,v⟩:=oM b underlying62 h;have q:prog.cellsOf 62=2:=by kernel_rfl
 have r:prog.cellsOf 59=1:=by kernel_rfl
 have p:prog.cellsOf 60=1:=by kernel_rfl
 rw[q]at d;obtain⟨z,y,rfl⟩:=Qf d;simp[r,p]at g f;obtain⟨u,l,o,j,C⟩:=azD b e zo g;obtain⟨a,l',m,i,A⟩:=azi b e zo f;cases o;cases m;exact⟨_,_,(l,l'),rfl,j,i,by unfold Q4;simp only;omega⟩
theorem Gu{α:Type}(f:Vd->Nat)(g:α->List Vd)(h:α->Nat)(b:∀a,((g a).map f).sum=h a):∀l:List α,((l.flatMap g).map f).sum=(l.map h).sum
 |[]=>rfl
 |a::l=>by rw[xO,yI,List.sum_append,yL,vG,b,Gu f g h b l]
theorem RY(K:Nat)(v:Vl):di (K+1) v=1+((v.aJ.map (Q5 K)).sum+(v.ay.map (Q4 K)).sum):=by
 rw[di];show 1+(v.kids.map (Ey K)).sum=_;rw[Vl.kids,yI,List.sum_append,Gu (Ey K) aX (Q5 K) (fun c=>by rw[aX,yI,List.sum_append];rfl),Gu (Ey K) bJ (Q4 K) (fun c=>by rw[bJ,yI,List.sum_append,vE,vE];rfl)]
theorem RZ(m:uC B):∀(fuel:Nat) (cs:List Value) (x:DataW H×List MemPlace),Dr enc w spare held fuel 33 cs x->∃v s,cs=aZ v s/\aY (Mem.of w) (fuel+1) s v/\di (fuel+1) v<=B x.1:=by
 intro fuel
 induction fuel using Nat.strongRecOn with
 |ind fuel ih=>
 intro cs x h;obtain⟨xs,n,rfl,rfl,C,g,r⟩:=DataW.trod_struct underlying33 h;have D:Dv B enc w spare held (n+1):=fun k cs x hk d=>by
  obtain⟨v,s,e,hv,hb⟩:=ih k hk cs x d;exact qhF
 have T:prog.cellsOf 33=9:=by kernel_rfl
 rw[T]at C;obtain⟨c0,c1,c2,c3,c4,c5,c6,c7,c8,rfl⟩:=fzj C;have X:prog.cellsOf 4=1:=by kernel_rfl
 have W:prog.cellsOf 29=6:=by kernel_rfl
 have V:prog.cellsOf 30=1:=by kernel_rfl
 have U:prog.cellsOf 31=1:=by kernel_rfl
 obtain⟨J,I,G,F,rfl⟩:=fzm g;have z:=m.ag [J.1,I.1,G.1,F.1];simp only[yL,xB,vG,List.sum_nil]at z⊢;have E:=r 0 _ rfl;have f1:=r 1 _ rfl;have f2:=r 2 _ rfl;have f3:=r 3 _ rfl;simp[X,W,V,U]at E f1 f2 f3;obtain⟨a,R,-⟩:=DataW.trod_bool underlying4 E;obtain⟨b0,Z,Y,vi,vf,vt,l,f,t,Q,M⟩:=WV f1;obtain⟨vl,L,P,q,k2⟩:=kW (α:=Lc) (fuel:=n) (size:=2) m (Q5 (n+1)) underlying30 zk zo (OO (aY (Mem.of w) (n+1)) (Mem.of w)) (fun K b o cs x N j d=>by
  obtain⟨u,y,c,rfl,A,q,p⟩:=czg m D zo d;exact⟨c,⟨u,y,iw (i:=0) j rfl,iw (i:=1) j rfl,A,q⟩,p⟩) f2
 obtain⟨vs,S,O,p,k3⟩:=kW (α:=St) (fuel:=n) (size:=2) m (Q4 (n+1)) underlying31 zk zo (OG (aY (Mem.of w) (n+1)) (Mem.of w)) (fun K b o cs x N j d=>by
  obtain⟨u,y,c,rfl,A,q,p⟩:=bzN m D zo d;exact⟨c,⟨u,y,iw (i:=0) j rfl,iw (i:=1) j rfl,A,q⟩,p⟩) f3
 cases R;cases Q;cases P;cases O;refine⟨.mk a ⟨b0,Z,Y,l,f,t⟩ L S,⟨_,_,_,_,_⟩,rfl,⟨M,q,p⟩,?_⟩;rw[RY];simp only[Vl.aJ,Vl.ay];omega
theorem Z6(b:uC B)(fuel:Nat):Dv B enc w spare held (fuel+1):=fun k cs x hk a=>by
 obtain⟨v,s,e,hv,hb⟩:=RZ b k cs x a;exact qhF
theorem Y2(c:uC B){r:Reach}{q:Nat}{v:zV}{d:DataW H}{p:List MemPlace}(f:Value.okWide prog w r q 35 v)(h:DataW.Trod enc prog w 0 spare held 35 v d p):
 ∃n b a x,v=bQ x b a/\aY (Mem.of w) n b x.1/\aY (Mem.of w) n a x.2/\Ey n x<=B d:=by
 obtain⟨cs,rfl,g⟩:=okWide_struct underlying35 f;obtain⟨fuel,i⟩:=h;obtain⟨x,b,a,e,m,k,j⟩:=OY c (Z6 c fuel) (Nat.le_succ fuel) i;refine⟨_,b,a,x,?_,m,k,j⟩;have:cs=(aZ x.1 b++aZ x.2 a).toArray:=by
  have o:cs.toList=aZ x.1 b++aZ x.2 a:=e;obtain⟨l⟩:=cs;exact congrArg Array.mk o
 rw[this];rfl
end
end Cl
