/- Lemmas for the proofs of chapter 11. -/
import Derived.Shelf.Strings.Builder1
import Derived.Shelf.Small.Wraps
import Derived.Shelf.Strconv.Itoa3
import Derived.BigQuiet
import Derived.Deep.Cut
import Derived.Lib.ItoaLen
import Derived.StillTailTactics
import Derived.WalkLawsBesides
import Derived.WalkSpells
import Derived.Deep.RegionHeld
import Derived.Lib.SmallJoins
import Derived.Test.YtdgjplfcpcphoaaGreatDoorCards
import Derived.Test.YtdgjplfcpcphoaaGreatDoorTie
import Derived.Deep.DeepHandedRow
import Derived.Stop.LaidErr
import Derived.Test.YtdgjplfcpcphoaaGreatDoorPkE2
set_option maxRecDepth 100000
set_option maxHeartbeats 16000000
namespace Go.Proofs
open Go.Shelf Tryz
def Tryz.Ea:Go.Shelf.Ren:=⟨fun|169=>274|n=>n,fun|70=>260|9=>9|0=>0|72=>262|37=>185|127=>277|3=>3|5=>5|n=>n,fun|n=>n⟩
theorem Tryz.Zf:Go.Proofs.Lays.n169 prog Tryz.Ea:={
 mixed:=by kernel_rfl
 f169:=func274.trans (congrArg some zk)
 t0:=underlying0
 a0:=Tryz.isAgg0
 z0:=Tryz.sizeOf0
 v0:=Tryz.zeroValue0
 t3:=underlying3
 a3:=Tryz.isAgg3
 z3:=Tryz.sizeOf3
 v3:=Tryz.zeroValue3
 t9:=underlying9
 a9:=Tryz.isAgg9
 z9:=Tryz.sizeOf9
 v9:=Tryz.zeroValue9
 t37:=underlying185
 a37:=Tryz.isAgg185
 z37:=Tryz.sizeOf185
 v37:=Tryz.zeroValue185
 t70:=underlying260
 a70:=Tryz.isAgg260
 z70:=Tryz.sizeOf260
 v70:=Tryz.zeroValue260
 t72:=underlying262
 a72:=Tryz.isAgg262
 z72:=Tryz.sizeOf262
 v72:=Tryz.zeroValue262
 t127:=underlying277
 a127:=Tryz.isAgg277
 z127:=Tryz.sizeOf277
 v127:=Tryz.zeroValue277 }
theorem Tryz.Cx:Builder.Extra prog Tryz.Ea:={
 sizeBuilder:=by kernel_rfl
 liesBuilder:=by kernel_rfl
 t5:=underlying5
 a5:=Tryz.isAgg5
 z5:=Tryz.sizeOf5
 v5:=Tryz.zeroValue5
 infoByte:=by kernel_rfl
 cellsByte:=by kernel_rfl
 sizeByte:=by kernel_rfl
 neB5:=by decide }
open Go.RowKit in
open Go.RowKit in
theorem Tryz.Builder_String_any(B b:Nat)(l:List UInt8)(w:zW)(h:Lib.IsBuilder 262 5 B b (Lib.byteCells l) w)(a:B<=w.heap.size):
 zC 274 #[.pointer (some ⟨b,0,none⟩)] w fun e w'=>e=.returned (.string ⟨l.toArray⟩)/\Below B w w':=Any.Builder_String_any Tryz.Zf Tryz.Cx B b l w h a
def Tryz.Ol:Go.Shelf.Ren:=⟨fun|122=>110|215=>162|n=>n,fun|3=>3|4=>4|n=>n,fun|n=>n⟩
theorem Tryz.Zg:Go.Proofs.Lays.n122 prog Tryz.Ol:={
 mixed:=by kernel_rfl
 f122:=func110.trans (congrArg some zk)
 f215:=func162.trans (congrArg some zk)
 t3:=underlying3
 a3:=Tryz.isAgg3
 z3:=Tryz.sizeOf3
 v3:=Tryz.zeroValue3
 t4:=underlying4
 a4:=Tryz.isAgg4
 z4:=Tryz.sizeOf4
 v4:=Tryz.zeroValue4 }
open Go.RowKit in
theorem Tryz.cmp_Compare_int(x y:Int)(w:zW):
 zC 110 #[.int .i64 x,.int .i64 y] w fun e w'=>e=.returned (.int .i64 (Lib.compareInt x y))/\w'=w:=Any.cmp_Compare_int Tryz.Zg x y w
def Tryz.Ma:Go.Shelf.Ren:=⟨fun|171=>273|243=>285|246=>292|283=>280|284=>281|285=>282|286=>283|129=>270|317=>287|318=>288|319=>289|320=>290|337=>293|338=>294|n=>n,fun|3=>3|9=>9|2=>2|4=>4|171=>273|0=>0|53=>258|37=>185|5=>5|173=>275|212=>283|51=>256|20=>20|213=>284|46=>234|232=>288|233=>289|n=>n,fun|17=>0|18=>1|19=>2|n=>n⟩
theorem Tryz.Xw:Go.Proofs.LaysM.n171 prog Tryz.Ma:={
 mixed:=by kernel_rfl
 f129:=func270.trans (congrArg some zk)
 f171:=func273.trans (congrArg some zk)
 f243:=func285.trans (congrArg some zk)
 f246:=func292.trans (congrArg some zk)
 f283:=func280.trans (congrArg some zk)
 f284:=func281.trans (congrArg some zk)
 f285:=func282.trans (congrArg some zk)
 f286:=func283.trans (congrArg some zk)
 f317:=func287.trans (congrArg some zk)
 f318:=func288.trans (congrArg some zk)
 f319:=func289.trans (congrArg some zk)
 f320:=func290.trans (congrArg some zk)
 f337:=func293.trans (congrArg some zk)
 f338:=func294.trans (congrArg some zk)
 t0:=underlying0
 a0:=Tryz.isAgg0
 z0:=Tryz.sizeOf0
 v0:=Tryz.zeroValue0
 t2:=underlying2
 a2:=Tryz.isAgg2
 z2:=Tryz.sizeOf2
 v2:=Tryz.zeroValue2
 t3:=underlying3
 a3:=Tryz.isAgg3
 z3:=Tryz.sizeOf3
 v3:=Tryz.zeroValue3
 t4:=underlying4
 a4:=Tryz.isAgg4
 z4:=Tryz.sizeOf4
 v4:=Tryz.zeroValue4
 t5:=underlying5
 a5:=Tryz.isAgg5
 z5:=Tryz.sizeOf5
 v5:=Tryz.zeroValue5
 t9:=underlying9
 a9:=Tryz.isAgg9
 z9:=Tryz.sizeOf9
 v9:=Tryz.zeroValue9
 t20:=underlying20
 a20:=Tryz.isAgg20
 z20:=Tryz.sizeOf20
 v20:=Tryz.zeroValue20
 t37:=underlying185
 a37:=Tryz.isAgg185
 z37:=Tryz.sizeOf185
 v37:=Tryz.zeroValue185
 t46:=underlying234
 a46:=Tryz.isAgg234
 z46:=Tryz.sizeOf234
 v46:=Tryz.zeroValue234
 t51:=underlying256
 a51:=Tryz.isAgg256
 z51:=Tryz.sizeOf256
 v51:=Tryz.zeroValue256
 t53:=underlying258
 a53:=Tryz.isAgg258
 z53:=Tryz.sizeOf258
 v53:=Tryz.zeroValue258
 t171:=underlying273
 a171:=Tryz.isAgg273
 z171:=Tryz.sizeOf273
 v171:=Tryz.zeroValue273
 t173:=underlying275
 a173:=Tryz.isAgg275
 z173:=Tryz.sizeOf275
 v173:=Tryz.zeroValue275
 t212:=underlying283
 a212:=Tryz.isAgg283
 z212:=Tryz.sizeOf283
 v212:=Tryz.zeroValue283
 t213:=underlying284
 a213:=Tryz.isAgg284
 z213:=Tryz.sizeOf284
 t232:=underlying288
 a232:=Tryz.isAgg288
 z232:=Tryz.sizeOf288
 v232:=Tryz.zeroValue288
 t233:=underlying289
 a233:=Tryz.isAgg289
 z233:=Tryz.sizeOf289
 v233:=Tryz.zeroValue289
 g17:=by kernel_rfl
 g18:=by kernel_rfl
 g19:=by kernel_rfl
 i0:=by kernel_rfl
 i2:=by kernel_rfl
 i3:=by kernel_rfl
 i4:=by kernel_rfl
 i5:=by kernel_rfl
 i9:=by kernel_rfl
 i20:=by kernel_rfl
 i37:=by kernel_rfl
 i46:=by kernel_rfl
 i51:=by kernel_rfl
 i53:=by kernel_rfl
 i171:=by kernel_rfl
 i173:=by kernel_rfl
 i212:=by kernel_rfl
 i232:=by kernel_rfl
 i233:=by kernel_rfl
 m17:=by kernel_rfl
 m18:=by kernel_rfl
 m19:=by kernel_rfl }
open Go.RowKit Go.Sort Go.Lib in
theorem Tryz.strconv_Itoa (n : Int) (h0 : -9223372036854775808 ≤ n) (h1 : n ≤ 9223372036854775807) (w : World) (htab : Lib.TabIs prog w "internal/strconv.uint64pow10" .u64 Lib.pow10Tab) :
 zC 273 #[.int .i64 n] w fun e w'=>e=.returned (.string ⟨(Lib.itoa n).toArray⟩)∧∃k os,w'=grow (w.drewN k) os:=Any.strconv_Itoa Tryz.Xw n h0 h1 w htab
end Go.Proofs
namespace Cl
open Go Go.RowKit
abbrev Mem:=Nat->Option Obj
structure Mem.le (m m':Mem):Prop where
 get:∀k o,m k=some o->m' k=some o
structure Mem.ay (m:Mem) (w:zW):Prop where
 get:∀k o,m k=some o->w.heap[k]?=some o
def Mem.cell(m:Mem)(b o:Nat):Option Value:=match m b with
 |some (.cells c _ _)=>c[o]?
 |_=>none
def Mem.of(w:zW):Mem:=fun k=>w.heap[k]?
theorem Mem_of_inn(w:zW):(Mem.of w).ay w:=⟨fun _ _ h=>h⟩
theorem Mem.le_refl(m:Mem):m.le m:=⟨fun _ _ h=>h⟩
theorem Mem.le_trans{a b c:Mem}(h:a.le b)(k:b.le c):a.le c:=⟨fun i o x=>k.get i o (h.get i o x)⟩
theorem Mem_inn_le{m m':Mem}{w:zW}(h:m.le m')(k:m'.ay w):m.ay w:=⟨fun i o x=>k.get i o (h.get i o x)⟩
theorem Mem_cell_w{m:Mem}{w:zW}(h:m.ay w){b o:Nat}{v:zV}(a:m.cell b o=some v):w.cell? ⟨b,o,none⟩=some v:=by
 unfold Mem.cell at a
 split at a
 .rename_i c t e d;simp[World.cell?,h.get _ _ d,a]
 .cases a
theorem Mem_cell_lt{m:Mem}{w:zW}(h:m.ay w){b o:Nat}{v:zV}(a:m.cell b o=some v):b<w.heap.size:=by
 have:=Mem_cell_w h a;simp only[World.cell?]at this
 split at this
 .rename_i c;exact(yC.1 c).1
 .cases this
theorem Mem_cell_le{m m':Mem}(h:m.le m'){b o:Nat}{v:zV}(a:m.cell b o=some v):m'.cell b o=some v:=by
 unfold Mem.cell at a⊢
 split at a
 .rename_i c t e d;rw[h.get _ _ d];exact a
 .cases a
def Mem.slice{α:Type}(R:Nat->Nat->α->Prop)(size:Nat)(v:zV)(l:List α):Prop:=
 ∃a c,v=.slice a l.length c/\l.length<=c/\c<=maxLen/\(l≠[]->∃b off,a=some ⟨b,off,none⟩/\∀i (h:i<l.length),R b (off+i*size) l[i])
theorem Mem_slice_mono{α:Type}{R R':Nat->Nat->α->Prop}{size:Nat}{v:zV}{l:List α}(h:Mem.slice R size v l)(hr:∀b o x,R b o x->R' b o x):Mem.slice R' size v l:=by
 exact qbx
def Dn(m:Mem)(b o:Nat)(e:Ed):Prop:=
 m.cell b o=some (.int .u8 e.lo)/\m.cell b (o+1)=some (.int .u8 e.hi)/\m.cell b (o+2)=some (.int .i64 e.to) /\
 e.lo<256/\e.hi<256 /\ -9223372036854775808<=e.to/\e.to<=9223372036854775807
def kS(m:Mem)(v:zV)(es:List Ed):Prop:=Mem.slice (Dn m) 3 v es
def wX(m:Mem)(b o:Nat)(s:Sn):Prop:=
 m.cell b o=some (.bool s.aZ)/\∃a,m.cell b (o+1)=some a/\kS m a s.aH
def aQ(m:Mem)(v:zV)(l:aC):Prop:=Mem.slice (wX m) 2 v l
theorem VG{m m':Mem}(h:m.le m'){b o:Nat}{e:Ed}(k:Dn m b o e):Dn m' b o e:=
 ⟨Mem_cell_le h k.1,Mem_cell_le h k.2.1,Mem_cell_le h k.2.2.1,k.2.2.2⟩
theorem qx{m m':Mem}(h:m.le m'){v:zV}{es:List Ed}(k:kS m v es):kS m' v es:=Mem_slice_mono k fun _ _ _=>VG h
theorem Qf{m m':Mem}(h:m.le m'){b o:Nat}{s:Sn}(k:wX m b o s):wX m' b o s:=by
 obtain⟨e,a,d,c⟩:=k;exact⟨Mem_cell_le h e,a,Mem_cell_le h d,qx h c⟩
theorem aW{m m':Mem}(h:m.le m'){v:zV}{l:aC}(k:aQ m v l):aQ m' v l:=Mem_slice_mono k fun _ _ _=>Qf h
theorem Mem_inn_below{m:Mem}{w w':zW}(h:m.ay w)(b:zB w w'):m.ay w':=⟨fun k o a=>by
 have:=h.get k o a;rw[b.block k (yC.1 this).1];exact this⟩
def Mem.qc{α:Type}(R:Nat->Nat->α->Prop)(v:zV)(l:List α):Prop:=
 ∃a c,v=.slice a l.length c/\l.length<=c/\c<=maxLen/\(l≠[]->∃b off,a=some ⟨b,off,none⟩/\∀i (h:i<l.length),R b (off+i) l[i])
theorem Mem_slice1_mono{α:Type}{R R':Nat->Nat->α->Prop}{v:zV}{l:List α}(h:Mem.qc R v l)(hr:∀b o x,R b o x->R' b o x):Mem.qc R' v l:=by
 exact qbx
def Si(m:Mem)(b o:Nat)(x:Bool):Prop:=m.cell b o=some (.bool x)
def bzi(m:Mem)(b o:Nat)(x:Int):Prop:=m.cell b o=some (.int .i64 x) /\ -9223372036854775808<=x/\x<=9223372036854775807
def bzc(m:Mem)(b o:Nat)(x:ByteArray):Prop:=m.cell b o=some (.string x)/\x.size<=maxLen
def LG(m:Mem)(b o:Nat)(x:Int×Int):Prop:=m.cell b o=some (.int .i64 x.1)/\m.cell b (o+1)=some (.int .i64 x.2) /\ -9223372036854775808<=x.1/\x.1<=9223372036854775807 /\ -9223372036854775808<=x.2/\x.2<=9223372036854775807
def jw(m:Mem)(v:zV)(l:List Bool):Prop:=Mem.qc (Si m) v l
def eU(m:Mem)(v:zV)(l:List Int):Prop:=Mem.qc (bzi m) v l
def Au(m:Mem)(v:zV)(l:List ByteArray):Prop:=Mem.qc (bzc m) v l
def df(m:Mem)(v:zV)(l:List (Int×Int)):Prop:=Mem.slice (LG m) 2 v l
def pq(m:Mem)(v:zV)(l:List (List Int)):Prop:=Mem.qc (fun b o x=>∃u,m.cell b o=some u/\eU m u x) v l
theorem lh{m m':Mem}(h:m.le m'){v:zV}{l:List Bool}(k:jw m v l):jw m' v l:=Mem_slice1_mono k fun _ _ _=>Mem_cell_le h
theorem fH{m m':Mem}(h:m.le m'){v:zV}{l:List Int}(k:eU m v l):eU m' v l:=Mem_slice1_mono k fun _ _ _ k=>⟨Mem_cell_le h k.1,k.2⟩
theorem pJ{m m':Mem}(h:m.le m'){v:zV}{l:List ByteArray}(k:Au m v l):Au m' v l:=Mem_slice1_mono k fun _ _ _ k=>⟨Mem_cell_le h k.1,k.2⟩
theorem bV{m m':Mem}(h:m.le m'){v:zV}{l:List (Int×Int)}(k:df m v l):df m' v l:=
 Mem_slice_mono k fun _ _ _ k=>⟨Mem_cell_le h k.1,Mem_cell_le h k.2.1,k.2.2⟩
theorem uj{m m':Mem}(h:m.le m'){v:zV}{l:List (List Int)}(k:pq m v l):pq m' v l:=
 Mem_slice1_mono k fun _ _ _ ⟨u,b,a⟩=>⟨u,Mem_cell_le h b,fH h a⟩
noncomputable def firstIdx{α:Type}(p:α->Prop):List α->Nat->Int
 |[],_ => -1
 |x::l,k=>if tf (p x)then(k:Int)else firstIdx p l (k+1)
theorem lN{α:Type}(p:α->Prop)(l:List α)(k:Nat)(h:k<l.length):firstIdx p (l.drop k) k=if tf (p l[k])then(k:Int)else firstIdx p (l.drop (k+1)) (k+1):=by
 rw[yE h];rfl
theorem nZ{α:Type}(p:α->Prop)(l:List α):∀k,(firstIdx p l k = -1/\∀x∈l,¬p x)\/(∃i,∃h:i<l.length,firstIdx p l k=((k+i:Nat):Int)/\p l[i]/\∀j,∀hj:j<l.length,j<i->¬p l[j]):=by
 induction l with
 |nil=>intro k;left;exact⟨rfl,zS⟩
 |cons x l ih=>
  intro k;by_cases a:p x
  .right;exact⟨0,zS,by simp[firstIdx,aO a],a,fun j _ hj=>zo⟩
  .have e:firstIdx p (x::l) k=firstIdx p l (k+1):=by simp[firstIdx,aA a]
   rcases ih (k+1)with⟨c,b⟩|⟨i,c,b,g,f⟩
   .left;exact⟨e.trans c,by simpa using⟨a,b⟩⟩
   .right;refine⟨i+1,by simp;omega,e.trans (b.trans (by congr 1;omega)),by simpa using g,?_⟩;intro j hj d
    cases j with
    |zero=>simpa using a
    |succ j=>simpa using f j qeb zo
theorem jA{α:Type}(l a:List α)(k:Nat)(h:k<l.length)(b:k<a.length):l.drop k=a.drop k↔l[k]=a[k]/\l.drop (k+1)=a.drop (k+1):=by
 rw[yE h,yE b,List.cons.injEq]
end Cl
namespace Cl
open Go Go.RowKit Go.Proofs Tryz
theorem Ho(b:Nat)(w:zW)(c:w.cell? ⟨b,0,none⟩=some (.pointer (some ⟨b,0,none⟩))):
 zC 284 #[.pointer (some ⟨b,0,none⟩)] w fun e w'=>e=.returned (.tuple #[])/\w'=w:=by
 obtain⟨j,a,_⟩:=Option.map_eq_some_iff.1 (show(prog.info? 262).map (·.size)=some 2 by kernel_rfl)
 go_enter func284,ntmps284
 go_wp2;rw[Lib.run_neq_ptr_same w _ underlying260 a];go_wp2
 go_end0
 exact⟨rfl,rfl⟩
theorem EJ(b:Nat)(w:zW)(g:w.cell? ⟨b,0,none⟩=some (.pointer none))(a:w.shape? b=some (262,2))(f:w.frozen? ⟨b,0,none⟩=false):
 zC 284 #[.pointer (some ⟨b,0,none⟩)] w fun e w'=>e=.returned (.tuple #[])/\w'=w.setCell ⟨b,0,none⟩ (.pointer (some ⟨b,0,none⟩)):=by
 obtain⟨j,d,c⟩:=Option.map_eq_some_iff.1 (show(prog.info? 262).map (·.size)=some 2 by kernel_rfl)
 go_enter func284,ntmps284
 go_wp2;rw[Lib.run_to_unsafe w ⟨b,0,none⟩ underlying260 underlying285 d (by rw[c];decide) a (Nat.zero_lt_succ 1)];simp only[Result.andThen];rw[Oper.upon_value];go_wp2;rw[run_callFunc_extern func291 zk zk zk (e:=Extern.AbiNoEscape.same) zk];rw[Lib.run_noEscape];simp only[Result.andThen];rw[Oper.upon_value];go_wp2;rw[Lib.run_from_unsafe w ⟨b,0,none⟩ underlying285 underlying260 d a zk];simp only[Result.andThen];rw[Oper.upon_value];go_wp2
 go_end0
 exact⟨rfl,rfl⟩
theorem Ji(B b:Nat)(a:List Value)(w:zW)(h:Lib.IsBuilder 262 5 B b a w):
 zC 284 #[.pointer (some ⟨b,0,none⟩)] w fun e w'=>e=.returned (.tuple #[])/\(Lib.BuilderAt 262 5 B b (.pointer (some ⟨b,0,none⟩)) a w'/\Below B w w'):=by
 rcases h with h|h
 .refine(EJ b w h.cell0 h.shape h.frozen0).mono ?_;rintro e w' ⟨rfl,rfl⟩;exact⟨rfl,h.used _,(zR B w).setCell (p:=⟨b,0,none⟩) h.1 _⟩
 .refine(Ho b w h.cell0).mono ?_;rintro e w' ⟨rfl,rfl⟩;exact⟨rfl,h,zR B _⟩
theorem uP(B b:Nat)(m:List Value)(s:ByteArray)(w:zW)(h:Lib.IsBuilder 262 5 B b m w)(C:m.length+s.size<=140737488355328)(H:B<=w.heap.size):
 zC 272 #[.pointer (some ⟨b,0,none⟩),.string s] w fun e w'=>e=.returned (.tuple #[.int .i64 s.size,.nilIface])/\(Lib.BuilderAt 262 5 B b (.pointer (some ⟨b,0,none⟩)) (m++Lib.strCells s) w'/\Below B w w'):=by
 obtain⟨F,hi,t,r,q⟩:=info_parts (show(prog.info? 5).map (fun i=>(i.zero,i.size,i.bytes))=some (some (.int .u8 0),1,1)by kernel_rfl)
 go_enter func272,ntmps272
 go_wp2_with (go_at_call 284;refine(Ji B b m _ h).mono ?_)
 rintro e o ⟨rfl,I,l⟩;obtain⟨D,v,d,j,x⟩:=I;have N:o.cell? ⟨b,0,none⟩=some (.pointer (some ⟨b,0,none⟩)):=by rw[Lib.cell_of_heap d];rfl
 have M:o.cell? ⟨b,1,none⟩=some v:=by rw[Lib.cell_of_heap d];rfl
 go_wp2_with (at_builtin;refine Lib.wpList_append_own_string _ rfl _ _ 185 9 rfl B 5 F underlying185 underlying9 hi t r q _ _ _ rfl j s rfl ?c3 ?c4 ?c5 ?_)
 case c3=>unfold maxLen;omega
 case c4=>omega
 case c5=>have:=l.size;omega
 intro v' n a c _;have y:b<o.heap.size:=by
  rcases Nat.lt_or_ge b o.heap.size with z|z
  .exact z
  .simp[Array.getElem?_eq_none z]at d
 have f:n.heap[b]?=some (.cells #[.pointer (some ⟨b,0,none⟩),v] 262 (0,0)):=by
  rw[c.block b y (fun e=>x e.symm)];exact d
 have L:n.cell? ⟨b,0,none⟩=some (.pointer (some ⟨b,0,none⟩)):=by rw[Lib.cell_of_heap f];rfl
 have K:n.cell? ⟨b,1,none⟩=some v:=by rw[Lib.cell_of_heap f];rfl
 have f1:n.frozen? ⟨b,1,none⟩=false:=Lib.frozen_of_heap f 1;obtain⟨E,A,cap,rfl⟩:∃E A cap,v'=.slice E A cap:=by
  rcases a.2 with⟨u,_⟩|⟨g,cap,J,u,_⟩
  .exact⟨_,_,_,u⟩
  .exact⟨_,_,_,u⟩
 go_wp2
 go_ret2
 refine⟨rfl,?_,?_⟩
 .exact Lib.BuilderAt.put (T:=262) (e:=5) D f (bs':=m++Lib.strCells s) (by simpa [Lib.strCells_length]using a) zD
 .exact(l.grown c (by have:=l.size;omega) (fun k G=>(j.lt k G).1)).setCell (p:=⟨b,1,none⟩) D _
structure gD (m:Mem):Prop where
 get : ∀ w, m.ay w → Lib.TabIs prog w "internal/strconv.uint64pow10" .u64 Lib.pow10Tab
theorem gD.le{m m':Mem}(h:gD m)(b:m.le m'):gD m':=⟨fun w a=>h.get w (Mem_inn_le b a)⟩
end Cl
namespace Cl
open Go Go.RowKit Go.Proofs Go.WideShapes Go.ChangeShapes Go.Deep Go.Joins Tryz
theorem Mem_of_cell{w:zW}{b o:Nat}{v:zV}(h:w.cell? ⟨b,o,none⟩=some v):(Mem.of w).cell b o=some v:=by
 unfold World.cell? at h;unfold Mem.cell Mem.of
 split at h
 .rename_i a;rw[a];simpa using h
 .cases h
theorem Oh{α:Type}{l:List α}(h:l.length=2):∃a b,l=[a,b]:=by
 match l,h with
 |[a,b],_=>exact⟨a,b,rfl⟩
theorem azr{α:Type}{l:List α}(h:l.length=3):∃a b c,l=[a,b,c]:=by
 match l,h with
 |[a,b,c],_=>exact⟨a,b,c,rfl⟩
theorem SS{w:zW}{a:Addr}{v:zV}(h:w.cell? a=some v):a.spot=none:=by
 unfold World.cell? at h
 split at h
 .split at h
  .cases h
  .rename_i b
   cases hx:a.spot with
   |none=>rfl
   |some x=>rw[hx]at b;exact absurd rfl b
 .cases h
theorem iE{w:zW}{b o n:Nat}{cs:List Value}(h:w.cells? 0 ⟨b,o,none⟩ n=some cs){i:Nat}{v:zV}(hi:cs[i]?=some v):(Mem.of w).cell b (o+i)=some v:=by
 obtain⟨-,d,c⟩:=World.cells?_some h;have a:i<n:=by rw[<-d];exact(yB.1 hi).1
 have:=c i a;rw[hi,Addr.add_lit]at this;exact Mem_of_cell this
section
variable {H:Type} {enc:TypeId×Value->H} {P:Program} {w:zW} {spare:Nat->Bool} {held:Bool}
theorem lJ{α:Type}[Inhabited α]{t e:TypeId}{size:Nat}(ht:P.underlying t=some (.slice e))(z:P.cellsOf e=size)(d:0<size)(R:Nat->Nat->α->Prop)
(F:∀(fuel b o:Nat) (cs:List Value) (x:DataW H×List MemPlace),w.cells? 0 ⟨b,o,none⟩ size=some cs->DataW.trod enc P w 0 spare held fuel e cs=some x->∃y:α,R b o y)
{fuel:Nat}{cs:List Value}{x:DataW H×List MemPlace}(h:DataW.trod enc P w 0 spare held fuel t cs=some x):∃v l,cs=[v]/\Mem.slice R size v l:=by
 rcases open_slice ht h with⟨rfl,-⟩|⟨a,len,cap,m,n,D,K,rfl,J,C,u,j,rfl,s⟩
 .exact⟨_,[],rfl,none,0,rfl,zI _,zG _,fun h=>absurd rfl h⟩
 .have B:len<=m:=by rw[j];split<;>omega
  by_cases G:len=0
  .subst G;exact⟨_,[],rfl,some a,cap,rfl,zG _,u,fun h=>absurd rfl h⟩
  .have c:a.spot=none:=by
    obtain⟨r,g,-⟩:=s 0 zo;obtain⟨-,q,A⟩:=World.cells?_some g;rw[z]at q A;have:=A 0 d;rw[Nat.zero_mul]at this;have e:(a.add 0).add 0=a:=by simp[Addr.add]
    rw[e,yH zo]at this;exact SS this
   obtain⟨b,o,I⟩:=a;simp only at c;subst c;obtain⟨f,E⟩:=choose_lt (α:=α) (n:=len) (p:=fun i y=>R b (o+i*size) y) (fun i hi=>by
    obtain⟨r,g,q⟩:=s i zo;rw[z,Addr.add_lit]at g;exact F _ _ _ _ _ g q)
   refine⟨_,(List.range len).map f,rfl,some ⟨b,o,none⟩,cap,zS,by simpa using C,u,fun _=>⟨b,o,rfl,fun i hi=>?_⟩⟩;have k:i<len:=by simpa using hi
   simpa using E i k
end
instance:Inhabited Ed:=⟨⟨0,0,0⟩⟩
instance:Inhabited Sn:=⟨⟨false,[]⟩⟩
section
variable {H:Type} {enc:TypeId×Value->H} {w:zW} {spare:Nat->Bool} {held:Bool}
theorem azg{n:Int}(h:(Lit.int .u8 n).wf=true):∃k:Nat,n=k/\k<256:=by
 simp only[Lit.wf,xG,decide_eq_true_eq]at h;have b:IntKind.min .u8=0:=by decide
 have a:IntKind.max .u8=255:=by decide
 exact⟨n.toNat,zo,zo⟩
theorem Md{n:Int}(h:(Lit.int .i64 n).wf=true): -9223372036854775808<=n/\n<=9223372036854775807:=by
 simp only[Lit.wf,xG,decide_eq_true_eq]at h;have b:IntKind.min .i64 = -9223372036854775808:=by decide
 have a:IntKind.max .i64=9223372036854775807:=by decide
 omega
theorem VF(fuel b o:Nat)(cs:List Value)(x:DataW H×List MemPlace)(c:w.cells? 0 ⟨b,o,none⟩ 3=some cs)(h:DataW.trod enc prog w 0 spare held fuel 104 cs=some x):∃e,Dn (Mem.of w) b o e:=by
 obtain⟨B,A,z,n,-,C,k,j,g⟩:=trod_struct3 underlying104 h;have d:cs.length=3:=(World.cells?_some c).2.1;obtain⟨F,E,D,rfl⟩:=azr d;have s:prog.cellsOf 5=1:=by kernel_rfl
 have f:prog.cellsOf 3=1:=by kernel_rfl
 simp[s,f]at k j g;obtain⟨I,v,-,w0⟩:=DataW.trod_int underlying5 k;obtain⟨G,u,-,l⟩:=DataW.trod_int underlying5 j;obtain⟨y,t,-,a⟩:=DataW.trod_int underlying3 g;obtain⟨r,rfl,p⟩:=azg w0;obtain⟨q,rfl,m⟩:=azg l;cases v;cases u;cases t;have a:=Md a;exact⟨⟨r,q,y⟩,iE (i:=0) c rfl,iE (i:=1) c rfl,iE (i:=2) c rfl,p,m,a.1,a.2⟩
theorem FD(fuel b o:Nat)(cs:List Value)(x:DataW H×List MemPlace)(c:w.cells? 0 ⟨b,o,none⟩ 2=some cs)(h:DataW.trod enc prog w 0 spare held fuel 80 cs=some x):∃s,wX (Mem.of w) b o s:=by
 obtain⟨r,q,n,-,t,e,d⟩:=trod_struct2 underlying80 h;have a:cs.length=2:=(World.cells?_some c).2.1;obtain⟨u,m,rfl⟩:=Oh a;have g:prog.cellsOf 4=1:=by kernel_rfl
 have es:prog.cellsOf 78=1:=by kernel_rfl
 simp[g,es]at e d;obtain⟨p,k,-⟩:=DataW.trod_bool underlying4 e;cases k;obtain⟨v,l,j,f⟩:=lJ underlying78 zk zo (Dn (Mem.of w)) VF d;cases j;exact⟨⟨p,l⟩,iE (i:=0) c rfl,m,iE (i:=1) c rfl,f⟩
end
end Cl
namespace Cl
open Go Go.RowKit Go.Proofs Go.ChangeShapes Go.WideShapes Tryz
theorem Nk:ownKnob prog.godebug=none:=by kernel_rfl
theorem La:laidOutB prog=true:=by kernel_rfl
theorem bzl : prog.globalNamed "internal/strconv.uint64pow10" = some 0 := by kernel_rfl
theorem XH:(prog.globals[0]?).map (·.type)=some 283:=by kernel_rfl
theorem Yd:prog.cellsOf 283=20:=by kernel_rfl
theorem Yc:prog.cellsOf 258=1:=by kernel_rfl
abbrev Bz : List (String × DataW Unit) := [("math/bits.deBruijn32tab", Go.Proofs.YtdgjplfcpcphoaaGreatDoor.Rows.laid_math_bits_deBruijn32tab), ("math/bits.deBruijn64tab", Go.Proofs.YtdgjplfcpcphoaaGreatDoor.Rows.laid_math_bits_deBruijn64tab), ("internal/strconv.uint64pow10", Go.Proofs.YtdgjplfcpcphoaaGreatDoor.Rows.laid_internal_strconv_uint64pow10)]
theorem Nj {W:zW} (h:laidMetH prog Bz W):gD (Mem.of W):=by
 have h0:laidMet prog Bz W:=h
 have h1 : Lib.TabIs prog W "internal/strconv.uint64pow10" .u64 Lib.pow10Tab :=
  Lib.tabIs_of_head (rest:=[]) bzl XH underlying283 underlying258 Yc Yd h0.tail.tail
 refine ⟨fun w hw=>?_⟩;unfold Lib.TabIs World.var? at h1 ⊢;rw[bzl] at h1 ⊢;simp only[Option.bind_some] at h1 ⊢
 split at h1
 ·rename_i cs t f hb;rw[hw.get 0 _ hb];exact h1
 ·cases h1
def Gp:DataW Unit->Array Value
 | .agg l=>(l.map fun d=>match d with
  |.lit (.int k n)=>Value.int k n
  | _=>undef).toArray
 |_=>#[]
def Q9(c:Array Value):Obj->Obj
 |.cells _ t frozen=>.cells c t frozen
 |o=>o
noncomputable def pW(a:Os):World:=
 { World.holding prog a ⟨#[],#[],[]⟩with heap:=(((World.holding prog a ⟨#[],#[],[]⟩).heap.modify 0 (Q9 (Gp Go.Proofs.YtdgjplfcpcphoaaGreatDoor.Rows.laid_internal_strconv_uint64pow10))).modify 1 (Q9 (Gp Go.Proofs.YtdgjplfcpcphoaaGreatDoor.Rows.laid_math_bits_deBruijn32tab))).modify 2 (Q9 (Gp Go.Proofs.YtdgjplfcpcphoaaGreatDoor.Rows.laid_math_bits_deBruijn64tab)) }
section
variable {H:Type} {enc:TypeId×Value->H}
theorem yz{W n:zW}(l:Below W.heap.size W n){k:Nat->Bool}:∀(e:List TypeId) (j:List Value) (ds:List (DataW H)) (ps:List MemPlace),(∀t∈e,prog.readableRec t=true/\t<prog.types.size) ->
 (∀x∈ps,x.block<W.heap.size)->(∀x∈ps,k x.block=true)->DataW.TrodAll enc prog W 0 (fun _=>true) true e j ds ps->DataW.TrodAll enc prog n 0 k true e j ds ps
 |[],_,_,_,_,_,_,h=>by
  obtain⟨rfl,rfl,rfl⟩:=trodAll_nil h
  exact trodAll_mk0
 |t::e,_,_,_,ht,hl,hs,h=>by
  obtain⟨v,f,d,i,a,b,rfl,rfl,rfl,p,o⟩:=trodAll_cons h;have m:=ht t (yF ..);exact trodAll_cons_mk (WideElems.Trod_stays La m.1 m.2 p (fun x c=>l.same (hl x (xI _ c))) (fun x c=>hs x (xI _ c)))
   (yz l e f i b (fun t g=>ht t (zU _ g)) (fun x c=>hl x (xS _ c)) (fun x c=>hs x (xS _ c)) o)
theorem Om{f:Func}{s:ChangeSpec}{W W':zW}{args:Array Value}{ds:List (DataW H)}{before:List MemPlace}(hv:s.vars=[])(hr:f.resultTypes=#[4])
(ht:(f.params.toList.all fun t=>prog.readableRec t&&decide (t<prog.types.size))=true)(hfn:s.fn H (ds++[])={ results:=[.lit (.bool true)],args:=ds })
(hW:DataW.Whole enc prog f.params.toList s.vars false W args.toList ds [] before)(hb:Below W.heap.size W W'):
 s.post enc prog f false true false false W args (.bool true) W':=by
 have hlt:=hW.lt;obtain⟨p,q,h1,h2,rfl,h3⟩:=id hW;rw[hv]at h2;obtain⟨-,rfl⟩:=trodVars_none h2;rw[yR]at hW hlt;refine⟨ds,[],p,[],p,[],hW,?_,?_,?_,hb.frame _,fun h=>by cases h⟩
 .rw[hfn,hr];exact trodAll_cons_mk (shut_bool underlying4 _) trodAll_mk0
 .rw[hfn];exact yz hb _ _ _ _ (fun t h=>by have:=vD.1 ht t h;simpa using this) hlt (fun x hx=>by simpa using hlt x hx) h1
 .rw[hfn,hv]
  rfl
end
end Cl
namespace Cl
open Go Go.RowKit
theorem aj{P:Program}{f:FuncId}{args:Array Value}{w:zW}{X:Ending->World->Prop}
(h:∀R:Ending->World->Prop,Hid (∀e w',X e w'->R e w')->Calls P f args w R):Calls P f args w X:=h X (fun _ _ h=>h)
theorem dU{k:IntKind}{a b:Int}(h:a=b):Ending.returned (.int k a)=.returned (.int k b):=by rw[h]
theorem aS{a b:Bool}(h:a=b):Ending.returned (.bool a)=.returned (.bool b):=by rw[h]
def lk:List (Nat×Value)->Nat->Value->Value
 |[],_,d=>d
 |(k,v)::r,i,d=>if i=k then v else lk r i d
def aX(z:Nat->Value)(a:List (Nat×Value)):Nat->Nat->List Value
 |_,0=>[]
 |i,n+1=>lk a i (z i)::aX z a (i+1) n
theorem Og(z:Nat->Value)(a:List (Nat×Value)):∀n i,(aX z a i n).length=n:=by
 intro n
 induction n with
 |zero=>intro i;rfl
 |succ n ih=>intro i;simp[aX,ih]
theorem Xr(z:Nat->Value)(a:List (Nat×Value)):∀n i j,j<n->(aX z a i n)[j]?=some (lk a (i+j) (z (i+j))):=by
 intro n
 induction n with
 |zero=>intro i j h;omega
 |succ n ih=>
  intro i j h
  cases j with
  |zero=>simp[aX]
  |succ j=>
   simp only[aX,List.getElem?_cons_succ];rw[ih (i+1) j zo];rw[show i+1+j=i+(j+1)by omega]
theorem QZ(f:Nat->Value)(K:List Nat)(i:Nat):lk (K.zip (K.map f)) i (f i)=f i:=by
 induction K with
 |nil=>rfl
 |cons k K ih=>
  simp only[yL,List.zip_cons_cons,lk];by_cases h:i=k
  .subst h;simp
  .simp[h,ih]
theorem JX(a:Array Value)(K:List Nat):(aX (fun i=>a.getD i undef) (K.zip (K.map fun i=>a.getD i undef)) 0 a.size).toArray=a:=by
 apply Array.ext
 .simp[Og]
 .intro i e h2;have:=Xr (fun i=>a.getD i undef) (K.zip (K.map fun i=>a.getD i undef)) a.size 0 i qeP;rw[yZ,QZ (fun i=>a.getD i undef) K i]at this;have c:=yB.1 this;obtain⟨d,b⟩:=c;simp only[List.getElem_toArray];rw[b];simp[Array.getD,h2]
theorem av{P:Program}{c:Code}{Q:Exit->Act->World->Prop}{f:Array Value}{w:zW}(K:List Nat)(h:Nat->List Value->World->Prop)
(B:∃n,h n (K.map fun i=>f.getD i undef) w)
(o:∀(X:Act->World->Prop) (z:Nat->Value) (n:Nat) (t:List Value) (C:zW),Hid (∀j (g:Array Value) w',j<n->g.size=f.size->h j (K.map fun i=>g.getD i undef) w'->X ⟨g,[]⟩ w') ->
  t.length=K.length->h n t C->c.wp P (Exit.then X Q) ⟨(aX z (K.zip t) 0 f.size).toArray,[]⟩ C):
 (Code.loop c).wp P Q ⟨f,[]⟩ w:=by
 let I:Nat->Act->World->Prop:=fun n a w=>a.defers=[]/\a.tmps.size=f.size/\h n (K.map fun i=>a.tmps.getD i undef) w;intro b k cs;have u:∀n a w,I n a w->∃e s w',Q e s w'/\Arrives P (lone (b.at a (.code c::.inLoop c::k)) cs w) b k cs e s w':=by
  intro n
  induction n using Nat.strongRecOn with
  |_ n ih=>
   intro a w ⟨hd,hs,hb⟩;have F:a=⟨(aX (fun i=>a.tmps.getD i undef) (K.zip (K.map fun i=>a.tmps.getD i undef)) 0 f.size).toArray,[]⟩:=by
    rw[<-hs,JX];cases a;simp_all
   have D:=o (fun s w'=>∃j,j<n/\I j s w') (fun i=>a.tmps.getD i undef) n _ w (fun j N w' J H G=>⟨j,J,rfl,H,G⟩) zS hb;rw[<-F]at D;obtain⟨e,r,q,m,d⟩:=D b (.inLoop c::k) cs
   cases e with
   |normal=>
    obtain⟨j,y,A⟩:=m;obtain⟨L,M,E,v,p⟩:=ih j y r q A
    exact⟨L,M,E,v,.of_steps (Steps.trans d (.one step_inLoop)) p⟩
   |exit id=>exact⟨_,r,q,m,.pass (x:=.inLoop c) rfl (fun _ _=>.inl zS) d⟩
   |goto l=>exact⟨_,r,q,m,.pass (x:=.inLoop c) rfl (fun _ _=>.inl zS) d⟩
   |ret=>exact⟨_,r,q,m,.pass (x:=.inLoop c) rfl (fun _ _=>.inl zS) d⟩
   |panic ch=>exact⟨_,r,q,m,.pass (x:=.inLoop c) rfl (fun _ _=>.inl zS) d⟩
   |outgrown=>exact⟨_,r,q,m,.pass (x:=.inLoop c) rfl (fun _ _=>.inl zS) d⟩
 obtain⟨n,B⟩:=B;obtain⟨e,s,w',m,d⟩:=u n ⟨f,[]⟩ w ⟨rfl,rfl,B⟩;exact⟨e,s,w',m,.of_steps (.one step_loop) d⟩
theorem aR{P:Program}{c:Code}{Q:Exit->Act->World->Prop}{a:Array Value}{w:zW}(K:List Nat)(f:List Value->World->Prop)
(o:∀(X:Act->World->Prop),Hid (∀(b:Array Value) w',b.size=a.size->f (K.map fun i=>b.getD i undef) w'->X ⟨b,[]⟩ w')->c.wp P (Exit.then X (fun _ _ _=>False)) ⟨a,[]⟩ w)
(n:∀(z:Nat->Value) (j:List Value) (w':zW),j.length=K.length->f j w'->Q .normal ⟨(aX z (K.zip j) 0 a.size).toArray,[]⟩ w'):c.wp P Q ⟨a,[]⟩ w:=by
 refine wp_mono (o (fun l w'=>l.defers=[]/\l.tmps.size=a.size/\f (K.map fun i=>l.tmps.getD i undef) w') (fun t w' g k=>⟨rfl,g,k⟩)) ?_;rintro e ⟨t,d⟩ w' hq
 cases e with
 |normal=>
  obtain⟨m,g,k⟩:=hq;have h:=n (fun i=>t.getD i undef) _ w' zS k
  dsimp only at g m
  subst m;rw[<-g,JX]at h
  exact h
 |_=>exact hq.elim
theorem bE{w a:zW}(h:zB w a)(o:Obj):zB w (a.alloc o):=h.alloc h.size o
theorem iI{w w':zW}(h:zB w w'){b o:Nat}{v:zV}(c:b<w.heap.size)(a:w.cell? ⟨b,o,none⟩=some v):w'.cell? ⟨b,o,none⟩=some v:=
 (h.cell (p:=⟨b,o,none⟩) c).trans a
theorem dD{w a w':zW}(h:zB w a)(b:Below a.heap.size a w'):zB w w':=h.trans (b.mono h.size)
theorem below_drewN{B:Nat}{a w:zW}(h:Below B a w)(n:Nat):Below B a (w.drewN n):=⟨h.os,h.tape,h.output,h.size,h.block⟩
structure bH (w:zW) (g:Nat) (t:TypeId) (arr:Array Value):Prop where
 get:w.heap[g]?=some (.cells arr t (0,0))
theorem bH.lt{w:zW}{g:Nat}{t:TypeId}{arr:Array Value}(h:bH w g t arr):g<w.heap.size:=(yC.1 h.get).1
theorem bH.cell{w:zW}{g:Nat}{t:TypeId}{arr:Array Value}(h:bH w g t arr){i:Nat}{v:zV}(hi:arr[i]?=some v):w.cell? ⟨g,i,none⟩=some v:=by
 simp[World.cell?,h.get,hi]
theorem bH.frozen{w:zW}{g:Nat}{t:TypeId}{arr:Array Value}(h:bH w g t arr)(i:Nat):w.frozen? ⟨g,i,none⟩=false:=by
 simp[World.frozen?,h.get]
theorem bH.of_heap{w w':zW}{g:Nat}{t:TypeId}{arr:Array Value}(h:bH w g t arr)(e:w'.heap[g]?=w.heap[g]?):bH w' g t arr:=⟨e.trans h.get⟩
theorem bH.al{w:zW}{g:Nat}{t:TypeId}{arr:Array Value}(h:bH w g t arr)(o:Obj):bH (w.alloc o) g t arr:=h.of_heap (Below.heap_alloc _ _ _ h.lt)
theorem bH.dr{w:zW}{g:Nat}{t:TypeId}{arr:Array Value}(h:bH w g t arr):bH w.drew g t arr:=h.of_heap rfl
theorem bH.Ep{w:zW}{g:Nat}{t:TypeId}{arr:Array Value}(h:bH w g t arr)(n:Nat):bH (w.drewN n) g t arr:=h.of_heap rfl
theorem bH.set{w:zW}{g:Nat}{t:TypeId}{arr:Array Value}(h:bH w g t arr)(i:Nat)(v:zV):bH (w.setCell ⟨g,i,none⟩ v) g t (arr.setIfInBounds i v):=by
 constructor;simp[World.setCell,Array.getElem?_modify,h.get]
theorem bH.az{B:Nat}{w w':zW}{g:Nat}{t:TypeId}{arr:Array Value}(h:bH w g t arr)(b:Below B w w')(a:g<B):bH w' g t arr:=h.of_heap (b.block _ a)
theorem bH.grown{w w':zW}{row:Option Nat}{g:Nat}{t:TypeId}{arr:Array Value}(h:bH w g t arr)(b:w.grownBy w' row)(a:some g≠row):bH w' g t arr:=h.of_heap (b.block _ h.lt a)
theorem bH.new(w:zW)(t:TypeId)(arr:Array Value):bH (w.alloc (.cells arr t)) w.heap.size t arr:=by
 constructor;show(w.heap.push _)[w.heap.size]?=_;simp
theorem Mem_inn_al{m:Mem}{w:zW}(h:m.ay w)(o:Obj):m.ay (w.alloc o):=
 ⟨fun k u a=>(Below.heap_alloc _ _ _ (yC.1 (h.get k u a)).1).trans (h.get k u a)⟩
theorem Mem_inn_set{m:Mem}{w:zW}(h:m.ay w){a:Addr}(c:m a.block=none)(v:zV):m.ay (w.setCell a v):=
 ⟨fun k u b=>(Below.heap_setCell _ _ _ _ (by intro e;rw[e,c]at b;cases b)).trans (h.get k u b)⟩
theorem Mem_inn_grown{m:Mem}{w w':zW}{row:Option Nat}(h:m.ay w)(c:w.grownBy w' row)(b:∀k,row=some k->m k=none):m.ay w':=
 ⟨fun k u a=>(c.block k (yC.1 (h.get k u a)).1 (by intro e;rw[b k e.symm]at a;cases a)).trans (h.get k u a)⟩
theorem Mem_lt_of{m:Mem}{w:zW}(h:m.ay w){k:Nat}{o:Obj}(a:m k=some o):k<w.heap.size:=(yC.1 (h.get k o a)).1
theorem Mem_none_of_ge{m:Mem}{w:zW}(h:m.ay w){k:Nat}(a:w.heap.size<=k):m k=none:=by
 cases hm:m k with
 |none=>rfl
 |some o=>have:=Mem_lt_of h hm;omega
def Mem.grow(m:Mem)(w0 w:zW):Mem:=fun k=>if k<w0.heap.size then m k else w.heap[k]?
theorem Mem_le_grow{m:Mem}{w0 w:zW}(h:m.ay w0):m.le (m.grow w0 w):=⟨fun k o a=>by
 unfold Mem.grow;rw[zK (Mem_lt_of h a)];exact a⟩
theorem Mem_grow_inn{m:Mem}{w0 w:zW}(h:m.ay w0)(c:Below w0.heap.size w0 w):(m.grow w0 w).ay w:=⟨fun k o a=>by
 unfold Mem.grow at a
 split at a
 .rename_i b;exact(c.block k b).trans (h.get k o a)
 .exact a⟩
theorem Mem_grow_none{m:Mem}{w0 w:zW}{k:Nat}(h:m k=none)(a:k<w0.heap.size):m.grow w0 w k=none:=by simp[Mem.grow,a,h]
structure Mem.ext (m:Mem) (w0:zW) (mk:Mem):Prop where
 le:m.le mk
 dom:∀k o,mk k=some o->m k=some o\/w0.heap.size<=k
theorem Mem_ext_refl(m:Mem)(w0:zW):m.ext w0 m:=⟨Mem.le_refl m,fun _ _ h=>.inl h⟩
theorem Mem_ext_grow{m:Mem}{w0 a c:zW}{mk:Mem}(h:m.ext w0 mk)(hi:mk.ay a)(d:w0.heap.size<=a.heap.size):m.ext w0 (mk.grow a c):=
 ⟨Mem.le_trans h.le (Mem_le_grow hi),fun k o b=>by
  unfold Mem.grow at b
  split at b
  .exact h.dom k o b
  .exact .inr zo⟩
theorem Mem_ext_le_grow{m:Mem}{w0 w:zW}{mk:Mem}(h:m.ext w0 mk)(hi:mk.ay w):mk.le (m.grow w0 w):=⟨fun k o a=>by
 unfold Mem.grow
 split
 .rename_i c;rcases h.dom k o a with b|b
  .exact b
  .omega
 .exact hi.get k o a⟩
def Mem.add(m:Mem)(w:zW)(g:Nat):Mem:=fun k=>if k=g then w.heap[g]? else m k
theorem Mem_add_inn{m:Mem}{w:zW}{g:Nat}(h:m.ay w):(m.add w g).ay w:=⟨fun k o a=>by
 unfold Mem.add at a
 split at a
 .rename_i e;rw[e];exact a
 .exact h.get k o a⟩
theorem Mem_le_add{m:Mem}{w:zW}{g:Nat}(h:m g=none):m.le (m.add w g):=⟨fun k o a=>by
 unfold Mem.add;rw[zJ (fun e=>by rw[e,h]at a;cases a)];exact a⟩
theorem Mem_ext_add{m mk:Mem}{w0 w:zW}{g:Nat}(h:m.ext w0 mk)(c:mk g=none)(b:w0.heap.size<=g):m.ext w0 (mk.add w g):=
 ⟨Mem.le_trans h.le (Mem_le_add c),fun k o a=>by
  unfold Mem.add at a
  split at a
  .exact .inr zo
  .exact h.dom k o a⟩
theorem Mem_add_none{m:Mem}{w:zW}{g k:Nat}(h:m k=none)(a:k≠g):m.add w g k=none:=by simp[Mem.add,a,h]
theorem Mem_add_cell{m:Mem}{w:zW}{g:Nat}{t:TypeId}{arr:Array Value}(h:bH w g t arr){i:Nat}{v:zV}(hi:arr[i]?=some v):(m.add w g).cell g i=some v:=by
 simp[Mem.cell,Mem.add,h.get,hi]
structure gz (P:Program) (t e:TypeId) (size bytes:Nat):Prop where
 ht:P.underlying t=some (.slice e)
 pos:0<size
 info:∃i z,P.info? e=some i/\i.zero=some z/\i.size=size/\i.bytes=bytes/\z.cells.size=size
theorem kU{P:Program}{t e:TypeId}{size bytes:Nat}(S:gz P t e size bytes)(w:zW)(s:TypeId)
(v:zV)(n:Nat)(xs:List Value)(l:w.ownsRow 0 e size v n xs)
(a:Addr)(m c:Nat)(cZ:List Value)(y:cZ.length=m*size)(d:∀j u,cZ[j]?=some u->w.cell? (a.add j)=some u)(I:∀u∈cZ,u.oneCell'=true)
(r:n+m<=maxLen)(f:(n+m)*bytes<=140737488355328):
 ∃v' w',(Builtin.append_ #[t,t] s #[v,.slice (some a) m c]).run P w=.ok v' w'/\w'.ownsRow 0 e size v' (n+m) (xs++cZ)/\w.grownBy w' v.ownBlock /\
  (∀k,v'.ownBlock=some k->v.ownBlock=some k\/w.heap.size<=k):=by
 obtain⟨i,z,hi,D,b,q,x⟩:=S.info;obtain⟨v',w',C,R,Q,V⟩:=run_append_own (P:=P) w 0 t s e i z size bytes S.ht hi D b q x S.pos v n xs l a m c cZ y d I r f (zG _);refine⟨v',w',C,R,Q,?_⟩;intro k F;rcases l.2 with⟨rfl,rfl⟩|⟨g,cap,B,rfl,N,L,K,M,G,E⟩
 ·
  have J:xs=[]:=yM (by simpa using l.1);subst J;obtain⟨U,T,h,H,-,-⟩:=run_append_own (P:=P) w w.heap.size t s e i z size bytes S.ht hi D b q x S.pos (.slice none 0 0) 0 [] (World.ownsRow_nil _ _ _ _) a m c cZ y d I r f (zI _);rw[C]at h;cases h;exact .inr (H.lt k F).1
 .by_cases o:n+m<=cap
  .have A:n*size+cZ.length<=B.size:=by rw[y,G,<-Nat.add_mul];exact Nat.mul_le_mul_right _ o
   subst b;have h:=run_append_room (P:=P) w t s e i S.ht hi g n cap B L a m c cZ y d I o A;rw[C]at h;cases h;exact .inl F
  .have p:∀j u,xs[j]?=some u->w.cell? ((⟨g,0,none⟩:Addr).add j)=some u:=l.cells (g:=g) rfl;subst b;have O:(n+m)*i.bytes<=140737488355328:=by rw[q];exact f
   have h:=run_append_grow (P:=P) w t s e i z S.ht hi D ⟨g,0,none⟩ n cap xs l.1 p a m c cZ y d zo (by simp only[maxLen]at r;omega) (growslice_fits zo O);rw[C]at h;cases h;simp[Value.ownBlock]at F;exact .inr zo
theorem aT{w:zW}{t:TypeId}{size:Nat}{v:zV}{n:Nat}{xs:List Value}(h:w.ownsRow 0 t size v n xs):∃a c,v=.slice a n c:=by
 rcases h.2 with⟨rfl,rfl⟩|⟨g,cap,b,rfl,-⟩
 .exact⟨_,_,rfl⟩
 .exact⟨_,_,rfl⟩
theorem iG{P:Program}{t e:TypeId}{size bytes:Nat}(S:gz P t e size bytes){w:zW}{o:Oper}{a:Act}{K:Act->World->Prop}{Q:Exit->Act->World->Prop}(s x:Operand)
(ho:o.op=.call { callee:=.builtin .append,args:=#[s,x],argTypes:=#[t,t] })
(v:zV)(n:Nat)(xs:List Value)(hs:a.eval s=v)(hown:w.ownsRow 0 e size v n xs)
(ad:Addr)(m c:Nat)(cZ:List Value)(hx:a.eval x=.slice (some ad) m c)(hl:cZ.length=m*size)(hnews:∀j u,cZ[j]?=some u->w.cell? (ad.add j)=some u)(h1:∀u∈cZ,u.oneCell'=true)
(h63:n+m<=maxLen)(hbytes:(n+m)*bytes<=140737488355328)
(h:∀va vc w',w'.ownsRow 0 e size (.slice va (n+m) vc) (n+m) (xs++cZ)->w.grownBy w' v.ownBlock->(∀k,(Value.slice va (n+m) vc).ownBlock=some k->v.ownBlock=some k\/w.heap.size<=k)->K (a.put o.dst (.slice va (n+m) vc)) w'):o.wp P a w K Q:=by
 obtain⟨v',w',hr,h2,h3,h4⟩:=kU S w o.type v n xs hown ad m c cZ hl hnews h1 h63 hbytes;obtain⟨va,vc,rfl⟩:=aT h2;unfold Oper.wp execOp;simp only[ho,resolve,invoke,builtin,Sem.run_bind,Sem.run_pure,Result.andThen_ok,List.map_toArray,yL,xB,hs,hx,hr];exact h va vc w' h2 h3 h4
theorem aG{P:Program}{t e:TypeId}{size bytes:Nat}(S:gz P t e size bytes){w:zW}{ops:Array Oper}{rest:List Oper}{o:Oper}{a:Act}{Q:Exit->Act->World->Prop}(hgd:o.guard=none)(s x:Operand)
(ho:o.op=.call { callee:=.builtin .append,args:=#[s,x],argTypes:=#[t,t] })
(v:zV)(n:Nat)(xs:List Value)(hs:a.eval s=v)(hown:w.ownsRow 0 e size v n xs)
(ad:Addr)(m c:Nat)(cZ:List Value)(hx:a.eval x=.slice (some ad) m c)(hl:cZ.length=m*size)(hnews:∀j u,cZ[j]?=some u->w.cell? (ad.add j)=some u)(h1:∀u∈cZ,u.oneCell'=true)
(h63:n+m<=maxLen)(hbytes:(n+m)*bytes<=140737488355328)
(h:∀va vc w',w'.ownsRow 0 e size (.slice va (n+m) vc) (n+m) (xs++cZ)->w.grownBy w' v.ownBlock->(∀k,(Value.slice va (n+m) vc).ownBlock=some k->v.ownBlock=some k\/w.heap.size<=k)->wpList P ops Q rest (a.put o.dst (.slice va (n+m) vc)) w'):wpList P ops Q (o::rest) a w:=
 wpList_plain hgd fun _ hK=>iG S s x ho v n xs hs hown ad m c cZ hx hl hnews h1 h63 hbytes fun va vc w' h2 h3 h4=>hK _ _ (h va vc w' h2 h3 h4)
def Mem.iw(m:Mem)(w:zW)(v:zV):Mem:=match v.ownBlock with
 |some g=>m.add w g
 |none=>m
def Mem.free(m:Mem)(v:zV):Prop:=∀k,v.ownBlock=some k->m k=none
theorem Mem_addv_inn{m:Mem}{w:zW}(h:m.ay w)(v:zV):(m.iw w v).ay w:=by
 unfold Mem.iw;split
 .exact Mem_add_inn h
 .exact h
theorem Mem_le_addv{m:Mem}{w:zW}{v:zV}(h:m.free v):m.le (m.iw w v):=by
 unfold Mem.iw;split
 .rename_i g a;exact Mem_le_add (h g a)
 .exact Mem.le_refl m
theorem Mem_ext_addv{m mk:Mem}{w0 w:zW}{v:zV}(h:m.ext w0 mk)(b:mk.free v)(a:∀k,v.ownBlock=some k->w0.heap.size<=k):m.ext w0 (mk.iw w v):=by
 unfold Mem.iw;split
 .rename_i g e;exact Mem_ext_add h (b g e) (a g e)
 .exact h
theorem Mem_addv_none{m:Mem}{w:zW}{v:zV}{k:Nat}(h:m k=none)(a:v.ownBlock≠some k):m.iw w v k=none:=by
 cases hv:v.ownBlock with
 |none=>simp only[Mem.iw,hv];exact h
 |some g=>simp only[Mem.iw,hv];exact Mem_add_none h (fun x=>a (by rw[hv,x]))
theorem iK{w:zW}{t:TypeId}{size:Nat}{v:zV}{n:Nat}{xs:List Value}(b:w.ownsRow 0 t size v n xs){g:Nat}(d:v.ownBlock=some g)(m:Mem){j:Nat}{u:zV}(c:xs[j]?=some u):(m.iw w v).cell g j=some u:=by
 rcases b.2 with⟨rfl,rfl⟩|⟨l,cap,k,rfl,-,i,e,h,f,a⟩
 .cases d
 .simp only[Value.ownBlock,Option.some.injEq]at d;subst d;simp only[Mem.iw,Value.ownBlock,Mem.cell,Mem.add,if_true,i];rw[<-a,List.getElem?_take]at c
  split at c
  .simpa using c
  .cases c
theorem ku{α:Type}{R:Nat->Nat->α->Prop}{w:zW}{t:TypeId}{size:Nat}{v:zV}{l:List α}{xs:List Value}(a:w.ownsRow 0 t size v l.length xs)
(k:∀g,v.ownBlock=some g->∀i (h:i<l.length),R g (i*size) l[i]):Mem.slice R size v l:=by
 rcases a.2 with⟨rfl,f⟩|⟨g,cap,m,rfl,-,n,d,e,j,b⟩
 .refine⟨none,0,by rw[f],zo,by simp[maxLen],fun c=>absurd (yM f) c⟩
 .refine⟨some ⟨g,0,none⟩,cap,rfl,d,e,fun _=>⟨g,0,rfl,fun i h=>?_⟩⟩;rw[yZ];exact k g rfl i h
theorem lK{α:Type}{R:Nat->Nat->α->Prop}{w:zW}{t:TypeId}{v:zV}{l:List α}{xs:List Value}(d:w.ownsRow 0 t 1 v l.length xs)
(j:∀g,v.ownBlock=some g->∀i (h:i<l.length),R g i l[i]):Mem.qc R v l:=by
 obtain⟨a,c,q,p,o,n⟩:=ku (R:=R) d (fun g f i h=>by rw[Nat.mul_one];exact j g f i h);refine⟨a,c,q,p,o,fun e=>?_⟩;obtain⟨b,off,m,k⟩:=n e;exact⟨b,off,m,fun i hi=>by have:=k i hi;rwa [Nat.mul_one]at this⟩
structure kJ (m:Mem) (xs:List Value) (l:aC):Prop where
 len:xs.length=l.length*2
 acc:∀i (h:i<l.length),xs[i*2]?=some (.bool (l[i]).aZ)
 edg:∀i (h:i<l.length),∃ve,xs[i*2+1]?=some ve/\kS m ve (l[i]).aH
theorem kJ.nil(m:Mem):kJ m [] []:=⟨rfl,fun i h=>by simp at h,fun i h=>by simp at h⟩
theorem kJ.mono{m m':Mem}{xs:List Value}{l:aC}(h:kJ m xs l)(a:m.le m'):kJ m' xs l:=
 ⟨h.len,h.acc,fun i hi=>let ⟨ve,h1,h2⟩:=h.edg i hi;⟨ve,h1,qx a h2⟩⟩
theorem kJ.push{m:Mem}{xs:List Value}{l:aC}(h:kJ m xs l){s:Sn}{a:zV}(b:kS m a s.aH):kJ m (xs++[.bool s.aZ,a]) (l++[s]):=by
 refine⟨by simp[h.len,Nat.add_mul],fun i hi=>?_,fun i hi=>?_⟩
 .by_cases c:i<l.length
  .rw[yK (by rw[h.len];omega),h.acc i c,xM c]
  .have:i=l.length:=by simp at hi;omega
   subst this;exact qdf
 .by_cases c:i<l.length
  .obtain⟨u,h1,h2⟩:=h.edg i c;exact qc0
  .have:i=l.length:=by simp at hi;omega
   subst this;refine⟨a,?_,by simpa using b⟩;exact qdf
theorem gZ{w:zW}{t:TypeId}{v:zV}{l:aC}{xs:List Value}{m:Mem}(a:w.ownsRow 0 t 2 v l.length xs)(b:kJ m xs l)(d:m.free v):aQ (m.iw w v) v l:=
 ku a fun _ c i h=>⟨iK a c m (b.acc i h),let ⟨ve,h1,h2⟩:=b.edg i h;⟨ve,iK a c m h1,qx (Mem_le_addv d) h2⟩⟩
def dx(es:List Ed):List Value:=es.flatMap fun e=>[.int .u8 e.lo,.int .u8 e.hi,.int .i64 e.to]
def VI(e:Ed):Prop:=e.lo<256/\e.hi<256 /\ -9223372036854775808<=e.to/\e.to<=9223372036854775807
theorem nu(es:List Ed):(dx es).length=es.length*3:=by
 induction es with
 |nil=>rfl
 |cons e es ih=>simp only[dx,xO,zL]at*;simp[ih];omega
theorem kX(es:List Ed):∀i (h:i<es.length),(dx es)[i*3]?=some (.int .u8 es[i].lo)/\(dx es)[i*3+1]?=some (.int .u8 es[i].hi)/\(dx es)[i*3+2]?=some (.int .i64 es[i].to):=by
 induction es with
 |nil=>intro i h;simp at h
 |cons e es ih=>
  intro i h
  cases i with
  |zero=>simp[dx]
  |succ i=>
   have:=ih i qeo;simp only[dx,xO]at*
   rw[show(i+1)*3=i*3+3 by omega,show i*3+3+1=(i*3+1)+3 by omega,show i*3+3+2=(i*3+2)+3 by omega];exact qa5
theorem iN(es:List Ed)(e:Ed):dx (es++[e])=dx es++[.int .u8 e.lo,.int .u8 e.hi,.int .i64 e.to]:=by simp[dx]
theorem jq{w:zW}{t:TypeId}{v:zV}{l:List Ed}{m:Mem}(a:w.ownsRow 0 t 3 v l.length (dx l))(c:∀e∈l,VI e):kS (m.iw w v) v l:=
 ku a fun g b i h=>by
  obtain⟨j,f,d⟩:=kX l i h;exact⟨iK a b m j,iK a b m f,iK a b m d,c _ (zF h)⟩
theorem dS{w:zW}{t:TypeId}{v:zV}{l:List Int}{m:Mem}(a:w.ownsRow 0 t 1 v l.length (l.map (Value.int .i64)))(b:∀x∈l,-9223372036854775808<=x/\x<=9223372036854775807):eU (m.iw w v) v l:=
 lK a fun g c i h=>⟨iK a c m qeR,b _ (zF h)⟩
theorem lg{w:zW}{t:TypeId}{v:zV}{l:List Bool}{m:Mem}(a:w.ownsRow 0 t 1 v l.length (l.map Value.bool)):jw (m.iw w v) v l:=
 lK a fun g b i h=>iK a b m qeR
theorem Za{m mk:Mem}{w0 w:zW}{v:zV}(b:m.ext w0 mk)(hi:mk.ay w)(c:mk.free v)(a:∀k,v.ownBlock=some k->w0.heap.size<=k):(mk.iw w v).le (m.grow w0 w):=
 Mem_ext_le_grow (Mem_ext_addv b c a) (Mem_addv_inn hi v)
theorem below_grown{w0 w w':zW}{v:zV}(b:Below w0.heap.size w0 w)(c:w.grownBy w' v.ownBlock)(a:∀k,v.ownBlock=some k->w0.heap.size<=k):Below w0.heap.size w0 w':=
 b.grown c b.size a
theorem Vr{mk:Mem}{w:zW}{v v':zV}{N:Nat}(hi:mk.ay w)(c:mk.free v)(a:∀k,v'.ownBlock=some k->v.ownBlock=some k\/N<=k)(d:w.heap.size<=N):mk.free v':=fun k b=>by
 rcases a k b with h|h
 .exact c k h
 .exact Mem_none_of_ge hi zo
theorem Zm{n N:Nat}{v v':zV}(b:∀k,v.ownBlock=some k->n<=k)(a:∀k,v'.ownBlock=some k->v.ownBlock=some k\/N<=k)(d:n<=N):∀k,v'.ownBlock=some k->n<=k:=fun k c=>by
 rcases a k c with h|h
 .exact b k h
 .omega
theorem bH.cZ{w:zW}{g:Nat}{t:TypeId}{arr:Array Value}(h:bH w g t arr){l:List Value}(a:arr.toList=l):∀j u,l[j]?=some u->w.cell? ((⟨g,0,none⟩:Addr).add j)=some u:=by
 intro j u hj;subst a;rw[Addr.add_lit,yZ];exact h.cell qeb
theorem bH.c{w:zW}{g:Nat}{t:TypeId}{arr:Array Value}{v:zV}(h:bH w g t arr)(i:Nat)(e:arr[i]?=some v:=by rfl):w.cell? ⟨g,i,none⟩=some v:=h.cell e
theorem bH.cs6{w:zW}{g:Nat}{t:TypeId}{a b c d e f:zV}(h:bH w g t #[a,b,c,d,e,f]):w.cell? ⟨g,0,none⟩=some a/\w.cell? ⟨g,1,none⟩=some b/\w.cell? ⟨g,2,none⟩=some c/\w.cell? ⟨g,3,none⟩=some d/\w.cell? ⟨g,4,none⟩=some e/\w.cell? ⟨g,5,none⟩=some f:=⟨h.cell rfl,h.cell rfl,h.cell rfl,h.cell rfl,h.cell rfl,h.cell rfl⟩
theorem bH.cs5{w:zW}{g:Nat}{t:TypeId}{a b c d e:zV}(h:bH w g t #[a,b,c,d,e]):w.cell? ⟨g,0,none⟩=some a/\w.cell? ⟨g,1,none⟩=some b/\w.cell? ⟨g,2,none⟩=some c/\w.cell? ⟨g,3,none⟩=some d/\w.cell? ⟨g,4,none⟩=some e:=⟨h.cell rfl,h.cell rfl,h.cell rfl,h.cell rfl,h.cell rfl⟩
theorem bH.fr6{w:zW}{g:Nat}{t:TypeId}{arr:Array Value}(h:bH w g t arr):w.frozen? ⟨g,0,none⟩=false/\w.frozen? ⟨g,1,none⟩=false/\w.frozen? ⟨g,2,none⟩=false/\w.frozen? ⟨g,3,none⟩=false/\w.frozen? ⟨g,4,none⟩=false/\w.frozen? ⟨g,5,none⟩=false:=⟨h.frozen 0,h.frozen 1,h.frozen 2,h.frozen 3,h.frozen 4,h.frozen 5⟩
theorem bH.fr5{w:zW}{g:Nat}{t:TypeId}{arr:Array Value}(h:bH w g t arr):w.frozen? ⟨g,0,none⟩=false/\w.frozen? ⟨g,1,none⟩=false/\w.frozen? ⟨g,2,none⟩=false/\w.frozen? ⟨g,3,none⟩=false/\w.frozen? ⟨g,4,none⟩=false:=⟨h.frozen 0,h.frozen 1,h.frozen 2,h.frozen 3,h.frozen 4⟩
theorem bH.cf6{w:zW}{g:Nat}{t:TypeId}{a b c d e f:zV}(h:bH w g t #[a,b,c,d,e,f]):w.cell? ⟨g,0,none⟩=some a/\w.cell? ⟨g,1,none⟩=some b/\w.cell? ⟨g,2,none⟩=some c/\w.cell? ⟨g,3,none⟩=some d/\w.cell? ⟨g,4,none⟩=some e/\w.cell? ⟨g,5,none⟩=some f/\w.frozen? ⟨g,0,none⟩=false/\w.frozen? ⟨g,1,none⟩=false/\w.frozen? ⟨g,2,none⟩=false/\w.frozen? ⟨g,3,none⟩=false/\w.frozen? ⟨g,4,none⟩=false/\w.frozen? ⟨g,5,none⟩=false:=⟨h.cell rfl,h.cell rfl,h.cell rfl,h.cell rfl,h.cell rfl,h.cell rfl,h.fr6⟩
theorem bH.cf5{w:zW}{g:Nat}{t:TypeId}{a b c d e:zV}(h:bH w g t #[a,b,c,d,e]):w.cell? ⟨g,0,none⟩=some a/\w.cell? ⟨g,1,none⟩=some b/\w.cell? ⟨g,2,none⟩=some c/\w.cell? ⟨g,3,none⟩=some d/\w.cell? ⟨g,4,none⟩=some e/\w.frozen? ⟨g,0,none⟩=false/\w.frozen? ⟨g,1,none⟩=false/\w.frozen? ⟨g,2,none⟩=false/\w.frozen? ⟨g,3,none⟩=false/\w.frozen? ⟨g,4,none⟩=false:=⟨h.cell rfl,h.cell rfl,h.cell rfl,h.cell rfl,h.cell rfl,h.fr5⟩
inductive bF where
 |obj (g:Nat) (t:TypeId) (arr:Array Value)
 |row (v:zV) (t:TypeId) (size n:Nat) (xs:List Value)
 |gQ (g:Nat) (o:Obj)
def bF.blk:bF->Option Nat
 |.obj g _ _=>some g
 |.row v _ _ _ _=>v.ownBlock
 |.gQ g _=>some g
def bF.ok(w:zW):bF->Prop
 |.obj g t arr=>bH w g t arr
 |.row v t size n xs=>w.ownsRow 0 t size v n xs
 |.gQ g o=>w.heap[g]?=some o
def bF.apart(a b:bF):Prop:=∀k,a.blk=some k->b.blk=some k->False
theorem bF.nP{w w':zW}{it:bF}(h:it.ok w)(e:∀k,it.blk=some k->w'.heap[k]?=w.heap[k]?):it.ok w':=by
 cases it with
 |obj g t arr=>exact bH.of_heap h (e g rfl)
 |row v t size n xs=>
  obtain⟨i,a⟩:=h;refine⟨i,?_⟩;rcases a with a|⟨g,cap,b,c,f,d,r⟩
  .exact .inl a
  .exact .inr ⟨g,cap,b,c,f,by rw[e g (by rw[c];rfl)];exact d,r⟩
 |gQ g o=>exact(e g rfl).trans h
theorem bF.lt{w:zW}{it:bF}(h:it.ok w){k:Nat}(a:it.blk=some k):k<w.heap.size:=by
 cases it with
 |obj g t arr=>simp only[bF.blk,Option.some.injEq]at a;subst a;exact bH.lt h
 |row v t size n xs=>exact(World.ownsRow.lt h k a).2
 |gQ g o=>simp only[bF.blk,Option.some.injEq]at a;subst a;exact(yC.1 h).1
structure Own (w0:zW) (m:Mem) (w:zW) (mk:Mem) (L:List bF):Prop where
 m0:m.ay w0
 az:Below w0.heap.size w0 w
 ext:m.ext w0 mk
 ay:mk.ay w
 ok:∀it∈L,it.ok w
 gV:∀it∈L,∀k,it.blk=some k->w0.heap.size<=k/\mk k=none
 apart:L.Pairwise bF.apart
section
variable {w0 w w':zW} {m mk:Mem} {L:List bF}
theorem Own.start(h:m.ay w):Own w m w m []:=⟨h,zR _ _,Mem_ext_refl _ _,h,zS,zS,.nil⟩
theorem Own.aP(h:Own w0 m w mk L)(a:zB w w'):Own w0 m w' mk L:=
 ⟨h.m0,dD h.az a,h.ext,Mem_inn_below h.ay a,fun it hi=>bF.nP (h.ok it hi) fun k b=>a.block k (bF.lt (h.ok it hi) b),h.gV,h.apart⟩
theorem Own.al'(h:Own w0 m w mk L)(o:Obj):Own w0 m (w.alloc o) mk L:=h.aP (bE (zR _ _) o)
theorem Own.dr(h:Own w0 m w mk L):Own w0 m w.drew mk L:=h.aP (zR _ _).drew
theorem Own.Ep(h:Own w0 m w mk L)(n:Nat):Own w0 m (w.drewN n) mk L:=h.aP (below_drewN (zR _ _) n)
theorem Own.cons(h:Own w0 m w mk L){it:bF}(d:it.ok w)(c:∀k,it.blk=some k->w0.heap.size<=k/\mk k=none)(a:∀b∈L,it.apart b):Own w0 m w mk (it::L):=
 ⟨h.m0,h.az,h.ext,h.ay,by simp only[yA,forall_eq_or_imp];exact⟨d,h.ok⟩,by simp only[yA,forall_eq_or_imp];exact⟨c,h.gV⟩,.cons a h.apart⟩
theorem Own.sub{L':List bF}(h:Own w0 m w mk L)(a:L'.Sublist L):Own w0 m w mk L':=
 ⟨h.m0,h.az,h.ext,h.ay,fun it hi=>h.ok it (a.subset hi),fun it hi=>h.gV it (a.subset hi),h.apart.sublist a⟩
theorem Own.perm{L':List bF}(h:Own w0 m w mk L)(a:L'.Perm L):Own w0 m w mk L':=
 ⟨h.m0,h.az,h.ext,h.ay,fun it hi=>h.ok it (a.subset hi),fun it hi=>h.gV it (a.subset hi),(a.symm.pairwise_iff (fun {_ _} hab k h1 h2=>hab k h2 h1)).1 h.apart⟩
theorem Own.tail{it:bF}(h:Own w0 m w mk (it::L)):Own w0 m w mk L:=h.sub (List.sublist_cons_self _ _)
theorem Own.bL{a b:bF}(h:Own w0 m w mk (a::b::L)):Own w0 m w mk (a::L):=h.sub (.cons_cons _ (.cons _ (List.Sublist.refl _)))
theorem Own.kY{a b c:bF}(h:Own w0 m w mk (a::b::c::L)):Own w0 m w mk (a::b::L):=h.sub (.cons_cons _ (.cons_cons _ (.cons _ (List.Sublist.refl _))))
theorem Own.azu{a b c d:bF}(h:Own w0 m w mk (a::b::c::d::L)):Own w0 m w mk (a::b::c::L):=h.sub (.cons_cons _ (.cons_cons _ (.cons_cons _ (.cons _ (List.Sublist.refl _)))))
theorem Own.au{a b:bF}(h:Own w0 m w mk (a::b::L)):Own w0 m w mk (b::a::L):=h.perm (List.Perm.swap _ _ _)
theorem Own.bA{a b c:bF}(h:Own w0 m w mk (a::b::c::L)):Own w0 m w mk (c::a::b::L):=h.perm ((List.Perm.swap _ _ _).trans (List.Perm.cons _ (List.Perm.swap _ _ _)))
theorem Own.dZ{a b c d:bF}(h:Own w0 m w mk (a::b::c::d::L)):Own w0 m w mk (d::a::b::c::L):=
 h.perm ((List.Perm.swap _ _ _).trans (List.Perm.cons _ ((List.Perm.swap _ _ _).trans (List.Perm.cons _ (List.Perm.swap _ _ _)))))
theorem Own.azD{a b c:bF}(h:Own w0 m w mk (a::b::c::L)):Own w0 m w mk (a::c::b::L):=h.perm (List.Perm.cons _ (List.Perm.swap _ _ _))
theorem Own.at{g:Nat}{t:TypeId}{arr:Array Value}(h:Own w0 m w mk L)(hi:bF.obj g t arr∈L):bH w g t arr:=h.ok _ hi
theorem Own.al(h:Own w0 m w mk L)(arr:Array Value)(t:TypeId):Own w0 m (w.alloc (.cells arr t)) mk (.obj w.heap.size t arr::L):=
 (h.al' (.cells arr t)).cons (bH.new _ _ _) (fun k a=>by simp only[bF.blk,Option.some.injEq]at a;subst a;exact⟨h.az.size,Mem_none_of_ge h.ay (zI _)⟩)
  (fun b d k c e=>by simp only[bF.blk,Option.some.injEq]at c;subst c;exact absurd (bF.lt (h.ok b d) e) (Nat.lt_irrefl _))
theorem Own.dL(h:Own w0 m w mk L)(t:TypeId)(size:Nat):Own w0 m w mk (.row (.slice none 0 0) t size 0 []::L):=
 h.cons (World.ownsRow_nil _ _ _ _) (fun k a=>by cases a) (fun b _ k c _=>by cases c)
theorem Own.set{g:Nat}{t:TypeId}{arr:Array Value}(h:Own w0 m w mk (.obj g t arr::L))(i:Nat)(v:zV):Own w0 m (w.setCell ⟨g,i,none⟩ v) mk (.obj g t (arr.setIfInBounds i v)::L):=by
 have hf:=h.gV _ (yF ..) g rfl;have hap:=yS.1 h.apart;refine⟨h.m0,h.az.setCell hf.1 v,h.ext,Mem_inn_set h.ay hf.2 v,?_,?_,.cons ?_ hap.2⟩
 .simp only[yA,forall_eq_or_imp];exact⟨bH.set (h.ok _ (yF ..)) i v,fun it hi=>bF.nP (h.ok it (zU _ hi)) fun k hk=>
   Below.heap_setCell _ _ _ _ (fun e=>hap.1 it hi g rfl (by rw[hk,e]))⟩
 .exact qak
 .exact qcO
theorem Own.app{v v':zV}{t:TypeId}{size n j:Nat}{xs d:List Value}(h:Own w0 m w mk (.row v t size n xs::L))(r:w'.ownsRow 0 t size v' j d)(g:w.grownBy w' v.ownBlock)
{N:Nat}(l:∀k,v'.ownBlock=some k->v.ownBlock=some k\/N<=k)(s:w.heap.size<=N):Own w0 m w' mk (.row v' t size j d::L):=by
 have i:=h.gV _ (yF ..);have c:=yS.1 h.apart;refine⟨h.m0,below_grown h.az g (fun k a=>(i k a).1),h.ext,Mem_inn_grown h.ay g (fun k a=>(i k a).2),?_,?_,.cons ?_ c.2⟩
 .simp only[yA,forall_eq_or_imp];exact⟨r,fun it hi=>bF.nP (h.ok it (zU _ hi)) fun k a=>g.block k (bF.lt (h.ok it (zU _ hi)) a) (fun e=>c.1 it hi k e.symm a)⟩
 .simp only[yA,forall_eq_or_imp];exact⟨fun k a=>(l k a).elim (fun f=>i k f) (fun f=>⟨by have:=h.az.size;omega,Mem_none_of_ge h.ay zo⟩),fun it hi=>h.gV it (zU _ hi)⟩
 .intro b o k f q;rcases l k f with p|p
  .exact c.1 b o k p q
  .have:=bF.lt (h.ok b (zU _ o)) q;omega
theorem Own.call(h:Own w0 m w mk L)(b:zB w w'):Own w0 m w' (mk.grow w w') L:=
 ⟨h.m0,dD h.az b,Mem_ext_grow h.ext h.ay h.az.size,Mem_grow_inn h.ay b,(h.aP b).ok,
  fun it hi k a=>⟨(h.gV it hi k a).1,Mem_grow_none (h.gV it hi k a).2 (bF.lt (h.ok it hi) a)⟩,h.apart⟩
theorem Own.bJ{v:zV}{t:TypeId}{size n:Nat}{xs:List Value}(h:Own w0 m w mk (.row v t size n xs::L)):Own w0 m w (mk.iw w v) L:=by
 have c:=h.gV _ (yF ..);have b:=yS.1 h.apart;exact⟨h.m0,h.az,Mem_ext_addv h.ext (fun k a=>(c k a).2) (fun k a=>(c k a).1),Mem_addv_inn h.ay v,fun it hi=>h.ok it (zU _ hi),
  fun it hi k a=>⟨(h.gV it (zU _ hi) k a).1,Mem_addv_none (h.gV it (zU _ hi) k a).2 (fun e=>b.1 it hi k e a)⟩,b.2⟩
theorem Own.lU{g:Nat}{t:TypeId}{arr:Array Value}(h:Own w0 m w mk (.obj g t arr::L)):Own w0 m w (mk.add w g) L:=by
 have c:=h.gV _ (yF ..) g rfl;have a:=yS.1 h.apart;exact⟨h.m0,h.az,Mem_ext_add h.ext c.2 c.1,Mem_add_inn h.ay,fun it hi=>h.ok it (zU _ hi),
  fun it hi k b=>⟨(h.gV it (zU _ hi) k b).1,Mem_add_none (h.gV it (zU _ hi) k b).2 (fun e=>a.1 it hi g rfl (by rw[b,e]))⟩,a.2⟩
theorem Own.free{v:zV}{t:TypeId}{size n:Nat}{xs:List Value}(h:Own w0 m w mk (.row v t size n xs::L)):mk.free v:=fun k a=>(h.gV _ (yF ..) k a).2
theorem Own.lV{g:Nat}{t:TypeId}{arr:Array Value}(h:Own w0 m w mk (.obj g t arr::L)):mk g=none:=(h.gV _ (yF ..) g rfl).2
theorem Own.row{v:zV}{t:TypeId}{size n:Nat}{xs:List Value}(h:Own w0 m w mk (.row v t size n xs::L)):w.ownsRow 0 t size v n xs:=h.ok _ (yF ..)
theorem Own.obj{g:Nat}{t:TypeId}{arr:Array Value}(h:Own w0 m w mk (.obj g t arr::L)):bH w g t arr:=h.ok _ (yF ..)
theorem Own.done(h:Own w0 m w mk L):mk.le (m.grow w0 w):=Mem_ext_le_grow h.ext h.ay
end
theorem bg{w:zW}{t:TypeId}{size n cap g:Nat}{xs:List Value}(h:w.ownsRow 0 t size (.slice (some ⟨g,0,none⟩) n cap) n xs){j:Nat}{u:zV}(a:xs[j]?=some u):w.cell? ⟨g,j,none⟩=some u:=by
 have:=h.cells (g:=g) rfl j u a
 rwa [Addr.add_lit,yZ]at this
theorem dK{w:zW}{t:TypeId}{size n cap g:Nat}{xs:List Value}(h:w.ownsRow 0 t size (.slice (some ⟨g,0,none⟩) n cap) n xs)(j:Nat):w.frozen? ⟨g,j,none⟩=false:=by
 rcases h.2 with⟨a,-⟩|⟨e,b,d,a,-,c,-⟩
 .cases a
 .cases a;simp[World.frozen?,c]
section
variable {w0 w w':zW} {m mk mk':Mem} {L L':List bF}
theorem Own.setRow{g n cap size:Nat}{t:TypeId}{xs:List Value}(h:Own w0 m w mk (.row (.slice (some ⟨g,0,none⟩) n cap) t size n xs::L))(j:Nat)(u:zV):
 Own w0 m (w.setCell ⟨g,j,none⟩ u) mk (.row (.slice (some ⟨g,0,none⟩) n cap) t size n (xs.set j u)::L):=by
 obtain⟨c,b⟩:=h.row.stored j u;exact h.app c b (N:=w.heap.size) (fun k a=>.inl a) (zI _)
theorem Own.make(h:Own w0 m w mk L){n cap size:Nat}{t:TypeId}{xs:List Value}(a:w'.ownsRow 0 t size (.slice (some ⟨w.heap.size,0,none⟩) n cap) n xs)(c:w.grownBy w' none):
 Own w0 m w' mk (.row (.slice (some ⟨w.heap.size,0,none⟩) n cap) t size n xs::L):=
 (h.dL t size).app a c (N:=w.heap.size) (fun k b=>by simp[Value.ownBlock]at b;exact .inr zo) (zI _)
theorem Own.join(h:Own w0 m w mk L)(d:Own w mk w' mk' L'):Own w0 m w' mk' (L'++L):=by
 refine⟨h.m0,dD h.az d.az,⟨Mem.le_trans h.ext.le d.ext.le,fun k o e=>?_⟩,d.ay,?_,?_,?_⟩
 .rcases d.ext.dom k o e with c|c
  .exact h.ext.dom k o c
  .exact .inr (yJ h.az.size c)
 .intro it hi;rcases yP.1 hi with c|c
  .exact d.ok it c
  .exact(h.aP d.az).ok it c
 .intro it hi k e;rcases yP.1 hi with c|c
  .exact⟨yJ h.az.size (d.gV it c k e).1,(d.gV it c k e).2⟩
  .refine⟨(h.gV it c k e).1,?_⟩
   cases hm:mk' k with
   |none=>rfl
   |some o=>
    rcases d.ext.dom k o hm with f|f
    .rw[(h.gV it c k e).2]at f;cases f
    .exact absurd (bF.lt (h.ok it c) e) zo
 .rw[List.pairwise_append];refine⟨d.apart,h.apart,fun a i b g k c f=>?_⟩;have l:=(d.gV a i k c).1;have j:=bF.lt (h.ok b g) f;omega
end
theorem Xo(z:zV)(n:Nat):(madeCells #[z] (n*1)).toList=List.replicate n z:=by
 apply vF
 .simp[madeCells]
 .intro i b a;simp[madeCells,Nat.mod_one]
structure IG (P:Program) (t e:TypeId) (bytes:Nat) (z:zV):Prop where
 ht:P.underlying t=some (.slice e)
 info:(P.info? e).map (fun i=>(i.zero,i.size,i.bytes))=some (some z,1,bytes)
 one:z.cells=#[z]
theorem wpList_make_row{P:Program}{t e:TypeId}{bytes:Nat}{z:zV}(S:IG P t e bytes z){w:zW}{ops:Array Oper}{rest:List Oper}{o:Oper}{a:Act}{Q:Exit->Act->World->Prop}
(j:o.guard=none)(l c:Operand)(b:o.op=Op.makeSlice t l c)(n:Nat)(h:a.eval l=.int .i64 n)(k:a.eval c=.int .i64 n)(s:bytes*n<=281474976710656)(r:n<=maxLen)
(p:∀w',w'.ownsRow 0 e 1 (.slice (some ⟨w.heap.size,0,none⟩) n n) n (List.replicate n z)->w.grownBy w' none->wpList P ops Q rest (a.put o.dst (.slice (some ⟨w.heap.size,0,none⟩) n n)) w'):
 wpList P ops Q (o::rest) a w:=by
 obtain⟨i,hi,f,g,m⟩:=info_parts S.info;refine wpList_make_full w j l c t b 0 e i z 1 S.ht hi f g .i64 .i64 n n n h k rfl rfl (by rw[m];exact s) r (zG _) ?_;intro w' d q;rw[S.one,Xo]at d;exact p w' d q
section
variable {w0 w w':zW} {m mk:Mem} {L:List bF}
theorem Own.Bb(h:Own w0 m w mk L)(o:Obj):Own w0 m (w.alloc o) mk (.gQ w.heap.size o::L):=
 (h.al' o).cons (show(w.heap.push o)[w.heap.size]?=some o by simp) (fun k a=>by simp only[bF.blk,Option.some.injEq]at a;subst a;exact⟨h.az.size,Mem_none_of_ge h.ay (zI _)⟩)
  (fun b d k c e=>by simp only[bF.blk,Option.some.injEq]at c;subst c;exact absurd (bF.lt (h.ok b d) e) (Nat.lt_irrefl _))
theorem Own.gQ{g:Nat}{o:Obj}(h:Own w0 m w mk (.gQ g o::L)):w.heap[g]?=some o:=h.ok _ (yF ..)
theorem Own.jP{g:Nat}{o o':Obj}(h:Own w0 m w mk (.gQ g o::L))(ho:w'.heap[g]?=some o')(hg:w.grownBy w' (some g)):Own w0 m w' mk (.gQ g o'::L):=by
 have hf:=h.gV _ (yF ..) g rfl;have hap:=yS.1 h.apart;refine⟨h.m0,h.az.grown hg h.az.size (fun k hk=>by cases hk;exact hf.1),h.ext,Mem_inn_grown h.ay hg (fun k hk=>by cases hk;exact hf.2),?_,?_,.cons ?_ hap.2⟩
 .exact qba
 .exact qak
 .exact qcO
theorem Own.kP{v:zV}{t:TypeId}{size n:Nat}{xs:List Value}(h:Own w0 m w mk L)(hi:bF.row v t size n xs∈L):w.ownsRow 0 t size v n xs:=h.ok _ hi
theorem Own.eO{g:Nat}{t:TypeId}{arr:Array Value}(h:Own w0 m w mk L)(hi:bF.obj g t arr∈L):bH w g t arr:=h.ok _ hi
theorem Own.E9{g:Nat}{o:Obj}(h:Own w0 m w mk L)(hi:bF.gQ g o∈L):w.heap[g]?=some o:=h.ok _ hi
end
def bI(l:List bT):List Value:=l.flatMap fun p=>[.int .i64 p.1,.int .i64 p.2]
def kM(p:bT):Prop := -9223372036854775808<=p.1/\p.1<=9223372036854775807 /\ -9223372036854775808<=p.2/\p.2<=9223372036854775807
theorem bM(l:List bT)(p:bT):bI (l++[p])=bI l++[.int .i64 p.1,.int .i64 p.2]:=by simp[bI]
theorem dA(l:List bT):(bI l).length=l.length*2:=by
 induction l with
 |nil=>rfl
 |cons p l ih=>simp only[bI,xO,zL]at*;simp[ih];omega
theorem mF:∀(l:List bT) (i:Nat) (h:i<l.length),(bI l)[i*2]?=some (.int .i64 l[i].1)/\(bI l)[i*2+1]?=some (.int .i64 l[i].2)
 |[],i,h=>by simp at h
 |p::l,0,_=>by simp[bI]
 |p::l,i+1,h=>by
  have:=mF l i qeo;simp only[bI,xO]at*
  rw[show(i+1)*2=i*2+2 by omega,show i*2+2+1=(i*2+1)+2 by omega];exact qa5
theorem eH{w:zW}{t:TypeId}{v:zV}{l:List bT}{m:Mem}(a:w.ownsRow 0 t 2 v l.length (bI l))(c:∀p∈l,kM p):df (m.iw w v) v l:=
 ku a fun g b i h=>by
  obtain⟨e,d⟩:=mF l i h;exact⟨iK a b m e,iK a b m d,c _ (zF h)⟩
theorem oF(m:Mem):df m (.slice none 0 0) []:=⟨none,0,rfl,zI _,by simp[maxLen],fun h=>absurd rfl h⟩
theorem l7{m:Mem}{v:zV}{l:List bT}(h:df m v l):∀p∈l,kM p:=by
 obtain⟨a,c,rfl,k,j,g⟩:=h;intro p d;obtain⟨i,hi,rfl⟩:=yX d;obtain⟨b,off,-,f⟩:=g (fun e=>by rw[e]at hi;simp at hi);exact(f i hi).2.2
theorem dR{m:Mem}{v:zV}{l:List bT}(h:df m v l):∃a c,v=.slice a l.length c:=by
 obtain⟨a,c,rfl,-⟩:=h;exact⟨a,c,rfl⟩
theorem F5{m:Mem}{w:zW}(n:m.ay w){o:Option Addr}{c:Nat}{l:List bT}(h:df m (.slice o l.length c) l)(f:l≠[]):
 ∃b off,o=some ⟨b,off,none⟩/\∀j u,(bI l)[j]?=some u->w.cell? ((⟨b,off,none⟩:Addr).add j)=some u:=by
 obtain⟨a,z,e,y,x,s⟩:=h;injection e with e1 e2 e3;subst e1;obtain⟨b,off,rfl,r⟩:=s f;refine⟨b,off,rfl,fun j u d=>?_⟩;rw[Addr.add_lit];have g:j<(bI l).length:=(yB.1 d).1;rw[dA]at g;obtain⟨i,k⟩:∃i,j=i*2\/j=i*2+1:=⟨j/2,zo⟩;have hi:i<l.length:=zo;obtain⟨v,t,-⟩:=r i hi;obtain⟨q,p⟩:=mF l i hi;rcases k with rfl|rfl
 .rw[q]at d;cases d;exact Mem_cell_w n v
 .rw[p]at d;cases d;exact Mem_cell_w n t
structure bZ (m:Mem) (vi vf:zV) (I F:List bT):Prop where
 i:df m vi I
 f:df m vf F
theorem bZ.le{m m':Mem}(h:m.le m'){a b:zV}{I F:List bT}(k:bZ m a b I F):bZ m' a b I F:=⟨bV h k.i,bV h k.f⟩
theorem bZ.nil(m:Mem):bZ m (.slice none 0 0) (.slice none 0 0) [] []:=⟨oF m,oF m⟩
structure Dz (m:Mem) (b o:Nat) (k n:Int) (s:ByteArray) (vi vm:zV):Prop where
 k:m.cell b o=some (.int .i64 k)
 n:m.cell b (o+1)=some (.int .i64 n)
 s:m.cell b (o+2)=some (.string s)
 i:m.cell b (o+3)=some vi
 m:m.cell b (o+4)=some vm
theorem Dz.le{m m':Mem}(h:m.le m'){b o:Nat}{k n:Int}{s:ByteArray}{c a:zV}(x:Dz m b o k n s c a):Dz m' b o k n s c a:=
 ⟨Mem_cell_le h x.k,Mem_cell_le h x.n,Mem_cell_le h x.s,Mem_cell_le h x.i,Mem_cell_le h x.m⟩
inductive IM (m:Mem):Value->Value->Dt->Prop
 |mk (k n:Int) (s:ByteArray) (items:List Dt) (labels:List ByteArray) (qz:List Dt) (ai:Option Addr) (ci:Nat) (am:Option Addr) (cm:Nat)
  (hk : -9223372036854775808<=k/\k<=9223372036854775807) (hn : -9223372036854775808<=n/\n<=9223372036854775807) (hs:s.size<=maxLen) (hl:labels.length=qz.length)
  (i1:items.length<=ci) (i2:ci<=maxLen) (m1:qz.length<=cm) (m2:cm<=maxLen)
  (bi oi:Nat) (i3:items≠[]->ai=some ⟨bi,oi,none⟩) (fi gi:Nat->Value) (i4:∀i (h:i<items.length),Dz m bi (oi+i*5) (items[i]).kind (items[i]).num (items[i]).str (fi i) (gi i)) (i5:∀i (h:i<items.length),IM m (fi i) (gi i) items[i])
  (bm om:Nat) (m3:qz≠[]->am=some ⟨bm,om,none⟩) (fm gm:Nat->Value) (m4:∀i (h:i<qz.length),Dz m bm (om+i*6+1) (qz[i]).kind (qz[i]).num (qz[i]).str (fm i) (gm i)) (m5:∀i (h:i<qz.length),IM m (fm i) (gm i) qz[i])
  (m6:∀i (h:i<labels.length),m.cell bm (om+i*6)=some (.string labels[i])/\(labels[i]).size<=maxLen) :
  IM m (.slice ai items.length ci) (.slice am qz.length cm) (.mk k n s items labels qz)
theorem IM.le{m m':Mem}(h:m.le m'){c b:zV}{d:Dt}(k:IM m c b d):IM m' c b d:=by
 induction k with
 |mk k n s items labels qz ai ci am cm hk hn hs hl i1 i2 m1 m2 bi oi i3 fi gi i4 i5 bm om m3 fm gm m4 m5 m6 ih1 ih2=>
  exact .mk k n s items labels qz ai ci am cm hk hn hs hl i1 i2 m1 m2 bi oi i3 fi gi (fun i a=>(i4 i a).le h) ih1 bm om m3 fm gm (fun i a=>(m4 i a).le h) ih2 (fun i a=>⟨Mem_cell_le h (m6 i a).1,(m6 i a).2⟩)
def DAt(m:Mem)(b o:Nat)(d:Dt):Prop:=∃c a,Dz m b o d.kind d.num d.str c a/\IM m c a d
def az1(m:Mem)(v:zV)(l:List Dt):Prop:=Mem.slice (DAt m) 5 v l
theorem DAt.le{m m':Mem}(h:m.le m'){b o:Nat}{d:Dt}(k:DAt m b o d):DAt m' b o d:=by
 obtain⟨c,a,f,e⟩:=k;exact⟨c,a,f.le h,e.le h⟩
theorem az1.le{m m':Mem}(h:m.le m'){v:zV}{l:List Dt}(k:az1 m v l):az1 m' v l:=Mem_slice_mono k fun _ _ _=>DAt.le h
structure bzS (d:Dt):Prop where
 k : -9223372036854775808<=d.kind/\d.kind<=9223372036854775807
 n : -9223372036854775808<=d.num/\d.num<=9223372036854775807
 s:d.str.size<=maxLen
theorem IM.ok{m:Mem}{b a:zV}{d:Dt}(h:IM m b a d):bzS d:=by
 cases h with
 |mk k n s items labels qz ai ci am cm hk hn hs hl i1 i2 m1 m2 bi oi i3 fi gi i4 i5 bm om m3 fm gm m4 m5 m6=>exact⟨hk,hn,hs⟩
theorem IM.leaf(m:Mem)(k n:Int)(s:ByteArray)(c : -9223372036854775808<=k/\k<=9223372036854775807)(b : -9223372036854775808<=n/\n<=9223372036854775807)(a:s.size<=maxLen):
 IM m (.slice none 0 0) (.slice none 0 0) (.mk k n s [] [] []):=
 .mk k n s [] [] [] none 0 none 0 c b a rfl (zI _) (by simp[maxLen]) (zI _) (by simp[maxLen]) 0 0 (fun h=>absurd rfl h) (fun _=>.bool true) (fun _=>.bool true) (fun i h=>by simp at h) (fun i h=>by simp at h)
  0 0 (fun h=>absurd rfl h) (fun _=>.bool true) (fun _=>.bool true) (fun i h=>by simp at h) (fun i h=>by simp at h) (fun i h=>by simp at h)
def Dt.val(d:Dt)(b a:zV):Value:=.agg #[.int .i64 d.kind,.int .i64 d.num,.string d.str,b,a]
def RS.val(s:RS)(b c a:zV):Value:=.agg #[.bool s.gY,.bool s.iF,.bool s.iZ,b,c,a]
structure nU (m:Mem) (vi vf vt:zV) (s:RS):Prop where
 i:df m vi s.i
 f:df m vf s.f
 t:aQ m vt s.t
theorem nU.le{m m':Mem}(h:m.le m'){b c a:zV}{s:RS}(k:nU m b c a s):nU m' b c a s:=⟨bV h k.i,bV h k.f,aW h k.t⟩
end Cl
namespace Cl
open Go Go.RowKit Go.Proofs Go.WideShapes Go.ChangeShapes Go.Deep Go.Joins Tryz
section
variable {H:Type} {enc:TypeId×Value->H} {w:zW} {spare:Nat->Bool} {held:Bool}
theorem bzg{α:Type}{l:List α}(h:l.length=5):∃a b c d e,l=[a,b,c,d,e]:=by
 match l,h with
 |[a,b,c,d,e],_=>exact⟨a,b,c,d,e,rfl⟩
theorem bzf{α:Type}{l:List α}(h:l.length=6):∃a b c d e f,l=[a,b,c,d,e,f]:=by
 match l,h with
 |[a,b,c,d,e,f],_=>exact⟨a,b,c,d,e,f,rfl⟩
theorem JF(fuel b o:Nat)(cs:List Value)(x:DataW H×List MemPlace)(c:w.cells? 0 ⟨b,o,none⟩ 2=some cs)(h:DataW.trod enc prog w 0 spare held fuel 139 cs=some x):∃p,LG (Mem.of w) b o p:=by
 obtain⟨q,m,n,-,r,f,e⟩:=trod_struct2 underlying139 h;obtain⟨t,s,rfl⟩:=Oh (World.cells?_some c).2.1;have d:prog.cellsOf 2=1:=by kernel_rfl
 simp[d]at f e;obtain⟨l,j,-,w0⟩:=DataW.trod_int underlying2 f;obtain⟨k,g,-,a⟩:=DataW.trod_int underlying2 e;cases j;cases g;have w0:=Md w0;have a:=Md a;exact⟨(l,k),iE (i:=0) c rfl,iE (i:=1) c rfl,w0.1,w0.2,a.1,a.2⟩
theorem Uj{fuel:Nat}{cs:List Value}{x:DataW H×List MemPlace}(h:DataW.trod enc prog w 0 spare held fuel 29 cs=some x):
 ∃r q p d e c l f t,cs=[.bool r,.bool q,.bool p,d,e,c]/\nU (Mem.of w) d e c ⟨r,q,p,l,f,t⟩:=by
 obtain⟨xs,n,rfl,rfl,i,a,b⟩:=DataW.trod_struct underlying29 h;have g:prog.cellsOf 29=6:=by kernel_rfl
 rw[g]at i;obtain⟨c0,Z,Y,X,W,V,rfl⟩:=bzf i;have B:prog.cellsOf 4=1:=by kernel_rfl
 have z:prog.cellsOf 24=2:=by kernel_rfl
 have A:prog.cellsOf 27=1:=by kernel_rfl
 have es:prog.cellsOf 22=1:=by kernel_rfl
 have y:prog.cellsOf 25=1:=by kernel_rfl
 obtain⟨S,R,Q,P,O,rfl⟩:=bzg a;have o:=b 0 _ rfl;have f1:=b 1 _ rfl;have f2:=b 2 _ rfl;have f3:=b 3 _ rfl;have f4:=b 4 _ rfl;simp[B,z,A]at o f1 f2 f3 f4;obtain⟨K,g,-⟩:=DataW.trod_bool underlying4 o;obtain⟨J,G,-⟩:=DataW.trod_bool underlying4 f1;obtain⟨I,F,-⟩:=DataW.trod_bool underlying4 f2;cases g;cases G;cases F;obtain⟨N,M,U,-,-,m,k⟩:=trod_struct2 underlying24 f3;simp[es]at m k;obtain⟨L,T,-,-,j⟩:=trod_struct1 underlying27 f4;simp[y]at j;obtain⟨d,l,E,v⟩:=lJ underlying22 zk zo (LG (Mem.of w)) JF m;obtain⟨e,f,D,u⟩:=lJ underlying22 zk zo (LG (Mem.of w)) JF k;obtain⟨c,t,C,s⟩:=lJ underlying25 zk zo (wX (Mem.of w)) FD j;cases E;cases D;cases C;exact⟨K,J,I,_,_,_,l,f,t,rfl,v,u,s⟩
end
end Cl
namespace Cl
open Go Go.RowKit
structure Sl where
 i:Value
 f:Value
 t:Value
 l:Value
 s:Value
structure rH (m:Mem) (b o:Nat) (x:Sl) (v:Vl):Prop where
 a:m.cell b o=some (.bool v.any)
 n:m.cell b (o+1)=some (.bool v.s.gY)
 f:m.cell b (o+2)=some (.bool v.s.iF)
 t:m.cell b (o+3)=some (.bool v.s.iZ)
 si:m.cell b (o+4)=some x.i
 sf:m.cell b (o+5)=some x.f
 st:m.cell b (o+6)=some x.t
 l:m.cell b (o+7)=some x.l
 s:m.cell b (o+8)=some x.s
theorem rH.le{m m':Mem}(h:m.le m'){b o:Nat}{x:Sl}{v:Vl}(k:rH m b o x v):rH m' b o x v:=
 ⟨Mem_cell_le h k.a,Mem_cell_le h k.n,Mem_cell_le h k.f,Mem_cell_le h k.t,Mem_cell_le h k.si,Mem_cell_le h k.sf,Mem_cell_le h k.st,Mem_cell_le h k.l,Mem_cell_le h k.s⟩
def uV(R:Sl->Vl->Prop)(m:Mem)(b o:Nat)(d:Vd):Prop:=∃x y,rH m b o x d.1/\R x d.1/\rH m b (o+9) y d.2/\R y d.2
def bO(R:Sl->Vl->Prop)(m:Mem)(v:zV)(l:List Vd):Prop:=Mem.slice (uV R m) 18 v l
def PI(R:Sl->Vl->Prop)(m:Mem)(b o:Nat)(c:Lc):Prop:=∃u a,m.cell b o=some u/\m.cell b (o+1)=some a/\bO R m u c.1/\bO R m a c.2
structure IL (R:Sl->Vl->Prop) (m:Mem) (b o:Nat) (f:Fd):Prop where
 s:m.cell b o=some (.string f.1.1)
 sz:f.1.1.size<=maxLen
 p:m.cell b (o+1)=some (.int .i64 f.1.2)
 pr : -9223372036854775808<=f.1.2/\f.1.2<=9223372036854775807
 v:uV R m b (o+2) f.2
structure II (R:Sl->Vl->Prop) (m:Mem) (b o:Nat) (k:Kl):Prop where
 s:∃u,m.cell b o=some u/\aQ m u k.1
 v:uV R m b (o+1) k.2
def iy(R:Sl->Vl->Prop)(m:Mem)(v:zV)(l:List Fd):Prop:=Mem.slice (IL R m) 20 v l
def gX(R:Sl->Vl->Prop)(m:Mem)(v:zV)(l:List Kl):Prop:=Mem.slice (II R m) 19 v l
def PH(R:Sl->Vl->Prop)(m:Mem)(b o:Nat)(c:St):Prop:=∃u a,m.cell b o=some u/\m.cell b (o+1)=some a/\iy R m u c.1/\gX R m a c.2
def KH(R:Sl->Vl->Prop)(m:Mem)(v:zV)(l:List Lc):Prop:=Mem.slice (PI R m) 2 v l
def KF(R:Sl->Vl->Prop)(m:Mem)(v:zV)(l:List St):Prop:=Mem.slice (PH R m) 2 v l
def bG(m:Mem):Nat->Sl->Vl->Prop
 |0,_,_=>False
 |n+1,x,v=>nU m x.i x.f x.t v.s/\KH (bG m n) m x.l v.aU/\KF (bG m n) m x.s v.aF
section
variable {R R':Sl->Vl->Prop} {m m':Mem}
theorem uV.le(h:m.le m')(a:∀x v,R x v->R' x v){b o:Nat}{d:Vd}(k:uV R m b o d):uV R' m' b o d:=by
 obtain⟨x,y,g,f,e,c⟩:=k;exact⟨x,y,g.le h,a _ _ f,e.le h,a _ _ c⟩
theorem bO.le(h:m.le m')(a:∀x v,R x v->R' x v){v:zV}{l:List Vd}(k:bO R m v l):bO R' m' v l:=Mem_slice_mono k fun _ _ _=>uV.le h a
theorem PI.le(h:m.le m')(hr:∀x v,R x v->R' x v){b o:Nat}{c:Lc}(k:PI R m b o c):PI R' m' b o c:=by
 exact qcf
theorem IL.le(h:m.le m')(a:∀x v,R x v->R' x v){b o:Nat}{c:Fd}(k:IL R m b o c):IL R' m' b o c:=⟨Mem_cell_le h k.s,k.sz,Mem_cell_le h k.p,k.pr,k.v.le h a⟩
theorem II.le(h:m.le m')(a:∀x v,R x v->R' x v){b o:Nat}{c:Kl}(k:II R m b o c):II R' m' b o c:=by
 obtain⟨u,e,d⟩:=k.s;exact⟨⟨u,Mem_cell_le h e,aW h d⟩,k.v.le h a⟩
theorem iy.le(h:m.le m')(a:∀x v,R x v->R' x v){v:zV}{l:List Fd}(k:iy R m v l):iy R' m' v l:=Mem_slice_mono k fun _ _ _=>IL.le h a
theorem gX.le(h:m.le m')(a:∀x v,R x v->R' x v){v:zV}{l:List Kl}(k:gX R m v l):gX R' m' v l:=Mem_slice_mono k fun _ _ _=>II.le h a
theorem PH.le(h:m.le m')(hr:∀x v,R x v->R' x v){b o:Nat}{c:St}(k:PH R m b o c):PH R' m' b o c:=by
 exact qcf
theorem KH.le(h:m.le m')(a:∀x v,R x v->R' x v){v:zV}{l:List Lc}(k:KH R m v l):KH R' m' v l:=Mem_slice_mono k fun _ _ _=>PI.le h a
theorem KF.le(h:m.le m')(a:∀x v,R x v->R' x v){v:zV}{l:List St}(k:KF R m v l):KF R' m' v l:=Mem_slice_mono k fun _ _ _=>PH.le h a
end
theorem bG.le{m m':Mem}(h:m.le m'):∀{n:Nat} {x:Sl} {v:Vl},bG m n x v->bG m' n x v
 |0,_,_,k=>k.elim
 |_+1,_,_,k=>⟨k.1.le h,k.2.1.le h fun _ _=>bG.le h,k.2.2.le h fun _ _=>bG.le h⟩
theorem bG.succ{m:Mem}:∀{n:Nat} {x:Sl} {v:Vl},bG m n x v->bG m (n+1) x v
 |0,_,_,k=>k.elim
 |_+1,_,_,k=>⟨k.1,k.2.1.le (Mem.le_refl m) fun _ _=>bG.succ,k.2.2.le (Mem.le_refl m) fun _ _=>bG.succ⟩
theorem bG.mono{m:Mem}{n a:Nat}{x:Sl}{v:Vl}(k:bG m n x v)(h:n<=a):bG m a x v:=by
 induction h with
 |refl=>exact k
 |step _ ih=>exact ih.succ
theorem rT{α:Type}{R:Nat->Nat->α->Prop}{size:Nat}{v:zV}{l:List α}(h:Mem.slice R size v l){x:α}(d:x∈l):∃b o,R b o x:=by
 obtain⟨a,c,-,-,-,g⟩:=h;obtain⟨i,hi,rfl⟩:=yX d;obtain⟨b,off,-,f⟩:=g (fun e=>by rw[e]at hi;simp at hi);exact⟨b,_,f i hi⟩
theorem iR{α:Type}(R:Nat->Nat->α->Prop)(size:Nat):Mem.slice R size (.slice none 0 0) []:=⟨none,0,rfl,zI _,by simp[maxLen],fun h=>absurd rfl h⟩
theorem bO.all{R:Sl->Vl->Prop}{m:Mem}{v:zV}{l:List Vd}(h:bO R m v l){d:Vd}(a:d∈l):(∃x,R x d.1)/\∃x,R x d.2:=by
 obtain⟨b,o,x,y,-,e,-,c⟩:=rT h a;exact⟨⟨x,e⟩,y,c⟩
theorem bG.kids{m:Mem}{n:Nat}{x:Sl}{v:Vl}(h:bG m (n+1) x v){d:Vd}(a:d∈v.kids):(∃x,bG m n x d.1)/\∃x,bG m n x d.2:=by
 rcases yP.1 a with a|a
 .obtain⟨c,g,a⟩:=xW.1 a;obtain⟨b,o,u,k,-,-,j,i⟩:=rT h.2.1 g;rcases yP.1 a with a|a
  .exact j.all a
  .exact i.all a
 .obtain⟨c,g,a⟩:=xW.1 a;obtain⟨b,o,u,k,-,-,j,i⟩:=rT h.2.2 g;rcases yP.1 a with a|a
  .obtain⟨f,e,rfl⟩:=yD.1 a;obtain⟨b,o,h3⟩:=rT j e;exact qdF
  .obtain⟨f,e,rfl⟩:=yD.1 a;obtain⟨b,o,h3⟩:=rT i e;exact qdF
theorem bG.ht{m:Mem}:∀{n:Nat} {x:Sl} {v:Vl},bG m n x v->Ht n v
 |0,_,_,k=>k.elim
 |n+1,_,_,k=>fun d a=>by
  obtain⟨⟨x,c⟩,y,b⟩:=k.kids a;exact⟨c.ht,b.ht⟩
def bu(v:Vl)(s:Sl):List Value:=[.bool v.any,.bool v.s.gY,.bool v.s.iF,.bool v.s.iZ,s.i,s.f,s.t,s.l,s.s]
def fK(d:Vd)(x y:Sl):List Value:=bu d.1 x++bu d.2 y
theorem Ca(d:Vd)(x y:Sl):(fK d x y).length=18:=rfl
theorem rH.get{m:Mem}{b o:Nat}{x:Sl}{v:Vl}(h:rH m b o x v){j:Nat}{u:zV}(c:(bu v x)[j]?=some u):m.cell b (o+j)=some u:=by
 match j,c with
 |0,c=>cases c;exact h.a
 |1,c=>cases c;exact h.n
 |2,c=>cases c;exact h.f
 |3,c=>cases c;exact h.t
 |4,c=>cases c;exact h.si
 |5,c=>cases c;exact h.sf
 |6,c=>cases c;exact h.st
 |7,c=>cases c;exact h.l
 |8,c=>cases c;exact h.s
 |j+9,c=>simp[bu]at c
theorem rH.of{m:Mem}{b o:Nat}{x:Sl}{v:Vl}(h:∀j u,(bu v x)[j]?=some u->m.cell b (o+j)=some u):rH m b o x v:=
 ⟨h 0 _ rfl,h 1 _ rfl,h 2 _ rfl,h 3 _ rfl,h 4 _ rfl,h 5 _ rfl,h 6 _ rfl,h 7 _ rfl,h 8 _ rfl⟩
structure lS (R:Sl->Vl->Prop) (xs:List Value) (l:List Vd):Prop where
 len:xs.length=l.length*18
 at':∀i (h:i<l.length),∃x y,(∀j u,(fK l[i] x y)[j]?=some u->xs[i*18+j]?=some u)/\R x l[i].1/\R y l[i].2
theorem lS.nil(R:Sl->Vl->Prop):lS R [] []:=⟨rfl,fun i h=>by simp at h⟩
theorem lS.mono{R R':Sl->Vl->Prop}{xs:List Value}{l:List Vd}(h:lS R xs l)(a:∀x v,R x v->R' x v):lS R' xs l:=
 ⟨h.len,fun i hi=>let ⟨x,y,h1,h2,h3⟩:=h.at' i hi;⟨x,y,h1,a _ _ h2,a _ _ h3⟩⟩
theorem lS.append{R:Sl->Vl->Prop}{xs f:List Value}{l k:List Vd}(h:lS R xs l)(g:lS R f k):lS R (xs++f) (l++k):=by
 refine⟨by simp[h.len,g.len];omega,fun i hi=>?_⟩;by_cases c:i<l.length
 .obtain⟨x,y,e,d⟩:=h.at' i c;rw[xM c];exact⟨x,y,fun j u b=>by
   have a:=e j u b;rw[yK (yB.1 a).1];exact a,d⟩
 .obtain⟨x,y,e,d⟩:=g.at' (i-l.length) (by simp at hi;omega);rw[List.getElem_append_right zo];exact⟨x,y,fun j u b=>by
   have a:=e j u b;rw[yN (by rw[h.len];omega),h.len];rw[show i*18+j-l.length*18=(i-l.length)*18+j by omega];exact a,d⟩
theorem lS.one{R:Sl->Vl->Prop}{d:Vd}{x y:Sl}(b:R x d.1)(a:R y d.2):lS R (fK d x y) [d]:=
 ⟨by simp[Ca],fun i hi=>by
  obtain rfl:i=0:=by simpa using hi
  exact⟨x,y,fun j u c=>by simpa using c,b,a⟩⟩
theorem lS.push{R:Sl->Vl->Prop}{xs:List Value}{l:List Vd}(h:lS R xs l){d:Vd}{x y:Sl}(b:R x d.1)(a:R y d.2):lS R (xs++fK d x y) (l++[d]):=h.append (.one b a)
theorem uV.cells{R:Sl->Vl->Prop}{m:Mem}{b o:Nat}{d:Vd}(h:uV R m b o d):∃x y,(∀j u,(fK d x y)[j]?=some u->m.cell b (o+j)=some u)/\R x d.1/\R y d.2:=by
 obtain⟨x,y,i,g,f,e⟩:=h;refine⟨x,y,fun j u a=>?_,g,e⟩;by_cases c:j<9
 .rw[fK,yK (by simpa [bu]using c)]at a;exact i.get a
 .rw[fK,yN (by simp[bu];omega),show(bu d.1 x).length=9 from rfl]at a;have:=f.get a
  rwa [show o+9+(j-9)=o+j by omega]at this
theorem uV.of{R:Sl->Vl->Prop}{m:Mem}{b o:Nat}{d:Vd}{x y:Sl}(h:∀j u,(fK d x y)[j]?=some u->m.cell b (o+j)=some u)(e:R x d.1)(c:R y d.2):uV R m b o d:=by
 refine⟨x,y,.of fun j u a=>h j u ?_,e,.of fun j u a=>?_,c⟩
 .rw[fK,yK (yB.1 a).1];exact a
 .have:=h (9+j) u (by rw[fK,yN (by simp[bu]),show(bu d.1 x).length=9 from rfl,show 9+j-9=j by omega];exact a)
  rwa [<-Nat.add_assoc]at this
theorem SH{R:Sl->Vl->Prop}{m:Mem}{b:Nat}:∀(l:List Vd) (off:Nat),(∀i (h:i<l.length),uV R m b (off+i*18) l[i])->∃xs,lS R xs l/\∀j u,xs[j]?=some u->m.cell b (off+j)=some u
 |[],off,_=>⟨[],lS.nil R,fun j u a=>by simp at a⟩
 |d::l,off,h=>by
  obtain⟨xs,o,n⟩:=SH l (off+18) fun i hi=>by
   have:=h (i+1) qeC;rw[show off+(i+1)*18=off+18+i*18 by omega]at this;exact qa5
  have e:=h 0 zS;simp only[Nat.zero_mul,Nat.add_zero,xL]at e;obtain⟨x,y,k,g,f⟩:=e.cells;refine⟨fK d x y++xs,(lS.one g f).append o,fun j u a=>?_⟩;by_cases c:j<18
  .rw[yK (by rw[Ca];exact c)]at a;exact k j u a
  .rw[yN (by rw[Ca];omega),Ca]at a;have:=n (j-18) u a
   rwa [show off+18+(j-18)=off+j by omega]at this
theorem bO.row{R:Sl->Vl->Prop}{m:Mem}{f:Option Addr}{c:Nat}{l:List Vd}(h:bO R m (.slice f l.length c) l)(d:l≠[]):
 ∃b off xs,f=some ⟨b,off,none⟩/\lS R xs l/\∀j u,xs[j]?=some u->m.cell b (off+j)=some u:=by
 obtain⟨a,q,e,p,o,n⟩:=h;injection e with e1 e2 e3;subst e1;obtain⟨b,off,rfl,k⟩:=n d;obtain⟨xs,i,g⟩:=SH l off k;exact⟨b,off,xs,rfl,i,g⟩
theorem IW{R:Sl->Vl->Prop}{w:zW}{t:TypeId}{v:zV}{l:List Vd}{xs:List Value}{m:Mem}(a:w.ownsRow 0 t 18 v l.length xs)(b:lS R xs l):bO R (m.iw w v) v l:=
 ku a fun g d i h=>by
  obtain⟨x,y,k,f,e⟩:=b.at' i h;exact .of (fun j u c=>iK a d m (k j u c)) f e
def Vl.val(v:Vl)(x:Sl):Value:=.agg (bu v x).toArray
def dE(d:Vd)(x y:Sl):Value:=.agg (fK d x y).toArray
def qU(f:Fd)(x y:Sl):List Value:=.string f.1.1::.int .i64 f.1.2::fK f.2 x y
def qN(k:Kl)(u:zV)(x y:Sl):List Value:=u::fK k.2 x y
theorem IL.cells{R:Sl->Vl->Prop}{m:Mem}{b o:Nat}{f:Fd}(h:IL R m b o f):∃x y,(∀j u,(qU f x y)[j]?=some u->m.cell b (o+j)=some u)/\R x f.2.1/\R y f.2.2:=by
 obtain⟨x,y,d,c⟩:=h.v.cells;refine⟨x,y,fun j u a=>?_,c⟩
 match j,a with
 |0,a=>cases a;exact h.s
 |1,a=>cases a;exact h.p
 |j+2,a=>
  have:=d j u a
  rwa [show o+2+j=o+(j+2)by omega]at this
theorem II.cells{R:Sl->Vl->Prop}{m:Mem}{b o:Nat}{k:Kl}(h:II R m b o k):∃c x y,aQ m c k.1/\(∀j u,(qN k c x y)[j]?=some u->m.cell b (o+j)=some u)/\R x k.2.1/\R y k.2.2:=by
 obtain⟨c,e,d⟩:=h.s;obtain⟨x,y,g,f⟩:=h.v.cells;refine⟨c,x,y,d,fun j u a=>?_,f⟩
 match j,a with
 |0,a=>cases a;exact e
 |j+1,a=>
  have:=g j u a
  rwa [show o+1+j=o+(j+1)by omega]at this
theorem qR{f:Fd}{x y:Sl}{j:Nat}{u:zV}(h:(fK f.2 x y)[j]?=some u):(qU f x y)[2+j]?=some u:=by rw[Nat.add_comm];exact h
theorem qM{k:Kl}{c:zV}{x y:Sl}{j:Nat}{u:zV}(h:(fK k.2 x y)[j]?=some u):(qN k c x y)[1+j]?=some u:=by rw[Nat.add_comm];exact h
theorem lW{d:Vd}{x y:Sl}{j:Nat}{u:zV}(h:(bu d.1 x)[j]?=some u):(fK d x y)[0+j]?=some u:=by
 rw[yZ,fK,yK (yB.1 h).1];exact h
theorem oh{d:Vd}{x y:Sl}{j:Nat}{u:zV}(h:(bu d.2 y)[j]?=some u):(fK d x y)[9+j]?=some u:=by
 rw[fK,yN (by simp[bu]),show(bu d.1 x).length=9 from rfl,show 9+j-9=j by omega];exact h
def dB:Sl:=⟨.slice none 0 0,.slice none 0 0,.slice none 0 0,.slice none 0 0,.slice none 0 0⟩
theorem bG.leaf(m:Mem)(a:Bool):bG m 1 dB (.mk a fI [] []):=⟨⟨iR _ _,iR _ _,iR _ _⟩,iR _ _,iR _ _⟩
end Cl
namespace Cl
open Go Go.RowKit Go.Proofs Go.WideShapes Go.ChangeShapes Go.Deep Go.Joins Tryz
structure q9 {H:Type} (B:DataW H->Nat):Prop where
 sl:∀es sp,(es.map B).sum+1<=B (.slice es sp)
 nil:1<=B .nil
 ag:∀ps,(ps.map B).sum<=B (.agg ps)
theorem JB(f:Nat->Nat)(g:Nat->Nat):∀n,(∀i,i<n->f i<=g i)->((List.range n).map f).sum<=((List.range n).map g).sum
 |0,_=>zI _
 |n+1,h=>by
  have:=JB f g n fun i hi=>h i zo;have a:=h n zo;simp only[List.range_succ,yI,List.sum_append,yL,xB,vG,List.sum_nil];omega
theorem SQ{α:Type}(B:α->Nat)(d:α):∀(l:List α),(l.map B).sum=((List.range l.length).map fun i=>B (l.getD i d)).sum
 |[]=>rfl
 |x::l=>by
  rw[yO,List.range_succ_eq_map,yL,vG,yL,vG,SQ B d l,vE];simp only[List.getD_cons_zero]
  congr 2
section
variable {H:Type} {enc:TypeId×Value->H} {P:Program} {w:zW} {spare:Nat->Bool} {held:Bool}
theorem kT{α:Type}[Inhabited α]{B:DataW H->Nat}(F:q9 B)(f:α->Nat){t e:TypeId}{size:Nat}(ht:P.underlying t=some (.slice e))(E:P.cellsOf e=size)(m:0<size)(R:Nat->Nat->α->Prop){fuel:Nat}
(L:∀(n b o:Nat) (cs:List Value) (x:DataW H×List MemPlace),n<fuel->w.cells? 0 ⟨b,o,none⟩ size=some cs->DataW.trod enc P w 0 spare held n e cs=some x->∃y:α,R b o y/\f y<=B x.1)
{cs:List Value}{x:DataW H×List MemPlace}(h:DataW.trod enc P w 0 spare held fuel t cs=some x):∃v l,cs=[v]/\Mem.slice R size v l/\(l.map f).sum+1<=B x.1:=by
 rcases DataW.trod_slice ht h with⟨rfl,rfl⟩|⟨a,len,cap,c,rest,n,rfl,rfl,rfl,O,K,C,q,z,-,-⟩
 .exact⟨_,[],rfl,⟨none,0,rfl,zI _,zG _,fun h=>absurd rfl h⟩,F.nil⟩
 .have A:∀i (hi:i<len),∃d,w.cells? 0 (a.add (i*P.cellsOf e)) (P.cellsOf e)=some d/\DataW.trod enc P w 0 spare held n e d=some (c[i]'zo):=fun i hi=>by
   have j:=z i hi;rw[yH zo]at j;obtain⟨d,r,s⟩:=Option.bind_eq_some_iff.1 j;exact⟨d,r,s⟩
  have J:=F.sl (c.map (·.1)) (rest.map (·.1));by_cases M:len=0
  .subst M;exact⟨_,[],rfl,⟨some a,cap,rfl,zG _,C,fun h=>absurd rfl h⟩,by simp only[xB,List.sum_nil];omega⟩
  .have k:a.spot=none:=by
    obtain⟨d,j,-⟩:=A 0 zo;obtain⟨-,r,s⟩:=World.cells?_some j;rw[E]at r s;have:=s 0 m;rw[Nat.zero_mul]at this;have e:(a.add 0).add 0=a:=by simp[Addr.add]
    rw[e,yH zo]at this;exact SS this
   obtain⟨b,o,N⟩:=a;simp only at k;subst k;obtain⟨g,D⟩:=choose_lt (α:=α) (n:=len) (p:=fun i y=>R b (o+i*size) y/\∀hi:i<c.length,f y<=B (c[i]).1) (fun i hi=>by
    obtain⟨d,j,r⟩:=A i zo;rw[E,Addr.add_lit]at j;obtain⟨y,I,G⟩:=L n _ _ _ _ zo j r;exact⟨y,I,fun _=>G⟩)
   refine⟨_,(List.range len).map g,rfl,⟨some ⟨b,o,none⟩,cap,zS,by simpa using K,C,fun _=>⟨b,o,rfl,fun i hi=>?_⟩⟩,?_⟩
   .have u:i<len:=by simpa using hi
    simpa using(D i u).1
   .refine yJ (Nat.succ_le_succ ?_) J;rw[vE,vE,SQ (B ∘ fun x:DataW H×List MemPlace=>x.1) (.nil,[]),q];refine JB _ _ _ fun i hi=>?_;have:=(D i hi).2 zo;simpa [yU,show i<c.length by omega]using this
theorem nW{B:DataW H->Nat}(g:q9 B){fuel:Nat}{t:TypeId}{d f1:Field}{cs:List Value}{x:DataW H×List MemPlace}(ht:P.underlying t=some (.struct #[d,f1]))(h:DataW.trod enc P w 0 spare held fuel t cs=some x):
 ∃b a n,fuel=n+1/\cs.length=P.cellsOf t/\DataW.trod enc P w 0 spare held n d.type ((cs.drop d.offset).take (P.cellsOf d.type))=some b/\DataW.trod enc P w 0 spare held n f1.type ((cs.drop f1.offset).take (P.cellsOf f1.type))=some a/\B b.1+B a.1<=B x.1:=by
 obtain⟨xs,n,rfl,rfl,f,c,e⟩:=DataW.trod_struct ht h;obtain⟨b,a,rfl⟩:=Oh c;have:=g.ag [b.1,a.1];exact⟨b,a,n,rfl,f,e 0 _ rfl,e 1 _ rfl,by simpa using this⟩
end
theorem bzh{α:Type}{l:List α}(h:l.length=4):∃d c b a,l=[d,c,b,a]:=by
 match l,h with
 |[d,c,b,a],_=>exact⟨d,c,b,a,rfl⟩
theorem bze{α:Type}{l:List α}(h:l.length=9):∃j i g f e d c b a,l=[j,i,g,f,e,d,c,b,a]:=by
 match l,h with
 |[j,i,g,f,e,d,c,b,a],_=>exact⟨j,i,g,f,e,d,c,b,a,rfl⟩
theorem azT{α:Type}{l:List α}(h:l.length=18):∃t s r q p o n m k j i g f e d c b a,l=[t,s,r,q,p,o,n,m,k,j,i,g,f,e,d,c,b,a]:=by
 match l,h with
 |[t,s,r,q,p,o,n,m,k,j,i,g,f,e,d,c,b,a],_=>exact⟨t,s,r,q,p,o,n,m,k,j,i,g,f,e,d,c,b,a,rfl⟩
section
variable {H:Type} {enc:TypeId×Value->H} {w:zW} {spare:Nat->Bool} {held:Bool} {B:DataW H->Nat}
abbrev Cr(enc:TypeId×Value->H)(w:zW)(spare:Nat->Bool)(held:Bool)(fuel:Nat)(t:TypeId)(cs:List Value)(x:DataW H×List MemPlace):Prop:=DataW.trod enc prog w 0 spare held fuel t cs=some x
instance:Inhabited Vl:=⟨ja⟩
def Cu(B:DataW H->Nat)(enc:TypeId×Value->H)(w:zW)(spare:Nat->Bool)(held:Bool)(K:Nat):Prop:=∀k cs x,k<K->Cr enc w spare held k 33 cs x->∃v s,cs=bu v s/\bG (Mem.of w) K s v/\dw K v<=B x.1
def A8(K:Nat)(d:Vd):Nat:=dw K d.1+dw K d.2
def X4(K:Nat)(l:List Vd):Nat:=(l.map (A8 K)).sum
theorem Gg{b o n:Nat}{cs:List Value}(a:w.cells? 0 ⟨b,o,none⟩ n=some cs){j:Nat}{v:Vl}{s:Sl}(h:∀i x,(bu v s)[i]?=some x->cs[j+i]?=some x):rH (Mem.of w) b (o+j) s v:=by
 have g:∀i x,(bu v s)[i]?=some x->(Mem.of w).cell b (o+j+i)=some x:=fun i x hi=>by
  have:=iE a (h i x hi)
  rwa [<-Nat.add_assoc]at this
 exact⟨g 0 _ rfl,g 1 _ rfl,g 2 _ rfl,g 3 _ rfl,g 4 _ rfl,g 5 _ rfl,g 6 _ rfl,g 7 _ rfl,g 8 _ rfl⟩
theorem MU(p:q9 B){K:Nat}(f:Cu B enc w spare held K){k:Nat}(G:k<=K){cs:List Value}{x:DataW H×List MemPlace}(h:Cr enc w spare held k 35 cs x):
 ∃(d:Vd) (b a:Sl),cs=bu d.1 b++bu d.2 a/\bG (Mem.of w) K b d.1/\bG (Mem.of w) K a d.2/\A8 K d<=B x.1:=by
 obtain⟨F,E,n,rfl,e,i,g,I⟩:=nW p underlying35 h;have c:prog.cellsOf 35=18:=by kernel_rfl
 have s:prog.cellsOf 33=9:=by kernel_rfl
 rw[c]at e;obtain⟨T,S,R,Q,P,O,N,M,L,J,D,C,A,z,y,v,u,t,rfl⟩:=azT e;simp[s]at i g;obtain⟨l,b,r,o,V⟩:=f _ _ _ zo i;obtain⟨j,a,q,m,U⟩:=f _ _ _ zo g;exact⟨(l,j),b,a,by rw[<-r,<-q];rfl,o,m,by unfold A8;simp only;omega⟩
theorem CE(s:q9 B){K:Nat}(r:Cu B enc w spare held K){k:Nat}(p:k<=K){b o n j:Nat}{cs:List Value}{x:DataW H×List MemPlace}(a:w.cells? 0 ⟨b,o,none⟩ n=some cs)(_:n=j+18)
(h:Cr enc w spare held k 35 (cs.drop j) x):∃d:Vd,uV (bG (Mem.of w) K) (Mem.of w) b (o+j) d/\A8 K d<=B x.1:=by
 obtain⟨d,c,g,e,m,l,q⟩:=MU s r p h;have f:=(World.cells?_some a).2.1;refine⟨d,⟨c,g,Gg a (j:=j) fun i x hi=>?_,m,?_,l⟩,q⟩
 .have:(cs.drop j)[i]?=some x:=by
   rw[e,yK (yB.1 hi).1];exact hi
  rwa [List.getElem?_drop]at this
 .rw[Nat.add_assoc];refine Gg a (j:=j+9) fun i x hi=>?_;have:(cs.drop j)[9+i]?=some x:=by
   rw[e,yN (by simp[bu])];rw[show 9+i-(bu d.1 c).length=i by simp[bu]];exact hi
  rw[List.getElem?_drop,<-Nat.add_assoc]at this;exact this
theorem Jt(a:q9 B){K:Nat}(e:Cu B enc w spare held K){k:Nat}(i:k<=K){cs:List Value}{x:DataW H×List MemPlace}(h:Cr enc w spare held k 49 cs x):
 ∃v l,cs=[v]/\bO (bG (Mem.of w) K) (Mem.of w) v l/\X4 K l+1<=B x.1:=
 kT (α:=Vd) a (A8 K) underlying49 zk zo (uV (bG (Mem.of w) K) (Mem.of w)) (fun f b o cs x g d c=>CE a e zo (j:=0) d rfl c) h
def Ph(K:Nat)(c:Lc):Nat:=X4 K c.1+X4 K c.2
def X0(K:Nat)(l:List Fd):Nat:=(l.map fun f=>A8 K f.2).sum
def XZ(K:Nat)(l:List Kl):Nat:=(l.map fun f=>A8 K f.2).sum
def Pg(K:Nat)(c:St):Nat:=X0 K c.1+XZ K c.2
theorem Zb(b:q9 B){K:Nat}(e:Cu B enc w spare held K){k:Nat}(v:k<=K){cs:List Value}{x:DataW H×List MemPlace}(h:Cr enc w spare held k 51 cs x):
 ∃(u a:zV) (c:Lc),cs=[u,a]/\bO (bG (Mem.of w) K) (Mem.of w) u c.1/\bO (bG (Mem.of w) K) (Mem.of w) a c.2/\Ph K c<=B x.1:=by
 obtain⟨t,s,n,rfl,d,g,f,y⟩:=nW b underlying51 h;have q:prog.cellsOf 51=2:=by kernel_rfl
 have r:prog.cellsOf 49=1:=by kernel_rfl
 rw[q]at d;obtain⟨A,z,rfl⟩:=Oh d;simp[r]at g f;obtain⟨u,l,p,m,D⟩:=Jt b e zo g;obtain⟨a,i,o,j,C⟩:=Jt b e zo f;cases p;cases o;exact⟨_,_,(l,i),rfl,m,j,by unfold Ph;simp only;omega⟩
theorem XQ(m:q9 B){K:Nat}(E:Cu B enc w spare held K){k:Nat}(Q:k<=K){cs:List Value}{x:DataW H×List MemPlace}(h:Cr enc w spare held k 42 cs x):
 ∃v l,cs=[v]/\iy (bG (Mem.of w) K) (Mem.of w) v l/\X0 K l+1<=B x.1:=
 kT (α:=Fd) m (fun f:Fd=>A8 K f.2) underlying42 zk zo (IL (bG (Mem.of w) K) (Mem.of w)) (fun O b o cs x P c A=>by
  obtain⟨xs,N,rfl,rfl,-,a,g⟩:=DataW.trod_struct underlying58 A;obtain⟨u,t,r,rfl⟩:=azr a;have C:=(World.cells?_some c).2.1;have q:=g 0 _ rfl;have f1:=g 1 _ rfl;have f2:=g 2 _ rfl;have M:prog.cellsOf 3=1:=by kernel_rfl
  have L:prog.cellsOf 9=1:=by kernel_rfl
  have J:prog.cellsOf 35=18:=by kernel_rfl
  simp[M,L,J]at q f1 f2;obtain⟨s,I,-,w0⟩:=DataW.trod_string underlying9 q;obtain⟨p,G,-,e⟩:=DataW.trod_int underlying3 f1;have n:(cs.drop 2).take 18=cs.drop 2:=xH (by simp[C]);rw[n]at f2;obtain⟨d,D,R⟩:=CE m E zo (j:=2) c rfl f2;have e:=Md e;have z:cs[0]?=some (.string s):=by have:=congrArg (fun l=>l[0]?) I;simpa using this
  have y:cs[1]?=some (.int .i64 p):=by have:=congrArg (fun l=>l[0]?) G;simpa using this
  have F:=m.ag [u.1,t.1,r.1];simp only[yL,xB,vG,List.sum_nil]at F⊢;exact⟨((s,p),d),⟨iE (i:=0) c z,w0,iE (i:=1) c y,e,D⟩,by simp only;omega⟩) h
theorem Xy(c:q9 B){K:Nat}(y:Cu B enc w spare held K){k:Nat}(O:k<=K){cs:List Value}{x:DataW H×List MemPlace}(h:Cr enc w spare held k 43 cs x):
 ∃v l,cs=[v]/\gX (bG (Mem.of w) K) (Mem.of w) v l/\XZ K l+1<=B x.1:=
 kT (α:=Kl) c (fun f:Kl=>A8 K f.2) underlying43 zk zo (II (bG (Mem.of w) K) (Mem.of w)) (fun M b o cs x N a q=>by
  obtain⟨I,G,L,rfl,-,n,f1,u⟩:=nW c underlying61 q;have r:=(World.cells?_some a).2.1;have E:prog.cellsOf 27=1:=by kernel_rfl
  have D:prog.cellsOf 35=18:=by kernel_rfl
  have A:prog.cellsOf 25=1:=by kernel_rfl
  simp[E,D]at n f1;obtain⟨F,J,-,-,m⟩:=trod_struct1 underlying27 n;simp[A]at m;obtain⟨g,t,C,z⟩:=lJ underlying25 zk zo (wX (Mem.of w)) FD m;have e:cs.tail.take 18=cs.drop 1:=by rw[List.drop_one];exact xH (by simp[r])
  rw[e]at f1;obtain⟨d,s,P⟩:=CE c y zo (j:=1) a rfl f1;have p:cs[0]?=some g:=by have:=congrArg (fun l=>l[0]?) C;simpa using this
  exact⟨(t,d),⟨⟨g,iE (i:=0) a p,z⟩,s⟩,by simp only;omega⟩) h
theorem YQ(b:q9 B){K:Nat}(e:Cu B enc w spare held K){k:Nat}(y:k<=K){cs:List Value}{x:DataW H×List MemPlace}(h:Cr enc w spare held k 45 cs x):
 ∃(u a:zV) (c:St),cs=[u,a]/\iy (bG (Mem.of w) K) (Mem.of w) u c.1/\gX (bG (Mem.of w) K) (Mem.of w) a c.2/\Pg K c<=B x.1:=by
 obtain⟨v,t,n,rfl,d,g,f,z⟩:=nW b underlying45 h;have r:prog.cellsOf 45=2:=by kernel_rfl
 have s:prog.cellsOf 42=1:=by kernel_rfl
 have q:prog.cellsOf 43=1:=by kernel_rfl
 rw[r]at d;obtain⟨C,A,rfl⟩:=Oh d;simp[s,q]at g f;obtain⟨u,l,p,m,E⟩:=XQ b e zo g;obtain⟨a,i,o,j,D⟩:=Xy b e zo f;cases p;cases o;exact⟨_,_,(l,i),rfl,m,j,by unfold Pg;simp only;omega⟩
theorem FB{α:Type}(f:Vd->Nat)(g:α->List Vd)(h:α->Nat)(b:∀a,((g a).map f).sum=h a):∀l:List α,((l.flatMap g).map f).sum=(l.map h).sum
 |[]=>rfl
 |a::l=>by rw[xO,yI,List.sum_append,yL,vG,b,FB f g h b l]
theorem PZ(K:Nat)(v:Vl):dw (K+1) v=1+((v.aU.map (Ph K)).sum+(v.aF.map (Pg K)).sum):=by
 rw[dw];show 1+(v.kids.map (A8 K)).sum=_;rw[Vl.kids,yI,List.sum_append,FB (A8 K) bW (Ph K) (fun c=>by rw[bW,yI,List.sum_append];rfl),FB (A8 K) fE (Pg K) (fun c=>by rw[fE,yI,List.sum_append,vE,vE];rfl)]
theorem Fu(m:q9 B):∀(fuel:Nat) (cs:List Value) (x:DataW H×List MemPlace),Cr enc w spare held fuel 33 cs x->∃v s,cs=bu v s/\bG (Mem.of w) (fuel+1) s v/\dw (fuel+1) v<=B x.1:=by
 intro fuel
 induction fuel using Nat.strongRecOn with
 |ind fuel ih=>
 intro cs x h;obtain⟨xs,n,rfl,rfl,C,g,r⟩:=DataW.trod_struct underlying33 h;have D:Cu B enc w spare held (n+1):=fun k cs x O d=>by
  obtain⟨v,s,e,hv,hb⟩:=ih k O cs x d;exact qdU
 have U:prog.cellsOf 33=9:=by kernel_rfl
 rw[U]at C;obtain⟨c0,c1,c2,c3,c4,c5,c6,c7,c8,rfl⟩:=bze C;have Y:prog.cellsOf 4=1:=by kernel_rfl
 have X:prog.cellsOf 29=6:=by kernel_rfl
 have W:prog.cellsOf 30=1:=by kernel_rfl
 have V:prog.cellsOf 31=1:=by kernel_rfl
 obtain⟨J,I,G,F,rfl⟩:=bzh g;have z:=m.ag [J.1,I.1,G.1,F.1];simp only[yL,xB,vG,List.sum_nil]at z⊢;have E:=r 0 _ rfl;have f1:=r 1 _ rfl;have f2:=r 2 _ rfl;have f3:=r 3 _ rfl;simp[Y,X,W,V]at E f1 f2 f3;obtain⟨a,T,-⟩:=DataW.trod_bool underlying4 E;obtain⟨b0,b1,Z,vi,vf,vt,l,f,t,R,M⟩:=Uj f1;obtain⟨vl,L,Q,q,k2⟩:=kT (α:=Lc) (fuel:=n) (size:=2) m (Ph (n+1)) underlying30 zk zo (PI (bG (Mem.of w) (n+1)) (Mem.of w)) (fun K b o cs x N j d=>by
  obtain⟨u,y,c,rfl,A,q,p⟩:=Zb m D zo d;exact⟨c,⟨u,y,iE (i:=0) j rfl,iE (i:=1) j rfl,A,q⟩,p⟩) f2
 obtain⟨vs,S,P,p,k3⟩:=kT (α:=St) (fuel:=n) (size:=2) m (Pg (n+1)) underlying31 zk zo (PH (bG (Mem.of w) (n+1)) (Mem.of w)) (fun K b o cs x N j d=>by
  obtain⟨u,y,c,rfl,A,q,p⟩:=YQ m D zo d;exact⟨c,⟨u,y,iE (i:=0) j rfl,iE (i:=1) j rfl,A,q⟩,p⟩) f3
 cases T;cases R;cases Q;cases P;refine⟨.mk a ⟨b0,b1,Z,l,f,t⟩ L S,⟨_,_,_,_,_⟩,rfl,⟨M,q,p⟩,?_⟩;rw[PZ];simp only[Vl.aU,Vl.aF];omega
end
end Cl
