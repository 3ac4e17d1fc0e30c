/- Lemmas for the proofs of chapter 11. -/
import Derived.Test.YtajbfioncdnkcaaGreatDoorProg
import Derived.BigQuiet
import Derived.Deep.Cut
import Derived.Deep.QuietTactic
import Derived.Laws.StructEq
import Derived.Lib.AppendStr
import Derived.Lib.Builder
import Derived.Lib.Hide
import Derived.Lib.ItoaLen
import Derived.Maps.OwnOps
import Derived.Maps.OwnSet
import Derived.OrdersHeld
import Derived.Outline
import Derived.StillTailTactics
import Derived.StringKeys
import Derived.WalkKit
import Derived.WalkLawsBesides
import Derived.WalkSpells
import Derived.Deep.RegionHeld
import Derived.Shelf.Strings.Builder1
import Derived.Shelf.Small.Wraps
import Derived.Shelf.LaysM
import Derived.Shelf.Strconv.Itoa3
import Derived.Test.YtajbfioncdnkcaaGreatDoorZz
import Derived.Test.YtajbfioncdnkcaaGreatDoorPkM3
import Derived.Test.YtajbfioncdnkcaaGreatDoorPkM4
import Derived.Test.YtajbfioncdnkcaaGreatDoorPkM1
import Derived.Test.YtajbfioncdnkcaaGreatDoorPkM2
import Derived.Test.YtajbfioncdnkcaaGreatDoorPkM6
import Derived.Test.YtajbfioncdnkcaaGreatDoorPkM7
set_option maxRecDepth 100000
set_option maxHeartbeats 16000000
namespace Cl
open Go Go.RowKit Go.Proofs
theorem rY.congr {T:Table} {N:Nat} {cf:Nat→Int} {dl dl':Nat→Nat→Option Nat} {lo hi:Nat→Nat} {ac ac':Nat→Bool} {K:Nat} (H:rY T N cf dl lo hi ac K)
 (h:∀s i,s<N→i<K→dl' s i=dl s i) (ha:∀s,s<N→ac' s=ac s):rY T N cf dl' lo hi ac' K:=
 ⟨H.iv,H.pos,fun s i t hs hi' he=>H.some s i t hs hi' (by rw[← h s i hs hi'];exact he),fun s i hs hi' he=>H.none s i hs hi' (by rw[← h s i hs hi'];exact he),H.cls,fun s hs=>(ha s hs).trans (H.acc s hs),H.live⟩
noncomputable def pOf (l:Table) (b:Nat):Bool:=tf (cutP l b)
theorem zZ (l:Table):dF l 256=(aT (pOf l)).map Int.ofNat:=rfl
theorem uJ (l:Table):Marks l (pOf l):=by
 refine ⟨aN (.inl rfl),fun s hs e he b _ h=>aN (.inr ⟨s,hs,e,he,?_⟩)⟩;exact h
theorem uT (l:Table):Pj (dF l 256) (loOf (aT (pOf l))) (hiOf (aT (pOf l))):=by
 rw[zZ];refine ⟨fun i h=>?_,fun i h=>?_⟩
 ·have h':i<(aT (pOf l)).length:=by simpa using h
  simp[loOf,h']
 ·have h':i<(aT (pOf l)).length:=by simpa using h
  unfold FH hiOf;by_cases c:i+1<(aT (pOf l)).length
  ·have h1:=j4 (show i<i+1 by omega) c;rw[dif_pos (by simpa using c),if_pos c];simp only[List.getElem_map,List.getD_eq_getElem?_getD,c,List.getElem?_eq_getElem,Option.getD_some] at h1 ⊢;have:((aT (pOf l))[i+1] - 1:Nat)=(((aT (pOf l))[i+1]:Nat):Int) - 1:=zo;rw[this];rfl
  ·rw[dif_neg (by simpa using c),if_neg c];rfl
theorem rC (l:Table):(dF l 256).length=(aT (pOf l)).length:=by rw[zZ,List.length_map]
def gX (l:Table) (cuts:List Int):List (List Int):=rD l cuts ++ [cuts.map fun _=>(l.length:Int)]
theorem nP (l:Table) (cuts:List Int):(gX l cuts).length=l.length+1:=by simp[gX,rD]
theorem nz {l:Table} (_:WF l) {s i:Nat} (hs:s<l.length+1) (hi:i<(aT (pOf l)).length) :
 taN (gX l (dF l 256)) s i=snk l.length (bL l s (loOf (aT (pOf l)) i)):=by
 have hi2:i<(dF l 256).length:=by rw[rC];exact hi
 have hc:=(uT l).lo i hi2;unfold taN nx;by_cases c:s<l.length
 ·have e1:(gX l (dF l 256)).getD s []=pF l.length (dF l 256) (l[s]).edges:=by
   unfold gX rD;rw[List.getD_eq_getElem?_getD,List.getElem?_append_left (by simpa using c)];simp[c]
  rw[e1];have e2:(pF l.length (dF l 256) (l[s]).edges).getD i 0=goTo l.length (l[s]).edges ((dF l 256)[i]):=by simp[pF,hi2]
  rw[e2,hc,dY l s _ c];simp[goTo,snk]
 ·have:s=l.length:=zo;subst this;have e1:(gX l (dF l 256)).getD l.length []=(dF l 256).map fun _=>(l.length:Int):=by
   unfold gX;rw[List.getD_eq_getElem?_getD,List.getElem?_append_right (by simp[rD])];simp[rD]
  rw[e1,fB l _ _ (Int.le_refl _)];simp[snk,hi2]
theorem Dp {l:Table} (hw:WF l) (hlen:l.length≤1000000) :
 DJ l (dF l 256) (gX l (dF l 256)) (l.map (·.accept) ++ [false]) (loOf (aT (pOf l))) (hiOf (aT (pOf l))):=by
 have hl:=nP l (dF l 256);have hT:=Gn hw (uJ l);refine ⟨?_,fun s hs=>?_,by simp[hl],fun r hr=>?_,zo,oH l 256,zo⟩
 ·rw[hl,rC];refine ⟨hT.iv,fun s i hs hi=>?_,fun s i hs hi b h1 h2 w=>?_,fun s t i hs ht hi h1 h2=>?_⟩
  ·rw[nz hw hs hi];exact hT.rng s i hs hi
  ·rw[nz hw hs hi];exact hT.step s i hs hi b h1 h2 w
  ·rw[nz hw hs hi] at h1;rw[nz hw ht hi] at h2 ⊢;exact hT.neg s t i hs ht hi h1 h2
 ·rw[hl] at hs;by_cases c:s<l.length
  ·rw[gG l s c,List.getD_eq_getElem?_getD,List.getElem?_append_left (by simpa using c)];simp[c]
  ·have:s=l.length:=zo;subst this;rw[List.getD_eq_getElem?_getD,List.getElem?_append_right zS];have:=iF l (l.length:Int) [] (Int.le_refl _);simp only[aJ] at this;simp[this]
 ·rw[hl];unfold gX at hr;rcases List.mem_append.1 hr with h | h
  ·obtain⟨s,hs,rfl⟩:=List.mem_map.1 h;exact⟨by simp[pF],fun x hx=>by have:=uU (hw s hs) _ x hx;omega⟩
  ·simp only[List.mem_singleton] at h;subst h;exact⟨zS,fun x hx=>by obtain⟨y,-,rfl⟩:=List.mem_map.1 hx;omega⟩
theorem Je {T:Table} {cuts:List Int} {next:List (List Int)} {acc:List Bool} {lo hi:Nat→Nat} (H:DJ T cuts next acc lo hi) {cls:List Int} (hc:wJ T next.length cls) {s:Nat} (hs:s<next.length) :
 xP next acc cls (cl cls s)↔Lv T s:=by
 have hrow:∀t,t<next.length→∃r,nx next t=r∧r.length=cuts.length∧(∀x∈r,0≤x∧x<next.length):=fun t ht=>by
  refine ⟨next[t],by simp[nx,ht],H.rows _ (List.getElem_mem ht)⟩
 have hcl:∀a b,a<next.length→b<next.length→cl cls a=cl cls b→NEq T a b:=fun a b ha hb e=>by
  refine (hc.eq a b ha hb).1 ?_;unfold cl at e;have h1:∀t,t<next.length→0≤cls.getD t 0:=fun t ht=>by
   have hl:t<cls.length:=by rw[hc.len];exact ht
   have:=(hc.rng cls[t] (List.getElem_mem hl)).1;simpa [hl] using this
  have:=h1 a ha;have:=h1 b hb;omega
 constructor
 ·intro h;have gen:∀c,xP next acc cls c→∀t,t<next.length→cl cls t=c→Lv T t:=by
   intro c h
   induction h with
   | acc u hu h=>
    intro t ht e;have hn:=hcl t u ht hu e;refine ⟨[],(hn []).trans ?_⟩;simp only[aJ];rw[← H.accs u hu]
    exact h
   | step u hu x hx _ ih=>
    intro t ht e;have hn:=hcl t u ht hu e;obtain⟨r,hr,hrl,hrx⟩:=hrow u hu;rw[hr] at hx;have hxr:=hrx x hx;obtain⟨w,hw⟩:=ih x.toNat zo rfl;obtain⟨i,hi',e2⟩:=List.mem_iff_getElem.1 hx;have hta:taN next u i=x:=by
     unfold taN;rw[hr];simp[hi',e2]
    have hle:=H.ta.iv.le i zo;obtain⟨ub,hub⟩:=byteOf (lo i) zo;refine ⟨ub::w,(hn (ub::w)).trans ?_⟩;simp only[aJ];rw[hub,H.ta.step u i hu zo (lo i) (Nat.le_refl _) hle.1 w,hta];have:((x.toNat:Nat):Int)=x:=zo;rw[← this];exact hw
  exact gen _ h s hs rfl
 ·rintro ⟨w,hw⟩
  induction w generalizing s with
  | nil=>
   refine .acc s hs ?_;simp only[aJ] at hw;have:=H.accs s hs;unfold bt
   rw[this,hw]
  | cons b w ih=>
   simp only[aJ] at hw;obtain⟨i,hi',b1,b2⟩:=H.ta.iv.cover b.toNat b.toNat_lt;rw[H.ta.step s i hs hi' _ b1 b2 w] at hw;obtain⟨r,hr,hrl,hrx⟩:=hrow s hs;have hta:taN next s i=r[i]:=by
    unfold taN;rw[hr];simp[hrl,hi']
   have hxr:=hrx r[i] (List.getElem_mem zo);rw[hta] at hw;have e:((r[i].toNat:Nat):Int)=r[i]:=zo;refine .step s hs r[i] (by rw[hr];exact List.getElem_mem zo) (ih zo ?_);rw[e];exact hw
theorem IB {l:Table} (hw:WF l) (hlen:l.length≤1000000) {cls:List Int} (hc:wJ l (gX l (dF l 256)).length cls) {lv:List Bool}
 (hlv:∀c,bt lv c=true↔xP (gX l (dF l 256)) (l.map (·.accept) ++ [false]) cls c) (h0:bt lv (cl cls 0)=true) :
 rY l (gX l (dF l 256)).length (fun s=>cls.getD s 0) (dlN (gX l (dF l 256)) cls lv) (loOf (aT (pOf l))) (hiOf (aT (pOf l))) (fun s=>(l.map (·.accept) ++ [false]).getD s false) (dF l 256).length:=by
 have H:=Dp hw hlen;have hl:=nP l (dF l 256);have hlive:∀s:Nat,s<l.length+1→(bt lv (cls.getD s 0).toNat=true↔Lv l s):=fun s hs=>(hlv _).trans (Je H hc zo);have h00:Lv l (0:Nat):=(hlive 0 zo).1 h0;rw[hl] at hc ⊢;rw[rC];refine (F6 hw (uJ l) hc hlive (ac:=fun s=>(l.map (·.accept) ++ [false]).getD s false) (fun s hs=>H.accs s (by rw[hl];exact hs)) h00).congr (fun s i hs hi=>?_) (fun s hs=>rfl);unfold dlN;rw[nz hw hs hi]
 rfl
theorem FP {l:Table} (hw:WF l) (hlen:l.length≤1000000) {cls:List Int} (hc:wJ l (gX l (dF l 256)).length cls) {lv:List Bool}
 (hlv:∀c,bt lv c=true↔xP (gX l (dF l 256)) (l.map (·.accept) ++ [false]) cls c) (h0:bt lv (cl cls 0)=false):∀w,aJ l 0 w=false:=by
 intro w;have H:=Dp hw hlen;have hl:=nP l (dF l 256)
 cases hx:aJ l 0 w with
 | false=>rfl
 | true=>
  have:=(hlv _).2 ((Je H hc (s:=0) zo).2 ⟨w,hx⟩);rw[h0] at this;cases this
theorem QF {n:Nat} {es:List Ed}:∀{p:Int},bQ n p es→gQ es → -1≤p→p≤255→(es.length:Int)+p≤255:=by
 induction es with
 | nil=>intro p _ _ h1 h2;simp;exact h2
 | cons e es ih=>
  intro p ⟨h1,h2,h3,h4,h5⟩ hb hp hp2;have hb1:=hb e zS;have:=ih h5 (fun x hx=>hb x (by simp[hx])) zo zo;simp only[List.length_cons];omega
theorem yh {l:Table} (hw:WF l) (hb:Bytes l):∀s∈l,s.edges.length≤256:=fun s hs=>by
 have:=QF (hw s hs) (hb s hs) zo zo;omega
end Cl
namespace Cl
def bndE (op:List UInt8) (u:Int):Int:=if known op=true then (if bP u then 0 else 1) else 8
def bndN (op:List UInt8) (u:Int):NS:=if known op=true∧bP u then fo op u else j3
theorem Ai {op:List UInt8} {u:Int} (h:known op=false):bndE op u=8∧bndN op u=j3:=by
 unfold bndE bndN;simp[h]
theorem OZ {op:List UInt8} {u:Int} (h:known op=true) (h2:¬ bP u):bndE op u=1∧bndN op u=j3:=by
 unfold bndE bndN;simp[h,h2]
theorem vB {op:List UInt8} {u:Int} (h:known op=true) (h2:bP u):bndE op u=0∧bndN op u=fo op u:=by
 unfold bndE bndN;simp[h,h2]
end Cl
namespace Cl
theorem Nl:ScIs (fun e=>some El.nul=some e) ⟨true,false,false,[],[],[]⟩:=
 ja (x:=j3) zS zS zS lM (fun u=>⟨fun h=>absurd h (je u),fun h=>by cases h⟩) eu (fun w=>by simp[gD eu,dC])
theorem Np:ScIs (fun e=>some El.fal=some e) ⟨false,true,false,[],[],[]⟩:=
 ja (x:=j3) zS zS zS lM (fun u=>⟨fun h=>absurd h (je u),fun h=>by cases h⟩) eu (fun w=>by simp[gD eu,dC])
theorem Nh:ScIs (fun e=>some El.tru=some e) ⟨false,false,true,[],[],[]⟩:=
 ja (x:=j3) zS zS zS lM (fun u=>⟨fun h=>absurd h (je u),fun h=>by cases h⟩) eu (fun w=>by simp[gD eu,dC])
theorem Nk {u:Int} (hu:bP u):ScIs (fun e=>some (El.num u)=some e) ⟨false,false,false,(eqN u).i,(eqN u).rf,[]⟩:=
 ja (x:=eqN u) zS zS zS (rU u) (fun v=>by
  rw[zQ];constructor
  ·rintro ⟨-,rfl⟩;rfl
  ·intro h;cases h;exact⟨hu,rfl⟩) eu (fun w=>by simp[gD eu,dC])
theorem Ni {z:List UInt8} {C:Table} (h:dX (fun v=>decide (v=z)) C):ScIs (fun e=>some (El.str z)=some e) ⟨false,false,false,[],[],C⟩:=
 ja (x:=j3) zS zS zS lM (fun u=>⟨fun h=>absurd h (je u),fun h=>by cases h⟩) h.canon (fun w=>by
  rw[h.sem];simp only[decide_eq_true_eq,Option.some.injEq,El.str.injEq];exact eq_comm)
theorem qY:ScIs (fun e=>(none:Option El)=some e) dO:=zV.congr fun e=>⟨False.elim,fun h=>by cases h⟩
inductive vE (k n:Int) (s:ByteArray) (de:Option El) (er:Int):Prop
 | nul (hk:k=1) (h:de=some .nul) (he:er=0):vE k n s de er
 | fal (hk:k=2) (hn:n=0) (h:de=some .fal) (he:er=0):vE k n s de er
 | tru (hk:k=2) (hn:n=1) (h:de=some .tru) (he:er=0):vE k n s de er
 | num (hk:k=3) (hv:bP n) (h:de=some (.num n)) (he:er=0):vE k n s de er
 | str (hk:k=4) (h:de=some (.str s.data.toList)) (he:er=0):vE k n s de er
 | parts (hk:k=5∨k=6) (h:de=none) (he:er=11):vE k n s de er
theorem uD {d:Dt} (h:chkD d 1=0):vE d.kind d.num d.str (dtEl d) (ofE d):=by
 obtain⟨h1,h2,-⟩:=lG (qE h);obtain⟨hk,-⟩:=oP h1;have hd:dtEl d=if d.kind=1 then some .nul else if d.kind=2 then (if d.num=0 then some .fal else some .tru) else if d.kind=3 then some (.num d.num) else if d.kind=4 then some (.str d.str.data.toList) else none:=by
  unfold dtEl;rw[if_neg (by simpa using h)]
 have he:ofE d=if d.kind=5∨d.kind=6 then 11 else 0:=by unfold ofE;rw[if_neg (by simpa using h)]
 rw[hd,he];rcases (show d.kind=1∨d.kind=2∨d.kind=3∨d.kind=4∨d.kind=5∨d.kind=6 by omega) with e | e | e | e | e | e
 ·exact .nul e (by simp[e]) (by simp[e])
 ·by_cases h0:d.num=0
  ·exact .fal e h0 (by simp[e,h0]) (by simp[e])
  ·have:d.num=1:=Classical.byContradiction fun h3=>h2 (.inl ⟨e,h0,h3⟩);exact .tru e this (by simp[e,this]) (by simp[e])
 ·refine .num e (Classical.byContradiction fun hn=>h2 (.inr ⟨e,?_⟩)) (by simp[e]) (by simp[e]);simpa [bP,maxU] using hn
 ·exact .str e (by simp[e]) (by simp[e])
 ·exact .parts (.inl e) (by simp[e]) (by simp[e])
 ·exact .parts (.inr e) (by simp[e]) (by simp[e])
theorem CQ {d:Dt} (h:chkD d 1≠0):dtEl d=none∧ofE d=chkD d 1:=⟨by unfold dtEl;rw[if_pos h],by unfold ofE;rw[if_pos h]⟩
end Cl
namespace Cl
theorem tJ {op:List UInt8} {d:Dt} (h:dtEl d=none) (e:El):¬ gV op d e:=by unfold gV;rw[h];exact id
theorem vz {d:Dt} {a:El} (h:dtEl d=some a) (e:El):gV [33,61] d e↔e≠a∧elOk e:=by
 unfold gV;rw[h];simp[opNe]
theorem yY {op:List UInt8} (h:jI op=true):known op=true:=by
 simp only[jI,Bool.or_eq_true] at h;simp only[known,Bool.or_eq_true];exact .inl (.inl h)
theorem I9 {op:List UInt8} (h:jI op=true):op≠opNe:=by
 rintro rfl;exact absurd h zD
theorem F4 {op:List UInt8} {d:Dt} {u:Int} (ho:jI op=true) (h:dtEl d=some (.num u)):ScIs (gV op d) ⟨false,false,false,(fo op u).i,(fo op u).rf,[]⟩:=by
 have hp:∀e,gV op d e↔(match e with | .num v=>bP v∧relN op v u | _=>False):=fun e=>by
  unfold gV;rw[h];simp only[if_neg (I9 ho),if_pos ho];cases e <;> exact Iff.rfl
 exact ja (x:=fo op u) (by rw[hp];simp) (by rw[hp];simp) (by rw[hp];simp) (OX op u) (fun v=>by rw[LU (yY ho),hp]) eu (fun w=>by rw[hp];simp[gD eu,dC])
theorem F3 {op:List UInt8} {d:Dt} {z:List UInt8} {f:List UInt8→Bool} {C:Table} (ho:jI op=true) (h:dtEl d=some (.str z)) (hf:dx op z=some f) (hC:dX f C):ScIs (gV op d) ⟨false,false,false,[],[],C⟩:=by
 have hp:∀e,gV op d e↔(match e with | .str x=>f x=true | _=>False):=fun e=>by
  unfold gV;rw[h];simp only[if_neg (I9 ho),if_pos ho];cases e <;> simp[hf]
 exact ja (x:=j3) (by rw[hp];simp) (by rw[hp];simp) (by rw[hp];simp) lM (fun v=>by rw[hp];exact⟨fun h=>absurd h (je v),False.elim⟩) hC.canon (fun w=>by rw[hp,hC.sem])
theorem ww {op:List UInt8} {d:Dt} {a:El} (ho:jI op=true) (h:dtEl d=some a) (ha:a=.nul∨a=.fal∨a=.tru) (e:El):¬ gV op d e:=by
 unfold gV;rw[h];simp only[if_neg (I9 ho),if_pos ho];rcases ha with rfl | rfl | rfl <;> exact id
theorem Ah {op:List UInt8} {d:Dt} (ho:jI op=false) (hne:op≠[33,61]) (e:El):¬ gV op d e:=by
 unfold gV
 split
 ·exact id
 ·rw[if_neg (show ¬ op=opNe from hne),if_neg (by rw[ho];simp)];exact id
theorem lu {p:El→Prop} (h:∀e,¬ p e):ScIs p dO:=zV.congr fun e=>⟨False.elim,h e⟩
theorem lH {op:List UInt8} (h:jI op=true):op=[60]∨op=[60,61]∨op=[62]∨op=[62,61]:=by
 unfold jI opLt opLe opGt opGe at h;by_cases h0:op=[60]
 ·exact .inl h0
 by_cases h1:op=[60,61]
 ·exact .inr (.inl h1)
 by_cases h2:op=[62]
 ·exact .inr (.inr (.inl h2))
 by_cases h3:op=[62,61]
 ·exact .inr (.inr (.inr h3))
 simp[h0,h1,h2,h3] at h
theorem Nb {op:List UInt8} (h:jI op=false):op≠[60]∧op≠[60,61]∧op≠[62]∧op≠[62,61]:=by
 refine ⟨?_,?_,?_,?_⟩ <;> rintro rfl <;> exact absurd h zD
theorem F5 (op:List UInt8) (u:Int):(fo op u).i.length≤2∧(fo op u).rf.length≤2:=by
 have h1:(ltN u).Le 1:=fF zS zS;have h2:(leN u).Le 1:=fF zS zS;have h3:(eqN u).Le 1:=fF zS zS;have:(fo op u).Le 2:=by
  unfold fo
  repeat' split
  ·exact h1.mono zo
  ·exact h2.mono zo
  ·exact lS h2
  ·exact lS h1
  ·exact h3.mono zo
  ·exact lS h3
 exact⟨this.i,by rw[NS.ky];exact this.f⟩
end Cl
namespace Cl
def kV (A B:Table) (p:Int × Int) (b:Nat):Int × Int:=(bL A p.1 b,bL B p.2 b)
structure oL (A B:Table) (p:Int × Int) (l:List (Int × Int)) (es:List Ed) (c:Nat):Prop where
 wf:bQ l.length (-1) es
 hi:∀e∈es,e.hi<c
 le:c≤256
 step:∀b,b<c→∃t:Nat,bu es b=t∧l[t]?=some (kV A B p b)
 last:c=0∧es=[]∨∃fs e,es=fs ++ [e]∧e.hi+1=c
theorem oL.start (A B:Table) (p:Int × Int) (l:List (Int × Int)):oL A B p l [] 0:=
 ⟨trivial,fun e he=>by simp at he,zo,fun b hb=>zo,.inl ⟨rfl,rfl⟩⟩
theorem oL.mono {A B:Table} {p:Int × Int} {l l':List (Int × Int)} {es:List Ed} {c:Nat} (h:oL A B p l es c) (hp:l <+: l'):oL A B p l' es c:=by
 refine ⟨pX hp.length_le h.wf,h.hi,h.le,fun b hb=>?_,h.last⟩;obtain⟨t,h1,h2⟩:=h.step b hb;obtain⟨x,rfl⟩:=hp;exact⟨t,h1,by rw[List.getElem?_append_left (List.getElem?_eq_some_iff.1 h2).1];exact h2⟩
theorem oL.seg {A B:Table} {p:Int × Int} {l:List (Int × Int)} {es:List Ed} {c h t:Nat} (H:oL A B p l es c) (hch:c≤h) (h256:h<256) (ht:l[t]?=some (kV A B p c))
 (hs:∀b,c≤b→b≤h→kV A B p b=kV A B p c):oL A B p l (es ++ [⟨c,h,t⟩]) (h+1):=by
 have htl:=(List.getElem?_eq_some_iff.1 ht).1;refine ⟨oM (q:=(c:Int) - 1) H.wf (fun e he=>by have:=H.hi e he;omega) zo ⟨hch,zS,by simpa using htl,by show (c:Int) - 1<(c:Int);omega,trivial⟩,?_,zo,fun b hb=>?_,.inr ⟨es,_,rfl,rfl⟩⟩
 ·intro e he;rcases List.mem_append.1 he with h1 | h1
  ·have:=H.hi e h1;omega
  ·simp only[List.mem_singleton] at h1;subst h1;exact Nat.lt_succ_self _
 ·by_cases hbc:b<c
  ·obtain⟨s,h1,h2⟩:=H.step b hbc;refine ⟨s,?_,h2⟩;rw[← h1];by_cases d:∃e∈es,e.lo≤b∧b≤e.hi
   ·exact jd _ _ _ d
   ·have d':∀e∈es,¬ (e.lo≤b∧b≤e.hi):=fun e he hh=>d ⟨e,he,hh⟩;rw[rA _ _ d'] at h1;omega
  ·refine ⟨t,?_,by rw[hs b zo zo];exact ht⟩;rw[jR _ _ _ (fun e he=>by have:=H.hi e he;omega)];simp only[bu];rw[if_pos ⟨zo,zo⟩]
theorem oL.widen {A B:Table} {p:Int × Int} {l:List (Int × Int)} {fs:List Ed} {e:Ed} {c:Nat} (H:oL A B p l (fs ++ [e]) c) (hc:e.hi+1=c) (h256:c<256)
 (hs:kV A B p c=kV A B p (c - 1)):oL A B p l (fs ++ [⟨e.lo,c,e.to⟩]) (c+1):=by
 have hl:=wN H.wf;have he:=fO H.wf e zS;refine ⟨oM (q:=(e.lo:Int) - 1) (tV H.wf) (fun x hx=>by have:=hl x hx;omega) zo ⟨by show e.lo≤c;omega,he.2.2.1,he.2.2.2,by show (e.lo:Int) - 1<(e.lo:Int);omega,trivial⟩,?_,zo,fun b hb=>?_,.inr ⟨fs,_,rfl,rfl⟩⟩
 ·intro x hx;rcases List.mem_append.1 hx with h1 | h1
  ·have:=H.hi x (by simp[h1]);omega
  ·simp only[List.mem_singleton] at h1;subst h1;exact Nat.lt_succ_self _
 ·have key:∀b,b≤c - 1→bu (fs ++ [⟨e.lo,c,e.to⟩]) b=bu (fs ++ [e]) b:=by
   intro b hb;by_cases d:∃x∈fs,x.lo≤b∧b≤x.hi
   ·rw[jd _ _ _ d,jd _ _ _ d]
   ·have d':∀x∈fs,¬ (x.lo≤b∧b≤x.hi):=fun x hx hh=>d ⟨x,hx,hh⟩;rw[jR _ _ _ d',jR _ _ _ d'];simp only[bu];by_cases f:e.lo≤b
    ·rw[if_pos zo,if_pos zo]
    ·rw[if_neg zo,if_neg zo]
  by_cases hbc:b<c
  ·rw[key b zo];exact H.step b hbc
  ·obtain rfl:b=c:=zo;obtain⟨t,h1,h2⟩:=H.step (b - 1) zo;refine ⟨t,?_,by rw[hs];exact h2⟩;have hne:∀x∈fs,¬ (x.lo≤b - 1∧b - 1≤x.hi):=fun x hx=>by have:=hl x hx;omega
   have hne2:∀x∈fs,¬ (x.lo≤b∧b≤x.hi):=fun x hx=>by have:=hl x hx;omega
   rw[jR _ _ _ hne] at h1;simp only[bu] at h1;rw[if_pos zo] at h1;rw[jR _ _ _ hne2];simp only[bu];rw[if_pos zo];exact h1
structure jE (A B:Table) (op:Bool→Bool→Bool) (st:Int × Int) (l:List (Int × Int)) (out:Table):Prop where
 first:l[0]?=some st
 nodup:l.Nodup
 rng:∀q∈l,(-1≤q.1∧q.1≤A.length)∧(-1≤q.2∧q.2≤B.length)
 le:out.length≤l.length
 state:∀j,(h:j<out.length)→∀p,l[j]?=some p→(out[j]).accept=op (bG A p.1) (bG B p.2)∧oL A B p l (out[j]).edges 256
theorem mG {a b:Nat} {l:List (Int × Int)} (hn:l.Nodup) (hr:∀q∈l,(-1≤q.1∧q.1≤a)∧(-1≤q.2∧q.2≤b)):l.length≤(a+2)*(b+2):=by
 have:=lK l ((List.range (a+2)).flatMap fun (i:Nat)=>(List.range (b+2)).map fun (j:Nat)=>((i:Int) - 1,(j:Int) - 1)) hn (fun q hq=>by
  have:=hr q hq;obtain⟨q1,q2⟩:=q;simp only at this;rw[List.mem_flatMap];refine ⟨(q1+1).toNat,List.mem_range.2 zo,List.mem_map.2 ⟨(q2+1).toNat,List.mem_range.2 zo,?_⟩⟩;simp only[Prod.mk.injEq];omega)
 refine Nat.le_trans this ?_;generalize a+2=x;generalize b+2=y;clear this hr
 induction x with
 | zero=>simp
 | succ x ih=>rw[List.range_succ,List.flatMap_append,List.length_append,Nat.succ_mul];simp at ih ⊢;exact ih
theorem BC {A B:Table} {op:Bool→Bool→Bool} {st:Int × Int} (h:(-1≤st.1∧st.1≤A.length)∧(-1≤st.2∧st.2≤B.length)):jE A B op st [st] []:=
 ⟨rfl,zS,fun q hq=>by simp only[List.mem_singleton] at hq;subst hq;exact h,zS,fun j hj=>by simp at hj⟩
theorem jE.grow {A B:Table} {op:Bool→Bool→Bool} {st:Int × Int} {l:List (Int × Int)} {out:Table} (h:jE A B op st l out) {q:Int × Int} (hq:q ∉ l)
 (hr:(-1≤q.1∧q.1≤A.length)∧(-1≤q.2∧q.2≤B.length)):jE A B op st (l ++ [q]) out:=by
 have h0:0<l.length:=by
  have:=h.first
  cases l with
  | nil=>simp at this
  | cons _ _=>simp
 refine ⟨by rw[List.getElem?_append_left h0];exact h.first,?_,?_,by have:=h.le;simp;omega,fun j hj p hp=>?_⟩
 ·exact List.nodup_append.2 ⟨h.nodup,zS,fun a ha b hb e=>by simp only[List.mem_singleton] at hb;subst hb;exact hq (e ▸ ha)⟩
 ·intro x hx;rcases List.mem_append.1 hx with h1 | h1
  ·exact h.rng x h1
  ·simp only[List.mem_singleton] at h1;subst h1;exact hr
 ·have hj':j<l.length:=by have:=h.le;omega
  rw[List.getElem?_append_left hj'] at hp;obtain⟨h1,h2⟩:=h.state j hj p hp;exact⟨h1,h2.mono (List.prefix_append _ _)⟩
theorem jE.push {A B:Table} {op:Bool→Bool→Bool} {st:Int × Int} {l:List (Int × Int)} {out:Table} (h:jE A B op st l out) {p:Int × Int} (hp:l[out.length]?=some p) {es:List Ed}
 (hc:oL A B p l es 256):jE A B op st l (out ++ [⟨op (bG A p.1) (bG B p.2),es⟩]):=by
 refine ⟨h.first,h.nodup,h.rng,by have:=(List.getElem?_eq_some_iff.1 hp).1;simp;omega,fun j hj q hq=>?_⟩;by_cases c:j<out.length
 ·rw[List.getElem_append_left c];exact h.state j c q hq
 ·have:j=out.length:=by simp at hj;omega
  subst this;rw[hp] at hq;cases hq;have eg:(out ++ [⟨op (bG A p.1) (bG B p.2),es⟩])[out.length]'hj=⟨op (bG A p.1) (bG B p.2),es⟩:=by simp
  rw[eg];exact⟨rfl,hc⟩
theorem jE.done {A B:Table} {op:Bool→Bool→Bool} {st:Int × Int} {l:List (Int × Int)} {out:Table} (h:jE A B op st l out) (_:op false false=false) (he:out.length=l.length) :
 WF out∧Bytes out∧out.length≤(A.length+2)*(B.length+2)∧0<out.length∧∀w,aJ out 0 w=op (aJ A st.1 w) (aJ B st.2 w):=by
 have h0:0<l.length:=by
  have:=h.first
  cases l with
  | nil=>simp at this
  | cons _ _=>simp
 have hlang:∀(w:List UInt8),∀(j:Nat) (p:Int × Int),l[j]?=some p→aJ out j w=op (aJ A p.1 w) (aJ B p.2 w):=by
  intro w
  induction w with
  | nil=>
   intro j p hp;have hj:=(List.getElem?_eq_some_iff.1 hp).1;simp only[aJ];rw[gG out j zo]
   exact (h.state j zo p hp).1
  | cons b w ih=>
   intro j p hp;have hj:=(List.getElem?_eq_some_iff.1 hp).1;simp only[aJ];rw[dY out j _ zo];obtain⟨t,h1,h2⟩:=(h.state j zo p hp).2.step b.toNat b.toNat_lt;rw[h1];exact ih t _ h2
 refine ⟨?_,?_,by rw[he];exact mG h.nodup h.rng,zo,fun w=>hlang w 0 st h.first⟩
 ·intro s hs;obtain⟨j,hj,rfl⟩:=List.mem_iff_getElem.1 hs;rw[he];exact (h.state j hj _ (List.getElem?_eq_getElem zo)).2.wf
 ·intro s hs;obtain⟨j,hj,rfl⟩:=List.mem_iff_getElem.1 hs;have:=(h.state j hj _ (List.getElem?_eq_getElem zo)).2;intro e he';have h1:=this.hi e he';have h2:=(fO this.wf e he').2.1;omega
end Cl
namespace Cl
theorem Mg (l:Table) (n:Nat) {s:Int} (h:s<0):wex l n s=[]:=by
 cases hx:wex l n s with
 | nil=>rfl
 | cons a r=>
  have:=((kW l n s a).1 (by rw[hx];simp)).2;rw[dD h] at this;cases this
def xM (l:Table) (n:Nat) (t:Int) (b:Nat):List (List UInt8):=(wex l n t).map (UInt8.ofNat b::·)
def edW (l:Table) (n:Nat) (t:Int) (lo cnt:Nat):List (List UInt8):=(List.range' lo cnt).flatMap (xM l n t)
theorem Jy (l:Table) (n:Nat) (t:Int) (lo:Nat):edW l n t lo 0=[]:=rfl
theorem Di (l:Table) (n:Nat) (t:Int) (lo cnt:Nat):edW l n t lo (cnt+1)=edW l n t lo cnt ++ xM l n t (lo+cnt):=by
 unfold edW;rw[List.range'_concat,List.flatMap_append];simp
theorem Il {l:Table} {n:Nat} {t:Int} (h:wex l n t=[]) (lo cnt:Nat):edW l n t lo cnt=[]:=by
 unfold edW xM;rw[h];simp
def esW (l:Table) (n:Nat) (es:List Ed):List (List UInt8):=es.flatMap fun e=>edW l n e.to e.lo (e.hi+1 - e.lo)
theorem uR (l:Table) (n:Nat) (es:List Ed) {i:Nat} (h:i<es.length):esW l n (es.take (i+1))=esW l n (es.take i) ++ edW l n (es[i]).to (es[i]).lo ((es[i]).hi+1 - (es[i]).lo):=by
 unfold esW;rw[List.take_succ_eq_append_getElem h,List.flatMap_append];simp
theorem flatMap_nil {α β:Type} {f:α→List β}:∀{l:List α},(∀x∈l,f x=[])→l.flatMap f=[]
 | [],_=>rfl
 | a::l,h=>by rw[List.flatMap_cons,h a zS,flatMap_nil fun x hx=>h x (by simp[hx])];rfl
theorem mo {α β:Type} {f g:α→List β}:∀{l:List α},(∀x∈l,f x=g x)→l.flatMap f=l.flatMap g
 | [],_=>rfl
 | a::l,h=>by rw[List.flatMap_cons,List.flatMap_cons,h a zS,mo fun x hx=>h x (by simp[hx])]
theorem Oi {l:Table} {n N:Nat}:∀(es:List Ed) (q:Nat),bQ N ((q:Int) - 1) es→gQ es→q≤256 →
 (List.range' q (256 - q)).flatMap (fun b=>xM l n (bu es b) b)=esW l n es
 | [],q,_,_,_=>flatMap_nil fun b _=>by
  show (wex l n (-1)).map _=[]
  rw[Mg l n zo];rfl
 | e::es,q,⟨h1,h2,h3,h4,h5⟩,hb,hq=>by
  have hbe:=hb e zS;have e1:List.range' q (256 - q)=List.range' q (e.lo - q) ++ (List.range' e.lo (e.hi+1 - e.lo) ++ List.range' (e.hi+1) (256 - (e.hi+1))):=by
   have a1:List.range' e.lo (256 - e.lo)=List.range' e.lo (e.hi+1 - e.lo) ++ List.range' (e.hi+1) (256 - (e.hi+1)):=by
    have:=List.range'_append_1 (s:=e.lo) (m:=e.hi+1 - e.lo) (n:=256 - (e.hi+1));rw[show e.lo+(e.hi+1 - e.lo)=e.hi+1 by omega] at this;rw[this];congr 1;omega
   have a2:=List.range'_append_1 (s:=q) (m:=e.lo - q) (n:=256 - e.lo);rw[show q+(e.lo - q)=e.lo by omega] at a2;rw[← a1,a2];congr 1;omega
  rw[e1,List.flatMap_append,List.flatMap_append];rw[flatMap_nil (l:=List.range' q (e.lo - q)) fun b hb'=>by
   have hr:=List.mem_range'_1.1 hb';have:bu (e::es) b = -1:=rA _ _ fun x hx hh=>by
    rcases List.mem_cons.1 hx with rfl | hx
    ·omega
    ·have:=(fO h5 x hx).1;omega
   show (wex l n _).map _=[];rw[this,Mg l n zo];rfl]
  rw[mo (l:=List.range' e.lo (e.hi+1 - e.lo)) (g:=xM l n e.to) fun b hb'=>by
   have hr:=List.mem_range'_1.1 hb';show xM l n (bu (e::es) b) b=_;simp only[bu];rw[if_pos ⟨zo,zo⟩]]
  rw[mo (l:=List.range' (e.hi+1) (256 - (e.hi+1))) (g:=fun b=>xM l n (bu es b) b) fun b hb'=>by
   have hr:=List.mem_range'_1.1 hb';show xM l n (bu (e::es) b) b=_;simp only[bu];rw[if_neg zo]]
  rw[Oi es (e.hi+1) (by rw[show (((e.hi+1:Nat):Int) - 1)=(e.hi:Int) by omega];exact h5) (fun x hx=>hb x (by simp[hx])) zo]
  rfl
theorem Gg {l:Table} (hw:WF l) (hb:Bytes l) {s:Nat} (hs:s<l.length) (n:Nat):wex l (n+1) (s:Int)=esW l n (l[s]).edges:=by
 have h:=Oi (l:=l) (n:=n) (l[s]).edges 0 (by have:=hw l[s] (List.getElem_mem hs);simpa using this) (hb l[s] (List.getElem_mem hs)) zo;rw[← h];unfold wex;rw[List.range_eq_range'];exact mo fun b _=>by rw[dY l s b hs];rfl
def canN (l:Table) (n:Nat):List Bool:=(List.range l.length).map fun (s:Nat) => !(wex l n (s:Int)).isEmpty
theorem uZ (l:Table) (n:Nat):(canN l n).length=l.length:=by simp[canN]
theorem pG (l:Table) (n:Nat) {s:Nat} (h:s<l.length):(canN l n)[s]?=some (!(wex l n (s:Int)).isEmpty):=by simp[canN,h]
theorem FZ (l:Table):canN l 0=l.map (·.accept):=by
 apply List.ext_getElem
 ·simp[canN]
 ·intro i h1 h2;have hi:i<l.length:=by simpa using h2
  simp only[canN,List.getElem_map,List.getElem_range];unfold wex;rw[gG l i hi];cases (l[i]).accept <;> rfl
theorem FC {l:Table} {n:Nat} {es:List Ed} {N:Nat} {p:Int} (hw:bQ N p es):(esW l n es=[])↔∀e∈es,wex l n e.to=[]:=by
 constructor
 ·intro h e he;have h1:=fO hw e he;unfold esW at h;have h2:=List.flatMap_eq_nil_iff.1 h e he;unfold edW at h2;have h3:=List.flatMap_eq_nil_iff.1 h2 e.lo (List.mem_range'_1.2 ⟨Nat.le_refl _,zo⟩);exact List.map_eq_nil_iff.1 h3
 ·intro h;exact flatMap_nil fun e he=>Il (h e he) _ _
theorem Ag {l:Table} (hw:WF l) (hb:Bytes l) (n:Nat):canN l (n+1)=l.map fun s=>s.edges.any fun e=>(canN l n).getD e.to.toNat false:=by
 apply List.ext_getElem
 ·simp[canN]
 ·intro i h1 h2;have hi:i<l.length:=by simpa using h2
  have e1:(canN l (n+1))[i] = !(wex l (n+1) (i:Int)).isEmpty:=by simp[canN]
  rw[e1,List.getElem_map,Gg hw hb hi,Bool.eq_iff_iff];have hwi:=hw l[i] (List.getElem_mem hi);have key:∀e∈(l[i]).edges,(canN l n).getD e.to.toNat false=true↔wex l n e.to≠[]:=by
   intro e he;have:=fO hwi e he;rw[List.getD_eq_getElem?_getD,pG l n zo,Option.getD_some,Int.toNat_of_nonneg this.2.2.1];simp
  rw[List.any_eq_true];constructor
  ·intro h;have hne:¬ (esW l n (l[i]).edges=[]):=by simpa using h
   rw[FC hwi] at hne;apply Classical.byContradiction;intro hc;exact hne fun e he=>Classical.byContradiction fun hx=>hc ⟨e,he,(key e he).2 hx⟩
  ·rintro ⟨e,he,hx⟩;have:=(key e he).1 hx;have hne:¬ (esW l n (l[i]).edges=[]):=fun h=>this ((FC hwi).1 h e he);simpa using hne
theorem LK {l:Table} (h:Canon l):∀t,t<l.length→∃u,yG l 0 u=t:=by
 intro t
 induction t using Nat.strongRecOn with
 | _ t ih=>
  intro ht;by_cases h0:t=0
  ·exact⟨[],by rw[h0];rfl⟩
  ·obtain⟨k,b,hk,hb,hs⟩:=h.reach t zo ht;obtain⟨u,hu⟩:=ih k hk zo;obtain⟨c,hc⟩:=byteOf b hb;refine ⟨u ++ [c],?_⟩;have:∀(u v:List UInt8) (s:Int),yG l s (u ++ v)=yG l (yG l s u) v:=by
    intro u v
    induction u with
    | nil=>intro s;rfl
    | cons a u ih=>intro s;exact ih _
   rw[this,hu];show bL l k c.toNat=t;rw[hc];exact hs
theorem LP {l:Table} (h:Canon l) {K n:Nat} (hK:(enum l 0 n).length<K) (hn:K*l.length<n):canN l (n - 1)=List.replicate l.length false:=by
 apply List.ext_getElem
 ·simp[canN]
 ·intro i h1 h2;have hi:i<l.length:=by simpa using h2
  simp only[canN,List.getElem_map,List.getElem_range,List.getElem_replicate];rw[Bool.not_eq_false',List.isEmpty_iff];apply Classical.byContradiction;intro hne;obtain⟨y,hy⟩:=List.exists_mem_of_ne_nil _ hne;obtain⟨g1,g2⟩:=(kW _ _ _ _).1 hy;obtain⟨u,hu⟩:=LK h i hi;have hacc:aJ l 0 (u ++ y)=true:=by rw[nC,hu];exact g2
  have:=zU hacc K (by simp;omega);have:=FD (l:=l) (s:=0) (show K*l.length≤n by omega);omega
theorem OV {l:Table} (hw:WF l) (hb:Bytes l) {n:Nat} (h:∀b∈canN l n,b=false):∀m,n≤m→∀b∈canN l m,b=false:=by
 intro m hm
 induction hm with
 | refl=>exact h
 | step _ ih=>
  rw[Ag hw hb];intro b hbm;obtain⟨s,hs,rfl⟩:=List.mem_map.1 hbm;rw[Bool.eq_false_iff];intro hx;obtain⟨e,he,hx⟩:=List.any_eq_true.1 hx;rw[List.getD_eq_getElem?_getD] at hx
  cases hg:(canN l _)[e.to.toNat]? with
  | none=>rw[hg] at hx;simp at hx
  | some b=>
   rw[hg] at hx;have:=ih b (List.mem_of_getElem? hg);rw[this] at hx;simp at hx
theorem Oj {l:Table} (hw:WF l) (hb:Bytes l) {n:Nat} (h:∀b∈canN l n,b=false):∀y,aJ l 0 y=true→y.length<n:=by
 intro y hy;apply Classical.byContradiction;intro hn;have h1:=OV hw hb h y.length zo;have hr:=pJ hy;have h0:0<l.length:=zo;have h2:=h1 _ (List.mem_of_getElem? (pG l y.length h0));have h3:y∈wex l y.length ((0:Nat):Int):=(kW _ _ _ _).2 ⟨rfl,hy⟩;rw[Bool.not_eq_false',List.isEmpty_iff] at h2;rw[h2] at h3;simp at h3
end Cl
namespace Cl
def cb (A:Table) (s n:Nat):Bool := !(wex A n (s:Int)).isEmpty
def f1 (A:Table) (s n:Nat):Bool:=decide (n=0)&&cb A s 0
def f2 (A:Table) (k s n:Nat):Bool:=decide (n<k)&&cb A s n
def f3 (A:Table) (k t s n:Nat):Bool:=decide (n<k∨n=k∧s<t)&&cb A s n
def f4 (A:Table) (k t:Nat) (es:List Ed) (s n:Nat):Bool:=f3 A k t s n || (decide (n=k∧s=t)&&es.any fun e=>cb A e.to.toNat (k - 1))
end Cl
