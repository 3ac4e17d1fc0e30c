/- Lemmas for the proofs of chapter 11. -/
import Derived.Test.YtdgjplfcpcphoaaGreatDoorProg
import Derived.BigQuiet
import Derived.Deep.Cut
import Derived.Deep.QuietTactic
import Derived.Laws.StructEq
import Derived.Lib.AppendStr
import Derived.Lib.Builder
import Derived.Lib.Hide
import Derived.Lib.ItoaLen
import Derived.Maps.OwnOps
import Derived.Maps.OwnSet
import Derived.OrdersHeld
import Derived.Outline
import Derived.StillTailTactics
import Derived.StringKeys
import Derived.WalkKit
import Derived.WalkLawsBesides
import Derived.WalkSpells
import Derived.Deep.RegionHeld
import Derived.Shelf.Strings.Builder1
import Derived.Shelf.Small.Wraps
import Derived.Shelf.LaysM
import Derived.Shelf.Strconv.Itoa3
import Derived.Test.YtdgjplfcpcphoaaGreatDoorZz
import Derived.Test.YtdgjplfcpcphoaaGreatDoorPkX3
import Derived.Test.YtdgjplfcpcphoaaGreatDoorPkX5
import Derived.Test.YtdgjplfcpcphoaaGreatDoorPkX1
import Derived.Test.YtdgjplfcpcphoaaGreatDoorPkX2
import Derived.Test.YtdgjplfcpcphoaaGreatDoorPkX4
import Derived.Test.YtdgjplfcpcphoaaGreatDoorPkX6
import Derived.Test.YtdgjplfcpcphoaaGreatDoorPkX9
set_option maxRecDepth 100000
set_option maxHeartbeats 16000000
namespace Cl
open Go Go.RowKit Go.Proofs
theorem nD.congr {T:Table} {N:Nat} {cf:Nat→Int} {dl dl':Nat→Nat→Option Nat} {lo hi:Nat→Nat} {ac ac':Nat→Bool} {K:Nat} (H:nD T N cf dl lo hi ac K)
 (h:∀s i,s<N→i<K→dl' s i=dl s i) (ha:∀s,s<N→ac' s=ac s):nD T N cf dl' lo hi ac' K:=
 ⟨H.iv,H.pos,fun s i t hs hi' he=>H.some s i t hs hi' (by rw[← h s i hs hi'];exact he),fun s i hs hi' he=>H.none s i hs hi' (by rw[← h s i hs hi'];exact he),H.cls,fun s hs=>(ha s hs).trans (H.acc s hs),H.live⟩
noncomputable def pOf (l:Table) (b:Nat):Bool:=tf (cutP l b)
theorem uO (l:Table):bG l 256=(aL (pOf l)).map Int.ofNat:=rfl
theorem pq (l:Table):Marks l (pOf l):=by
 refine ⟨aI (.inl rfl),fun s hs e he b _ h=>aI (.inr ⟨s,hs,e,he,?_⟩)⟩;exact h
theorem pM (l:Table):KW (bG l 256) (loOf (aL (pOf l))) (hiOf (aL (pOf l))):=by
 rw[uO];refine ⟨fun i h=>?_,fun i h=>?_⟩
 ·have h':i<(aL (pOf l)).length:=by simpa using h
  simp[loOf,h']
 ·have h':i<(aL (pOf l)).length:=by simpa using h
  unfold Bb hiOf;by_cases c:i+1<(aL (pOf l)).length
  ·have h1:=gL (show i<i+1 by omega) c;rw[dif_pos (by simpa using c),if_pos c];simp only[List.getElem_map,List.getD_eq_getElem?_getD,c,List.getElem?_eq_getElem,Option.getD_some] at h1 ⊢;have:((aL (pOf l))[i+1] - 1:Nat)=(((aL (pOf l))[i+1]:Nat):Int) - 1:=zo;rw[this];rfl
  ·rw[dif_neg (by simpa using c),if_neg c];rfl
theorem mF (l:Table):(bG l 256).length=(aL (pOf l)).length:=by rw[uO,List.length_map]
def dY (l:Table) (cuts:List Int):List (List Int):=mG l cuts ++ [cuts.map fun _=>(l.length:Int)]
theorem jl (l:Table) (cuts:List Int):(dY l cuts).length=l.length+1:=by simp[dY,mG]
theorem jc {l:Table} (_:WF l) {s i:Nat} (hs:s<l.length+1) (hi:i<(aL (pOf l)).length) :
 taN (dY l (bG l 256)) s i=snk l.length (aW l s (loOf (aL (pOf l)) i)):=by
 have hi2:i<(bG l 256).length:=by rw[mF];exact hi
 have hc:=(pM l).lo i hi2;unfold taN nx;by_cases c:s<l.length
 ·have e1:(dY l (bG l 256)).getD s []=kD l.length (bG l 256) (l[s]).edges:=by
   unfold dY mG;rw[List.getD_eq_getElem?_getD,List.getElem?_append_left (by simpa using c)];simp[c]
  rw[e1];have e2:(kD l.length (bG l 256) (l[s]).edges).getD i 0=goTo l.length (l[s]).edges ((bG l 256)[i]):=by simp[kD,hi2]
  rw[e2,hc,bV l s _ c];simp[goTo,snk]
 ·have:s=l.length:=zo;subst this;have e1:(dY l (bG l 256)).getD l.length []=(bG l 256).map fun _=>(l.length:Int):=by
   unfold dY;rw[List.getD_eq_getElem?_getD,List.getElem?_append_right (by simp[mG])];simp[mG]
  rw[e1,dB l _ _ (Int.le_refl _)];simp[snk,hi2]
theorem yC {l:Table} (hw:WF l) (hlen:l.length≤1000000) :
 yP l (bG l 256) (dY l (bG l 256)) (l.map (·.accept) ++ [false]) (loOf (aL (pOf l))) (hiOf (aL (pOf l))):=by
 have hl:=jl l (bG l 256);have hT:=BZ hw (pq l);refine ⟨?_,fun s hs=>?_,by simp[hl],fun r hr=>?_,zo,jP l 256,zo⟩
 ·rw[hl,mF];refine ⟨hT.iv,fun s i hs hi=>?_,fun s i hs hi b h1 h2 w=>?_,fun s t i hs ht hi h1 h2=>?_⟩
  ·rw[jc hw hs hi];exact hT.rng s i hs hi
  ·rw[jc hw hs hi];exact hT.step s i hs hi b h1 h2 w
  ·rw[jc hw hs hi] at h1;rw[jc hw ht hi] at h2 ⊢;exact hT.neg s t i hs ht hi h1 h2
 ·rw[hl] at hs;by_cases c:s<l.length
  ·rw[dF l s c,List.getD_eq_getElem?_getD,List.getElem?_append_left (by simpa using c)];simp[c]
  ·have:s=l.length:=zo;subst this;rw[List.getD_eq_getElem?_getD,List.getElem?_append_right zS];have:=dX l (l.length:Int) [] (Int.le_refl _);simp only[aF] at this;simp[this]
 ·rw[hl];unfold dY at hr;rcases List.mem_append.1 hr with h | h
  ·obtain⟨s,hs,rfl⟩:=List.mem_map.1 h;exact⟨by simp[kD],fun x hx=>by have:=pO (hw s hs) _ x hx;omega⟩
  ·simp only[List.mem_singleton] at h;subst h;exact⟨zS,fun x hx=>by obtain⟨y,-,rfl⟩:=List.mem_map.1 hx;omega⟩
theorem Ey {T:Table} {cuts:List Int} {next:List (List Int)} {acc:List Bool} {lo hi:Nat→Nat} (H:yP T cuts next acc lo hi) {cls:List Int} (hc:qR T next.length cls) {s:Nat} (hs:s<next.length) :
 rQ next acc cls (cl cls s)↔Lv T s:=by
 have hrow:∀t,t<next.length→∃r,nx next t=r∧r.length=cuts.length∧(∀x∈r,0≤x∧x<next.length):=fun t ht=>by
  refine ⟨next[t],by simp[nx,ht],H.rows _ (List.getElem_mem ht)⟩
 have hcl:∀a b,a<next.length→b<next.length→cl cls a=cl cls b→NEq T a b:=fun a b ha hb e=>by
  refine (hc.eq a b ha hb).1 ?_;unfold cl at e;have h1:∀t,t<next.length→0≤cls.getD t 0:=fun t ht=>by
   have hl:t<cls.length:=by rw[hc.len];exact ht
   have:=(hc.rng cls[t] (List.getElem_mem hl)).1;simpa [hl] using this
  have:=h1 a ha;have:=h1 b hb;omega
 constructor
 ·intro h;have gen:∀c,rQ next acc cls c→∀t,t<next.length→cl cls t=c→Lv T t:=by
   intro c h
   induction h with
   | acc u hu h=>
    intro t ht e;have hn:=hcl t u ht hu e;refine ⟨[],(hn []).trans ?_⟩;simp only[aF];rw[← H.accs u hu]
    exact h
   | step u hu x hx _ ih=>
    intro t ht e;have hn:=hcl t u ht hu e;obtain⟨r,hr,hrl,hrx⟩:=hrow u hu;rw[hr] at hx;have hxr:=hrx x hx;obtain⟨w,hw⟩:=ih x.toNat zo rfl;obtain⟨i,hi',e2⟩:=List.mem_iff_getElem.1 hx;have hta:taN next u i=x:=by
     unfold taN;rw[hr];simp[hi',e2]
    have hle:=H.ta.iv.le i zo;obtain⟨ub,hub⟩:=byteOf (lo i) zo;refine ⟨ub::w,(hn (ub::w)).trans ?_⟩;simp only[aF];rw[hub,H.ta.step u i hu zo (lo i) (Nat.le_refl _) hle.1 w,hta];have:((x.toNat:Nat):Int)=x:=zo;rw[← this];exact hw
  exact gen _ h s hs rfl
 ·rintro ⟨w,hw⟩
  induction w generalizing s with
  | nil=>
   refine .acc s hs ?_;simp only[aF] at hw;have:=H.accs s hs;unfold bt
   rw[this,hw]
  | cons b w ih=>
   simp only[aF] at hw;obtain⟨i,hi',b1,b2⟩:=H.ta.iv.cover b.toNat b.toNat_lt;rw[H.ta.step s i hs hi' _ b1 b2 w] at hw;obtain⟨r,hr,hrl,hrx⟩:=hrow s hs;have hta:taN next s i=r[i]:=by
    unfold taN;rw[hr];simp[hrl,hi']
   have hxr:=hrx r[i] (List.getElem_mem zo);rw[hta] at hw;have e:((r[i].toNat:Nat):Int)=r[i]:=zo;refine .step s hs r[i] (by rw[hr];exact List.getElem_mem zo) (ih zo ?_);rw[e];exact hw
theorem DI {l:Table} (hw:WF l) (hlen:l.length≤1000000) {cls:List Int} (hc:qR l (dY l (bG l 256)).length cls) {lv:List Bool}
 (hlv:∀c,bt lv c=true↔rQ (dY l (bG l 256)) (l.map (·.accept) ++ [false]) cls c) (h0:bt lv (cl cls 0)=true) :
 nD l (dY l (bG l 256)).length (fun s=>cls.getD s 0) (dlN (dY l (bG l 256)) cls lv) (loOf (aL (pOf l))) (hiOf (aL (pOf l))) (fun s=>(l.map (·.accept) ++ [false]).getD s false) (bG l 256).length:=by
 have H:=yC hw hlen;have hl:=jl l (bG l 256);have hlive:∀s:Nat,s<l.length+1→(bt lv (cls.getD s 0).toNat=true↔Lv l s):=fun s hs=>(hlv _).trans (Ey H hc zo);have h00:Lv l (0:Nat):=(hlive 0 zo).1 h0;rw[hl] at hc ⊢;rw[mF];refine (Bw hw (pq l) hc hlive (ac:=fun s=>(l.map (·.accept) ++ [false]).getD s false) (fun s hs=>H.accs s (by rw[hl];exact hs)) h00).congr (fun s i hs hi=>?_) (fun s hs=>rfl);unfold dlN;rw[jc hw hs hi]
 rfl
theorem Bg {l:Table} (hw:WF l) (hlen:l.length≤1000000) {cls:List Int} (hc:qR l (dY l (bG l 256)).length cls) {lv:List Bool}
 (hlv:∀c,bt lv c=true↔rQ (dY l (bG l 256)) (l.map (·.accept) ++ [false]) cls c) (h0:bt lv (cl cls 0)=false):∀w,aF l 0 w=false:=by
 intro w;have H:=yC hw hlen;have hl:=jl l (bG l 256)
 cases hx:aF l 0 w with
 | false=>rfl
 | true=>
  have:=(hlv _).2 ((Ey H hc (s:=0) zo).2 ⟨w,hx⟩);rw[h0] at this;cases this
theorem MK {n:Nat} {es:List Ed}:∀{p:Int},aV n p es→dZ es → -1≤p→p≤255→(es.length:Int)+p≤255:=by
 induction es with
 | nil=>intro p _ _ h1 h2;simp;exact h2
 | cons e es ih=>
  intro p ⟨h1,h2,h3,h4,h5⟩ hb hp hp2;have hb1:=hb e zS;have:=ih h5 (fun x hx=>hb x (by simp[hx])) zo zo;simp only[List.length_cons];omega
end Cl
