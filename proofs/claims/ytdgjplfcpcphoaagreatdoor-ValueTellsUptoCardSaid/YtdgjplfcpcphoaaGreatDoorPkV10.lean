/- Lemmas for the proofs of chapter 11. -/
import Derived.Test.YtdgjplfcpcphoaaGreatDoorProg
import Derived.BigQuiet
import Derived.Deep.Cut
import Derived.Deep.QuietTactic
import Derived.Laws.StructEq
import Derived.Lib.AppendStr
import Derived.Lib.Builder
import Derived.Lib.Hide
import Derived.Lib.ItoaLen
import Derived.Maps.OwnOps
import Derived.Maps.OwnSet
import Derived.OrdersHeld
import Derived.Outline
import Derived.StillTailTactics
import Derived.StringKeys
import Derived.WalkKit
import Derived.WalkLawsBesides
import Derived.WalkSpells
import Derived.Deep.RegionHeld
import Derived.Shelf.Strings.Builder1
import Derived.Shelf.Small.Wraps
import Derived.Shelf.LaysM
import Derived.Shelf.Strconv.Itoa3
import Derived.Test.YtdgjplfcpcphoaaGreatDoorZz
import Derived.Test.YtdgjplfcpcphoaaGreatDoorPkV3
import Derived.Test.YtdgjplfcpcphoaaGreatDoorPkV5
import Derived.Test.YtdgjplfcpcphoaaGreatDoorPkV1
import Derived.Test.YtdgjplfcpcphoaaGreatDoorPkV2
import Derived.Test.YtdgjplfcpcphoaaGreatDoorPkV4
import Derived.Test.YtdgjplfcpcphoaaGreatDoorPkV6
import Derived.Test.YtdgjplfcpcphoaaGreatDoorPkV9
set_option maxRecDepth 100000
set_option maxHeartbeats 16000000
namespace Cl
open Go Go.RowKit Go.Proofs
theorem mR.congr {T:Table} {N:Nat} {cf:Nat→Int} {dl dl':Nat→Nat→Option Nat} {lo hi:Nat→Nat} {ac ac':Nat→Bool} {K:Nat} (H:mR T N cf dl lo hi ac K)
 (h:∀s i,s<N→i<K→dl' s i=dl s i) (ha:∀s,s<N→ac' s=ac s):mR T N cf dl' lo hi ac' K:=
 ⟨H.iv,H.pos,fun s i t hs hi' he=>H.some s i t hs hi' (by rw[← h s i hs hi'];exact he),fun s i hs hi' he=>H.none s i hs hi' (by rw[← h s i hs hi'];exact he),H.cls,fun s hs=>(ha s hs).trans (H.acc s hs),H.live⟩
noncomputable def pOf (l:Table) (b:Nat):Bool:=tf (cutP l b)
theorem uj (l:Table):bC l 256=(aK (pOf l)).map Int.ofNat:=rfl
theorem oD (l:Table):Marks l (pOf l):=by
 refine ⟨aH (.inl rfl),fun s hs e he b _ h=>aH (.inr ⟨s,hs,e,he,?_⟩)⟩;exact h
theorem oJ (l:Table):Kj (bC l 256) (loOf (aK (pOf l))) (hiOf (aK (pOf l))):=by
 rw[uj];refine ⟨fun i h=>?_,fun i h=>?_⟩
 ·have h':i<(aK (pOf l)).length:=by simpa using h
  simp[loOf,h']
 ·have h':i<(aK (pOf l)).length:=by simpa using h
  unfold Aw hiOf;by_cases c:i+1<(aK (pOf l)).length
  ·have h1:=gD (show i<i+1 by omega) c;rw[dif_pos (by simpa using c),if_pos c];simp only[List.getElem_map,List.getD_eq_getElem?_getD,c,List.getElem?_eq_getElem,Option.getD_some] at h1 ⊢;have:((aK (pOf l))[i+1] - 1:Nat)=(((aK (pOf l))[i+1]:Nat):Int) - 1:=zo;rw[this];rfl
  ·rw[dif_neg (by simpa using c),if_neg c];rfl
theorem l7 (l:Table):(bC l 256).length=(aK (pOf l)).length:=by rw[uj,List.length_map]
def dQ (l:Table) (cuts:List Int):List (List Int):=j6 l cuts ++ [cuts.map fun _=>(l.length:Int)]
theorem ji (l:Table) (cuts:List Int):(dQ l cuts).length=l.length+1:=by simp[dQ,j6]
theorem iX {l:Table} (_:WF l) {s i:Nat} (hs:s<l.length+1) (hi:i<(aK (pOf l)).length) :
 taN (dQ l (bC l 256)) s i=snk l.length (aV l s (loOf (aK (pOf l)) i)):=by
 have hi2:i<(bC l 256).length:=by rw[l7];exact hi
 have hc:=(oJ l).lo i hi2;unfold taN nx;by_cases c:s<l.length
 ·have e1:(dQ l (bC l 256)).getD s []=j5 l.length (bC l 256) (l[s]).edges:=by
   unfold dQ j6;rw[List.getD_eq_getElem?_getD,List.getElem?_append_left (by simpa using c)];simp[c]
  rw[e1];have e2:(j5 l.length (bC l 256) (l[s]).edges).getD i 0=goTo l.length (l[s]).edges ((bC l 256)[i]):=by simp[j5,hi2]
  rw[e2,hc,bP l s _ c];simp[goTo,snk]
 ·have:s=l.length:=zo;subst this;have e1:(dQ l (bC l 256)).getD l.length []=(bC l 256).map fun _=>(l.length:Int):=by
   unfold dQ;rw[List.getD_eq_getElem?_getD,List.getElem?_append_right (by simp[j6])];simp[j6]
  rw[e1,df l _ _ (Int.le_refl _)];simp[snk,hi2]
theorem xU {l:Table} (hw:WF l) (hlen:l.length≤1000000) :
 yo l (bC l 256) (dQ l (bC l 256)) (l.map (·.accept) ++ [false]) (loOf (aK (pOf l))) (hiOf (aK (pOf l))):=by
 have hl:=ji l (bC l 256);have hT:=BB hw (oD l);refine ⟨?_,fun s hs=>?_,by simp[hl],fun r hr=>?_,zo,jK l 256,zo⟩
 ·rw[hl,l7];refine ⟨hT.iv,fun s i hs hi=>?_,fun s i hs hi b h1 h2 w=>?_,fun s t i hs ht hi h1 h2=>?_⟩
  ·rw[iX hw hs hi];exact hT.rng s i hs hi
  ·rw[iX hw hs hi];exact hT.step s i hs hi b h1 h2 w
  ·rw[iX hw hs hi] at h1;rw[iX hw ht hi] at h2 ⊢;exact hT.neg s t i hs ht hi h1 h2
 ·rw[hl] at hs;by_cases c:s<l.length
  ·rw[dG l s c,List.getD_eq_getElem?_getD,List.getElem?_append_left (by simpa using c)];simp[c]
  ·have:s=l.length:=zo;subst this;rw[List.getD_eq_getElem?_getD,List.getElem?_append_right zS];have:=d9 l (l.length:Int) [] (Int.le_refl _);simp only[aF] at this;simp[this]
 ·rw[hl];unfold dQ at hr;rcases List.mem_append.1 hr with h | h
  ·obtain⟨s,hs,rfl⟩:=List.mem_map.1 h;exact⟨by simp[j5],fun x hx=>by have:=oK (hw s hs) _ x hx;omega⟩
  ·simp only[List.mem_singleton] at h;subst h;exact⟨zS,fun x hx=>by obtain⟨y,-,rfl⟩:=List.mem_map.1 hx;omega⟩
theorem DZ {T:Table} {cuts:List Int} {next:List (List Int)} {acc:List Bool} {lo hi:Nat→Nat} (H:yo T cuts next acc lo hi) {cls:List Int} (hc:qh T next.length cls) {s:Nat} (hs:s<next.length) :
 qR next acc cls (cl cls s)↔Lv T s:=by
 have hrow:∀t,t<next.length→∃r,nx next t=r∧r.length=cuts.length∧(∀x∈r,0≤x∧x<next.length):=fun t ht=>by
  refine ⟨next[t],by simp[nx,ht],H.rows _ (List.getElem_mem ht)⟩
 have hcl:∀a b,a<next.length→b<next.length→cl cls a=cl cls b→NEq T a b:=fun a b ha hb e=>by
  refine (hc.eq a b ha hb).1 ?_;unfold cl at e;have h1:∀t,t<next.length→0≤cls.getD t 0:=fun t ht=>by
   have hl:t<cls.length:=by rw[hc.len];exact ht
   have:=(hc.rng cls[t] (List.getElem_mem hl)).1;simpa [hl] using this
  have:=h1 a ha;have:=h1 b hb;omega
 constructor
 ·intro h;have gen:∀c,qR next acc cls c→∀t,t<next.length→cl cls t=c→Lv T t:=by
   intro c h
   induction h with
   | acc u hu h=>
    intro t ht e;have hn:=hcl t u ht hu e;refine ⟨[],(hn []).trans ?_⟩;simp only[aF];rw[← H.accs u hu]
    exact h
   | step u hu x hx _ ih=>
    intro t ht e;have hn:=hcl t u ht hu e;obtain⟨r,hr,hrl,hrx⟩:=hrow u hu;rw[hr] at hx;have hxr:=hrx x hx;obtain⟨w,hw⟩:=ih x.toNat zo rfl;obtain⟨i,hi',e2⟩:=List.mem_iff_getElem.1 hx;have hta:taN next u i=x:=by
     unfold taN;rw[hr];simp[hi',e2]
    have hle:=H.ta.iv.le i zo;obtain⟨ub,hub⟩:=byteOf (lo i) zo;refine ⟨ub::w,(hn (ub::w)).trans ?_⟩;simp only[aF];rw[hub,H.ta.step u i hu zo (lo i) (Nat.le_refl _) hle.1 w,hta];have:((x.toNat:Nat):Int)=x:=zo;rw[← this];exact hw
  exact gen _ h s hs rfl
 ·rintro ⟨w,hw⟩
  induction w generalizing s with
  | nil=>
   refine .acc s hs ?_;simp only[aF] at hw;have:=H.accs s hs;unfold bt
   rw[this,hw]
  | cons b w ih=>
   simp only[aF] at hw;obtain⟨i,hi',b1,b2⟩:=H.ta.iv.cover b.toNat b.toNat_lt;rw[H.ta.step s i hs hi' _ b1 b2 w] at hw;obtain⟨r,hr,hrl,hrx⟩:=hrow s hs;have hta:taN next s i=r[i]:=by
    unfold taN;rw[hr];simp[hrl,hi']
   have hxr:=hrx r[i] (List.getElem_mem zo);rw[hta] at hw;have e:((r[i].toNat:Nat):Int)=r[i]:=zo;refine .step s hs r[i] (by rw[hr];exact List.getElem_mem zo) (ih zo ?_);rw[e];exact hw
theorem Dh {l:Table} (hw:WF l) (hlen:l.length≤1000000) {cls:List Int} (hc:qh l (dQ l (bC l 256)).length cls) {lv:List Bool}
 (hlv:∀c,bt lv c=true↔qR (dQ l (bC l 256)) (l.map (·.accept) ++ [false]) cls c) (h0:bt lv (cl cls 0)=true) :
 mR l (dQ l (bC l 256)).length (fun s=>cls.getD s 0) (dlN (dQ l (bC l 256)) cls lv) (loOf (aK (pOf l))) (hiOf (aK (pOf l))) (fun s=>(l.map (·.accept) ++ [false]).getD s false) (bC l 256).length:=by
 have H:=xU hw hlen;have hl:=ji l (bC l 256);have hlive:∀s:Nat,s<l.length+1→(bt lv (cls.getD s 0).toNat=true↔Lv l s):=fun s hs=>(hlv _).trans (DZ H hc zo);have h00:Lv l (0:Nat):=(hlive 0 zo).1 h0;rw[hl] at hc ⊢;rw[l7];refine (A9 hw (oD l) hc hlive (ac:=fun s=>(l.map (·.accept) ++ [false]).getD s false) (fun s hs=>H.accs s (by rw[hl];exact hs)) h00).congr (fun s i hs hi=>?_) (fun s hs=>rfl);unfold dlN;rw[iX hw hs hi]
 rfl
theorem AO {l:Table} (hw:WF l) (hlen:l.length≤1000000) {cls:List Int} (hc:qh l (dQ l (bC l 256)).length cls) {lv:List Bool}
 (hlv:∀c,bt lv c=true↔qR (dQ l (bC l 256)) (l.map (·.accept) ++ [false]) cls c) (h0:bt lv (cl cls 0)=false):∀w,aF l 0 w=false:=by
 intro w;have H:=xU hw hlen;have hl:=ji l (bC l 256)
 cases hx:aF l 0 w with
 | false=>rfl
 | true=>
  have:=(hlv _).2 ((DZ H hc (s:=0) zo).2 ⟨w,hx⟩);rw[h0] at this;cases this
end Cl
namespace Cl
theorem Ef (o:List Nat) (t:Nat):eD o t≤o.length:=lQ _ _ _
theorem Gj {o:List Nat} {t q:Nat} (h:q≤eD o t) (hq:q<o.length):if o[q]=t then q=eD o t else q+1≤eD o t:=by
 split
 ·rename_i e;apply Classical.byContradiction;intro hne;have:=List.not_of_lt_findIdx (p:=fun (s:Nat)=>((s:Int)==(t:Int))) (xs:=o) (i:=q) (by
   have:q<eD o t:=zo;exact this)
  simp[e] at this
 ·rename_i e;apply Classical.byContradiction;intro hne;have h2:q=eD o t:=zo;have hp:eD o t<o.length:=zo;have:=kX (cf:=fun s=>(s:Int)) (o:=o) (t:=t) hp;have h3:((o[eD o t]:Nat):Int)=(t:Int):=this;apply e;subst h2;omega
def kF (o:List Nat) (t:Nat):List Nat:=if eD o t<o.length then o else o ++ [t]
theorem Js (o:List Nat) (t:Nat):o <+: kF o t:=vO _ o t
theorem Ju (o:List Nat) (t:Nat):t∈kF o t:=by
 unfold kF
 split
 ·rename_i h;have h2:((o[eD o t]:Nat):Int)=(t:Int):=kX (cf:=fun s=>(s:Int)) h;have:o[eD o t]=t:=zo;rw[← this];exact List.getElem_mem h
 ·simp
theorem Cy {o:List Nat} {t:Nat} (h:o.Nodup):(kF o t).Nodup:=qC (JR (cf:=fun s=>(s:Int)) t (N8 h))
theorem K7 {o:List Nat} {t n:Nat} (h:∀x∈o,x<n) (ht:t<n):∀x∈kF o t,x<n:=by
 intro x hx;rcases vP (cf:=fun s=>(s:Int)) x hx with h1 | h1
 ·exact h x h1
 ·subst h1;exact ht
theorem Jt (o:List Nat) (t:Nat):eD (kF o t) t=eD o t:=(lS (fun s=>(s:Int)) o t).1
theorem tJ {o:List Nat} {t:Nat} (h:t∈o):eD o t<o.length:=(lg h).1
theorem Jr {o o':List Nat} (h:o <+: o') {t:Nat} (ht:t∈o):eD o' t=eD o t:=Cb h (tJ ht)
theorem sQ {o:List Nat} {n:Nat} (h:o.Nodup) (hl:∀x∈o,x<n):o.length≤n:=by
 have:=gJ o (List.range n) h (fun x hx=>List.mem_range.2 (hl x hx));simpa using this
def renE (o:List Nat) (es:List Ed):List Ed:=es.map fun e=>⟨e.lo,e.hi,(eD o e.to.toNat:Int)⟩
theorem DC {o o':List Nat} (h:o <+: o') {es:List Ed} (hm:∀e∈es,e.to.toNat∈o):renE o' es=renE o es:=by
 apply List.map_congr_left;intro e he;rw[Jr h (hm e he)]
structure InR (l:Table) (o:List Nat) (es:List Ed) (j:Nat) (o':List Nat):Prop where
 pre:o <+: o'
 nodup:o'.Nodup
 lt:∀x∈o',x<l.length
 mem:∀e∈es.take j,e.to.toNat∈o'
theorem Jq {l:Table} {o:List Nat} {k:Nat} (h:ky l o k) (es:List Ed):InR l o es 0 o:=⟨List.prefix_rfl,h.nodup,h.lt,fun e he=>by simp at he⟩
theorem K6 {l:Table} {o o':List Nat} {es:List Ed} {j:Nat} (h:InR l o es j o') (hj:j<es.length) (ht:(es[j]).to.toNat<l.length) :
 InR l o es (j+1) (kF o' (es[j]).to.toNat)∧renE (kF o' (es[j]).to.toNat) (es.take (j+1))=renE o' (es.take j) ++ [⟨(es[j]).lo,(es[j]).hi,(eD o' (es[j]).to.toNat:Int)⟩]:=by
 have hp:=Js o' (es[j]).to.toNat;refine ⟨⟨h.pre.trans hp,Cy h.nodup,K7 h.lt ht,fun e he=>?_⟩,?_⟩
 ·rw[List.take_succ_eq_append_getElem hj] at he;rcases List.mem_append.1 he with h1 | h1
  ·exact hp.subset (h.mem e h1)
  ·simp only[List.mem_singleton] at h1;subst h1;exact Ju _ _
 ·rw[List.take_succ_eq_append_getElem hj];unfold renE;rw[List.map_append];have:=DC hp (es:=es.take j) h.mem;unfold renE at this;rw[this];simp[Jt]
theorem BO {l:Table} (h:0<l.length):ky l [0] 0:=⟨rfl,zS,fun x hx=>by simp at hx;omega,zS,fun j hj=>zo⟩
theorem Fs {l:Table} {o o':List Nat} {k:Nat} (h:ky l o k) (hk:k<o.length) {s:Sn} (hs:l[o[k]]?=some s) (H:InR l o s.edges s.edges.length o') :
 ky l o' (k+1)∧fE l o' (k+1)=fE l o k ++ [⟨s.accept,renE o' s.edges⟩]:=by
 have hlen:=H.pre.length_le;have hmem:∀e∈s.edges,e.to.toNat∈o':=by have:=H.mem;rwa [List.take_length] at this
 refine ⟨⟨?_,H.nodup,H.lt,zo,fun j hj hj' t ht e he=>?_⟩,?_⟩
 ·obtain⟨x,hx⟩:=H.pre;rw[← hx,List.getElem?_append_left zo];exact h.first
 ·have hjo:j<o.length:=zo;have e1:=sM H.pre hjo;rw[e1] at ht;by_cases c:j<k
  ·exact H.pre.subset (h.there j c hjo t ht e he)
  ·have:j=k:=zo;subst this;rw[hs] at ht;cases ht;exact hmem e he
 ·have e1:=sM H.pre hk;have ht:o'.take (k+1)=o.take k ++ [o[k]]:=by
   obtain⟨x,hx⟩:=H.pre;rw[← hx,List.take_append_of_le_length zo,List.take_succ_eq_append_getElem hk]
  unfold fE;rw[ht,List.map_append]
  congr 1
  ·apply List.map_congr_left;intro y hy;obtain⟨j,hj,rfl⟩:=List.mem_iff_getElem.1 hy;have hjk:j<k:=by simp at hj;omega
   simp only[List.getElem_take];have hyl:=h.lt _ (List.getElem_mem (show j<o.length by omega));have e2:l.getD o[j] ⟨false,[]⟩=l[o[j]]:=by simp[hyl]
   rw[e2];unfold MU
   congr 1
   exact DC H.pre (es:=(l[o[j]]).edges) (fun e he=>h.there j hjk zo _ (by simp[hyl]) e he)
  ·have e2:l.getD o[k] ⟨false,[]⟩=s:=by rw[List.getD_eq_getElem?_getD,hs];rfl
   simp only[List.map_cons,List.map_nil,e2]
   rfl
end Cl
namespace Cl
open Go Go.RowKit Go.Proofs
theorem Md {n:Nat} {es:List Ed}:∀{p:Int},aU n p es→dS es → -1≤p→p≤255→(es.length:Int)+p≤255:=by
 induction es with
 | nil=>intro p _ _ h1 h2;simp;exact h2
 | cons e es ih=>
  intro p ⟨h1,h2,h3,h4,h5⟩ hb hp hp2;have hb1:=hb e zS;have:=ih h5 (fun x hx=>hb x (by simp[hx])) zo zo;simp only[List.length_cons];omega
theorem yA {l:Table} (hw:WF l) (hb:Bytes l):∀s∈l,s.edges.length≤256:=fun s hs=>by
 have:=Md (hw s hs) (hb s hs) zo zo;omega
theorem zG {o:List Nat} {cls:List Int} {t:Nat} (ht:t<cls.length) :
 (let r:=firstIdx (fun y=>cls.getD y.toNat 0=cls[t]) (o.map Int.ofNat) 0;if r<0 then ((o.map Int.ofNat).length:Int) else r)=(bZ (fun s=>cls.getD s 0) o t:Nat):=by
 have hct:cls.getD t 0=cls[t]:=by simp[ht]
 rcases jW (fun y=>cls.getD y.toNat 0=cls[t]) (o.map Int.ofNat) 0 with ⟨h1,h2⟩ | ⟨i,h1,h2,h3,h4⟩
 ·simp only[h1];rw[if_pos zo];have hn:¬ bZ (fun s=>cls.getD s 0) o t<o.length:=fun h=>by
   have:=kX (cf:=fun s=>cls.getD s 0) h;exact h2 (Int.ofNat o[bZ (fun s=>cls.getD s 0) o t]) (List.mem_map.2 ⟨_,List.getElem_mem h,rfl⟩) (by rw[← hct];exact this)
  have:=lQ (fun s=>cls.getD s 0) o t;rw[List.length_map];omega
 ·simp only[h2];rw[if_neg zo];have hio:i<o.length:=by simpa using h1
  have:bZ (fun s=>cls.getD s 0) o t=i:=by
   unfold bZ;rw[List.findIdx_eq hio];refine ⟨?_,fun j hj=>?_⟩
   ·have:=h3;simp only[List.getElem_map] at this;exact beq_iff_eq.2 (by show cls.getD o[i] 0=cls.getD t 0;rw[hct];exact this)
   ·have:=h4 j (by simp;omega) hj;simp only[List.getElem_map] at this;exact beq_eq_false_iff_ne.2 (by show cls.getD o[j] 0≠cls.getD t 0;rw[hct];exact this)
  rw[this];simp
theorem yM {R:Table} (hw:WF R) {lv:Nat→Bool} (hlv:∀s:Nat,s<R.length→(lv s=true↔Lv R s)):∀s∈dE R lv,∀e∈s.edges,Lv (dE R lv) e.to:=by
 intro s hs e he;obtain⟨x,hx,rfl⟩:=List.mem_map.1 hs;obtain⟨h1,h2⟩:=List.mem_filter.1 he;have h3:=di (hw x hx) e h1;obtain⟨w,hw'⟩:=(hlv e.to.toNat zo).1 h2;refine ⟨w,?_⟩;rw[rT hw hlv]
 rwa [Int.toNat_of_nonneg h3.2.1] at hw'
def dlT (T:Table) (lo:Nat→Nat) (s i:Nat):Option Nat:=if aV T s (lo i)<0 then none else some (aV T s (lo i)).toNat
theorem xw (o:List Nat):bG o=(o.map Int.ofNat).map (Value.int .i64):=by
 unfold bG;rw[List.map_map]
 rfl
end Cl
namespace Cl
theorem Bo {n:Nat} {es:List Ed}:∀{p:Int},aU n p es→∀e∈es,aS es e.lo=e.to:=by
 induction es with
 | nil=>intro p _ e he;simp at he
 | cons x es ih=>
  intro p ⟨h1,h2,h3,h4,h5⟩ e he;simp only[aS];rcases List.mem_cons.1 he with rfl | he
  ·rw[if_pos ⟨Nat.le_refl _,h1⟩]
  ·have:=(eO h5 e he).1;rw[if_neg zo];exact ih h5 e he
def Mq (l:Table) (out:List Bool) (s:Nat):Prop:=(dP l s=true∨∃st,l[s]?=some st∧∃e∈st.edges,bt out e.to.toNat=true)→bt out s=true
def Dm (l:Table) (out:List Bool):Prop:=∀s,s<l.length→Mq l out s
def Kk (l:Table) (out:List Bool):Prop:=∀s,bt out s=true→Lv l s
theorem uA {l:Table} (_:WF l) {out:List Bool} (h:Dm l out):∀(w:List UInt8) (s:Nat),aF l s w=true→bt out s=true:=by
 intro w
 induction w with
 | nil=>
  intro s hs;simp only[aF] at hs;by_cases c:s<l.length
  ·exact h s c (.inl hs)
  ·have:=d9 l (s:Int) [] zo;simp only[aF] at this
   rw[hs] at this;cases this
 | cons b w ih=>
  intro s hs;simp only[aF] at hs;by_cases c:s<l.length
  ·rw[bP l s _ c] at hs;have h0:0≤aS (l[s]).edges b.toNat:=by
    apply Classical.byContradiction;intro hn;rw[bK zo] at hs;cases hs
   obtain⟨e,he,e2⟩:=Ap h0;refine h s c (.inr ⟨l[s],by simp[c],e,he,?_⟩);apply ih;rw[e2,Int.toNat_of_nonneg h0];exact hs
  ·rw[df l _ _ zo,bK zo] at hs;cases hs
theorem M8 {l:Table} (hw:WF l) (hb:Bytes l) {s:Nat} {st:Sn} (hs:l[s]?=some st) {e:Ed} (he:e∈st.edges) (h:Lv l e.to):Lv l s:=by
 obtain⟨h1,h2⟩:=List.getElem?_eq_some_iff.1 hs;subst h2;obtain⟨w,hw'⟩:=h;obtain⟨u,hu⟩:=byteOf e.lo (hb _ (List.getElem_mem h1) e he).1;refine ⟨u::w,?_⟩;simp only[aF];rw[hu,bP l s _ h1,Bo (hw _ (List.getElem_mem h1)) e he];exact hw'
structure qK (l:Table) (out0 out:List Bool) (i:Nat) (C:List Bool→Prop):Prop where
 len:out.length=l.length
 sound:Kk l out
 keep:out=out0∨out0.count true<out.count true
 stay:Dm l out0→out=out0
 part:out=out0→(∀s,s<i→Mq l out s)∧(C out→bt out i=true)
theorem J5 {l:Table} {out0:List Bool} (h1:out0.length=l.length) (h2:Kk l out0):qK l out0 out0 0 (fun _=>False):=
 ⟨h1,h2,.inl rfl,fun _=>rfl,fun _=>⟨fun s hs=>zo,fun h=>h.elim⟩⟩
theorem uS {out:List Bool}:∀{c:Nat},c<out.length→bt out c=false→(out.set c true).count true=out.count true+1:=by
 induction out with
 | nil=>intro c h;simp at h
 | cons b out ih=>
  intro c h hb
  cases c with
  | zero=>
   simp[bt] at hb;subst hb
   simp
  | succ c=>
   have:=@ih c (by simpa using h) (by simpa [bt] using hb);simp only[List.set_cons_succ,List.count_cons];omega
theorem BI {out:List Bool} {i:Nat} (h:i<out.length):out.set i (bt out i)=out:=by
 rw[kD h];exact List.set_getElem_self _
theorem Ex {l:Table} {out0 out:List Bool} {i:Nat} {C C':List Bool→Prop} (H:qK l out0 out i C) (hi:i<l.length) (b:Bool)
 (hj:b=true→dP l i=true∨∃st,l[i]?=some st∧∃e∈st.edges,bt out e.to.toNat=true) (hl:b=true→Lv l i) (hC:C' out→C out∨b=true) :
 qK l out0 (out.set i (bt out i || b)) i C':=by
 have hil:i<out.length:=by rw[H.len];exact hi
 by_cases hc:bt out i=false∧b=true
 ·obtain⟨h1,h2⟩:=hc;have hcount:=uS hil h1;rw[h1,h2,Bool.false_or];have hle:out0.count true≤out.count true:=by
   rcases H.keep with h | h
   ·rw[h];exact Nat.le_refl _
   ·omega
  refine ⟨by simp[H.len],fun s hs=>?_,.inr zo,fun hcl=>?_,fun e=>?_⟩
  ·by_cases c:s=i
   ·subst c;exact hl h2
   ·refine H.sound s ?_;simpa [bt,List.getElem?_set,show ¬ i=s from fun e=>c e.symm] using hs
  ·have e0:=H.stay hcl;have:=hcl i hi (by rw[← e0];exact hj h2);rw[← e0,h1] at this;cases this
  ·rw[← e] at hle;omega
 ·have e:(bt out i || b)=bt out i:=by
   cases h1:bt out i <;> cases h2:b <;> simp_all
  rw[e,BI hil];refine ⟨H.len,H.sound,H.keep,H.stay,fun e0=>⟨(H.part e0).1,fun hc'=>?_⟩⟩;rcases hC hc' with h | h
  ·exact (H.part e0).2 h
  ·rw[← e,h];simp
theorem LQ {l:Table} {out0 out:List Bool} {i:Nat} {C:List Bool→Prop} (H:qK l out0 out i C) (hi:i<l.length)
 (hC:(dP l i=true∨∃st,l[i]?=some st∧∃e∈st.edges,bt out e.to.toNat=true)→C out):qK l out0 out (i+1) (fun _=>False):=
 ⟨H.len,H.sound,H.keep,H.stay,fun e0=>⟨fun s hs=>by
  by_cases c:s=i
  ·subst c;exact fun h=>(H.part e0).2 (hC h)
  ·exact (H.part e0).1 s zo,fun h=>h.elim⟩⟩
structure oW (l:Table) (out:List Bool) (r:Nat):Prop where
 len:out.length=l.length
 sound:Kk l out
 prog:Dm l out∨r≤out.count true
theorem J6 {l:Table} {out0 out:List Bool} {r:Nat} (H0:oW l out0 r) (H:qK l out0 out l.length (fun _=>False)):oW l out (r+1):=by
 refine ⟨H.len,H.sound,?_⟩;rcases H.keep with h | h
 ·exact .inl fun s hs=>(H.part h).1 s hs
 ·rcases H0.prog with h2 | h2
  ·have:=H.stay h2;rw[this] at h;omega
  ·exact .inr zo
theorem Nv {l:Table} (hw:WF l) {out:List Bool} (H:oW l out l.length):∀s:Nat,s<l.length→(bt out s=true↔Lv l s):=by
 intro s hs;refine ⟨H.sound s,fun h=>?_⟩;obtain⟨w,hx⟩:=h;rcases H.prog with h2 | h2
 ·exact uA hw h2 w s hx
 ·have hc:out.count true=out.length:=Nat.le_antisymm List.count_le_length (by rw[H.len];exact h2);have hall:=List.count_eq_length.1 hc;have hs':s<out.length:=by rw[H.len];exact hs
  rw[kD hs'];exact (hall _ (List.getElem_mem hs')).symm
theorem LP (l:Table):oW l (List.replicate l.length false) 0:=by
 refine ⟨zS,fun s hs=>?_,.inr (Nat.zero_le _)⟩;simp[bt,List.getElem?_replicate] at hs
 split at hs <;> simp at hs
end Cl
