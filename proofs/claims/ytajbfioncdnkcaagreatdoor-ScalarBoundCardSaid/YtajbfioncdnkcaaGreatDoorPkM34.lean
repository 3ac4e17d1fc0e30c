/- Lemmas for the proofs of chapter 11. -/
import Derived.Test.YtajbfioncdnkcaaGreatDoorProg
import Derived.BigQuiet
import Derived.Deep.Cut
import Derived.Deep.QuietTactic
import Derived.Laws.StructEq
import Derived.Lib.AppendStr
import Derived.Lib.Builder
import Derived.Lib.Hide
import Derived.Lib.ItoaLen
import Derived.Maps.OwnOps
import Derived.Maps.OwnSet
import Derived.OrdersHeld
import Derived.Outline
import Derived.StillTailTactics
import Derived.StringKeys
import Derived.WalkKit
import Derived.WalkLawsBesides
import Derived.WalkSpells
import Derived.Deep.RegionHeld
import Derived.Shelf.Strings.Builder1
import Derived.Shelf.Small.Wraps
import Derived.Shelf.LaysM
import Derived.Shelf.Strconv.Itoa3
import Derived.Test.YtajbfioncdnkcaaGreatDoorZz
import Derived.Test.YtajbfioncdnkcaaGreatDoorPkM1
import Derived.Test.YtajbfioncdnkcaaGreatDoorPkM2
import Derived.Test.YtajbfioncdnkcaaGreatDoorPkM3
import Derived.Test.YtajbfioncdnkcaaGreatDoorPkM4
import Derived.Test.YtajbfioncdnkcaaGreatDoorPkM32
import Derived.Test.YtajbfioncdnkcaaGreatDoorPkM8
import Derived.Test.YtajbfioncdnkcaaGreatDoorPkM6
import Derived.Test.YtajbfioncdnkcaaGreatDoorPkM33
import Derived.Test.YtajbfioncdnkcaaGreatDoorPkM7
set_option maxRecDepth 100000
set_option maxHeartbeats 16000000
namespace Cl
theorem PD {T:Table} {N:Nat} {cls:List Int} {many:Nat} (hr:xD T N cls many) (hm:N≤many) (hN:1≤N):wJ T N cls:=by
 rcases hr.cnt with h0 | ⟨h1,h2⟩
 ·omega
 ·have hle:many≤N:=Mr (fun s=>(cls.getD s 0).toNat) fun v hv=>by
   obtain⟨s,hs,e⟩:=h2 v hv;exact⟨s,hs,by rw[e];simp⟩
  have hmN:many=N:=zo;rw[hmN] at h1 h2;refine ⟨hr.len,fun x hx=>?_,fun s t hs ht=>⟨fun he=>?_,hr.coarse s t hs ht⟩⟩
  ·obtain⟨s,hs,rfl⟩:=List.mem_iff_getElem.1 hx;have hs':s<N:=by rw[← hr.len];exact hs
   have a:=hr.rng s hs';have b:=h1 s hs';simp only[List.getD_eq_getElem?_getD,hs,List.getElem?_eq_getElem,Option.getD_some] at *
   exact⟨a.1,b⟩
  ·have:=IW (fun s=>(cls.getD s 0).toNat) (fun v hv=>by
    obtain⟨s,hs,e⟩:=h2 v hv;exact⟨s,hs,by show (cls.getD s 0).toNat=v;rw[e];simp⟩) hs ht (by rw[he])
   subst this;intro w;rfl
end Cl
namespace Cl
theorem Fz {es:List Ed} {b:Nat} (h:0≤bu es b):∃e∈es,e.to=bu es b:=by
 induction es with
 | nil=>simp[bu] at h
 | cons x es ih=>
  simp only[bu] at h ⊢
  split at h
  ·rename_i hc;exact⟨x,zS,by rw[if_pos hc]⟩
  ·rename_i hc;obtain⟨e,he,e2⟩:=ih h;exact⟨e,by simp[he],by rw[if_neg hc];exact e2⟩
def gq (l:Table) (lives:Nat→Bool):Table:=l.map fun s=>⟨s.accept,s.edges.filter fun e=>lives e.to.toNat⟩
theorem FB {n:Nat} {es:List Ed} {lives:Nat→Bool}:∀{p:Int},bQ n p es→∀b,
 bu (es.filter fun e=>lives e.to.toNat) b=if 0≤bu es b∧lives (bu es b).toNat=true then bu es b else -1:=by
 induction es with
 | nil=>intro p _ b;simp[bu]
 | cons e es ih=>
  intro p ⟨h1,h2,h3,h4,h5⟩ b;have ih:=ih h5 b;rw[List.filter_cons];by_cases c:e.lo≤b∧b≤e.hi
  ·have hb:bu es b = -1:=pz h5 zo;simp only[bu,if_pos c]
   split
   ·rename_i hl;rw[if_pos ⟨h2,hl⟩];simp[bu,c]
   ·rename_i hl;rw[if_neg (fun h=>hl h.2),ih,hb];simp
  ·simp only[bu,if_neg c]
   split
   ·simp only[bu,if_neg c];exact ih
   ·exact ih
theorem AC {n:Nat} {es:List Ed} {q:Ed→Bool}:∀{p:Int},bQ n p es→bQ n p (es.filter q):=by
 induction es with
 | nil=>intro p _;trivial
 | cons e es ih=>
  intro p ⟨h1,h2,h3,h4,h5⟩;rw[List.filter_cons]
  split
  ·exact⟨h1,h2,h3,h4,ih h5⟩
  ·exact yj (ih h5) zo
theorem Gl {l:Table} (hw:WF l) (lives:Nat→Bool):WF (gq l lives):=by
 intro s hs;obtain⟨x,hx,rfl⟩:=List.mem_map.1 hs;have:=AC (q:=fun e=>lives e.to.toNat) (hw x hx);simpa [gq] using this
theorem JW {l:Table} (hw:Bytes l) (lives:Nat→Bool):Bytes (gq l lives):=by
 intro s hs;obtain⟨x,hx,rfl⟩:=List.mem_map.1 hs;intro e he;exact hw x hx e (List.mem_filter.1 he).1
theorem Mk {l:Table} (hw:WF l) (lives:Nat→Bool) (s:Nat) (hs:s<l.length) (b:Nat) :
 bL (gq l lives) s b=if 0≤bL l s b∧lives (bL l s b).toNat=true then bL l s b else -1:=by
 rw[dY _ s b (by simpa [gq] using hs),dY l s b hs];simp only[gq,List.getElem_map];exact FB (hw _ (List.getElem_mem hs)) b
theorem yu {l:Table} (hw:WF l) {lives:Nat→Bool} (hl:∀s:Nat,s<l.length→(lives s=true↔Lv l s)):∀(w:List UInt8) (s:Int),aJ (gq l lives) s w=aJ l s w:=by
 have hlen:(gq l lives).length=l.length:=by simp[gq]
 intro w
 induction w with
 | nil=>
  intro s;simp only[aJ];by_cases c:s<0
  ·simp[bG,c]
  ·by_cases d:s<l.length
   ·obtain⟨k,rfl⟩:=Int.eq_ofNat_of_zero_le (by omega:0≤s);rw[gG _ k zo,gG _ k zo];simp[gq]
   ·have h1:=iF (gq l lives) s [] zo;have h2:=iF l s [] zo;simp only[aJ] at h1 h2
    rw[h1,h2]
 | cons b w ih=>
  intro s;simp only[aJ];rw[ih];by_cases c:s<0
  ·rw[kg c,kg c]
  ·by_cases d:s<l.length
   ·obtain⟨k,rfl⟩:=Int.eq_ofNat_of_zero_le (by omega:0≤s);rw[Mk hw lives k zo]
    split
    ·rfl
    ·rename_i hn;rw[dD zo];rcases fQ hw k b.toNat with h | ⟨h1,h2⟩
     ·rw[h,dD zo]
     ·cases hx:aJ l (bL l k b.toNat) w with
      | false=>rfl
      | true=>
       exfalso;apply hn;refine ⟨h1,(hl _ zo).2 ⟨w,?_⟩⟩;rw[Int.toNat_of_nonneg h1];exact hx
   ·rw[fB _ _ _ zo,fB _ _ _ zo]
theorem vK {l:Table} (hw:WF l) {p:Nat→Bool} (hp:Marks l p) (ht:∀s∈l,∀e∈s.edges,Lv l e.to) :
 Gb l l.length (loOf (aT p)) (hiOf (aT p)) (aT p).length (fun s i=>bL l s (loOf (aT p) i)):=by
 have hlive:∀(s:Nat) (b:Nat),0≤bL l s b→Lv l (bL l s b):=by
  intro s b h;by_cases c:s<l.length
  ·rw[dY l s b c] at h ⊢;obtain⟨e,he,e2⟩:∃e∈(l[s]).edges,e.to=bu (l[s]).edges b:=by
    generalize (l[s]).edges=es at h
    induction es with
    | nil=>simp[bu] at h
    | cons x es ih=>
     simp only[bu] at h ⊢
     split at h
     ·rename_i hc;exact⟨x,zS,by rw[if_pos hc]⟩
     ·rename_i hc;obtain⟨e,he,e2⟩:=ih h;exact⟨e,by simp[he],by rw[if_neg hc];exact e2⟩
   rw[← e2];exact ht _ (List.getElem_mem c) e he
  ·rw[fB l s b zo] at h;omega
 refine ⟨(Fg hp.1).1,fun s i hs hi=>?_,fun s i hs hi b h1 h2 w=>?_,fun s t i hs ht' hi h hf=>?_⟩
 ·rcases fQ hw s (loOf (aT p) i) with h | h <;> omega
 ·rw[kQ hp hi h1 h2]
 ·rcases fQ hw t (loOf (aT p) i) with h | ⟨h1,h2⟩
  ·exact h
  ·obtain⟨w,hw'⟩:=hlive t _ h1;rw[hf w] at hw';cases hw'
theorem IA {l:Table} (hw:WF l) {p:Nat→Bool} (hp:Marks l p) (ht:∀s∈l,∀e∈s.edges,Lv l e.to) {cls:List Int} (hc:wJ l l.length cls)
 {ac:Nat→Bool} (ha:∀s:Nat,s<l.length→ac s=bG l s) (h0:Lv l 0) (hpos:0<l.length) :
 rY l l.length (fun s=>cls.getD s 0)
  (fun s i=>if bL l s (loOf (aT p) i)<0 then none else some (bL l s (loOf (aT p) i)).toNat)
  (loOf (aT p)) (hiOf (aT p)) ac (aT p).length:=by
 have H:=vK hw hp ht;have hlive:∀(s:Nat) (i:Nat),s<l.length→i<(aT p).length→0≤bL l s (loOf (aT p) i)→Lv l (bL l s (loOf (aT p) i)):=by
  intro s i hs hi h;apply Classical.byContradiction;intro hn;have hf:∀w,aJ l (bL l s (loOf (aT p) i)) w=false:=fun w=>by
   cases hx:aJ l (bL l s (loOf (aT p) i)) w with
   | false=>rfl
   | true=>exact absurd ⟨w,hx⟩ hn
  rw[dY l s _ hs] at h hn;obtain⟨e,he,e2⟩:∃e∈(l[s]).edges,e.to=bu (l[s]).edges (loOf (aT p) i):=by
   generalize (l[s]).edges=es at h
   induction es with
   | nil=>simp[bu] at h
   | cons x es ih=>
    simp only[bu] at h ⊢
    split at h
    ·rename_i hc;exact⟨x,zS,by rw[if_pos hc]⟩
    ·rename_i hc;obtain⟨e,he,e2⟩:=ih h;exact⟨e,by simp[he],by rw[if_neg hc];exact e2⟩
  rw[← e2] at hn;exact hn (ht _ (List.getElem_mem hs) e he)
 refine ⟨(Fg hp.1).1,hpos,fun s i t hs hi h=>?_,fun s i hs hi h b h1 h2 w=>?_,fun s t hs ht=>hc.eq s t hs ht,fun s hs=>ha s hs,h0⟩
 ·split at h
  ·cases h
  ·rename_i hn;simp only[Option.some.injEq] at h;have r:=fQ hw s (loOf (aT p) i);have e:((t:Nat):Int)=bL l s (loOf (aT p) i):=zo;refine ⟨zo,?_,fun b b1 b2 w=>?_⟩
   ·rw[e];exact hlive s i hs hi zo
   ·rw[kQ hp hi b1 b2,← e]
 ·split at h
  ·rename_i hn;rw[kQ hp hi h1 h2];exact dD hn w
  ·cases h
def iN (o:List Nat) (t:Nat):Nat:=eX (fun s=>(s:Int)) o t
def Re (o:List Nat) (s:Sn):Sn:=⟨s.accept,s.edges.map fun e=>⟨e.lo,e.hi,(iN o e.to.toNat:Int)⟩⟩
structure pK (l:Table) (o:List Nat) (k:Nat):Prop where
 first:o[0]?=some 0
 nodup:o.Nodup
 lt:∀x∈o,x<l.length
 le:k≤o.length
 there:∀j,(h:j<k)→(h':j<o.length)→∀s,l[o[j]]?=some s→∀e∈s.edges,e.to.toNat∈o
def jo (l:Table) (o:List Nat) (k:Nat):Table:=(o.take k).map fun x=>Re o (l.getD x ⟨false,[]⟩)
theorem SS {o:List Nat} (h:o.Nodup):Dif (fun s=>(s:Int)) o:=by
 refine List.Pairwise.imp ?_ h;intro a b hab h';exact hab (by have h':(a:Int)=b:=h';omega)
theorem qA {o:List Nat} {t:Nat} (h:t∈o):∃hp:iN o t<o.length,o[iN o t]=t:=by
 have hp:iN o t<o.length:=List.findIdx_lt_length.2 ⟨t,h,zS⟩;refine ⟨hp,?_⟩;have:=qx (cf:=fun s=>(s:Int)) (o:=o) (t:=t) hp;have:((o[iN o t]:Nat):Int)=(t:Int):=this;omega
theorem Ih {n:Nat} {o:List Nat} {es:List Ed}:∀{p:Int},bQ n p es→∀b,
 bu (es.map fun e=>(⟨e.lo,e.hi,(iN o e.to.toNat:Int)⟩:Ed)) b=if bu es b<0 then -1 else (iN o (bu es b).toNat:Int):=by
 induction es with
 | nil=>intro p _ b;simp[bu]
 | cons e es ih=>
  intro p ⟨h1,h2,h3,h4,h5⟩ b;have ih:=ih h5 b;simp only[List.map_cons];by_cases c:e.lo≤b∧b≤e.hi
  ·have e1:bu (e::es) b=e.to:=by simp[bu,c]
   have e2:∀fs,bu (⟨e.lo,e.hi,(iN o e.to.toNat:Int)⟩::fs) b=(iN o e.to.toNat:Int):=fun fs=>by simp[bu,c]
   rw[e2];simp only[e1];rw[if_neg zo]
  ·have e1:bu (e::es) b=bu es b:=by simp only[bu];rw[if_neg c]
   have e2:∀fs,bu (⟨e.lo,e.hi,(iN o e.to.toNat:Int)⟩::fs) b=bu fs b:=fun fs=>by simp only[bu];rw[if_neg c]
   rw[e2];simp only[e1];exact ih
theorem Cv {n m:Nat} {o:List Nat} {es:List Ed}:∀{p:Int},bQ n p es→(∀e∈es,iN o e.to.toNat<m)→bQ m p (es.map fun e=>(⟨e.lo,e.hi,(iN o e.to.toNat:Int)⟩:Ed)):=by
 induction es with
 | nil=>intro p _ _;trivial
 | cons e es ih=>
  intro p ⟨h1,h2,h3,h4,h5⟩ hm;exact⟨h1,zS,by have:=hm e zS;simp;omega,h4,ih h5 fun x hx=>hm x (by simp[hx])⟩
theorem MX {l:Table} (hw:WF l) (hb:Bytes l) {o:List Nat} (h:pK l o o.length) :
 WF (jo l o o.length)∧Bytes (jo l o o.length)∧(jo l o o.length).length=o.length∧∀w,aJ (jo l o o.length) 0 w=aJ l 0 w:=by
 have hlen:(jo l o o.length).length=o.length:=by simp[jo]
 have hst:∀j,(hj:j<o.length)→(jo l o o.length)[j]'zo=Re o (l[o[j]]'(h.lt _ (List.getElem_mem hj))):=by
  intro j hj;have hx:=h.lt _ (List.getElem_mem hj);simp[jo,hx]
 have hed:∀j,(hj:j<o.length)→∀e∈(l[o[j]]'(h.lt _ (List.getElem_mem hj))).edges,e.to.toNat∈o:=by
  intro j hj e he;have hx:=h.lt _ (List.getElem_mem hj);exact h.there j hj hj _ (List.getElem?_eq_getElem hx) e he
 have hlang:∀w,∀j,(hj:j<o.length)→aJ (jo l o o.length) j w=aJ l o[j] w:=by
  intro w
  induction w with
  | nil=>
   intro j hj;have hx:=h.lt _ (List.getElem_mem hj);simp only[aJ];rw[gG _ j zo,gG _ _ hx,hst j hj]
   rfl
  | cons b w ih=>
   intro j hj;have hx:=h.lt _ (List.getElem_mem hj);simp only[aJ];rw[dY _ j _ zo,dY _ _ _ hx,hst j hj];have hwj:=hw _ (List.getElem_mem hx);have:=Ih (o:=o) hwj b.toNat;show aJ _ (bu ((l[o[j]]).edges.map _) b.toNat) w=_;rw[this];rcases sW hwj b.toNat with e | ⟨e1,e2⟩
   ·rw[e];simp only[show (-1:Int)<0 by omega,if_true];rw[dD zo,dD zo]
   ·rw[if_neg zo];obtain⟨e,he,e3⟩:=Fz e1;have hm:=hed j hj e he;rw[e3] at hm;obtain⟨hp,hg⟩:=qA hm;rw[ih _ hp,hg,Int.toNat_of_nonneg e1]
 have h0:0<o.length:=by
  have:=h.first
  cases o with
  | nil=>simp at this
  | cons _ _=>simp
 have ho0:o[0]=0:=by
  obtain⟨h1,e⟩:=List.getElem?_eq_some_iff.1 h.first;exact e
 refine ⟨?_,?_,hlen,fun w=>?_⟩
 ·intro s hs;obtain⟨j,hj,rfl⟩:=List.mem_iff_getElem.1 hs;rw[hlen] at hj;rw[hst j hj];refine Cv (hw _ (List.getElem_mem _)) fun e he=>?_;rw[hlen];exact (qA (hed j hj e he)).1
 ·intro s hs;obtain⟨j,hj,rfl⟩:=List.mem_iff_getElem.1 hs;rw[hlen] at hj;rw[hst j hj];intro e he;obtain⟨x,hx,rfl⟩:=List.mem_map.1 he;exact hb _ (List.getElem_mem _) x hx
 ·have:=hlang w 0 h0;rw[ho0] at this;exact this
end Cl
namespace Cl
theorem Jo (o:List Nat) (t:Nat):iN o t≤o.length:=qV _ _ _
theorem K3 {o:List Nat} {t q:Nat} (h:q≤iN o t) (hq:q<o.length):if o[q]=t then q=iN o t else q+1≤iN o t:=by
 split
 ·rename_i e;apply Classical.byContradiction;intro hne;have:=List.not_of_lt_findIdx (p:=fun (s:Nat)=>((s:Int)==(t:Int))) (xs:=o) (i:=q) (by
   have:q<iN o t:=zo;exact this)
  simp[e] at this
 ·rename_i e;apply Classical.byContradiction;intro hne;have h2:q=iN o t:=zo;have hp:iN o t<o.length:=zo;have:=qx (cf:=fun s=>(s:Int)) (o:=o) (t:=t) hp;have h3:((o[iN o t]:Nat):Int)=(t:Int):=this;apply e;subst h2;omega
def pR (o:List Nat) (t:Nat):List Nat:=if iN o t<o.length then o else o ++ [t]
theorem NR (o:List Nat) (t:Nat):o <+: pR o t:=BG _ o t
theorem NU (o:List Nat) (t:Nat):t∈pR o t:=by
 unfold pR
 split
 ·rename_i h;have h2:((o[iN o t]:Nat):Int)=(t:Int):=qx (cf:=fun s=>(s:Int)) h;have:o[iN o t]=t:=zo;rw[← this];exact List.getElem_mem h
 ·simp
theorem Ie {o:List Nat} {t:Nat} (h:o.Nodup):(pR o t).Nodup:=xx (Ow (cf:=fun s=>(s:Int)) t (SS h))
theorem PX {o:List Nat} {t n:Nat} (h:∀x∈o,x<n) (ht:t<n):∀x∈pR o t,x<n:=by
 intro x hx;rcases BH (cf:=fun s=>(s:Int)) x hx with h1 | h1
 ·exact h x h1
 ·subst h1;exact ht
theorem NT (o:List Nat) (t:Nat):iN (pR o t) t=iN o t:=(qX (fun s=>(s:Int)) o t).1
theorem zG {o:List Nat} {t:Nat} (h:t∈o):iN o t<o.length:=(qA h).1
theorem NQ {o o':List Nat} (h:o <+: o') {t:Nat} (ht:t∈o):iN o' t=iN o t:=GM h (zG ht)
theorem zq {o:List Nat} {n:Nat} (h:o.Nodup) (hl:∀x∈o,x<n):o.length≤n:=by
 have:=lK o (List.range n) h (fun x hx=>List.mem_range.2 (hl x hx));simpa using this
def renE (o:List Nat) (es:List Ed):List Ed:=es.map fun e=>⟨e.lo,e.hi,(iN o e.to.toNat:Int)⟩
theorem I1 {o o':List Nat} (h:o <+: o') {es:List Ed} (hm:∀e∈es,e.to.toNat∈o):renE o' es=renE o es:=by
 apply List.map_congr_left;intro e he;rw[NQ h (hm e he)]
structure InR (l:Table) (o:List Nat) (es:List Ed) (j:Nat) (o':List Nat):Prop where
 pre:o <+: o'
 nodup:o'.Nodup
 lt:∀x∈o',x<l.length
 mem:∀e∈es.take j,e.to.toNat∈o'
theorem NP {l:Table} {o:List Nat} {k:Nat} (h:pK l o k) (es:List Ed):InR l o es 0 o:=⟨List.prefix_rfl,h.nodup,h.lt,fun e he=>by simp at he⟩
theorem PW {l:Table} {o o':List Nat} {es:List Ed} {j:Nat} (h:InR l o es j o') (hj:j<es.length) (ht:(es[j]).to.toNat<l.length) :
 InR l o es (j+1) (pR o' (es[j]).to.toNat)∧renE (pR o' (es[j]).to.toNat) (es.take (j+1))=renE o' (es.take j) ++ [⟨(es[j]).lo,(es[j]).hi,(iN o' (es[j]).to.toNat:Int)⟩]:=by
 have hp:=NR o' (es[j]).to.toNat;refine ⟨⟨h.pre.trans hp,Ie h.nodup,PX h.lt ht,fun e he=>?_⟩,?_⟩
 ·rw[List.take_succ_eq_append_getElem hj] at he;rcases List.mem_append.1 he with h1 | h1
  ·exact hp.subset (h.mem e h1)
  ·simp only[List.mem_singleton] at h1;subst h1;exact NU _ _
 ·rw[List.take_succ_eq_append_getElem hj];unfold renE;rw[List.map_append];have:=I1 hp (es:=es.take j) h.mem;unfold renE at this;rw[this];simp[NT]
theorem GH {l:Table} (h:0<l.length):pK l [0] 0:=⟨rfl,zS,fun x hx=>by simp at hx;omega,zS,fun j hj=>zo⟩
theorem Kj {l:Table} {o o':List Nat} {k:Nat} (h:pK l o k) (hk:k<o.length) {s:Sn} (hs:l[o[k]]?=some s) (H:InR l o s.edges s.edges.length o') :
 pK l o' (k+1)∧jo l o' (k+1)=jo l o k ++ [⟨s.accept,renE o' s.edges⟩]:=by
 have hlen:=H.pre.length_le;have hmem:∀e∈s.edges,e.to.toNat∈o':=by have:=H.mem;rwa [List.take_length] at this
 refine ⟨⟨?_,H.nodup,H.lt,zo,fun j hj hj' t ht e he=>?_⟩,?_⟩
 ·obtain⟨x,hx⟩:=H.pre;rw[← hx,List.getElem?_append_left zo];exact h.first
 ·have hjo:j<o.length:=zo;have e1:=yT H.pre hjo;rw[e1] at ht;by_cases c:j<k
  ·exact H.pre.subset (h.there j c hjo t ht e he)
  ·have:j=k:=zo;subst this;rw[hs] at ht;cases ht;exact hmem e he
 ·have e1:=yT H.pre hk;have ht:o'.take (k+1)=o.take k ++ [o[k]]:=by
   obtain⟨x,hx⟩:=H.pre;rw[← hx,List.take_append_of_le_length zo,List.take_succ_eq_append_getElem hk]
  unfold jo;rw[ht,List.map_append]
  congr 1
  ·apply List.map_congr_left;intro y hy;obtain⟨j,hj,rfl⟩:=List.mem_iff_getElem.1 hy;have hjk:j<k:=by simp at hj;omega
   simp only[List.getElem_take];have hyl:=h.lt _ (List.getElem_mem (show j<o.length by omega));have e2:l.getD o[j] ⟨false,[]⟩=l[o[j]]:=by simp[hyl]
   rw[e2];unfold Re
   congr 1
   exact I1 H.pre (es:=(l[o[j]]).edges) (fun e he=>h.there j hjk zo _ (by simp[hyl]) e he)
  ·have e2:l.getD o[k] ⟨false,[]⟩=s:=by rw[List.getD_eq_getElem?_getD,hs];rfl
   simp only[List.map_cons,List.map_nil,e2]
   rfl
end Cl
namespace Cl
open Go Go.RowKit Go.Proofs
theorem EO {o:List Nat} {cls:List Int} {t:Nat} (ht:t<cls.length) :
 (let r:=firstIdx (fun y=>cls.getD y.toNat 0=cls[t]) (o.map Int.ofNat) 0;if r<0 then ((o.map Int.ofNat).length:Int) else r)=(eX (fun s=>cls.getD s 0) o t:Nat):=by
 have hct:cls.getD t 0=cls[t]:=by simp[ht]
 rcases mr (fun y=>cls.getD y.toNat 0=cls[t]) (o.map Int.ofNat) 0 with ⟨h1,h2⟩ | ⟨i,h1,h2,h3,h4⟩
 ·simp only[h1];rw[if_pos zo];have hn:¬ eX (fun s=>cls.getD s 0) o t<o.length:=fun h=>by
   have:=qx (cf:=fun s=>cls.getD s 0) h;exact h2 (Int.ofNat o[eX (fun s=>cls.getD s 0) o t]) (List.mem_map.2 ⟨_,List.getElem_mem h,rfl⟩) (by rw[← hct];exact this)
  have:=qV (fun s=>cls.getD s 0) o t;rw[List.length_map];omega
 ·simp only[h2];rw[if_neg zo];have hio:i<o.length:=by simpa using h1
  have:eX (fun s=>cls.getD s 0) o t=i:=by
   unfold eX;rw[List.findIdx_eq hio];refine ⟨?_,fun j hj=>?_⟩
   ·have:=h3;simp only[List.getElem_map] at this;exact beq_iff_eq.2 (by show cls.getD o[i] 0=cls.getD t 0;rw[hct];exact this)
   ·have:=h4 j (by simp;omega) hj;simp only[List.getElem_map] at this;exact beq_eq_false_iff_ne.2 (by show cls.getD o[j] 0≠cls.getD t 0;rw[hct];exact this)
  rw[this];simp
theorem D7 {R:Table} (hw:WF R) {lv:Nat→Bool} (hlv:∀s:Nat,s<R.length→(lv s=true↔Lv R s)):∀s∈gq R lv,∀e∈s.edges,Lv (gq R lv) e.to:=by
 intro s hs e he;obtain⟨x,hx,rfl⟩:=List.mem_map.1 hs;obtain⟨h1,h2⟩:=List.mem_filter.1 he;have h3:=fV (hw x hx) e h1;obtain⟨w,hw'⟩:=(hlv e.to.toNat zo).1 h2;refine ⟨w,?_⟩;rw[yu hw hlv]
 rwa [Int.toNat_of_nonneg h3.2.1] at hw'
def dlT (T:Table) (lo:Nat→Nat) (s i:Nat):Option Nat:=if bL T s (lo i)<0 then none else some (bL T s (lo i)).toNat
theorem CO (o:List Nat):dM o=(o.map Int.ofNat).map (Value.int .i64):=by
 unfold dM;rw[List.map_map]
 rfl
end Cl
namespace Cl
theorem Gf {n:Nat} {es:List Ed}:∀{p:Int},bQ n p es→∀e∈es,bu es e.lo=e.to:=by
 induction es with
 | nil=>intro p _ e he;simp at he
 | cons x es ih=>
  intro p ⟨h1,h2,h3,h4,h5⟩ e he;simp only[bu];rcases List.mem_cons.1 he with rfl | he
  ·rw[if_pos ⟨Nat.le_refl _,h1⟩]
  ·have:=(fO h5 e he).1;rw[if_neg zo];exact ih h5 e he
def QP (l:Table) (out:List Bool) (s:Nat):Prop:=(bG l s=true∨∃st,l[s]?=some st∧∃e∈st.edges,bt out e.to.toNat=true)→bt out s=true
def IP (l:Table) (out:List Bool):Prop:=∀s,s<l.length→QP l out s
def Pn (l:Table) (out:List Bool):Prop:=∀s,bt out s=true→Lv l s
theorem Ar {l:Table} (_:WF l) {out:List Bool} (h:IP l out):∀(w:List UInt8) (s:Nat),aJ l s w=true→bt out s=true:=by
 intro w
 induction w with
 | nil=>
  intro s hs;simp only[aJ] at hs;by_cases c:s<l.length
  ·exact h s c (.inl hs)
  ·have:=iF l (s:Int) [] zo;simp only[aJ] at this
   rw[hs] at this;cases this
 | cons b w ih=>
  intro s hs;simp only[aJ] at hs;by_cases c:s<l.length
  ·rw[dY l s _ c] at hs;have h0:0≤bu (l[s]).edges b.toNat:=by
    apply Classical.byContradiction;intro hn;rw[dD zo] at hs;cases hs
   obtain⟨e,he,e2⟩:=Fz h0;refine h s c (.inr ⟨l[s],by simp[c],e,he,?_⟩);apply ih;rw[e2,Int.toNat_of_nonneg h0];exact hs
  ·rw[fB l _ _ zo,dD zo] at hs;cases hs
theorem Rq {l:Table} (hw:WF l) (hb:Bytes l) {s:Nat} {st:Sn} (hs:l[s]?=some st) {e:Ed} (he:e∈st.edges) (h:Lv l e.to):Lv l s:=by
 obtain⟨h1,h2⟩:=List.getElem?_eq_some_iff.1 hs;subst h2;obtain⟨w,hw'⟩:=h;obtain⟨u,hu⟩:=byteOf e.lo (hb _ (List.getElem_mem h1) e he).1;refine ⟨u::w,?_⟩;simp only[aJ];rw[hu,dY l s _ h1,Gf (hw _ (List.getElem_mem h1)) e he];exact hw'
structure xE (l:Table) (out0 out:List Bool) (i:Nat) (C:List Bool→Prop):Prop where
 len:out.length=l.length
 sound:Pn l out
 keep:out=out0∨out0.count true<out.count true
 stay:IP l out0→out=out0
 part:out=out0→(∀s,s<i→QP l out s)∧(C out→bt out i=true)
theorem O4 {l:Table} {out0:List Bool} (h1:out0.length=l.length) (h2:Pn l out0):xE l out0 out0 0 (fun _=>False):=
 ⟨h1,h2,.inl rfl,fun _=>rfl,fun _=>⟨fun s hs=>zo,fun h=>h.elim⟩⟩
theorem A9 {out:List Bool}:∀{c:Nat},c<out.length→bt out c=false→(out.set c true).count true=out.count true+1:=by
 induction out with
 | nil=>intro c h;simp at h
 | cons b out ih=>
  intro c h hb
  cases c with
  | zero=>
   simp[bt] at hb;subst hb
   simp
  | succ c=>
   have:=@ih c (by simpa using h) (by simpa [bt] using hb);simp only[List.set_cons_succ,List.count_cons];omega
theorem Gv {out:List Bool} {i:Nat} (h:i<out.length):out.set i (bt out i)=out:=by
 rw[pQ h];exact List.set_getElem_self _
theorem JD {l:Table} {out0 out:List Bool} {i:Nat} {C C':List Bool→Prop} (H:xE l out0 out i C) (hi:i<l.length) (b:Bool)
 (hj:b=true→bG l i=true∨∃st,l[i]?=some st∧∃e∈st.edges,bt out e.to.toNat=true) (hl:b=true→Lv l i) (hC:C' out→C out∨b=true) :
 xE l out0 (out.set i (bt out i || b)) i C':=by
 have hil:i<out.length:=by rw[H.len];exact hi
 by_cases hc:bt out i=false∧b=true
 ·obtain⟨h1,h2⟩:=hc;have hcount:=A9 hil h1;rw[h1,h2,Bool.false_or];have hle:out0.count true≤out.count true:=by
   rcases H.keep with h | h
   ·rw[h];exact Nat.le_refl _
   ·omega
  refine ⟨by simp[H.len],fun s hs=>?_,.inr zo,fun hcl=>?_,fun e=>?_⟩
  ·by_cases c:s=i
   ·subst c;exact hl h2
   ·refine H.sound s ?_;simpa [bt,List.getElem?_set,show ¬ i=s from fun e=>c e.symm] using hs
  ·have e0:=H.stay hcl;have:=hcl i hi (by rw[← e0];exact hj h2);rw[← e0,h1] at this;cases this
  ·rw[← e] at hle;omega
 ·have e:(bt out i || b)=bt out i:=by
   cases h1:bt out i <;> cases h2:b <;> simp_all
  rw[e,Gv hil];refine ⟨H.len,H.sound,H.keep,H.stay,fun e0=>⟨(H.part e0).1,fun hc'=>?_⟩⟩;rcases hC hc' with h | h
  ·exact (H.part e0).2 h
  ·rw[← e,h];simp
theorem Qu {l:Table} {out0 out:List Bool} {i:Nat} {C:List Bool→Prop} (H:xE l out0 out i C) (hi:i<l.length)
 (hC:(bG l i=true∨∃st,l[i]?=some st∧∃e∈st.edges,bt out e.to.toNat=true)→C out):xE l out0 out (i+1) (fun _=>False):=
 ⟨H.len,H.sound,H.keep,H.stay,fun e0=>⟨fun s hs=>by
  by_cases c:s=i
  ·subst c;exact fun h=>(H.part e0).2 (hC h)
  ·exact (H.part e0).1 s zo,fun h=>h.elim⟩⟩
structure vG (l:Table) (out:List Bool) (r:Nat):Prop where
 len:out.length=l.length
 sound:Pn l out
 prog:IP l out∨r≤out.count true
theorem O5 {l:Table} {out0 out:List Bool} {r:Nat} (H0:vG l out0 r) (H:xE l out0 out l.length (fun _=>False)):vG l out (r+1):=by
 refine ⟨H.len,H.sound,?_⟩;rcases H.keep with h | h
 ·exact .inl fun s hs=>(H.part h).1 s hs
 ·rcases H0.prog with h2 | h2
  ·have:=H.stay h2;rw[this] at h;omega
  ·exact .inr zo
theorem R3 {l:Table} (hw:WF l) {out:List Bool} (H:vG l out l.length):∀s:Nat,s<l.length→(bt out s=true↔Lv l s):=by
 intro s hs;refine ⟨H.sound s,fun h=>?_⟩;obtain⟨w,hx⟩:=h;rcases H.prog with h2 | h2
 ·exact Ar hw h2 w s hx
 ·have hc:out.count true=out.length:=Nat.le_antisymm List.count_le_length (by rw[H.len];exact h2);have hall:=List.count_eq_length.1 hc;have hs':s<out.length:=by rw[H.len];exact hs
  rw[pQ hs'];exact (hall _ (List.getElem_mem hs')).symm
theorem Qt (l:Table):vG l (List.replicate l.length false) 0:=by
 refine ⟨zS,fun s hs=>?_,.inr (Nat.zero_le _)⟩;simp[bt,List.getElem?_replicate] at hs
 split at hs <;> simp at hs
end Cl
