/- Lemmas for the proofs of chapter 11. -/
import Derived.Test.YtjhipmdamaocmaaGreatDoorPkN7
set_option maxRecDepth 100000
set_option maxHeartbeats 16000000
namespace Cl
open Go Go.RowKit Go.Proofs
theorem Qk {n:Nat} {es:List Ed}:∀{p:Int},bF n p es→fD es → -1≤p→p≤255→(es.length:Int)+p≤255:=by
 induction es with
 | nil=>intro p _ _ h1 h2;simp;exact h2
 | cons e es ih=>
  intro p ⟨h1,h2,h3,h4,h5⟩ hb hp hp2;have hb1:=hb e zS;have:=ih h5 (fun x hx=>hb x (by simp[hx])) zo zo;simp only[yJ];omega
theorem vS {l:Table} (hw:WF l) (hb:Bytes l):∀s∈l,s.edges.length≤256:=fun s hs=>by
 have:=Qk (hw s hs) (hb s hs) zo zo;omega
theorem Eg {o:List Nat} {cls:List Int} {t:Nat} (ht:t<cls.length) :
 (let r:=firstIdx (fun y=>cls.getD y.toNat 0=cls[t]) (o.map Int.ofNat) 0;if r<0 then ((o.map Int.ofNat).length:Int) else r)=(dL (fun s=>cls.getD s 0) o t:Nat):=by
 have hct:cls.getD t 0=cls[t]:=by simp[ht]
 rcases kw (fun y=>cls.getD y.toNat 0=cls[t]) (o.map Int.ofNat) 0 with ⟨h1,h2⟩ | ⟨i,h1,h2,h3,h4⟩
 ·simp only[h1];rw[zI zo];have hn:¬ dL (fun s=>cls.getD s 0) o t<o.length:=fun h=>by
   have:=nU (cf:=fun s=>cls.getD s 0) h;exact h2 (Int.ofNat o[dL (fun s=>cls.getD s 0) o t]) (List.mem_map.2 ⟨_,zB h,rfl⟩) (by rw[← hct];exact this)
  have:=oN (fun s=>cls.getD s 0) o t;rw[List.length_map];omega
 ·simp only[h2];rw[zH zo];have hio:i<o.length:=by simpa using h1
  have:dL (fun s=>cls.getD s 0) o t=i:=by
   unfold dL;rw[List.findIdx_eq hio];refine ⟨?_,fun j hj=>?_⟩
   ·have:=h3;simp only[List.getElem_map] at this;exact beq_iff_eq.2 (by show cls.getD o[i] 0=cls.getD t 0;rw[hct];exact this)
   ·have:=h4 j (by simp;omega) hj;simp only[List.getElem_map] at this;exact beq_eq_false_iff_ne.2 (by show cls.getD o[j] 0≠cls.getD t 0;rw[hct];exact this)
  rw[this];simp
theorem Dh {R:Table} (hw:WF R) {lv:Nat→Bool} (hlv:∀s:Nat,s<R.length→(lv s=true↔Lv R s)):∀s∈eY R lv,∀e∈s.edges,Lv (eY R lv) e.to:=by
 intro s hs e he;obtain⟨x,hx,rfl⟩:=List.mem_map.1 hs;obtain⟨h1,h2⟩:=List.mem_filter.1 he;have h3:=eU (hw x hx) e h1;obtain⟨w,hw'⟩:=(hlv e.to.toNat zo).1 h2;refine ⟨w,?_⟩;rw[vX hw hlv]
 rwa [Int.toNat_of_nonneg h3.2.1] at hw'
def dlT (T:Table) (lo:Nat→Nat) (s i:Nat):Option Nat:=if bD T s (lo i)<0 then none else some (bD T s (lo i)).toNat
theorem BZ (o:List Nat):cZ o=(o.map Int.ofNat).map (Value.int .i64):=by
 unfold cZ;rw[List.map_map]
 rfl
theorem qh.congr {T:Table} {N:Nat} {cf:Nat→Int} {dl dl':Nat→Nat→Option Nat} {lo hi:Nat→Nat} {ac ac':Nat→Bool} {K:Nat} (H:qh T N cf dl lo hi ac K)
 (h:∀s i,s<N→i<K→dl' s i=dl s i) (ha:∀s,s<N→ac' s=ac s):qh T N cf dl' lo hi ac' K:=
 ⟨H.iv,H.pos,fun s i t hs hi' he=>H.some s i t hs hi' (by rw[← h s i hs hi'];exact he),fun s i hs hi' he=>H.none s i hs hi' (by rw[← h s i hs hi'];exact he),H.cls,fun s hs=>(ha s hs).trans (H.acc s hs),H.live⟩
noncomputable def pOf (l:Table) (b:Nat):Bool:=tf (cutP l b)
theorem xS (l:Table):bV l 256=(aO (pOf l)).map Int.ofNat:=rfl
theorem rH (l:Table):Marks l (pOf l):=by
 refine ⟨aN (.inl rfl),fun s hs e he b _ h=>aN (.inr ⟨s,hs,e,he,?_⟩)⟩;exact h
theorem rZ (l:Table):OP (bV l 256) (loOf (aO (pOf l))) (hiOf (aO (pOf l))):=by
 rw[xS];refine ⟨fun i h=>?_,fun i h=>?_⟩
 ·have h':i<(aO (pOf l)).length:=by simpa using h
  simp[loOf,h']
 ·have h':i<(aO (pOf l)).length:=by simpa using h
  unfold ES hiOf;by_cases c:i+1<(aO (pOf l)).length
  ·have h1:=jh (show i<i+1 by omega) c;rw[dif_pos (by simpa using c),zI c];simp only[List.getElem_map,yP,c,yC,Option.getD_some] at h1 ⊢;have:((aO (pOf l))[i+1] - 1:Nat)=(((aO (pOf l))[i+1]:Nat):Int) - 1:=zo;rw[this];rfl
  ·rw[dif_neg (by simpa using c),zH c];rfl
theorem pg (l:Table):(bV l 256).length=(aO (pOf l)).length:=by rw[xS,List.length_map]
def fM (l:Table) (cuts:List Int):List (List Int):=nu l cuts ++ [cuts.map fun _=>(l.length:Int)]
theorem lG (l:Table) (cuts:List Int):(fM l cuts).length=l.length+1:=by simp[fM,nu]
theorem kX {l:Table} (_:WF l) {s i:Nat} (hs:s<l.length+1) (hi:i<(aO (pOf l)).length) :
 taN (fM l (bV l 256)) s i=snk l.length (bD l s (loOf (aO (pOf l)) i)):=by
 have hi2:i<(bV l 256).length:=by rw[pg];exact hi
 have hc:=(rZ l).lo i hi2;unfold taN nx;by_cases c:s<l.length
 ·have e1:(fM l (bV l 256)).getD s []=nk l.length (bV l 256) (l[s]).edges:=by
   unfold fM nu;rw[yP,yF (by simpa using c)];simp[c]
  rw[e1];have e2:(nk l.length (bV l 256) (l[s]).edges).getD i 0=goTo l.length (l[s]).edges ((bV l 256)[i]):=by simp[nk,hi2]
  rw[e2,hc,dC l s _ c];simp[goTo,snk]
 ·have:s=l.length:=zo;subst this;have e1:(fM l (bV l 256)).getD l.length []=(bV l 256).map fun _=>(l.length:Int):=by
   unfold fM;rw[yP,yI (by simp[nu])];simp[nu]
  rw[e1,dV l _ _ (Int.le_refl _)];simp[snk,hi2]
theorem Cz {l:Table} (hw:WF l) (hlen:l.length≤1000000) :
 CU l (bV l 256) (fM l (bV l 256)) (l.map (·.accept) ++ [false]) (loOf (aO (pOf l))) (hiOf (aO (pOf l))):=by
 have hl:=lG l (bV l 256);have hT:=FI hw (rH l);refine ⟨?_,fun s hs=>?_,by simp[hl],fun r hr=>?_,zo,mq l 256,zo⟩
 ·rw[hl,pg];refine ⟨hT.iv,fun s i hs hi=>?_,fun s i hs hi b h1 h2 w=>?_,fun s t i hs ht hi h1 h2=>?_⟩
  ·rw[kX hw hs hi];exact hT.rng s i hs hi
  ·rw[kX hw hs hi];exact hT.step s i hs hi b h1 h2 w
  ·rw[kX hw hs hi] at h1;rw[kX hw ht hi] at h2 ⊢;exact hT.neg s t i hs ht hi h1 h2
 ·rw[hl] at hs;by_cases c:s<l.length
  ·rw[eZ l s c,yP,yF (by simpa using c)];simp[c]
  ·have:s=l.length:=zo;subst this;rw[yP,yI zS];have:=fI l (l.length:Int) [] (Int.le_refl _);simp only[aC] at this;simp[this]
 ·rw[hl];unfold fM at hr;rcases List.mem_append.1 hr with h | h
  ·obtain⟨s,hs,rfl⟩:=List.mem_map.1 h;exact⟨by simp[nk],fun x hx=>by have:=r9 (hw s hs) _ x hx;omega⟩
  ·simp only[zU] at h;subst h;exact⟨zS,fun x hx=>by obtain⟨y,-,rfl⟩:=List.mem_map.1 hx;omega⟩
theorem IV {T:Table} {cuts:List Int} {next:List (List Int)} {acc:List Bool} {lo hi:Nat→Nat} (H:CU T cuts next acc lo hi) {cls:List Int} (hc:uh T next.length cls) {s:Nat} (hs:s<next.length) :
 vD next acc cls (cl cls s)↔Lv T s:=by
 have hrow:∀t,t<next.length→∃r,nx next t=r∧r.length=cuts.length∧(∀x∈r,0≤x∧x<next.length):=fun t ht=>by
  refine ⟨next[t],by simp[nx,ht],H.rows _ (zB ht)⟩
 have hcl:∀a b,a<next.length→b<next.length→cl cls a=cl cls b→NEq T a b:=fun a b ha hb e=>by
  refine (hc.eq a b ha hb).1 ?_;unfold cl at e;have h1:∀t,t<next.length→0≤cls.getD t 0:=fun t ht=>by
   have hl:t<cls.length:=by rw[hc.len];exact ht
   have:=(hc.rng cls[t] (zB hl)).1;simpa [hl] using this
  have:=h1 a ha;have:=h1 b hb;omega
 constructor
 ·intro h;have gen:∀c,vD next acc cls c→∀t,t<next.length→cl cls t=c→Lv T t:=by
   intro c h
   induction h with
   | acc u hu h=>
    intro t ht e;have hn:=hcl t u ht hu e;refine ⟨[],(hn []).trans ?_⟩;simp only[aC];rw[← H.accs u hu]
    exact h
   | step u hu x hx _ ih=>
    intro t ht e;have hn:=hcl t u ht hu e;obtain⟨r,hr,hrl,hrx⟩:=hrow u hu;rw[hr] at hx;have hxr:=hrx x hx;obtain⟨w,hw⟩:=ih x.toNat zo rfl;obtain⟨i,hi',e2⟩:=List.mem_iff_getElem.1 hx;have hta:taN next u i=x:=by
     unfold taN;rw[hr];simp[hi',e2]
    have hle:=H.ta.iv.le i zo;obtain⟨ub,hub⟩:=byteOf (lo i) zo;refine ⟨ub::w,(hn (ub::w)).trans ?_⟩;simp only[aC];rw[hub,H.ta.step u i hu zo (lo i) (zG _) hle.1 w,hta];have:((x.toNat:Nat):Int)=x:=zo;rw[← this];exact hw
  exact gen _ h s hs rfl
 ·rintro ⟨w,hw⟩
  induction w generalizing s with
  | nil=>
   refine .acc s hs ?_;simp only[aC] at hw;have:=H.accs s hs;unfold bt
   rw[this,hw]
  | cons b w ih=>
   simp only[aC] at hw;obtain⟨i,hi',b1,b2⟩:=H.ta.iv.cover b.toNat b.toNat_lt;rw[H.ta.step s i hs hi' _ b1 b2 w] at hw;obtain⟨r,hr,hrl,hrx⟩:=hrow s hs;have hta:taN next s i=r[i]:=by
    unfold taN;rw[hr];simp[hrl,hi']
   have hxr:=hrx r[i] (zB zo);rw[hta] at hw;have e:((r[i].toNat:Nat):Int)=r[i]:=zo;refine .step s hs r[i] (by rw[hr];exact zB zo) (ih zo ?_);rw[e];exact hw
theorem H5 {l:Table} (hw:WF l) (hlen:l.length≤1000000) {cls:List Int} (hc:uh l (fM l (bV l 256)).length cls) {lv:List Bool}
 (hlv:∀c,bt lv c=true↔vD (fM l (bV l 256)) (l.map (·.accept) ++ [false]) cls c) (h0:bt lv (cl cls 0)=true) :
 qh l (fM l (bV l 256)).length (fun s=>cls.getD s 0) (dlN (fM l (bV l 256)) cls lv) (loOf (aO (pOf l))) (hiOf (aO (pOf l))) (fun s=>(l.map (·.accept) ++ [false]).getD s false) (bV l 256).length:=by
 have H:=Cz hw hlen;have hl:=lG l (bV l 256);have hlive:∀s:Nat,s<l.length+1→(bt lv (cls.getD s 0).toNat=true↔Lv l s):=fun s hs=>(hlv _).trans (IV H hc zo);have h00:Lv l (0:Nat):=(hlive 0 zo).1 h0;rw[hl] at hc ⊢;rw[pg];refine (Fp hw (rH l) hc hlive (ac:=fun s=>(l.map (·.accept) ++ [false]).getD s false) (fun s hs=>H.accs s (by rw[hl];exact hs)) h00).congr (fun s i hs hi=>?_) (fun s hs=>rfl);unfold dlN;rw[kX hw hs hi]
 rfl
theorem EY {l:Table} (hw:WF l) (hlen:l.length≤1000000) {cls:List Int} (hc:uh l (fM l (bV l 256)).length cls) {lv:List Bool}
 (hlv:∀c,bt lv c=true↔vD (fM l (bV l 256)) (l.map (·.accept) ++ [false]) cls c) (h0:bt lv (cl cls 0)=false):∀w,aC l 0 w=false:=by
 intro w;have H:=Cz hw hlen;have hl:=lG l (bV l 256)
 cases hx:aC l 0 w with
 | false=>rfl
 | true=>
  have:=(hlv _).2 ((IV H hc (s:=0) zo).2 ⟨w,hx⟩);rw[h0] at this;cases this
end Cl
namespace Cl
theorem I7 (o:List Nat) (t:Nat):gH o t≤o.length:=oN _ _ _
theorem KE {o:List Nat} {t q:Nat} (h:q≤gH o t) (hq:q<o.length):if o[q]=t then q=gH o t else q+1≤gH o t:=by
 split
 ·rename_i e;apply zN;intro hne;have:=List.not_of_lt_findIdx (p:=fun (s:Nat)=>((s:Int)==(t:Int))) (xs:=o) (i:=q) (by
   have:q<gH o t:=zo;exact this)
  simp[e] at this
 ·rename_i e;apply zN;intro hne;have h2:q=gH o t:=zo;have hp:gH o t<o.length:=zo;have:=nU (cf:=fun s=>(s:Int)) (o:=o) (t:=t) hp;have h3:((o[gH o t]:Nat):Int)=(t:Int):=this;apply e;subst h2;omega
def nI (o:List Nat) (t:Nat):List Nat:=if gH o t<o.length then o else o ++ [t]
theorem Ni (o:List Nat) (t:Nat):o <+: nI o t:=AL _ o t
theorem Nk (o:List Nat) (t:Nat):t∈nI o t:=by
 unfold nI
 split
 ·rename_i h;have h2:((o[gH o t]:Nat):Int)=(t:Int):=nU (cf:=fun s=>(s:Int)) h;have:o[gH o t]=t:=zo;rw[← this];exact zB h
 ·simp
theorem GG {o:List Nat} {t:Nat} (h:o.Nodup):(nI o t).Nodup:=uN (NJ (cf:=fun s=>(s:Int)) t (Sc h))
theorem PD {o:List Nat} {t n:Nat} (h:∀x∈o,x<n) (ht:t<n):∀x∈nI o t,x<n:=by
 intro x hx;rcases AO (cf:=fun s=>(s:Int)) x hx with h1 | h1
 ·exact h x h1
 ·subst h1;exact ht
theorem Nj (o:List Nat) (t:Nat):gH (nI o t) t=gH o t:=(oQ (fun s=>(s:Int)) o t).1
theorem xE {o:List Nat} {t:Nat} (h:t∈o):gH o t<o.length:=(nY h).1
theorem Nh {o o':List Nat} (h:o <+: o') {t:Nat} (ht:t∈o):gH o' t=gH o t:=F9 h (xE ht)
theorem wY {o:List Nat} {n:Nat} (h:o.Nodup) (hl:∀x∈o,x<n):o.length≤n:=by
 have:=jS o (List.range n) h (fun x hx=>List.mem_range.2 (hl x hx));simpa using this
def renE (o:List Nat) (es:List Ed):List Ed:=es.map fun e=>⟨e.lo,e.hi,(gH o e.to.toNat:Int)⟩
theorem IC {o o':List Nat} (h:o <+: o') {es:List Ed} (hm:∀e∈es,e.to.toNat∈o):renE o' es=renE o es:=by
 apply List.map_congr_left;intro e he;rw[Nh h (hm e he)]
structure InR (l:Table) (o:List Nat) (es:List Ed) (j:Nat) (o':List Nat):Prop where
 pre:o <+: o'
 nodup:o'.Nodup
 lt:∀x∈o',x<l.length
 mem:∀e∈es.take j,e.to.toNat∈o'
theorem Ng {l:Table} {o:List Nat} {k:Nat} (h:nD l o k) (es:List Ed):InR l o es 0 o:=⟨List.prefix_rfl,h.nodup,h.lt,fun e he=>by simp at he⟩
theorem Pz {l:Table} {o o':List Nat} {es:List Ed} {j:Nat} (h:InR l o es j o') (hj:j<es.length) (ht:(es[j]).to.toNat<l.length) :
 InR l o es (j+1) (nI o' (es[j]).to.toNat)∧renE (nI o' (es[j]).to.toNat) (es.take (j+1))=renE o' (es.take j) ++ [⟨(es[j]).lo,(es[j]).hi,(gH o' (es[j]).to.toNat:Int)⟩]:=by
 have hp:=Ni o' (es[j]).to.toNat;refine ⟨⟨h.pre.trans hp,GG h.nodup,PD h.lt ht,fun e he=>?_⟩,?_⟩
 ·rw[zF hj] at he;rcases List.mem_append.1 he with h1 | h1
  ·exact hp.subset (h.mem e h1)
  ·simp only[zU] at h1;subst h1;exact Nk _ _
 ·rw[zF hj];unfold renE;rw[yD];have:=IC hp (es:=es.take j) h.mem;unfold renE at this;rw[this];simp[Nj]
theorem FZ {l:Table} (h:0<l.length):nD l [0] 0:=⟨rfl,zS,fun x hx=>by simp at hx;omega,zS,fun j hj=>zo⟩
theorem J3 {l:Table} {o o':List Nat} {k:Nat} (h:nD l o k) (hk:k<o.length) {s:Sn} (hs:l[o[k]]?=some s) (H:InR l o s.edges s.edges.length o') :
 nD l o' (k+1)∧iC l o' (k+1)=iC l o k ++ [⟨s.accept,renE o' s.edges⟩]:=by
 have hlen:=H.pre.length_le;have hmem:∀e∈s.edges,e.to.toNat∈o':=by have:=H.mem;rwa [yB] at this
 refine ⟨⟨?_,H.nodup,H.lt,zo,fun j hj hj' t ht e he=>?_⟩,?_⟩
 ·obtain⟨x,hx⟩:=H.pre;rw[← hx,yF zo];exact h.first
 ·have hjo:j<o.length:=zo;have e1:=wP H.pre hjo;rw[e1] at ht;by_cases c:j<k
  ·exact H.pre.subset (h.there j c hjo t ht e he)
  ·have:j=k:=zo;subst this;rw[hs] at ht;cases ht;exact hmem e he
 ·have e1:=wP H.pre hk;have ht:o'.take (k+1)=o.take k ++ [o[k]]:=by
   obtain⟨x,hx⟩:=H.pre;rw[← hx,List.take_append_of_le_length zo,zF hk]
  unfold iC;rw[ht,yD]
  congr 1
  ·apply List.map_congr_left;intro y hy;obtain⟨j,hj,rfl⟩:=List.mem_iff_getElem.1 hy;have hjk:j<k:=by simp at hj;omega
   simp only[List.getElem_take];have hyl:=h.lt _ (zB (show j<o.length by omega));have e2:l.getD o[j] ⟨false,[]⟩=l[o[j]]:=by simp[hyl]
   rw[e2];unfold QM
   congr 1
   exact IC H.pre (es:=(l[o[j]]).edges) (fun e he=>h.there j hjk zo _ (by simp[hyl]) e he)
  ·have e2:l.getD o[k] ⟨false,[]⟩=s:=by rw[yP,hs];rfl
   simp only[yG,List.map_nil,e2]
   rfl
end Cl
namespace Cl
theorem Fy {n:Nat} {es:List Ed}:∀{p:Int},bF n p es→∀e∈es,aY es e.lo=e.to:=by
 induction es with
 | nil=>intro p _ e he;simp at he
 | cons x es ih=>
  intro p ⟨h1,h2,h3,h4,h5⟩ e he;simp only[aY];rcases List.mem_cons.1 he with rfl | he
  ·rw[zI ⟨zG _,h1⟩]
  ·have:=(eG h5 e he).1;rw[zH zo];exact ih h5 e he
def Qp (l:Table) (out:List Bool) (s:Nat):Prop:=(bz l s=true∨∃st,l[s]?=some st∧∃e∈st.edges,bt out e.to.toNat=true)→bt out s=true
def Il (l:Table) (out:List Bool):Prop:=∀s,s<l.length→Qp l out s
def OU (l:Table) (out:List Bool):Prop:=∀s,bt out s=true→Lv l s
theorem yt {l:Table} (_:WF l) {out:List Bool} (h:Il l out):∀(w:List UInt8) (s:Nat),aC l s w=true→bt out s=true:=by
 intro w
 induction w with
 | nil=>
  intro s hs;simp only[aC] at hs;by_cases c:s<l.length
  ·exact h s c (.inl hs)
  ·have:=fI l (s:Int) [] zo;simp only[aC] at this
   rw[hs] at this;cases this
 | cons b w ih=>
  intro s hs;simp only[aC] at hs;by_cases c:s<l.length
  ·rw[dC l s _ c] at hs;have h0:0≤aY (l[s]).edges b.toNat:=by
    apply zN;intro hn;rw[bP zo] at hs;cases hs
   obtain⟨e,he,e2⟩:=EN h0;refine h s c (.inr ⟨l[s],by simp[c],e,he,?_⟩);apply ih;rw[e2,Int.toNat_of_nonneg h0];exact hs
  ·rw[dV l _ _ zo,bP zo] at hs;cases hs
theorem QV {l:Table} (hw:WF l) (hb:Bytes l) {s:Nat} {st:Sn} (hs:l[s]?=some st) {e:Ed} (he:e∈st.edges) (h:Lv l e.to):Lv l s:=by
 obtain⟨h1,h2⟩:=List.getElem?_eq_some_iff.1 hs;subst h2;obtain⟨w,hw'⟩:=h;obtain⟨u,hu⟩:=byteOf e.lo (hb _ (zB h1) e he).1;refine ⟨u::w,?_⟩;simp only[aC];rw[hu,dC l s _ h1,Fy (hw _ (zB h1)) e he];exact hw'
structure uX (l:Table) (out0 out:List Bool) (i:Nat) (C:List Bool→Prop):Prop where
 len:out.length=l.length
 sound:OU l out
 keep:out=out0∨out0.count true<out.count true
 stay:Il l out0→out=out0
 part:out=out0→(∀s,s<i→Qp l out s)∧(C out→bt out i=true)
theorem Oy {l:Table} {out0:List Bool} (h1:out0.length=l.length) (h2:OU l out0):uX l out0 out0 0 (fun _=>False):=
 ⟨h1,h2,.inl rfl,fun _=>rfl,fun _=>⟨fun s hs=>zo,fun h=>h.elim⟩⟩
theorem z8 {out:List Bool}:∀{c:Nat},c<out.length→bt out c=false→(out.set c true).count true=out.count true+1:=by
 induction out with
 | nil=>intro c h;simp at h
 | cons b out ih=>
  intro c h hb
  cases c with
  | zero=>
   simp[bt] at hb;subst hb
   simp
  | succ c=>
   have:=@ih c (by simpa using h) (by simpa [bt] using hb);simp only[List.set_cons_succ,List.count_cons];omega
theorem FP {out:List Bool} {i:Nat} (h:i<out.length):out.set i (bt out i)=out:=by
 rw[nH h];exact List.set_getElem_self _
theorem Jr {l:Table} {out0 out:List Bool} {i:Nat} {C C':List Bool→Prop} (H:uX l out0 out i C) (hi:i<l.length) (b:Bool)
 (hj:b=true→bz l i=true∨∃st,l[i]?=some st∧∃e∈st.edges,bt out e.to.toNat=true) (hl:b=true→Lv l i) (hC:C' out→C out∨b=true) :
 uX l out0 (out.set i (bt out i || b)) i C':=by
 have hil:i<out.length:=by rw[H.len];exact hi
 by_cases hc:bt out i=false∧b=true
 ·obtain⟨h1,h2⟩:=hc;have hcount:=z8 hil h1;rw[h1,h2,Bool.false_or];have hle:out0.count true≤out.count true:=by
   rcases H.keep with h | h
   ·rw[h];exact zG _
   ·omega
  refine ⟨by simp[H.len],fun s hs=>?_,.inr zo,fun hcl=>?_,fun e=>?_⟩
  ·by_cases c:s=i
   ·subst c;exact hl h2
   ·refine H.sound s ?_;simpa [bt,List.getElem?_set,show ¬ i=s from fun e=>c e.symm] using hs
  ·have e0:=H.stay hcl;have:=hcl i hi (by rw[← e0];exact hj h2);rw[← e0,h1] at this;cases this
  ·rw[← e] at hle;omega
 ·have e:(bt out i || b)=bt out i:=by
   cases h1:bt out i <;> cases h2:b <;> simp_all
  rw[e,FP hil];refine ⟨H.len,H.sound,H.keep,H.stay,fun e0=>⟨(H.part e0).1,fun hc'=>?_⟩⟩;rcases hC hc' with h | h
  ·exact (H.part e0).2 h
  ·rw[← e,h];simp
theorem Qb {l:Table} {out0 out:List Bool} {i:Nat} {C:List Bool→Prop} (H:uX l out0 out i C) (hi:i<l.length)
 (hC:(bz l i=true∨∃st,l[i]?=some st∧∃e∈st.edges,bt out e.to.toNat=true)→C out):uX l out0 out (i+1) (fun _=>False):=
 ⟨H.len,H.sound,H.keep,H.stay,fun e0=>⟨fun s hs=>by
  by_cases c:s=i
  ·subst c;exact fun h=>(H.part e0).2 (hC h)
  ·exact (H.part e0).1 s zo,fun h=>h.elim⟩⟩
structure sM (l:Table) (out:List Bool) (r:Nat):Prop where
 len:out.length=l.length
 sound:OU l out
 prog:Il l out∨r≤out.count true
theorem Oz {l:Table} {out0 out:List Bool} {r:Nat} (H0:sM l out0 r) (H:uX l out0 out l.length (fun _=>False)):sM l out (r+1):=by
 refine ⟨H.len,H.sound,?_⟩;rcases H.keep with h | h
 ·exact .inl fun s hs=>(H.part h).1 s hs
 ·rcases H0.prog with h2 | h2
  ·have:=H.stay h2;rw[this] at h;omega
  ·exact .inr zo
theorem Rt {l:Table} (hw:WF l) {out:List Bool} (H:sM l out l.length):∀s:Nat,s<l.length→(bt out s=true↔Lv l s):=by
 intro s hs;refine ⟨H.sound s,fun h=>?_⟩;obtain⟨w,hx⟩:=h;rcases H.prog with h2 | h2
 ·exact yt hw h2 w s hx
 ·have hc:out.count true=out.length:=Nat.le_antisymm List.count_le_length (by rw[H.len];exact h2);have hall:=List.count_eq_length.1 hc;have hs':s<out.length:=by rw[H.len];exact hs
  rw[nH hs'];exact (hall _ (zB hs')).symm
theorem Qa (l:Table):sM l (List.replicate l.length false) 0:=by
 refine ⟨zS,fun s hs=>?_,.inr (zC _)⟩;simp[bt,List.getElem?_replicate] at hs
 split at hs <;> simp at hs
end Cl
namespace Cl
theorem Lx (l:Table) (n:Nat) {s:Int} (h:s<0):wex l n s=[]:=by
 cases hx:wex l n s with
 | nil=>rfl
 | cons a r=>
  have:=((jL l n s a).1 (by rw[hx];simp)).2;rw[bP h] at this;cases this
def vC (l:Table) (n:Nat) (t:Int) (b:Nat):List (List UInt8):=(wex l n t).map (UInt8.ofNat b::·)
def edW (l:Table) (n:Nat) (t:Int) (lo cnt:Nat):List (List UInt8):=(List.range' lo cnt).flatMap (vC l n t)
theorem Jf (l:Table) (n:Nat) (t:Int) (lo:Nat):edW l n t lo 0=[]:=rfl
theorem Ct (l:Table) (n:Nat) (t:Int) (lo cnt:Nat):edW l n t lo (cnt+1)=edW l n t lo cnt ++ vC l n t (lo+cnt):=by
 unfold edW;rw[List.range'_concat,List.flatMap_append];simp
theorem GR {l:Table} {n:Nat} {t:Int} (h:wex l n t=[]) (lo cnt:Nat):edW l n t lo cnt=[]:=by
 unfold edW vC;rw[h];simp
def esW (l:Table) (n:Nat) (es:List Ed):List (List UInt8):=es.flatMap fun e=>edW l n e.to e.lo (e.hi+1 - e.lo)
theorem rW (l:Table) (n:Nat) (es:List Ed) {i:Nat} (h:i<es.length):esW l n (es.take (i+1))=esW l n (es.take i) ++ edW l n (es[i]).to (es[i]).lo ((es[i]).hi+1 - (es[i]).lo):=by
 unfold esW;rw[zF h,List.flatMap_append];simp
theorem flatMap_nil {α β:Type} {f:α→List β}:∀{l:List α},(∀x∈l,f x=[])→l.flatMap f=[]
 | [],_=>rfl
 | a::l,h=>by rw[List.flatMap_cons,h a zS,flatMap_nil fun x hx=>h x (by simp[hx])];rfl
theorem ku {α β:Type} {f g:α→List β}:∀{l:List α},(∀x∈l,f x=g x)→l.flatMap f=l.flatMap g
 | [],_=>rfl
 | a::l,h=>by rw[List.flatMap_cons,List.flatMap_cons,h a zS,ku fun x hx=>h x (by simp[hx])]
theorem NC {l:Table} {n N:Nat}:∀(es:List Ed) (q:Nat),bF N ((q:Int) - 1) es→fD es→q≤256 →
 (List.range' q (256 - q)).flatMap (fun b=>vC l n (aY es b) b)=esW l n es
 | [],q,_,_,_=>flatMap_nil fun b _=>by
  show (wex l n (-1)).map _=[]
  rw[Lx l n zo];rfl
 | e::es,q,⟨h1,h2,h3,h4,h5⟩,hb,hq=>by
  have hbe:=hb e zS;have e1:List.range' q (256 - q)=List.range' q (e.lo - q) ++ (List.range' e.lo (e.hi+1 - e.lo) ++ List.range' (e.hi+1) (256 - (e.hi+1))):=by
   have a1:List.range' e.lo (256 - e.lo)=List.range' e.lo (e.hi+1 - e.lo) ++ List.range' (e.hi+1) (256 - (e.hi+1)):=by
    have:=List.range'_append_1 (s:=e.lo) (m:=e.hi+1 - e.lo) (n:=256 - (e.hi+1));rw[show e.lo+(e.hi+1 - e.lo)=e.hi+1 by omega] at this;rw[this];congr 1;omega
   have a2:=List.range'_append_1 (s:=q) (m:=e.lo - q) (n:=256 - e.lo);rw[show q+(e.lo - q)=e.lo by omega] at a2;rw[← a1,a2];congr 1;omega
  rw[e1,List.flatMap_append,List.flatMap_append];rw[flatMap_nil (l:=List.range' q (e.lo - q)) fun b hb'=>by
   have hr:=List.mem_range'_1.1 hb';have:aY (e::es) b = -1:=o9 _ _ fun x hx hh=>by
    rcases List.mem_cons.1 hx with rfl | hx
    ·omega
    ·have:=(eG h5 x hx).1;omega
   show (wex l n _).map _=[];rw[this,Lx l n zo];rfl]
  rw[ku (l:=List.range' e.lo (e.hi+1 - e.lo)) (g:=vC l n e.to) fun b hb'=>by
   have hr:=List.mem_range'_1.1 hb';show vC l n (aY (e::es) b) b=_;simp only[aY];rw[zI ⟨zo,zo⟩]]
  rw[ku (l:=List.range' (e.hi+1) (256 - (e.hi+1))) (g:=fun b=>vC l n (aY es b) b) fun b hb'=>by
   have hr:=List.mem_range'_1.1 hb';show vC l n (aY (e::es) b) b=_;simp only[aY];rw[zH zo]]
  rw[NC es (e.hi+1) (by rw[show (((e.hi+1:Nat):Int) - 1)=(e.hi:Int) by omega];exact h5) (fun x hx=>hb x (by simp[hx])) zo]
  rfl
theorem Fz {l:Table} (hw:WF l) (hb:Bytes l) {s:Nat} (hs:s<l.length) (n:Nat):wex l (n+1) (s:Int)=esW l n (l[s]).edges:=by
 have h:=NC (l:=l) (n:=n) (l[s]).edges 0 (by have:=hw l[s] (zB hs);simpa using this) (hb l[s] (zB hs)) zo;rw[← h];unfold wex;rw[List.range_eq_range'];exact ku fun b _=>by rw[dC l s b hs];rfl
def canN (l:Table) (n:Nat):List Bool:=(List.range l.length).map fun (s:Nat) => !(wex l n (s:Int)).isEmpty
theorem sF (l:Table) (n:Nat):(canN l n).length=l.length:=by simp[canN]
theorem nz (l:Table) (n:Nat) {s:Nat} (h:s<l.length):(canN l n)[s]?=some (!(wex l n (s:Int)).isEmpty):=by simp[canN,h]
theorem Ff (l:Table):canN l 0=l.map (·.accept):=by
 apply List.ext_getElem
 ·simp[canN]
 ·intro i h1 h2;have hi:i<l.length:=by simpa using h2
  simp only[canN,List.getElem_map,List.getElem_range];unfold wex;rw[eZ l i hi];cases (l[i]).accept <;> rfl
theorem EP {l:Table} {n:Nat} {es:List Ed} {N:Nat} {p:Int} (hw:bF N p es):(esW l n es=[])↔∀e∈es,wex l n e.to=[]:=by
 constructor
 ·intro h e he;have h1:=eG hw e he;unfold esW at h;have h2:=List.flatMap_eq_nil_iff.1 h e he;unfold edW at h2;have h3:=List.flatMap_eq_nil_iff.1 h2 e.lo (List.mem_range'_1.2 ⟨zG _,zo⟩);exact List.map_eq_nil_iff.1 h3
 ·intro h;exact flatMap_nil fun e he=>GR (h e he) _ _
theorem yg {l:Table} (hw:WF l) (hb:Bytes l) (n:Nat):canN l (n+1)=l.map fun s=>s.edges.any fun e=>(canN l n).getD e.to.toNat false:=by
 apply List.ext_getElem
 ·simp[canN]
 ·intro i h1 h2;have hi:i<l.length:=by simpa using h2
  have e1:(canN l (n+1))[i] = !(wex l (n+1) (i:Int)).isEmpty:=by simp[canN]
  rw[e1,List.getElem_map,Fz hw hb hi,Bool.eq_iff_iff];have hwi:=hw l[i] (zB hi);have key:∀e∈(l[i]).edges,(canN l n).getD e.to.toNat false=true↔wex l n e.to≠[]:=by
   intro e he;have:=eG hwi e he;rw[yP,nz l n zo,Option.getD_some,Int.toNat_of_nonneg this.2.2.1];simp
  rw[List.any_eq_true];constructor
  ·intro h;have hne:¬ (esW l n (l[i]).edges=[]):=by simpa using h
   rw[EP hwi] at hne;apply zN;intro hc;exact hne fun e he=>zN fun hx=>hc ⟨e,he,(key e he).2 hx⟩
  ·rintro ⟨e,he,hx⟩;have:=(key e he).1 hx;have hne:¬ (esW l n (l[i]).edges=[]):=fun h=>this ((EP hwi).1 h e he);simpa using hne
theorem K7 {l:Table} (h:Canon l):∀t,t<l.length→∃u,lg l 0 u=t:=by
 intro t
 induction t using Nat.strongRecOn with
 | _ t ih=>
  intro ht;by_cases h0:t=0
  ·exact⟨[],by rw[h0];rfl⟩
  ·obtain⟨k,b,hk,hb,hs⟩:=h.reach t zo ht;obtain⟨u,hu⟩:=ih k hk zo;obtain⟨c,hc⟩:=byteOf b hb;refine ⟨u ++ [c],?_⟩;have:∀(u v:List UInt8) (s:Int),lg l s (u ++ v)=lg l (lg l s u) v:=by
    intro u v
    induction u with
    | nil=>intro s;rfl
    | cons a u ih=>intro s;exact ih _
   rw[this,hu];show bD l k c.toNat=t;rw[hc];exact hs
theorem K8 {l:Table} (h:Canon l) {K n:Nat} (hK:(enum l 0 n).length<K) (hn:K*l.length<n):canN l (n - 1)=List.replicate l.length false:=by
 apply List.ext_getElem
 ·simp[canN]
 ·intro i h1 h2;have hi:i<l.length:=by simpa using h2
  simp only[canN,List.getElem_map,List.getElem_range,List.getElem_replicate];rw[Bool.not_eq_false',List.isEmpty_iff];apply zN;intro hne;obtain⟨y,hy⟩:=List.exists_mem_of_ne_nil _ hne;obtain⟨g1,g2⟩:=(jL _ _ _ _).1 hy;obtain⟨u,hu⟩:=K7 h i hi;have hacc:aC l 0 (u ++ y)=true:=by rw[jO,hu];exact g2
  have:=xP hacc K (by simp;omega);have:=EQ (l:=l) (s:=0) (show K*l.length≤n by omega);omega
theorem Oe {l:Table} (hw:WF l) (hb:Bytes l) {n:Nat} (h:∀b∈canN l n,b=false):∀m,n≤m→∀b∈canN l m,b=false:=by
 intro m hm
 induction hm with
 | refl=>exact h
 | step _ ih=>
  rw[yg hw hb];intro b hbm;obtain⟨s,hs,rfl⟩:=List.mem_map.1 hbm;rw[Bool.eq_false_iff];intro hx;obtain⟨e,he,hx⟩:=List.any_eq_true.1 hx;rw[yP] at hx
  cases hg:(canN l _)[e.to.toNat]? with
  | none=>rw[hg] at hx;simp at hx
  | some b=>
   rw[hg] at hx;have:=ih b (List.mem_of_getElem? hg);rw[this] at hx;simp at hx
theorem ND {l:Table} (hw:WF l) (hb:Bytes l) {n:Nat} (h:∀b∈canN l n,b=false):∀y,aC l 0 y=true→y.length<n:=by
 intro y hy;apply zN;intro hn;have h1:=Oe hw hb h y.length zo;have hr:=nC hy;have h0:0<l.length:=zo;have h2:=h1 _ (List.mem_of_getElem? (nz l y.length h0));have h3:y∈wex l y.length ((0:Nat):Int):=(jL _ _ _ _).2 ⟨rfl,hy⟩;rw[Bool.not_eq_false',List.isEmpty_iff] at h2;rw[h2] at h3;simp at h3
end Cl
namespace Cl
theorem Ky (l:List Spn) (k:Nat) (h:k<l.length):ma (l.take (k+1))=ma (l.take k) ++ if (lL l[k]).1≤(lL l[k]).2 then [lL l[k]] else []:=by
 rw[zF h];unfold ma;rw[yD,List.filter_append]
 congr 1
 by_cases hc:(lL l[k]).1≤(lL l[k]).2 <;> simp[hc]
theorem Bc (l:List Spn) (k:Nat) (h:k<l.length):jM (l.take (k+1))=jM (l.take k) ++ if (iH l[k]).1≤(iH l[k]).2 then [iH l[k]] else []:=by
 rw[zF h];unfold jM;rw[yD,List.filter_append]
 congr 1
 by_cases hc:(iH l[k]).1≤(iH l[k]).2 <;> simp[hc]
theorem KD (nx:Int→Int) (p:List Spn) (k:Nat) (h:k<p.length) (t:Spn) (r:List Spn) :
 jB nx (p.drop k) (t::r)=if p[k].1≤nx t.2 then jB nx (p.drop (k+1)) ((t.1,max t.2 p[k].2)::r) else jB nx (p.drop (k+1)) (p[k]::t::r):=by
 rw[zZ h,jB]
theorem GD (nx:Int→Int) (p:List Spn) (k:Nat) (h:k<p.length):jB nx (p.drop k) []=jB nx (p.drop (k+1)) [p[k]]:=by
 rw[zZ h,jB]
theorem MX (x:Spn) (b:List Spn) (k:Nat) (h:k<b.length) :
 ((b.take (k+1)).map (kg x)).filter (fun z=>decide (z.1≤z.2))=((b.take k).map (kg x)).filter (fun z=>decide (z.1≤z.2)) ++ if (kg x b[k]).1≤(kg x b[k]).2 then [kg x b[k]] else []:=by
 rw[zF h,yD,List.filter_append]
 congr 1
 by_cases hc:(kg x b[k]).1≤(kg x b[k]).2 <;> simp[hc]
theorem GZ (a b:List Spn) (k:Nat) (h:k<a.length):dP (a.take (k+1)) b=dP (a.take k) b ++ (b.map (kg a[k])).filter fun z=>decide (z.1≤z.2):=by
 rw[zF h];unfold dP;rw[List.flatMap_append];simp
theorem kE:∀(l r:List Int) (b:Option Int),dN (l ++ r) b=dN r (dN l b)
 | [],r,b=>rfl
 | u::l,r,none=>by simp only[List.cons_append,dN];exact kE l r _
 | u::l,r,some b=>by simp only[List.cons_append,dN];exact kE l r _
theorem Kz {l:List Spn}:∀s∈ma l,-fG≤s.1∧s.2≤fG∧s.1≤s.2:=fun s h=>by
 have h1:=IZ s h;obtain⟨t,-,rfl⟩:=List.mem_map.1 (List.mem_filter.1 h).1;unfold lL at *
 simp only[fG] at *
 omega
theorem Bd {l:List Spn}:∀s∈jM l,-maxU - 1≤s.1∧s.2≤maxU+1∧s.1≤s.2:=fun s h=>by
 have h1:=I5 s h;obtain⟨t,-,e⟩:=List.mem_map.1 (List.mem_filter.1 h).1;have e1:s.1=if (max t.1 (-maxU)) % 10000=0 then max t.1 (-maxU)+1 else max t.1 (-maxU):=by rw[← e];rfl
 have e2:s.2=if (min t.2 maxU) % 10000=0 then min t.2 maxU - 1 else min t.2 maxU:=by rw[← e];rfl
 have b1:s.1=max t.1 (-maxU)+1∨s.1=max t.1 (-maxU):=by rw[e1];split <;> simp
 have b2:s.2=min t.2 maxU - 1∨s.2=min t.2 maxU:=by rw[e2];split <;> simp
 simp only[maxU] at *
 omega
end Cl
namespace Cl
theorem Ih {p:El→Prop} (h:∀e,p e↔∃u,e=.num u∧bG u∧50000<u∧u % 10000=0):fJ p (some (.num 60000)):=by
 refine ⟨(h _).2 ⟨60000,rfl,by simp[bG,maxU],zo,zo⟩,fun e he=>?_⟩;obtain⟨u,rfl,h1,h2,h3⟩:=(h e).1 he;by_cases e:u=60000
 ·exact .inl (by rw[e])
 ·right;show near 60000 u;unfold near;omega
theorem Rh:¬ Canon [⟨false,[]⟩]:=fun h=>by
 have hl:∀x,aC [⟨false,[]⟩] 0 x=aC [] 0 x:=fun x=>by
  rw[cu];show aC [⟨false,[]⟩] 0 x=false
  cases x with
  | nil=>rfl
  | cons a r=>exact bP (l:=[⟨false,[]⟩]) (s := -1) zD r
 have:=lH h dM hl;cases this
end Cl
namespace Cl
theorem Nc (out:List Spn) (j:Nat) (h:j<out.length) (s:Spn) (d:Bool) :
 insS s d (out.drop j)=if out[j].2+1<s.1 then out[j]::insS s d (out.drop (j+1)) else if s.2+1<out[j].1 then (if d then [] else [s]) ++ out[j]::insS s true (out.drop (j+1)) else insS (min s.1 out[j].1,max s.2 out[j].2) d (out.drop (j+1)):=by
 rw[zZ h,insS]
theorem Em (l:List Spn) (k:Nat) (h:k<l.length):fP (l.take (k+1))=if l[k].2<l[k].1 then fP (l.take k) else insS l[k] false (fP (l.take k)):=by
 rw[zF h];unfold fP;rw[List.foldl_append]
 rfl
theorem KJ (l:List Spn) (k:Nat) (h:k<l.length) (lo hi:Int):jC (l.drop k) lo hi=(if lo<l[k].1 then [(lo,l[k].1 - 1)] else []) ++ jC (l.drop (k+1)) (l[k].2+1) hi:=by
 rw[zZ h,jC]
theorem KL (nx pv:Int→Int) (l:List Spn) (k:Nat) (h:k<l.length) (lo hi:Int):gD nx pv (l.drop k) lo hi=(if lo≤pv l[k].1 then [(lo,pv l[k].1)] else []) ++ gD nx pv (l.drop (k+1)) (nx l[k].2) hi:=by
 rw[zZ h,gD]
theorem Gq (l:List Spn) (x:Int):mems (l.filter fun s=>decide (s.1≤s.2)) x↔mems l x:=by
 constructor
 ·rintro ⟨s,hs,h1,h2⟩;exact⟨s,(List.mem_filter.1 hs).1,h1,h2⟩
 ·rintro ⟨s,hs,h1,h2⟩;exact⟨s,List.mem_filter.2 ⟨hs,by simp;omega⟩,h1,h2⟩
theorem En (l:List Spn):fP (l.map lL)=lD l:=
 kP (dx _).1 (dx _).1 fun x=>by
  rw[(dx _).2];unfold lD;rw[(dx _).2];exact (Gq _ x).symm
theorem KA {t:Spn} (h:min t.2 maxU<max t.1 (-maxU)):¬ (iH t).1≤(iH t).2:=by
 have e1:(iH t).1=if (max t.1 (-maxU)) % 10000=0 then max t.1 (-maxU)+1 else max t.1 (-maxU):=rfl;have e2:(iH t).2=if (min t.2 maxU) % 10000=0 then min t.2 maxU - 1 else min t.2 maxU:=rfl;have b1:(iH t).1=max t.1 (-maxU)+1∨(iH t).1=max t.1 (-maxU):=by rw[e1];split <;> simp
 have b2:(iH t).2=min t.2 maxU - 1∨(iH t).2=min t.2 maxU:=by rw[e2];split <;> simp
 omega
theorem wH {l:List Spn}:∀s∈(jM l).map lJ,jT - 1≤s.1∧s.2≤nX+1:=fun s hs=>by
 obtain⟨t,ht,rfl⟩:=List.mem_map.1 hs;have h1:=Bd t ht;have e1:(lJ t).1=fA t.1:=rfl;have e2:(lJ t).2=fA t.2:=rfl;have f:=oZ t ht;rw[e1,e2];unfold fA;simp only[maxU,jT,nX] at *
 omega
end Cl
namespace Cl
theorem pQ {l:List Spn} {lo hi:Int} (h:∀s∈l,s.1≤s.2→lo≤s.1∧s.2≤hi):∀s∈fP l,lo≤s.1∧s.2≤hi:=
 tJ (dx l).1 fun x hx=>by
  obtain⟨t,ht,h1,h2⟩:=((dx l).2 x).1 hx;have:=h t ht zo;omega
theorem Eo {l:List Spn} {lo hi:Int} (h:∀s∈l,s.1≤s.2→lo≤s.1∧s.2≤hi):∀s∈fP l,lo≤s.1∧s.2≤hi∧s.1≤s.2:=
 fun s hs=>⟨(pQ h s hs).1,(pQ h s hs).2,(dx l).1.ok s hs⟩
def pI (s:Spn):Prop:=s.1≤s.2 → -1000000000000002≤s.1∧s.2≤1000000000000002
theorem pI.take {l:List Spn} (h:∀s∈l,pI s) (k:Nat):∀s∈l.take k,pI s:=fun s hs=>h s (List.mem_of_mem_take hs)
theorem Py (s:Spn) (d:Bool) (out:List Spn):insS s d (out.drop out.length)=if d then [] else [s]:=by
 rw[List.drop_length];rfl
theorem Nw (l:List Spn) (lo hi:Int):jC (l.drop l.length) lo hi=if lo≤hi then [(lo,hi)] else []:=by
 rw[List.drop_length];rfl
end Cl
namespace Cl
def bndE (op:List UInt8) (u:Int):Int:=if known op=true then (if bG u then 0 else 1) else 8
def bndN (op:List UInt8) (u:Int):NS:=if known op=true∧bG u then dZ op u else mi
theorem yh {op:List UInt8} {u:Int} (h:known op=false):bndE op u=8∧bndN op u=mi:=by
 unfold bndE bndN;simp[h]
theorem Oq {op:List UInt8} {u:Int} (h:known op=true) (h2:¬ bG u):bndE op u=1∧bndN op u=mi:=by
 unfold bndE bndN;simp[h,h2]
theorem vP {op:List UInt8} {u:Int} (h:known op=true) (h2:bG u):bndE op u=0∧bndN op u=dZ op u:=by
 unfold bndE bndN;simp[h,h2]
end Cl
namespace Cl
theorem MK:ScIs (fun e=>some El.nul=some e) ⟨true,false,false,[],[],[]⟩:=
 gZ (x:=mi) zS zS zS kU (fun u=>⟨fun h=>absurd h (jg u),fun h=>by cases h⟩) dM (fun w=>by simp[fF dM,cu])
theorem ML:ScIs (fun e=>some El.fal=some e) ⟨false,true,false,[],[],[]⟩:=
 gZ (x:=mi) zS zS zS kU (fun u=>⟨fun h=>absurd h (jg u),fun h=>by cases h⟩) dM (fun w=>by simp[fF dM,cu])
theorem MH:ScIs (fun e=>some El.tru=some e) ⟨false,false,true,[],[],[]⟩:=
 gZ (x:=mi) zS zS zS kU (fun u=>⟨fun h=>absurd h (jg u),fun h=>by cases h⟩) dM (fun w=>by simp[fF dM,cu])
theorem MJ {u:Int} (hu:bG u):ScIs (fun e=>some (El.num u)=some e) ⟨false,false,false,(eqN u).i,(eqN u).rf,[]⟩:=
 gZ (x:=eqN u) zS zS zS (pW u) (fun v=>by
  rw[xM];constructor
  ·rintro ⟨-,rfl⟩;rfl
  ·intro h;cases h;exact⟨hu,rfl⟩) dM (fun w=>by simp[fF dM,cu])
theorem MI {z:List UInt8} {C:Table} (h:eQ (fun v=>decide (v=z)) C):ScIs (fun e=>some (El.str z)=some e) ⟨false,false,false,[],[],C⟩:=
 gZ (x:=mi) zS zS zS kU (fun u=>⟨fun h=>absurd h (jg u),fun h=>by cases h⟩) h.canon (fun w=>by
  rw[h.sem];simp only[decide_eq_true_eq,Option.some.injEq,El.str.injEq];exact eq_comm)
theorem oU:ScIs (fun e=>(none:Option El)=some e) dY:=xQ.congr fun e=>⟨False.elim,fun h=>by cases h⟩
inductive uW (k n:Int) (s:ByteArray) (de:Option El) (er:Int):Prop
 | nul (hk:k=1) (h:de=some .nul) (he:er=0):uW k n s de er
 | fal (hk:k=2) (hn:n=0) (h:de=some .fal) (he:er=0):uW k n s de er
 | tru (hk:k=2) (hn:n=1) (h:de=some .tru) (he:er=0):uW k n s de er
 | num (hk:k=3) (hv:bG n) (h:de=some (.num n)) (he:er=0):uW k n s de er
 | str (hk:k=4) (h:de=some (.str s.data.toList)) (he:er=0):uW k n s de er
 | parts (hk:k=5∨k=6) (h:de=none) (he:er=11):uW k n s de er
theorem IL {d:Dt} (h:chkD d 1=0):uW d.kind d.num d.str (dtEl d) (ofE d):=by
 obtain⟨h1,h2,-⟩:=kL (qM h);obtain⟨hk,-⟩:=oO h1;have hd:dtEl d=if d.kind=1 then some .nul else if d.kind=2 then (if d.num=0 then some .fal else some .tru) else if d.kind=3 then some (.num d.num) else if d.kind=4 then some (.str d.str.data.toList) else none:=by
  unfold dtEl;rw[zH (by simpa using h)]
 have he:ofE d=if d.kind=5∨d.kind=6 then 11 else 0:=by unfold ofE;rw[zH (by simpa using h)]
 rw[hd,he];rcases (show d.kind=1∨d.kind=2∨d.kind=3∨d.kind=4∨d.kind=5∨d.kind=6 by omega) with e | e | e | e | e | e
 ·exact .nul e (by simp[e]) (by simp[e])
 ·by_cases h0:d.num=0
  ·exact .fal e h0 (by simp[e,h0]) (by simp[e])
  ·have:d.num=1:=zN fun h3=>h2 (.inl ⟨e,h0,h3⟩);exact .tru e this (by simp[e,this]) (by simp[e])
 ·refine .num e (zN fun hn=>h2 (.inr ⟨e,?_⟩)) (by simp[e]) (by simp[e]);simpa [bG,maxU] using hn
 ·exact .str e (by simp[e]) (by simp[e])
 ·exact .parts (.inl e) (by simp[e]) (by simp[e])
 ·exact .parts (.inr e) (by simp[e]) (by simp[e])
theorem Pg {d:Dt} (h:chkD d 1≠0):dtEl d=none∧ofE d=chkD d 1:=⟨by unfold dtEl;rw[zI h],by unfold ofE;rw[zI h]⟩
end Cl
namespace Cl
theorem Hy {op:List UInt8} {d:Dt} (h:dtEl d=none) (e:El):¬ jy op d e:=by unfold jy;rw[h];exact id
theorem Fg {d:Dt} {a:El} (h:dtEl d=some a) (e:El):jy [33,61] d e↔e≠a∧elOk e:=by
 unfold jy;rw[h];simp[opNe]
theorem Ec {op:List UInt8} (h:mM op=true):known op=true:=by
 simp only[mM,Bool.or_eq_true] at h;simp only[known,Bool.or_eq_true];exact .inl (.inl h)
theorem MC {op:List UInt8} (h:mM op=true):op≠opNe:=by
 rintro rfl;exact absurd h zD
theorem Oi {op:List UInt8} {d:Dt} {u:Int} (ho:mM op=true) (h:dtEl d=some (.num u)):ScIs (jy op d) ⟨false,false,false,(dZ op u).i,(dZ op u).rf,[]⟩:=by
 have hp:∀e,jy op d e↔(match e with | .num v=>bG v∧relN op v u | _=>False):=fun e=>by
  unfold jy;rw[h];simp only[zH (MC ho),zI ho];cases e <;> exact Iff.rfl
 exact gZ (x:=dZ op u) (by rw[hp];simp) (by rw[hp];simp) (by rw[hp];simp) (Oj op u) (fun v=>by rw[Lb (Ec ho),hp]) dM (fun w=>by rw[hp];simp[fF dM,cu])
theorem Oh {op:List UInt8} {d:Dt} {z:List UInt8} {f:List UInt8→Bool} {C:Table} (ho:mM op=true) (h:dtEl d=some (.str z)) (hf:eF op z=some f) (hC:eQ f C):ScIs (jy op d) ⟨false,false,false,[],[],C⟩:=by
 have hp:∀e,jy op d e↔(match e with | .str x=>f x=true | _=>False):=fun e=>by
  unfold jy;rw[h];simp only[zH (MC ho),zI ho];cases e <;> simp[hf]
 exact gZ (x:=mi) (by rw[hp];simp) (by rw[hp];simp) (by rw[hp];simp) kU (fun v=>by rw[hp];exact⟨fun h=>absurd h (jg v),False.elim⟩) hC.canon (fun w=>by rw[hp,hC.sem])
theorem La {op:List UInt8} {d:Dt} {a:El} (ho:mM op=true) (h:dtEl d=some a) (ha:a=.nul∨a=.fal∨a=.tru) (e:El):¬ jy op d e:=by
 unfold jy;rw[h];simp only[zH (MC ho),zI ho];rcases ha with rfl | rfl | rfl <;> exact id
theorem Og {op:List UInt8} {d:Dt} (ho:mM op=false) (hne:op≠[33,61]) (e:El):¬ jy op d e:=by
 unfold jy
 split
 ·exact id
 ·rw[zH (show ¬ op=opNe from hne),zH (by rw[ho];simp)];exact id
theorem rX {p:El→Prop} (h:∀e,¬ p e):ScIs p dY:=xQ.congr fun e=>⟨False.elim,h e⟩
theorem wT {op:List UInt8} (h:mM op=true):op=[60]∨op=[60,61]∨op=[62]∨op=[62,61]:=by
 unfold mM opLt opLe opGt opGe at h;by_cases h0:op=[60]
 ·exact .inl h0
 by_cases h1:op=[60,61]
 ·exact .inr (.inl h1)
 by_cases h2:op=[62]
 ·exact .inr (.inr (.inl h2))
 by_cases h3:op=[62,61]
 ·exact .inr (.inr (.inr h3))
 simp[h0,h1,h2,h3] at h
theorem QO {op:List UInt8} (h:mM op=false):op≠[60]∧op≠[60,61]∧op≠[62]∧op≠[62,61]:=by
 refine ⟨?_,?_,?_,?_⟩ <;> rintro rfl <;> exact absurd h zD
theorem Ol (op:List UInt8) (u:Int):(dZ op u).i.length≤2∧(dZ op u).rf.length≤2:=by
 have h1:(ltN u).Le 1:=eu zS zS;have h2:(leN u).Le 1:=eu zS zS;have h3:(eqN u).Le 1:=eu zS zS;have:(dZ op u).Le 2:=by
  unfold dZ
  repeat' split
  ·exact h1.mono zo
  ·exact h2.mono zo
  ·exact jV h2
  ·exact jV h1
  ·exact h3.mono zo
  ·exact jV h3
 exact⟨this.i,by rw[NS.jR];exact this.f⟩
end Cl
namespace Cl
def cb (A:Table) (s n:Nat):Bool := !(wex A n (s:Int)).isEmpty
theorem Ro {A:Table} {s:Nat} (h:s<A.length):cb A s 0=(A[s]).accept:=by
 have h1:=nz A 0 h;rw[Ff] at h1;simp[h] at h1;unfold cb;rw[h1]
theorem Rp {A:Table} (hw:WF A) (hb:Bytes A) {s:Nat} (h:s<A.length) (n:Nat):cb A s (n+1)=(A[s]).edges.any fun e=>cb A e.to.toNat n:=by
 have h1:=nz A (n+1) h;rw[yg hw hb n] at h1;simp[h] at h1;unfold cb;rw[← h1];rw[Bool.eq_iff_iff,List.any_eq_true,List.any_eq_true];constructor
 ·rintro ⟨e,he,hx⟩;refine ⟨e,he,?_⟩;have:=eG (hw _ (zB h)) e he;have hlt:e.to.toNat<A.length:=zo;have h2:=nz A n hlt;simp[canN] at h2;simpa [canN,hlt] using hx
 ·rintro ⟨e,he,hx⟩;refine ⟨e,he,?_⟩;have:=eG (hw _ (zB h)) e he;have hlt:e.to.toNat<A.length:=zo;simpa [canN,hlt] using hx
def f1 (A:Table) (s n:Nat):Bool:=decide (n=0)&&cb A s 0
def f2 (A:Table) (k s n:Nat):Bool:=decide (n<k)&&cb A s n
def f3 (A:Table) (k t s n:Nat):Bool:=decide (n<k∨n=k∧s<t)&&cb A s n
def f4 (A:Table) (k t:Nat) (es:List Ed) (s n:Nat):Bool:=f3 A k t s n || (decide (n=k∧s=t)&&es.any fun e=>cb A e.to.toNat (k - 1))
theorem SG (A:Table) (s n:Nat):f1 A s n=f2 A 1 s n:=by
 unfold f1 f2;by_cases h:n=0
 ·subst h;simp
 ·simp[h]
theorem SE (A:Table) (k s n:Nat):f2 A k s n=f3 A k 0 s n:=by simp[f2,f3]
theorem SC (A:Table) (k s n:Nat) (h:s<A.length):f3 A k A.length s n=f2 A (k+1) s n:=by
 unfold f2 f3;have:(n<k∨n=k∧s<A.length)↔n<k+1:=zo;simp[this]
theorem SB (A:Table) (k t s n:Nat):f3 A k t s n=f4 A k t [] s n:=by simp[f4]
theorem SA {A:Table} (hw:WF A) (hb:Bytes A) {k t:Nat} (hk:1≤k) (h:t<A.length) (s n:Nat):f4 A k t (A[t]).edges s n=f3 A k (t+1) s n:=by
 obtain⟨k,rfl⟩:∃j,k=j+1:=⟨k - 1,zo⟩;unfold f4;rw[Nat.add_sub_cancel,← Rp hw hb h k];unfold f3;by_cases e:n=k+1∧s=t
 ·obtain⟨rfl,rfl⟩:=e;simp
 ·have:(n<k+1∨n=k+1∧s<t)↔(n<k+1∨n=k+1∧s<t+1):=zo;have hd:decide (n<k+1∨n=k+1∧s<t)=decide (n<k+1∨n=k+1∧s<t+1):=decide_eq_decide.2 this;rw[hd];simp[e]
theorem Q8 (A:Table) (k t:Nat) (es:List Ed) (e:Ed) (s n:Nat):f4 A k t (es ++ [e]) s n=if s=t∧n=k then (f4 A k t es s n || cb A e.to.toNat (k - 1)) else f4 A k t es s n:=by
 unfold f4;by_cases h:s=t∧n=k
 ·rw[zI h];obtain⟨rfl,rfl⟩:=h;simp[List.any_append,Bool.or_assoc]
 ·rw[zH h];have:¬ (n=k∧s=t):=fun x=>h ⟨x.2,x.1⟩;simp[this]
theorem SF {A:Table} {k s n:Nat} (h:n<k):f2 A k s n=cb A s n:=by simp[f2,h]
theorem Sa {A:Table} {k t s n:Nat} {es:List Ed} (h:n<k):f4 A k t es s n=cb A s n:=by
 have:¬ n=k:=zo;simp[f4,f3,h,this]
end Cl
namespace Cl
def zw (l:Table) (s:Int):List Ed:=if s<0 then [] else match l[s.toNat]? with
 | some st=>st.edges
 | none=>[]
theorem mG (l:Table) (s:Int) (b:Nat):bD l s b=aY (zw l s) b:=by
 unfold bD zw
 split
 ·rfl
 ·cases l[s.toNat]? <;> rfl
def cutS (b:Nat) (o:Nat) (e:Ed):Nat:=
 let o1:=if b<e.lo then min o e.lo else o
 if b≤e.hi then min o1 (e.hi+1) else o1
def cutE (b:Nat) (es:List Ed) (o:Nat):Nat:=es.foldl (cutS b) o
theorem PP (b o:Nat):cutE b [] o=o:=rfl
theorem NM (b o:Nat) {es:List Ed} {j:Nat} (h:j<es.length):cutE b (es.take (j+1)) o=cutS b (cutE b (es.take j) o) es[j]:=by
 unfold cutE;rw[zF h,List.foldl_append]
 rfl
theorem Rj (b o:Nat) (e:Ed):cutS b o e≤o:=by
 unfold cutS;simp only
 split <;> split <;> omega
theorem Rk {b o:Nat} (e:Ed) (h:b<o):b<cutS b o e:=by
 unfold cutS;simp only
 split <;> split <;> omega
theorem xW (b:Nat):∀(es:List Ed) (o:Nat),cutE b es o≤o
 | [],_=>zG _
 | e::es,o=>yE (xW b es (cutS b o e)) (Rj b o e)
theorem GY {b:Nat}:∀(es:List Ed) (o:Nat),b<o→b<cutE b es o
 | [],_,h=>h
 | e::es,o,h=>GY es (cutS b o e) (Rk e h)
theorem tV {b:Nat}:∀(es:List Ed) (o c:Nat),b≤c→c<cutE b es o→aY es c=aY es b
 | [],_,_,_,_=>rfl
 | e::es,o,c,h1,h2=>by
  have ih:=tV es (cutS b o e) c h1 h2;have hlt:c<cutS b o e:=Nat.lt_of_lt_of_le h2 (xW b es _);simp only[aY];rw[ih];unfold cutS at hlt;simp only at hlt;by_cases h3:b<e.lo
  ·rw[zI h3] at hlt;have h4:¬ (e.lo≤b∧b≤e.hi):=zo;have h5:¬ (e.lo≤c∧c≤e.hi):=by split at hlt <;> omega
   rw[zH h4,zH h5]
  ·rw[zH h3] at hlt;by_cases h4:b≤e.hi
   ·rw[zI h4] at hlt;rw[zI ⟨zo,zo⟩,zI ⟨zo,h4⟩]
   ·rw[zH zo,zH zo]
def tT (Ls:List Table) (ps:List Int) (b:Nat):Nat→Nat
 | 0=>256
 | k+1=>cutE b (zw (Ls.getD k []) (ps.getD k (-1))) (tT Ls ps b k)
theorem Cx {Ls:List Table} {ps:List Int} {b:Nat} (h:b<256):∀k,b<tT Ls ps b k
 | 0=>h
 | k+1=>GY _ _ (Cx h k)
theorem Cw (Ls:List Table) (ps:List Int) (b:Nat):∀k,tT Ls ps b k≤256
 | 0=>zG _
 | k+1=>yE (xW _ _ _) (Cw Ls ps b k)
theorem KV {A B:Table} {p:Int × Int} {b c:Nat} (h1:b≤c) (h2:c<tT [A,B] [p.1,p.2] b 2):jJ A B p c=jJ A B p b:=by
 have h2:c<cutE b (zw B p.2) (cutE b (zw A p.1) 256):=h2;have h3:c<cutE b (zw A p.1) 256:=Nat.lt_of_lt_of_le h2 (xW _ _ _);unfold jJ;rw[mG,mG,mG,mG,tV _ _ _ h1 h3,tV _ _ _ h1 h2]
end Cl
namespace Cl
theorem Ir {α:Type} {a b:List α} {n:Nat} (h:a <+: b) (hn:n≤a.length):a.take n=b.take n:=by
 obtain⟨c,rfl⟩:=h;rw[List.take_append_of_le_length hn]
theorem Rb (l:Table) (n:Nat) (t:Int) (lo:Nat) {c d:Nat} (h:c≤d):edW l n t lo c <+: edW l n t lo d:=by
 induction d with
 | zero=>
  have:c=0:=zo
  subst this;exact List.prefix_rfl
 | succ d ih=>
  by_cases e:c=d+1
  ·subst e;exact List.prefix_rfl
  ·rw[Ct];exact List.IsPrefix.trans (ih zo) (List.prefix_append _ _)
theorem Q9 (l:Table) (n:Nat) (es:List Ed) {i j:Nat} (h:i≤j) (hj:j≤es.length):esW l n (es.take i) <+: esW l n (es.take j):=by
 induction j with
 | zero=>
  have:i=0:=zo
  subst this;exact List.prefix_rfl
 | succ j ih=>
  by_cases e:i=j+1
  ·subst e;exact List.prefix_rfl
  ·rw[rW l n es (i:=j) zo];exact List.IsPrefix.trans (ih zo zo) (List.prefix_append _ _)
def catW (l:Table) (n:Nat) (es:List Ed) (i:Nat) (e:Ed) (c:Nat):List (List UInt8):=esW l n (es.take i) ++ edW l n e.to e.lo c
theorem N8 (l:Table) (n:Nat) (es:List Ed) (i:Nat) (e:Ed):catW l n es i e 0=esW l n (es.take i):=by simp[catW,Jf]
theorem N9 (l:Table) (n:Nat) (es:List Ed) (i:Nat) (e:Ed) (c:Nat):catW l n es i e (c+1)=catW l n es i e c ++ vC l n e.to (e.lo+c):=by
 simp[catW,Ct]
theorem PW (l:Table) (n:Nat) (es:List Ed) {i:Nat} (h:i<es.length) {c:Nat} (hc:c≤(es[i]).hi+1 - (es[i]).lo):catW l n es i es[i] c <+: esW l n (es.take (i+1)):=by
 rw[rW l n es h];unfold catW;exact (List.prefix_append_right_inj _).2 (Rb l n _ _ hc)
theorem PX (l:Table) (n:Nat) (es:List Ed) {i:Nat} (h:i<es.length):catW l n es i es[i] ((es[i]).hi+1 - (es[i]).lo)=esW l n (es.take (i+1)):=by
 rw[rW l n es h];rfl
theorem Dj {α:Type} {a b:List α} {n:Nat} (h:(a.take n).length<n):a.take n ++ b.take (n - (a.take n).length)=(a ++ b).take n:=by
 have:a.length<n:=by
  rw[List.length_take] at h;omega
 rw[List.take_of_length_le zo,List.take_append,List.take_of_length_le (l:=a) zo]
end Cl
