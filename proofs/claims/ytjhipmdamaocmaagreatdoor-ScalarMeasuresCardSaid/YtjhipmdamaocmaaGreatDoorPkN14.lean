/- Lemmas for the proofs of chapter 11. -/
import Derived.Test.YtjhipmdamaocmaaGreatDoorPkN11
set_option maxRecDepth 100000
set_option maxHeartbeats 16000000
namespace Cl
open Go Go.RowKit Go.Proofs
theorem OH (l:Table) (s:Int) (h:(l.length:Int)≤s):bz l s=false:=by
 have:=fI l s [] h;exact this
theorem iT (v:Value) (l:Table) (s:Int) (m:Mem) (w:World) (hm:m.inn w) (hl:aG m v l) (hs1 : -9223372036854775808≤s) (hs2:s≤9223372036854775807) :
 Calls Tryz.prog 259 #[.agg #[v],.int .i64 s] w fun e w'=>e=.returned (.bool (bz l s))∧Below w.heap.size w w':=by
 by_cases h:s<l.length
 ·exact uY v l s m w hm hl hs1 h
 ·rw[OH l s zo];obtain⟨a,c,rfl,h1,h2,h3⟩:=hl;unfold maxLen at h2;clear h3;refine aj fun R hR=>?_
  go_enter Tryz.func259,Tryz.ntmps259
  go_wp2
  all_goals exact hR.out _ _ ⟨rfl,aR (zP _ _) _⟩
theorem og:∀(es:List Ed) (c:Nat),0<c→¬ il es c→aY es c=aY es (c - 1)
 | [],_,_,_=>rfl
 | e::es,c,hc,h=>by
  have h1:¬ (e.lo=c∨e.hi+1=c):=fun hx=>h ⟨e,zS,hx⟩;have ih:=og es c hc (fun ⟨x,hx,hm⟩=>h ⟨x,by simp[hx],hm⟩);simp only[aY];by_cases g:e.lo≤c∧c≤e.hi
  ·rw[zI g,zI ⟨zo,zo⟩]
  ·rw[zH g,zH zo,ih]
theorem D7 {A B:Table} {p:Int × Int} {c:Nat} (hc:0<c) (h:¬ ((c=0∨il (esOf A p.1) c)∨il (esOf B p.2) c)):jJ A B p c=jJ A B p (c - 1):=by
 unfold jJ;rw[oG,oG,oG,oG,og _ c hc (fun x=>h (.inl (.inr x))),og _ c hc (fun x=>h (.inr x))]
theorem Lh:(Tryz.zeroCells217).setIfInBounds 0 (.bool true)=marr (fun b=>b=0) 256:=by
 have:Tryz.zeroCells217=Array.replicate 256 (Value.bool false):=by kernel_rfl
 rw[this,lZ,jo];exact ek fun b _=>by simp
theorem Own.Qo {w0 w:World} {m mk:Mem} {L:List Cl.Item} {g:Nat} {t:TypeId} {x y:Value} (h:Own w0 m w mk (.obj g t #[x,y]::L)):Own w0 m w mk (.row (.slice (some ⟨g,0,none⟩) 1 1) t 2 1 [x,y]::L):=by
 have hap:=List.pairwise_cons.1 h.apart;refine ⟨h.m0,h.below,h.ext,h.inn,?_,?_,.cons (fun b hb k h1 h2=>hap.1 b hb k h1 h2) hap.2⟩
 ·simp only[zV,forall_eq_or_imp];refine ⟨⟨rfl,.inr ⟨g,1,#[x,y],rfl,zC _,h.obj.get,zG _,by simp[maxLen],rfl,rfl⟩⟩,fun it hi=>h.ok it (zR _ hi)⟩
 ·simp only[zV,forall_eq_or_imp];exact⟨fun k hk=>h.fresh _ (yA ..) k hk,fun it hi=>h.fresh it (zR _ hi)⟩
theorem Own.RQ {w0 w:World} {m mk:Mem} {L:List Cl.Item} {g:Nat} {t:TypeId} {arr:Array Value} (h:Own w0 m w mk (.obj g t arr::L)) (cs:Array Value):Own w0 m (w.setRow g cs) mk (.obj g t cs::L):=by
 have hg:w.grownBy (w.setRow g cs) (some g):=⟨rfl,rfl,rfl,zS,fun k _ hne=>setRow_other w g k cs (fun e=>hne (by rw[e]))⟩;have hf:=h.fresh _ (yA ..) g rfl;have hap:=List.pairwise_cons.1 h.apart;refine ⟨h.m0,h.below.grown hg h.below.size (fun k hk=>by cases hk;exact hf.1),h.ext,Mem.rO h.inn hg (fun k hk=>by cases hk;exact hf.2),?_,?_,.cons (fun b hb k h1 h2=>hap.1 b hb k h1 h2) hap.2⟩
 ·simp only[zV,forall_eq_or_imp];exact⟨⟨setRow_heap w g arr cs t (0,0) h.obj.get⟩,fun it hi=>Item.lX (h.ok it (zR _ hi)) fun k hk=>hg.block k (Item.lt (h.ok it (zR _ hi)) hk) (fun e=>hap.1 it hi g rfl (by cases e;exact hk))⟩
 ·simp only[zV,forall_eq_or_imp];exact⟨fun k hk=>by simp only[Item.blk,Option.some.injEq] at hk;subst hk;exact hf,fun it hi=>h.fresh it (zR _ hi)⟩
theorem iI.add {A B:Table} {op:Bool→Bool→Bool} {st:Int × Int} {l:List (Int × Int)} {out:Table} (h:iI A B op st l out) {q:Int × Int}
 (hr:(-1≤q.1∧q.1≤A.length)∧(-1≤q.2∧q.2≤B.length)):iI A B op st (dW l q) out:=by
 by_cases hf:fO l q<l.length
 ·have:dW l q=l:=by unfold dW;rw[zI hf]
  rw[this];exact h
 ·have:dW l q=l ++ [q]:=by unfold dW;rw[zH hf]
  rw[this];exact h.grow (Ke hf) hr
theorem mD.ok {A B:Table} {p:Int × Int} {l:List (Int × Int)} {es:List Ed} {c:Nat} (h:mD A B p l es c) (hl:l.length≤100000000):(∀e∈es,edOk e)∧es.length≤256:=by
 have hw:=eU h.wf;have hle:=h.le;refine ⟨fun e he=>?_,?_⟩
 ·have h1:=h.hi e he;have h2:=hw e he;exact⟨zo,zo,zo,zo⟩
 ·have:=Qk h.wf (fun e he=>by have h1:=h.hi e he;have h2:=hw e he;exact⟨zo,zo⟩) zo zo;omega
theorem wN (fi:Nat) (f:Bool→Bool→Bool) (hf:∀x y w,Calls Tryz.prog fi #[.bool x,.bool y] w fun e w'=>e=.returned (.bool (f x y))∧Below w.heap.size w w') (hff:f false false=false)
 (hcf:Hid (∀x y w,Sem.run Tryz.prog (callFunc fi #[.bool x,.bool y]) w=.ok (.enter fi #[.bool x,.bool y]) w))
 (v0 v1:Value) (A B:Table) (m:Mem) (w:World) (hm:m.inn w) (htab:TabM m) (hA:aG m v0 A) (hB:aG m v1 B) (hlen:(A.length+2)*(B.length+2)≤1000000) (hlA:A.length≤1000000) (hlB:B.length≤1000000) :
 Calls Tryz.prog 204 #[.agg #[v0],.agg #[v1],.func (.func fi) #[] #[]] w fun e w'=>∃r C,e=.returned (.agg #[r])∧Below w.heap.size w w'∧aG (m.grow w w') r C ∧
  eQ (fun x=>f (Sem A x) (Sem B x)) C∧C.length≤(A.length+2)*(B.length+2)+1:=by
 have hO:=(((Own.start hm).al #[v0] 27).al #[v1] 27).al #[.slice none 0 0] 27;have hsz1:(w.alloc (.cells #[v0] 27)).heap.size=w.heap.size+1:=by simp
 have hsz2:((w.alloc (.cells #[v0] 27)).alloc (.cells #[v1] 27)).heap.size=w.heap.size+2:=by simp
 rw[hsz2,hsz1] at hO;have HO:=zh hO;have HA:=zh (fun w (hw:m.inn w)=>mW v0 A m w hw htab hA hlA);have HB:=zh (fun mk w (hw:mk.inn w) (hle:m.le mk)=>mW v1 B mk w hw (htab.le hle) (aJ hle hB) hlB);clear hO hsz1 hsz2;refine aj fun R hR=>?_;obtain⟨va,vc,rfl,-⟩:=hA;obtain⟨vb,vd,rfl,-⟩:=hB
 go_enter Tryz.func204,Tryz.ntmps204
 go_wp2;refine aI [2,3,4,6] (fun vs w'=>∃(r1 r2:Value) (mk:Mem),vs=[.func (.func fi) #[] #[],.pointer (some ⟨w.heap.size,0,none⟩),.pointer (some ⟨w.heap.size+1,0,none⟩),.pointer (some ⟨w.heap.size+2,0,none⟩)] ∧
  Own w m w' mk [.obj (w.heap.size+2) 27 #[.slice none 0 0],.obj (w.heap.size+1) 27 #[r2],.obj w.heap.size 27 #[r1]]∧aG mk r1 (bT A)∧aG mk r2 (bT B)) ?_ ?_
 ·intro X hX;refine kF (fun j w'=>(j≠4→j≠5→bE w' w.heap.size 27 #[.slice va A.length vc])∧(j≠5→bE w' (w.heap.size+1) 27 #[.slice vb B.length vd])) zk ?_;have hO:=HO.out.dr;refine kG 0 (fun w'=>bE w' w.heap.size 27 #[.slice va A.length vc]) rfl zk (fun _ _ _ h=>h) (fun j w' hj hd=>hd.1 (by rintro rfl;exact oF zk hj) (by rintro rfl;exact oF zk hj)) hO.third.obj (av rfl fun w' hS'=>by have q:=hS'.cell (i:=0) rfl;go_simp;rfl) ?_;refine kG 2 (fun w'=>bE w' (w.heap.size+1) 27 #[.slice vb B.length vd]) rfl zk (fun _ _ _ h=>h) (fun j w' hj hd=>hd.2 (by rintro rfl;exact oF zk hj)) hO.swap.obj (av rfl fun w' hS'=>by have q:=hS'.cell (i:=0) rfl;go_simp;rfl) ?_;refine bg 1 zk (aF rfl rfl (cO (by go_simp) (HA.out _ hO.inn) ?_));rintro e w1 ⟨r1,rfl,hb1,hr1⟩;have hO2:=hO.call hb1;have hle:=Mem.dF (w:=w1) hO.inn;refine ⟨_,rfl,.inr ⟨fun _ _=>hO2.third.obj,fun _=>hO2.swap.obj⟩,?_⟩;go_simp;refine bg 3 zk (aF rfl rfl (cO (by go_simp) (HB.out _ _ hO2.inn hle) ?_));rintro e w2 ⟨r2,rfl,hb2,hr2⟩;have hO3:=hO2.call hb2;have hle2:=Mem.dF (w:=w2) hO2.inn;refine ⟨_,rfl,.inr ⟨fun _ _=>hO3.third.obj,fun _=>hO3.swap.obj⟩,?_⟩;obtain⟨xa,xc,rfl⟩:∃xa xc,r1=.slice xa (bT A).length xc:=by obtain⟨x,y,e,-⟩:=hr1;exact⟨x,y,e⟩
  obtain⟨ya,yc,rfl⟩:∃xa xc,r2=.slice xa (bT B).length xc:=by obtain⟨x,y,e,-⟩:=hr2;exact⟨x,y,e⟩
  go_simp;have f1:=hO3.third.obj.frozen 0;have c1:=hO3.third.obj.c 0;have hO4:=hO3.third.set 0 (.slice xa (bT A).length xc);have f3:=hO4.third.obj.frozen 0;have c3:=hO4.third.obj.c 0;have hO6:=(hO4.third.set 0 (.slice ya (bT B).length yc)).third;refine bg 4 zk (aF rfl rfl (aZ zg ⟨.inr ⟨fun h=>absurd rfl h,fun _=>hO4.third.obj⟩,?_⟩));refine bg 5 zk (aF rfl rfl (aZ zg ⟨.inr ⟨fun _ h=>absurd rfl h,fun h=>absurd rfl h⟩,?_⟩));refine gz zk ?_ _;exact hX.out _ _ rfl ⟨_,_,_,rfl,hO6,aJ hle2 hr1,hr2⟩
 rintro z vs w1 - ⟨r1,r2,mk,rfl,hO,hr1,hr2⟩;simp[litL,lk];clear HO HA HB;have hgA:=gU A;have hgB:=gU B;have hgAl:=iE A;have hgBl:=iE B;have hsemA:∀x,aC (bT A) 0 x=Sem A x:=fun x=>by
  unfold bT Sem;by_cases h:Canon A
  ·simp[aN h]
  ·simp[aK h];exact cu x
 have hsemB:∀x,aC (bT B) 0 x=Sem B x:=fun x=>by
  unfold bT Sem;by_cases h:Canon B
  ·simp[aN h]
  ·simp[aK h];exact cu x
 have HG:=zh (zi hgA (zi hgB (zi hsemA hsemB)));clear hgA hgB hsemA hsemB;have hmul:((bT A).length+2)*((bT B).length+2)≤(A.length+2)*(B.length+2):=Nat.mul_le_mul zo zo;generalize bT A=A' at *
 generalize bT B=B' at *
 have hO2:=(((hO.al #[.int .i64 0,.int .i64 0] 212).Qo).al #[.slice (some ⟨w1.heap.size,0,none⟩) 1 1] 213).swap.dI 92 2;have hsz:(w1.alloc (.cells #[.int .i64 0,.int .i64 0] 212)).heap.size=w1.heap.size+1:=by simp
 rw[hsz] at hO2;have HO2:=zh (zi hO2 (AB (A:=A') (B:=B') (op:=f) (st:=(0,0)) (by simp only;omega)));have HR1:=zh (zi hr1 hr2);obtain⟨xa,xc,rfl,-⟩:=hr1;obtain⟨ya,yc,rfl,-⟩:=hr2;clear hO2 hO hsz;go_wp2;generalize w1.heap.size=N at *
 refine au [2,3,4,6,7,8,9,10] (fun n vs wr=>∃(k:Nat) (l:List (Int × Int)) (out:Table) (vl vo:Value) (xs:List Value) (mk':Mem),n=1000001 - k ∧
  vs=[.func (.func fi) #[] #[],.pointer (some ⟨w.heap.size,0,none⟩),.pointer (some ⟨w.heap.size+1,0,none⟩),.pointer (some ⟨w.heap.size+2,0,none⟩),.pointer (some ⟨N+1,0,none⟩),.func (.func 257) #[] #[.pointer (some ⟨N+1,0,none⟩)],vo,.int .i64 k] ∧
  Own w m wr mk' [.row vo 92 2 k xs,.row vl 212 2 l.length (dA l),.obj (N+1) 213 #[vl],.obj (w.heap.size+2) 27 #[.slice none 0 0],.obj (w.heap.size+1) 27 #[.slice ya B'.length yc],.obj w.heap.size 27 #[.slice xa A'.length xc]] ∧
  jA mk' xs out∧mk.le mk'∧iI A' B' f (0,0) l out∧out.length=k) ?_ ?_
 ·refine ⟨_,0,[(0,0)],[],.slice (some ⟨N,0,none⟩) 1 1,.slice none 0 0,[],mk,rfl,?_,HO2.out.1,jA.nil _,Mem.le_refl _,HO2.out.2,rfl⟩
  rfl
 clear HO2;rintro X z n vs wr hX - ⟨k,l,out,vl,vo,xs,mk',rfl,rfl,hO,hrow,hmk,hPI,hol⟩;simp[litL,lk];obtain⟨vla,vlc,rfl⟩:=aM hO.swap.row;have hob:=hO.third.obj;have b1:=hob.cell (i:=0) rfl;have b2:=hob.lt;have hpl:=kC hPI.nodup hPI.rng;have hkl:=hPI.le;by_cases hlt:k<l.length
 ·obtain⟨vlb,rfl⟩:=iL hO.swap.row zo;have hpc:=j5 l k hlt;have r1:=aT hO.swap.row hpc.1;have r2:=aT hO.swap.row hpc.2;have rl:=(World.ownsRow.lt hO.swap.row _ rfl).2;have hlk:l[k]?=some l[k]:=by simp[hlt]
  have hrng:=hPI.rng l[k] (zB hlt);have HP:=zh (zi hPI (zi hol hlk));generalize l[k]=p at *
  obtain⟨pa,pb⟩:=p;simp only at r1 r2 hrng;have hO2:=hO.al #[.int .i64 pa,.int .i64 pb] 212;have HO2:=zh hO2;clear hO2 hO hPI hol hlk hpc hob;go_wp2;generalize hW2:wr.alloc (.cells #[.int .i64 pa,.int .i64 pb] 212)=w2 at *
  generalize wr.heap.size=P at *
  refine aI [2,3,4,6,7,8,9,10,11,12] (fun vs w'=>∃S:Nat,
   vs=[.func (.func fi) #[] #[],.pointer (some ⟨w.heap.size,0,none⟩),.pointer (some ⟨w.heap.size+1,0,none⟩),.pointer (some ⟨w.heap.size+2,0,none⟩),.pointer (some ⟨N+1,0,none⟩),.func (.func 257) #[] #[.pointer (some ⟨N+1,0,none⟩)],vo,.int .i64 k,.pointer (some ⟨P,0,none⟩),.pointer (some ⟨S,0,none⟩)] ∧
   Own w m w' mk' [.obj S 92 #[.bool (f (bz A' pa) (bz B' pb)),.slice none 0 0],.obj P 212 #[.int .i64 pa,.int .i64 pb],.row vo 92 2 k xs,.row (.slice (some ⟨vlb,0,none⟩) l.length vlc) 212 2 l.length (dA l),.obj (N+1) 213 #[.slice (some ⟨vlb,0,none⟩) l.length vlc],.obj (w.heap.size+2) 27 #[.slice none 0 0],.obj (w.heap.size+1) 27 #[.slice ya B'.length yc],.obj w.heap.size 27 #[.slice xa A'.length xc]]) ?_ ?_
  ·intro Y hY;refine fo (fun w'=>bE w' w.heap.size 27 #[.slice xa A'.length xc]∧bE w' (w.heap.size+1) 27 #[.slice ya B'.length yc]∧bE w' P 212 #[.int .i64 pa,.int .i64 pb]) 12 zk ?_;have hO:=HO2.out.dr;generalize w2.drew=w3 at *
   have mkS:∀{w':World} {L:List Cl.Item},Own w m w' mk' L→Item.obj w.heap.size 27 #[.slice xa A'.length xc]∈L→Item.obj (w.heap.size+1) 27 #[.slice ya B'.length yc]∈L→Item.obj P 212 #[.int .i64 pa,.int .i64 pb]∈L →
    (bE w' w.heap.size 27 #[.slice xa A'.length xc]∧bE w' (w.heap.size+1) 27 #[.slice ya B'.length yc]∧bE w' P 212 #[.int .i64 pa,.int .i64 pb]):=
    fun h h1 h2 h3=>⟨h.d9 h1,h.d9 h2,h.d9 h3⟩
   have hS:=mkS hO zS zS zS;refine az 0 rfl zk (fun _ _ _ h=>h) hS (av rfl fun w' hS'=>by have q:=hS'.1.cell (i:=0) rfl;have q1:=hS'.2.1.cell (i:=0) rfl;have q2:=hS'.2.2.cell (i:=0) rfl;have q3:=hS'.2.2.cell (i:=1) rfl;go_simp;rfl) ?_;refine az 1 rfl zk (fun _ _ _ h=>h) hS (av rfl fun w' hS'=>by have q:=hS'.1.cell (i:=0) rfl;have q1:=hS'.2.1.cell (i:=0) rfl;have q2:=hS'.2.2.cell (i:=0) rfl;have q3:=hS'.2.2.cell (i:=1) rfl;go_simp;rfl) ?_;refine az 2 rfl zk (fun _ _ _ h=>h) hS (av rfl fun w' hS'=>by have q:=hS'.1.cell (i:=0) rfl;have q1:=hS'.2.1.cell (i:=0) rfl;have q2:=hS'.2.2.cell (i:=0) rfl;have q3:=hS'.2.2.cell (i:=1) rfl;go_simp;rfl) ?_;refine az 3 rfl zk (fun _ _ _ h=>h) hS (av rfl fun w' hS'=>by have q:=hS'.1.cell (i:=0) rfl;have q1:=hS'.2.1.cell (i:=0) rfl;have q2:=hS'.2.2.cell (i:=0) rfl;have q3:=hS'.2.2.cell (i:=1) rfl;go_simp;rfl) ?_;refine az 5 rfl zk (fun _ _ _ h=>h) hS (av rfl fun w' hS'=>by have q:=hS'.1.cell (i:=0) rfl;have q1:=hS'.2.1.cell (i:=0) rfl;have q2:=hS'.2.2.cell (i:=0) rfl;have q3:=hS'.2.2.cell (i:=1) rfl;go_simp;rfl) ?_;refine az 6 rfl zk (fun _ _ _ h=>h) hS (av rfl fun w' hS'=>by have q:=hS'.1.cell (i:=0) rfl;have q1:=hS'.2.1.cell (i:=0) rfl;have q2:=hS'.2.2.cell (i:=0) rfl;have q3:=hS'.2.2.cell (i:=1) rfl;go_simp;rfl) ?_;refine az 7 rfl zk (fun _ _ _ h=>h) hS (av rfl fun w' hS'=>by have q:=hS'.1.cell (i:=0) rfl;have q1:=hS'.2.1.cell (i:=0) rfl;have q2:=hS'.2.2.cell (i:=0) rfl;have q3:=hS'.2.2.cell (i:=1) rfl;go_simp;rfl) ?_;clear hS;refine oD 4 11 zk ?_ ?_
   ·skip
    refine aF rfl rfl (cO (by go_simp) (iT (.slice xa A'.length xc) A' pa mk _ (Mem.cK hmk hO.inn) HR1.out.1 zo zo) ?_);rintro e wF1 ⟨rfl,hb'⟩;have hF1:=hO.move hb';refine ⟨_,rfl,andS (mkS hF1 zS zS zS) fun _=>?_⟩;clear hO hb';go_simp;refine oD 8 11 zk ?_ ?_
    ·skip
     refine aF rfl rfl (cO (by go_simp) (iT (.slice ya B'.length yc) B' pb mk _ (Mem.cK hmk hF1.inn) HR1.out.2 zo zo) ?_);rintro e wF2 ⟨rfl,hb'⟩;have hF2:=hF1.move hb';refine ⟨_,rfl,andS (mkS hF2 zS zS zS) fun _=>?_⟩;clear hF1 hb';go_simp;refine oD 9 11 zk ?_ ?_
     ·skip
      refine aF rfl rfl (cO (by have hc:=fun w'=>hcf.out (bz A' pa) (bz B' pb) w';go_simp;rfl) (hf (bz A' pa) (bz B' pb) _) ?_);rintro e wF3 ⟨rfl,hb'⟩;have hF3:=hF2.move hb';refine ⟨_,rfl,andS (mkS hF3 zS zS zS) fun _=>?_⟩;clear hF2 hb';go_simp;refine oD 10 11 zk ?_ ?_
      ·skip
       refine aF rfl rfl (aP (by go_simp;first | exact⟨rfl,rfl⟩ | rfl) (andS (mkS hF3 zS zS zS) fun _=>?_));have hF4:=hF3;clear hF3;go_simp;refine aH 11 zk ?_;have hF5:=hF4.al #[.bool false,.slice none 0 0] 92;refine aF rfl rfl (aP (by go_simp;first | exact⟨rfl,rfl⟩ | rfl) (andS (mkS hF5 zS zS zS) fun _=>?_));clear hF4;go_simp;generalize wF3.alloc (.cells #[.bool false,.slice none 0 0] 92)=wF5 at *
       generalize wF3.heap.size=S at *
       have hE0:=hF5.obj.frozen 0;have hE1:=hF5.obj.frozen 1;have hE2:=hF5.obj.c 0;have hE3:=hF5.obj.c 1;have hE4:=hF5.obj.lt;have hZ:=(hF5.set 0 (.bool (f (bz A' pa) (bz B' pb)))).set 1 (.slice none 0 0);refine aH 12 zk (aF rfl rfl (aZ zg (iP rfl ?_)));refine dE zk ?_ _;exact hY.out _ _ rfl ⟨S,rfl,hZ⟩
      ·skip
       have hF6:=hF3.al #[.bool false,.slice none 0 0] 92;refine aF rfl rfl (aP (by go_simp;first | exact⟨rfl,rfl⟩ | rfl) (andS (mkS hF6 zS zS zS) fun _=>?_));clear hF3;go_simp;generalize wF3.alloc (.cells #[.bool false,.slice none 0 0] 92)=wF6 at *
       generalize wF3.heap.size=S at *
       refine aH 10 zk ?_;refine aF rfl rfl (aP (by go_simp;first | exact⟨rfl,rfl⟩ | rfl) (andS (mkS hF6 zS zS zS) fun _=>?_));have hF7:=hF6;clear hF6;go_simp;have hE0:=hF7.obj.frozen 0;have hE1:=hF7.obj.frozen 1;have hE2:=hF7.obj.c 0;have hE3:=hF7.obj.c 1;have hE4:=hF7.obj.lt;have hZ:=(hF7.set 0 (.bool (f (bz A' pa) (bz B' pb)))).set 1 (.slice none 0 0);refine aH 12 zk (aF rfl rfl (aZ zg (iP rfl ?_)));refine dE zk ?_ _;exact hY.out _ _ rfl ⟨S,rfl,hZ⟩
     ·skip
      have hF8:=hF2.al #[.bool false,.slice none 0 0] 92;refine aF rfl rfl (aP (by go_simp;first | exact⟨rfl,rfl⟩ | rfl) (andS (mkS hF8 zS zS zS) fun _=>?_));clear hF2;go_simp;generalize wF2.alloc (.cells #[.bool false,.slice none 0 0] 92)=wF8 at *
      generalize wF2.heap.size=S at *
      refine aH 9 zk ?_;refine aF rfl rfl (cO (by have hc:=fun w'=>hcf.out (bz A' pa) (bz B' pb) w';go_simp;rfl) (hf (bz A' pa) (bz B' pb) _) ?_);rintro e wF9 ⟨rfl,hb'⟩;have hF9:=hF8.move hb';refine ⟨_,rfl,andS (mkS hF9 zS zS zS) fun _=>?_⟩;clear hF8 hb';go_simp;refine aH 10 zk ?_;refine aF rfl rfl (aP (by go_simp;first | exact⟨rfl,rfl⟩ | rfl) (andS (mkS hF9 zS zS zS) fun _=>?_));have hF10:=hF9;clear hF9;go_simp;have hE0:=hF10.obj.frozen 0;have hE1:=hF10.obj.frozen 1;have hE2:=hF10.obj.c 0;have hE3:=hF10.obj.c 1;have hE4:=hF10.obj.lt;have hZ:=(hF10.set 0 (.bool (f (bz A' pa) (bz B' pb)))).set 1 (.slice none 0 0);refine aH 12 zk (aF rfl rfl (aZ zg (iP rfl ?_)));refine dE zk ?_ _;exact hY.out _ _ rfl ⟨S,rfl,hZ⟩
    ·skip
     have hF11:=hF1.al #[.bool false,.slice none 0 0] 92;refine aF rfl rfl (aP (by go_simp;first | exact⟨rfl,rfl⟩ | rfl) (andS (mkS hF11 zS zS zS) fun _=>?_));clear hF1;go_simp;generalize wF1.alloc (.cells #[.bool false,.slice none 0 0] 92)=wF11 at *
     generalize wF1.heap.size=S at *
     refine aH 8 zk ?_;refine aF rfl rfl (cO (by go_simp) (iT (.slice ya B'.length yc) B' pb mk _ (Mem.cK hmk hF11.inn) HR1.out.2 zo zo) ?_);rintro e wF12 ⟨rfl,hb'⟩;have hF12:=hF11.move hb';refine ⟨_,rfl,andS (mkS hF12 zS zS zS) fun _=>?_⟩;clear hF11 hb';go_simp;refine aH 9 zk ?_;refine aF rfl rfl (cO (by have hc:=fun w'=>hcf.out (bz A' pa) (bz B' pb) w';go_simp;rfl) (hf (bz A' pa) (bz B' pb) _) ?_);rintro e wF13 ⟨rfl,hb'⟩;have hF13:=hF12.move hb';refine ⟨_,rfl,andS (mkS hF13 zS zS zS) fun _=>?_⟩;clear hF12 hb';go_simp;refine aH 10 zk ?_;refine aF rfl rfl (aP (by go_simp;first | exact⟨rfl,rfl⟩ | rfl) (andS (mkS hF13 zS zS zS) fun _=>?_));have hF14:=hF13;clear hF13;go_simp;have hE0:=hF14.obj.frozen 0;have hE1:=hF14.obj.frozen 1;have hE2:=hF14.obj.c 0;have hE3:=hF14.obj.c 1;have hE4:=hF14.obj.lt;have hZ:=(hF14.set 0 (.bool (f (bz A' pa) (bz B' pb)))).set 1 (.slice none 0 0);refine aH 12 zk (aF rfl rfl (aZ zg (iP rfl ?_)));refine dE zk ?_ _;exact hY.out _ _ rfl ⟨S,rfl,hZ⟩
   ·skip
    have hF15:=hO.al #[.bool false,.slice none 0 0] 92;refine aF rfl rfl (aP (by go_simp;first | exact⟨rfl,rfl⟩ | rfl) (andS (mkS hF15 zS zS zS) fun _=>?_));clear hO;go_simp;generalize w3.alloc (.cells #[.bool false,.slice none 0 0] 92)=wF15 at *
    generalize w3.heap.size=S at *
    refine aH 4 zk ?_;refine aF rfl rfl (cO (by go_simp) (iT (.slice xa A'.length xc) A' pa mk _ (Mem.cK hmk hF15.inn) HR1.out.1 zo zo) ?_);rintro e wF16 ⟨rfl,hb'⟩;have hF16:=hF15.move hb';refine ⟨_,rfl,andS (mkS hF16 zS zS zS) fun _=>?_⟩;clear hF15 hb';go_simp;refine aH 8 zk ?_;refine aF rfl rfl (cO (by go_simp) (iT (.slice ya B'.length yc) B' pb mk _ (Mem.cK hmk hF16.inn) HR1.out.2 zo zo) ?_);rintro e wF17 ⟨rfl,hb'⟩;have hF17:=hF16.move hb';refine ⟨_,rfl,andS (mkS hF17 zS zS zS) fun _=>?_⟩;clear hF16 hb';go_simp;refine aH 9 zk ?_;refine aF rfl rfl (cO (by have hc:=fun w'=>hcf.out (bz A' pa) (bz B' pb) w';go_simp;rfl) (hf (bz A' pa) (bz B' pb) _) ?_);rintro e wF18 ⟨rfl,hb'⟩;have hF18:=hF17.move hb';refine ⟨_,rfl,andS (mkS hF18 zS zS zS) fun _=>?_⟩;clear hF17 hb';go_simp;refine aH 10 zk ?_;refine aF rfl rfl (aP (by go_simp;first | exact⟨rfl,rfl⟩ | rfl) (andS (mkS hF18 zS zS zS) fun _=>?_));have hF19:=hF18;clear hF18;go_simp;have hE0:=hF19.obj.frozen 0;have hE1:=hF19.obj.frozen 1;have hE2:=hF19.obj.c 0;have hE3:=hF19.obj.c 1;have hE4:=hF19.obj.lt;have hZ:=(hF19.set 0 (.bool (f (bz A' pa) (bz B' pb)))).set 1 (.slice none 0 0);refine aH 12 zk (aF rfl rfl (aZ zg (iP rfl ?_)));refine dE zk ?_ _;exact hY.out _ _ rfl ⟨S,rfl,hZ⟩
  rintro z1 vs w3 - ⟨S,rfl,hO⟩;simp[litL,lk];have hO2:=hO.al Tryz.zeroCells217 217;have hg2:=hO2.obj.get;have hO3:=hO2.RQ (Tryz.zeroCells217.setIfInBounds 0 (.bool true));have hO4:=hO3;rw[Lh] at hO4;have HC1:=zh (Jh (.slice xa A'.length xc) A' pa w3.heap.size (fun b=>b=0) w _ m mk' _ hO4 (aJ hmk HR1.out.1) zo zo zo);rw[← Lh] at HC1;have HC2:=zh (fun L P w' (h:Own w m w' mk' (.obj w3.heap.size 217 (marr P 256)::L))=>Jh (.slice ya B'.length yc) B' pb w3.heap.size P w w' m mk' L h (aJ hmk HR1.out.2) zo zo zo);have HO3:=zh hO3;have q1:=(hO3.d9 (g:=w.heap.size) (t:=27) (arr:=#[.slice xa A'.length xc]) zS).cell (i:=0) rfl;have q1l:=(hO3.d9 (g:=w.heap.size) (t:=27) (arr:=#[.slice xa A'.length xc]) zS).lt;have q3:=(hO3.d9 (g:=P) (t:=212) (arr:=#[.int .i64 pa,.int .i64 pb]) zS).cell (i:=0) rfl;have q3l:=(hO3.d9 (g:=P) (t:=212) (arr:=#[.int .i64 pa,.int .i64 pb]) zS).lt;clear hO hO3 hO4 HO2 hO2
  go_wp2_with (refine wpList_store_row rfl 217 (.tmp 13) (.tmp 45) rfl w3.heap.size (Tryz.zeroCells217.setIfInBounds 0 (.bool true)) rfl rfl 217 Tryz.zeroCells217 hg2 zk zS zk ?_)
  clear hg2;refine HC1.out.mono ?_;rintro e w4 ⟨rfl,hO⟩;have q1:=(hO.d9 (g:=w.heap.size+1) (t:=27) (arr:=#[.slice ya B'.length yc]) zS).cell (i:=0) rfl;have q1l:=(hO.d9 (g:=w.heap.size+1) (t:=27) (arr:=#[.slice ya B'.length yc]) zS).lt;have q3:=(hO.d9 (g:=P) (t:=212) (arr:=#[.int .i64 pa,.int .i64 pb]) zS).cell (i:=1) rfl;have q3l:=(hO.d9 (g:=P) (t:=212) (arr:=#[.int .i64 pa,.int .i64 pb]) zS).lt;have HC3:=zh (HC2.out _ _ w4 hO);clear HO3 HC1 HC2 hO
  go_wp2_with fail
  refine HC3.out.mono ?_;rintro e w5 ⟨rfl,hO⟩;clear HC3 q1 q1l q3 q3l;generalize w3.heap.size=D at *
  obtain⟨PM,hPM⟩:∃PM:Nat→Prop,PM=fun b=>(b=0∨il (esOf A' pa) b)∨il (esOf B' pb) b:=⟨_,rfl⟩;rw[← hPM] at hO;have HPM:=zh hPM;have HO:=zh ((hO.perm (List.Perm.refl _)).dI 133 3);clear hPM hO;go_wp2;refine au [2,3,4,6,7,8,9,10,11,12,13,54] (fun n vs w'=>∃(c:Nat) (l':List (Int × Int)) (vl' ve:Value) (es:List Ed),c≤256∧n=256 - c ∧
   vs=[.func (.func fi) #[] #[],.pointer (some ⟨w.heap.size,0,none⟩),.pointer (some ⟨w.heap.size+1,0,none⟩),.pointer (some ⟨w.heap.size+2,0,none⟩),.pointer (some ⟨N+1,0,none⟩),.func (.func 257) #[] #[.pointer (some ⟨N+1,0,none⟩)],vo,.int .i64 k,.pointer (some ⟨P,0,none⟩),.pointer (some ⟨S,0,none⟩),.pointer (some ⟨D,0,none⟩),.int .i64 c] ∧
   Own w m w' mk' [.row ve 133 3 es.length (bQ es),.obj D 217 (marr PM 256),.obj S 92 #[.bool (f (bz A' pa) (bz B' pb)),ve],.obj P 212 #[.int .i64 pa,.int .i64 pb],.row vo 92 2 k xs,.row vl' 212 2 l'.length (dA l'),.obj (N+1) 213 #[vl'],.obj (w.heap.size+2) 27 #[.slice none 0 0],.obj (w.heap.size+1) 27 #[.slice ya B'.length yc],.obj w.heap.size 27 #[.slice xa A'.length xc]] ∧
   mD A' B' (pa,pb) l' es c∧iI A' B' f (0,0) l' out∧l'[k]?=some (pa,pb)) ?_ ?_
  ·exact⟨_,0,l,.slice (some ⟨vlb,0,none⟩) l.length vlc,.slice none 0 0,[],zo,rfl,rfl,HO.out,mD.start _ _ _ _,HP.out.1,HP.out.2.2⟩
  clear HO;rintro Y z2 n vs w6 hY - ⟨c,l',vl',ve,es,hc,rfl,rfl,hO,hcov,hPI,hlk⟩;simp[litL,lk];obtain⟨vla2,vlc2,rfl⟩:=aM (hO.jY (v:=vl') (t:=212) (size:=2) (n:=l'.length) (xs:=dA l') zS);obtain⟨vea,vec,rfl⟩:=aM hO.row;have hpl2:=kC hPI.nodup hPI.rng;have hok:=hcov.ok zo;have hel:=hok.2;have HC:=zh (zi hcov (zi hPI (zi hlk hok.1)));clear hcov hlk hok hPI;by_cases hlt2:c<256
  ·have m1:=(hO.d9 (g:=D) (t:=217) (arr:=marr PM 256) zS).cell (iW hlt2);have m2:=(hO.d9 (g:=D) (t:=217) (arr:=marr PM 256) zS).lt;obtain⟨bm,hbm⟩:∃b,tf (PM c)=b:=⟨_,rfl⟩;rw[hbm] at m1;have Hbm:=zh hbm;clear hbm
   go_upto_if 59 with (fail)
   refine aI [2,3,4,6,7,8,9,10,11,12,13,54,14] (fun vs w'=>∃(l2:List (Int × Int)) (vl2 ve2:Value) (fs:List Ed) (e:Ed),vs=[.func (.func fi) #[] #[],.pointer (some ⟨w.heap.size,0,none⟩),.pointer (some ⟨w.heap.size+1,0,none⟩),.pointer (some ⟨w.heap.size+2,0,none⟩),.pointer (some ⟨N+1,0,none⟩),.func (.func 257) #[] #[.pointer (some ⟨N+1,0,none⟩)],vo,.int .i64 k,.pointer (some ⟨P,0,none⟩),.pointer (some ⟨S,0,none⟩),.pointer (some ⟨D,0,none⟩),.int .i64 c,.int .i64 c] ∧
    Own w m w' mk' [.row ve2 133 3 (fs.length+1) (bQ (fs ++ [e])),.obj D 217 (marr PM 256),.obj S 92 #[.bool (f (bz A' pa) (bz B' pb)),ve2],.obj P 212 #[.int .i64 pa,.int .i64 pb],.row vo 92 2 k xs,.row vl2 212 2 l2.length (dA l2),.obj (N+1) 213 #[vl2],.obj (w.heap.size+2) 27 #[.slice none 0 0],.obj (w.heap.size+1) 27 #[.slice ya B'.length yc],.obj w.heap.size 27 #[.slice xa A'.length xc]] ∧
    mD A' B' (pa,pb) l2 (fs ++ [⟨e.lo,c,e.to⟩]) (c+1)∧iI A' B' f (0,0) l2 out∧l2[k]?=some (pa,pb)) ?_ ?_
   ·intro V hV
    cases bm with
    | false=>
     have hnm:¬ PM c:=fun h=>by have:=Hbm.out;rw[aN h] at this;cases this
     have hun:0<c∧jJ A' B' (pa,pb) c=jJ A' B' (pa,pb) (c - 1):=by
      rw[HPM.out] at hnm;have h0:0<c:=by
       apply zN;intro h;exact hnm (.inl (.inl zo))
      exact⟨h0,D7 (p:=(pa,pb)) h0 hnm⟩
     have hes:∃fs e,es=fs ++ [e]∧e.hi+1=c:=by
      rcases HC.out.1.last with ⟨h,-⟩ | h
      ·omega
      ·exact h
     obtain⟨fs,e,rfl,he⟩:=hes;have hcw:=HC.out.1.widen he hlt2 hun.2;have Hfin:=zh (zi hcw hO);clear hcw hO hnm hun he;go_wp2;refine hV.out _ _ rfl ⟨l',.slice vla2 l'.length vlc2,.slice vea (fs ++ [e]).length vec,fs,e,rfl,?_,Hfin.out.1,HC.out.2.1,HC.out.2.2.1⟩;have:=Hfin.out.2
     simpa using this
    | true=>
     have hwu:IntKind.u8.wrap (c:Int)=(c:Int):=IntWalk.u8_in _ zo;have hO:=hO.dr;have HO:=zh hO;go_wp2;have hSt:∀{w':World} {L:List Cl.Item},Own w m w' mk' L→Item.obj w.heap.size 27 #[.slice xa A'.length xc]∈L→Item.obj (w.heap.size+1) 27 #[.slice ya B'.length yc]∈L→Item.obj P 212 #[.int .i64 pa,.int .i64 pb]∈L→Item.obj S 92 #[.bool (f (bz A' pa) (bz B' pb)),.slice vea es.length vec]∈L →
      (bE w' w.heap.size 27 #[.slice xa A'.length xc]∧bE w' (w.heap.size+1) 27 #[.slice ya B'.length yc]∧bE w' P 212 #[.int .i64 pa,.int .i64 pb]∧bE w' S 92 #[.bool (f (bz A' pa) (bz B' pb)),.slice vea es.length vec]):=
      fun h h1 h2 h3 h4=>⟨h.d9 h1,h.d9 h2,h.d9 h3,h.d9 h4⟩
     refine fo (fun w'=>bE w' w.heap.size 27 #[.slice xa A'.length xc]∧bE w' (w.heap.size+1) 27 #[.slice ya B'.length yc]∧bE w' P 212 #[.int .i64 pa,.int .i64 pb]∧bE w' S 92 #[.bool (f (bz A' pa) (bz B' pb)),.slice vea es.length vec]) 23 zk ?_;have hS:=hSt hO zS zS zS zS;refine az 0 rfl zk (fun _ _ _ h=>h) hS (av rfl fun w' hS'=>by have q:=hS'.1.cell (i:=0) rfl;have q1:=hS'.2.1.cell (i:=0) rfl;have q2:=hS'.2.2.1.cell (i:=0) rfl;have q3:=hS'.2.2.1.cell (i:=1) rfl;have q4:=hS'.2.2.2.cell (i:=1) rfl;go_simp;rfl) ?_;refine az 1 rfl zk (fun _ _ _ h=>h) hS (av rfl fun w' hS'=>by have q:=hS'.1.cell (i:=0) rfl;have q1:=hS'.2.1.cell (i:=0) rfl;have q2:=hS'.2.2.1.cell (i:=0) rfl;have q3:=hS'.2.2.1.cell (i:=1) rfl;have q4:=hS'.2.2.2.cell (i:=1) rfl;go_simp;rfl) ?_;refine az 2 rfl zk (fun _ _ _ h=>h) hS (av rfl fun w' hS'=>by have q:=hS'.1.cell (i:=0) rfl;have q1:=hS'.2.1.cell (i:=0) rfl;have q2:=hS'.2.2.1.cell (i:=0) rfl;have q3:=hS'.2.2.1.cell (i:=1) rfl;have q4:=hS'.2.2.2.cell (i:=1) rfl;go_simp;rfl) ?_;refine az 3 rfl zk (fun _ _ _ h=>h) hS (av rfl fun w' hS'=>by have q:=hS'.1.cell (i:=0) rfl;have q1:=hS'.2.1.cell (i:=0) rfl;have q2:=hS'.2.2.1.cell (i:=0) rfl;have q3:=hS'.2.2.1.cell (i:=1) rfl;have q4:=hS'.2.2.2.cell (i:=1) rfl;go_simp;rfl) ?_;refine az 4 rfl zk (fun _ _ _ h=>h) hS (av rfl fun w' hS'=>by have q:=hS'.1.cell (i:=0) rfl;have q1:=hS'.2.1.cell (i:=0) rfl;have q2:=hS'.2.2.1.cell (i:=0) rfl;have q3:=hS'.2.2.1.cell (i:=1) rfl;have q4:=hS'.2.2.2.cell (i:=1) rfl;go_simp;rfl) ?_;refine az 5 rfl zk (fun _ _ _ h=>h) hS (av rfl fun w' hS'=>by have q:=hS'.1.cell (i:=0) rfl;have q1:=hS'.2.1.cell (i:=0) rfl;have q2:=hS'.2.2.1.cell (i:=0) rfl;have q3:=hS'.2.2.1.cell (i:=1) rfl;have q4:=hS'.2.2.2.cell (i:=1) rfl;go_simp;rfl) ?_;refine az 6 rfl zk (fun _ _ _ h=>h) hS (av rfl fun w' hS'=>by have q:=hS'.1.cell (i:=0) rfl;have q1:=hS'.2.1.cell (i:=0) rfl;have q2:=hS'.2.2.1.cell (i:=0) rfl;have q3:=hS'.2.2.1.cell (i:=1) rfl;have q4:=hS'.2.2.2.cell (i:=1) rfl;go_simp;rfl) ?_;refine az 7 rfl zk (fun _ _ _ h=>h) hS (av rfl fun w' hS'=>by have q:=hS'.1.cell (i:=0) rfl;have q1:=hS'.2.1.cell (i:=0) rfl;have q2:=hS'.2.2.1.cell (i:=0) rfl;have q3:=hS'.2.2.1.cell (i:=1) rfl;have q4:=hS'.2.2.2.cell (i:=1) rfl;go_simp;rfl) ?_;refine az 8 rfl zk (fun _ _ _ h=>h) hS (av rfl fun w' hS'=>by have q:=hS'.1.cell (i:=0) rfl;have q1:=hS'.2.1.cell (i:=0) rfl;have q2:=hS'.2.2.1.cell (i:=0) rfl;have q3:=hS'.2.2.1.cell (i:=1) rfl;have q4:=hS'.2.2.2.cell (i:=1) rfl;go_simp;rfl) ?_;refine az 9 rfl zk (fun _ _ _ h=>h) hS (av rfl fun w' hS'=>by have q:=hS'.1.cell (i:=0) rfl;have q1:=hS'.2.1.cell (i:=0) rfl;have q2:=hS'.2.2.1.cell (i:=0) rfl;have q3:=hS'.2.2.1.cell (i:=1) rfl;have q4:=hS'.2.2.2.cell (i:=1) rfl;go_simp;rfl) ?_;refine az 11 rfl zk (fun _ _ _ h=>h) hS (av rfl fun w' hS'=>by have q:=hS'.1.cell (i:=0) rfl;have q1:=hS'.2.1.cell (i:=0) rfl;have q2:=hS'.2.2.1.cell (i:=0) rfl;have q3:=hS'.2.2.1.cell (i:=1) rfl;have q4:=hS'.2.2.2.cell (i:=1) rfl;go_simp;rfl) ?_;refine az 12 rfl zk (fun _ _ _ h=>h) hS (av rfl fun w' hS'=>by have q:=hS'.1.cell (i:=0) rfl;have q1:=hS'.2.1.cell (i:=0) rfl;have q2:=hS'.2.2.1.cell (i:=0) rfl;have q3:=hS'.2.2.1.cell (i:=1) rfl;have q4:=hS'.2.2.2.cell (i:=1) rfl;go_simp;rfl) ?_;refine az 13 rfl zk (fun _ _ _ h=>h) hS (av rfl fun w' hS'=>by have q:=hS'.1.cell (i:=0) rfl;have q1:=hS'.2.1.cell (i:=0) rfl;have q2:=hS'.2.2.1.cell (i:=0) rfl;have q3:=hS'.2.2.1.cell (i:=1) rfl;have q4:=hS'.2.2.2.cell (i:=1) rfl;go_simp;rfl) ?_;refine az 14 rfl zk (fun _ _ _ h=>h) hS (av rfl fun w' hS'=>by have q:=hS'.1.cell (i:=0) rfl;have q1:=hS'.2.1.cell (i:=0) rfl;have q2:=hS'.2.2.1.cell (i:=0) rfl;have q3:=hS'.2.2.1.cell (i:=1) rfl;have q4:=hS'.2.2.2.cell (i:=1) rfl;go_simp;rfl) ?_;refine az 15 rfl zk (fun _ _ _ h=>h) hS (av rfl fun w' hS'=>by have q:=hS'.1.cell (i:=0) rfl;have q1:=hS'.2.1.cell (i:=0) rfl;have q2:=hS'.2.2.1.cell (i:=0) rfl;have q3:=hS'.2.2.1.cell (i:=1) rfl;have q4:=hS'.2.2.2.cell (i:=1) rfl;go_simp;rfl) ?_;refine aH 10 zk (aF rfl rfl (cO (by go_simp) (Iw (.slice xa A'.length xc) A' pa c mk _ (Mem.cK hmk hO.inn) HR1.out.1 zo zo) ?_));rintro e w7 ⟨rfl,hb7⟩;have hO2:=hO.move hb7;refine ⟨_,rfl,andS (hSt hO2 zS zS zS zS) fun _=>?_⟩;go_simp;refine aH 16 zk (aF rfl rfl (cO (by go_simp) (Iw (.slice ya B'.length yc) B' pb c mk _ (Mem.cK hmk hO2.inn) HR1.out.2 zo zo) ?_));rintro e w8 ⟨rfl,hb8⟩;have hO3:=hO2.move hb8;refine ⟨_,rfl,andS (hSt hO3 zS zS zS zS) fun _=>?_⟩;go_simp;have hrA:=dU HG.out.1.wf pa c;have hrB:=dU HG.out.2.1.wf pb c;have hps:jJ A' B' (pa,pb) c=(bD A' pa c,bD B' pb c):=rfl;have hpr:(-1≤(jJ A' B' (pa,pb) c).1∧(jJ A' B' (pa,pb) c).1≤A'.length)∧(-1≤(jJ A' B' (pa,pb) c).2∧(jJ A' B' (pa,pb) c).2≤B'.length):=by
      rw[hps];simp only;omega
     have hPI2:=HC.out.2.1.add hpr;have hpk:∀q∈l',Eb q:=fun q hq=>by
      have:=HC.out.2.1.rng q hq;exact⟨zo,zo,zo,zo⟩
     have hgt:=wS l' (jJ A' B' (pa,pb) c);have hpre:=wR l' (jJ A' B' (pa,pb) c);have hcs:=(HC.out.1.mono hpre).seg (h:=c) (zG _) hlt2 hgt (fun b h1 h2=>by rw[show b=c by omega]);have hlk2:(dW l' (jJ A' B' (pa,pb) c))[k]?=some (pa,pb):=by
      obtain⟨x,hx⟩:=hpre;rw[← hx,yF (List.getElem?_eq_some_iff.1 HC.out.2.2.1).1];exact HC.out.2.2.1
     have hpno:=rC l' (jJ A' B' (pa,pb) c);refine aH 17 zk (aF rfl rfl (aP (by go_simp;first | exact⟨rfl,rfl⟩ | rfl) (andS (hSt hO3 zS zS zS zS) fun _=>?_)));go_simp;have hq:=(hO3.pull (l₁:=[_,_,_,_,_,_])).pull (l₁:=[_,_,_,_,_,_]);refine aH 18 zk (aF rfl rfl (cO (by go_simp) (Kh (N+1) (.slice vla2 l'.length vlc2) l' (jJ A' B' (pa,pb) c) w w8 m mk' _ hq ⟨zo,zo,zo,zo⟩ hpk zo) ?_));rintro e w9 ⟨vl2,rfl,hq2⟩;have hO4:=(hq2.vU (l₁:=[_,_,_,_,_,_])).vU (l₁:=[_,_,_,_,_,_]);simp only[List.cons_append,List.nil_append] at hO4;refine ⟨_,rfl,andS (hSt hO4 zS zS zS zS) fun _=>?_⟩;generalize fO l' (jJ A' B' (pa,pb) c)=t at *
     generalize dW l' (jJ A' B' (pa,pb) c)=l2 at *
     clear hq hq2 hO3 hO2 hb7 hb8;go_simp;refine aH 19 zk (aF rfl rfl (aP (by go_simp;first | exact⟨rfl,rfl⟩ | rfl) (andS (hSt hO4 zS zS zS zS) fun _=>?_)));go_simp;have hO6:=hO4.al #[.int .u8 c,.int .u8 0,.int .i64 t] 133;refine aH 20 zk (aF rfl rfl (aP (by go_simp;first | exact⟨rfl,rfl⟩ | rfl) (andS (hSt hO6 zS zS zS zS) fun _=>?_)));go_simp;refine aH 21 zk (aF rfl rfl (dR mF (.tmp 61) (.tmp 80) rfl (.slice vea es.length vec) es.length (bQ es) rfl hO6.swap.row ⟨w9.heap.size,0,none⟩ 1 1 [.int .u8 c,.int .u8 0,.int .i64 t] rfl rfl (hO6.obj.news rfl) (by simp[Value.oneCell']) (by unfold maxLen;omega) zo (fun na' nc' w10 hown7 hgrow7 hrow7=>?_)));have hO7:=(hO6.swap.app hown7 hgrow7 hrow7 (zG _)).drop2;refine andS (hSt hO7 zS zS zS zS) fun hS3=>?_;go_simp;refine aH 22 zk (aF rfl rfl (aP (by go_simp;first | exact⟨rfl,rfl⟩ | rfl) (andS hS3 fun _=>?_)));go_simp;have f3:=hS3.2.2.2.frozen 1;have c3:=hS3.2.2.2.cell (i:=1) rfl;have hO8:=((hO7.third.set 1 (.slice na' (es.length+1) nc')).swap).third.swap;refine aH 23 zk (aF rfl rfl (aZ zg (iP rfl ?_)));refine dE zk ?_ _;have Hfin:=zh (zi hO8 hcs);clear hO8 hO7 hO6 hO4 hO hS hS3 f3 c3 hown7 hgrow7 hrow7 hcs;refine hV.out _ _ rfl ⟨l2,vl2,.slice na' (es.length+1) nc',es,⟨c,0,t⟩,rfl,?_,Hfin.out.2,hPI2,hlk2⟩;have:=Hfin.out.1;simpa [eT] using this
   rintro z3 vs w7 - ⟨l2,vl2,ve2,fs,e,rfl,hO,hcov2,hPI2,hlk2⟩;simp[litL,lk];obtain⟨vea2,vec2,rfl⟩:=aM hO.row;obtain⟨eb,rfl⟩:=iL hO.row zo;have hwu:IntKind.u8.wrap (c:Int)=(c:Int):=IntWalk.u8_in _ zo;have s1:=hO.third.obj.c 1;have s2:=hO.third.obj.lt;have y1:=aT hO.row (ja (fs ++ [e]) fs.length zS).2.1;have y2:=dh hO.row (fs.length*3+1);have y3:=(World.ownsRow.lt hO.row _ rfl).2;have hlt5:fs.length<fs.length+1:=zo;have hfl:fs.length+1≤256:=by have:=(hcov2.ok (by have:=kC hPI2.nodup hPI2.rng;omega)).2;simpa using this
   have hO6:=hO.setRow (fs.length*3+1) (.int .u8 c);rw[qK] at hO6;have Hfin:=zh (zi hO6 (zi hcov2 (zi hPI2 hlk2)));clear hO6 hO hcov2 hPI2 hlk2;go_wp2;refine hY.out _ _ _ zo rfl ⟨c+1,l2,vl2,.slice (some ⟨eb,0,none⟩) (fs.length+1) vec2,fs ++ [⟨e.lo,c,e.to⟩],zo,rfl,rfl,?_,Hfin.out.2.1,Hfin.out.2.2.1,Hfin.out.2.2.2⟩;have:=Hfin.out.1;simpa using this
  ·obtain rfl:c=256:=zo;have hPIn:=HC.out.2.1.push (p:=(pa,pb)) (by rw[HP.out.2.1];exact HC.out.2.2.1) HC.out.1;have hes:=fC (l:=es) (m:=mk') hO.row HC.out.2.2.2;have hmk2:=Mem.dG (w:=w6) hO.free;have hrow2:=(hrow.mono hmk2).push (s:=⟨f (bz A' pa) (bz B' pb),es⟩) hes;have hO2:=hO.bv;have s0:=hO2.swap.obj.c 0;have s1:=hO2.swap.obj.c 1;have sl:=hO2.swap.obj.lt;obtain⟨voa,voc,rfl⟩:=aM (hO2.jY (v:=vo) (t:=92) (size:=2) (n:=k) (xs:=xs) zS);have hO3:=hO2.al #[.bool (f (bz A' pa) (bz B' pb)),.slice vea es.length vec] 92;have hO4:=hO3.pull (l₁:=[_,_,_,_]);have hvr:=hO4.row;have hnews:=hO3.obj.news rfl;have Hk:=zh (zi hrow2 (zi (Mem.le_trans hmk hmk2) hPIn));clear hrow2 hes hmk2 hO2 hO hPIn hO3;generalize mk'.addv w6 (.slice vea es.length vec)=mk2 at *
   go_wp2_with (at_builtin;refine aA iJ rfl (.tmp 94) (.tmp 96) rfl (.slice voa k voc) k xs rfl hvr ⟨w6.heap.size,0,none⟩ 1 1 [.bool (f (bz A' pa) (bz B' pb)),.slice vea es.length vec] rfl rfl hnews (by simp[Value.oneCell']) (by unfold maxLen;omega) zo ?_)
   intro xa' xc' w7 hown7 hgrow7 hrow7;have hO5:=(hO4.app hown7 hgrow7 hrow7 zS).drop2.drop2.drop2.drop2;have HO5:=zh hO5;clear hown7 hgrow7 hrow7 hO4 hO5 hvr hnews;go_wp2;refine hX.out _ _ _ zo rfl ⟨k+1,l',out ++ [⟨f (bz A' pa) (bz B' pb),es⟩],.slice vla2 l'.length vlc2,.slice xa' (k+1) xc',_,mk2,rfl,rfl,HO5.out,Hk.out.1,Hk.out.2.1,Hk.out.2.2,?_⟩;rw[zJ,HP.out.2.1];rfl
 ·have hkl2:k=l.length:=zo;have hdone:=hPI.done hff zo;obtain⟨voa,voc,rfl⟩:=aM hO.row;have hst:=dK (l:=out) (m:=mk') (by rw[hol];exact hO.row) hrow hO.free;have hO2:=hO.bv;have hml:m.le (mk'.addv wr (.slice voa k voc)):=Mem.le_trans hO.ext.le (Mem.dG hO.free);have HM:=zh (nA (.slice voa k voc) out _ wr hO2.inn (htab.le hml) hst zo);have HO2:=zh hO2;have HD:=zh (zi hdone hol);clear hO2 hst hml hO hdone hol hob hPI hrow hkl2
  go_wp2_with fail
  refine HM.out.mono ?_;rintro e w2 ⟨r,C,rfl,hb2,hst,hClen,hmin,hnot⟩;have hwf:=HD.out.1.1;rw[aN hwf];obtain⟨ra,rc,rfl⟩:∃ra rc,r=.slice ra C.length rc:=by obtain⟨x,y,e,-⟩:=hst;exact⟨x,y,e⟩
  have hO3:=HO2.out.call hb2;have hO4:=(hO3.pull (l₁:=[_,_])).al #[.slice ra C.length rc] 27;have g1:=hO4.swap.obj.c 0;have g2:=hO4.swap.obj.frozen 0;have g3:=hO4.swap.obj.lt;have hO5:=hO4.swap.set 0 (.slice ra C.length rc);have g4:=hO5.obj.c 0;have hfin:=aJ hO5.done hst;have Hk:=zh (zi hO5.below (zi hfin (zi (hmin hwf) hClen)));clear hO5 hO4 hO3 hfin hmin hnot hst hClen HO2 hwf;go_wp2;refine yQ (v:=.agg #[.slice ra C.length rc]) (by simp[results,Tryz.results204,go_sem,g4]) rfl ?_;refine hR.out _ _ ⟨_,C,rfl,Hk.out.1,Hk.out.2.1,⟨Hk.out.2.2.1.canon,fun x=>?_⟩,?_⟩
  ·rw[Hk.out.2.2.1.lang,HD.out.1.2.2.2.2,HG.out.2.2.1,HG.out.2.2.2]
  ·have h1:=Hk.out.2.2.2;have h2:=HD.out.2;omega
theorem Cq (l:Table):eQ (Sem l) (bT l):=by
 refine ⟨gU l,fun x=>?_⟩;unfold bT Sem;by_cases h:Canon l
 ·simp[aN h]
 ·simp[aK h];exact cu x
theorem BO (x:List UInt8):Sem [] x=false:=by rw[fF dM];exact cu x
theorem GH (l:Table):∀s∈bT l,s.edges.length≤1000000:=fun s hs=>by
 have:=vS (gU l).wf (gU l).bytes s hs;omega
structure Fits (A B:Table):Prop where
 mul:(A.length+2)*(B.length+2)≤1000000
 a:A.length≤1000000
 b:B.length≤1000000
theorem Fits.of {A B:Table} {x y:Nat} (hx:A.length≤x) (hy:B.length≤y) (h:(x+2)*(y+2)≤1000000):Fits A B:=by
 have h1:(A.length+2)*(B.length+2)≤(x+2)*(y+2):=Nat.mul_le_mul zo zo;have h2:A.length+2≤(A.length+2)*(B.length+2):=Nat.le_mul_of_pos_right _ zo;have h3:B.length+2≤(A.length+2)*(B.length+2):=Nat.le_mul_of_pos_left _ zo;exact⟨zo,zo,zo⟩
theorem Gz (v0 v1:Value) (A B:Table) (m:Mem) (w:World) (hm:m.inn w) (htab:TabM m) (hA:aG m v0 A) (hB:aG m v1 B) (hF:Fits A B) :
 Calls Tryz.prog 138 #[.agg #[v0],.agg #[v1]] w fun e w'=>∃r C,e=.returned (.agg #[r])∧Below w.heap.size w w'∧aG (m.grow w w') r C ∧
  eQ (fun x=>Sem A x&&Sem B x) C∧C.length≤(A.length+2)*(B.length+2)+1:=by
 have hO:=(((Own.start hm).al #[v0] 27).al #[v1] 27).al #[.slice none 0 0] 27;have hsz1:(w.alloc (.cells #[v0] 27)).heap.size=w.heap.size+1:=by simp
 have hsz2:((w.alloc (.cells #[v0] 27)).alloc (.cells #[v1] 27)).heap.size=w.heap.size+2:=by simp
 rw[hsz2,hsz1] at hO;have HP:=zh (wN 205 (fun x y=>x&&y) Qj rfl (zh fun x y w=>by go_simp) v0 v1 A B m _ hO.inn htab hA hB hF.mul hF.a hF.b);have HO:=zh hO;obtain⟨va,vc,rfl,a1,a2,a3⟩:=hA;obtain⟨vb,vd,rfl,b1,b2,b3⟩:=hB;unfold maxLen at a2 b2;clear hO hsz1 hsz2 a3 b3;refine aj fun R hR=>?_;by_cases hA0:A.length=0∨B.length=0
 ·have hl:eQ (fun x=>Sem A x&&Sem B x) []:=IY.congr fun x=>by
   rcases hA0 with h | h
   ·rw[yH h,BO];rfl
   ·rw[yH h,BO];cases Sem A x <;> rfl
  have Hl:=zh hl;by_cases h1:A.length=0
  ·have hdec:((A.length:Int)==0)=true:=by simp[h1]
   have g1:=HO.out.obj.c 0;clear hl hA0 h1
   go_enter Tryz.func138,Tryz.ntmps138
   go_wp2;refine yQ (v:=.agg #[.slice none 0 0]) (by simp[results,Tryz.results138,go_sem]) rfl ?_;exact hR.out _ _ ⟨_,[],rfl,HO.out.below,bC _,Hl.out,zS⟩
  ·have h2:B.length=0:=zo;have hdec:((A.length:Int)==0)=false:=beq_eq_false_iff_ne.2 zo;have hdec2:((B.length:Int)==0)=true:=by simp[h2]
   clear hl hA0 h1 h2
   go_enter Tryz.func138,Tryz.ntmps138
   go_wp2;refine yQ (v:=.agg #[.slice none 0 0]) (by simp[results,Tryz.results138,go_sem]) rfl ?_;exact hR.out _ _ ⟨_,[],rfl,HO.out.below,bC _,Hl.out,zS⟩
 ·have hdec:((A.length:Int)==0)=false:=beq_eq_false_iff_ne.2 zo;have hdec2:((B.length:Int)==0)=false:=beq_eq_false_iff_ne.2 zo;clear hA0
  go_enter Tryz.func138,Tryz.ntmps138
  go_wp2_with fail
  refine HP.out.mono ?_;rintro e w1 ⟨r,C,rfl,hb1,hst,hlang,hClen⟩;have hO1:=HO.out.call hb1;obtain⟨ra,rc,rfl⟩:∃ra rc,r=.slice ra C.length rc:=by obtain⟨x,y,e,-⟩:=hst;exact⟨x,y,e⟩
  have g1:=hO1.obj.c 0;have g2:=hO1.obj.frozen 0;have g3:=hO1.obj.lt;have hO2:=hO1.set 0 (.slice ra C.length rc);have g4:=hO2.obj.c 0;have Hk:=zh (zi hO2.below (zi (aJ hO2.done hst) (zi hlang hClen)));clear hO2 hO1 hst hlang hClen HP HO hb1;go_wp2;refine yQ (v:=.agg #[.slice ra C.length rc]) (by simp[results,Tryz.results138,go_sem,g4]) rfl ?_;exact hR.out _ _ ⟨_,C,rfl,Hk.out.1,Hk.out.2.1,Hk.out.2.2.1,Hk.out.2.2.2⟩
theorem kr (v0 v1:Value) (A B:Table) (m:Mem) (w:World) (hm:m.inn w) (htab:TabM m) (hA:aG m v0 A) (hB:aG m v1 B) (hF:Fits A B) :
 Calls Tryz.prog 161 #[.agg #[v0],.agg #[v1]] w fun e w'=>∃r C,e=.returned (.agg #[r])∧Below w.heap.size w w'∧aG (m.grow w w') r C ∧
  eQ (fun x=>(Sem A x && !Sem B x)) C∧C.length≤(A.length+2)*(B.length+2)+1:=by
 have hO:=(((Own.start hm).al #[v0] 27).al #[v1] 27).al #[.slice none 0 0] 27;have hsz1:(w.alloc (.cells #[v0] 27)).heap.size=w.heap.size+1:=by simp
 have hsz2:((w.alloc (.cells #[v0] 27)).alloc (.cells #[v1] 27)).heap.size=w.heap.size+2:=by simp
 rw[hsz2,hsz1] at hO;have HP:=zh (wN 227 (fun x y=>(x && !y)) Lf rfl (zh fun x y w=>by go_simp) v0 v1 A B m _ hO.inn htab hA hB hF.mul hF.a hF.b);have HGA:=zh (mW v0 A m _ hO.inn htab hA hF.a);have HGB:=zh (mW v1 B m _ hO.inn htab hB hF.b);have HC:=zh (fun l r mk w (h:mk.inn w) (hl:l.length≤1000000) (hst:aG mk r (bT l))=>KX r (bT l) mk w h hst (by have:=iE l;omega) (GH l));have HO:=zh hO;have hFm:=hF.mul;have hFa:=hF.a;have hFb:=hF.b;have hgA:=iE A;have hgB:=iE B;have hmA:A.length+2≤(A.length+2)*(B.length+2):=Nat.le_mul_of_pos_right _ zo;have hmB:B.length+2≤(A.length+2)*(B.length+2):=Nat.le_mul_of_pos_left _ zo;obtain⟨va,vc,rfl,a1,a2,a3⟩:=hA;obtain⟨vb,vd,rfl,b1,b2,b3⟩:=hB;unfold maxLen at a2 b2;clear hO hsz1 hsz2 a3 b3 hF;refine aj fun R hR=>?_;by_cases hA0:A.length=0
 ·have hl:eQ (fun x=>(Sem A x && !Sem B x)) []:=IY.congr fun x=>by
   rw[yH hA0,BO];rfl
  have Hl:=zh hl;have hdec:((A.length:Int)==0)=true:=by simp[hA0]
  have g1:=HO.out.obj.c 0;clear hl hA0
  go_enter Tryz.func161,Tryz.ntmps161
  go_wp2;refine yQ (v:=.agg #[.slice none 0 0]) (by simp[results,Tryz.results161,go_sem]) rfl ?_;exact hR.out _ _ ⟨_,[],rfl,HO.out.below,bC _,Hl.out,zS⟩
 ·have hdec:((A.length:Int)==0)=false:=beq_eq_false_iff_ne.2 zo;by_cases hB0:B.length=0
  ·have hl:eQ (fun x=>(Sem A x && !Sem B x)) (bT A):=(Cq A).congr fun x=>by
    rw[yH hB0,BO];cases Sem A x <;> rfl
   have Hl:=zh hl;have hdec2:((B.length:Int)==0)=true:=by simp[hB0]
   clear hl hA0 hB0
   go_enter Tryz.func161,Tryz.ntmps161
   go_wp2_with fail
   refine HGA.out.mono ?_;rintro e w1 ⟨r,rfl,hb1,hst⟩;have hO1:=HO.out.call hb1;obtain⟨ra,rc,rfl⟩:∃ra rc,r=.slice ra (bT A).length rc:=by obtain⟨x,y,e,-⟩:=hst;exact⟨x,y,e⟩
   have HC2:=zh (HC.out A _ _ _ hO1.inn zo hst);have HO1:=zh hO1;clear hO1 HC HGA HGB HO hb1 hst
   go_wp2_with fail
   refine HC2.out.mono ?_;rintro e w2 ⟨r,rfl,hb2,hst⟩;have hO1:=HO1.out.call hb2;obtain⟨ra,rc,rfl⟩:∃ra rc,r=.slice ra (bT A).length rc:=by obtain⟨x,y,e,-⟩:=hst;exact⟨x,y,e⟩
   have g1:=hO1.obj.c 0;have g2:=hO1.obj.frozen 0;have g3:=hO1.obj.lt;have hO2:=hO1.set 0 (.slice ra (bT A).length rc);have g4:=hO2.obj.c 0;have Hk:=zh (zi hO2.below (aJ hO2.done hst));clear hO2 hO1 hst HP HO1 hb2;go_wp2;refine yQ (v:=.agg #[.slice ra (bT A).length rc]) (by simp[results,Tryz.results161,go_sem,g4]) rfl ?_;exact hR.out _ _ ⟨_,bT A,rfl,Hk.out.1,Hk.out.2,Hl.out,zo⟩
  ·have hdec2:((B.length:Int)==0)=false:=beq_eq_false_iff_ne.2 zo;clear hA0 hB0 HC HGA HGB
   go_enter Tryz.func161,Tryz.ntmps161
   go_wp2_with fail
   refine HP.out.mono ?_;rintro e w1 ⟨r,C,rfl,hb1,hst,hlang,hClen⟩;have hO1:=HO.out.call hb1;obtain⟨ra,rc,rfl⟩:∃ra rc,r=.slice ra C.length rc:=by obtain⟨x,y,e,-⟩:=hst;exact⟨x,y,e⟩
   have g1:=hO1.obj.c 0;have g2:=hO1.obj.frozen 0;have g3:=hO1.obj.lt;have hO2:=hO1.set 0 (.slice ra C.length rc);have g4:=hO2.obj.c 0;have Hk:=zh (zi hO2.below (zi (aJ hO2.done hst) (zi hlang hClen)));clear hO2 hO1 hst hlang hClen HP HO hb1;go_wp2;refine yQ (v:=.agg #[.slice ra C.length rc]) (by simp[results,Tryz.results161,go_sem,g4]) rfl ?_;exact hR.out _ _ ⟨_,C,rfl,Hk.out.1,Hk.out.2.1,Hk.out.2.2.1,Hk.out.2.2.2⟩
theorem OA:eQ (fun _=>true) allT:=by
 have h0:∀w,aC allT 0 w=true:=by
  intro w
  induction w with
  | nil=>rfl
  | cons b w ih=>
   have hb:=b.toNat_lt;have:bD allT 0 b.toNat=0:=by
    show aY [(⟨0,255,0⟩:Ed)] b.toNat=0;simp only[aY];rw[zI ⟨zC _,zo⟩]
   simp only[aC,this,ih]
 have ht:∀(k b t:Nat),bD allT k b=t→t=0:=by
  intro k b t h;by_cases hk:k<1
  ·obtain rfl:k=0:=zo;have h1:aY [(⟨0,255,0⟩:Ed)] b=t:=h;simp only[aY] at h1
   split at h1 <;> omega
  ·rw[dV allT k b (by simp[allT];omega)] at h;omega
 refine ⟨⟨?_,?_,?_,?_,?_,?_,?_⟩,h0⟩
 ·intro s hs;simp only[allT,zU] at hs;subst hs;exact⟨zC _,zS,by simp[allT],zS,trivial⟩
 ·intro s hs e he;simp only[allT,zU] at hs;subst hs;simp only[zU] at he;subst he;exact⟨zS,zS⟩
 ·intro s hs;simp only[allT,zU] at hs;subst hs;trivial
 ·intro k hk;obtain rfl:k=0:=by simp[allT] at hk;exact hk
  exact⟨[],h0 []⟩
 ·intro i j hi hj _;simp[allT] at hi hj;omega
 ·intro k b t _ h t' h1 h2;have:=ht k b t h;omega
 ·intro t h1 h2;simp[allT] at h2;omega
theorem Js (x:List UInt8):Sem allT x=true:=OA.sem x
theorem Ov (m:Mem) (w:World) :
 Calls Tryz.prog 134 #[] w fun e w'=>∃r,e=.returned (.agg #[r])∧Below w.heap.size w w'∧aG (m.grow w w') r allT:=by
 refine (yo w).mono ?_;rintro e w' ⟨g1,g2,rfl,hb,h1,h2,h3,o1,o2⟩;have gc:∀{g t arr i v},w.heap.size≤g→bE w' g t arr→arr[i]?=some v→(m.grow w w').cell g i=some v:=by
  intro g t arr i v hg ho hv;unfold Mem.cell Mem.grow;rw[zH zo,ho.get];exact hv
 refine ⟨_,rfl,hb,some ⟨g2,0,none⟩,1,rfl,zG _,by simp[maxLen],fun _=>⟨g2,0,rfl,fun i hi=>?_⟩⟩;obtain rfl:i=0:=by simp[allT] at hi;exact hi
 refine ⟨gc h2 o2 rfl,_,gc h2 o2 rfl,some ⟨g1,0,none⟩,1,rfl,zG _,by simp[maxLen],fun _=>⟨g1,0,rfl,fun j hj=>?_⟩⟩;obtain rfl:j=0:=by simp[allT] at hj;exact hj
 exact⟨gc h1 o1 rfl,gc h1 o1 rfl,gc h1 o1 rfl,by simp[allT],by simp[allT],by simp[allT],by simp[allT]⟩
theorem qD (v0:Value) (A:Table) (m:Mem) (w:World) (hm:m.inn w) (htab:TabM m) (hA:aG m v0 A) (hF:A.length≤300000) :
 Calls Tryz.prog 255 #[.agg #[v0]] w fun e w'=>∃r C,e=.returned (.agg #[r])∧Below w.heap.size w w'∧aG (m.grow w w') r C ∧
  eQ (fun x => !Sem A x) C∧C.length≤3*(A.length+2)+1:=by
 have hO:=((Own.start hm).al #[v0] 27).al #[.slice none 0 0] 27;have hsz1:(w.alloc (.cells #[v0] 27)).heap.size=w.heap.size+1:=by simp
 rw[hsz1] at hO;have HO:=zh hO;have HM:=zh (fun r mk w (h:mk.inn w) (hle:m.le mk) (hst:aG mk r allT)=>kr r v0 allT A mk w h (htab.le hle) hst (aJ hle hA) (Fits.of (x:=1) (y:=A.length) (zG _) (zG _) zo));have hA':=hA;obtain⟨va,vc,rfl,-⟩:=hA;clear hO hsz1;refine aj fun R hR=>?_
 go_enter Tryz.func255,Tryz.ntmps255
 go_wp2;refine aI [2] (fun vs w'=>∃(r:Value) (C:Table) (mk:Mem),vs=[.pointer (some ⟨w.heap.size+1,0,none⟩)]∧Own w m w' mk [.obj (w.heap.size+1) 27 #[r],.obj w.heap.size 27 #[.slice va A.length vc]]∧aG mk r C ∧
  eQ (fun x => !Sem A x) C∧C.length≤3*(A.length+2)+1) ?_ ?_
 ·intro X hX;refine fo (fun w'=>bE w' w.heap.size 27 #[.slice va A.length vc]) 3 zk ?_;have hO:=HO.out.dr;have hS:=hO.swap.obj;refine az 1 rfl zk (fun _ _ _ h=>h) hS (av rfl fun w' hS'=>by have q:=hS'.cell (i:=0) rfl;go_simp;rfl) ?_;refine aH 0 zk (aF rfl rfl (cO (by go_simp;rfl) (Ov m _) ?_));rintro e w1 ⟨r,rfl,hb1,hst⟩;have hO2:=hO.call hb1;have hle:=Mem.dF (w:=w1) hO.inn;refine ⟨_,rfl,andS hO2.swap.obj fun _=>?_⟩;go_simp;refine aH 2 zk (aF rfl rfl (cO (by go_simp) (HM.out _ _ _ hO2.inn hle hst) ?_));rintro e w2 ⟨r2,C,rfl,hb2,hst2,hlang,hClen⟩;have hO3:=hO2.call hb2;refine ⟨_,rfl,andS hO3.swap.obj fun _=>?_⟩;obtain⟨ra,rc,rfl⟩:∃ra rc,r2=.slice ra C.length rc:=by obtain⟨x,y,e,-⟩:=hst2;exact⟨x,y,e⟩
  go_simp;have g1:=hO3.obj.c 0;have g2:=hO3.obj.frozen 0;refine aH 3 zk (aF rfl rfl (aZ zg (iP rfl ?_)));refine dE zk ?_ _;refine hX.out _ _ rfl ⟨_,C,_,rfl,hO3.set 0 _,hst2,hlang.congr fun x=>?_,?_⟩
  ·rw[Js];rfl
  ·have:allT.length=1:=rfl;rw[this] at hClen;exact hClen
 rintro z vs w1 - ⟨r,C,mk,rfl,hO,hst,hlang,hClen⟩;simp[litL,lk];obtain⟨ra,rc,rfl⟩:∃ra rc,r=.slice ra C.length rc:=by obtain⟨x,y,e,-⟩:=hst;exact⟨x,y,e⟩
 have g4:=hO.obj.c 0;have Hk:=zh (zi hO.below (zi (aJ hO.done hst) (zi hlang hClen)));clear hO hst hlang hClen HO HM;go_wp2;refine yQ (v:=.agg #[.slice ra C.length rc]) (by simp[results,Tryz.results255,go_sem,g4]) rfl ?_;exact hR.out _ _ ⟨_,C,rfl,Hk.out.1,Hk.out.2.1,Hk.out.2.2.1,Hk.out.2.2.2⟩
attribute [local go_sem] Oper.semAt_some
def pY (mk:Mem) (v:Value) (u:List UInt8):Prop:=
 (u=[]∧v=.slice none 0 0)∨(u≠[]∧∃g c,v=.slice (some ⟨g,0,none⟩) u.length c∧u.length≤c∧c≤maxLen∧∀i,(h:i<u.length)→mk.cell g i=some (.int .u8 (u[i]).toNat))
theorem pY.le {mk mk':Mem} {v:Value} {u:List UInt8} (h:pY mk v u) (hl:mk.le mk'):pY mk' v u:=by
 rcases h with h | ⟨h1,g,c,h2,h3,h4,h5⟩
 ·exact .inl h
 ·exact .inr ⟨h1,g,c,h2,h3,h4,fun i hi=>Mem.aB hl (h5 i hi)⟩
theorem strOfNums_bytes (u:List UInt8):strOfNums (u.map fun b=>(b.toNat:Int))=⟨u.toArray⟩:=by
 unfold strOfNums
 congr 1
 rw[List.map_map]
 congr 1
 conv=>rhs;rw[← List.map_id u]
 apply List.map_congr_left;intro b _;simp
theorem wB {mk:Mem} {w:World} {v:Value} {u:List UInt8} (h:pY mk v u) (hm:mk.inn w):(convert 234 9 v).run Tryz.prog w=.ok (.string ⟨u.toArray⟩) w:=by
 rcases h with ⟨rfl,rfl⟩ | ⟨h1,g,c,rfl,h3,h4,h5⟩
 ·exact run_convert_bytes_nil w 234 5 Tryz.underlying234 Tryz.underlying5 0 0 _ Tryz.underlying9
 ·have:=run_convert_bytes_arg w 234 5 Tryz.underlying234 Tryz.underlying5 g 0 u.length c (u.map fun b=>(b.toNat:Int)) zS (fun i hi=>by
   rw[Nat.zero_add,Mem.ak hm (h5 i hi)];simp[List.getD,hi]) _ Tryz.underlying9
  rw[this,strOfNums_bytes]
structure Fu (T:Table) (l:Nat) (w0:World) (m mk0:Mem) (B Bx:List (List UInt8)→List Item→Prop) (Lr:List Item) (gy ga gt gv tb ntab ctab:Nat) (va:Value):Prop where
 yield:yu Tryz.prog l (fun x:List UInt8=>#[Value.string ⟨x.toArray⟩]) w0 m mk0 B Bx
 cy:mk0.cell gy 0=some (.func (.yield l) #[] #[])
 ca:mk0.cell ga 0=some va
 ct:mk0.cell gt 0=some (.slice (some ⟨tb,0,none⟩) ntab ctab)
 cv:mk0.cell gv 0=some (.func (.func 311) #[] #[.pointer (some ⟨gy,0,none⟩),.pointer (some ⟨ga,0,none⟩),.pointer (some ⟨gt,0,none⟩),.pointer (some ⟨gv,0,none⟩)])
 tab:aG mk0 va T
 rows:∀W mk Lt,Own w0 m W mk (Lt ++ Lr)→∀i,i<ntab→∃u,W.cell? ⟨tb,i,none⟩=some u∧iq mk0 u (canN T i)
 ntab:ntab≤maxLen
def OI (w0:World) (m mk:Mem) (B Bx:List (List UInt8)→List Item→Prop) (Lr:List Item) (pre ws:List (List UInt8)) (e:Ending) (W':World):Prop:=
 (e=.returned (.bool true)∧∃mk' Lt,B (pre ++ ws) Lt∧Own w0 m W' mk' (Lt ++ Lr)∧mk.le mk') ∨
 (e=.returned (.bool false)∧∃q mk' Lt,q≠[]∧q <+: ws∧Bx (pre ++ q) Lt∧Own w0 m W' mk' (Lt ++ Lr)∧mk.le mk')
theorem JG {T:Table} {l:Nat} {w0:World} {m mk0:Mem} {B Bx:List (List UInt8)→List Item→Prop} {Lr:List Item} {gy ga gt gv tb ntab ctab:Nat} {va:Value} (hE:Fu T l w0 m mk0 B Bx Lr gy ga gt gv tb ntab ctab va)
 (s:Nat) (u:List UInt8) (vp:Value) (pre:List (List UInt8)) (mk:Mem) (W:World) (Lt:List Item) (hle:mk0.le mk) (hp:pY mk vp u) (hB:B pre Lt) (hO:Own w0 m W mk (Lt ++ Lr)) :
 Calls Tryz.prog 311 #[.int .i64 s,.int .i64 0,vp,.pointer (some ⟨gy,0,none⟩),.pointer (some ⟨ga,0,none⟩),.pointer (some ⟨gt,0,none⟩),.pointer (some ⟨gv,0,none⟩)] W (OI w0 m mk B Bx Lr pre [u]):=by
 have hcy:=Mem.ak hO.inn (Mem.aB hle hE.cy);have hcyl:=Mem.ay hO.inn (Mem.aB hle hE.cy);have hcv:=wB hp hO.inn;obtain⟨fn,tmps,assign,body,hy,hR⟩:=hE.yield pre u W mk Lt Lr hB hO hle;refine aj fun R hR'=>?_;clear hO hB hp hE hle
 go_enter Tryz.func311,Tryz.ntmps311
 refine (wpIn_wide (n:=0)).1 ?_
 gi_wp2
 refine ⟨rfl,hR.mono ?_⟩;rintro e W' (⟨rfl,mk',Lt',h1,h2,h3⟩ | ⟨rfl,mk',Lt',h1,h2,h3⟩)
 ·have Hk:=zh (zi h1 (zi h2 h3));clear h1 h2 h3
  gi_wp2
  exact hR'.out _ _ (.inl ⟨rfl,mk',Lt',Hk.out.1,Hk.out.2.1,Hk.out.2.2⟩)
 ·have Hk:=zh (zi h1 (zi h2 h3));clear h1 h2 h3
  gi_wp2
  exact hR'.out _ _ (.inr ⟨rfl,[u],mk',Lt',zS,List.prefix_refl _,Hk.out.1,Hk.out.2.1,Hk.out.2.2⟩)
theorem QA:gL Tryz.prog 234 5 1 1:=⟨Tryz.underlying234,zo,by
 obtain⟨i,h1,h2,h3,h4⟩:=info_parts (P:=Tryz.prog) (e:=5) (z:=.int .u8 0) (size:=1) (bytes:=1) zk;exact⟨i,_,h1,h2,h3,h4,rfl⟩⟩
def cutV (v:Value) (u:List UInt8):Value:=match v with
 | .slice a _ _=>.slice a u.length u.length
 | v=>v
theorem ru {w0 w:World} {m mk:Mem} {L:List Cl.Item} {v:Value} {u:List UInt8} {c:Nat} (h:pY mk v u) (hc:c<256) (hO:Own w0 m w mk L) (ga:Nat) (hga:w.cell? ⟨ga,0,none⟩=some (.int .u8 c)) (hu:u.length≤1000000) :
 ∃v' w' mk',(Builtin.append_ #[234,234] 234 #[cutV v u,.slice (some ⟨ga,0,none⟩) 1 1]).run Tryz.prog w=.ok v' w'∧Own w0 m w' mk' L∧mk.le mk'∧pY mk' v' (u ++ [UInt8.ofNat c]):=by
 have hnews:∀j x,[Value.int .u8 c][j]?=some x→w.cell? ((⟨ga,0,none⟩:Addr).add j)=some x:=by
  intro j x hj;rw[Addr.add_lit,Nat.zero_add]
  cases j with
  | zero=>simp at hj;rw[← hj];exact hga
  | succ j=>simp at hj
 have hof:((UInt8.ofNat c).toNat:Int)=(c:Int):=by
  rw[UInt8.toNat_ofNat'];omega
 rcases h with ⟨rfl,rfl⟩ | ⟨hne,g,cc,rfl,h3,h4,h5⟩
 ·have hO1:=hO.dI 5 1;obtain⟨v',w',hr,hown,hg,hrow⟩:=iR QA w 234 (.slice none 0 0) 0 [] hO1.row ⟨ga,0,none⟩ 1 1 [.int .u8 c] rfl hnews (by simp[Value.oneCell']) (by simp[maxLen]) zS;have hO2:=hO1.app hown hg hrow (zG _);obtain⟨va,vc,rfl⟩:=aM hO2.row;obtain⟨gb,rfl⟩:=iL hO2.row zo;refine ⟨_,w',mk.addv w' (.slice (some ⟨gb,0,none⟩) (0+1) vc),hr,hO2.bv,Mem.dG hO2.free,.inr ⟨zS,gb,vc,rfl,?_,?_,fun i hi=>?_⟩⟩
  ·rcases hO2.row.2 with ⟨h,-⟩ | ⟨g',cap,cur,h,-,-,hnc,-⟩
   ·cases h
   ·injection h with h1 h2 h3;subst h3;simpa using hnc
  ·rcases hO2.row.2 with ⟨h,-⟩ | ⟨g',cap,cur,h,-,-,-,hcm,-⟩
   ·cases h
   ·injection h with h1 h2 h3;subst h3;exact hcm
  ·obtain rfl:i=0:=by simp at hi;exact hi
   have:=fw hO2.row (g:=gb) rfl mk (j:=0) (u:=.int .u8 c) rfl;rw[this];simp only[List.nil_append,List.getElem_cons_zero];rw[hof]
 ·obtain⟨i,hi,hz,hs,hb⟩:=info_parts (P:=Tryz.prog) (e:=5) (z:=.int .u8 0) (size:=1) (bytes:=1) zk;have holds:∀j x,(u.map fun b=>Value.int .u8 b.toNat)[j]?=some x→w.cell? ((⟨g,0,none⟩:Addr).add j)=some x:=by
   intro j x hj;rw[Addr.add_lit,Nat.zero_add];have hjl:j<u.length:=by
    have:=(List.getElem?_eq_some_iff.1 hj).1;simpa using this
   rw[Mem.ak hO.inn (h5 j hjl)];simp[hjl] at hj;rw[← hj]
  have hr:=run_append_grow (P:=Tryz.prog) (w:=w) 234 234 5 i (.int .u8 0) Tryz.underlying234 hi hz ⟨g,0,none⟩ u.length u.length (u.map fun b=>Value.int .u8 b.toNat) (by simp[hs]) holds ⟨ga,0,none⟩ 1 1 [.int .u8 c] (by simp[hs]) hnews zo zo (growslice_fits zo (by rw[hb];omega));have hO1:=hO.dr.al ((u.map fun b=>Value.int .u8 b.toNat).toArray ++ [Value.int .u8 c].toArray ++ Builtin.zeroCells (Value.int .u8 0).cells (grownCap w (u.length+1) u.length 5 - (u.length+1))) 5;have hO2:=hO1.iY;refine ⟨_,_,mk.add _ w.heap.size,hr,hO2,Mem.jE hO1.iO,.inr ⟨zS,w.heap.size,grownCap w (u.length+1) u.length 5,?_,?_,?_,fun j hj=>?_⟩⟩
  ·simp
  ·simpa using grownCap_ge w _ _ _
  ·exact grownCap_le_maxLen w _ _ _ (by unfold maxLen;omega)
  ·refine Mem.bW hO1.obj ?_;simp only[zJ,yJ,List.length_nil] at hj;by_cases hju:j<u.length
   ·rw[Array.getElem?_append_left (by simp;omega),Array.getElem?_append_left (by simpa using hju)];simp[hju,List.getElem_append_left hju]
   ·obtain rfl:j=u.length:=zo;rw[Array.getElem?_append_left zS,Array.getElem?_append_right zS];simp;rw[← hof];simp
theorem wp_append_run {P:Program} {w w':World} {o:Oper} {a:Act} {K:Act→World→Prop} {Q:Exit→Act→World→Prop} (s x:Operand) (t:TypeId)
 (ho:o.op=.call { callee:=.builtin .append,args:=#[s,x],argTypes:=#[t,t] }) {v v2 v':Value} (hs:a.eval s=v) (hx:a.eval x=v2)
 (hr:(Builtin.append_ #[t,t] o.type #[v,v2]).run P w=.ok v' w') (h:K (a.put o.dst v') w'):o.wp P a w K Q:=by
 unfold Oper.wp execOp;simp only[ho,resolve,invoke,builtin,Sem.run_bind,Sem.run_pure,Result.andThen_ok,List.map_toArray,yG,List.map_nil,hs,hx,hr];exact h
def Qg (T:Table) (w0:World) (m mk0:Mem) (B Bx:List (List UInt8)→List Item→Prop) (Lr:List Item) (gy ga gt gv n:Nat):Prop:=
 ∀(s:Nat) (u:List UInt8) (vp:Value) (pre:List (List UInt8)) (mk:Mem) (W:World) (Lt:List Item),s<T.length→wex T n s≠[]→u.length+n≤1000000→mk0.le mk→pY mk vp u→B pre Lt→Own w0 m W mk (Lt ++ Lr) →
  Calls Tryz.prog 311 #[.int .i64 s,.int .i64 n,vp,.pointer (some ⟨gy,0,none⟩),.pointer (some ⟨ga,0,none⟩),.pointer (some ⟨gt,0,none⟩),.pointer (some ⟨gv,0,none⟩)] W (OI w0 m mk B Bx Lr pre ((wex T n s).map (u ++ ·)))
theorem JE {T:Table} {l:Nat} {w0:World} {m mk0:Mem} {B Bx:List (List UInt8)→List Item→Prop} {Lr:List Item} {gy ga gt gv tb ntab ctab:Nat} {va:Value} (hE:Fu T l w0 m mk0 B Bx Lr gy ga gt gv tb ntab ctab va) :
 Qg T w0 m mk0 B Bx Lr gy ga gt gv 0:=by
 intro s u vp pre mk W Lt hs hne _ hle hp hB hO;have:wex T 0 (s:Int)=[[]]:=by
  unfold wex at hne ⊢
  split
  ·rfl
  ·rename_i h;rw[zH h] at hne;exact absurd rfl hne
 rw[this];simpa using JG hE s u vp pre mk W Lt hle hp hB hO
def zy (T:Table) (n:Nat) (u:List UInt8) (es:List Ed) (i:Nat) (e:Ed) (b:Nat):List (List UInt8):=(esW T n (es.take i) ++ edW T n e.to e.lo (b - e.lo)).map (u ++ ·)
theorem KR (T:Table) (n:Nat) (u:List UInt8) (es:List Ed) (i:Nat) (e:Ed) (b:Nat) (h:e.lo≤b) :
 zy T n u es i e (b+1)=zy T n u es i e b ++ (wex T n e.to).map ((u ++ [UInt8.ofNat b]) ++ ·):=by
 unfold zy;rw[show b+1 - e.lo=(b - e.lo)+1 by omega,Ct,← List.append_assoc,yD,show e.lo+(b - e.lo)=b by omega]
 congr 1
 unfold vC;rw[List.map_map];apply List.map_congr_left;intro x _;simp
theorem NI {T:Table} {n:Nat} {u:List UInt8} {es:List Ed} {i:Nat} (h:i<es.length) {b:Nat} (h2:b≤(es[i]).hi):zy T n u es i es[i] (b+1) <+: (esW T n es).map (u ++ ·):=by
 unfold zy;have h1:esW T n (es.take i) ++ edW T n (es[i]).to (es[i]).lo (b+1 - (es[i]).lo) <+: esW T n es:=by
  have a1:edW T n (es[i]).to (es[i]).lo (b+1 - (es[i]).lo) <+: edW T n (es[i]).to (es[i]).lo ((es[i]).hi+1 - (es[i]).lo):=by
   unfold edW;have:=List.range'_append_1 (s:=(es[i]).lo) (m:=b+1 - (es[i]).lo) (n:=((es[i]).hi+1 - (es[i]).lo) - (b+1 - (es[i]).lo));rw[show (b+1 - (es[i]).lo)+(((es[i]).hi+1 - (es[i]).lo) - (b+1 - (es[i]).lo))=(es[i]).hi+1 - (es[i]).lo by omega] at this;rw[← this,List.flatMap_append];exact List.prefix_append _ _
  have a2:esW T n (es.take (i+1)) <+: esW T n es:=by
   unfold esW
   conv=>rhs;rw[← List.take_append_drop (i+1) es,List.flatMap_append]
   exact List.prefix_append _ _
  rw[rW T n es h] at a2;exact ((List.prefix_append_right_inj _).2 a1).trans a2
 exact h1.map _
theorem KS {T:Table} {n:Nat} {u:List UInt8} {es:List Ed} {i:Nat} (h:i<es.length) {b:Nat} (hx:b=(es[i]).hi+1∨wex T n (es[i]).to=[]):zy T n u es i es[i] b=(esW T n (es.take (i+1))).map (u ++ ·):=by
 unfold zy;rw[rW T n es h];rcases hx with rfl | hx
 ·rfl
 ·rw[GR hx,GR hx]
theorem JF {T:Table} {l:Nat} {w0:World} {m mk0:Mem} {B Bx:List (List UInt8)→List Item→Prop} {Lr:List Item} {gy ga gt gv tb ntab ctab:Nat} {va:Value} (hE:Fu T l w0 m mk0 B Bx Lr gy ga gt gv tb ntab ctab va)
 (hwf:WF T) (hby:Bytes T) (n:Nat) (hn:n<ntab) (ih:Qg T w0 m mk0 B Bx Lr gy ga gt gv n):Qg T w0 m mk0 B Bx Lr gy ga gt gv (n+1):=by
 intro s u vp pre mk W Lt hs _ hun hle hp hB hO;have hE0:=hE;have hm0:=Mem.cK hle hO.inn;have ha:=Mem.ak hm0 hE.ca;have hal:=Mem.ay hm0 hE.ca;obtain⟨aa,ac,rfl,a1,a2,a3⟩:=hE.tab;obtain⟨ab,ao,rfl,a4⟩:=a3 (by intro h;simp[h] at hs);obtain⟨-,ve,s2,ea,ec,rfl,g4,g5,g6⟩:=a4 s hs;have s2w:=Mem.ak hm0 s2;have s2l:=Mem.ay hm0 s2;have Hex:=zh (Fz hwf hby hs n);have hwfs:=hwf T[s] (zB hs);have hbys:=hby T[s] (zB hs);generalize T[s].edges=es at *
 have HW:=zh (zi hwfs hbys);have HE:=zh hE0;have HIH:=zh ih;have HO:=zh (zi hO hB);have Hle:=zh hle;have Hp:=zh hp;unfold maxLen at a2 g5;have hdec:((n:Int)+1==0)=false:=beq_eq_false_iff_ne.2 zo;rw[Hex.out];refine aj fun R hR=>?_;clear hE hE0 ih hO hB hle a3 a4 hwfs hbys hm0 s2 hp hwf hby;rw[show ((n+1:Nat):Int)=(n:Int)+1 by omega]
 go_enter Tryz.func311,Tryz.ntmps311
 go_wp2;refine au [0,1,2,3,4,5,6,25,26,27] (fun q vs W1=>∃(i:Nat) (mk1:Mem) (Lt1:List Item),i≤es.length∧q=es.length - i ∧
  vs=[.int .i64 s,.int .i64 ((n:Int)+1),vp,.pointer (some ⟨gy,0,none⟩),.pointer (some ⟨ga,0,none⟩),.pointer (some ⟨gt,0,none⟩),.pointer (some ⟨gv,0,none⟩),.slice ea es.length ec,.int .i64 es.length,.int .i64 i] ∧
  mk.le mk1∧B (pre ++ (esW T n (es.take i)).map (u ++ ·)) Lt1∧Own w0 m W1 mk1 (Lt1 ++ Lr)) ?_ ?_
 ·exact⟨_,0,mk,Lt,zC _,rfl,rfl,Mem.le_refl _,by simpa [esW] using HO.out.2,HO.out.1⟩
 clear HO s2w s2l ha hal;rintro X z q vs W1 hX - ⟨i,mk1,Lt1,hi,rfl,rfl,hle1,hB1,hO1⟩;simp[litL,lk];have hm1:=Mem.cK (Mem.le_trans Hle.out hle1) hO1.inn;by_cases hlt:i<es.length
 ·obtain⟨eb,eo,rfl,g7⟩:=g6 (by intro h;simp[h] at hlt);obtain⟨e1,e2,e3,e4,e5,e6⟩:=g7 i hlt;have e1w:=Mem.ak hm1 e1;have e2w:=Mem.ak hm1 e2;have e3w:=Mem.ak hm1 e3;have el:=Mem.ay hm1 e1;have hlh:=eU HW.out.1 es[i] (zB hlt);have HDp:=zh (fun b (hb:b≤(es[i]).hi)=>NI (T:=T) (n:=n) (u:=u) hlt hb);have HDl:=zh (fun b (hx:b=(es[i]).hi+1∨wex T n (es[i]).to=[])=>KS (T:=T) (n:=n) (u:=u) hlt (b:=b) hx);have HDn:=zh (fun b (hb:(es[i]).lo≤b)=>KR T n u es i es[i] b hb);have hD0:zy T n u es i es[i] (es[i]).lo=(esW T n (es.take i)).map (u ++ ·):=by
   unfold zy;rw[Nat.sub_self,Jf,yM]
  rw[← hD0] at hB1;clear hD0;generalize es[i]=e at *
  generalize hDD:zy T n u es i e=DD at *
  clear hDD;have hO2:=(hO1.al #[.int .u8 e.lo,.int .u8 e.hi,.int .i64 e.to] 133);have hO3:=hO2.iY;have hle2:=Mem.le_trans hle1 (Mem.jE (w:=W1.alloc (.cells #[.int .u8 e.lo,.int .u8 e.hi,.int .i64 e.to] 133)) hO2.iO);have x1:=Mem.bW (m:=mk1) hO2.obj (i:=0) rfl;have x2:=Mem.bW (m:=mk1) hO2.obj (i:=1) rfl;have x3:=Mem.bW (m:=mk1) hO2.obj (i:=2) rfl;have Hk:=zh (zi hO3 (zi hle2 hB1));obtain⟨t,ht⟩:=zQ hlh.2.1;have htl:t<T.length:=zo;have Ht:=zh ht;clear hO2 hO3 hO1 hB1 hle2 ht hm1;go_wp2;generalize W1.heap.size=E at *
  generalize mk1.add (W1.alloc (.cells #[.int .u8 e.lo,.int .u8 e.hi,.int .i64 e.to] 133)) E=mk2 at *
  refine au [0,1,2,3,4,5,6,12,13,25,26,27] (fun q vs W2=>∃(b:Nat) (mk3:Mem) (Lt3:List Item),e.lo≤b∧b≤e.hi+1∧q=e.hi+1 - b ∧
   vs=[.int .i64 s,.int .i64 ((n:Int)+1),vp,.pointer (some ⟨gy,0,none⟩),.pointer (some ⟨ga,0,none⟩),.pointer (some ⟨gt,0,none⟩),.pointer (some ⟨gv,0,none⟩),.pointer (some ⟨E,0,none⟩),.int .i64 b,.slice (some ⟨eb,eo,none⟩) es.length ec,.int .i64 es.length,.int .i64 i] ∧
   mk2.le mk3∧B (pre ++ DD b) Lt3∧Own w0 m W2 mk3 (Lt3 ++ Lr)) ?_ ?_
  ·exact⟨_,e.lo,mk2,Lt1,zG _,zo,rfl,rfl,Mem.le_refl _,Hk.out.2.2,Hk.out.1⟩
  clear e1w e2w e3w el;rintro Y z2 q vs W2 hY - ⟨b,mk3,Lt3,hb1,hb2,rfl,rfl,hle3,hB3,hO3⟩;simp[litL,lk];have hm3:=hO3.inn;have y1:=Mem.ak hm3 (Mem.aB hle3 x1);have y2:=Mem.ak hm3 (Mem.aB hle3 x2);have y3:=Mem.ak hm3 (Mem.aB hle3 x3);simp only[List.getElem_toArray,List.getElem_cons_succ,List.getElem_cons_zero] at y3;rw[Ht.out] at y3;have yl:=Mem.ay hm3 (Mem.aB hle3 x1);have hle03:=Mem.le_trans (Mem.le_trans Hle.out Hk.out.2.1) hle3;have hct:=Mem.ak hm3 (Mem.aB hle03 HE.out.ct);have hctl:=Mem.ay hm3 (Mem.aB hle03 HE.out.ct);obtain⟨ur,hur,ra,rc,rfl,r2,r3,r4⟩:=HE.out.rows _ _ _ hO3 n hn;have hcl:=sF T n;obtain⟨rb,ro,rfl,r5⟩:=r4 (by intro h;rw[h] at hcl;simp at hcl;omega);have hcn:t<(canN T n).length:=zo;have z1:=r5 t hcn;have z1w:=Mem.ak hm3 (Mem.aB hle03 z1);have z1l:=Mem.ay hm3 (Mem.aB hle03 z1);have hurl:tb<W2.heap.size:=by
   simp only[World.cell?] at hur
   split at hur
   ·rename_i hb;exact (Array.getElem?_eq_some_iff.1 hb).1
   ·cases hur
  have hcv:(canN T n)[t]=true↔wex T n (t:Int)≠[]:=by
   have h1:=nz T n htl;rw[yC hcn] at h1;rw[Option.some.inj h1];simp
  have Hcv:=zh hcv;obtain⟨cb,hcb⟩:∃cb,(canN T n)[t]=cb:=⟨_,rfl⟩;rw[hcb] at z1w;have Hcb:=zh hcb;have hw1:IntKind.i64.wrap ((n:Int)+1 - 1)=(n:Int):=by rw[IntWalk.i64_in _ zo];omega
  have hcl2:T.length≤(canN T n).length:=zo;have Hst:=zh (zi hB3 (zi hO3 (zi hle3 hle03)));have hnt:=HE.out.ntab;unfold maxLen at r3 hnt;generalize canN T n=cl at *
  clear hcl hcv hcb z1 r4 r5 hB3 hO3 hle03;go_wp2;refine aI [0,1,2,3,4,5,6,12,13,25,26,27,49] (fun vs w'=>∃(bb:Bool) (nq:Nat),vs=[.int .i64 s,.int .i64 ((n:Int)+1),vp,.pointer (some ⟨gy,0,none⟩),.pointer (some ⟨ga,0,none⟩),.pointer (some ⟨gt,0,none⟩),.pointer (some ⟨gv,0,none⟩),.pointer (some ⟨E,0,none⟩),.int .i64 b,.slice (some ⟨eb,eo,none⟩) es.length ec,.int .i64 es.length,.int .i64 i,.bool bb] ∧
   w'=W2.drewN nq∧(bb=true→b≤e.hi∧wex T n (t:Int)≠[])∧(bb=false→b=e.hi+1∨wex T n (t:Int)=[])) ?_ ?_
  ·intro V hV;by_cases hbh:b≤e.hi
   ·have hdb:decide ((b:Int)≤(e.hi:Int))=true:=zL zo;refine wp_region_quiet_lit zk zk ?_
    repeat (any_goals (first | go_big_quiet_step (fail) | quiet_step (fail) | (refine wpQuiet_step (fun K hK=>?_);go_simp;split <;> (refine hK _ ?_;clear hK K))))
    all_goals (refine wpQuiet_nil ?_;intro _ hw';obtain⟨nq,hw''⟩:=hw';subst hw'')
    all_goals go_wp2
    all_goals
     refine hV.out _ _ rfl ⟨cb,nq,rfl,rfl,fun h=>⟨hbh,Hcv.out.1 (Hcb.out.trans h)⟩,fun h=>.inr (zN fun hx=>?_)⟩;have:=Hcv.out.2 hx;rw[Hcb.out,h] at this;cases this
   ·have hdb:decide ((b:Int)≤(e.hi:Int))=false:=zK zo;refine wp_region_quiet_lit zk zk ?_
    repeat (any_goals (first | go_big_quiet_step (fail) | quiet_step (fail) | (refine wpQuiet_step (fun K hK=>?_);go_simp;split <;> (refine hK _ ?_;clear hK K))))
    all_goals (refine wpQuiet_nil ?_;intro _ hw';obtain⟨nq,hw''⟩:=hw';subst hw'')
    all_goals go_wp2
    all_goals exact hV.out _ _ rfl ⟨false,nq,rfl,rfl,(fun h=>by cases h),fun _=>.inl zo⟩
  rintro z3 vs w3 - ⟨bb,nq,rfl,rfl,hbt,hbf⟩;simp[litL,lk]
  cases bb with
  | false=>
   have Hbf:=zh (hbf rfl);clear hbt hbf;go_wp2;refine hX.out _ _ _ zo rfl ⟨i+1,mk3,Lt3,zo,rfl,rfl,Mem.le_trans Hk.out.2.1 Hst.out.2.2.1,?_,Hst.out.2.1.drN nq⟩;rw[← HDl.out b (by rw[Ht.out];exact Hbf.out)]
   exact Hst.out.1
  | true=>
   have Hbt:=zh (hbt rfl);clear hbt hbf;go_wp2;refine aI [0,1,2,3,4,5,6,12,13,25,26,27,68] (fun vs w'=>∃(bb:Bool) (mk4:Mem) (Lt4:List Item),vs=[.int .i64 s,.int .i64 ((n:Int)+1),vp,.pointer (some ⟨gy,0,none⟩),.pointer (some ⟨ga,0,none⟩),.pointer (some ⟨gt,0,none⟩),.pointer (some ⟨gv,0,none⟩),.pointer (some ⟨E,0,none⟩),.int .i64 b,.slice (some ⟨eb,eo,none⟩) es.length ec,.int .i64 es.length,.int .i64 i,.bool bb] ∧
    mk3.le mk4∧Own w0 m w' mk4 (Lt4 ++ Lr)∧(bb=false→B (pre ++ DD (b+1)) Lt4)∧(bb=true→∃qq,qq≠[]∧qq <+: (wex T n e.to).map ((u ++ [UInt8.ofNat b]) ++ ·)∧Bx ((pre ++ DD b) ++ qq) Lt4)) ?_ ?_
   ·intro V hV;have hpp:=Hp.out.le (Mem.le_trans Hk.out.2.1 Hst.out.2.2.1);obtain⟨hbh,hne⟩:=Hbt.out;have hwu:IntKind.u8.wrap (b:Int)=(b:Int):=IntWalk.u8_in _ zo;have hcvf:=fun w' (h:mk3.inn w')=>Mem.ak h (Mem.aB Hst.out.2.2.2 HE.out.cv);have hx3:=fun w' (h:mk3.inn w')=>Mem.ak h (Mem.aB hle3 x3);simp only[List.getElem_toArray,List.getElem_cons_succ,List.getElem_cons_zero] at hx3;rw[Ht.out] at hx3;have hw2:IntKind.i64.wrap (n:Int)=(n:Int):=IntWalk.i64_in _ zo;have Hcvf:=zh hcvf;have Hx3:=zh hx3;clear hcvf hx3;have hul:u.length≤1000000:=zo;refine kF (fun _ w'=>mk3.inn w') zk ?_;have hO:=(Hst.out.2.1.drN nq).dr;have hS:mk3.inn (W2.drewN nq).drew:=hO.inn;have hxl:=Mem.ay hS (Mem.aB hle3 x3);generalize (W2.drewN nq).drew=w4 at *
    rcases hpp with ⟨hu,hv⟩ | ⟨hu,g,c,hv,hp3,hp4,hp5⟩
    ·subst hv;have hpf:pY mk3 (.slice none 0 0) u:=.inl ⟨hu,rfl⟩;have hcut:cutV (.slice none 0 0) u=.slice none 0 0:=by simp[cutV,hu]
     clear hu;refine bI 0 rfl zk (fun _ _ _ h=>h) hS (av rfl fun w' hS'=>by have q:=Hcvf.out _ hS';have q1:=Hx3.out _ hS';have q2:=Mem.ay hS' (Mem.aB hle3 x3);have q3:=Mem.ay hS' (Mem.aB Hst.out.2.2.2 HE.out.cv);go_simp;rfl) ?_;refine bI 1 rfl zk (fun _ _ _ h=>h) hS (av rfl fun w' hS'=>by have q:=Hcvf.out _ hS';have q1:=Hx3.out _ hS';have q2:=Mem.ay hS' (Mem.aB hle3 x3);have q3:=Mem.ay hS' (Mem.aB Hst.out.2.2.2 HE.out.cv);go_simp;rfl) ?_;refine bI 2 rfl zk (fun _ _ _ h=>h) hS (av rfl fun w' hS'=>by have q:=Hcvf.out _ hS';have q1:=Hx3.out _ hS';have q2:=Mem.ay hS' (Mem.aB hle3 x3);have q3:=Mem.ay hS' (Mem.aB Hst.out.2.2.2 HE.out.cv);go_simp;rfl) ?_;refine bI 3 rfl zk (fun _ _ _ h=>h) hS (av rfl fun w' hS'=>by have q:=Hcvf.out _ hS';have q1:=Hx3.out _ hS';have q2:=Mem.ay hS' (Mem.aB hle3 x3);have q3:=Mem.ay hS' (Mem.aB Hst.out.2.2.2 HE.out.cv);go_simp;rfl) ?_;refine bI 4 rfl zk (fun _ _ _ h=>h) hS (av rfl fun w' hS'=>by have q:=Hcvf.out _ hS';have q1:=Hx3.out _ hS';have q2:=Mem.ay hS' (Mem.aB hle3 x3);have q3:=Mem.ay hS' (Mem.aB Hst.out.2.2.2 HE.out.cv);go_simp;rfl) ?_;refine bI 5 rfl zk (fun _ _ _ h=>h) hS (av rfl fun w' hS'=>by have q:=Hcvf.out _ hS';have q1:=Hx3.out _ hS';have q2:=Mem.ay hS' (Mem.aB hle3 x3);have q3:=Mem.ay hS' (Mem.aB Hst.out.2.2.2 HE.out.cv);go_simp;rfl) ?_;refine bI 6 rfl zk (fun _ _ _ h=>h) hS (av rfl fun w' hS'=>by have q:=Hcvf.out _ hS';have q1:=Hx3.out _ hS';have q2:=Mem.ay hS' (Mem.aB hle3 x3);have q3:=Mem.ay hS' (Mem.aB Hst.out.2.2.2 HE.out.cv);go_simp;rfl) ?_;refine bI 7 rfl zk (fun _ _ _ h=>h) hS (av rfl fun w' hS'=>by have q:=Hcvf.out _ hS';have q1:=Hx3.out _ hS';have q2:=Mem.ay hS' (Mem.aB hle3 x3);have q3:=Mem.ay hS' (Mem.aB Hst.out.2.2.2 HE.out.cv);go_simp;rfl) ?_;refine bI 8 rfl zk (fun _ _ _ h=>h) hS (av rfl fun w' hS'=>by have q:=Hcvf.out _ hS';have q1:=Hx3.out _ hS';have q2:=Mem.ay hS' (Mem.aB hle3 x3);have q3:=Mem.ay hS' (Mem.aB Hst.out.2.2.2 HE.out.cv);go_simp;rfl) ?_;refine bI 9 rfl zk (fun _ _ _ h=>h) hS (av rfl fun w' hS'=>by have q:=Hcvf.out _ hS';have q1:=Hx3.out _ hS';have q2:=Mem.ay hS' (Mem.aB hle3 x3);have q3:=Mem.ay hS' (Mem.aB Hst.out.2.2.2 HE.out.cv);go_simp;rfl) ?_;refine bI 10 rfl zk (fun _ _ _ h=>h) hS (av rfl fun w' hS'=>by have q:=Hcvf.out _ hS';have q1:=Hx3.out _ hS';have q2:=Mem.ay hS' (Mem.aB hle3 x3);have q3:=Mem.ay hS' (Mem.aB Hst.out.2.2.2 HE.out.cv);go_simp;rfl) ?_;refine bI 11 rfl zk (fun _ _ _ h=>h) hS (av rfl fun w' hS'=>by have q:=Hcvf.out _ hS';have q1:=Hx3.out _ hS';have q2:=Mem.ay hS' (Mem.aB hle3 x3);have q3:=Mem.ay hS' (Mem.aB Hst.out.2.2.2 HE.out.cv);go_simp;rfl) ?_;refine bI 12 rfl zk (fun _ _ _ h=>h) hS (av rfl fun w' hS'=>by have q:=Hcvf.out _ hS';have q1:=Hx3.out _ hS';have q2:=Mem.ay hS' (Mem.aB hle3 x3);have q3:=Mem.ay hS' (Mem.aB Hst.out.2.2.2 HE.out.cv);go_simp;rfl) ?_;refine bg 13 zk (aF rfl rfl (aP (by go_simp;first | exact⟨rfl,rfl⟩ | rfl) ⟨.inr (hO.al #[.int .u8 b] 5).inn,?_⟩));go_simp;have hO6:=hO.al #[.int .u8 b] 5;obtain⟨v',w6,mk4,hr,hO7,hle7,hpf7⟩:=ru hpf (by omega:b<256) hO6 w4.heap.size (hO6.obj.c 0) hul;rw[hcut] at hr;refine bg 14 zk (aF rfl rfl (wp_append_run (.tmp 62) (.tmp 65) 234 rfl rfl rfl hr ⟨.inr (Mem.cK hle7 hO7.inn),?_⟩));go_simp;have hIH:=HIH.out t (u ++ [UInt8.ofNat b]) v' (pre ++ DD b) mk4 w6 Lt3 htl hne (by simp;omega) (Mem.le_trans Hst.out.2.2.2 hle7) hpf7 Hst.out.1 (hO7.perm (List.Perm.refl _)).tail;refine bg 15 zk (aF rfl rfl (cO (by go_simp) hIH ?_));rintro e' w7 (⟨rfl,mk5,Lt5,k1,k2,k3⟩ | ⟨rfl,qq,mk5,Lt5,k0,k1,k2,k3,k4⟩)
     ·refine ⟨_,rfl,.inr (Mem.cK (Mem.le_trans hle7 k3) k2.inn),?_⟩;go_simp;refine bg 16 zk (aF rfl rfl (aP (by go_simp;first | done | exact⟨rfl,rfl⟩ | rfl) ⟨.inl rfl,?_⟩));refine gz zk ?_ _;refine hV.out _ _ rfl ⟨false,mk5,Lt5,rfl,Mem.le_trans hle7 k3,k2,fun _=>?_,fun h=>by cases h⟩;rw[HDn.out b hb1,← List.append_assoc,Ht.out];exact k1
     ·refine ⟨_,rfl,.inr (Mem.cK (Mem.le_trans hle7 k4) k3.inn),?_⟩;go_simp;refine bg 16 zk (aF rfl rfl (aP (by go_simp;first | done | exact⟨rfl,rfl⟩ | rfl) ⟨.inl rfl,?_⟩));refine gz zk ?_ _;exact hV.out _ _ rfl ⟨true,mk5,Lt5,rfl,Mem.le_trans hle7 k4,k3,(fun h=>by cases h),fun _=>⟨qq,k0,by rw[Ht.out];exact k1,k2⟩⟩
    ·subst hv;have hpf:pY mk3 (.slice (some ⟨g,0,none⟩) u.length c) u:=.inr ⟨hu,g,c,rfl,hp3,hp4,hp5⟩;have hcut:cutV (.slice (some ⟨g,0,none⟩) u.length c) u=.slice (some ⟨g,0,none⟩) u.length u.length:=rfl;have hu2:0<u.length:=List.length_pos_iff.2 hu;unfold maxLen at hp4;clear hu hp5;refine bI 0 rfl zk (fun _ _ _ h=>h) hS (av rfl fun w' hS'=>by have q:=Hcvf.out _ hS';have q1:=Hx3.out _ hS';have q2:=Mem.ay hS' (Mem.aB hle3 x3);have q3:=Mem.ay hS' (Mem.aB Hst.out.2.2.2 HE.out.cv);go_simp;rfl) ?_;refine bI 1 rfl zk (fun _ _ _ h=>h) hS (av rfl fun w' hS'=>by have q:=Hcvf.out _ hS';have q1:=Hx3.out _ hS';have q2:=Mem.ay hS' (Mem.aB hle3 x3);have q3:=Mem.ay hS' (Mem.aB Hst.out.2.2.2 HE.out.cv);go_simp;rfl) ?_;refine bI 2 rfl zk (fun _ _ _ h=>h) hS (av rfl fun w' hS'=>by have q:=Hcvf.out _ hS';have q1:=Hx3.out _ hS';have q2:=Mem.ay hS' (Mem.aB hle3 x3);have q3:=Mem.ay hS' (Mem.aB Hst.out.2.2.2 HE.out.cv);go_simp;rfl) ?_;refine bI 3 rfl zk (fun _ _ _ h=>h) hS (av rfl fun w' hS'=>by have q:=Hcvf.out _ hS';have q1:=Hx3.out _ hS';have q2:=Mem.ay hS' (Mem.aB hle3 x3);have q3:=Mem.ay hS' (Mem.aB Hst.out.2.2.2 HE.out.cv);go_simp;rfl) ?_;refine bI 4 rfl zk (fun _ _ _ h=>h) hS (av rfl fun w' hS'=>by have q:=Hcvf.out _ hS';have q1:=Hx3.out _ hS';have q2:=Mem.ay hS' (Mem.aB hle3 x3);have q3:=Mem.ay hS' (Mem.aB Hst.out.2.2.2 HE.out.cv);go_simp;rfl) ?_;refine bI 5 rfl zk (fun _ _ _ h=>h) hS (av rfl fun w' hS'=>by have q:=Hcvf.out _ hS';have q1:=Hx3.out _ hS';have q2:=Mem.ay hS' (Mem.aB hle3 x3);have q3:=Mem.ay hS' (Mem.aB Hst.out.2.2.2 HE.out.cv);go_simp;rfl) ?_;refine bI 6 rfl zk (fun _ _ _ h=>h) hS (av rfl fun w' hS'=>by have q:=Hcvf.out _ hS';have q1:=Hx3.out _ hS';have q2:=Mem.ay hS' (Mem.aB hle3 x3);have q3:=Mem.ay hS' (Mem.aB Hst.out.2.2.2 HE.out.cv);go_simp;rfl) ?_;refine bI 7 rfl zk (fun _ _ _ h=>h) hS (av rfl fun w' hS'=>by have q:=Hcvf.out _ hS';have q1:=Hx3.out _ hS';have q2:=Mem.ay hS' (Mem.aB hle3 x3);have q3:=Mem.ay hS' (Mem.aB Hst.out.2.2.2 HE.out.cv);go_simp;rfl) ?_;refine bI 8 rfl zk (fun _ _ _ h=>h) hS (av rfl fun w' hS'=>by have q:=Hcvf.out _ hS';have q1:=Hx3.out _ hS';have q2:=Mem.ay hS' (Mem.aB hle3 x3);have q3:=Mem.ay hS' (Mem.aB Hst.out.2.2.2 HE.out.cv);go_simp;rfl) ?_;refine bI 9 rfl zk (fun _ _ _ h=>h) hS (av rfl fun w' hS'=>by have q:=Hcvf.out _ hS';have q1:=Hx3.out _ hS';have q2:=Mem.ay hS' (Mem.aB hle3 x3);have q3:=Mem.ay hS' (Mem.aB Hst.out.2.2.2 HE.out.cv);go_simp;rfl) ?_;refine bI 10 rfl zk (fun _ _ _ h=>h) hS (av rfl fun w' hS'=>by have q:=Hcvf.out _ hS';have q1:=Hx3.out _ hS';have q2:=Mem.ay hS' (Mem.aB hle3 x3);have q3:=Mem.ay hS' (Mem.aB Hst.out.2.2.2 HE.out.cv);go_simp;rfl) ?_;refine bI 11 rfl zk (fun _ _ _ h=>h) hS (av rfl fun w' hS'=>by have q:=Hcvf.out _ hS';have q1:=Hx3.out _ hS';have q2:=Mem.ay hS' (Mem.aB hle3 x3);have q3:=Mem.ay hS' (Mem.aB Hst.out.2.2.2 HE.out.cv);go_simp;rfl) ?_;refine bI 12 rfl zk (fun _ _ _ h=>h) hS (av rfl fun w' hS'=>by have q:=Hcvf.out _ hS';have q1:=Hx3.out _ hS';have q2:=Mem.ay hS' (Mem.aB hle3 x3);have q3:=Mem.ay hS' (Mem.aB Hst.out.2.2.2 HE.out.cv);go_simp;rfl) ?_;refine bg 13 zk (aF rfl rfl (aP (by go_simp;first | exact⟨rfl,rfl⟩ | rfl) ⟨.inr (hO.al #[.int .u8 b] 5).inn,?_⟩));go_simp;have hO6:=hO.al #[.int .u8 b] 5;obtain⟨v',w6,mk4,hr,hO7,hle7,hpf7⟩:=ru hpf (by omega:b<256) hO6 w4.heap.size (hO6.obj.c 0) hul;rw[hcut] at hr;refine bg 14 zk (aF rfl rfl (wp_append_run (.tmp 62) (.tmp 65) 234 rfl rfl rfl hr ⟨.inr (Mem.cK hle7 hO7.inn),?_⟩));go_simp;have hIH:=HIH.out t (u ++ [UInt8.ofNat b]) v' (pre ++ DD b) mk4 w6 Lt3 htl hne (by simp;omega) (Mem.le_trans Hst.out.2.2.2 hle7) hpf7 Hst.out.1 (hO7.perm (List.Perm.refl _)).tail;refine bg 15 zk (aF rfl rfl (cO (by go_simp) hIH ?_));rintro e' w7 (⟨rfl,mk5,Lt5,k1,k2,k3⟩ | ⟨rfl,qq,mk5,Lt5,k0,k1,k2,k3,k4⟩)
     ·refine ⟨_,rfl,.inr (Mem.cK (Mem.le_trans hle7 k3) k2.inn),?_⟩;go_simp;refine bg 16 zk (aF rfl rfl (aP (by go_simp;first | done | exact⟨rfl,rfl⟩ | rfl) ⟨.inl rfl,?_⟩));refine gz zk ?_ _;refine hV.out _ _ rfl ⟨false,mk5,Lt5,rfl,Mem.le_trans hle7 k3,k2,fun _=>?_,fun h=>by cases h⟩;rw[HDn.out b hb1,← List.append_assoc,Ht.out];exact k1
     ·refine ⟨_,rfl,.inr (Mem.cK (Mem.le_trans hle7 k4) k3.inn),?_⟩;go_simp;refine bg 16 zk (aF rfl rfl (aP (by go_simp;first | done | exact⟨rfl,rfl⟩ | rfl) ⟨.inl rfl,?_⟩));refine gz zk ?_ _;exact hV.out _ _ rfl ⟨true,mk5,Lt5,rfl,Mem.le_trans hle7 k4,k3,(fun h=>by cases h),fun _=>⟨qq,k0,by rw[Ht.out];exact k1,k2⟩⟩
   rintro z5 vs w5 - ⟨bb,mk4,Lt4,rfl,hle4,hO4,hB4,hX4⟩;simp[litL,lk]
   cases bb with
   | true=>
    obtain⟨qq,hq1,hq2,hq3⟩:=hX4 rfl;have Hq:=zh (zi hq1 (zi hq2 (zi hq3 (zi hO4 hle4))));clear hX4 hB4 hq1 hq2 hq3 hO4 hle4 y1 y2 y3 hct z1w hur;go_wp2;refine hR.out _ _ (.inr ⟨rfl,DD b ++ qq,mk4,Lt4,?_,?_,?_,Hq.out.2.2.2.1,Mem.le_trans (Mem.le_trans Hk.out.2.1 Hst.out.2.2.1) Hq.out.2.2.2.2⟩)
    ·intro h;exact Hq.out.1 (List.append_eq_nil_iff.1 h).2
    ·have h1:=HDp.out b Hbt.out.1;rw[HDn.out b hb1] at h1;exact ((List.prefix_append_right_inj _).2 Hq.out.2.1).trans h1
    ·rw[← List.append_assoc];exact Hq.out.2.2.1
   | false=>
    have hB5:=hB4 rfl;have Hq:=zh (zi hB5 (zi hO4 hle4));clear hX4 hB4 hB5 hO4 hle4 y1 y2 y3 hct z1w hur;go_wp2;exact hY.out _ _ _ (by have:=Hbt.out.1;omega) rfl ⟨b+1,mk4,Lt4,zo,by have:=Hbt.out.1;omega,rfl,rfl,Mem.le_trans Hst.out.2.2.1 Hq.out.2.2,Hq.out.1,Hq.out.2.1⟩
 ·obtain rfl:i=es.length:=zo;rw[yB] at hB1;have Hq:=zh (zi hB1 (zi hO1 hle1));clear hB1 hO1 hle1;go_wp2;exact hR.out _ _ (.inl ⟨rfl,mk1,Lt1,Hq.out.1,Hq.out.2.1,Hq.out.2.2⟩)
end Cl
