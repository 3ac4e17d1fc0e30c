/- Lemmas for the proofs of chapter 11. -/
import Derived.Laws.EntriesVeiled
import Derived.Test.YtjhipmdamaocmaaGreatDoorPkN14
set_option maxRecDepth 100000
set_option maxHeartbeats 16000000
namespace Cl
open Go Go.RowKit Go.Proofs
theorem Dc {T:Table} {l:Nat} {w0:World} {m mk0:Mem} {B Bx:List (List UInt8)→List Item→Prop} {Lr:List Item} {gy ga gt gv tb ntab ctab:Nat} {va:Value} (hE:Fu T l w0 m mk0 B Bx Lr gy ga gt gv tb ntab ctab va)
 (hwf:WF T) (hby:Bytes T):∀n,n≤ntab→Qg T w0 m mk0 B Bx Lr gy ga gt gv n
 | 0,_=>JE hE
 | n+1,h=>JF hE hwf hby n h (Dc hE hwf hby n zo)
theorem Own.JU {w0 w:World} {m mk:Mem} {L:List Cl.Item} {g:Nat} {t:TypeId} {v:Value} (h:Own w0 m w mk (.obj g t #[v]::L)):∃mk',Own w0 m w mk' L∧mk.le mk'∧mk'.cell g 0=some v:=
 ⟨_,h.iY,Mem.jE h.iO,Mem.bW h.obj rfl⟩
theorem O3 {T:Table} {l:Nat} {w0:World} {m mk0:Mem} {B Bx:List (List UInt8)→List Item→Prop} {Lr:List Item} {tb n ctab clast ntab:Nat} {va:Value} (hwf:WF T) (hby:Bytes T)
 (hY:yu Tryz.prog l (fun x:List UInt8=>#[Value.string ⟨x.toArray⟩]) w0 m mk0 B Bx) (htab:aG mk0 va T) (hpos:0<T.length) (hnt:ntab≤maxLen) (hn:n<ntab) (hn2:n≤1000000) (_:clast≤maxLen)
 (rows:∀W mk Lt,Own w0 m W mk (Lt ++ Lr)→∀i,i<ntab→∃u,W.cell? ⟨tb,i,none⟩=some u∧iq mk0 u (canN T i))
 (pre:List (List UInt8)) (mk:Mem) (W:World) (Lt:List Item) (hle:mk0.le mk) (hB:B pre Lt) (hO:Own w0 m W mk (Lt ++ Lr)) :
 Calls Tryz.prog 277 #[.agg #[va],.slice (some ⟨tb,n,none⟩) 1 clast,.int .i64 n,.func (.yield l) #[] #[],.slice (some ⟨tb,0,none⟩) ntab ctab] W (OI w0 m mk B Bx Lr pre (wex T n 0)):=by
 have hO1:=((hO.al #[va] 27).al #[.func (.yield l) #[] #[]] 193).al #[.slice (some ⟨tb,0,none⟩) ntab ctab] 189;have hsz1:(W.alloc (.cells #[va] 27)).heap.size=W.heap.size+1:=by simp
 have hsz2:((W.alloc (.cells #[va] 27)).alloc (.cells #[.func (.yield l) #[] #[]] 193)).heap.size=W.heap.size+1+1:=by simp
 rw[hsz2,hsz1] at hO1;obtain⟨ur,hur,hb⟩:=rows W mk Lt hO n hn;obtain⟨ra,rc,rfl,r2,r3,r4⟩:=hb;have hcl0:=sF T n;obtain⟨rb,ro,rfl,r5⟩:=r4 (by intro h;rw[h] at hcl0;simp at hcl0;omega);have h0:0<(canN T n).length:=zo;have z1:=r5 0 h0;rw[Nat.add_zero] at z1;have z1w:=Mem.ak hO.inn (Mem.aB hle z1);have z1l:=Mem.ay hO.inn (Mem.aB hle z1);have hurl:tb<W.heap.size:=by
  simp only[World.cell?] at hur
  split at hur
  ·rename_i hb;exact (Array.getElem?_eq_some_iff.1 hb).1
  ·cases hur
 have hcv:(canN T n)[0]=true↔wex T n ((0:Nat):Int)≠[]:=by
  have h1:=nz T n hpos;rw[yC h0] at h1;rw[Option.some.inj h1];simp
 obtain⟨cb,hcb⟩:∃cb,(canN T n)[0]=cb:=⟨_,rfl⟩;rw[hcb] at z1w hcv;have hcl2:0<(canN T n).length:=h0;have hta:=htab;obtain⟨aa,ac,rfl,-⟩:=htab;have HO1:=zh (zi hO1 (zi hB (zi hle (zi rows (zi hY (zi hta (zi hwf hby)))))));have Hcv:=zh hcv;unfold maxLen at r3 hnt;generalize canN T n=cl at *
 clear hO1 hO hB hle hcl0 hcv hcb z1 r4 r5 hsz1 hsz2 rows hY hta hwf hby;have hurl1:tb<W.heap.size+1:=zo;have hurl2:tb<W.heap.size+1+1:=zo;have hurl3:tb<W.heap.size+1+1+1:=zo;have z1l1:rb<W.heap.size+1:=zo;have z1l2:rb<W.heap.size+1+1:=zo;have z1l3:rb<W.heap.size+1+1+1:=zo;refine aj fun R hR=>?_
 cases cb with
 | false=>
  go_enter Tryz.func277,Tryz.ntmps277
  go_wp2;have hw0:wex T n 0=[]:=zN fun h=>by have:=Hcv.out.2 h;cases this
  refine hR.out _ _ (.inl ⟨rfl,mk,Lt,by rw[hw0,yM];exact HO1.out.2.1,?_,Mem.le_refl _⟩)
  exact HO1.out.1.tail.tail.tail
 | true=>
  have hO2:=(HO1.out.1.al #[.func (.func 311) #[] #[.pointer (some ⟨W.heap.size+1,0,none⟩),.pointer (some ⟨W.heap.size,0,none⟩),.pointer (some ⟨W.heap.size+1+1,0,none⟩),.pointer (some ⟨W.heap.size+1+1+1,0,none⟩)]] 274);have hsz3:(((W.alloc (.cells #[.slice aa T.length ac] 27)).alloc (.cells #[.func (.yield l) #[] #[]] 193)).alloc (.cells #[.slice (some ⟨tb,0,none⟩) ntab ctab] 189)).heap.size=W.heap.size+1+1+1:=by simp
  rw[hsz3] at hO2;obtain⟨m1,hO3,l1,c1⟩:=hO2.JU;obtain⟨m2,hO4,l2,c2⟩:=hO3.JU;obtain⟨m3,hO5,l3,c3⟩:=hO4.JU;obtain⟨m4,hO6,l4,c4⟩:=hO5.JU;have hle:=HO1.out.2.2.1;have hle4:=Mem.le_trans (Mem.le_trans (Mem.le_trans l1 l2) l3) l4;have hE:Fu T l w0 m m4 B Bx Lr (W.heap.size+1) W.heap.size (W.heap.size+1+1) (W.heap.size+1+1+1) tb ntab ctab (.slice aa T.length ac):=by
   refine ⟨fun pre x W' mk' Lt' Lr' h1 h2 h3=>HO1.out.2.2.2.2.1 pre x W' mk' Lt' Lr' h1 h2 (Mem.le_trans (Mem.le_trans hle hle4) h3),Mem.aB l4 c3,c4,Mem.aB (Mem.le_trans l3 l4) c2,
    Mem.aB (Mem.le_trans (Mem.le_trans l2 l3) l4) c1,aJ (Mem.le_trans hle hle4) HO1.out.2.2.2.2.2.1,fun W' mk' Lt' h i hi=>?_,by unfold maxLen;exact hnt⟩
   obtain⟨u,h1,h2⟩:=HO1.out.2.2.2.1 W' mk' Lt' h i hi;exact⟨u,h1,ji (Mem.le_trans hle hle4) h2⟩
  have hV:=Dc hE HO1.out.2.2.2.2.2.2.1 HO1.out.2.2.2.2.2.2.2 n zo 0 [] (.slice none 0 0) pre m4 _ Lt hpos (Hcv.out.1 rfl) (by simp;omega) (Mem.le_refl _) (.inl ⟨rfl,rfl⟩) HO1.out.2.1 hO6;rw[show ((0:Nat):Int)=(0:Int) from rfl] at hV;have HV:=zh (zi hV hle4);clear hV hE hO6 hO5 hO4 hO3 hO2 c1 c2 c3 c4 l1 l2 l3 l4 hle hle4 hsz3 m1 m2 m3
  go_enter Tryz.func277,Tryz.ntmps277
  go_wp2_with fail
  refine HV.out.1.mono ?_;rintro e' w7 (⟨rfl,mk5,Lt5,k1,k2,k3⟩ | ⟨rfl,qq,mk5,Lt5,k0,k1,k2,k3,k4⟩)
  ·have Hq:=zh (zi k1 (zi k2 k3));clear k1 k2 k3;go_wp2;exact hR.out _ _ (.inl ⟨rfl,mk5,Lt5,by simpa using Hq.out.1,Hq.out.2.1,Mem.le_trans HV.out.2 Hq.out.2.2⟩)
  ·have Hq:=zh (zi k0 (zi k1 (zi k2 (zi k3 k4))));clear k0 k1 k2 k3 k4;go_wp2;exact hR.out _ _ (.inr ⟨rfl,qq,mk5,Lt5,Hq.out.1,by simpa using Hq.out.2.1,Hq.out.2.2.1,Hq.out.2.2.2.1,Mem.le_trans HV.out.2 Hq.out.2.2.2.2⟩)
theorem set_mid {α:Type} (A C:List α) (x y:α) {k:Nat} (h:A.length=k):(A ++ x::C).set k y=A ++ y::C:=by
 subst h;simp
theorem Q5 {α:Type} (A C:List α) (x:α) {k:Nat} (h:A.length=k):(A ++ x::C)[k]?=some x:=by
 subst h;simp
def canF (less:List Bool) (s:Sn):Bool:=s.edges.any fun e=>less.getD e.to.toNat false
theorem Rq (v0 v1:Value) (l:Table) (less:List Bool) (m:Mem) (w:World) (hm:m.inn w) (hl:aG m v0 l) (hb:iq m v1 less) (hwf:WF l) (hlen:l.length≤1000000) (hle:less.length=l.length) :
 Calls Tryz.prog 275 #[.agg #[v0],v1] w fun e w'=>∃r,e=.returned r∧Below w.heap.size w w'∧iq (m.grow w w') r (l.map (canF less)):=by
 obtain⟨a,c,rfl,h1,h2,h3⟩:=hl;obtain⟨ba,bc,rfl,b1,b2,b3⟩:=hb;unfold maxLen at h2 b2;have hO:=(Own.start hm).al #[.slice a l.length c] 27;have HO:=zh hO;have hle1:l.length≤less.length:=zo;have hle2:less.length≤l.length:=zo;have g1:=hO.obj.c 0;have g2:=hO.obj.lt;clear hO hle;refine aj fun R hR=>?_
 go_enter Tryz.func275,Tryz.ntmps275
 go_wp2_with (refine wpList_make_row Cf rfl (.tmp 11) (.tmp 11) rfl l.length rfl rfl zo (by unfold maxLen;omega) ?_)
 intro w5 hown hgrow;have hszz:(w.alloc (.cells #[.slice a l.length c] 27)).heap.size=w.heap.size+1:=by simp
 have hO:=HO.out.make (by rw[hszz];exact hown) hgrow;rw[hszz] at hO;have hrep:List.replicate l.length (Value.bool false)=((l.take 0).map (canF less) ++ List.replicate (l.length - 0) false).map Value.bool:=by simp
 rw[hrep] at hO;have hg1:=hO.swap.obj.c 0;have hg2:=hO.swap.obj.lt;clear hszz;generalize w.heap.size+1=B at *
 have HO2:=zh hO;clear hown hgrow hrep HO g1 g2 hO;go_wp2;refine au [1,2,5,15,16] (fun n vs wr=>∃(k:Nat),k≤l.length∧n=l.length - k∧vs=[.slice ba less.length bc,.pointer (some ⟨w.heap.size,0,none⟩),.slice (some ⟨B,0,none⟩) l.length l.length,.int .i64 l.length,.int .i64 k] ∧
  Own w m wr m [.row (.slice (some ⟨B,0,none⟩) l.length l.length) 4 1 l.length (((l.take k).map (canF less) ++ List.replicate (l.length - k) false).map Value.bool),.obj w.heap.size 27 #[.slice a l.length c]]) ?_ ?_
 ·exact⟨_,0,zC _,rfl,rfl,HO2.out⟩
 clear HO2 hg1 hg2;rintro X z n vs wr hX - ⟨k,hk,rfl,rfl,hO⟩;simp[litL,lk];have g1:=hO.swap.obj.c 0;have g2:=hO.swap.obj.lt;by_cases hlt:k<l.length
 ·obtain⟨b,off,rfl,h4⟩:=h3 (by intro h;simp[h] at hlt);obtain⟨-,ve,s2,ea,ec,rfl,g4,g5,g6⟩:=h4 k hlt;have s2w:=Mem.ak hO.inn s2;have s2l:=Mem.ay hO.inn s2;have htk:(l.take (k+1)).map (canF less)=(l.take k).map (canF less) ++ [canF less l[k]]:=by
   rw[zF hlt,yD];rfl
  have hrp:List.replicate (l.length - k) false=false::List.replicate (l.length - (k+1)) false:=by
   rw[show l.length - k=(l.length - (k+1))+1 by omega];rfl
  have hAl:((l.take k).map (canF less)).length=k:=by simp;omega
  have hcf:canF less l[k]=(l[k]).edges.any fun e=>less.getD e.to.toNat false:=rfl;have hlh:=eU (hwf l[k] (zB hlt));rw[hrp] at hO;have Htk:=zh (zi htk hcf);generalize (l[k]).edges=es at *
  have HO:=zh hO;unfold maxLen at g5;generalize hAA:(l.take k).map (canF less)=AA at *
  clear htk hrp hcf hAA h4 hO;go_wp2;refine au [1,2,5,15,16,6,24,25,26] (fun n vs w2=>∃(j:Nat),j≤es.length∧n=es.length - j∧vs=[.slice ba less.length bc,.pointer (some ⟨w.heap.size,0,none⟩),.slice (some ⟨B,0,none⟩) l.length l.length,.int .i64 l.length,.int .i64 k,.int .i64 k,.slice ea es.length ec,.int .i64 es.length,.int .i64 j] ∧
   Own w m w2 m [.row (.slice (some ⟨B,0,none⟩) l.length l.length) 4 1 l.length ((AA ++ ((es.take j).any fun e=>less.getD e.to.toNat false)::List.replicate (l.length - (k+1)) false).map Value.bool),.obj w.heap.size 27 #[.slice (some ⟨b,off,none⟩) l.length c]]) ?_ ?_
  ·exact⟨_,0,zC _,rfl,rfl,HO.out⟩
  clear HO;rintro Y z2 n vs w2 hY - ⟨j,hj,rfl,rfl,hO⟩;simp[litL,lk];by_cases hlt2:j<es.length
  ·obtain⟨eb,eo,rfl,g7⟩:=g6 (by intro h;simp[h] at hlt2);obtain⟨e1,e2,e3,e4,e5,-⟩:=g7 j hlt2;have e1w:=Mem.ak hO.inn e1;have e2w:=Mem.ak hO.inn e2;have e3w:=Mem.ak hO.inn e3;have el:=Mem.ay hO.inn e1;have hte:=hlh es[j] (zB hlt2);have han:((es.take (j+1)).any fun e=>less.getD e.to.toNat false)=(((es.take j).any fun e=>less.getD e.to.toNat false) || less.getD (es[j]).to.toNat false):=by
    rw[zF hlt2,List.any_append];simp
   obtain⟨t,ht⟩:=zQ hte.2.1;have htl:t<less.length:=zo;rw[ht,Int.toNat_natCast] at han;have hlg:less.getD t false=less[t]:=by simp[htl]
   rw[hlg] at han;obtain⟨bb,bo,rfl,b4⟩:=b3 (by intro h;simp[h] at htl);have hbt:=b4 t htl;have hbw:=Mem.ak hO.inn hbt;have hbl:=Mem.ay hO.inn hbt;generalize less[t]=y at *
   rw[ht] at e3w;obtain⟨cur,hcur⟩:∃cur,((es.take j).any fun e=>less.getD e.to.toNat false)=cur:=⟨_,rfl⟩;rw[hcur] at hO han;have Han:=zh han;generalize es[j]=e at *
   have r1:=aT (j:=k) (u:=.bool cur) hO.row (by rw[List.getElem?_map,Q5 _ _ _ hAl];rfl);have r2:=dh hO.row k;have r3:=(World.ownsRow.lt hO.row _ rfl).2;have hO2:=(hO.setRow k (.bool (cur || y))).al' (.cells #[.int .u8 e.lo,.int .u8 e.hi,.int .i64 t] 133);rw[← List.map_set,set_mid _ _ _ _ hAl] at hO2;have HO2:=zh hO2;clear han hcur hO2 hO hlg ht hbt
   cases cur with
   | true=>
    go_wp2;refine hY.out _ _ _ zo rfl ⟨j+1,zo,rfl,rfl,?_⟩;rw[Han.out]
    exact HO2.out
   | false=>
    go_wp2;refine hY.out _ _ _ zo rfl ⟨j+1,zo,rfl,rfl,?_⟩;rw[Han.out];exact HO2.out
  ·obtain rfl:j=es.length:=zo;rw[yB] at hO;have HO:=zh hO;clear hO;go_wp2;refine hX.out _ _ _ zo rfl ⟨k+1,zo,rfl,rfl,?_⟩;rw[Htk.out.1,Htk.out.2,List.append_assoc];exact HO.out
 ·obtain rfl:k=l.length:=zo;rw[yB,Nat.sub_self,List.replicate_zero,yM] at hO;have hbs:=iV (l:=l.map (canF less)) (m:=m) (by rw[List.length_map];exact hO.row);have hfin:=ji hO.bv.done hbs;have Hk:=zh (zi hO.below hfin);clear hO hbs hfin;go_wp2;exact hR.out _ _ ⟨_,rfl,Hk.out.1,Hk.out.2⟩
theorem Ip:gL Tryz.prog 189 195 1 24:=⟨Tryz.underlying189,zo,by
 obtain⟨i,h1,h2,h3,h4⟩:=info_parts (P:=Tryz.prog) (e:=195) (z:=.slice none 0 0) (size:=1) (bytes:=24) zk;exact⟨i,_,h1,h2,h3,h4,rfl⟩⟩
def qg (T:Table) (mk:Mem) (xs:List Value) (n:Nat):Prop:=xs.length=n∧∀i,i<n→∃u,xs[i]?=some u∧iq mk u (canN T i)
theorem qg.mono {T:Table} {mk mk':Mem} {xs:List Value} {n:Nat} (h:qg T mk xs n) (hl:mk.le mk'):qg T mk' xs n:=
 ⟨h.1,fun i hi=>let ⟨u,h1,h2⟩:=h.2 i hi;⟨u,h1,ji hl h2⟩⟩
theorem qg.push {T:Table} {mk:Mem} {xs:List Value} {n:Nat} (h:qg T mk xs n) {u:Value} (hu:iq mk u (canN T n)):qg T mk (xs ++ [u]) (n+1):=by
 refine ⟨by rw[zJ,h.1];rfl,fun i hi=>?_⟩;by_cases e:i<n
 ·obtain⟨v,h1,h2⟩:=h.2 i e;exact⟨v,by rw[yF (by rw[h.1];exact e)];exact h1,h2⟩
 ·obtain rfl:i=n:=zo;exact⟨u,by rw[yI (by rw[h.1];exact zG _),h.1];simp,hu⟩
theorem QL {w:World} {t:TypeId} {size n c g:Nat} {xs:List Value} (h:w.ownsRow 0 t size (.slice (some ⟨g,0,none⟩) n c) n xs):n≤c∧c≤maxLen:=by
 rcases h.2 with ⟨h,-⟩ | ⟨g',cap,cur,h,-,-,hnc,hcm,-⟩
 ·cases h
 ·injection h with h1 h2 h3;subst h3;exact⟨hnc,hcm⟩
theorem JC {T:Table} {l ga:Nat} {w0:World} {m mk:Mem} {B Bx:List (List UInt8)→List Item→Prop} {va:Value} {L1:List Item} {W:World} (hC:Canon T) (K:Nat) (hK:(K+1)*(T.length+1)≤1000000)
 (hY:yu Tryz.prog l (fun x:List UInt8=>#[Value.string ⟨x.toArray⟩]) w0 m mk B Bx) (ca:mk.cell ga 0=some va) (htab:aG mk va T) (hBK:∀pre Lt,B pre Lt→pre.length<K) (hB:B [] L1) (hO:Own w0 m W mk L1) :
 Calls Tryz.prog 274 #[.func (.yield l) #[] #[],.pointer (some ⟨ga,0,none⟩)] W
  (Jv w0 m mk B Bx (fun xs=>∃n,xs=enum T 0 n∧∀y,aC T 0 y=true→y.length<n) (fun xs=>∃n,xs <+: enum T 0 n∧xs≠[])):=by
 have hKT:K*T.length+K+T.length+1≤1000000:=by
  have:(K+1)*(T.length+1)=K*T.length+K+T.length+1:=by rw[Nat.add_mul,Nat.mul_add];omega
  omega
 generalize hKL:K*T.length=KT at *
 have HKL:=zh hKL;have hta:=htab;obtain⟨aa,ac,rfl,a1,a2,a3⟩:=htab;have ha:=Mem.ak hO.inn ca;have hal:=Mem.ay hO.inn ca;have HX:=zh (zi hta (zi hY (zi hBK (zi hC ca))));have HO:=zh (zi hO hB);unfold maxLen at a2;refine aj fun R hR=>?_;clear hO hB hta hY hBK hC hKL ca
 go_enter Tryz.func274,Tryz.ntmps274
 go_wp2;refine au [0,1,3,4,9,10] (fun q vs W1=>∃(k:Nat) (vf:Value),k≤T.length∧q=T.length - k∧vs=[.func (.yield l) #[] #[],.pointer (some ⟨ga,0,none⟩),.slice none 0 0,vf,.int .i64 T.length,.int .i64 k] ∧
  Own w0 m W1 mk (.row vf 4 1 k (((T.take k).map (·.accept)).map Value.bool)::L1)) ?_ ?_
 ·exact⟨_,0,.slice none 0 0,zC _,rfl,rfl,HO.out.1.dI _ _⟩
 clear ha hal;rintro X z q vs W1 hX - ⟨k,vf,hk,rfl,rfl,hO⟩;simp[litL,lk];obtain⟨vfa,vfc,rfl⟩:=aM hO.row;have ha:=Mem.ak hO.inn HX.out.2.2.2.2;have hal:=Mem.ay hO.inn HX.out.2.2.2.2;by_cases hlt:k<T.length
 ·obtain⟨b,off,rfl,a4⟩:=a3 (by intro h;simp[h] at hlt);have s1w:=Mem.ak hO.inn (a4 k hlt).1;have s1l:=Mem.ay hO.inn (a4 k hlt).1;have htk:(T.take (k+1)).map (·.accept)=(T.take k).map (·.accept) ++ [(T[k]).accept]:=by rw[zF hlt,yD];rfl
  have Htk:=zh htk;generalize (T[k]).accept=y at *
  have hO2:=hO.al #[.bool y] 4;have hnews:=hO2.obj.news rfl;clear htk hO a4
  go_wp2_with (at_builtin;refine aA FC rfl (.tmp 13) (.tmp 20) rfl (.slice vfa k vfc) k _ rfl hO2.swap.row ⟨W1.heap.size,0,none⟩ 1 1 [.bool y] rfl rfl hnews (by simp[Value.oneCell']) (by unfold maxLen;omega) zo ?_)
  intro va' vc' w7 hown7 hgrow7 hrow7;have hO3:=(hO2.swap.app hown7 hgrow7 hrow7 zS).drop2;have HO3:=zh hO3;clear hO3 hO2 hown7 hgrow7 hrow7 hnews;go_wp2;refine hX.out _ _ _ zo rfl ⟨k+1,.slice va' (k+1) vc',zo,rfl,rfl,?_⟩;rw[Htk.out,yD];have:=HO3.out;simpa using this
 ·obtain rfl:k=T.length:=zo;rw[yB,← Ff] at hO;have hb0:=iV (l:=canN T 0) (m:=mk) (by rw[sF];exact hO.row);have hle0:=Mem.dG (w:=W1) hO.free;have hO1:=hO.bv;generalize mk.addv W1 (.slice vfa T.length vfc)=mk1 at *
  have hO2:=((hO1.dI 195 1).al #[.slice vfa T.length vfc] 195);have hnews:=hO2.obj.news rfl;have Hb:=zh (zi hb0 hle0);clear hO hO1 hb0 hle0
  go_wp2_with (at_builtin;refine aA Ip rfl (.tmp 23) (.tmp 25) rfl (.slice none 0 0) 0 [] rfl hO2.swap.row ⟨W1.heap.size,0,none⟩ 1 1 [.slice vfa T.length vfc] rfl rfl hnews (by simp[Value.oneCell']) (by unfold maxLen;omega) zo ?_)
  intro va' vc' w7 hown7 hgrow7 hrow7;have hO3:=(hO2.swap.app hown7 hgrow7 hrow7 zS).drop2;have HO3:=zh hO3;clear hO3 hO2 hown7 hgrow7 hrow7 hnews;go_wp2;refine au [0,1,3,6] (fun q vs W2=>∃(n rn:Nat) (vt:Value) (xs:List Value) (mk2:Mem) (Lt:List Item),q=KT+1 - n∧(n=0∧rn=1∨0<n∧rn=n∧n≤KT) ∧
   vs=[.func (.yield l) #[] #[],.pointer (some ⟨ga,0,none⟩),vt,.int .i64 n] ∧
   mk.le mk2∧B (enum T 0 n) Lt∧Own w0 m W2 mk2 (.row vt 195 1 rn xs::Lt)∧qg T mk2 xs rn) ?_ ?_
  ·refine ⟨_,0,1,.slice va' 1 vc',[.slice vfa T.length vfc],mk1,L1,rfl,.inl ⟨rfl,rfl⟩,rfl,Hb.out.2,HO.out.2,by simpa using HO3.out,?_⟩;exact qg.push (n:=0) (xs:=[]) ⟨rfl,fun i hi=>zo⟩ Hb.out.1
  clear HO3 ha hal;rintro Y z2 q vs W2 hY2 - ⟨n,rn,vt,xs,mk2,Lt,rfl,hrn,rfl,hle2,hB2,hO2,hCR⟩;simp[litL,lk];obtain⟨vta,vtc,rfl⟩:=aM hO2.row;have hrn1:0<rn:=zo;obtain⟨tb,rfl⟩:=iL hO2.row hrn1;have ha:=Mem.ak hO2.inn (Mem.aB hle2 HX.out.2.2.2.2);have hal:=Mem.ay hO2.inn (Mem.aB hle2 HX.out.2.2.2.2);have hnK:n≤KT:=zo;by_cases hT:0<T.length
  ·have hd1:decide (0<T.length)=true:=zL hT;have HQ:=zh (zi hO2 (zi hB2 (zi hle2 hCR)));clear hO2 hB2 hle2 hCR
   go_upto_if 34 with (fail)
   refine aI [0,1,3,6] (fun vs w'=>∃(vt2:Value) (xs2:List Value) (mk3:Mem),vs=[.func (.yield l) #[] #[],.pointer (some ⟨ga,0,none⟩),vt2,.int .i64 n] ∧
    mk.le mk3∧Own w0 m w' mk3 (.row vt2 195 1 (n+1) xs2::Lt)∧qg T mk3 xs2 (n+1)) ?_ ?_
   ·intro V hV;rcases hrn with ⟨rfl,rfl⟩ | ⟨hn0,rfl,-⟩
    ·go_wp2;exact hV.out _ _ rfl ⟨.slice (some ⟨tb,0,none⟩) 1 vtc,xs,mk2,rfl,HQ.out.2.2.1,HQ.out.1,HQ.out.2.2.2⟩
    ·have hd2:decide (0<rn)=true:=zL hn0;have hd3:decide ((0:Int)<(rn:Int))=true:=zL zo;obtain⟨n1,rfl⟩:∃n1,rn=n1+1:=⟨rn - 1,zo⟩;have hw1:IntKind.i64.wrap (((n1+1:Nat):Int) - 1)=(n1:Int):=by rw[IntWalk.i64_in _ zo];omega
     have hw2:IntKind.i64.wrap ((n1:Int)+1 - 1)=(n1:Int):=by rw[IntWalk.i64_in _ zo];omega
     have hw3:IntKind.i64.wrap (n1:Int)=(n1:Int):=IntWalk.i64_in _ zo;have hn1:n1<n1+1:=zo;have hn2:(n1:Int)<(n1:Int)+1:=zo;obtain⟨u,hu1,hu2⟩:=HQ.out.2.2.2.2 n1 hn1;have hO:=HQ.out.1.dr;go_wp2;refine kF (fun j w'=>j≠9→j≠10→(mk2.inn w'∧w'.cell? ⟨tb,n1,none⟩=some u∧tb<w'.heap.size)) zk ?_;have hS:mk2.inn W2.drew∧W2.drew.cell? ⟨tb,n1,none⟩=some u∧tb<W2.drew.heap.size:=⟨hO.inn,aT hO.row hu1,(World.ownsRow.lt hO.row _ rfl).2⟩;have hca:=Mem.aB HQ.out.2.2.1 HX.out.2.2.2.2;refine aQ 0 12 (fun w'=>mk2.inn w'∧w'.cell? ⟨tb,n1,none⟩=some u∧tb<w'.heap.size) rfl zk (fun _ _ _ h=>h) (fun j w' hj hd=>hd (by rintro rfl;exact aD zk hj) (by rintro rfl;exact aD zk hj)) hS (av rfl fun w' hS'=>by have q:=hS'.2.1;have q1:=hS'.2.2;have q2:=Mem.ak hS'.1 hca;have q3:=Mem.ay hS'.1 hca;go_simp;rfl) ?_;refine aQ 1 12 (fun w'=>mk2.inn w'∧w'.cell? ⟨tb,n1,none⟩=some u∧tb<w'.heap.size) rfl zk (fun _ _ _ h=>h) (fun j w' hj hd=>hd (by rintro rfl;exact aD zk hj) (by rintro rfl;exact aD zk hj)) hS (av rfl fun w' hS'=>by have q:=hS'.2.1;have q1:=hS'.2.2;have q2:=Mem.ak hS'.1 hca;have q3:=Mem.ay hS'.1 hca;go_simp;rfl) ?_;refine aQ 2 12 (fun w'=>mk2.inn w'∧w'.cell? ⟨tb,n1,none⟩=some u∧tb<w'.heap.size) rfl zk (fun _ _ _ h=>h) (fun j w' hj hd=>hd (by rintro rfl;exact aD zk hj) (by rintro rfl;exact aD zk hj)) hS (av rfl fun w' hS'=>by have q:=hS'.2.1;have q1:=hS'.2.2;have q2:=Mem.ak hS'.1 hca;have q3:=Mem.ay hS'.1 hca;go_simp;rfl) ?_;refine aQ 3 12 (fun w'=>mk2.inn w'∧w'.cell? ⟨tb,n1,none⟩=some u∧tb<w'.heap.size) rfl zk (fun _ _ _ h=>h) (fun j w' hj hd=>hd (by rintro rfl;exact aD zk hj) (by rintro rfl;exact aD zk hj)) hS (av rfl fun w' hS'=>by have q:=hS'.2.1;have q1:=hS'.2.2;have q2:=Mem.ak hS'.1 hca;have q3:=Mem.ay hS'.1 hca;go_simp;rfl) ?_;refine aQ 4 12 (fun w'=>mk2.inn w'∧w'.cell? ⟨tb,n1,none⟩=some u∧tb<w'.heap.size) rfl zk (fun _ _ _ h=>h) (fun j w' hj hd=>hd (by rintro rfl;exact aD zk hj) (by rintro rfl;exact aD zk hj)) hS (av rfl fun w' hS'=>by have q:=hS'.2.1;have q1:=hS'.2.2;have q2:=Mem.ak hS'.1 hca;have q3:=Mem.ay hS'.1 hca;go_simp;rfl) ?_;refine aQ 5 12 (fun w'=>mk2.inn w'∧w'.cell? ⟨tb,n1,none⟩=some u∧tb<w'.heap.size) rfl zk (fun _ _ _ h=>h) (fun j w' hj hd=>hd (by rintro rfl;exact aD zk hj) (by rintro rfl;exact aD zk hj)) hS (av rfl fun w' hS'=>by have q:=hS'.2.1;have q1:=hS'.2.2;have q2:=Mem.ak hS'.1 hca;have q3:=Mem.ay hS'.1 hca;go_simp;rfl) ?_;refine aQ 6 12 (fun w'=>mk2.inn w'∧w'.cell? ⟨tb,n1,none⟩=some u∧tb<w'.heap.size) rfl zk (fun _ _ _ h=>h) (fun j w' hj hd=>hd (by rintro rfl;exact aD zk hj) (by rintro rfl;exact aD zk hj)) hS (av rfl fun w' hS'=>by have q:=hS'.2.1;have q1:=hS'.2.2;have q2:=Mem.ak hS'.1 hca;have q3:=Mem.ay hS'.1 hca;go_simp;rfl) ?_;have hlT:=sF T n1;have hcs:=yg HX.out.2.2.2.1.wf HX.out.2.2.2.1.bytes n1;have hcall:=Rq (.slice aa T.length ac) u T (canN T n1) mk2 _ hO.inn (aJ HQ.out.2.2.1 HX.out.1) hu2 HX.out.2.2.2.1.wf zo hlT;refine bg 7 zk (aF rfl rfl (cO zg hcall ?_));rintro e' w3 ⟨r,rfl,hb3,hr3⟩;rw[show T.map (canF (canN T n1))=canN T (n1+1) from hcs.symm] at hr3;have hO3:=hO.call hb3;have hle3:=Mem.dF (w:=w3) hO.inn;clear hcs hlT;obtain⟨rra,rrc,rfl⟩:∃xa xc,r=.slice xa (canN T (n1+1)).length xc:=by obtain⟨x,y,e,-⟩:=hr3;exact⟨x,y,e⟩
     refine ⟨_,rfl,.inr fun _ _=>⟨Mem.cK hle3 hO3.inn,aT hO3.row hu1,(World.ownsRow.lt hO3.row _ rfl).2⟩,?_⟩;go_simp;have hO4:=hO3.al #[.slice rra (canN T (n1+1)).length rrc] 195;refine bg 8 zk (aF rfl rfl (aP (by go_simp;first | done | exact⟨rfl,rfl⟩ | rfl) ⟨.inr fun _ _=>⟨Mem.cK hle3 hO4.inn,aT hO4.swap.row hu1,(World.ownsRow.lt hO4.swap.row _ rfl).2⟩,?_⟩));go_simp;refine bg 9 zk (aF rfl rfl (dR Ip (.tmp 35) (.tmp 43) rfl (.slice (some ⟨tb,0,none⟩) (n1+1) vtc) (n1+1) xs rfl hO4.swap.row ⟨w3.heap.size,0,none⟩ 1 1 [.slice rra (canN T (n1+1)).length rrc] rfl rfl (hO4.obj.news rfl) (by simp[Value.oneCell']) (by unfold maxLen;omega) zo (fun na' nc' w7 hown7 hgrow7 hrow7=>?_)));have hO5:=(hO4.swap.app hown7 hgrow7 hrow7 (zG _)).drop2;refine ⟨.inr fun h=>absurd rfl h,?_⟩;go_simp;refine bg 10 zk (aF rfl rfl (aP (by go_simp;first | done | exact⟨rfl,rfl⟩ | rfl) ⟨.inl rfl,?_⟩));refine gz zk ?_ _;exact hV.out _ _ rfl ⟨.slice na' (n1+1+1) nc',xs ++ [.slice rra (canN T (n1+1)).length rrc],mk2.grow W2.drew w3,rfl,Mem.le_trans HQ.out.2.2.1 hle3,hO5,(HQ.out.2.2.2.mono hle3).push hr3⟩
   rintro z3 vs w3 - ⟨vt2,xs2,mk3,rfl,hle3,hO3,hCR3⟩;simp[litL,lk];have hB2:=HQ.out.2.1;have hdone:=fun h=>ND HX.out.2.2.2.1.wf HX.out.2.2.2.1.bytes (n:=n) h;have hES:=xN T 0 n;have hbnd:=fun (hn:KT<n+1) (h:(enum T 0 (n+1)).length<K)=>K8 HX.out.2.2.2.1 (n:=n+1) h (by rw[HKL.out];exact hn);obtain⟨vta2,vtc2,rfl⟩:=aM hO3.row;obtain⟨tb2,rfl⟩:=iL hO3.row zo;obtain⟨u,hu1,hu2⟩:=hCR3.2 n zo;have HS:=zh (zi hO3 (zi hCR3 (zi hle3 (zi hdone (zi hES hbnd)))));have HU:=zh (zi hu1 hu2);have HB2:=zh hB2;have hlT:=sF T n;obtain⟨ua,uc,rfl,u2,u3,u4⟩:=hu2;obtain⟨ub,uo,rfl,u5⟩:=u4 (by intro h;rw[h] at hlT;simp at hlT;omega);have hall:(∀b∈canN T n,b=false)↔¬ (true∈canN T n):=by
    constructor
    ·intro h hm;have:=h true hm;cases this
    ·intro h b hb
     cases b with
     | false=>rfl
     | true=>exact absurd hb h
   have Hall:=zh hall;have hcap:=QL hO3.row;have hcap1:=hcap.1;have hcap2:=hcap.2;unfold maxLen at hcap2;clear hall hcap;clear hO3 hCR3 hle3 hdone hES hbnd hu1 HQ hB2 ha hal hlT u4 u5;go_wp2;refine aI [0,1,3,6,65] (fun vs w'=>∃(bb:Bool) (mk4:Mem) (Lt4:List Item),vs=[.func (.yield l) #[] #[],.pointer (some ⟨ga,0,none⟩),.slice (some ⟨tb2,0,none⟩) (n+1) vtc2,.int .i64 n,.bool bb]∧mk.le mk4 ∧
    (bb=false→B (enum T 0 (n+1)) Lt4∧Own w0 m w' mk4 (.row (.slice (some ⟨tb2,0,none⟩) (n+1) vtc2) 195 1 (n+1) xs2::Lt4)∧true∈canN T n∧qg T mk4 xs2 (n+1)) ∧
    (bb=true→(B (enum T 0 n) Lt4∧Own w0 m w' mk4 Lt4∧∀b∈canN T n,b=false)∨∃q,q≠[]∧q <+: wex T n 0∧Bx (enum T 0 n ++ q) Lt4∧Own w0 m w' mk4 Lt4)) ?_ ?_
   ·intro V hV;have hO:=HS.out.1.dr;have hca:=Mem.aB HS.out.2.2.1 HX.out.2.2.2.2;have hw1:IntKind.i64.wrap ((n:Int)+1)=(n:Int)+1:=IntWalk.i64_in _ zo;have hn1:(n:Int)<(n:Int)+1:=zo;have hn2:n<n+1:=zo;have hb1:(0:Int)≤(n:Int)+1:=zo;have hb2:(n:Int)+1≤(vtc2:Int):=zo;have HCt:=zh (fun w' (h:mk3.inn w')=>ug (.slice (some ⟨ub,uo,none⟩) (canN T n).length uc) (canN T n) true mk3 w' h HU.out.2);refine kF (fun j w'=>j≠18→j≠19→j≠20→(mk3.inn w'∧w'.cell? ⟨tb2,n,none⟩=some (.slice (some ⟨ub,uo,none⟩) (canN T n).length uc)∧tb2<w'.heap.size)) zk ?_;have hS:mk3.inn w3.drew∧w3.drew.cell? ⟨tb2,n,none⟩=some (.slice (some ⟨ub,uo,none⟩) (canN T n).length uc)∧tb2<w3.drew.heap.size:=⟨hO.inn,aT hO.row HU.out.1,(World.ownsRow.lt hO.row _ rfl).2⟩;refine aQ 0 6 (fun w'=>mk3.inn w'∧w'.cell? ⟨tb2,n,none⟩=some (.slice (some ⟨ub,uo,none⟩) (canN T n).length uc)∧tb2<w'.heap.size) rfl zk (fun _ _ _ h=>h) (fun j w' hj hd=>hd (by rintro rfl;exact aD zk hj) (by rintro rfl;exact aD zk hj) (by rintro rfl;exact aD zk hj)) hS (av rfl fun w' hS'=>by have q:=hS'.2.1;have q1:=hS'.2.2;go_simp;rfl) ?_;refine aQ 1 6 (fun w'=>mk3.inn w'∧w'.cell? ⟨tb2,n,none⟩=some (.slice (some ⟨ub,uo,none⟩) (canN T n).length uc)∧tb2<w'.heap.size) rfl zk (fun _ _ _ h=>h) (fun j w' hj hd=>hd (by rintro rfl;exact aD zk hj) (by rintro rfl;exact aD zk hj) (by rintro rfl;exact aD zk hj)) hS (av rfl fun w' hS'=>by have q:=hS'.2.1;have q1:=hS'.2.2;go_simp;rfl) ?_;refine aQ 2 6 (fun w'=>mk3.inn w'∧w'.cell? ⟨tb2,n,none⟩=some (.slice (some ⟨ub,uo,none⟩) (canN T n).length uc)∧tb2<w'.heap.size) rfl zk (fun _ _ _ h=>h) (fun j w' hj hd=>hd (by rintro rfl;exact aD zk hj) (by rintro rfl;exact aD zk hj) (by rintro rfl;exact aD zk hj)) hS (av rfl fun w' hS'=>by have q:=hS'.2.1;have q1:=hS'.2.2;go_simp;rfl) ?_;refine aQ 3 6 (fun w'=>mk3.inn w'∧w'.cell? ⟨tb2,n,none⟩=some (.slice (some ⟨ub,uo,none⟩) (canN T n).length uc)∧tb2<w'.heap.size) rfl zk (fun _ _ _ h=>h) (fun j w' hj hd=>hd (by rintro rfl;exact aD zk hj) (by rintro rfl;exact aD zk hj) (by rintro rfl;exact aD zk hj)) hS (av rfl fun w' hS'=>by have q:=hS'.2.1;have q1:=hS'.2.2;go_simp;rfl) ?_;refine bg 4 zk (aF rfl rfl (cO zg (HCt.out _ hO.inn) ?_));rintro e' w4 ⟨rfl,hb4⟩;have hO4:=hO.move hb4;have hS4:mk3.inn w4∧w4.cell? ⟨tb2,n,none⟩=some (.slice (some ⟨ub,uo,none⟩) (canN T n).length uc)∧tb2<w4.heap.size:=⟨hO4.inn,aT hO4.row HU.out.1,(World.ownsRow.lt hO4.row _ rfl).2⟩;refine ⟨_,rfl,.inr fun _ _ _=>hS4,?_⟩;by_cases hmem:true∈canN T n
    ·rw[aN hmem];go_simp;refine aQ 5 6 (fun w'=>mk3.inn w'∧w'.cell? ⟨tb2,n,none⟩=some (.slice (some ⟨ub,uo,none⟩) (canN T n).length uc)∧tb2<w'.heap.size) rfl zk (fun _ _ _ h=>h) (fun j w' hj hd=>hd (by rintro rfl;exact aD zk hj) (by rintro rfl;exact aD zk hj) (by rintro rfl;exact aD zk hj)) hS4 (av rfl fun w' hS'=>by have q:=hS'.2.1;have q1:=hS'.2.2;have q2:=Mem.ak hS'.1 hca;have q3:=Mem.ay hS'.1 hca;go_simp;rfl) ?_;refine aQ 6 6 (fun w'=>mk3.inn w'∧w'.cell? ⟨tb2,n,none⟩=some (.slice (some ⟨ub,uo,none⟩) (canN T n).length uc)∧tb2<w'.heap.size) rfl zk (fun _ _ _ h=>h) (fun j w' hj hd=>hd (by rintro rfl;exact aD zk hj) (by rintro rfl;exact aD zk hj) (by rintro rfl;exact aD zk hj)) hS4 (av rfl fun w' hS'=>by have q:=hS'.2.1;have q1:=hS'.2.2;have q2:=Mem.ak hS'.1 hca;have q3:=Mem.ay hS'.1 hca;go_simp;rfl) ?_;go_simp;refine aQ 7 6 (fun w'=>mk3.inn w'∧w'.cell? ⟨tb2,n,none⟩=some (.slice (some ⟨ub,uo,none⟩) (canN T n).length uc)∧tb2<w'.heap.size) rfl zk (fun _ _ _ h=>h) (fun j w' hj hd=>hd (by rintro rfl;exact aD zk hj) (by rintro rfl;exact aD zk hj) (by rintro rfl;exact aD zk hj)) hS4 (av rfl fun w' hS'=>by have q:=hS'.2.1;have q1:=hS'.2.2;have q2:=Mem.ak hS'.1 hca;have q3:=Mem.ay hS'.1 hca;go_simp;rfl) ?_;go_simp;refine aQ 8 6 (fun w'=>mk3.inn w'∧w'.cell? ⟨tb2,n,none⟩=some (.slice (some ⟨ub,uo,none⟩) (canN T n).length uc)∧tb2<w'.heap.size) rfl zk (fun _ _ _ h=>h) (fun j w' hj hd=>hd (by rintro rfl;exact aD zk hj) (by rintro rfl;exact aD zk hj) (by rintro rfl;exact aD zk hj)) hS4 (av rfl fun w' hS'=>by have q:=hS'.2.1;have q1:=hS'.2.2;have q2:=Mem.ak hS'.1 hca;have q3:=Mem.ay hS'.1 hca;go_simp;rfl) ?_;go_simp;refine aQ 9 6 (fun w'=>mk3.inn w'∧w'.cell? ⟨tb2,n,none⟩=some (.slice (some ⟨ub,uo,none⟩) (canN T n).length uc)∧tb2<w'.heap.size) rfl zk (fun _ _ _ h=>h) (fun j w' hj hd=>hd (by rintro rfl;exact aD zk hj) (by rintro rfl;exact aD zk hj) (by rintro rfl;exact aD zk hj)) hS4 (av rfl fun w' hS'=>by have q:=hS'.2.1;have q1:=hS'.2.2;have q2:=Mem.ak hS'.1 hca;have q3:=Mem.ay hS'.1 hca;go_simp;rfl) ?_;go_simp;refine aQ 10 6 (fun w'=>mk3.inn w'∧w'.cell? ⟨tb2,n,none⟩=some (.slice (some ⟨ub,uo,none⟩) (canN T n).length uc)∧tb2<w'.heap.size) rfl zk (fun _ _ _ h=>h) (fun j w' hj hd=>hd (by rintro rfl;exact aD zk hj) (by rintro rfl;exact aD zk hj) (by rintro rfl;exact aD zk hj)) hS4 (av rfl fun w' hS'=>by have q:=hS'.2.1;have q1:=hS'.2.2;have q2:=Mem.ak hS'.1 hca;have q3:=Mem.ay hS'.1 hca;go_simp;rfl) ?_;go_simp;refine aQ 11 6 (fun w'=>mk3.inn w'∧w'.cell? ⟨tb2,n,none⟩=some (.slice (some ⟨ub,uo,none⟩) (canN T n).length uc)∧tb2<w'.heap.size) rfl zk (fun _ _ _ h=>h) (fun j w' hj hd=>hd (by rintro rfl;exact aD zk hj) (by rintro rfl;exact aD zk hj) (by rintro rfl;exact aD zk hj)) hS4 (av rfl fun w' hS'=>by have q:=hS'.2.1;have q1:=hS'.2.2;have q2:=Mem.ak hS'.1 hca;have q3:=Mem.ay hS'.1 hca;go_simp;rfl) ?_;go_simp;refine aQ 12 6 (fun w'=>mk3.inn w'∧w'.cell? ⟨tb2,n,none⟩=some (.slice (some ⟨ub,uo,none⟩) (canN T n).length uc)∧tb2<w'.heap.size) rfl zk (fun _ _ _ h=>h) (fun j w' hj hd=>hd (by rintro rfl;exact aD zk hj) (by rintro rfl;exact aD zk hj) (by rintro rfl;exact aD zk hj)) hS4 (av rfl fun w' hS'=>by have q:=hS'.2.1;have q1:=hS'.2.2;have q2:=Mem.ak hS'.1 hca;have q3:=Mem.ay hS'.1 hca;go_simp;rfl) ?_;go_simp;refine aQ 13 6 (fun w'=>mk3.inn w'∧w'.cell? ⟨tb2,n,none⟩=some (.slice (some ⟨ub,uo,none⟩) (canN T n).length uc)∧tb2<w'.heap.size) rfl zk (fun _ _ _ h=>h) (fun j w' hj hd=>hd (by rintro rfl;exact aD zk hj) (by rintro rfl;exact aD zk hj) (by rintro rfl;exact aD zk hj)) hS4 (av rfl fun w' hS'=>by have q:=hS'.2.1;have q1:=hS'.2.2;have q2:=Mem.ak hS'.1 hca;have q3:=Mem.ay hS'.1 hca;go_simp;rfl) ?_;go_simp;refine aQ 14 6 (fun w'=>mk3.inn w'∧w'.cell? ⟨tb2,n,none⟩=some (.slice (some ⟨ub,uo,none⟩) (canN T n).length uc)∧tb2<w'.heap.size) rfl zk (fun _ _ _ h=>h) (fun j w' hj hd=>hd (by rintro rfl;exact aD zk hj) (by rintro rfl;exact aD zk hj) (by rintro rfl;exact aD zk hj)) hS4 (av rfl fun w' hS'=>by have q:=hS'.2.1;have q1:=hS'.2.2;have q2:=Mem.ak hS'.1 hca;have q3:=Mem.ay hS'.1 hca;go_simp;rfl) ?_;go_simp;refine aQ 15 6 (fun w'=>mk3.inn w'∧w'.cell? ⟨tb2,n,none⟩=some (.slice (some ⟨ub,uo,none⟩) (canN T n).length uc)∧tb2<w'.heap.size) rfl zk (fun _ _ _ h=>h) (fun j w' hj hd=>hd (by rintro rfl;exact aD zk hj) (by rintro rfl;exact aD zk hj) (by rintro rfl;exact aD zk hj)) hS4 (av rfl fun w' hS'=>by have q:=hS'.2.1;have q1:=hS'.2.2;have q2:=Mem.ak hS'.1 hca;have q3:=Mem.ay hS'.1 hca;go_simp;rfl) ?_;go_simp;refine aQ 16 6 (fun w'=>mk3.inn w'∧w'.cell? ⟨tb2,n,none⟩=some (.slice (some ⟨ub,uo,none⟩) (canN T n).length uc)∧tb2<w'.heap.size) rfl zk (fun _ _ _ h=>h) (fun j w' hj hd=>hd (by rintro rfl;exact aD zk hj) (by rintro rfl;exact aD zk hj) (by rintro rfl;exact aD zk hj)) hS4 (av rfl fun w' hS'=>by have q:=hS'.2.1;have q1:=hS'.2.2;have q2:=Mem.ak hS'.1 hca;have q3:=Mem.ay hS'.1 hca;go_simp;rfl) ?_;go_simp;refine aQ 17 6 (fun w'=>mk3.inn w'∧w'.cell? ⟨tb2,n,none⟩=some (.slice (some ⟨ub,uo,none⟩) (canN T n).length uc)∧tb2<w'.heap.size) rfl zk (fun _ _ _ h=>h) (fun j w' hj hd=>hd (by rintro rfl;exact aD zk hj) (by rintro rfl;exact aD zk hj) (by rintro rfl;exact aD zk hj)) hS4 (av rfl fun w' hS'=>by have q:=hS'.2.1;have q1:=hS'.2.2;have q2:=Mem.ak hS'.1 hca;have q3:=Mem.ay hS'.1 hca;go_simp;rfl) ?_;go_simp;have hT0:=hT;have hsome:=O3 (T:=T) (l:=l) (w0:=w0) (m:=m) (mk0:=mk3) (B:=B) (Bx:=Bx) (Lr:=[.row (.slice (some ⟨tb2,0,none⟩) (n+1) vtc2) 195 1 (n+1) xs2]) (tb:=tb2) (n:=n) (ctab:=vtc2) (clast:=1) (ntab:=n+1) (va:=.slice aa T.length ac) HX.out.2.2.2.1.wf HX.out.2.2.2.1.bytes
      (fun pre x W' mk' Lt' Lr' h1 h2 h3=>HX.out.2.1 pre x W' mk' Lt' Lr' h1 h2 (Mem.le_trans HS.out.2.2.1 h3)) (aJ HS.out.2.2.1 HX.out.1) hT0 (by unfold maxLen;omega) zo zo (by unfold maxLen;omega)
      (fun W' mk' Lt' h i hi=>by
       obtain⟨u',h1,h2⟩:=HS.out.2.1.2 i hi;exact⟨u',aT (h.jY (v:=.slice (some ⟨tb2,0,none⟩) (n+1) vtc2) (t:=195) (size:=1) (n:=n+1) (xs:=xs2) zS) h1,h2⟩)
      (enum T 0 n) mk3 w4 Lt (Mem.le_refl _) HB2.out (hO4.perm (List.perm_append_singleton _ _))
     refine bg 18 zk (lh rfl rfl (cO zg hsome ?_));rintro e' w5 (⟨rfl,mk5,Lt5,k1,k2,k3⟩ | ⟨rfl,qq,mk5,Lt5,k0,k1,k2,k3,k4⟩)
     ·refine ⟨_,rfl,.inr fun h=>absurd rfl h,?_⟩;go_simp;refine bg 19 zk (lh rfl rfl (aP (by go_simp;first | done | exact⟨rfl,rfl⟩ | rfl) ⟨.inl rfl,?_⟩));go_simp;refine bg 20 zk (aF rfl rfl (aP (by go_simp;first | done | exact⟨rfl,rfl⟩ | rfl) ⟨.inl rfl,?_⟩));refine gz zk ?_ _;refine hV.out _ _ rfl ⟨false,mk5,Lt5,rfl,Mem.le_trans HS.out.2.2.1 k3,fun _=>⟨?_,k2.perm (List.perm_append_singleton _ _).symm,hmem,HS.out.2.1.mono k3⟩,fun h=>by cases h⟩;rw[HS.out.2.2.2.2.1];exact k1
     ·refine ⟨_,rfl,.inr fun h=>absurd rfl h,?_⟩;go_simp;refine bg 19 zk (lh rfl rfl (aP (by go_simp;first | done | exact⟨rfl,rfl⟩ | rfl) ⟨.inl rfl,?_⟩));go_simp;refine bg 20 zk (aF rfl rfl (aP (by go_simp;first | done | exact⟨rfl,rfl⟩ | rfl) ⟨.inl rfl,?_⟩));refine gz zk ?_ _;exact hV.out _ _ rfl ⟨true,mk5,Lt5,rfl,Mem.le_trans HS.out.2.2.1 k4,(fun h=>by cases h),fun _=>.inr ⟨qq,k0,k1,k2,(k3.perm (List.perm_append_singleton _ _).symm).tail⟩⟩
    ·rw[aK hmem];go_simp;refine aQ 5 6 (fun w'=>mk3.inn w'∧w'.cell? ⟨tb2,n,none⟩=some (.slice (some ⟨ub,uo,none⟩) (canN T n).length uc)∧tb2<w'.heap.size) rfl zk (fun _ _ _ h=>h) (fun j w' hj hd=>hd (by rintro rfl;exact aD zk hj) (by rintro rfl;exact aD zk hj) (by rintro rfl;exact aD zk hj)) hS4 (av rfl fun w' hS'=>by go_simp;rfl) ?_;refine aQ 6 6 (fun w'=>mk3.inn w'∧w'.cell? ⟨tb2,n,none⟩=some (.slice (some ⟨ub,uo,none⟩) (canN T n).length uc)∧tb2<w'.heap.size) rfl zk (fun _ _ _ h=>h) (fun j w' hj hd=>hd (by rintro rfl;exact aD zk hj) (by rintro rfl;exact aD zk hj) (by rintro rfl;exact aD zk hj)) hS4 (av rfl fun w' hS'=>by go_simp;rfl) ?_;go_simp;refine aQ 7 6 (fun w'=>mk3.inn w'∧w'.cell? ⟨tb2,n,none⟩=some (.slice (some ⟨ub,uo,none⟩) (canN T n).length uc)∧tb2<w'.heap.size) rfl zk (fun _ _ _ h=>h) (fun j w' hj hd=>hd (by rintro rfl;exact aD zk hj) (by rintro rfl;exact aD zk hj) (by rintro rfl;exact aD zk hj)) hS4 (.inr ⟨rfl,rfl⟩) ?_;go_simp;refine aQ 8 6 (fun w'=>mk3.inn w'∧w'.cell? ⟨tb2,n,none⟩=some (.slice (some ⟨ub,uo,none⟩) (canN T n).length uc)∧tb2<w'.heap.size) rfl zk (fun _ _ _ h=>h) (fun j w' hj hd=>hd (by rintro rfl;exact aD zk hj) (by rintro rfl;exact aD zk hj) (by rintro rfl;exact aD zk hj)) hS4 (.inr ⟨rfl,rfl⟩) ?_;go_simp;refine aQ 9 6 (fun w'=>mk3.inn w'∧w'.cell? ⟨tb2,n,none⟩=some (.slice (some ⟨ub,uo,none⟩) (canN T n).length uc)∧tb2<w'.heap.size) rfl zk (fun _ _ _ h=>h) (fun j w' hj hd=>hd (by rintro rfl;exact aD zk hj) (by rintro rfl;exact aD zk hj) (by rintro rfl;exact aD zk hj)) hS4 (.inr ⟨rfl,rfl⟩) ?_;go_simp;refine aQ 10 6 (fun w'=>mk3.inn w'∧w'.cell? ⟨tb2,n,none⟩=some (.slice (some ⟨ub,uo,none⟩) (canN T n).length uc)∧tb2<w'.heap.size) rfl zk (fun _ _ _ h=>h) (fun j w' hj hd=>hd (by rintro rfl;exact aD zk hj) (by rintro rfl;exact aD zk hj) (by rintro rfl;exact aD zk hj)) hS4 (.inr ⟨rfl,rfl⟩) ?_;go_simp;refine aQ 11 6 (fun w'=>mk3.inn w'∧w'.cell? ⟨tb2,n,none⟩=some (.slice (some ⟨ub,uo,none⟩) (canN T n).length uc)∧tb2<w'.heap.size) rfl zk (fun _ _ _ h=>h) (fun j w' hj hd=>hd (by rintro rfl;exact aD zk hj) (by rintro rfl;exact aD zk hj) (by rintro rfl;exact aD zk hj)) hS4 (.inr ⟨rfl,rfl⟩) ?_;go_simp;refine aQ 12 6 (fun w'=>mk3.inn w'∧w'.cell? ⟨tb2,n,none⟩=some (.slice (some ⟨ub,uo,none⟩) (canN T n).length uc)∧tb2<w'.heap.size) rfl zk (fun _ _ _ h=>h) (fun j w' hj hd=>hd (by rintro rfl;exact aD zk hj) (by rintro rfl;exact aD zk hj) (by rintro rfl;exact aD zk hj)) hS4 (.inr ⟨rfl,rfl⟩) ?_;go_simp;refine aQ 13 6 (fun w'=>mk3.inn w'∧w'.cell? ⟨tb2,n,none⟩=some (.slice (some ⟨ub,uo,none⟩) (canN T n).length uc)∧tb2<w'.heap.size) rfl zk (fun _ _ _ h=>h) (fun j w' hj hd=>hd (by rintro rfl;exact aD zk hj) (by rintro rfl;exact aD zk hj) (by rintro rfl;exact aD zk hj)) hS4 (.inr ⟨rfl,rfl⟩) ?_;go_simp;refine aQ 14 6 (fun w'=>mk3.inn w'∧w'.cell? ⟨tb2,n,none⟩=some (.slice (some ⟨ub,uo,none⟩) (canN T n).length uc)∧tb2<w'.heap.size) rfl zk (fun _ _ _ h=>h) (fun j w' hj hd=>hd (by rintro rfl;exact aD zk hj) (by rintro rfl;exact aD zk hj) (by rintro rfl;exact aD zk hj)) hS4 (.inr ⟨rfl,rfl⟩) ?_;go_simp;refine aQ 15 6 (fun w'=>mk3.inn w'∧w'.cell? ⟨tb2,n,none⟩=some (.slice (some ⟨ub,uo,none⟩) (canN T n).length uc)∧tb2<w'.heap.size) rfl zk (fun _ _ _ h=>h) (fun j w' hj hd=>hd (by rintro rfl;exact aD zk hj) (by rintro rfl;exact aD zk hj) (by rintro rfl;exact aD zk hj)) hS4 (.inr ⟨rfl,rfl⟩) ?_;go_simp;refine aQ 16 6 (fun w'=>mk3.inn w'∧w'.cell? ⟨tb2,n,none⟩=some (.slice (some ⟨ub,uo,none⟩) (canN T n).length uc)∧tb2<w'.heap.size) rfl zk (fun _ _ _ h=>h) (fun j w' hj hd=>hd (by rintro rfl;exact aD zk hj) (by rintro rfl;exact aD zk hj) (by rintro rfl;exact aD zk hj)) hS4 (.inr ⟨rfl,rfl⟩) ?_;go_simp;refine aQ 17 6 (fun w'=>mk3.inn w'∧w'.cell? ⟨tb2,n,none⟩=some (.slice (some ⟨ub,uo,none⟩) (canN T n).length uc)∧tb2<w'.heap.size) rfl zk (fun _ _ _ h=>h) (fun j w' hj hd=>hd (by rintro rfl;exact aD zk hj) (by rintro rfl;exact aD zk hj) (by rintro rfl;exact aD zk hj)) hS4 (.inr ⟨rfl,rfl⟩) ?_;go_simp;refine bg 18 zk (Fx rfl rfl ⟨.inl rfl,?_⟩);go_simp;refine bg 19 zk (Fx rfl rfl ⟨.inl rfl,?_⟩);go_simp;refine bg 20 zk (aF rfl rfl (aP (by go_simp;first | done | exact⟨rfl,rfl⟩ | rfl) ⟨.inl rfl,?_⟩));refine gz zk ?_ _;exact hV.out _ _ rfl ⟨true,mk3,Lt,rfl,HS.out.2.2.1,(fun h=>by cases h),fun _=>.inl ⟨HB2.out,hO4.tail,Hall.out.2 hmem⟩⟩
   rintro z5 vs w5 - ⟨bb,mk4,Lt4,rfl,hle4,hf,ht⟩;simp[litL,lk]
   cases bb with
   | true=>
    have Hq:=zh (zi (ht rfl) hle4);clear ht hf hle4;go_wp2;refine yQ (v:=.tuple #[]) (by simp[results,Tryz.results274,go_sem]) rfl ?_;refine hR.out _ _ ⟨⟨_,rfl⟩,?_⟩;rcases Hq.out.1 with ⟨h1,h2,h3⟩ | ⟨qq,h1,h2,h3,h4⟩
    ·exact .inl ⟨_,mk4,Lt4,⟨n,rfl,HS.out.2.2.2.1 h3⟩,h1,h2,Hq.out.2⟩
    ·refine .inr ⟨_,mk4,Lt4,⟨n+1,?_,fun h=>h1 (List.append_eq_nil_iff.1 h).2⟩,h3,h4,Hq.out.2⟩;rw[HS.out.2.2.2.2.1]
     exact (List.prefix_append_right_inj _).2 h2
   | false=>
    obtain⟨h1,h2,h3,h4⟩:=hf rfl;have hKL:n+1≤KT:=by
     apply zN;intro hn;have:=HS.out.2.2.2.2.2 zo (HX.out.2.2.1 _ _ h1);rw[Nat.add_sub_cancel] at this;rw[this] at h3;have:=List.eq_of_mem_replicate h3;cases this
    have Hq:=zh (zi h1 (zi h2 (zi hle4 h4)));clear ht hf hle4 h1 h2 h3 h4;go_wp2;exact hY2.out _ _ _ zo rfl ⟨n+1,n+1,.slice (some ⟨tb2,0,none⟩) (n+1) vtc2,xs2,mk4,Lt4,rfl,.inr ⟨zo,rfl,hKL⟩,rfl,Hq.out.2.2.1,Hq.out.1,Hq.out.2.1,Hq.out.2.2.2⟩
  ·have hd1:decide (0<T.length)=false:=zK hT;have hT0:T=[]:=yH zo;have hacc:∀y,aC T 0 y=true→y.length<n:=fun y hy=>by rw[hT0,cu] at hy;cases hy
   have Hq:=zh (zi hacc (zi hO2.tail (zi hB2 hle2)));clear hacc hO2 hB2 hle2 hT0 hCR;go_wp2;refine yQ (v:=.tuple #[]) (by simp[results,Tryz.results274,go_sem]) rfl ?_;exact hR.out _ _ ⟨⟨_,rfl⟩,.inl ⟨_,mk2,Lt,⟨n,rfl,Hq.out.1⟩,Hq.out.2.2.1,Hq.out.2.1,Hq.out.2.2.2⟩⟩
attribute [local go_sem] Oper.semAt_some
def bstr (x:List UInt8):ByteArray:=⟨x.toArray⟩
theorem LF:gL Tryz.prog 155 9 1 16:=⟨Tryz.underlying155,zo,by
 obtain⟨i,h1,h2,h3,h4⟩:=info_parts (P:=Tryz.prog) (e:=9) (z:=.string ⟨#[]⟩) (size:=1) (bytes:=16) zk;exact⟨i,_,h1,h2,h3,h4,rfl⟩⟩
theorem iK {w:World} {t:TypeId} {v:Value} {l:List ByteArray} {m:Mem} (hown:w.ownsRow 0 t 1 v l.length (l.map Value.string)) (hk:∀x∈l,x.size≤maxLen):pG (m.addv w v) v l:=
 j4 hown fun g hg i h=>⟨fw hown hg m (by simp[h]),hk _ (zB h)⟩
theorem OV (v:Value) (w:World):Calls Tryz.prog 216 #[.agg #[v]] w fun e w'=>e=.returned (.func (.func 274) #[] #[.pointer (some ⟨w.heap.size,0,none⟩)])∧w'=w.alloc (.cells #[v] 27):=by
 refine aj fun R hR=>?_
 go_enter Tryz.func216,Tryz.ntmps216
 go_wp2;exact hR.out _ _ ⟨rfl,rfl⟩
theorem Cs:∀args w,(callFunc 274 args).run Tryz.prog w=.ok (.enter 274 args) w:=enters_of Tryz.func274 zk rfl
def gN (n:Int):Nat:=(min n 1000).toNat
theorem LD {n:Int} (h:1≤n):1≤gN n∧((gN n:Nat):Int)=min n 1000∧gN n≤1000:=by unfold gN;omega
theorem KM (f:List UInt8→Bool):gM f 0 []:=⟨.nil,fun x hx=>by simp at hx,zS,fun y _ _=>⟨rfl,fun x hx=>by simp at hx⟩⟩
theorem uO {T:Table} {K:Nat} {xs:List (List UInt8)} (h:(∃n,xs=enum T 0 n∧(∀y,aC T 0 y=true→y.length<n)∧xs.length<K)∨(∃n,xs <+: enum T 0 n∧xs.length=K)):gM (aC T 0) K xs:=by
 rcases h with ⟨n,rfl,h1,h2⟩ | ⟨n,h1,h2⟩
 ·have:=o8 (l:=T) (s:=0) (L:=n) (k:=K) (.inr h1)
  rwa [List.take_of_length_le zo] at this
 ·have h3:xs=(enum T 0 n).take K:=by
   rw[← h2];exact List.prefix_iff_eq_take.1 h1
  have:=o8 (l:=T) (s:=0) (L:=n) (k:=K) (.inl (by rw[← h2];exact h1.length_le))
  rwa [← h3] at this
theorem Bg {T:Table} {K:Nat} {xs:List (List UInt8)} (h:gM (aC T 0) K xs) (hK:(K+1)*(T.length+1)≤1000000):∀z∈xs,z.length≤1000000:=by
 intro z hz;rw[EL h (Bh (l:=T) (s:=0) (k:=K) (L:=K*T.length) (zG _))] at hz;have h1:=((jP T 0 _ z).1 (List.mem_of_mem_take hz)).1;have:K*T.length≤(K+1)*(T.length+1):=Nat.mul_le_mul zo zo;omega
theorem qi {F:Fence} {d:Nat} {P:Program} {t e:TypeId} {size bytes:Nat} (S:gL P t e size bytes) {w:World} {ops:Array Oper} {rest:List Oper} {o:Oper} {a:Act} {Q:Exit→Act→World→Prop} (hgd:o.guard=none) (s x:Operand)
 (ho:o.op=.call { callee:=.builtin .append,args:=#[s,x],argTypes:=#[t,t] })
 (v:Value) (n:Nat) (xs:List Value) (hs:a.eval s=v) (hown:w.ownsRow 0 e size v n xs)
 (ad:Addr) (m c:Nat) (news:List Value) (hx:a.eval x=.slice (some ad) m c) (hl:news.length=m*size) (hnews:∀j u,news[j]?=some u→w.cell? (ad.add j)=some u) (h1:∀u∈news,u.oneCell'=true)
 (h63:n+m≤maxLen) (hbytes:(n+m)*bytes≤140737488355328)
 (h:∀va vc w',w'.ownsRow 0 e size (.slice va (n+m) vc) (n+m) (xs ++ news)→w.grownBy w' v.ownBlock→(∀k,(Value.slice va (n+m) vc).ownBlock=some k→v.ownBlock=some k∨w.heap.size≤k)→wpListIn F d P ops Q rest (a.put o.dst (.slice va (n+m) vc)) w'):wpListIn F d P ops Q (o::rest) a w:=by
 refine wpListIn_plain hgd fun K hK=>?_;obtain⟨v',w',hr,h2,h3,h4⟩:=iR S w o.type v n xs hown ad m c news hl hnews h1 h63 hbytes;obtain⟨va,vc,rfl⟩:=aM h2;refine ⟨?_,?_⟩
 ·simp[Oper.about,ho,resolve,Target.leads,Sem.run_pure]
 ·rw[Oper.semAt_plain F _ _ (by rw[ho];intro c hc';cases hc')];simp[execOp,ho,resolve,invoke,builtin,hs,hx,hr,Result.andThen];exact hK _ _ (h va vc w' h2 h3 h4)
def strV (x:List UInt8):Value:=.string ⟨x.toArray⟩
theorem Cm (v0:Value) (A:Table) (n:Int) (m:Mem) (w:World) (hm:m.inn w) (htab:TabM m) (hA:aG m v0 A) (hn1 : -9223372036854775808≤n) (hn2:n≤9223372036854775807) (hlen:(gN n+1)*(A.length+1)≤1000000) :
 Calls Tryz.prog 149 #[.agg #[v0],.int .i64 n] w fun e w'=>∃r ws,e=.returned r∧Below w.heap.size w w'∧pG (m.grow w w') r (ws.map bstr)∧gM (Sem A) (gN n) ws:=by
 have hlA:A.length≤1000000:=by
  have:A.length+1≤(gN n+1)*(A.length+1):=Nat.le_mul_of_pos_left _ zo;omega
 have hO:=(((Own.start hm).al #[v0] 27).al #[.int .i64 n] 3).al #[.slice none 0 0] 155;have hsz1:(w.alloc (.cells #[v0] 27)).heap.size=w.heap.size+1:=by simp
 have hsz2:((w.alloc (.cells #[v0] 27)).alloc (.cells #[.int .i64 n] 3)).heap.size=w.heap.size+1+1:=by simp
 rw[hsz2,hsz1] at hO;have HG:=zh (mW v0 A m _ hO.inn htab hA hlA);have HO:=zh hO;obtain⟨va,vc,rfl,-⟩:=hA;clear hO hsz1 hsz2;refine aj fun R hR=>?_;by_cases hn:n<1
 ·have hk0:gN n=0:=by unfold gN;omega
  have Hk0:=zh hk0;have hdec:decide (n<1)=true:=zL hn;clear hk0
  go_enter Tryz.func149,Tryz.ntmps149
  go_wp2;refine hR.out _ _ ⟨_,[],rfl,HO.out.below,⟨none,0,rfl,zG _,by simp[maxLen],fun h=>absurd rfl h⟩,?_⟩;rw[Hk0.out];exact KM _
 ·have hdec:decide (n<1)=false:=zK hn;refine (callsIn_wide (n:=0)).1 ?_;refine callsIn_of_wp_marks Tryz.func149 rfl trivial ?_;simp only[Tryz.ntmps149,List.size_toArray,yJ,List.length_nil,Nat.reduceAdd,Nat.reduceSub,Array.replicate_succ,Array.replicate_zero,List.push_toArray,List.append_toArray,List.nil_append,List.cons_append];refine wpIn_wide.2 ?_
  go_wp2_with fail
  refine HG.out.mono ?_;rintro e w1 ⟨r,rfl,hb1,hst⟩;have hO1:=HO.out.call hb1;obtain⟨ra,rc,rfl⟩:∃ra rc,r=.slice ra (bT A).length rc:=by obtain⟨x,y,e,-⟩:=hst;exact⟨x,y,e⟩
  have HO1:=zh (zi hO1 hst);clear HO HG hb1 hst hO1
  go_wp2_with fail
  refine (OV (.slice ra (bT A).length rc) w1).mono ?_;rintro e w2 ⟨rfl,rfl⟩;have hO2:=HO1.out.1.al #[.slice ra (bT A).length rc] 27;have hst:=HO1.out.2;obtain⟨m1,hO3,l1,c1⟩:=hO2.JU;obtain⟨m2,hO4,l2,c2⟩:=hO3.swap.JU;have hO5:=hO4.swap.tail.dI 9 1;have hO6:=hO5;have hst2:=aJ (Mem.le_trans l1 l2) hst;have c1':=Mem.aB l2 c1;have HS:=zh (zi hO5 (zi hst2 (zi c1' c2)));clear hO2 hst hO3 hO4 hO5 hO6 hst2 c1 c2 c1' l1 l2 HO1 m1;have hwp:=LD (n:=n) zo;have hgl:=iE A;have hgis:=Cq A;have hmul:(gN n+1)*((bT A).length+1)≤1000000:=yE (Nat.mul_le_mul_left _ zo) hlen;have HW:=zh (zi hwp (zi hgis hmul));have hw1:=hwp.1;have hw3:=hwp.2.2;clear hwp hgis hmul hgl;go_wp2;refine (wpIn_wide (n:=0)).1 ?_;refine CY (gf:=274) (lb:=#[.pointer (some ⟨w1.heap.size,0,none⟩)]) rfl Cs (encs:=fun x:List UInt8=>#[Value.string ⟨x.toArray⟩]) (fun _=>rfl) HS.out.1
   (fun pre L=>(∃v,L=[.row v 9 1 pre.length (pre.map strV),.obj (w.heap.size+1+1) 155 #[v]])∧pre.length<gN n)
   (fun c pre L=>c=.exit 0∧(∃v,L=[.row v 9 1 pre.length (pre.map strV),.obj (w.heap.size+1+1) 155 #[v]])∧pre.length=gN n)
   (fun xs=>∃n,xs=enum (bT A) 0 n∧∀y,aC (bT A) 0 y=true→y.length<n) (fun xs=>∃n,xs <+: enum (bT A) 0 n∧xs≠[]) ⟨⟨_,rfl⟩,by simp;omega⟩ ?seq
   (fun x=>{ tmps:=#[.agg #[.slice va A.length vc],.int .i64 n,.pointer (some ⟨w.heap.size,0,none⟩),.pointer (some ⟨w.heap.size+1,0,none⟩),.slice none 0 0,.pointer (some ⟨w.heap.size+1+1,0,none⟩),.string ⟨x.toArray⟩,.int .i64 n,.bool false,undef,.agg #[.slice va A.length vc],.agg #[.slice ra (bT A).length rc],.func (.func 274) #[] #[.pointer (some ⟨w1.heap.size,0,none⟩)],.string ⟨x.toArray⟩,undef,undef,undef,undef,undef,undef,undef,undef,undef,undef],defers:=[] }) ?assign ?body ?done ?stop
  case seq=>
   intro l W1 L1 B Bx hB hBI hOw hY;exact JC HW.out.2.1.canon (gN n) HW.out.2.2 hY HS.out.2.2.1 HS.out.2.1 (fun pre Lt h=>(hBI pre Lt h).elim fun L hL=>hL.2) hB hOw
  case assign=>
   intro l x W K hK
   gi_wp2
   exact hK
  case body=>
   rintro l pre x W mk1 Lt Lr ⟨⟨v,rfl⟩,hlt⟩ hOw hle;simp only[List.cons_append,List.nil_append] at hOw;obtain⟨xa,xc,rfl⟩:=aM hOw.row;have o1:=hOw.swap.obj.c 0;have o2:=hOw.swap.obj.lt;have o3:=hOw.swap.obj.frozen 0;have n1:=Mem.ak hOw.inn (Mem.aB hle HS.out.2.2.2);have n2:=Mem.ay hOw.inn (Mem.aB hle HS.out.2.2.2);have hO2:=hOw.al #[.string ⟨x.toArray⟩] 9;have hnews:=hO2.obj.news rfl;have Hlt:=zh hlt;clear hOw
   gi_wp2_with (gi_at_builtin;refine qi LF rfl (.tmp 14) (.tmp 16) rfl (.slice xa pre.length xc) pre.length (pre.map strV) rfl hO2.swap.row ⟨W.heap.size,0,none⟩ 1 1 [.string ⟨x.toArray⟩] rfl rfl hnews (by simp[Value.oneCell']) (by unfold maxLen;omega) zo ?_)
   intro ya yc w5 hown5 hgrow5 hrow5;have hO3:=(hO2.swap.app hown5 hgrow5 hrow5 zS).drop2;have o1:=hO3.swap.obj.c 0;have o2:=hO3.swap.obj.lt;have o3:=hO3.swap.obj.frozen 0;have n1:=Mem.ak hO3.inn (Mem.aB hle HS.out.2.2.2);have n2:=Mem.ay hO3.inn (Mem.aB hle HS.out.2.2.2);have hO4:=(hO3.swap.set 0 (.slice ya (pre.length+1) yc)).swap;have HO4:=zh hO4;clear hO4 hO3 hO2 hown5 hgrow5 hrow5 hnews;have Hend:=zh (show ∀xs,xs=pre ++ [x]→([Item.row (.slice ya (pre.length+1) yc) 9 1 (pre.length+1) (pre.map strV ++ [.string ⟨x.toArray⟩]),Item.obj (w.heap.size+1+1) 155 #[.slice ya (pre.length+1) yc]]:List Item)=[Item.row (.slice ya (pre.length+1) yc) 9 1 xs.length (xs.map strV),Item.obj (w.heap.size+1+1) 155 #[.slice ya (pre.length+1) yc]] from fun xs h=>by
    subst h;simp[strV])
   have hne:w.heap.size+1≠w.heap.size+1+1:=zo
   gi_wp2
   all_goals unfold vQ
   all_goals dsimp only
   all_goals first
    | (have ht:((pre.length:Int)+1==min n 1000)=true:=zA
       refine ⟨mk1,_,⟨rfl,⟨_,Hend.out _ rfl⟩,?_⟩,HO4.out,Mem.le_refl _⟩;have h1:=HW.out.1.2.1;have h2:=beq_iff_eq.1 ht;simp only[zJ,yJ,List.length_nil]
       omega)
    | (have ht:((pre.length:Int)+1==min n 1000)=false:=zA
       refine ⟨mk1,_,⟨⟨_,Hend.out _ rfl⟩,?_⟩,HO4.out,Mem.le_refl _⟩;have h1:=HW.out.1.2.1;have h2:=beq_eq_false_iff_ne.1 ht;have h3:=Hlt.out;simp only[zJ,yJ,List.length_nil];omega)
  case done=>
   rintro D xs W mk1 L ⟨nn,hxs,hfin⟩ ⟨⟨v,rfl⟩,hlt⟩ hOw hle;obtain⟨xa,xc,rfl⟩:=aM hOw.swap.row;have o1:=hOw.third.obj.c 0;have o2:=hOw.third.obj.lt;have hfirst:=uO (.inl ⟨nn,hxs,hfin,hlt⟩);have hres:gM (Sem A) (gN n) xs:=hfirst.congr fun y=>HW.out.2.1.lang y;have hsz:∀z∈xs,(bstr z).size≤maxLen:=fun z hz=>by
    have:=Bg hfirst HW.out.2.2 z hz;simp[bstr,ByteArray.size,maxLen];omega
   clear hxs hfin hlt hfirst;have hbl:=hOw.blob;have hO2:=hOw.swap;have hst:=iK (l:=xs.map bstr) (m:=mk1) (t:=9) (v:=.slice xa xs.length xc) (w:=W) (by
    rw[List.length_map,List.map_map];exact hO2.row) (fun y hy=>by
    obtain⟨z,hz,rfl⟩:=List.mem_map.1 hy;exact hsz z hz)
   rw[show (Mem.addv mk1 W (.slice xa xs.length xc))=Mem.addv mk1 W (.slice xa xs.length xc) from rfl] at hst;have hO3:=hO2.bv;have hO4:=hO3.jm (o':=.deferred none) (World.putObj_heap_same (Array.getElem?_eq_some_iff.1 hbl).1) (grownBy_putObj' _ _ _);have hfin2:=lS hO4.done hst;have Hk:=zh (zi hO4.below (zi hfin2 hres));clear hO4 hO3 hO2 hOw hst hfin2
   gi_wp2
   go_wp2;refine ⟨zS,.inl ⟨_,_,rfl,run_takeDeferred hbl,?_⟩⟩;exact⟨.slice xa xs.length xc,by simp[results,Tryz.results149,go_sem],hR.out _ _ ⟨_,xs,rfl,Hk.out.1,Hk.out.2.1,Hk.out.2.2⟩⟩
  case stop=>
   rintro D c xs W mk1 L ⟨nn,hpre,hne⟩ ⟨rfl,⟨v,rfl⟩,hlt⟩ hOw hle;obtain⟨xa,xc,rfl⟩:=aM hOw.swap.row;have o1:=hOw.third.obj.c 0;have o2:=hOw.third.obj.lt;have hfirst:=uO (.inr ⟨nn,hpre,hlt⟩);have hres:gM (Sem A) (gN n) xs:=hfirst.congr fun y=>HW.out.2.1.lang y;have hsz:∀z∈xs,(bstr z).size≤maxLen:=fun z hz=>by
    have:=Bg hfirst HW.out.2.2 z hz;simp[bstr,ByteArray.size,maxLen];omega
   clear hpre hne hlt hfirst;have hbl:=hOw.blob;have hO2:=hOw.swap;have hst:=iK (l:=xs.map bstr) (m:=mk1) (t:=9) (v:=.slice xa xs.length xc) (w:=W) (by
    rw[List.length_map,List.map_map];exact hO2.row) (fun y hy=>by
    obtain⟨z,hz,rfl⟩:=List.mem_map.1 hy;exact hsz z hz)
   rw[show (Mem.addv mk1 W (.slice xa xs.length xc))=Mem.addv mk1 W (.slice xa xs.length xc) from rfl] at hst;have hO3:=hO2.bv;have hO4:=hO3.jm (o':=.deferred none) (World.putObj_heap_same (Array.getElem?_eq_some_iff.1 hbl).1) (grownBy_putObj' _ _ _);have hfin2:=lS hO4.done hst;have Hk:=zh (zi hO4.below (zi hfin2 hres));clear hO4 hO3 hO2 hOw hst hfin2
   gi_wp2
   go_wp2;refine ⟨zS,.inl ⟨_,_,rfl,run_takeDeferred hbl,?_⟩⟩;exact⟨.slice xa xs.length xc,by simp[results,Tryz.results149,go_sem],hR.out _ _ ⟨_,xs,rfl,Hk.out.1,Hk.out.2.1,Hk.out.2.2⟩⟩
def OL (f:List UInt8→Bool):Option (List UInt8)→Prop
 | some x=>f x=true∧∀y,f y=true→y=x
 | none=>¬ ∃x,f x=true∧∀y,f y=true→y=x
theorem OL.congr {f g:List UInt8→Bool} {a:Option (List UInt8)} (h:OL f a) (e:∀w,f w=g w):OL g a:=by
 have:f=g:=funext e;rw[← this];exact h
def optV (o:Option (List UInt8)):Value:=.tuple #[.string (match o with | some x=>bstr x | none=>⟨#[]⟩),.bool o.isSome]
theorem mQ (v0:Value) (A:Table) (m:Mem) (w:World) (hm:m.inn w) (htab:TabM m) (hA:aG m v0 A) (hlen:A.length≤400000) :
 Calls Tryz.prog 90 #[.agg #[v0]] w fun e w'=>∃o,e=.returned (optV o)∧Below w.heap.size w w'∧fT (Sem A) o:=by
 have hO:=(Own.start hm).al #[v0] 27;have HW:=zh (Cm v0 A 1 m _ hO.inn htab hA zo zo (by have:gN 1=1:=rfl;rw[this];omega));have HO:=zh hO;clear hO;refine aj fun R hR=>?_
 go_enter Tryz.func90,Tryz.ntmps90
 go_wp2_with fail
 refine HW.out.mono ?_;rintro e w1 ⟨r,ws,rfl,hb1,hst,hfirst⟩;have hO1:=HO.out.call hb1;have hl:=xq hfirst
 cases ws with
 | nil=>
  obtain⟨ra,rc,rfl,r2,r3,r4⟩:=hst;have Hk:=zh (zi hO1.below hl);clear hO1 hl hfirst HW HO hb1 r4;go_wp2
  exact hR.out _ _ ⟨none,rfl,Hk.out.1,Hk.out.2⟩
 | cons x ws=>
  obtain⟨ra,rc,rfl,r2,r3,r4⟩:=hst;obtain⟨rb,ro,rfl,r5⟩:=r4 zS;have z:=(r5 0 zS).1;rw[Nat.add_zero] at z;have z1:=Mem.ak hO1.inn z;have z2:=Mem.ay hO1.inn z;simp only[yG,List.getElem_cons_zero] at z1;have hw0:0<(List.map bstr (x::ws)).length:=by simp
  have hdec:(((List.map bstr (x::ws)).length:Int)==0)=false:=beq_eq_false_iff_ne.2 zo;have Hk:=zh (zi hO1.below hl);clear hO1 hl hfirst HW HO hb1 r4 r5 z;generalize (List.map bstr (x::ws)).length=N at *
  go_wp2;exact hR.out _ _ ⟨some x,rfl,Hk.out.1,Hk.out.2⟩
theorem Fj:∀x:List UInt8,Op.bytesLess x x=false
 | []=>rfl
 | a::x=>by simp[Op.bytesLess,Fj x]
theorem Fh:∀x y:List UInt8,x.length=y.length→(Op.bytesLess x y=true↔lex x y)
 | [],[],_=>by simp[Op.bytesLess,lex]
 | [],_::_,h=>by simp at h
 | _::_,[],h=>by simp at h
 | a::x,b::y,h=>by
  have ih:=Fh x y (by simpa using h);simp[Op.bytesLess,lex,ih]
def cmpS (x y:List UInt8):Int:=if Op.bytesLess x y then -1 else if x=y then 0 else 1
theorem Na (s:ByteArray) (w:World):Calls Tryz.prog 229 #[.string s] w fun e w'=>e=.returned (.bool false)∧w'=w:=by
 refine aj fun R hR=>?_
 go_enter Tryz.func229,Tryz.ntmps229
 go_wp2;exact hR.out _ _ ⟨rfl,rfl⟩
theorem KZ (s t:ByteArray) (w:World):Calls Tryz.prog 164 #[.string s,.string t] w fun e w'=>e=.returned (.int .i64 (cmpS s.data.toList t.data.toList))∧w'=w:=by
 rw[← ByteArray.toList_eq s,← ByteArray.toList_eq t];refine aj fun R hR=>?_
 go_enter Tryz.func164,Tryz.ntmps164
 go_wp2_with ((go_at_call 229);refine (Na _ _).mono ?_;rintro e w' ⟨rfl,rfl⟩)
 ·have h:Op.bytesLess s.toList t.toList=true:=zA;exact hR.out _ _ ⟨by simp[cmpS,h],rfl⟩
 ·have h:Op.bytesLess s.toList t.toList=false:=zA;have h2:(!s.toList==t.toList)=true:=zA;have h2:¬ s.toList=t.toList:=by simpa using h2
  exact hR.out _ _ ⟨by simp[cmpS,h,h2],rfl⟩
 ·have h:Op.bytesLess s.toList t.toList=false:=zA;have h2:(!s.toList==t.toList)=false:=zA;have h2:s.toList=t.toList:=by simpa using h2
  exact hR.out _ _ ⟨by rw[h2] at h ⊢;simp[cmpS,h],rfl⟩
def cmpO:Option (List UInt8)→Option (List UInt8)→Int
 | none,none=>0
 | some _,none => -1
 | none,some _=>1
 | some x,some y=>if Lib.compareInt x.length y.length=0 then cmpS x y else Lib.compareInt x.length y.length
theorem Rn {f g:List UInt8→Bool} {a b:Option (List UInt8)} (h:fT (fun w=>f w && !g w) a) (k:fT (fun w=>g w && !f w) b):gX f g (cmpO a b):=by
 have q:=uR h k
 cases a with
 | none=>
  cases b with
  | none=>exact q
  | some y=>exact q
 | some x=>
  cases b with
  | none=>exact q
  | some y=>
   obtain⟨hne,h1,h2⟩:=q;show gX f g (if Lib.compareInt x.length y.length=0 then cmpS x y else Lib.compareInt x.length y.length);have hc:Lib.compareInt x.length y.length=if x.length<y.length then -1 else if x.length > y.length then 1 else 0:=by
    unfold Lib.compareInt;by_cases p1:x.length<y.length
    ·rw[zI zo,zI p1]
    ·rw[zH zo,zH p1];by_cases p2:x.length > y.length
     ·rw[zI zo,zI p2]
     ·rw[zH zo,zH p2]
   rw[hc];by_cases p1:x.length<y.length
   ·rw[zI p1,zH zo];exact h1 (.inl p1)
   ·rw[zH p1];by_cases p2:x.length > y.length
    ·rw[zI p2,zH zo];exact h2 (.inl p2)
    ·rw[zH p2,zI rfl];have he:x.length=y.length:=zo;unfold cmpS;by_cases p3:Op.bytesLess x y=true
     ·rw[zI p3];exact h1 (.inr ⟨he,(Fh x y he).1 p3⟩)
     ·rw[zH p3,zH hne];rcases nL x y with t | t | t
      ·rcases t with t | ⟨-,t⟩
       ·omega
       ·exact absurd ((Fh x y he).2 t) p3
      ·exact absurd t hne
      ·exact h2 t
theorem RV (g:Nat) (t:TypeId) (x y:Int) (w:World) (h:bE w g t #[.int .i64 x,.int .i64 y]) :
 Calls Tryz.prog 162 #[.slice (some ⟨g,0,none⟩) 2 2] w fun e w'=>e=.returned (.int .i64 (if x=0 then y else x))∧w'=w:=by
 have c0:=h.cell (i:=0) rfl;have c1:=h.cell (i:=1) rfl;have l1:=h.lt;refine aj fun R hR=>?_
 go_enter Tryz.func162,Tryz.ntmps162
 go_wp2;refine au [3,6,7,8] (fun n vs wr=>∃k:Nat,k≤2∧n=2 - k∧vs=[.int .i64 0,.slice (some ⟨g,0,none⟩) 2 2,.int .i64 2,.int .i64 k]∧wr=w∧(1≤k→x=0)∧(2≤k→y=0)) ?_ ?_
 ·exact⟨_,0,zo,rfl,rfl,rfl,zo,zo⟩
 rintro X z n vs wr hX - ⟨k,hk,rfl,rfl,rfl,h1,h2⟩;simp[litL,lk];have hk:k=0∨k=1∨k=2:=zo;rcases hk with rfl | rfl | rfl
 ·clear h1 h2;by_cases e:x=0
  ·have hd:(x != 0)=false:=by simp[e]
   have E:=zh e;clear e;go_wp2;refine hX.out _ _ _ zo rfl ⟨1,zo,rfl,rfl,rfl,fun _=>E.out,zo⟩
  ·have hd:(x != 0)=true:=by simp[e]
   have E:=zh e;clear e;go_wp2;exact hR.out _ _ ⟨by rw[zH E.out];rfl,rfl⟩
 ·have H1:=zh (h1 zo);clear h1 h2;by_cases e:y=0
  ·have hd:(y != 0)=false:=by simp[e]
   have E:=zh e;clear e;go_wp2;refine hX.out _ _ _ zo rfl ⟨2,zo,rfl,rfl,rfl,fun _=>H1.out,fun _=>E.out⟩
  ·have hd:(y != 0)=true:=by simp[e]
   have E:=zh e;clear e;go_wp2;exact hR.out _ _ ⟨by rw[zI H1.out];rfl,rfl⟩
 ·have H1:=zh (zi (h1 zo) (h2 zo));clear h1 h2;go_wp2;exact hR.out _ _ ⟨by rw[zI H1.out.1,H1.out.2];rfl,rfl⟩
theorem wM (v v':Value) (l l':Table) (m:Mem) (w:World) (hm:m.inn w) (hl:aG m v l) (hl':aG m v' l') :
 Calls Tryz.prog 127 #[.agg #[v],.agg #[v']] w fun e w'=>e=.returned (.bool (tf (l=l')))∧Below w.heap.size w w':=by
 refine aj fun R hR=>?_;have hb0:Below w.heap.size w ((w.alloc (.cells #[v] 27)).alloc (.cells #[v'] 27)):=aR (aR (zP _ _) _) _;obtain⟨a,c,rfl,h1,h2,h3⟩:=hl;obtain⟨a',c',rfl,h1',h2',h3'⟩:=hl';unfold maxLen at h2 h2';by_cases hlen:l.length=l'.length
 ·have hne:((l.length:Int) != (l'.length:Int))=false:=by simp[hlen]
  have Hlen:=zh hlen;clear hlen
  go_enter Tryz.func127,Tryz.ntmps127
  go_wp2;have d1:((w.alloc (.cells #[.slice a l.length c] 27)).alloc (.cells #[.slice a' l'.length c'] 27)).cell? ⟨w.heap.size,0,none⟩=some (.slice a l.length c):=by simp
  have d2:((w.alloc (.cells #[.slice a l.length c] 27)).alloc (.cells #[.slice a' l'.length c'] 27)).cell? ⟨w.heap.size+1,0,none⟩=some (.slice a' l'.length c'):=by go_simp
  have d3:w.heap.size+1<((w.alloc (.cells #[.slice a l.length c] 27)).alloc (.cells #[.slice a' l'.length c'] 27)).heap.size:=by simp
  have hm0:=Mem.bJ hm hb0;generalize ((w.alloc (.cells #[.slice a l.length c] 27)).alloc (.cells #[.slice a' l'.length c'] 27))=w0 at *
  refine au [2,3,18,19] (fun n vs wr=>∃k:Nat,k≤l.length∧n=l.length - k∧vs=[.pointer (some ⟨w.heap.size,0,none⟩),.pointer (some ⟨w.heap.size+1,0,none⟩),.int .i64 l.length,.int .i64 k]∧(l=l'↔l.drop k=l'.drop k)∧Below w0.heap.size w0 wr) ?_ ?_
  ·exact⟨_,0,zC _,rfl,rfl,Iff.rfl,zP _ _⟩
  rintro X z n vs wr hX - ⟨k,hk,rfl,rfl,hrel,hbel⟩;have Hrel:=zh hrel;clear hrel;simp[litL,lk];have hmr:=Mem.bJ hm0 hbel;have e1:=(hbel.cell (p:=⟨w.heap.size,0,none⟩) (by simp;omega)).trans d1;have e2:=(hbel.cell (p:=⟨w.heap.size+1,0,none⟩) (by simp;omega)).trans d2;have e3:w.heap.size+1<wr.heap.size:=Nat.lt_of_lt_of_le d3 hbel.size;by_cases hlt:k<l.length
  ·have hlt':k<l'.length:=by rw[← Hlen.out];exact hlt
   obtain⟨b,off,rfl,h4⟩:=h3 (by intro h;simp[h] at hlt);obtain⟨b',off',rfl,h4'⟩:=h3' (by intro h;simp[h] at hlt');obtain⟨g1,ve,g2,ua,uc,rfl,u1,u2,u3⟩:=h4 k hlt;obtain⟨g1',ve',g2',ua',uc',rfl,u1',u2',u3'⟩:=h4' k hlt';have HD:=zh (kS l l' k hlt hlt');have He:=zh (Si l[k] l'[k]);have c1:=Mem.ak hmr g1;have c2:=Mem.ak hmr g2;have c1':=Mem.ak hmr g1';have c2':=Mem.ak hmr g2';have hb1:=Mem.ay hmr g1;have hb1':=Mem.ay hmr g1';unfold maxLen at u2 u2';generalize l[k]=s at *
   generalize l'[k]=s' at *
   have e4:w.heap.size<wr.heap.size:=zo;have e5:b<wr.heap.size+1:=zo;have e6:b'<wr.heap.size+1:=zo;have hbelw:=bU hb0 hbel;go_wp2;refine aI [2,3,5,6,7,18,19] (fun vs w1=>∃p q,vs=[.pointer (some ⟨w.heap.size,0,none⟩),.pointer (some ⟨w.heap.size+1,0,none⟩),.int .i64 k,.pointer (some ⟨p,0,none⟩),.pointer (some ⟨q,0,none⟩),.int .i64 l.length,.int .i64 k] ∧
    w1.cell? ⟨p,0,none⟩=some (.bool s.accept)∧w1.cell? ⟨p,1,none⟩=some (.slice ua s.edges.length uc)∧w1.cell? ⟨q,0,none⟩=some (.bool s'.accept)∧w1.cell? ⟨q,1,none⟩=some (.slice ua' s'.edges.length uc') ∧
    p<w1.heap.size∧q<w1.heap.size∧Below wr.heap.size wr w1) ?_ ?_
   ·intro Y hY
    go_region
    ·exact hY.out _ _ rfl ⟨_,_,rfl,by go_simp,by go_simp,by go_simp,by go_simp,(by simp <;> omega),(by simp <;> omega),(aR (aR (zP _ _) _) _).drew⟩
    ·exact hY.out _ _ rfl ⟨_,_,rfl,by go_simp,by go_simp,by go_simp,by go_simp,(by simp <;> omega),(by simp <;> omega),(aR (aR (zP _ _) _) _).drew⟩
   rintro z1 vs w1 - ⟨p,q,rfl,f1,f2,f3,f4,f5,f6,hb1w⟩;simp[litL,lk];have hm1:=Mem.bJ hmr hb1w;have hbw1:=bU hbel hb1w;clear hb1 hb1' c1 c2 c1' c2' e1 e2 e3 e4 e5 e6;by_cases ha:s.accept=s'.accept
   ·have hae:(s.accept==s'.accept)=true:=by simp[ha]
    have hae':(s.accept != s'.accept)=false:=by simp[ha]
    have Ha:=zh ha;clear ha;by_cases hel:s.edges.length=s'.edges.length
    ·have hee:((s.edges.length:Int) != (s'.edges.length:Int))=false:=by simp[hel]
     have Hel:=zh hel;clear hel;go_wp2;refine au [2,3,6,7,18,19,48,49] (fun n vs w2=>∃j:Nat,j≤s.edges.length∧n=s.edges.length - j∧vs=[.pointer (some ⟨w.heap.size,0,none⟩),.pointer (some ⟨w.heap.size+1,0,none⟩),.pointer (some ⟨p,0,none⟩),.pointer (some ⟨q,0,none⟩),.int .i64 l.length,.int .i64 k,.int .i64 s.edges.length,.int .i64 j] ∧
      (s.edges=s'.edges↔s.edges.drop j=s'.edges.drop j)∧Below w1.heap.size w1 w2) ?_ ?_
     ·exact⟨_,0,zC _,rfl,rfl,Iff.rfl,zP _ _⟩
     rintro X2 z2 n2 vs2 w2 hX2 - ⟨j,hj,rfl,rfl,hrel2,hbel2⟩;have Hrel2:=zh hrel2;clear hrel2;simp[litL,lk];have hm2:=Mem.bJ hm1 hbel2;have k2:=gu hbel2 f5 f2;have k4:=gu hbel2 f6 f4;have hf5:p<w2.heap.size:=Nat.lt_of_lt_of_le f5 hbel2.size;have hf6:q<w2.heap.size:=Nat.lt_of_lt_of_le f6 hbel2.size;by_cases hj2:j<s.edges.length
     ·have hj2':j<s'.edges.length:=by rw[← Hel.out];exact hj2
      obtain⟨vb,vo,rfl,u4⟩:=u3 (by intro h;simp[h] at hj2);obtain⟨vb',vo',rfl,u4'⟩:=u3' (by intro h;simp[h] at hj2');obtain⟨y1,y2,y3,-⟩:=u4 j hj2;obtain⟨y1',y2',y3',-⟩:=u4' j hj2';have x1:=Mem.ak hm2 y1;have x2:=Mem.ak hm2 y2;have x3:=Mem.ak hm2 y3;have x1':=Mem.ak hm2 y1';have x2':=Mem.ak hm2 y2';have x3':=Mem.ak hm2 y3';have HD2:=zh (kS s.edges s'.edges j hj2 hj2');have He2:=zh (Qs s.edges[j] s'.edges[j]);have hq:=fun w=>EW (s.edges[j].lo) (s.edges[j].hi) (s.edges[j].to) (s'.edges[j].lo) (s'.edges[j].hi) (s'.edges[j].to) w;have hgd:=EI;go_wp2
      go_quiet (fail)
      go_wp2
      ·refine hR.out _ _ ⟨aL ?_,bU hb0 (below_drewN (bU hbw1 hbel2) _)⟩;rw[aK];intro h;have h5:=He2.out.1 (HD2.out.1 (Hrel2.out.1 (He.out.1 (HD.out.1 (Hrel.out.1 h)).1).2)).1;have h6:=‹(!(s.edges[j].lo:Int)==(s'.edges[j].lo:Int))=true∨_›;simp[h5] at h6
      ·refine hX2.out _ _ _ zo rfl ⟨j+1,zo,rfl,rfl,?_,below_drewN hbel2 _⟩;have h6:=‹(!(s.edges[j].lo:Int)==(s'.edges[j].lo:Int))=false∧_›;simp at h6;exact Hrel2.out.trans (HD2.out.trans ⟨fun h=>h.2,fun h=>⟨He2.out.2 zo,h⟩⟩)
     ·go_wp2;refine hX.out _ _ _ zo rfl ⟨k+1,zo,rfl,rfl,Hrel.out.trans (HD.out.trans ⟨fun h=>h.2,fun h=>⟨He.out.2 ⟨Ha.out,Hrel2.out.2 ?_⟩,h⟩⟩),bU hbw1 hbel2⟩;rw[zO zo,zO (by rw[← Hel.out];omega)]
    ·have hee:((s.edges.length:Int) != (s'.edges.length:Int))=true:=by simp;omega
     go_wp2;exact hR.out _ _ ⟨aL (by rw[aK];intro h;exact hel (by rw[(He.out.1 (HD.out.1 (Hrel.out.1 h)).1).2])),bU hb0 hbw1⟩
   ·have hae:(s.accept==s'.accept)=false:=by simp[ha]
    have hae':(s.accept != s'.accept)=true:=by simp[ha]
    go_wp2;exact hR.out _ _ ⟨aL (by rw[aK];intro h;exact ha (He.out.1 (HD.out.1 (Hrel.out.1 h)).1).1),bU hb0 hbw1⟩
  ·go_wp2;refine hR.out _ _ ⟨aL ?_,bU hb0 hbel⟩;rw[aN (Hrel.out.2 ?_)];rw[zO zo,zO (by rw[← Hlen.out];omega)]
 ·have hne:((l.length:Int) != (l'.length:Int))=true:=by simp;omega
  go_enter Tryz.func127,Tryz.ntmps127
  go_wp2;exact hR.out _ _ ⟨aL (by rw[aK (fun h=>hlen (by rw[h]))]),hb0⟩
theorem GJ {es:List Ed} {lv:Nat→Bool} {j:Nat} (h:j<es.length):(es.take (j+1)).filter (fun e=>lv e.to.toNat)=(es.take j).filter (fun e=>lv e.to.toNat) ++ if lv (es[j]).to.toNat=true then [es[j]] else []:=by
 rw[zF h,List.filter_append];simp[List.filter_cons]
theorem FD (v0:Value) (l:Table) (m:Mem) (w:World) (hm:m.inn w) (hl:aG m v0 l) (hwf:WF l) (hlen:l.length≤1000000) (hel:∀s∈l,s.edges.length≤1000000) :
 Calls Tryz.prog 233 #[v0] w fun e w'=>∃r lv,e=.returned r∧Below w.heap.size w w'∧aG (m.grow w w') r (eY l lv)∧∀s:Nat,s<l.length→(lv s=true↔Lv l s):=by
 have hA:=Fs v0 l m w hm hl hwf hlen;have hby:=vN hl;have hl0:=hl;obtain⟨a,c,rfl,h1,h2,h3⟩:=hl;unfold maxLen at h2;have HA:=zh hA;clear hA;refine aj fun R hR=>?_
 go_enter Tryz.func233,Tryz.ntmps233
 go_wp2_with fail
 refine HA.out.mono ?_;rintro e w1 ⟨r,out,rfl,hb1,hr1,hol,hiff⟩;have hO1:=((Own.start hm).call hb1).dI 92 2;obtain⟨la,lc,rfl,l1,l2,l3⟩:=hr1;have HF:=zh hiff;have hol1:l.length≤out.length:=zo;clear hol;have HO1:=zh hO1;clear hiff hO1 HA hb1;go_wp2;refine au [0,3,4,12,13,14] (fun n vs wr=>∃(k:Nat) (vst:Value) (xs:List Value) (mk:Mem),k≤l.length∧n=l.length - k∧vs=[.slice a l.length c,.slice la out.length lc,vst,.slice a l.length c,.int .i64 l.length,.int .i64 k] ∧
  Own w m wr mk [.row vst 92 2 k xs]∧jA mk xs (eY (l.take k) (bt out))∧(m.grow w w1).le mk) ?_ ?_
 ·exact⟨_,0,.slice none 0 0,[],_,zC _,rfl,rfl,HO1.out,jA.nil _,Mem.le_refl _⟩
 clear HO1;rintro X z n vs wr hX - ⟨k,vst,xs,mk,hk,rfl,rfl,hO,hrow,hmk⟩;simp[litL,lk];obtain⟨vsta,vstc,rfl⟩:=aM hO.row;by_cases hlt:k<l.length
 ·obtain⟨b,off,rfl,h4⟩:=h3 (by intro h;simp[h] at hlt);obtain⟨g1,ve,g2,ea,ec,rfl,g4,g5,g6⟩:=h4 k hlt;obtain⟨lb,lo',rfl,l4⟩:=l3 (by intro h;simp[h] at hol1;simp[hol1] at hlt);have hmr:=Mem.cK hO.ext.le hO.inn;have g1w:=Mem.ak hmr g1;have g2w:=Mem.ak hmr g2;have hgl:=Mem.ay hmr g1;have hwfl:=hwf l[k] (zB hlt);have hell:=hel l[k] (zB hlt);have hbyl:=hby l[k] (zB hlt);have htk:eY (l.take (k+1)) (bt out)=eY (l.take k) (bt out) ++ [⟨(l[k]).accept,(l[k]).edges.filter fun e=>bt out e.to.toNat⟩]:=by
   unfold eY;rw[zF hlt,yD];rfl
  generalize l[k]=st at *
  unfold maxLen at g5;have hO2:=((hO.al #[.bool st.accept,.slice ea st.edges.length ec] 92).tail.al #[.bool st.accept,.slice none 0 0] 92).dI 133 3;have hsz:(wr.alloc (.cells #[.bool st.accept,.slice ea st.edges.length ec] 92)).heap.size=wr.heap.size+1:=by simp
  rw[hsz] at hO2;have Hk:=zh (zi hO2 (zi htk (zi hwfl hbyl)));clear hO2 htk hwfl hbyl hsz hO;generalize hS:wr.heap.size=S at *
  go_wp2;refine au [0,3,4,7,12,13,14,22,23,24] (fun n vs w2=>∃(j:Nat) (vx:Value),j≤st.edges.length∧n=st.edges.length - j ∧
   vs=[.slice (some ⟨b,off,none⟩) l.length c,.slice (some ⟨lb,lo',none⟩) out.length lc,.slice vsta k vstc,.pointer (some ⟨S+1,0,none⟩),.slice (some ⟨b,off,none⟩) l.length c,.int .i64 l.length,.int .i64 k,.slice ea st.edges.length ec,.int .i64 st.edges.length,.int .i64 j] ∧
   Own w m w2 mk [.row vx 133 3 ((st.edges.take j).filter fun e=>bt out e.to.toNat).length (bQ ((st.edges.take j).filter fun e=>bt out e.to.toNat)),.obj (S+1) 92 #[.bool st.accept,vx],.row (.slice vsta k vstc) 92 2 k xs]) ?_ ?_
  ·exact⟨_,0,.slice none 0 0,zC _,rfl,rfl,Hk.out.1⟩
  clear g1w g2w hgl hmr;rintro Y z2 n vs w2 hY - ⟨j,vx,hj,rfl,rfl,hO⟩;simp[litL,lk];obtain⟨vxa,vxc,rfl⟩:=aM hO.row;by_cases hlt2:j<st.edges.length
  ·obtain⟨b',off',rfl,h10⟩:=g6 (by intro h;simp[h] at hlt2);obtain⟨e1,e2,e3,e4,e5,e6⟩:=h10 j hlt2;have hmr:=Mem.cK hO.ext.le hO.inn;have e1w:=Mem.ak hmr e1;have e2w:=Mem.ak hmr e2;have e3w:=Mem.ak hmr e3;have ebl:=Mem.ay hmr e1;have hte:=eU Hk.out.2.2.1 st.edges[j] (zB hlt2);have hft:=GJ (lv:=bt out) hlt2;obtain⟨en,hen⟩:=zQ hte.2.1;have hte2:=hte.2.2;rw[hen] at e3w hte2 hft;have henl:en<out.length:=zo;have x1:=Mem.ak hO.inn (Mem.aB hmk (l4 en henl));have xl:=Mem.ay hO.inn (Mem.aB hmk (l4 en henl));rw[← nH henl] at x1;have hec:bQ [st.edges[j]]=[.int .u8 (st.edges[j]).lo,.int .u8 (st.edges[j]).hi,.int .i64 en]:=by simp[bQ,hen]
   have hfl:=List.length_filter_le (fun e=>bt out e.to.toNat) (st.edges.take j);have htl:(st.edges.take j).length≤j:=List.length_take_le _ _;generalize st.edges[j]=e at *
   generalize (st.edges.take j).filter (fun e=>bt out e.to.toNat)=es1 at *
   have s1:=hO.swap.obj.c 1;have s2:=hO.swap.obj.lt;have Hft:=zh (zi hft hec);clear hft hec hte hen
   cases hbf:bt out en with
   | false=>
    rw[hbf] at x1;have Hbf:=zh hbf;clear hbf;go_wp2;refine hY.out _ _ _ zo rfl ⟨j+1,.slice vxa es1.length vxc,zo,rfl,rfl,?_⟩;have e1:=Hft.out.1;simp only[Int.toNat_natCast,Hbf.out,Bool.false_eq_true,if_false,yM] at e1;rw[e1]
    exact hO.al' _
   | true=>
    rw[hbf] at x1;have Hbf:=zh hbf;clear hbf;have hO2:=(hO.al #[.int .u8 e.lo,.int .u8 e.hi,.int .i64 en] 133).tail;have hO3:=hO2.al #[.int .u8 e.lo,.int .u8 e.hi,.int .i64 en] 133;have hsz:(w2.alloc (.cells #[.int .u8 e.lo,.int .u8 e.hi,.int .i64 en] 133)).heap.size=w2.heap.size+1:=by simp
    rw[hsz] at hO3;have hnews:=hO3.obj.news rfl;clear hO2 hO
    go_wp2_with (at_builtin;refine aA mF rfl (.tmp 34) (.tmp 36) rfl (.slice vxa es1.length vxc) es1.length (bQ es1) rfl hO3.swap.row ⟨w2.heap.size+1,0,none⟩ 1 1 [.int .u8 e.lo,.int .u8 e.hi,.int .i64 en] rfl rfl hnews (by simp[Value.oneCell']) (by unfold maxLen;omega) zo ?_)
    intro va vc w7 hown7 hgrow7 hrow7;have hO4:=(hO3.swap.app hown7 hgrow7 hrow7 zS).third;clear hown7 hgrow7 hrow7 hO3 hnews;have u2:=hO4.obj.c 1;have u3:=hO4.obj.frozen 1;have u4:=hO4.obj.lt;have hO5:=((hO4.set 1 (.slice va (es1.length+1) vc)).swap).kV;have HO5:=zh hO5;clear hO5 hO4;go_wp2;refine hY.out _ _ _ zo rfl ⟨j+1,.slice va (es1.length+1) vc,zo,rfl,rfl,?_⟩;have e1:=Hft.out.1;simp only[Int.toNat_natCast,Hbf.out,if_true] at e1;rw[e1,eT];have e2:=Hft.out.2;simp only[bQ,List.flatMap_cons,List.flatMap_nil,yM] at e2;rw[e2];have:=HO5.out;simpa using this
  ·obtain rfl:j=st.edges.length:=zo;rw[yB] at hO;have hfl:=List.length_filter_le (fun e=>bt out e.to.toNat) st.edges;have hok:∀e∈st.edges.filter (fun e=>bt out e.to.toNat),edOk e:=fun e he=>by
    have he':=(List.mem_filter.1 he).1;have q1:=Hk.out.2.2.2 e he';have q2:=eU Hk.out.2.2.1 e he';exact⟨q1.1,q1.2,zo,zo⟩
   have hes:=fC (m:=mk) hO.row hok;have hmk2:=Mem.dG (w:=w2) hO.free;have hrow2:=(hrow.mono hmk2).push (s:=⟨st.accept,st.edges.filter fun e=>bt out e.to.toNat⟩) hes;rw[← Hk.out.2.1] at hrow2;have hO2:=hO.bv;have x0:=hO2.obj.c 0;have x1:=hO2.obj.c 1;have xl:=hO2.obj.lt;have hO3:=hO2.al #[.bool st.accept,.slice vxa (st.edges.filter fun e=>bt out e.to.toNat).length vxc] 92;have Hk2:=zh (zi hrow2 (Mem.le_trans hmk hmk2));clear hrow2 hes hmk2 hok;generalize mk.addv w2 (.slice vxa (st.edges.filter fun e=>bt out e.to.toNat).length vxc)=mk2 at *
   generalize st.edges.filter (fun e=>bt out e.to.toNat)=es1 at *
   have hnews:=hO3.obj.news rfl;clear hO hO2
   go_wp2_with (at_builtin;refine aA iJ rfl (.tmp 40) (.tmp 42) rfl (.slice vsta k vstc) k xs rfl hO3.third.row ⟨w2.heap.size,0,none⟩ 1 1 [.bool st.accept,.slice vxa es1.length vxc] rfl rfl hnews (by simp[Value.oneCell']) (by unfold maxLen;omega) zo ?_)
   intro va vc w7 hown7 hgrow7 hrow7;have hO4:=((hO3.third.app hown7 hgrow7 hrow7 zS)).drop2.drop2;clear hown7 hgrow7 hrow7 hO3 hnews;go_wp2;exact hX.out _ _ _ zo rfl ⟨k+1,.slice va (k+1) vc,_,mk2,zo,rfl,rfl,hO4,Hk2.out.1,Hk2.out.2⟩
 ·obtain rfl:k=l.length:=zo;rw[yB] at hrow;have htl:(eY l (bt out)).length=l.length:=by simp[eY]
  have hst:=dK (l:=eY l (bt out)) (m:=mk) (by rw[htl];exact hO.row) hrow hO.free;have hst2:=aJ hO.bv.done hst;have Hk:=zh (zi hst2 (zi hO.below HF.out));clear hst hst2 hO hrow htl;go_wp2;exact hR.out _ _ ⟨_,bt out,rfl,Hk.out.2.1,Hk.out.1,Hk.out.2.2⟩
end Cl
