/- Lemmas. -/
import Derived.Shelf.SlSortCmp.NoneTotal
import Derived.Test.YtbbnjopkjbhpbaaGreatDoorPkT16
import Derived.Test.YtbbnjopkjbhpbaaGreatDoorPkT14
import Derived.Test.YtbbnjopkjbhpbaaGreatDoorPkT15
set_option maxRecDepth 99999
set_option maxHeartbeats 9999999
namespace Cl
open Go Go.RowKit Go.Proofs Tryz
theorem jI:og prog 33 9:=⟨Tryz.isAgg33,Tryz.sizeOf33⟩
theorem ek:og prog 35 18:=⟨Tryz.isAgg35,Tryz.sizeOf35⟩
theorem tu:og prog 82 20:=⟨Tryz.isAgg82,Tryz.sizeOf82⟩
theorem qB:og prog 68 19:=⟨Tryz.isAgg68,Tryz.sizeOf68⟩
theorem rO:og prog 29 6:=⟨Tryz.isAgg29,Tryz.sizeOf29⟩
theorem uM(v:Vl)(s:Sl)(m:Mem)(n:Nat)(w:zW)(D:m.az w)(x:aY m n s v):
 zX 25 #[v.val s] w (bQ (v,v) s s):=by
 have q:=(Own.start D).al (aZ v s).toArray 33;have t:=fG (d:=(v,v)) x x;unfold Vl.val bQ;rw[show dw (v,v) s s=aZ v s++aZ v s from rfl]at*
 have r:∃k j i h g f c b a,aZ v s=[k,j,i,h,g,f,c,b,a]:=⟨_,_,_,_,_,_,_,_,_,rfl⟩;obtain⟨k,j,i,h,g,f,c,b,a,r⟩:=r;rw[r]at q t⊢;have A:=zh (fun o=>((q.al' o).jG (yF ..)).all);have p:=q.al lZ 35;simp only[bB]at p;have l:=zh (zi p t);clear q t r p;refine au fun R E=>?_
 go_enter func25,ntmps25
 go_wp2_with (first
  |refine aj jI rfl (.tmp 1) rfl rfl [k,j,i,h,g,f,c,b,a] rfl (A.o _) ?_
  | refine aA ek rfl (.tmp 2) (.tmp 5) rfl (cs:=#[k,j,i,h,g,f,c,b,a,k,j,i,h,g,f,c,b,a]) rfl rfl rfl rfl (fun u B=>l.o.2 u B) l.o.1.obj ?_)
 intro w' y z;have F:=zh (l.o.1.aQ y z);have C:=ek.load (cs:=[k,j,i,h,g,f,c,b,a,k,j,i,h,g,f,c,b,a]) rfl y.all;clear l z A;go_wp2;refine yV (v:=.agg #[k,j,i,h,g,f,c,b,a,k,j,i,h,g,f,c,b,a]) (jq results25 rfl C) rfl ?_;exact E.o _ _ ⟨rfl,F.o.aF⟩
theorem R3(w:zW):
 zX 12 #[] w (bQ (eX,eX) dI dI):=by
 have f:=(Own.start (ezr w)).al lZ 35;have h:=zh (uM eX dI (Mem.of w) 1 _ f.az (aY.leaf _ true));have m:=fG (d:=(eX,eX)) (aY.leaf (Mem.of w) true) (aY.leaf (Mem.of w) true);have i:=zh f;clear f;unfold bQ at*
 have hl:(dw (eX,eX) dI dI).length=18:=rfl;generalize dw (eX,eX) dI dI=N at*
 refine au fun R l=>?_
 go_enter func12,ntmps12
 go_wp2_with fail
 refine h.o.mono ?_;rintro e p ⟨rfl,b⟩;have a:=zh (i.o.aT b);clear i h b
 go_wp2_with (refine aA ek rfl (.tmp 0) (.tmp 2) rfl (cs:=N.toArray) rfl rfl rfl qdR (fun u j=>m u j) a.o.obj ?_)
 intro w' c g;have n:=zh (a.o.aQ c g);have k:=ek.load hl c.all;clear a g c;go_wp2;exact yV (v:=.agg N.toArray) (jq results12 rfl k) rfl (l.o _ _ ⟨rfl,n.o.aF⟩)
theorem EU:og prog 50 2:=⟨Tryz.isAgg50,Tryz.sizeOf50⟩
theorem Cs:og prog 62 2:=⟨Tryz.isAgg62,Tryz.sizeOf62⟩
theorem dzf{α:Type}(C:α->α->Int)(A:Nat->Nat->α->Prop)(Rp:List Value->α->Prop)(v v':zV)(l l':List α)(m:Mem)(w:zW)(hm:m.az w)
(hA:∀b o x,A b o x->∃cs:List Value,cs.length=2/\(∀j u,cs[j]?=some u->m.cell b (o+j)=some u)/\(∀u∈cs,u.oneCell'=true)/\Rp cs x)
(hc:∀cs d x x' w',m.az w'->Rp cs x->Rp d x'->zC 225 #[.agg cs.toArray,.agg d.toArray] w' fun e Z=>e=.returned (.j (C x x'))/\Below w'.heap.size w' Z)
(hl:Mem.slice A 2 v l)(d':Mem.slice A 2 v' l'):
 zX 224 #[v,v',.func (.func 225) #[] #[]] w (.j (eB C l l')):=by
 obtain⟨a,c,rfl,h1,h2,h3⟩:=hl;obtain⟨a',c',rfl,D',f',Q⟩:=d';unfold maxLen at h2 f';have HK:=zh (zi h3 Q);have HA:=zh (zi hA hc);have HO:=zh (Own.start hm);clear h3 Q hA hc;refine au fun R hR=>?_
 go_enter func224,ntmps224
 go_wp2;refine aB [0,1,2,11,12,13] (fun n vs wr=>∃k:Nat,k<=l.length/\n=l.length-k/\vs=[.slice a l.length c,.slice a' l'.length c',.func (.func 225) #[] #[],.slice a l.length c,.j l.length,.j k]/\eB C l l'=eB C (l.drop k) (l'.drop k)/\Own w m wr m []) ?_ ?_
 .exact qbs
 clear HO;rintro X z n vs wr hX-⟨k,hk,rfl,rfl,y,B⟩;have f:=zh y;clear y;simp[bz,lk];by_cases hlt:k<l.length
 case neg=>
  obtain rfl:k=l.length:=zo;have HL:=zh (f.o.trans qh1);have HB:=zh B.aF;clear B hX f;by_cases hs:l.length<l'.length
  .have HL2:=zh (show eB C l l' = -1 by rw[HL.o,zK hs]);exact qal
  .have HL2:=zh (show eB C l l'=0 by rw[HL.o,zJ hs]);exact qal
 obtain⟨b,off,rfl,h4⟩:=HK.o.1 qdJ;obtain⟨cs,hl1,s,q,F⟩:=HA.o.1 _ _ _ (h4 k hlt);have t:=B.al #[.slice none 0 0,.slice none 0 0] 50;have J:=zh (fun(w':zW) (h:m.az w') j u hj=>azk h (s j u hj));have E:=s 0 (cs[0]'zo) (yH _);have u':=bzu B.az E;have G:=B.az;by_cases hlt':k<l'.length
 case neg=>
  have HL2:=zh (show eB C l l'=1 from f.o.trans qh2);have HO:=zh t;have K:=zh q;clear B t h4 s q F E f hX;generalize l[k]=x at*
  go_wp2_with (first
   |refine aj EU rfl (.tmp 16) rfl rfl cs hl1 (J.o _ G) ?_
   | (refine aA EU rfl (.tmp 8) (.tmp 17) rfl (cs:=cs.toArray) rfl rfl rfl qdU (fun u hu=>K.o u qdL) HO.o.obj ?_;intro w1 i p;have HO2:=zh (HO.o.aQ i p)))
  exact qbc
 obtain⟨b',m',rfl,P⟩:=HK.o.2 qdV;obtain⟨d,hl2,I,N,M⟩:=HA.o.1 _ _ _ (P k hlt');have U:=zh (f.o.trans qhW);have HC:=zh (fun w' (h:m.az w')=>HA.o.2 cs d l[k] l'[k] w' h F M);have S:=zh (fun(w':zW) (h:m.az w') j u hj=>azk h (I j u hj));have L:=I 0 (d[0]'zo) (yH _);have t':=bzu B.az L;have K:=zh (zi q N);have HO:=zh t;clear B t h4 P s I q N F M E L f;generalize C l[k] l'[k]=r at*
 by_cases T:r=0
 .subst T;have HL:=zh (show eB C l l'=eB C (l.drop (k+1)) (l'.drop (k+1)) from U.o);clear U
  go_wp2_with (first
   |refine aj EU rfl (.tmp 16) rfl rfl cs hl1 (J.o _ G) ?_
   |(refine aA EU rfl (.tmp 8) (.tmp 17) rfl (cs:=cs.toArray) rfl rfl rfl qdU (fun u hu=>K.o.1 u qdL) HO.o.obj ?_;intro w1 i p;have g:=(HO.o.aQ i p).al #[.slice none 0 0,.slice none 0 0] 50;have Y:=g.av.obj.lt;have O:=g.tail.az)
   |refine aj EU rfl (.tmp 24) rfl rfl d hl2 (S.o _ (HO.o.aQ i p).az) ?_
   |(refine aA EU rfl (.tmp 9) (.tmp 25) rfl (cs:=d.toArray) rfl rfl rfl qdT (fun u hu=>K.o.2 u qdL) g.obj ?_;intro w2 D H;have hO3:=g.aQ D H;have W:=hO3.av.obj.all;have V:=hO3.obj.all)
   |refine aj EU rfl (.tmp 8) rfl rfl cs hl1 W ?_
   |refine aj EU rfl (.tmp 9) rfl rfl d hl2 V ?_
   | (go_at_call 225;refine(HC.o _ hO3.az).mono ?_;rintro e w3 ⟨rfl,hb3⟩))
  exact qaI
 .have hd:(r != 0)=true:=bne_iff_ne.2 T;have HL:=zh (show eB C l l'=r by rw[U.o,rQ,zJ T]);clear U T hX
  go_wp2_with (first
   |refine aj EU rfl (.tmp 16) rfl rfl cs hl1 (J.o _ G) ?_
   |(refine aA EU rfl (.tmp 8) (.tmp 17) rfl (cs:=cs.toArray) rfl rfl rfl qdU (fun u hu=>K.o.1 u qdL) HO.o.obj ?_;intro w1 i p;have g:=(HO.o.aQ i p).al #[.slice none 0 0,.slice none 0 0] 50;have Y:=g.av.obj.lt;have O:=g.tail.az)
   |refine aj EU rfl (.tmp 24) rfl rfl d hl2 (S.o _ (HO.o.aQ i p).az) ?_
   |(refine aA EU rfl (.tmp 9) (.tmp 25) rfl (cs:=d.toArray) rfl rfl rfl qdT (fun u hu=>K.o.2 u qdL) g.obj ?_;intro w2 D H;have hO3:=g.aQ D H;have W:=hO3.av.obj.all;have V:=hO3.obj.all)
   |refine aj EU rfl (.tmp 8) rfl rfl cs hl1 W ?_
   |refine aj EU rfl (.tmp 9) rfl rfl d hl2 V ?_
   | (go_at_call 225;refine(HC.o _ hO3.az).mono ?_;rintro e w3 ⟨rfl,hb3⟩))
  exact qdC
theorem dzi{α:Type}(C:α->α->Int)(A:Nat->Nat->α->Prop)(Rp:List Value->α->Prop)(v v':zV)(l l':List α)(m:Mem)(w:zW)(hm:m.az w)
(hA:∀b o x,A b o x->∃cs:List Value,cs.length=2/\(∀j u,cs[j]?=some u->m.cell b (o+j)=some u)/\(∀u∈cs,u.oneCell'=true)/\Rp cs x)
(hc:∀cs d x x' w',m.az w'->Rp cs x->Rp d x'->zC 228 #[.agg cs.toArray,.agg d.toArray] w' fun e Z=>e=.returned (.j (C x x'))/\Below w'.heap.size w' Z)
(hl:Mem.slice A 2 v l)(d':Mem.slice A 2 v' l'):
 zX 227 #[v,v',.func (.func 228) #[] #[]] w (.j (eB C l l')):=by
 obtain⟨a,c,rfl,h1,h2,h3⟩:=hl;obtain⟨a',c',rfl,D',f',Q⟩:=d';unfold maxLen at h2 f';have HK:=zh (zi h3 Q);have HA:=zh (zi hA hc);have HO:=zh (Own.start hm);clear h3 Q hA hc;refine au fun R hR=>?_
 go_enter func227,ntmps227
 go_wp2;refine aB [0,1,2,11,12,13] (fun n vs wr=>∃k:Nat,k<=l.length/\n=l.length-k/\vs=[.slice a l.length c,.slice a' l'.length c',.func (.func 228) #[] #[],.slice a l.length c,.j l.length,.j k]/\eB C l l'=eB C (l.drop k) (l'.drop k)/\Own w m wr m []) ?_ ?_
 .exact qbs
 clear HO;rintro X z n vs wr hX-⟨k,hk,rfl,rfl,y,B⟩;have f:=zh y;clear y;simp[bz,lk];by_cases hlt:k<l.length
 case neg=>
  obtain rfl:k=l.length:=zo;have HL:=zh (f.o.trans qh1);have HB:=zh B.aF;clear B hX f;by_cases hs:l.length<l'.length
  .have HL2:=zh (show eB C l l' = -1 by rw[HL.o,zK hs]);exact qal
  .have HL2:=zh (show eB C l l'=0 by rw[HL.o,zJ hs]);exact qal
 obtain⟨b,off,rfl,h4⟩:=HK.o.1 qdJ;obtain⟨cs,hl1,s,q,F⟩:=HA.o.1 _ _ _ (h4 k hlt);have t:=B.al #[.slice none 0 0,.slice none 0 0] 62;have J:=zh (fun(w':zW) (h:m.az w') j u hj=>azk h (s j u hj));have E:=s 0 (cs[0]'zo) (yH _);have u':=bzu B.az E;have G:=B.az;by_cases hlt':k<l'.length
 case neg=>
  have HL2:=zh (show eB C l l'=1 from f.o.trans qh2);have HO:=zh t;have K:=zh q;clear B t h4 s q F E f hX;generalize l[k]=x at*
  go_wp2_with (first
   |refine aj Cs rfl (.tmp 16) rfl rfl cs hl1 (J.o _ G) ?_
   | (refine aA Cs rfl (.tmp 8) (.tmp 17) rfl (cs:=cs.toArray) rfl rfl rfl qdU (fun u hu=>K.o u qdL) HO.o.obj ?_;intro w1 i p;have HO2:=zh (HO.o.aQ i p)))
  exact qbc
 obtain⟨b',m',rfl,P⟩:=HK.o.2 qdV;obtain⟨d,hl2,I,N,M⟩:=HA.o.1 _ _ _ (P k hlt');have U:=zh (f.o.trans qhW);have HC:=zh (fun w' (h:m.az w')=>HA.o.2 cs d l[k] l'[k] w' h F M);have S:=zh (fun(w':zW) (h:m.az w') j u hj=>azk h (I j u hj));have L:=I 0 (d[0]'zo) (yH _);have t':=bzu B.az L;have K:=zh (zi q N);have HO:=zh t;clear B t h4 P s I q N F M E L f;generalize C l[k] l'[k]=r at*
 by_cases T:r=0
 .subst T;have HL:=zh (show eB C l l'=eB C (l.drop (k+1)) (l'.drop (k+1)) from U.o);clear U
  go_wp2_with (first
   |refine aj Cs rfl (.tmp 16) rfl rfl cs hl1 (J.o _ G) ?_
   |(refine aA Cs rfl (.tmp 8) (.tmp 17) rfl (cs:=cs.toArray) rfl rfl rfl qdU (fun u hu=>K.o.1 u qdL) HO.o.obj ?_;intro w1 i p;have g:=(HO.o.aQ i p).al #[.slice none 0 0,.slice none 0 0] 62;have Y:=g.av.obj.lt;have O:=g.tail.az)
   |refine aj Cs rfl (.tmp 24) rfl rfl d hl2 (S.o _ (HO.o.aQ i p).az) ?_
   |(refine aA Cs rfl (.tmp 9) (.tmp 25) rfl (cs:=d.toArray) rfl rfl rfl qdT (fun u hu=>K.o.2 u qdL) g.obj ?_;intro w2 D H;have hO3:=g.aQ D H;have W:=hO3.av.obj.all;have V:=hO3.obj.all)
   |refine aj Cs rfl (.tmp 8) rfl rfl cs hl1 W ?_
   |refine aj Cs rfl (.tmp 9) rfl rfl d hl2 V ?_
   | (go_at_call 228;refine(HC.o _ hO3.az).mono ?_;rintro e w3 ⟨rfl,hb3⟩))
  exact qaI
 .have hd:(r != 0)=true:=bne_iff_ne.2 T;have HL:=zh (show eB C l l'=r by rw[U.o,rQ,zJ T]);clear U T hX
  go_wp2_with (first
   |refine aj Cs rfl (.tmp 16) rfl rfl cs hl1 (J.o _ G) ?_
   |(refine aA Cs rfl (.tmp 8) (.tmp 17) rfl (cs:=cs.toArray) rfl rfl rfl qdU (fun u hu=>K.o.1 u qdL) HO.o.obj ?_;intro w1 i p;have g:=(HO.o.aQ i p).al #[.slice none 0 0,.slice none 0 0] 62;have Y:=g.av.obj.lt;have O:=g.tail.az)
   |refine aj Cs rfl (.tmp 24) rfl rfl d hl2 (S.o _ (HO.o.aQ i p).az) ?_
   |(refine aA Cs rfl (.tmp 9) (.tmp 25) rfl (cs:=d.toArray) rfl rfl rfl qdT (fun u hu=>K.o.2 u qdL) g.obj ?_;intro w2 D H;have hO3:=g.aQ D H;have W:=hO3.av.obj.all;have V:=hO3.obj.all)
   |refine aj Cs rfl (.tmp 8) rfl rfl cs hl1 W ?_
   |refine aj Cs rfl (.tmp 9) rfl rfl d hl2 V ?_
   | (go_at_call 228;refine(HC.o _ hO3.az).mono ?_;rintro e w3 ⟨rfl,hb3⟩))
  exact qdC
end Cl
namespace Cl
open Go Go.RowKit Go.Proofs Go.Sort Tryz
theorem Zj{α:Type}{p:α->Prop}{C:α->α->Int}(hC:jV p C){Rp:List Value->α->Prop}{w0 w:zW}{m mk:Mem}{L:List bA}{t:TypeId}{v:zV}{l:List α}{xs:List Value}(h:Own w0 m w mk (.row v t 2 l.length xs::L))(hx:jd 2 Rp xs l)(hp:∀x∈l,p x)(hn:l.Nodup)
(g:Nat)(c:Array Value)(G:∀args w,(callFunc g args).run prog w=.ok (.enter g args) w)(E:∀cs r x s w',mk.az w'->x∈l->s∈l->Rp cs x->Rp r s->zC g (#[.agg cs.toArray,.agg r.toArray]++c) w' fun e u=>e=.returned (.j (C x s))/\Below w'.heap.size w' u)(hl:l.length<4611686018427387904):
 zC 128 #[v,.func (.func g) #[] c] w fun e w'=>e=.returned (.tuple #[])/\∃f,jd 2 Rp f (eU C l)/\Own w0 m w' mk (.row v t 2 l.length f::L):=by
 obtain⟨va,k,rfl⟩:=bv h.row;by_cases D:l=[]
 .subst D;have:=AnyF.slices_SortFunc_none { Tryz.fzb with } va k (.func (.func g) #[] c) w;refine Calls.mono (show zC 128 #[.slice va 0 k,.func (.func g) #[] c] w _ from this) ?_;exact qck
 have o:0<l.length:=yY.2 D;obtain⟨gb,rfl⟩:∃gb,va=some ⟨gb,0,none⟩:=by
  rcases h.row.2 with⟨e,-⟩|⟨gb,K,J,e,-⟩
  .injection e with _ e;omega
  .exact qdo
 obtain⟨css,H,e2,e3⟩:=hx.ex;have z:gb<w.heap.size:=(World.ownsRow.lt h.row _ rfl).2;have F:Inhabited (Fin l.length):=⟨⟨0,o⟩⟩;have hk:∀i:Fin l.length,(css[i.val]'qdS).length=2:=fun i=>(e3 i.val qdS i.isLt).1;have A:xs=((Array.ofFn (n:=l.length) id).toList.map fun i:Fin l.length=>css[i.val]'qdS).flatten:=by
  rw[H]
  congr 1
  exact qcU
 have hsz:(Array.ofFn (n:=l.length) id).size=l.length:=by simp
 have h':Own w0 m w mk (.row (.slice (some ⟨gb,0,none⟩) (Array.ofFn (n:=l.length) id).size k) t 2 (Array.ofFn (n:=l.length) id).size ((Array.ofFn (n:=l.length) id).toList.map fun i:Fin l.length=>css[i.val]'qdS).flatten::L):=by
  rw[hsz,<-A];exact h
 have d:=AnyQ.slices_SortFunc Tryz.fzb 2 Tryz.isAgg50 Tryz.sizeOf50 (fun i:Fin l.length=>css[i.val]'qdS) hk (fun i=>(e3 i.val qdS i.isLt).2.1) (fun i j=>C l[i] l[j]) (Bt hC hp) g c gb 0 k (Array.ofFn id) w
  G (fun q os I B x y=>yw (E _ _ _ _ _ (sort_own' _ hk zo h' I B q os).az (zF x.isLt) (zF y.isLt) (e3 x.val qeM x.isLt).2.2 (e3 y.val qeL y.isLt).2.2)) (row_holds' _ hk zo h'.row) z qeT
 rw[hsz]at d;refine Calls.mono (show zC 128 #[.slice (some ⟨gb,0,none⟩) l.length k,.func (.func g) #[] c] w _ from d) ?_;exact qgw
theorem Zn{α:Type}{p:α->Prop}{C:α->α->Int}(hC:jV p C){Rp:List Value->α->Prop}{w0 w:zW}{m mk:Mem}{L:List bA}{t:TypeId}{v:zV}{l:List α}{xs:List Value}(h:Own w0 m w mk (.row v t 2 l.length xs::L))(hx:jd 2 Rp xs l)(hp:∀x∈l,p x)(hn:l.Nodup)
(g:Nat)(c:Array Value)(G:∀args w,(callFunc g args).run prog w=.ok (.enter g args) w)(E:∀cs r x s w',mk.az w'->x∈l->s∈l->Rp cs x->Rp r s->zC g (#[.agg cs.toArray,.agg r.toArray]++c) w' fun e u=>e=.returned (.j (C x s))/\Below w'.heap.size w' u)(hl:l.length<4611686018427387904):
 zC 131 #[v,.func (.func g) #[] c] w fun e w'=>e=.returned (.tuple #[])/\∃f,jd 2 Rp f (eU C l)/\Own w0 m w' mk (.row v t 2 l.length f::L):=by
 obtain⟨va,k,rfl⟩:=bv h.row;by_cases D:l=[]
 .subst D;have:=AnyF.slices_SortFunc_none { Tryz.fzd with } va k (.func (.func g) #[] c) w;refine Calls.mono (show zC 131 #[.slice va 0 k,.func (.func g) #[] c] w _ from this) ?_;exact qck
 have o:0<l.length:=yY.2 D;obtain⟨gb,rfl⟩:∃gb,va=some ⟨gb,0,none⟩:=by
  rcases h.row.2 with⟨e,-⟩|⟨gb,K,J,e,-⟩
  .injection e with _ e;omega
  .exact qdo
 obtain⟨css,H,e2,e3⟩:=hx.ex;have z:gb<w.heap.size:=(World.ownsRow.lt h.row _ rfl).2;have F:Inhabited (Fin l.length):=⟨⟨0,o⟩⟩;have hk:∀i:Fin l.length,(css[i.val]'qdS).length=2:=fun i=>(e3 i.val qdS i.isLt).1;have A:xs=((Array.ofFn (n:=l.length) id).toList.map fun i:Fin l.length=>css[i.val]'qdS).flatten:=by
  rw[H]
  congr 1
  exact qcU
 have hsz:(Array.ofFn (n:=l.length) id).size=l.length:=by simp
 have h':Own w0 m w mk (.row (.slice (some ⟨gb,0,none⟩) (Array.ofFn (n:=l.length) id).size k) t 2 (Array.ofFn (n:=l.length) id).size ((Array.ofFn (n:=l.length) id).toList.map fun i:Fin l.length=>css[i.val]'qdS).flatten::L):=by
  rw[hsz,<-A];exact h
 have d:=AnyQ.slices_SortFunc Tryz.fzd 2 Tryz.isAgg62 Tryz.sizeOf62 (fun i:Fin l.length=>css[i.val]'qdS) hk (fun i=>(e3 i.val qdS i.isLt).2.1) (fun i j=>C l[i] l[j]) (Bt hC hp) g c gb 0 k (Array.ofFn id) w
  G (fun q os I B x y=>yw (E _ _ _ _ _ (sort_own' _ hk zo h' I B q os).az (zF x.isLt) (zF y.isLt) (e3 x.val qeM x.isLt).2.2 (e3 y.val qeL y.isLt).2.2)) (row_holds' _ hk zo h'.row) z qeT
 rw[hsz]at d;refine Calls.mono (show zC 131 #[.slice (some ⟨gb,0,none⟩) l.length k,.func (.func g) #[] c] w _ from d) ?_;exact qgw
theorem Zl{α:Type}{p:α->Prop}{C:α->α->Int}(hC:jV p C){Rp:List Value->α->Prop}{w0 w:zW}{m mk:Mem}{L:List bA}{t:TypeId}{v:zV}{l:List α}{xs:List Value}(h:Own w0 m w mk (.row v t 19 l.length xs::L))(hx:jd 19 Rp xs l)(hp:∀x∈l,p x)(hn:l.Nodup)
(g:Nat)(c:Array Value)(G:∀args w,(callFunc g args).run prog w=.ok (.enter g args) w)(E:∀cs r x s w',mk.az w'->x∈l->s∈l->Rp cs x->Rp r s->zC g (#[.agg cs.toArray,.agg r.toArray]++c) w' fun e u=>e=.returned (.j (C x s))/\Below w'.heap.size w' u)(hl:l.length<4611686018427387904):
 zC 125 #[v,.func (.func g) #[] c] w fun e w'=>e=.returned (.tuple #[])/\∃f,jd 19 Rp f (eU C l)/\Own w0 m w' mk (.row v t 19 l.length f::L):=by
 obtain⟨va,k,rfl⟩:=bv h.row;by_cases D:l=[]
 .subst D;have:=AnyF.slices_SortFunc_none { Tryz.fzc with } va k (.func (.func g) #[] c) w;refine Calls.mono (show zC 125 #[.slice va 0 k,.func (.func g) #[] c] w _ from this) ?_;exact qck
 have o:0<l.length:=yY.2 D;obtain⟨gb,rfl⟩:∃gb,va=some ⟨gb,0,none⟩:=by
  rcases h.row.2 with⟨e,-⟩|⟨gb,K,J,e,-⟩
  .injection e with _ e;omega
  .exact qdo
 obtain⟨css,H,e2,e3⟩:=hx.ex;have z:gb<w.heap.size:=(World.ownsRow.lt h.row _ rfl).2;have F:Inhabited (Fin l.length):=⟨⟨0,o⟩⟩;have hk:∀i:Fin l.length,(css[i.val]'qdS).length=19:=fun i=>(e3 i.val qdS i.isLt).1;have A:xs=((Array.ofFn (n:=l.length) id).toList.map fun i:Fin l.length=>css[i.val]'qdS).flatten:=by
  rw[H]
  congr 1
  exact qcU
 have hsz:(Array.ofFn (n:=l.length) id).size=l.length:=by simp
 have h':Own w0 m w mk (.row (.slice (some ⟨gb,0,none⟩) (Array.ofFn (n:=l.length) id).size k) t 19 (Array.ofFn (n:=l.length) id).size ((Array.ofFn (n:=l.length) id).toList.map fun i:Fin l.length=>css[i.val]'qdS).flatten::L):=by
  rw[hsz,<-A];exact h
 have d:=AnyQ.slices_SortFunc Tryz.fzc 19 Tryz.isAgg68 Tryz.sizeOf68 (fun i:Fin l.length=>css[i.val]'qdS) hk (fun i=>(e3 i.val qdS i.isLt).2.1) (fun i j=>C l[i] l[j]) (Bt hC hp) g c gb 0 k (Array.ofFn id) w
  G (fun q os I B x y=>yw (E _ _ _ _ _ (sort_own' _ hk zo h' I B q os).az (zF x.isLt) (zF y.isLt) (e3 x.val qeM x.isLt).2.2 (e3 y.val qeL y.isLt).2.2)) (row_holds' _ hk zo h'.row) z qeT
 rw[hsz]at d;refine Calls.mono (show zC 125 #[.slice (some ⟨gb,0,none⟩) l.length k,.func (.func g) #[] c] w _ from d) ?_;exact qgw
end Cl
namespace Cl
open Go Go.RowKit Go.Proofs Tryz
theorem aY.dm{m:Mem}{n:Nat}{x:Sl}{v:Vl}(k:aY m n x v):∃o e l d j c h b g a,x=⟨.slice o v.s.i.length e,.slice l v.s.f.length d,.slice j v.s.t.length c,.slice h v.aJ.length b,.slice g v.ay.length a⟩ /\
 v.s.i.length<=maxLen/\v.s.f.length<=maxLen/\v.s.t.length<=maxLen/\v.aJ.length<=maxLen/\v.ay.length<=maxLen:=by
 cases n with
 |zero=>exact k.elim
 |succ n=>
  obtain⟨⟨⟨o,e,w,M,H,-⟩,⟨l,d,u,L,G,-⟩,⟨j,c,r,K,F,-⟩⟩,⟨h,b,q,J,E,-⟩,⟨g,a,p,I,D,-⟩⟩:=k;obtain⟨C,B,A,z,y⟩:=x;simp only at w u r q p;subst w u r q p;exact⟨o,e,l,d,j,c,h,b,g,a,rfl,zo,zo,zo,zo,zo⟩
theorem aY.sc{m:Mem}{n:Nat}{x:Sl}{v:Vl}(k:aY m n x v):gJ m x.i x.f x.t v.s:=by
 cases n with
 |zero=>exact k.elim
 |succ n=>exact k.1
theorem ET(a b:Bool)(w:zW):zX 221 #[.bool a,.bool b] w (.j (Bb a b)):=by
 refine au fun R hR=>?_;cases a<;>cases b
 all_goals
  go_enter func221,ntmps221
  go_wp2;exact qb3
theorem ZL(s:RS):tf (s=fe)=(!s.dL && !s.dS && !s.dW&&decide ((s.i.length:Int)+s.f.length+s.t.length=0)):=by
 rw[Bool.eq_iff_iff];simp only[xG,Bool.not_eq_true',decide_eq_true_eq,j4];constructor
 .rintro rfl;exact⟨⟨⟨rfl,rfl⟩,rfl⟩,rfl⟩
 .rintro⟨⟨⟨g,e⟩,d⟩,h⟩;obtain⟨a,b,c,i,f,t⟩:=s;simp only at g e d h;subst g e d;rw[yM (show i.length=0 by omega),yM (show f.length=0 by omega),yM (show t.length=0 by omega)]
  rfl
theorem ES(b c a:zV)(s:RS)(m:Mem)(w:zW)(h:gJ m b c a s)(z:s.i.length<=1000000/\s.f.length<=1000000/\s.t.length<=1000000):
 zX 33 #[s.val b c a] w (.bool (tf (s=fe))):=by
 rw[ZL];obtain⟨⟨F,C,rfl,y,q,-⟩,⟨E,B,rfl,x,p,-⟩,⟨D,A,rfl,v,n,-⟩⟩:=h;unfold maxLen at q p n;unfold RS.val;generalize s.dL=l;generalize s.dS=k;generalize s.dW=j;generalize s.i.length=g at*
 generalize s.f.length=d at*
 generalize s.t.length=r at*
 refine au fun R u=>?_;cases l<;>cases k<;>cases j
 all_goals
  go_enter func33,ntmps33
  go_wp2;exact u.o _ _ ⟨aP (by first|rfl|(simp[wrap64_id (show -9223372036854775808<=(g:Int)+d by omega) zo,wrap64_id (show -9223372036854775808<=(g:Int)+d+r by omega) zo,beq_eq_decide])),bY (zR _ _) _⟩
theorem jN:fB prog 48 35 18 272:=⟨underlying48,zo,by
 obtain⟨i,d,c,b,a⟩:=info_parts (P:=prog) (e:=35) (z:=.agg lZ) (size:=18) (bytes:=272) zk;exact⟨i,_,d,c,b,a,rfl⟩⟩
theorem qh:∀w,(zeroValue 35).run prog w=.ok (.agg lZ) w:=Tryz.zeroValue35
theorem Cq(u Z:zV)(c:St)(m:Mem)(n:Nat)(w:zW)(hm:m.az w)(J:gG (aY m n) m u c.1)(I:gM (aY m n) m Z c.2)(d':c.1.length+c.2.length<=1048576):
 zC 163 #[.agg #[u,Z]] w fun e w'=>∃r,e=.returned r/\zB w w'/\bD (aY (m.grow w w') n) (m.grow w w') r (bJ c):=by
 obtain⟨S,P,rfl,p1,q1,k1⟩:=J;obtain⟨Q,O,rfl,p2,q2,k2⟩:=I;unfold maxLen at q1 q2;have a:=(Own.start hm).al #[.slice S c.1.length P,.slice Q c.2.length O] 62;have HK:=zh (zi k1 k2);have s:=zh (a.fE 35 18);clear a k1 k2;have HE:=zh (show bJ c=c.1.map (·.2)++c.2.map (·.2) from rfl);generalize bJ c=SV at*
 generalize c.2=g at*
 generalize c.1=f at*
 refine au fun R hR=>?_
 go_enter func163,ntmps163
 go_wp2;refine aB [1,3,9,10,11] (fun q F E=>∃(i:Nat) (v:zV) (xs:List Value),i<=f.length/\q=f.length-i/\F=[.p w.heap.size,v,.slice S f.length P,.j (f.length:Int),.j (i:Int)]/\kK (aY m n) xs ((f.take i).map (·.2)) /\
  Own w m E m [.row v 35 18 i xs,.obj w.heap.size 62 #[.slice S f.length P,.slice Q g.length O]]) ?_ ?_
 .exact⟨_,0,_,[],zG _,rfl,rfl,.nil _,s.o⟩
 clear s;rintro X z q F E hX-⟨i,v,xs,hi,rfl,rfl,t,a⟩;simp[bz,lk];have g0:=a.av.obj.c 0;have g1:=a.av.obj.c 1;have gl:=a.av.obj.lt;by_cases hlt:i<f.length
 .obtain⟨b,off,rfl,H⟩:=HK.o.1 qdJ;obtain⟨x,y,D,C,B⟩:=(H i hlt).cells;have W:=bzu a.az (D 0 _ rfl);have L:=zh (fun j u hj=>azk a.az (D j u hj));have J:=fG C B;have I:=mM C B;have k:=t.push C B;rw[show(f.take i).map (·.2)++[f[i].2]=(f.take (i+1)).map (·.2)by rw[zH hlt,yI];rfl]at k;have hl:(dw f[i].2 x y).length=18:=rfl;have hl2:(qx f[i] x y).length=20:=rfl;have K:=zh (fun j u=>@qw f[i] x y j u);have HV:=zh k;generalize dw f[i].2 x y=N at*
  generalize qx f[i] x y=M at*
  have s:=zh (a.al RJ 82);clear a t k C B D H
  go_wp2_with (first
   |refine aj tu rfl (.tmp 13) rfl rfl M hl2 L.o ?_
   | refine aA tu rfl (.tmp 5) (.tmp 14) rfl (cs:=M.toArray) rfl rfl rfl qdT (fun u V=>I u V) s.o.obj ?_)
  intro T p A;have d:=s.o.aQ p A;have g0:=d.aR.obj.c 0;have g1:=d.aR.obj.c 1;have gl:=d.obj.lt;have Y:=zh (p.sub (o:=2) (cs:=N) fun j u hj=>by simpa using K.o j u hj);have HO1:=zh (d.tail.al N.toArray 35);clear s d p A L K
  go_wp2_with (first
   |refine aj ek rfl (.tmp 16) rfl rfl N hl Y.o ?_
   |refine fU jN ek qh rfl zo rfl (.tmp 17) rfl (cs:=N.toArray) rfl qdR ?_
   | (at_builtin;refine aU jN rfl (.tmp 15) (.tmp 18) rfl v i xs rfl HO1.o.av.row ⟨T.heap.size,0,none⟩ 1 1 N rfl hl qe4 J qdM zo ?_))
  exact qbd
 .obtain rfl:i=f.length:=zo;rw[yG]at t;have HV:=zh t;have s:=zh a;clear a t hX;go_wp2;refine aB [1,3,22,23,24] (fun q F E=>∃(i:Nat) (v:zV) (xs:List Value),i<=g.length/\q=g.length-i/\F=[.p w.heap.size,v,.slice Q g.length O,.j (g.length:Int),.j (i:Int)]/\kK (aY m n) xs (f.map (·.2)++(g.take i).map (·.2)) /\
   Own w m E m [.row v 35 18 (f.length+i) xs,.obj w.heap.size 62 #[.slice S f.length P,.slice Q g.length O]]) ?_ ?_
  .exact⟨_,0,_,xs,zG _,rfl,rfl,by simpa using HV.o,s.o⟩
  clear s HV g0 g1 gl;rintro X z q F E hX-⟨i,v,xs,hi,rfl,rfl,t,a⟩;simp[bz,lk];have g0:=a.av.obj.c 0;have g1:=a.av.obj.c 1;have gl:=a.av.obj.lt;by_cases hlt:i<g.length
  .obtain⟨b,off,rfl,H⟩:=HK.o.2 qdJ;obtain⟨U,x,y,G,D,C,B⟩:=(H i hlt).cells;have W:=bzu a.az (D 0 _ rfl);have L:=zh (fun j u hj=>azk a.az (D j u hj));have J:=fG C B;have I:=mK G C B;have k:=t.push C B;rw[show f.map (·.2)++(g.take i).map (·.2)++[g[i].2]=f.map (·.2)++(g.take (i+1)).map (·.2)by rw[zH hlt,yI,xD];rfl]at k;have hl:(dw g[i].2 x y).length=18:=rfl;have hl2:(nE g[i] U x y).length=19:=rfl;have K:=zh (fun j u=>@kQ g[i] U x y j u);have HV:=zh k;generalize dw g[i].2 x y=N at*
   generalize nE g[i] U x y=M at*
   have s:=zh (a.al RF 68);clear a t k C B D H G
   go_wp2_with (first
    |refine aj qB rfl (.tmp 26) rfl rfl M hl2 L.o ?_
    | refine aA qB rfl (.tmp 7) (.tmp 27) rfl (cs:=M.toArray) rfl rfl rfl qdT (fun u V=>I u V) s.o.obj ?_)
   intro T p A;have d:=s.o.aQ p A;have g0:=d.aR.obj.c 0;have g1:=d.aR.obj.c 1;have gl:=d.obj.lt;have Y:=zh (p.sub (o:=1) (cs:=N) fun j u hj=>by simpa using K.o j u hj);have HO1:=zh (d.tail.al N.toArray 35);clear s d p A L K
   go_wp2_with (first
    |refine aj ek rfl (.tmp 29) rfl rfl N hl Y.o ?_
    |refine fU jN ek qh rfl zo rfl (.tmp 30) rfl (cs:=N.toArray) rfl qdR ?_
    | (at_builtin;refine aU jN rfl (.tmp 28) (.tmp 31) rfl v (f.length+i) xs rfl HO1.o.av.row ⟨T.heap.size,0,none⟩ 1 1 N rfl hl qe4 J qdM zo ?_))
   exact qbd
  .obtain rfl:i=g.length:=zo;rw[yG]at t;have hr:=bD.GQ (m:=m.grow w E) (l:=SV) (by rw[HE.o,zL,xC,xC];exact a.row) (by rw[HE.o];exact t) a.free a.bP.done;have HF:=zh (zi a.aF hr);clear a t hX hr;exact qbj
end Cl
namespace Cl
open Go Go.RowKit Go.Proofs
theorem LM{α β:Type}(f:α->List β){l:List α}{i:Nat}(h:i<l.length):(l.take (i+1)).flatMap f=(l.take i).flatMap f++f l[i]:=by
 exact qco
theorem NW{α β:Type}(f:α->List β):∀(l:List α) (i:Nat),((l.take i).flatMap f).length<=(l.flatMap f).length
 |[],i=>by simp
 |x::l,0=>by simp
 |x::l,i+1=>by
  have:=NW f l i;simp only[List.take_succ_cons,xO,zL];omega
end Cl
namespace Cl
open Go Go.RowKit Go.Proofs Tryz
theorem Mw(z:Array Value)(n:Nat):(Builtin.zeroCells z n).size=n*z.size:=by simp[Builtin.zeroCells]
theorem czu:(prog.info? 35).map (fun i=>(i.zero,i.size,i.bytes))=some (some (.agg lZ),18,272):=by kernel_rfl
theorem YD{w0 w:zW}{m mk:Mem}{L:List bA}(h:Own w0 m w mk L)(n:Nat)(p:n<=1048576):
 zC 159 #[.slice none 0 0,.int .i64 n] w fun e w'=>∃a c,e=.returned (.slice a 0 c)/\Own w0 m w' mk (.row (.slice a 0 c) 35 18 0 []::L):=by
 by_cases l:n=0
 .subst l;refine Calls.mono (Any8.slices_Grow_room Tryz.azs none 0 0 0 w (zI _) zo zo zo) ?_;exact qhA
 .obtain⟨i,hi,g,o,hb⟩:=info_parts czu;refine Calls.mono (Any8.slices_Grow_grow Tryz.azs i (.agg lZ) hi g zo none 0 0 n [] w (zI _) zo qeK zo zS (fun _=>rfl) (fun a e=>by cases e)) ?_;rintro e w' ⟨rfl,rfl⟩;have q:=grownCap_ge w (0+n) 0 35;have j:=grownCap_le_maxLen w (0+n) 0 35 qdM;have d:=h.dr.al (([]:List Value).toArray++Builtin.zeroCells (Value.agg lZ).cells (0+n-0)++Builtin.zeroCells (Value.agg lZ).cells (grownCap w (0+n) 0 35-(0+n))) 35;refine⟨_,_,rfl,?_⟩;refine d.tail.cons (it:=.row _ _ _ _ _) ⟨rfl,.inr ⟨w.heap.size,grownCap w (0+n) 0 35,_,rfl,zG _,d.obj.get,zG _,j,?_,?_⟩⟩ (fun k hk=>d.ik _ (yF ..) k hk) (fun b f=>(yS.1 d.apart).1 b f)
  .simp only[Array.size_append,Mw,List.size_toArray,List.length_nil];have:(Value.agg lZ).cells.size=18:=rfl;rw[this];generalize grownCap w (0+n) 0 35=c at*
   omega
  .simp
def vV(xs:List (List Vd))(k:Nat):List Vd:=(xs.take k).flatten
theorem Mj(xs:List (List Vd))(k:Nat)(h:k<xs.length):vV xs (k+1)=vV xs k++xs[k]:=by
 unfold vV;rw[zH h,List.flatten_append];simp
theorem Jl(xs:List (List Vd))(k:Nat):(vV xs k).length<=(vV xs xs.length).length:=by
 unfold vV;rw[yG];have:xs=xs.take k++xs.drop k:=(List.take_append_drop k xs).symm
 conv=>rhs;rw[this]
 rw[List.flatten_append,zL];omega
theorem Rz(g c N:Nat)(xs:List (List Vd))(m:Mem)(w:zW)(hm:m.az w)(L:∀i (h:i<xs.length),∃u,m.cell g i=some u/\bD (aY m N) m u xs[i])(C:(vV xs xs.length).length<=1048576)(hn:xs.length<=1000000):
 zC 106 #[.slice (some ⟨g,0,none⟩) xs.length c] w fun e w'=>∃r,e=.returned r/\zB w w'/\bD (aY (m.grow w w') N) (m.grow w w') r (vV xs xs.length):=by
 have O:=zh L;clear L;refine au fun R hR=>?_
 go_enter func106,ntmps106
 go_wp2;refine aB [0,3,9,10,11] (fun n B A=>∃k:Nat,k<=xs.length/\n=xs.length-k/\B=[.slice (some ⟨g,0,none⟩) xs.length c,.j (vV xs k).length,.slice (some ⟨g,0,none⟩) xs.length c,.j xs.length,.j k] /\
  Own w m A m []) ?_ ?_
 .exact⟨_,0,zG _,rfl,rfl,Own.start hm⟩
 rintro X z n B A hX-⟨k,hk,rfl,rfl,hO⟩;simp[bz,lk];have b':=Jl xs k;by_cases s:k<xs.length
 .obtain⟨u,x,H⟩:=O.o k s;have Y:=azk hO.az x;have W:=bzu hO.az x;obtain⟨a,uc,rfl,-⟩:=H;have b:=congrArg List.length (Mj xs k s);rw[zL]at b;have j:=Jl xs (k+1);have HO:=zh hO;have Hst:=zh b;have hb:(vV xs k).length+xs[k].length<=1048576:=zo;generalize (vV xs k).length=T at*
  generalize xs[k].length=N at*
  clear x hO b j;exact qcQ
 .obtain rfl:k=xs.length:=zo;have P:=zh (YD hO (vV xs xs.length).length C);clear hO hX
  go_wp2_with fail
  refine P.o.mono ?_;rintro e w2 ⟨a,d,rfl,hO⟩;have HO:=zh hO;clear P hO;go_wp2;refine aB [6,25,26,27] (fun n B A=>∃(k:Nat) (v:zV) (F:List Value),k<=xs.length/\n=xs.length-k/\B=[v,.slice (some ⟨g,0,none⟩) xs.length c,.j xs.length,.j k]/\kK (aY m N) F (vV xs k) /\
   Own w m A m [.row v 35 18 (vV xs k).length F]) ?_ ?_
  .exact⟨_,0,_,[],zG _,rfl,rfl,.nil _,HO.o⟩
  clear HO;rintro X z n B A hX-⟨k,v,F,hk,rfl,rfl,I,hO⟩;simp[bz,lk];obtain⟨va,U,rfl⟩:=bv hO.row;by_cases s:k<xs.length
  .obtain⟨u,x,H⟩:=O.o k s;have Y:=azk hO.az x;have W:=bzu hO.az x;obtain⟨ad,cc,Q,rfl,-,-,G,J,D⟩:=H.seg;have b:=Mj xs k s;have j:=Jl xs (k+1);rw[b,zL]at j;have t:=I.append G;rw[<-b]at t;have Z:=G.one_cell;have ly:=G.len;have HN:=zh (D _ hO.az);have Hst:=zh (congrArg List.length b);have HR:=zh t;rw[zL]at Hst;clear b I t G x D H;generalize (vV xs k).length=M at*
   generalize xs[k].length=q at*
   go_wp2_with (at_builtin;refine nG jN rfl (.tmp 31) (.tmp 32) rfl (.slice va M U) M F rfl hO.row ad q cc Q rfl ly J HN.o Z qdM zo ?_)
   intro V S w7 p f l;have y:=hO.app p f l (zI _);rw[<-Hst.o]at y;have K:=zh y;clear y hO p f l;go_wp2;refine hX.o _ _ _ zo rfl ⟨k+1,_,_,zo,rfl,?_,HR.o,K.o⟩;rw[Hst.o];rfl
  .obtain rfl:k=xs.length:=zo;have hfin:=bD.GQ (m:=m.grow w A) hO.row I hO.free hO.bP.done;have E:=zh qgd;clear hO I hfin;go_wp2;exact hR.o _ _ ⟨_,rfl,E.o⟩
theorem kD(u d:zV)(c:Lc)(m:Mem)(n:Nat)(w:zW)(v:m.az w)(s:bD (aY m n) m u c.1)(q:bD (aY m n) m d c.2)(p:c.1.length+c.2.length<=1048576):
 zC 68 #[.agg #[u,d]] w fun e w'=>∃r,e=.returned r/\zB w w'/\bD (aY (m.grow w w') n) (m.grow w w') r (aX c):=by
 have g:=((Own.start v).al #[u,d] 50).al #[u,d] 48;simp only[bB]at g;have f:=g.iC;have a:=dz9 g.j6 (w:=(w.alloc (.cells #[u,d] 50)).alloc (.cells #[u,d] 48));have k:=Rz (w.heap.size+1) 2 n [c.1,c.2] _ _ f.az (fun i hi=>by
  match i,hi with
  |0,_=>exact⟨u,bzy g.obj rfl,s.le a fun _ _ h=>h.le a⟩
  | 1,_=>exact⟨d,bzy g.obj rfl,q.le a fun _ _ h=>h.le a⟩) (by simp[vV];omega) zS
 rw[show vV [c.1,c.2] ([c.1,c.2]:List (List Vd)).length=aX c by simp[vV,aX]]at k;have k:=zh k;have t:=zh f;obtain⟨B,z,rfl,-⟩:=s;obtain⟨A,y,rfl,-⟩:=q;clear g f a;refine au fun R hR=>?_
 go_enter func68,ntmps68
 go_wp2_with fail
 refine k.o.mono ?_;rintro e x ⟨r,rfl,j,l⟩;have b:=t.o.call j;have HF:=zh (zi b.aF (l.le b.done fun _ _ h=>h.le b.done));clear k t j l b;exact qbj
theorem FE(v:Vl)(s:Sl)(m:Mem)(n:Nat)(w:zW)(hm:m.az w)(O:aY m (n+1) s v)(H:v.kids.length<=1048576):
 zC 120 #[v.val s] w fun e w'=>∃r,e=.returned r/\zB w w'/\bD (aY (m.grow w w') n) (m.grow w w') r v.kids:=by
 have hO:=(Own.start hm).al (aZ v s).toArray 33;have i':=O.2;have H7:(aZ v s).toArray[7]?=some s.l:=rfl;have Y:(aZ v s).toArray[8]?=some s.s:=rfl;obtain⟨a1,b1,a2,b2,a3,b3,a4,b4,a5,b5,rfl,-,-,-,q4,q5⟩:=O.dm;obtain⟨⟨z1,y1,e1,-,-,k1⟩,⟨z2,y2,e2,-,-,k2⟩⟩:=i';simp only[Value.slice.injEq]at e1 e2;obtain⟨rfl,-,rfl⟩:=e1;obtain⟨rfl,-,rfl⟩:=e2;simp only at H7 Y;have H7:=zh H7;have Y:=zh Y;unfold maxLen at q4 q5;unfold Vl.val;have HE:=zh (show v.kids=v.aJ.flatMap aX++v.ay.flatMap bJ from rfl);generalize (aZ v _).toArray=N at*
 generalize v.kids=KD at*
 generalize v.aJ=a at*
 generalize v.ay=c at*
 have HK:=zh (zi k1 k2);have x:=zh (hO.fE 35 18);have HL:=zh (show(a.flatMap aX).length+(c.flatMap bJ).length<=1048576 by have:=H;rw[HE.o,zL]at this;exact this);clear hO k1 k2 O H;refine au fun R hR=>?_
 go_enter func120,ntmps120
 go_wp2;refine aB [1,3,9,10,11] (fun q S M=>∃(i:Nat) (r:zV) (xs:List Value) (mk:Mem),i<=a.length/\q=a.length-i/\S=[.p w.heap.size,r,.slice a4 a.length b4,.j (a.length:Int),.j (i:Int)]/\kK (aY mk n) xs ((a.take i).flatMap aX) /\
  Own w m M mk [.row r 35 18 ((a.take i).flatMap aX).length xs,.obj w.heap.size 33 N]) ?_ ?_
 .exact⟨_,0,_,[],m,zG _,rfl,rfl,.nil _,x.o⟩
 clear x;rintro X z q S M V-⟨i,r,xs,mk,hi,rfl,rfl,C,hO⟩;simp[bz,lk];have g7:=hO.av.obj.cell H7.o;have g8:=hO.av.obj.cell Y.o;have Z:=hO.av.obj.lt;by_cases hlt:i<a.length
 .obtain⟨b,off,rfl,W⟩:=HK.o.1 qdJ;obtain⟨u,U,hu,A,Q,P⟩:=W i hlt;have c1:=azk hO.az qiA;have c2:=azk hO.az (bzv hO.ext.le A);have cl:=bzu hO.az qiA;have f:=LM aX hlt;have J:=NW aX a (i+1);rw[f,zL]at J;have I:(aX a[i]).length=a[i].1.length+a[i].2.length:=by rw[aX,zL]
  have hO:=hO.al' (.cells #[u,U] 50);have HF:=zh (kD u U a[i] mk n _ hO.az (Q.le hO.ext.le fun _ _ h=>h.le hO.ext.le) (P.le hO.ext.le fun _ _ h=>h.le hO.ext.le) qeU);have k:=zh (zi C f);have x:=zh hO;obtain⟨ua,uc,rfl,-⟩:=Q;obtain⟨f',e',rfl,-⟩:=P;clear hO C W hu A f I
  go_wp2_with fail
  refine HF.o.mono ?_;rintro e w1 ⟨r1,rfl,F,y⟩;have j:=x.o.call F;obtain⟨ad,cc,ys,rfl,-,-,G,hn,hk⟩:=y.seg;have d:=(k.o.1.mono fun _ _ h=>h.le (bzx x.o.az)).append G;rw[<-k.o.2]at d;have K:=zh d;have o1:=G.one_cell;have ly:=G.len;have HN:=zh (hk w1 j.az);have p:=zh j;have k:=zh (congrArg List.length k.o.2);clear j x HF F y G hk d c1 c2 cl g7 g8 Z;rw[zL]at k;generalize ((a.take i).flatMap aX).length=t at*
  go_wp2_with (at_builtin;refine nG jN rfl (.tmp 15) (.tmp 17) rfl r t xs rfl p.o.row ad (aX a[i]).length cc ys rfl ly hn HN.o o1 (by have:=HL.o;unfold maxLen;omega) qeU ?_)
  intro va vc w2 D E B;have g:=p.o.app D E B (zI _);rw[<-k.o]at g;have L:=zh g;clear p D E B g;go_wp2;refine V.o _ _ _ zo rfl ⟨i+1,_,_,_,zo,rfl,?_,K.o,L.o⟩;rw[k.o];rfl
 .obtain rfl:i=a.length:=zo;rw[yG]at C hO;obtain⟨T,hT⟩:∃T,T=(a.flatMap aX).length:=⟨_,rfl⟩;rw[<-hT]at hO;have HT:=zh hT;clear hT;have HV:=zh C;have x:=zh hO;clear hO C V;go_wp2;refine aB [1,3,21,22,23] (fun q S M=>∃(i:Nat) (r:zV) (xs:List Value) (mk:Mem),i<=c.length/\q=c.length-i/\S=[.p w.heap.size,r,.slice a5 c.length b5,.j (c.length:Int),.j (i:Int)]/\kK (aY mk n) xs (a.flatMap aX++(c.take i).flatMap bJ) /\
   Own w m M mk [.row r 35 18 (T+((c.take i).flatMap bJ).length) xs,.obj w.heap.size 33 N]) ?_ ?_
  .exact⟨_,0,_,xs,mk,zG _,rfl,rfl,by simpa using HV.o,x.o⟩
  clear x HV g7 g8 Z;rintro X z q S M V-⟨i,r,xs,mk,hi,rfl,rfl,C,hO⟩;simp[bz,lk];have g7:=hO.av.obj.cell Y.o;have Z:=hO.av.obj.lt;by_cases hlt:i<c.length
  .obtain⟨b,off,rfl,W⟩:=HK.o.2 qdJ;obtain⟨u,U,hu,A,Q,P⟩:=W i hlt;have c1:=azk hO.az qiA;have c2:=azk hO.az (bzv hO.ext.le A);have cl:=bzu hO.az qiA;have f:=LM bJ hlt;have J:=NW bJ c (i+1);rw[f,zL]at J;have I:(bJ c[i]).length=c[i].1.length+c[i].2.length:=by rw[bJ,zL,xC,xC]
   have hO:=hO.al' (.cells #[u,U] 62);have HF:=zh (Cq u U c[i] mk n _ hO.az (Q.le hO.ext.le fun _ _ h=>h.le hO.ext.le) (P.le hO.ext.le fun _ _ h=>h.le hO.ext.le) qeU);have k:=zh (zi C f);have x:=zh hO;obtain⟨ua,uc,rfl,-⟩:=Q;obtain⟨f',e',rfl,-⟩:=P;clear hO C W hu A f I
   go_wp2_with fail
   refine HF.o.mono ?_;rintro e w1 ⟨r1,rfl,F,y⟩;have j:=x.o.call F;obtain⟨ad,cc,ys,rfl,-,-,G,hn,hk⟩:=y.seg;have d:=(k.o.1.mono fun _ _ h=>h.le (bzx x.o.az)).append G;rw[xD,<-k.o.2]at d;have K:=zh d;have o1:=G.one_cell;have ly:=G.len;have HN:=zh (hk w1 j.az);have p:=zh j;have k:=zh (congrArg List.length k.o.2);clear j x HF F y G hk d c1 c2 cl g7 Z;rw[zL]at k;generalize ((c.take i).flatMap bJ).length=t at*
   go_wp2_with (at_builtin;refine nG jN rfl (.tmp 27) (.tmp 29) rfl r (T+t) xs rfl p.o.row ad (bJ c[i]).length cc ys rfl ly hn HN.o o1 (by have:=HL.o;have:=HT.o;unfold maxLen;omega) (by have:=HL.o;have:=HT.o;omega) ?_)
   intro va vc w2 D E B;have g:=p.o.app D E B (zI _);rw[Nat.add_assoc,<-k.o]at g;have L:=zh g;clear p D E B g;go_wp2;refine V.o _ _ _ zo rfl ⟨i+1,_,_,_,zo,rfl,?_,K.o,L.o⟩;rw[k.o,<-Nat.add_assoc];rfl
  .obtain rfl:i=c.length:=zo;rw[yG]at C hO;have O:=bD.GQ (m:=m.grow w M) (l:=KD) (by rw[HE.o,zL,<-HT.o];exact hO.row) (by rw[HE.o];exact C) hO.free hO.bP.done;have HF:=zh (zi hO.aF O);clear hO C V O;exact qbj
end Cl
namespace Cl
open Go Go.RowKit Go.Proofs
theorem JK.all{p:Nat}{a c:Int}(h:JK p a c):bzs p a c:=⟨h.le,h.gt,h.pos,h.top⟩
def Df(n:Nat)(l:List Vd)(i:Nat):Nat:=1+((l.take i).map fun x=>di n x.1+di n x.2).sum
theorem Yf(n:Nat)(l:List Vd)(i:Nat)(h:i<l.length):Df n l (i+1)=Df n l i+(di n l[i].1+di n l[i].2):=by
 unfold Df;rw[zH h,yI,List.sum_append];simp;omega
theorem VU(n:Nat):∀(l:List Vd) (i:Nat),Df n l i<=Df n l l.length
 |[],i=>by simp[Df]
 |x::l,0=>by simp[Df]
 |x::l,i+1=>by
  have:=VU n l i;unfold Df at*
  simp only[List.take_succ_cons,yO,yL,vG,yG]at*;omega
theorem azT(n:Nat)(v:Vl):Df n v.kids v.kids.length=di (n+1) v:=by unfold Df;rw[yG,di]
theorem Qo{n:Nat}{v:Vl}(h:Ht (n+1) v):v.kids.length+1<=di (n+1) v:=by
 rw[di];have:∀l:List Vd,(∀x∈l,Ht n x.1/\Ht n x.2)->l.length<=(l.map fun x=>di n x.1+di n x.2).sum:=by
  intro l
  induction l with
  |nil=>intro _;simp
  |cons x l ih=>
   intro a;have b:=Gn (a x zS).1;have:=ih fun y hy=>a y qef;simp only[yL,vG,yO];omega
 have:=this v.kids h;omega
end Cl
namespace Cl
open Go Go.RowKit Go.Proofs Tryz
attribute [local go_sem] Oper.semAt_some
def sU(mk:Mem)(v:zV)(u:List UInt8):Prop:=
 (u=[]/\v=.n)\/(u≠[]/\∃g c,v=.slice (some ⟨g,0,none⟩) u.length c/\u.length<=c/\c<=maxLen/\∀i,(h:i<u.length)->mk.cell g i=some (.int .u8 (u[i]).toNat))
theorem sU.le{mk mk':Mem}{v:zV}{u:List UInt8}(h:sU mk v u)(a:mk.le mk'):sU mk' v u:=by
 rcases h with h|⟨j,g,c,f,e,d,b⟩
 .exact .inl h
 .exact .inr ⟨j,g,c,f,e,d,fun i hi=>bzv a (b i hi)⟩
theorem strOfNums_bytes(u:List UInt8):strOfNums (u.map fun b=>(b.toNat:Int))=⟨u.toArray⟩:=by
 unfold strOfNums
 congr 1
 rw[vE]
 congr 1
 conv=>rhs;rw[<-List.map_id u]
 apply xZ;intro b _;simp
theorem FJ{mk:Mem}{w:zW}{v:zV}{u:List UInt8}(h:sU mk v u)(a:mk.az w):(convert 245 9 v).run prog w=.ok (.string ⟨u.toArray⟩) w:=by
 rcases h with⟨rfl,rfl⟩|⟨j,g,c,rfl,f,e,d⟩
 .exact run_convert_bytes_nil w 245 5 underlying245 underlying5 0 0 _ underlying9
 .have:=run_convert_bytes_arg w 245 5 underlying245 underlying5 g 0 u.length c (u.map fun b=>(b.toNat:Int)) zS (fun i hi=>by
   rw[yZ,azk a (d i hi)];simp[List.getD,hi]) _ underlying9
  rw[this,strOfNums_bytes]
structure JC (T:aK) (l:Nat) (w0:zW) (m mk0:Mem) (B Bx:List (List UInt8)->List bA->Prop) (Lr:List bA) (gy ga gt gv tb qm ctab:Nat) (va:zV):Prop where
 yield:Dq prog l (fun x:List UInt8=>#[Value.string ⟨x.toArray⟩]) w0 m mk0 B Bx
 cy:mk0.cell gy 0=some (.func (.yield l) #[] #[])
 ca:mk0.cell ga 0=some va
 ct:mk0.cell gt 0=some (.slice (some ⟨tb,0,none⟩) qm ctab)
 cv:mk0.cell gv 0=some (.func (.func 254) #[] #[.pointer (some ⟨gy,0,none⟩),.pointer (some ⟨ga,0,none⟩),.pointer (some ⟨gt,0,none⟩),.pointer (some ⟨gv,0,none⟩)])
 tab:aV mk0 va T
 rows:∀W mk Lt,Own w0 m W mk (Lt++Lr)->∀i,i<qm->∃u,W.cell? ⟨tb,i,none⟩=some u/\jK mk0 u (d9 T i)
 qm:qm<=maxLen
def UT(w0:zW)(m mk:Mem)(B Bx:List (List UInt8)->List bA->Prop)(Lr:List bA)(a c:List (List UInt8))(e:Ending)(d:zW):Prop:=
 (e=.returned (.bool true)/\∃mk' b,B (a++c) b/\Own w0 m d mk' (b++Lr)/\mk.le mk') \/
 (e=.returned (.bool false)/\∃q mk' b,q≠[]/\q <+: c/\Bx (a++q) b/\Own w0 m d mk' (b++Lr)/\mk.le mk')
theorem RX{T:aK}{l:Nat}{w0:zW}{m mk0:Mem}{B Bx:List (List UInt8)->List bA->Prop}{Lr:List bA}{y C A z tb qm ctab:Nat}{va:zV}(k:JC T l w0 m mk0 B Bx Lr y C A z tb qm ctab va)
(s:Nat)(u:List UInt8)(r:zV)(b:List (List UInt8))(mk:Mem)(W:zW)(q:List bA)(a:mk0.le mk)(v:sU mk r u)(x:B b q)(g:Own w0 m W mk (q++Lr)):
 zC 254 #[.int .i64 s,.int .i64 0,r,.pointer (some ⟨y,0,none⟩),.pointer (some ⟨C,0,none⟩),.pointer (some ⟨A,0,none⟩),.pointer (some ⟨z,0,none⟩)] W (UT w0 m mk B Bx Lr b [u]):=by
 have E:=azk g.az (bzv a k.cy);have w:=bzu g.az (bzv a k.cy);have F:=FJ v g.az;obtain⟨I,t,p,D,H,G⟩:=k.yield b u W mk q Lr x g a;refine au fun R f=>?_;clear g x v k a
 go_enter func254,ntmps254
 refine(wpIn_wide (n:=0)).1 ?_
 gi_wp2
 refine⟨rfl,G.mono ?_⟩;rintro e J (⟨rfl,mk',c,j,i,h⟩|⟨rfl,mk',c,j,i,h⟩)
 .have d:=zh (zi j (zi i h));clear j i h
  gi_wp2
  exact f.o _ _ (.inl ⟨rfl,mk',c,d.o.1,d.o.2.1,d.o.2.2⟩)
 .have d:=zh (zi j (zi i h));clear j i h
  gi_wp2
  exact f.o _ _ (.inr ⟨rfl,[u],mk',c,zS,List.prefix_refl _,d.o.1,d.o.2.1,d.o.2.2⟩)
theorem bzF:fB prog 245 5 1 1:=⟨underlying245,zo,by
 obtain⟨i,d,c,b,a⟩:=info_parts (P:=prog) (e:=5) (z:=.int .u8 0) (size:=1) (bytes:=1) zk;exact⟨i,_,d,c,b,a,rfl⟩⟩
def cutV(v:zV)(u:List UInt8):Value:=match v with
 |.slice a _ _=>.slice a u.length u.length
 |v=>v
theorem A7{w0 w:zW}{m mk:Mem}{L:List Cl.bA}{v:zV}{u:List UInt8}{c:Nat}(h:sU mk v u)(R:c<256)(D:Own w0 m w mk L)(s:Nat)(B:w.cell? ⟨s,0,none⟩=some (.int .u8 c))(Q:u.length<=4000000):
 ∃v' w' mk',(Builtin.append_ #[245,245] 245 #[cutV v u,.slice (some ⟨s,0,none⟩) 1 1]).run prog w=.ok v' w'/\Own w0 m w' mk' L/\mk.le mk'/\sU mk' v' (u++[UInt8.ofNat c]):=by
 have f:∀j x,[Value.int .u8 c][j]?=some x->w.cell? ((⟨s,0,none⟩:Addr).add j)=some x:=by
  intro j x k;rw[Addr.add_lit,yZ]
  cases j with
  |zero=>simp at k;rw[<-k];exact B
  |succ j=>simp at k
 have q:((UInt8.ofNat c).toNat:Int)=(c:Int):=by
  rw[UInt8.toNat_ofNat'];omega
 rcases h with⟨rfl,rfl⟩|⟨K,g,T,rfl,t,S,N⟩
 .have d:=D.fE 5 1;obtain⟨v',w',y,p,M,o⟩:=kX bzF w 245 (.n) 0 [] d.row ⟨s,0,none⟩ 1 1 [.int .u8 c] rfl f qdN (by simp[maxLen]) zS;have a:=d.app p M o (zI _);obtain⟨va,H,rfl⟩:=bv a.row;obtain⟨E,rfl⟩:=tO a.row zo;refine⟨_,w',mk.iA w' (.slice (some ⟨E,0,none⟩) (0+1) H),y,a.bP,czS a.free,.inr ⟨zS,E,H,rfl,?_,?_,fun i hi=>?_⟩⟩
  .rcases a.row.2 with⟨h,-⟩|⟨O,G,F,h,-,-,A,-⟩
   .cases h
   .injection h with h1 h2 t;subst t;simpa using A
  .rcases a.row.2 with⟨h,-⟩|⟨O,G,F,h,-,-,-,C,-⟩
   .cases h
   .injection h with h1 h2 t;subst t;exact C
  .obtain rfl:i=0:=by simp at hi;exact hi
   have:=eO a.row (g:=E) rfl mk (j:=0) (u:=.int .u8 c) rfl;rw[this];simp only[xN,xL];rw[q]
 .obtain⟨i,hi,J,I,hb⟩:=info_parts (P:=prog) (e:=5) (z:=.int .u8 0) (size:=1) (bytes:=1) zk;have l:∀j x,(u.map fun b=>Value.int .u8 b.toNat)[j]?=some x->w.cell? ((⟨g,0,none⟩:Addr).add j)=some x:=by
   intro j x k;rw[Addr.add_lit,yZ];have r:j<u.length:=by
    have:=(yB.1 k).1;exact qbe
   rw[azk D.az (N j r)];simp[r]at k;rw[<-k]
  have y:=run_append_grow (P:=prog) (w:=w) 245 245 5 i (.int .u8 0) underlying245 hi J ⟨g,0,none⟩ u.length u.length (u.map fun b=>Value.int .u8 b.toNat) (by simp[I]) l ⟨s,0,none⟩ 1 1 [.int .u8 c] (by simp[I]) f zo zo (growslice_fits zo qeK);have d:=D.dr.al ((u.map fun b=>Value.int .u8 b.toNat).toArray++[Value.int .u8 c].toArray++Builtin.zeroCells (Value.int .u8 0).cells (grownCap w (u.length+1) u.length 5-(u.length+1))) 5;have a:=d.iC;refine⟨_,_,mk.add _ w.heap.size,y,a,dz9 d.j6,.inr ⟨zS,w.heap.size,grownCap w (u.length+1) u.length 5,?_,?_,?_,fun j k=>?_⟩⟩
  .simp
  .simpa using grownCap_ge w _ _ _
  .exact grownCap_le_maxLen w _ _ _ qdM
  .refine bzy d.obj ?_;simp only[zL,yO,List.length_nil]at k;by_cases n:j<u.length
   .rw[Array.getElem?_append_left qdQ,Array.getElem?_append_left (by simpa using n)];simp[n,xM n]
   .obtain rfl:j=u.length:=zo;rw[Array.getElem?_append_left zS,Array.getElem?_append_right zS];simp;rw[<-q];simp
theorem wp_append_run{P:Program}{w w':zW}{o:Oper}{a:Act}{K:Act->World->Prop}{Q:Exit->Act->World->Prop}(s x:Operand)(t:TypeId)
(ho:o.op=.call { callee:=.builtin .append,args:=#[s,x],argTypes:=#[t,t] }){v v2 v':zV}(hs:a.eval s=v)(hx:a.eval x=v2)
(hr:(Builtin.append_ #[t,t] o.type #[v,v2]).run P w=.ok v' w')(h:K (a.put o.dst v') w'):o.wp P a w K Q:=by
 unfold Oper.wp execOp;simp only[ho,resolve,invoke,builtin,Sem.run_bind,Sem.run_pure,Result.andThen_ok,List.map_toArray,yL,xB,hs,hx,hr];exact h
def V6(T:aK)(w0:zW)(m mk0:Mem)(B Bx:List (List UInt8)->List bA->Prop)(Lr:List bA)(d g f e n:Nat):Prop:=
 ∀(s:Nat) (u:List UInt8) (b:zV) (a:List (List UInt8)) (mk:Mem) (W:zW) (c:List bA),s<T.length->uD T n s≠[]->u.length+n<=4000000->mk0.le mk->sU mk b u->B a c->Own w0 m W mk (c++Lr) ->
  zC 254 #[.int .i64 s,.int .i64 n,b,.pointer (some ⟨d,0,none⟩),.pointer (some ⟨g,0,none⟩),.pointer (some ⟨f,0,none⟩),.pointer (some ⟨e,0,none⟩)] W (UT w0 m mk B Bx Lr a ((uD T n s).map (u++·)))
theorem RU{T:aK}{l:Nat}{w0:zW}{m mk0:Mem}{B Bx:List (List UInt8)->List bA->Prop}{Lr:List bA}{d g f e tb qm ctab:Nat}{va:zV}(n:JC T l w0 m mk0 B Bx Lr d g f e tb qm ctab va):
 V6 T w0 m mk0 B Bx Lr d g f e 0:=by
 intro s u i b mk W p q a _ c j o k;have:uD T 0 (s:Int)=[[]]:=by
  unfold uD at a⊢
  split
  .rfl
  .rename_i h;rw[zJ h]at a;exact absurd rfl a
 rw[this];simpa using RX n s u i b mk W p c j o k
def Be(T:aK)(n:Nat)(u:List UInt8)(es:List Ed)(i:Nat)(e:Ed)(b:Nat):List (List UInt8):=(LX T n (es.take i)++VP T n e.to e.lo (b-e.lo)).map (u++·)
theorem Uu(T:aK)(n:Nat)(u:List UInt8)(es:List Ed)(i:Nat)(e:Ed)(b:Nat)(h:e.lo<=b):
 Be T n u es i e (b+1)=Be T n u es i e b++(uD T n e.to).map ((u++[UInt8.ofNat b])++·):=by
 unfold Be;rw[show b+1-e.lo=(b-e.lo)+1 by omega,azI,<-xD,yI,show e.lo+(b-e.lo)=b by omega]
 congr 1
 unfold Dj;rw[vE];apply xZ;intro x _;simp
theorem X8{T:aK}{n:Nat}{u:List UInt8}{es:List Ed}{i:Nat}(h:i<es.length){b:Nat}(e:b<=(es[i]).hi):Be T n u es i es[i] (b+1) <+: (LX T n es).map (u++·):=by
 unfold Be;have c:LX T n (es.take i)++VP T n (es[i]).to (es[i]).lo (b+1-(es[i]).lo) <+: LX T n es:=by
  have d:VP T n (es[i]).to (es[i]).lo (b+1-(es[i]).lo) <+: VP T n (es[i]).to (es[i]).lo ((es[i]).hi+1-(es[i]).lo):=by
   unfold VP;have:=List.range'_append_1 (s:=(es[i]).lo) (m:=b+1-(es[i]).lo) (n:=((es[i]).hi+1-(es[i]).lo)-(b+1-(es[i]).lo));rw[show(b+1-(es[i]).lo)+(((es[i]).hi+1-(es[i]).lo)-(b+1-(es[i]).lo))=(es[i]).hi+1-(es[i]).lo by omega]at this;rw[<-this,List.flatMap_append];exact qc8
  have a:LX T n (es.take (i+1)) <+: LX T n es:=by
   unfold LX
   conv=>rhs;rw[<-List.take_append_drop (i+1) es,List.flatMap_append]
   exact qc8
  rw[QK T n es h]at a;exact((List.prefix_append_right_inj _).2 d).trans a
 exact c.map _
theorem Uv{T:aK}{n:Nat}{u:List UInt8}{es:List Ed}{i:Nat}(h:i<es.length){b:Nat}(a:b=(es[i]).hi+1\/uD T n (es[i]).to=[]):Be T n u es i es[i] b=(LX T n (es.take (i+1))).map (u++·):=by
 unfold Be;rw[QK T n es h];rcases a with rfl|a
 .rfl
 .rw[Oe a,Oe a]
theorem RV{T:aK}{l:Nat}{w0:zW}{m mk0:Mem}{B Bx:List (List UInt8)->List bA->Prop}{Lr:List bA}{gy ga gt gv tb qm ctab:Nat}{va:zV}(hE:JC T l w0 m mk0 B Bx Lr gy ga gt gv tb qm ctab va)
(k':WF T)(s':Bytes T)(n:Nat)(hn:n<qm)(ih:V6 T w0 m mk0 B Bx Lr gy ga gt gv n):V6 T w0 m mk0 B Bx Lr gy ga gt gv (n+1):=by
 intro s u vp x mk W Lt hs _ hun p' hp hB hO;have W':=hE;have M:=bzw p' hO.az;have ha:=azk M hE.ca;have hal:=bzu M hE.ca;obtain⟨aa,ac,rfl,a1,a2,a3⟩:=hE.tab;obtain⟨ab,ao,rfl,a4⟩:=a3 qei;obtain⟨-,ve,s2,ea,ec,rfl,g4,g5,g6⟩:=a4 s hs;have s2w:=azk M s2;have s2l:=bzu M s2;have Hex:=zh (Vb k' s' hs n);have f':=k' T[s] (zF hs);have i':=s' T[s] (zF hs);generalize T[s].bu=es at*
 have HW:=zh (zi f' i');have HE:=zh W';have HIH:=zh ih;have HO:=zh (zi hO hB);have Hle:=zh p';have Hp:=zh hp;unfold maxLen at a2 g5;have hdec:((n:Int)+1==0)=false:=zO.2 zo;rw[Hex.o];refine au fun R hR=>?_;clear hE W' ih hO hB p' a3 a4 f' i' M s2 hp k' s';rw[show((n+1:Nat):Int)=(n:Int)+1 by omega]
 go_enter func254,ntmps254
 go_wp2;refine aB [0,1,2,3,4,5,6,25,26,27] (fun q G W1=>∃(i:Nat) (j:Mem) (U:List bA),i<=es.length/\q=es.length-i /\
  G=[.j s,.j ((n:Int)+1),vp,.p gy,.p ga,.p gt,.p gv,.slice ea es.length ec,.j es.length,.j i] /\
  mk.le j/\B (x++(LX T n (es.take i)).map (u++·)) U/\Own w0 m W1 j (U++Lr)) ?_ ?_
 .exact⟨_,0,mk,Lt,zG _,rfl,rfl,Mem.le_refl _,by simpa [LX]using HO.o.2,HO.o.1⟩
 clear HO s2w s2l ha hal;rintro X z q G W1 hX-⟨i,j,U,hi,rfl,rfl,v,A,Q⟩;simp[bz,lk];have L:=bzw (Mem.le_trans Hle.o v) Q.az;by_cases hlt:i<es.length
 .obtain⟨eb,eo,rfl,g7⟩:=g6 qdJ;obtain⟨e1,e2,e3,e4,e5,e6⟩:=g7 i hlt;have e1w:=azk L e1;have e2w:=azk L e2;have e3w:=azk L e3;have el:=bzu L e1;have hlh:=lJ HW.o.1 es[i] (zF hlt);have HDp:=zh (fun b (hb:b<=(es[i]).hi)=>X8 (T:=T) (n:=n) (u:=u) hlt hb);have HDl:=zh (fun b (hx:b=(es[i]).hi+1\/uD T n (es[i]).to=[])=>Uv (T:=T) (n:=n) (u:=u) hlt (b:=b) hx);have HDn:=zh (fun b (hb:(es[i]).lo<=b)=>Uu T n u es i es[i] b hb);have Y':Be T n u es i es[i] (es[i]).lo=(LX T n (es.take i)).map (u++·):=by
   unfold Be;rw[Nat.sub_self,azH,yR]
  rw[<-Y']at A;clear Y';generalize es[i]=e at*
  generalize hDD:Be T n u es i e=DD at*
  clear hDD;have y:=(Q.al #[.int .u8 e.lo,.int .u8 e.hi,.int .i64 e.to] 102);have p:=y.iC;have g':=Mem.le_trans v (dz9 (w:=W1.alloc (.cells #[.int .u8 e.lo,.int .u8 e.hi,.int .i64 e.to] 102)) y.j6);have x1:=bzy (m:=j) y.obj (i:=0) rfl;have x2:=bzy (m:=j) y.obj (i:=1) rfl;have x3:=bzy (m:=j) y.obj (i:=2) rfl;have Hk:=zh (zi p (zi g' A));obtain⟨t,ht⟩:=zT hlh.2.1;have n':t<T.length:=zo;have Ht:=zh ht;clear y p Q A g' ht L;go_wp2;generalize W1.heap.size=E at*
  generalize j.add (W1.alloc (.cells #[.int .u8 e.lo,.int .u8 e.hi,.int .i64 e.to] 102)) E=H' at*
  refine aB [0,1,2,3,4,5,6,12,13,25,26,27] (fun q G W2=>∃(b:Nat) (lH:Mem) (D:List bA),e.lo<=b/\b<=e.hi+1/\q=e.hi+1-b /\
   G=[.j s,.j ((n:Int)+1),vp,.p gy,.p ga,.p gt,.p gv,.p E,.j b,.slice (some ⟨eb,eo,none⟩) es.length ec,.j es.length,.j i] /\
   H'.le lH/\B (x++DD b) D/\Own w0 m W2 lH (D++Lr)) ?_ ?_
  .exact⟨_,e.lo,H',U,zI _,zo,rfl,rfl,Mem.le_refl _,Hk.o.2.2,Hk.o.1⟩
  clear e1w e2w e3w el;rintro Y z2 q G W2 hY-⟨b,lH,D,hb1,hb2,rfl,rfl,hle3,hB3,p⟩;simp[bz,lk];have k:=p.az;have y1:=azk k (bzv hle3 x1);have y2:=azk k (bzv hle3 x2);have y3:=azk k (bzv hle3 x3);simp only[List.getElem_toArray,List.getElem_cons_succ,xL]at y3;rw[Ht.o]at y3;have yl:=bzu k (bzv hle3 x1);have a:=Mem.le_trans (Mem.le_trans Hle.o Hk.o.2.1) hle3;have R':=azk k (bzv a HE.o.ct);have hctl:=bzu k (bzv a HE.o.ct);obtain⟨ur,I,ra,rc,rfl,r2,r3,r4⟩:=HE.o.rows _ _ _ p n hn;have q':=yt T n;obtain⟨rb,ro,rfl,r5⟩:=r4 (by intro h;rw[h]at q';simp at q';omega);have S':t<(d9 T n).length:=zo;have z1:=r5 t S';have j':=azk k (bzv a z1);have z1l:=bzu k (bzv a z1);have hurl:tb<W2.heap.size:=by
   simp only[World.cell?]at I
   split at I
   .rename_i hb;exact(yC.1 hb).1
   .cases I
  have Q':(d9 T n)[t]=true↔uD T n (t:Int)≠[]:=by
   have h1:=Di T n n';rw[yH S']at h1;rw[Option.some.inj h1];simp
  have Hcv:=zh Q';obtain⟨cb,r'⟩:∃cb,(d9 T n)[t]=cb:=⟨_,rfl⟩;rw[r']at j';have Hcb:=zh r';have hw1:IntKind.i64.wrap ((n:Int)+1-1)=(n:Int):=by rw[IntWalk.i64_in _ zo];omega
  have hcl2:T.length<=(d9 T n).length:=zo;have Hst:=zh (zi hB3 (zi p (zi hle3 a)));have hnt:=HE.o.qm;unfold maxLen at r3 hnt;generalize d9 T n=cl at*
  clear q' Q' r' z1 r4 r5 hB3 p a;go_wp2;refine aW [0,1,2,3,4,5,6,12,13,25,26,27,49] (fun G w'=>∃(S:Bool) (Z:Nat),G=[.j s,.j ((n:Int)+1),vp,.p gy,.p ga,.p gt,.p gv,.p E,.j b,.slice (some ⟨eb,eo,none⟩) es.length ec,.j es.length,.j i,.bool S] /\
   w'=W2.drewN Z/\(S=true->b<=e.hi/\uD T n (t:Int)≠[])/\(S=false->b=e.hi+1\/uD T n (t:Int)=[])) ?_ ?_
  .intro V hV;by_cases T':b<=e.hi
   .have hdb:decide ((b:Int)<=(e.hi:Int))=true:=zN zo;refine wp_region_quiet_lit zk zk ?_
    repeat (any_goals (first|go_big_quiet_step (fail)|quiet_step (fail)|(refine wpQuiet_step (fun K hK=>?_);go_simp;split<;>(refine hK _ ?_;clear hK K))))
    all_goals (refine wpQuiet_nil ?_;intro _ l';obtain⟨Z,H⟩:=l';subst H)
    all_goals go_wp2
    all_goals
     refine hV.o _ _ rfl ⟨cb,Z,rfl,rfl,fun h=>⟨T',Hcv.o.1 (Hcb.o.trans h)⟩,fun h=>.inr (zP fun hx=>?_)⟩;have:=Hcv.o.2 hx;rw[Hcb.o,h]at this;cases this
   .have hdb:decide ((b:Int)<=(e.hi:Int))=false:=zM zo;refine wp_region_quiet_lit zk zk ?_
    repeat (any_goals (first|go_big_quiet_step (fail)|quiet_step (fail)|(refine wpQuiet_step (fun K hK=>?_);go_simp;split<;>(refine hK _ ?_;clear hK K))))
    all_goals (refine wpQuiet_nil ?_;intro _ l';obtain⟨Z,H⟩:=l';subst H)
    all_goals go_wp2
    all_goals exact hV.o _ _ rfl ⟨false,Z,rfl,rfl,(fun h=>by cases h),fun _=>.inl zo⟩
  rintro z3 G w3-⟨S,Z,rfl,rfl,t',u'⟩;simp[bz,lk]
  cases S with
  |false=>
   have Hbf:=zh (u' rfl);clear t' u';go_wp2;refine hX.o _ _ _ zo rfl ⟨i+1,lH,D,zo,rfl,rfl,Mem.le_trans Hk.o.2.1 Hst.o.2.2.1,?_,Hst.o.2.1.FN Z⟩;rw[<-HDl.o b (by rw[Ht.o];exact Hbf.o)]
   exact Hst.o.1
  |true=>
   have d':=zh (t' rfl);clear t' u';go_wp2;refine aW [0,1,2,3,4,5,6,12,13,25,26,27,68] (fun G w'=>∃(S:Bool) (f:Mem) (C:List bA),G=[.j s,.j ((n:Int)+1),vp,.p gy,.p ga,.p gt,.p gv,.p E,.j b,.slice (some ⟨eb,eo,none⟩) es.length ec,.j es.length,.j i,.bool S] /\
    lH.le f/\Own w0 m w' f (C++Lr)/\(S=false->B (x++DD (b+1)) C)/\(S=true->∃qq,qq≠[]/\qq <+: (uD T n e.to).map ((u++[UInt8.ofNat b])++·)/\Bx ((x++DD b)++qq) C)) ?_ ?_
   .intro V hV;have hpp:=Hp.o.le (Mem.le_trans Hk.o.2.1 Hst.o.2.2.1);obtain⟨T',P'⟩:=d'.o;have hwu:IntKind.u8.wrap (b:Int)=(b:Int):=IntWalk.u8_in _ zo;have h':=fun w' (h:lH.az w')=>azk h (bzv Hst.o.2.2.2 HE.o.cv);have a':=fun w' (h:lH.az w')=>azk h (bzv hle3 x3);simp only[List.getElem_toArray,List.getElem_cons_succ,xL]at a';rw[Ht.o]at a';have hw2:IntKind.i64.wrap (n:Int)=(n:Int):=IntWalk.i64_in _ zo;have Hcvf:=zh h';have Hx3:=zh a';clear h' a';have I':u.length<=4000000:=zo;refine gV (fun _ w'=>lH.az w') zk ?_;have hO:=(Hst.o.2.1.FN Z).dr;have d:lH.az (W2.drewN Z).drew:=hO.az;have hxl:=bzu d (bzv hle3 x3);generalize (W2.drewN Z).drew=w4 at*
    rcases hpp with⟨hu,hv⟩|⟨hu,g,c,hv,hp3,O',N'⟩
    .subst hv;have o':sU lH (.n) u:=.inl ⟨hu,rfl⟩;have N:cutV (.n) u=.n:=by simp[cutV,hu]
     clear hu;refine bX 0 rfl zk qe7 d qio ?_;refine bX 1 rfl zk qe7 d qio ?_;refine bX 2 rfl zk qe7 d qio ?_;refine bX 3 rfl zk qe7 d qio ?_;refine bX 4 rfl zk qe7 d qio ?_;refine bX 5 rfl zk qe7 d qio ?_;refine bX 6 rfl zk qe7 d qio ?_;refine bX 7 rfl zk qe7 d qio ?_;refine bX 8 rfl zk qe7 d qio ?_;refine bX 9 rfl zk qe7 d qio ?_;refine bX 10 rfl zk qe7 d qio ?_;refine bX 11 rfl zk qe7 d qio ?_;refine bX 12 rfl zk qe7 d qio ?_;refine aO 13 zk (aM rfl rfl (aS qdK ⟨.inr (hO.al #[.int .u8 b] 5).az,?_⟩));go_simp;have P:=hO.al #[.int .u8 b] 5;obtain⟨v',w6,f,hr,O,hle7,J⟩:=A7 o' (by omega:b<256) P w4.heap.size (P.obj.c 0) I';rw[N]at hr;refine aO 14 zk (aM rfl rfl (wp_append_run (.tmp 62) (.tmp 65) 245 rfl rfl rfl hr ⟨.inr (bzw hle7 O.az),?_⟩));go_simp;have y':=HIH.o t (u++[UInt8.ofNat b]) v' (x++DD b) f w6 D n' P' qdQ (Mem.le_trans Hst.o.2.2.2 hle7) J Hst.o.1 (O.perm (List.Perm.refl _)).tail;refine aO 15 zk (aM rfl rfl (fP qeb y' ?_));rintro e' w7 (⟨rfl,mk5,Lt5,k1,k2,k3⟩|⟨rfl,qq,mk5,Lt5,k0,k1,k2,k3,k4⟩)
     .exact qii
     .exact qij
    .subst hv;have o':sU lH (.slice (some ⟨g,0,none⟩) u.length c) u:=.inr ⟨hu,g,c,rfl,hp3,O',N'⟩;have N:cutV (.slice (some ⟨g,0,none⟩) u.length c) u=.slice (some ⟨g,0,none⟩) u.length u.length:=rfl;have hu2:0<u.length:=yY.2 hu;unfold maxLen at O';clear hu N';refine bX 0 rfl zk qe7 d qio ?_;refine bX 1 rfl zk qe7 d qio ?_;refine bX 2 rfl zk qe7 d qio ?_;refine bX 3 rfl zk qe7 d qio ?_;refine bX 4 rfl zk qe7 d qio ?_;refine bX 5 rfl zk qe7 d qio ?_;refine bX 6 rfl zk qe7 d qio ?_;refine bX 7 rfl zk qe7 d qio ?_;refine bX 8 rfl zk qe7 d qio ?_;refine bX 9 rfl zk qe7 d qio ?_;refine bX 10 rfl zk qe7 d qio ?_;refine bX 11 rfl zk qe7 d qio ?_;refine bX 12 rfl zk qe7 d qio ?_;refine aO 13 zk (aM rfl rfl (aS qdK ⟨.inr (hO.al #[.int .u8 b] 5).az,?_⟩));go_simp;have P:=hO.al #[.int .u8 b] 5;obtain⟨v',w6,f,hr,O,hle7,J⟩:=A7 o' (by omega:b<256) P w4.heap.size (P.obj.c 0) I';rw[N]at hr;refine aO 14 zk (aM rfl rfl (wp_append_run (.tmp 62) (.tmp 65) 245 rfl rfl rfl hr ⟨.inr (bzw hle7 O.az),?_⟩));go_simp;have y':=HIH.o t (u++[UInt8.ofNat b]) v' (x++DD b) f w6 D n' P' qdQ (Mem.le_trans Hst.o.2.2.2 hle7) J Hst.o.1 (O.perm (List.Perm.refl _)).tail;refine aO 15 zk (aM rfl rfl (fP qeb y' ?_));rintro e' w7 (⟨rfl,mk5,Lt5,k1,k2,k3⟩|⟨rfl,qq,mk5,Lt5,k0,k1,k2,k3,k4⟩)
     .exact qii
     .exact qij
   rintro z5 G w5-⟨S,f,C,rfl,r,b',z',x'⟩;simp[bz,lk]
   cases S with
   |true=>
    obtain⟨qq,M',L',K'⟩:=x' rfl;have F:=zh (zi M' (zi L' (zi K' (zi b' r))));clear x' z' M' L' K' b' r y1 y2 y3 R' j' I;go_wp2;refine hR.o _ _ (.inr ⟨rfl,DD b++qq,f,C,?_,?_,?_,F.o.2.2.2.1,Mem.le_trans (Mem.le_trans Hk.o.2.1 Hst.o.2.2.1) F.o.2.2.2.2⟩)
    .intro h;exact F.o.1 (List.append_eq_nil_iff.1 h).2
    .have h1:=HDp.o b d'.o.1;rw[HDn.o b hb1]at h1;exact((List.prefix_append_right_inj _).2 F.o.2.1).trans h1
    .rw[<-xD];exact F.o.2.2.1
   |false=>
    have Z':=z' rfl;have F:=zh (zi Z' (zi b' r));clear x' z' Z' b' r y1 y2 y3 R' j' I;go_wp2;exact hY.o _ _ _ (by have:=d'.o.1;omega) rfl ⟨b+1,f,C,zo,by have:=d'.o.1;omega,rfl,rfl,Mem.le_trans Hst.o.2.2.1 F.o.2.2,F.o.1,F.o.2.1⟩
 .obtain rfl:i=es.length:=zo;rw[yG]at A;have F:=zh (zi A (zi Q v));clear A Q v;go_wp2;exact hR.o _ _ (.inl ⟨rfl,j,U,F.o.1,F.o.2.1,F.o.2.2⟩)
theorem Ku{T:aK}{l:Nat}{w0:zW}{m mk0:Mem}{B Bx:List (List UInt8)->List bA->Prop}{Lr:List bA}{d g f e tb qm ctab:Nat}{va:zV}(c:JC T l w0 m mk0 B Bx Lr d g f e tb qm ctab va)
(a:WF T)(b:Bytes T):∀n,n<=qm->V6 T w0 m mk0 B Bx Lr d g f e n
 |0,_=>RU c
 |n+1,h=>RV c a b n h (Ku c a b n zo)
theorem Own.AY{w0 w:zW}{m mk:Mem}{L:List Cl.bA}{g:Nat}{t:TypeId}{v:zV}(h:Own w0 m w mk (.obj g t #[v]::L)):∃mk',Own w0 m w mk' L/\mk.le mk'/\mk'.cell g 0=some v:=
 ⟨_,h.iC,dz9 h.j6,bzy h.obj rfl⟩
theorem Zp{T:aK}{l:Nat}{w0:zW}{m mk0:Mem}{B Bx:List (List UInt8)->List bA->Prop}{Lr:List bA}{tb n ctab clast qm:Nat}{va:zV}(F:WF T)(J:Bytes T)
(hY:Dq prog l (fun x:List UInt8=>#[Value.string ⟨x.toArray⟩]) w0 m mk0 B Bx)(j:aV mk0 va T)(r:0<T.length)(H:qm<=maxLen)(hn:n<qm)(K':n<=4000000)(_:clast<=maxLen)
(d:∀W mk C,Own w0 m W mk (C++Lr)->∀i,i<qm->∃u,W.cell? ⟨tb,i,none⟩=some u/\jK mk0 u (d9 T i))
(e:List (List UInt8))(mk:Mem)(W:zW)(C:List bA)(b:mk0.le mk)(hB:B e C)(O:Own w0 m W mk (C++Lr)):
 zC 194 #[.agg #[va],.slice (some ⟨tb,n,none⟩) 1 clast,.int .i64 n,.func (.yield l) #[] #[],.slice (some ⟨tb,0,none⟩) qm ctab] W (UT w0 m mk B Bx Lr e (uD T n 0)):=by
 have y:=((O.al #[va] 27).al #[.func (.yield l) #[] #[]] 235).al #[.slice (some ⟨tb,0,none⟩) qm ctab] 236;have q:(W.alloc (.cells #[va] 27)).heap.size=W.heap.size+1:=by simp
 have p:((W.alloc (.cells #[va] 27)).alloc (.cells #[.func (.yield l) #[] #[]] 235)).heap.size=W.heap.size+1+1:=by simp
 rw[p,q]at y;obtain⟨ur,t,hb⟩:=d W mk C O n hn;obtain⟨ra,rc,rfl,r2,r3,r4⟩:=hb;have f:=yt T n;obtain⟨V,ro,rfl,r5⟩:=r4 (by intro h;rw[h]at f;simp at f;omega);have h0:0<(d9 T n).length:=zo;have Q:=r5 0 h0;rw[Nat.add_zero]at Q;have U:=azk O.az (bzv b Q);have E':=bzu O.az (bzv b Q);have u':tb<W.heap.size:=by
  simp only[World.cell?]at t
  split at t
  .rename_i hb;exact(yC.1 hb).1
  .cases t
 have v:(d9 T n)[0]=true↔uD T n ((0:Nat):Int)≠[]:=by
  have D:=Di T n r;rw[yH h0]at D;rw[Option.some.inj D];simp
 obtain⟨cb,I⟩:∃cb,(d9 T n)[0]=cb:=⟨_,rfl⟩;rw[I]at U v;have v':0<(d9 T n).length:=h0;have G:=j;obtain⟨aa,ac,rfl,-⟩:=j;have a:=zh (zi y (zi hB (zi b (zi d (zi hY (zi G (zi F J)))))));have P:=zh v;unfold maxLen at r3 H;generalize d9 T n=cl at*
 clear y O hB b f v I Q r4 r5 q p d hY G F J;have b':tb<W.heap.size+1:=zo;have a':tb<W.heap.size+1+1:=zo;have Z:tb<W.heap.size+1+1+1:=zo;have n':V<W.heap.size+1:=zo;have m':V<W.heap.size+1+1:=zo;have l':V<W.heap.size+1+1+1:=zo;refine au fun R hR=>?_
 cases cb with
 |false=>
  go_enter func194,ntmps194
  go_wp2;have Y:uD T n 0=[]:=zP fun h=>by have:=P.o.2 h;cases this
  refine hR.o _ _ (.inl ⟨rfl,mk,C,by rw[Y,yR];exact a.o.2.1,?_,Mem.le_refl _⟩)
  exact a.o.1.tail.tail.tail
 |true=>
  have w:=(a.o.1.al #[.func (.func 254) #[] #[.pointer (some ⟨W.heap.size+1,0,none⟩),.pointer (some ⟨W.heap.size,0,none⟩),.pointer (some ⟨W.heap.size+1+1,0,none⟩),.pointer (some ⟨W.heap.size+1+1+1,0,none⟩)]] 297);have k:(((W.alloc (.cells #[.slice aa T.length ac] 27)).alloc (.cells #[.func (.yield l) #[] #[]] 235)).alloc (.cells #[.slice (some ⟨tb,0,none⟩) qm ctab] 236)).heap.size=W.heap.size+1+1+1:=by simp
  rw[k]at w;obtain⟨m1,N,l1,c1⟩:=w.AY;obtain⟨m2,M,X,c2⟩:=N.AY;obtain⟨m3,L,S,c3⟩:=M.AY;obtain⟨m4,K,E,c4⟩:=L.AY;have b:=a.o.2.2.1;have c:=Mem.le_trans (Mem.le_trans (Mem.le_trans l1 X) S) E;have hE:JC T l w0 m m4 B Bx Lr (W.heap.size+1) W.heap.size (W.heap.size+1+1) (W.heap.size+1+1+1) tb qm ctab (.slice aa T.length ac):=by
   refine⟨fun e x W' mk' A j' D h2 h3=>a.o.2.2.2.2.1 e x W' mk' A j' D h2 (Mem.le_trans (Mem.le_trans b c) h3),bzv E c3,c4,bzv (Mem.le_trans S E) c2,
    bzv (Mem.le_trans (Mem.le_trans X S) E) c1,bq (Mem.le_trans b c) a.o.2.2.2.2.2.1,fun W' mk' A h i hi=>?_,by unfold maxLen;exact H⟩
   obtain⟨u,D,h2⟩:=a.o.2.2.2.1 W' mk' A h i hi;exact⟨u,D,mV (Mem.le_trans b c) h2⟩
  have hV:=Ku hE a.o.2.2.2.2.2.2.1 a.o.2.2.2.2.2.2.2 n zo 0 [] (.n) e m4 _ C r (P.o.1 rfl) qdQ (Mem.le_refl _) (.inl ⟨rfl,rfl⟩) a.o.2.1 K;rw[show((0:Nat):Int)=(0:Int) from rfl]at hV;have HV:=zh (zi hV c);clear hV hE K L M N w c1 c2 c3 c4 l1 X S E b c k m1 m2 m3
  go_enter func194,ntmps194
  go_wp2_with fail
  refine HV.o.1.mono ?_;rintro e' w7 (⟨rfl,s,z,k1,k2,k3⟩|⟨rfl,qq,s,z,k0,k1,k2,k3,k4⟩)
  .have g:=zh qgi;clear k1 k2 k3;go_wp2;exact hR.o _ _ (.inl ⟨rfl,s,z,by simpa using g.o.1,g.o.2.1,Mem.le_trans HV.o.2 g.o.2.2⟩)
  .have g:=zh (zi k0 (zi k1 (zi k2 (zi k3 k4))));clear k0 k1 k2 k3 k4;go_wp2;exact hR.o _ _ (.inr ⟨rfl,qq,s,z,g.o.1,by simpa using g.o.2.1,g.o.2.2.1,g.o.2.2.2.1,Mem.le_trans HV.o.2 g.o.2.2.2.2⟩)
theorem set_mid{α:Type}(A C:List α)(x y:α){k:Nat}(h:A.length=k):(A++x::C).set k y=A++y::C:=by
 subst h;simp
theorem czv{α:Type}(A C:List α)(x:α){k:Nat}(h:A.length=k):(A++x::C)[k]?=some x:=by
 subst h;simp
def Jp(a:List Bool)(s:Sn):Bool:=s.bu.any fun e=>a.getD e.to.toNat false
theorem czP(v0 v1:zV)(l:aK)(d:List Bool)(m:Mem)(w:zW)(hm:m.az w)(hl:aV m v0 l)(hb:jK m v1 d)(N:WF l)(d':l.length<=4000000)(Q:d.length=l.length):
 zC 192 #[.agg #[v0],v1] w fun e w'=>∃r,e=.returned r/\zB w w'/\jK (m.grow w w') r (l.map (Jp d)):=by
 obtain⟨a,c,rfl,h1,h2,h3⟩:=hl;obtain⟨ba,bc,rfl,b1,b2,b3⟩:=hb;unfold maxLen at h2 b2;have hO:=(Own.start hm).al #[.slice a l.length c] 27;have HO:=zh hO;have f':l.length<=d.length:=zo;have e':d.length<=l.length:=zo;have g1:=hO.obj.c 0;have g2:=hO.obj.lt;clear hO Q;refine au fun R hR=>?_
 go_enter func192,ntmps192
 go_wp2_with (refine wpList_make_row VB rfl (.tmp 11) (.tmp 11) rfl l.length rfl rfl zo qdM ?_)
 intro w5 v g;have f:(w.alloc (.cells #[.slice a l.length c] 27)).heap.size=w.heap.size+1:=by simp
 have hO:=HO.o.make (by rw[f];exact v) g;rw[f]at hO;have s:List.replicate l.length (Value.bool false)=((l.take 0).map (Jp d)++List.replicate (l.length-0) false).map Value.bool:=by simp
 rw[s]at hO;have T:=hO.av.obj.c 0;have S:=hO.av.obj.lt;clear f;generalize w.heap.size+1=B at*
 have q:=zh hO;clear v g s HO g1 g2 hO;go_wp2;refine aB [1,2,5,15,16] (fun n E W=>∃(k:Nat),k<=l.length/\n=l.length-k/\E=[.slice ba d.length bc,.p w.heap.size,.slice (some ⟨B,0,none⟩) l.length l.length,.j l.length,.j k] /\
  Own w m W m [.row (.slice (some ⟨B,0,none⟩) l.length l.length) 4 1 l.length (((l.take k).map (Jp d)++List.replicate (l.length-k) false).map Value.bool),.obj w.heap.size 27 #[.slice a l.length c]]) ?_ ?_
 .exact⟨_,0,zG _,rfl,rfl,q.o⟩
 clear q T S;rintro X z n E W hX-⟨k,hk,rfl,rfl,hO⟩;simp[bz,lk];have g1:=hO.av.obj.c 0;have g2:=hO.av.obj.lt;by_cases hlt:k<l.length
 .obtain⟨b,off,rfl,h4⟩:=h3 qdJ;obtain⟨-,ve,s2,ea,ec,rfl,g4,g5,g6⟩:=h4 k hlt;have o':=azk hO.az s2;have p':=bzu hO.az s2;have F:(l.take (k+1)).map (Jp d)=(l.take k).map (Jp d)++[Jp d l[k]]:=by
   rw[zH hlt,yI];rfl
  have G:List.replicate (l.length-k) false=false::List.replicate (l.length-(k+1)) false:=by
   rw[show l.length-k=(l.length-(k+1))+1 by omega];rfl
  have K:((l.take k).map (Jp d)).length=k:=by simp;omega
  have I:Jp d l[k]=(l[k]).bu.any fun e=>d.getD e.to.toNat false:=rfl;have P:=lJ (N l[k] (zF hlt));rw[G]at hO;have L:=zh (zi F I);generalize (l[k]).bu=es at*
  have HO:=zh hO;unfold maxLen at g5;generalize U:(l.take k).map (Jp d)=AA at*
  clear F G I U h4 hO;go_wp2;refine aB [1,2,5,15,16,6,24,25,26] (fun n E Z=>∃(j:Nat),j<=es.length/\n=es.length-j/\E=[.slice ba d.length bc,.p w.heap.size,.slice (some ⟨B,0,none⟩) l.length l.length,.j l.length,.j k,.j k,.slice ea es.length ec,.j es.length,.j j] /\
   Own w m Z m [.row (.slice (some ⟨B,0,none⟩) l.length l.length) 4 1 l.length ((AA++((es.take j).any fun e=>d.getD e.to.toNat false)::List.replicate (l.length-(k+1)) false).map Value.bool),.obj w.heap.size 27 #[.slice (some ⟨b,off,none⟩) l.length c]]) ?_ ?_
  .exact qbo
  clear HO;rintro Y z2 n E Z hY-⟨j,hj,rfl,rfl,hO⟩;simp[bz,lk];by_cases hlt2:j<es.length
  .obtain⟨eb,eo,rfl,g7⟩:=g6 qd7;obtain⟨e1,e2,e3,e4,e5,-⟩:=g7 j hlt2;have I':=azk hO.az e1;have G':=azk hO.az e2;have V:=azk hO.az e3;have el:=bzu hO.az e1;have O:=P es[j] (zF hlt2);have i:((es.take (j+1)).any fun e=>d.getD e.to.toNat false)=(((es.take j).any fun e=>d.getD e.to.toNat false)||d.getD (es[j]).to.toNat false):=by
    rw[zH hlt2,List.any_append];simp
   obtain⟨t,ht⟩:=zT O.2.1;have A:t<d.length:=zo;rw[ht,Int.toNat_natCast]at i;have H:d.getD t false=d[t]:=by simp[A]
   rw[H]at i;obtain⟨bb,bo,rfl,b4⟩:=b3 (by intro h;simp[h]at A);have C:=b4 t A;have s':=azk hO.az C;have t':=bzu hO.az C;generalize d[t]=y at*
   rw[ht]at V;obtain⟨p,x⟩:∃p,((es.take j).any fun e=>d.getD e.to.toNat false)=p:=⟨_,rfl⟩;rw[x]at hO i;have M:=zh i;generalize es[j]=e at*
   have r1:=bO (j:=k) (u:=.bool p) hO.row (by rw[List.getElem?_map,czv _ _ _ K];rfl);have r2:=fD hO.row k;have r3:=(World.ownsRow.lt hO.row _ rfl).2;have D:=(hO.setRow k (.bool (p||y))).al' (.cells #[.int .u8 e.lo,.int .u8 e.hi,.int .i64 t] 102);rw[<-List.map_set,set_mid _ _ _ _ K]at D;have q:=zh D;clear i x D hO H ht C
   cases p with
   |true=>
    go_wp2;refine hY.o _ _ _ zo rfl ⟨j+1,zo,rfl,rfl,?_⟩;rw[M.o]
    exact q.o
   |false=>
    go_wp2;refine hY.o _ _ _ zo rfl ⟨j+1,zo,rfl,rfl,?_⟩;rw[M.o];exact q.o
  .obtain rfl:j=es.length:=zo;rw[yG]at hO;have HO:=zh hO;clear hO;go_wp2;refine hX.o _ _ _ zo rfl ⟨k+1,zo,rfl,rfl,?_⟩;rw[L.o.1,L.o.2,xD];exact HO.o
 .obtain rfl:k=l.length:=zo;rw[yG,Nat.sub_self,List.replicate_zero,yR]at hO;have J:=nR (l:=l.map (Jp d)) (m:=m) (by rw[xC];exact hO.row);have hfin:=mV hO.bP.done J;have Hk:=zh qgd;clear hO J hfin;go_wp2;exact hR.o _ _ ⟨_,rfl,Hk.o.1,Hk.o.2⟩
theorem O5:fB prog 236 226 1 24:=⟨underlying236,zo,by
 obtain⟨i,d,c,b,a⟩:=info_parts (P:=prog) (e:=226) (z:=.n) (size:=1) (bytes:=24) zk;exact⟨i,_,d,c,b,a,rfl⟩⟩
abbrev pM(mk:Mem)(tb n:Nat)(v:zV)(w':zW):Prop:=mk.az w'/\w'.cell? ⟨tb,n,none⟩=some v/\tb<w'.heap.size
def sV(T:aK)(mk:Mem)(xs:List Value)(n:Nat):Prop:=xs.length=n/\∀i,i<n->∃u,xs[i]?=some u/\jK mk u (d9 T i)
theorem sV.mono{T:aK}{mk mk':Mem}{xs:List Value}{n:Nat}(h:sV T mk xs n)(a:mk.le mk'):sV T mk' xs n:=
 ⟨h.1,fun i hi=>let ⟨u,h1,h2⟩:=h.2 i hi;⟨u,h1,mV a h2⟩⟩
theorem sV.push{T:aK}{mk:Mem}{xs:List Value}{n:Nat}(h:sV T mk xs n){u:zV}(a:jK mk u (d9 T n)):sV T mk (xs++[u]) (n+1):=by
 refine⟨by rw[zL,h.1];rfl,fun i hi=>?_⟩;by_cases e:i<n
 .obtain⟨v,c,b⟩:=h.2 i e;exact⟨v,by rw[yK (by rw[h.1];exact e)];exact c,b⟩
 .obtain rfl:i=n:=zo;exact⟨u,by rw[yN (by rw[h.1];exact zI _),h.1];simp,a⟩
theorem bzV{w:zW}{t:TypeId}{size n c g:Nat}{xs:List Value}(h:w.ownsRow 0 t size (.slice (some ⟨g,0,none⟩) n c) n xs):n<=c/\c<=maxLen:=by
 rcases h.2 with⟨h,-⟩|⟨f,e,d,h,-,-,a,b,-⟩
 .cases h
 .injection h with h1 h2 h3;subst h3;exact⟨a,b⟩
theorem RN{T:aK}{l ga:Nat}{w0:zW}{m mk:Mem}{B Bx:List (List UInt8)->List bA->Prop}{va:zV}{L1:List bA}{W:zW}(hC:bZ T)(K:Nat)(hK:(K+1)*(T.length+1)<=4000000)
(hY:Dq prog l (fun x:List UInt8=>#[Value.string ⟨x.toArray⟩]) w0 m mk B Bx)(ca:mk.cell ga 0=some va)(A':aV mk va T)(hBK:∀r' Lt,B r' Lt->r'.length<K)(hB:B [] L1)(G:Own w0 m W mk L1):
 zC 191 #[.func (.yield l) #[] #[],.pointer (some ⟨ga,0,none⟩)] W
  (OI w0 m mk B Bx (fun xs=>∃n,xs=lu T 0 n/\∀y,aH T 0 y=true->y.length<n) (fun xs=>∃n,xs <+: lu T 0 n/\xs≠[])):=by
 have hKT:K*T.length+K+T.length+1<=4000000:=by
  have:(K+1)*(T.length+1)=K*T.length+K+T.length+1:=by rw[Nat.add_mul,Nat.mul_add];omega
  omega
 generalize v':K*T.length=KT at*
 have HKL:=zh v';have Z':=A';obtain⟨aa,ac,rfl,a1,a2,a3⟩:=A';have ha:=azk G.az ca;have l':=bzu G.az ca;have P:=zh (zi Z' (zi hY (zi hBK (zi hC ca))));have HO:=zh (zi G hB);unfold maxLen at a2;refine au fun R hR=>?_;clear G hB Z' hY hBK hC v' ca
 go_enter func191,ntmps191
 go_wp2;refine aB [0,1,3,4,9,10] (fun q vs W1=>∃(k:Nat) (vf:zV),k<=T.length/\q=T.length-k/\vs=[.func (.yield l) #[] #[],.p ga,.n,vf,.j T.length,.j k] /\
  Own w0 m W1 mk (.row vf 4 1 k (((T.take k).map (·.bW)).map Value.bool)::L1)) ?_ ?_
 .exact⟨_,0,.n,zG _,rfl,rfl,HO.o.1.fE _ _⟩
 clear ha l';rintro X z q vs W1 hX-⟨k,vf,hk,rfl,rfl,G⟩;simp[bz,lk];obtain⟨i',h',rfl⟩:=bv G.row;have ha:=azk G.az P.o.2.2.2.2;have l':=bzu G.az P.o.2.2.2.2;by_cases hlt:k<T.length
 .obtain⟨b,off,rfl,a4⟩:=a3 qdJ;have s1w:=azk G.az (a4 k hlt).1;have s1l:=bzu G.az (a4 k hlt).1;have Y':(T.take (k+1)).map (·.bW)=(T.take k).map (·.bW)++[(T[k]).bW]:=by rw[zH hlt,yI];rfl
  have Htk:=zh Y';generalize (T[k]).bW=y at*
  have f:=G.al #[.bool y] 4;have J:=f.obj.dQ rfl;clear Y' G a4
  go_wp2_with (at_builtin;refine aU M6 rfl (.tmp 13) (.tmp 20) rfl (.slice i' k h') k _ rfl f.av.row ⟨W1.heap.size,0,none⟩ 1 1 [.bool y] rfl rfl J qdN qdM zo ?_)
  intro I' H' w7 F d E;have D:=(f.av.app F d E zS).bM;have z':=zh D;clear D f F d E J;go_wp2;refine hX.o _ _ _ zo rfl ⟨k+1,.slice I' (k+1) H',zo,rfl,rfl,?_⟩;rw[Htk.o,yI];have:=z'.o;exact qbe
 .obtain rfl:k=T.length:=zo;rw[yG,<-Yn]at G;have hb0:=nR (l:=d9 T 0) (m:=mk) (by rw[yt];exact G.row);have B':=czS (w:=W1) G.free;have hO1:=G.bP;generalize mk.iA W1 (.slice i' T.length h')=mk1 at*
  have f:=((hO1.fE 226 1).al #[.slice i' T.length h'] 226);have J:=f.obj.dQ rfl;have Hb:=zh (zi hb0 B');clear G hO1 hb0 B'
  go_wp2_with (at_builtin;refine aU O5 rfl (.tmp 23) (.tmp 25) rfl (.n) 0 [] rfl f.av.row ⟨W1.heap.size,0,none⟩ 1 1 [.slice i' T.length h'] rfl rfl J qdN qdM zo ?_)
  intro I' H' w7 F d E;have D:=(f.av.app F d E zS).bM;have z':=zh D;clear D f F d E J;go_wp2;refine aB [0,1,3,6] (fun q vs W2=>∃(n rn:Nat) (vt:zV) (xs:List Value) (g:Mem) (Lt:List bA),q=KT+1-n/\(n=0/\rn=1\/0<n/\rn=n/\n<=KT) /\
   vs=[.func (.yield l) #[] #[],.p ga,vt,.j n] /\
   mk.le g/\B (lu T 0 n) Lt/\Own w0 m W2 g (.row vt 226 1 rn xs::Lt)/\sV T g xs rn) ?_ ?_
  .refine⟨_,0,1,.slice I' 1 H',[.slice i' T.length h'],mk1,L1,rfl,.inl ⟨rfl,rfl⟩,rfl,Hb.o.2,HO.o.2,by simpa using z'.o,?_⟩;exact sV.push (n:=0) (xs:=[]) ⟨rfl,fun i hi=>zo⟩ Hb.o.1
  clear z' ha l';rintro Y z2 q vs W2 hY2-⟨n,rn,vt,xs,g,Lt,rfl,hrn,rfl,N,S,f,Q'⟩;simp[bz,lk];obtain⟨vta,X',rfl⟩:=bv f.row;have hrn1:0<rn:=zo;obtain⟨tb,rfl⟩:=tO f.row hrn1;have ha:=azk f.az (bzv N P.o.2.2.2.2);have l':=bzu f.az (bzv N P.o.2.2.2.2);have hnK:n<=KT:=zo;by_cases hT:0<T.length
  .have hd1:decide (0<T.length)=true:=zN hT;have HQ:=zh (zi f (zi S (zi N Q')));clear f S N Q'
   go_upto_if 34 with(fail)
   refine aW [0,1,3,6] (fun vs w'=>∃(G':zV) (Q:List Value) (lH:Mem),vs=[.func (.yield l) #[] #[],.p ga,G',.j n] /\
    mk.le lH/\Own w0 m w' lH (.row G' 226 1 (n+1) Q::Lt)/\sV T lH Q (n+1)) ?_ ?_
   .intro V hV;rcases hrn with⟨rfl,rfl⟩|⟨hn0,rfl,-⟩
    .go_wp2;exact hV.o _ _ rfl ⟨.slice (some ⟨tb,0,none⟩) 1 X',xs,g,rfl,HQ.o.2.2.1,HQ.o.1,HQ.o.2.2.2⟩
    .have hd2:decide (0<rn)=true:=zN hn0;have hd3:decide ((0:Int)<(rn:Int))=true:=zN zo;obtain⟨C,rfl⟩:∃C,rn=C+1:=⟨rn-1,zo⟩;have hw1:IntKind.i64.wrap (((C+1:Nat):Int)-1)=(C:Int):=by rw[IntWalk.i64_in _ zo];omega
     have hw2:IntKind.i64.wrap ((C:Int)+1-1)=(C:Int):=by rw[IntWalk.i64_in _ zo];omega
     have hw3:IntKind.i64.wrap (C:Int)=(C:Int):=IntWalk.i64_in _ zo;have hn1:C<C+1:=zo;have hn2:(C:Int)<(C:Int)+1:=zo;obtain⟨u,a',s'⟩:=HQ.o.2.2.2.2 C hn1;have G:=HQ.o.1.dr;go_wp2;refine gV (fun j w'=>j≠9->j≠10->(g.az w'/\w'.cell? ⟨tb,C,none⟩=some u/\tb<w'.heap.size)) zk ?_;have hS:g.az W2.drew/\W2.drew.cell? ⟨tb,C,none⟩=some u/\tb<W2.drew.heap.size:=⟨G.az,bO G.row a',(World.ownsRow.lt G.row _ rfl).2⟩;have hca:=bzv HQ.o.2.2.1 P.o.2.2.2.2;refine aD 0 12 (pM g tb C u) rfl zk qe7 qfw hS qiq ?_;refine aD 1 12 (pM g tb C u) rfl zk qe7 qfw hS qiq ?_;refine aD 2 12 (pM g tb C u) rfl zk qe7 qfw hS qiq ?_;refine aD 3 12 (pM g tb C u) rfl zk qe7 qfw hS qiq ?_;refine aD 4 12 (pM g tb C u) rfl zk qe7 qfw hS qiq ?_;refine aD 5 12 (pM g tb C u) rfl zk qe7 qfw hS qiq ?_;refine aD 6 12 (pM g tb C u) rfl zk qe7 qfw hS qiq ?_;have b':=yt T C;have hcs:=Ml P.o.2.2.2.1.wf P.o.2.2.2.1.bytes C;have P':=czP (.slice aa T.length ac) u T (d9 T C) g _ G.az (bq HQ.o.2.2.1 P.o.1) s' P.o.2.2.2.1.wf zo b';refine aO 7 zk (aM rfl rfl (fP zg P' ?_));rintro e' w3 ⟨r,rfl,hb3,N'⟩;rw[show T.map (Jp (d9 T C))=d9 T (C+1) from hcs.symm]at N';have D:=G.call hb3;have L:=bzx (w:=w3) G.az;clear hcs b';obtain⟨K',J',rfl⟩:∃xa xc,r=.slice xa (d9 T (C+1)).length xc:=by obtain⟨x,y,e,-⟩:=N';exact⟨x,y,e⟩
     refine⟨_,rfl,.inr fun _ _=>⟨bzw L D.az,bO D.row a',(World.ownsRow.lt D.row _ rfl).2⟩,?_⟩;go_simp;have H:=D.al #[.slice K' (d9 T (C+1)).length J'] 226;refine aO 8 zk (aM rfl rfl (aS qdO ⟨.inr fun _ _=>⟨bzw L H.az,bO H.av.row a',(World.ownsRow.lt H.av.row _ rfl).2⟩,?_⟩));go_simp;refine aO 9 zk (aM rfl rfl (fQ O5 (.tmp 35) (.tmp 43) rfl (.slice (some ⟨tb,0,none⟩) (C+1) X') (C+1) xs rfl H.av.row ⟨w3.heap.size,0,none⟩ 1 1 [.slice K' (d9 T (C+1)).length J'] rfl rfl (H.obj.dQ rfl) qdN qdM zo (fun na' nc' w7 F d E=>?_)));have hO5:=(H.av.app F d E (zI _)).bM;refine⟨.inr fun h=>absurd rfl h,?_⟩;go_simp;refine aO 10 zk (aM rfl rfl (aS qdO ⟨.inl rfl,?_⟩));refine dE zk ?_ _;exact hV.o _ _ rfl ⟨.slice na' (C+1+1) nc',xs++[.slice K' (d9 T (C+1)).length J'],g.grow W2.drew w3,rfl,Mem.le_trans HQ.o.2.2.1 L,hO5,(HQ.o.2.2.2.mono L).push N'⟩
   rintro z3 vs w3-⟨G',Q,lH,rfl,L,D,m'⟩;simp[bz,lk];have S:=HQ.o.2.1;have j':=fun h=>XZ P.o.2.2.2.1.wf P.o.2.2.2.1.bytes (n:=n) h;have hES:=LY T 0 n;have C':=fun(hn:KT<n+1) (h:(lu T 0 (n+1)).length<K)=>UF P.o.2.2.2.1 (n:=n+1) h (by rw[HKL.o];exact hn);obtain⟨vta2,I,rfl⟩:=bv D.row;obtain⟨a,rfl⟩:=tO D.row zo;obtain⟨u,a',s'⟩:=m'.2 n zo;have HS:=zh (zi D (zi m' (zi L (zi j' (zi hES C')))));have HU:=zh (zi a' s');have HB2:=zh S;have b':=yt T n;obtain⟨ua,s,rfl,u2,u3,u4⟩:=s';obtain⟨A,p,rfl,u5⟩:=u4 (by intro h;rw[h]at b';simp at b';omega);have D':(∀b∈d9 T n,b=false)↔¬(true∈d9 T n):=by
    constructor
    .intro h hm;have:=h true hm;cases this
    .intro h b hb
     cases b with
     |false=>rfl
     |true=>exact absurd hb h
   have Hall:=zh D';have k':=bzV D.row;have hcap1:=k'.1;have O':=k'.2;unfold maxLen at O';clear D' k';clear D m' L j' hES C' a' HQ S ha l' b' u4 u5;go_wp2;refine aW [0,1,3,6,65] (fun vs w'=>∃(bb:Bool) (O:Mem) (M:List bA),vs=[.func (.yield l) #[] #[],.p ga,.slice (some ⟨a,0,none⟩) (n+1) I,.j n,.bool bb]/\mk.le O /\
    (bb=false->B (lu T 0 (n+1)) M/\Own w0 m w' O (.row (.slice (some ⟨a,0,none⟩) (n+1) I) 226 1 (n+1) Q::M)/\true∈d9 T n/\sV T O Q (n+1)) /\
    (bb=true->(B (lu T 0 n) M/\Own w0 m w' O M/\∀b∈d9 T n,b=false)\/∃q,q≠[]/\q <+: uD T n 0/\Bx (lu T 0 n++q) M/\Own w0 m w' O M)) ?_ ?_
   .intro V hV;have G:=HS.o.1.dr;have hca:=bzv HS.o.2.2.1 P.o.2.2.2.2;have hw1:IntKind.i64.wrap ((n:Int)+1)=(n:Int)+1:=IntWalk.i64_in _ zo;have hn1:(n:Int)<(n:Int)+1:=zo;have hn2:n<n+1:=zo;have hb1:(0:Int)<=(n:Int)+1:=zo;have hb2:(n:Int)+1<=(I:Int):=zo;have HCt:=zh (fun w' (h:lH.az w')=>Dz (.slice (some ⟨A,p,none⟩) (d9 T n).length s) (d9 T n) true lH w' h HU.o.2);refine gV (fun j w'=>j≠18->j≠19->j≠20->(lH.az w'/\w'.cell? ⟨a,n,none⟩=some (.slice (some ⟨A,p,none⟩) (d9 T n).length s)/\a<w'.heap.size)) zk ?_;have hS:lH.az w3.drew/\w3.drew.cell? ⟨a,n,none⟩=some (.slice (some ⟨A,p,none⟩) (d9 T n).length s)/\a<w3.drew.heap.size:=⟨G.az,bO G.row HU.o.1,(World.ownsRow.lt G.row _ rfl).2⟩;refine aD 0 6 (pM lH a n (.slice (some ⟨A,p,none⟩) (d9 T n).length s)) rfl zk qe7 qfi hS qfr ?_;refine aD 1 6 (pM lH a n (.slice (some ⟨A,p,none⟩) (d9 T n).length s)) rfl zk qe7 qfi hS qfr ?_;refine aD 2 6 (pM lH a n (.slice (some ⟨A,p,none⟩) (d9 T n).length s)) rfl zk qe7 qfi hS qfr ?_;refine aD 3 6 (pM lH a n (.slice (some ⟨A,p,none⟩) (d9 T n).length s)) rfl zk qe7 qfi hS qfr ?_;refine aO 4 zk (aM rfl rfl (fP zg (HCt.o _ G.az) ?_));rintro e' w4 ⟨rfl,hb4⟩;have H:=G.aT hb4;have c:lH.az w4/\w4.cell? ⟨a,n,none⟩=some (.slice (some ⟨A,p,none⟩) (d9 T n).length s)/\a<w4.heap.size:=⟨H.az,bO H.row HU.o.1,(World.ownsRow.lt H.row _ rfl).2⟩;refine⟨_,rfl,.inr fun _ _ _=>c,?_⟩;by_cases U:true∈d9 T n
    .rw[aN U];go_simp;refine aD 5 6 (pM lH a n (.slice (some ⟨A,p,none⟩) (d9 T n).length s)) rfl zk qe7 qfi c qiq ?_;refine aD 6 6 (pM lH a n (.slice (some ⟨A,p,none⟩) (d9 T n).length s)) rfl zk qe7 qfi c qiq ?_;go_simp;refine aD 7 6 (pM lH a n (.slice (some ⟨A,p,none⟩) (d9 T n).length s)) rfl zk qe7 qfi c qiq ?_;go_simp;refine aD 8 6 (pM lH a n (.slice (some ⟨A,p,none⟩) (d9 T n).length s)) rfl zk qe7 qfi c qiq ?_;go_simp;refine aD 9 6 (pM lH a n (.slice (some ⟨A,p,none⟩) (d9 T n).length s)) rfl zk qe7 qfi c qiq ?_;go_simp;refine aD 10 6 (pM lH a n (.slice (some ⟨A,p,none⟩) (d9 T n).length s)) rfl zk qe7 qfi c qiq ?_;go_simp;refine aD 11 6 (pM lH a n (.slice (some ⟨A,p,none⟩) (d9 T n).length s)) rfl zk qe7 qfi c qiq ?_;go_simp;refine aD 12 6 (pM lH a n (.slice (some ⟨A,p,none⟩) (d9 T n).length s)) rfl zk qe7 qfi c qiq ?_;go_simp;refine aD 13 6 (pM lH a n (.slice (some ⟨A,p,none⟩) (d9 T n).length s)) rfl zk qe7 qfi c qiq ?_;go_simp;refine aD 14 6 (pM lH a n (.slice (some ⟨A,p,none⟩) (d9 T n).length s)) rfl zk qe7 qfi c qiq ?_;go_simp;refine aD 15 6 (pM lH a n (.slice (some ⟨A,p,none⟩) (d9 T n).length s)) rfl zk qe7 qfi c qiq ?_;go_simp;refine aD 16 6 (pM lH a n (.slice (some ⟨A,p,none⟩) (d9 T n).length s)) rfl zk qe7 qfi c qiq ?_;go_simp;refine aD 17 6 (pM lH a n (.slice (some ⟨A,p,none⟩) (d9 T n).length s)) rfl zk qe7 qfi c qiq ?_;go_simp;have t':=hT;have M':=Zp (T:=T) (l:=l) (w0:=w0) (m:=m) (mk0:=lH) (B:=B) (Bx:=Bx) (Lr:=[.row (.slice (some ⟨a,0,none⟩) (n+1) I) 226 1 (n+1) Q]) (tb:=a) (n:=n) (ctab:=I) (clast:=1) (qm:=n+1) (va:=.slice aa T.length ac) P.o.2.2.2.1.wf P.o.2.2.2.1.bytes
      (fun r' x W' mk' Lt' Lr' h1 h2 h3=>P.o.2.1 r' x W' mk' Lt' Lr' h1 h2 (Mem.le_trans HS.o.2.2.1 h3)) (bq HS.o.2.2.1 P.o.1) t' qdM zo zo qdM
      (fun W' mk' Lt' h i hi=>by
       obtain⟨u',h1,h2⟩:=HS.o.2.1.2 i hi;exact⟨u',bO (h.BX (v:=.slice (some ⟨a,0,none⟩) (n+1) I) (t:=226) (size:=1) (n:=n+1) (xs:=Q) zS) h1,h2⟩)
      (lu T 0 n) lH w4 Lt (Mem.le_refl _) HB2.o (H.perm (List.perm_append_singleton _ _))
     refine aO 18 zk (fT rfl rfl (fP zg M' ?_));rintro e' w5 (⟨rfl,L',R',k1,k2,k3⟩|⟨rfl,qq,L',R',k0,k1,k2,k3,k4⟩)
     .refine⟨_,rfl,.inr fun h=>absurd rfl h,?_⟩;go_simp;refine aO 19 zk (fT rfl rfl (aS qdO ⟨.inl rfl,?_⟩));go_simp;refine aO 20 zk (aM rfl rfl (aS qdO ⟨.inl rfl,?_⟩));refine dE zk ?_ _;refine hV.o _ _ rfl ⟨false,L',R',rfl,Mem.le_trans HS.o.2.2.1 k3,fun _=>⟨?_,k2.perm (List.perm_append_singleton _ _).symm,U,HS.o.2.1.mono k3⟩,fun h=>by cases h⟩;rw[HS.o.2.2.2.2.1];exact k1
     .refine⟨_,rfl,.inr fun h=>absurd rfl h,?_⟩;go_simp;refine aO 19 zk (fT rfl rfl (aS qdO ⟨.inl rfl,?_⟩));go_simp;refine aO 20 zk (aM rfl rfl (aS qdO ⟨.inl rfl,?_⟩));refine dE zk ?_ _;exact hV.o _ _ rfl ⟨true,L',R',rfl,Mem.le_trans HS.o.2.2.1 k4,(fun h=>by cases h),fun _=>.inr ⟨qq,k0,k1,k2,(k3.perm (List.perm_append_singleton _ _).symm).tail⟩⟩
    .rw[aG U];go_simp;refine aD 5 6 (pM lH a n (.slice (some ⟨A,p,none⟩) (d9 T n).length s)) rfl zk qe7 qfi c qfj ?_;refine aD 6 6 (pM lH a n (.slice (some ⟨A,p,none⟩) (d9 T n).length s)) rfl zk qe7 qfi c qfj ?_;go_simp;refine aD 7 6 (fun w'=>lH.az w'/\w'.cell? ⟨a,n,none⟩=some (.slice (some ⟨A,p,none⟩) (d9 T n).length s)/\a<w'.heap.size) rfl zk qe7 qfi c (.inr ⟨rfl,rfl⟩) ?_;go_simp;refine aD 8 6 (fun w'=>lH.az w'/\w'.cell? ⟨a,n,none⟩=some (.slice (some ⟨A,p,none⟩) (d9 T n).length s)/\a<w'.heap.size) rfl zk qe7 qfi c (.inr ⟨rfl,rfl⟩) ?_;go_simp;refine aD 9 6 (fun w'=>lH.az w'/\w'.cell? ⟨a,n,none⟩=some (.slice (some ⟨A,p,none⟩) (d9 T n).length s)/\a<w'.heap.size) rfl zk qe7 qfi c (.inr ⟨rfl,rfl⟩) ?_;go_simp;refine aD 10 6 (fun w'=>lH.az w'/\w'.cell? ⟨a,n,none⟩=some (.slice (some ⟨A,p,none⟩) (d9 T n).length s)/\a<w'.heap.size) rfl zk qe7 qfi c (.inr ⟨rfl,rfl⟩) ?_;go_simp;refine aD 11 6 (fun w'=>lH.az w'/\w'.cell? ⟨a,n,none⟩=some (.slice (some ⟨A,p,none⟩) (d9 T n).length s)/\a<w'.heap.size) rfl zk qe7 qfi c (.inr ⟨rfl,rfl⟩) ?_;go_simp;refine aD 12 6 (fun w'=>lH.az w'/\w'.cell? ⟨a,n,none⟩=some (.slice (some ⟨A,p,none⟩) (d9 T n).length s)/\a<w'.heap.size) rfl zk qe7 qfi c (.inr ⟨rfl,rfl⟩) ?_;go_simp;refine aD 13 6 (fun w'=>lH.az w'/\w'.cell? ⟨a,n,none⟩=some (.slice (some ⟨A,p,none⟩) (d9 T n).length s)/\a<w'.heap.size) rfl zk qe7 qfi c (.inr ⟨rfl,rfl⟩) ?_;go_simp;refine aD 14 6 (fun w'=>lH.az w'/\w'.cell? ⟨a,n,none⟩=some (.slice (some ⟨A,p,none⟩) (d9 T n).length s)/\a<w'.heap.size) rfl zk qe7 qfi c (.inr ⟨rfl,rfl⟩) ?_;go_simp;refine aD 15 6 (fun w'=>lH.az w'/\w'.cell? ⟨a,n,none⟩=some (.slice (some ⟨A,p,none⟩) (d9 T n).length s)/\a<w'.heap.size) rfl zk qe7 qfi c (.inr ⟨rfl,rfl⟩) ?_;go_simp;refine aD 16 6 (fun w'=>lH.az w'/\w'.cell? ⟨a,n,none⟩=some (.slice (some ⟨A,p,none⟩) (d9 T n).length s)/\a<w'.heap.size) rfl zk qe7 qfi c (.inr ⟨rfl,rfl⟩) ?_;go_simp;refine aD 17 6 (fun w'=>lH.az w'/\w'.cell? ⟨a,n,none⟩=some (.slice (some ⟨A,p,none⟩) (d9 T n).length s)/\a<w'.heap.size) rfl zk qe7 qfi c (.inr ⟨rfl,rfl⟩) ?_;go_simp;refine aO 18 zk (MH rfl rfl ⟨.inl rfl,?_⟩);go_simp;refine aO 19 zk (MH rfl rfl ⟨.inl rfl,?_⟩);go_simp;refine aO 20 zk (aM rfl rfl (aS qdO ⟨.inl rfl,?_⟩));refine dE zk ?_ _;exact hV.o _ _ rfl ⟨true,lH,Lt,rfl,HS.o.2.2.1,(fun h=>by cases h),fun _=>.inl ⟨HB2.o,H.tail,Hall.o.2 U⟩⟩
   rintro z5 vs w5-⟨bb,O,M,rfl,Z,hf,ht⟩;simp[bz,lk]
   cases bb with
   |true=>
    have Hq:=zh (zi (ht rfl) Z);clear ht hf Z;go_wp2;refine yV (v:=.tuple #[]) qeY rfl ?_;refine hR.o _ _ ⟨⟨_,rfl⟩,?_⟩;rcases Hq.o.1 with⟨h1,h2,h3⟩|⟨qq,h1,h2,h3,h4⟩
    .exact .inl ⟨_,O,M,⟨n,rfl,HS.o.2.2.2.1 h3⟩,h1,h2,Hq.o.2⟩
    .refine .inr ⟨_,O,M,⟨n+1,?_,fun h=>h1 (List.append_eq_nil_iff.1 h).2⟩,h3,h4,Hq.o.2⟩;rw[HS.o.2.2.2.2.1]
     exact(List.prefix_append_right_inj _).2 h2
   |false=>
    obtain⟨h1,h2,h3,h4⟩:=hf rfl;have v':n+1<=KT:=by
     apply zP;intro hn;have:=HS.o.2.2.2.2.2 zo (P.o.2.2.1 _ _ h1);rw[Nat.add_sub_cancel]at this;rw[this]at h3;have:=List.eq_of_mem_replicate h3;cases this
    have Hq:=zh (zi h1 (zi h2 (zi Z h4)));clear ht hf Z h1 h2 h3 h4;go_wp2;exact hY2.o _ _ _ zo rfl ⟨n+1,n+1,.slice (some ⟨a,0,none⟩) (n+1) I,Q,O,M,rfl,.inr ⟨zo,rfl,v'⟩,rfl,Hq.o.2.2.1,Hq.o.1,Hq.o.2.1,Hq.o.2.2.2⟩
  .have hd1:decide (0<T.length)=false:=zM hT;have t':T=[]:=yM zo;have E':∀y,aH T 0 y=true->y.length<n:=fun y hy=>by rw[t',gK]at hy;cases hy
   have Hq:=zh (zi E' (zi f.tail (zi S N)));clear E' f S N t' Q';go_wp2;refine yV (v:=.tuple #[]) qeY rfl ?_;exact hR.o _ _ ⟨⟨_,rfl⟩,.inl ⟨_,g,Lt,⟨n,rfl,Hq.o.1⟩,Hq.o.2.2.1,Hq.o.2.1,Hq.o.2.2.2⟩⟩
theorem Jf(Y:zV)(l:aK)(m:Mem)(w:zW)(hm:m.az w)(hl:aV m Y l)(Z:l.length<=1000000)(H:∀s∈l,s.bu.length<=1000000):
 zC 138 #[.agg #[Y]] w fun e w'=>∃r,e=.returned (.agg #[r])/\zB w w'/\aV (m.grow w w') r l:=by
 obtain⟨a,c,rfl,h1,h2,h3⟩:=hl;unfold maxLen at h2;refine au fun R hR=>?_
 go_enter func138,ntmps138
 go_wp2;refine aB [2,3,7,8,9] (fun n W U=>∃(k:Nat) (v:zV) (xs:List Value) (mk:Mem),k<=l.length/\n=l.length-k/\W=[.p (w.heap.size+1),.p (w.heap.size+2),.slice a l.length c,.j l.length,.j k] /\
  Own w m U mk [.obj (w.heap.size+2) 27 #[v],.row v 105 2 k xs,.obj (w.heap.size+1) 27 #[.slice none 0 0]]/\rD mk xs (l.take k)) ?_ ?_
 .refine⟨_,0,.n,[],m,zG _,rfl,rfl,?_,rD.nil m⟩;have:=((((Own.start hm).al' (.cells #[.slice a l.length c] 27)).al #[.slice none 0 0] 27).al #[.slice none 0 0] 27).fE 105 2;simpa using this.av
 rintro X z n W U hX-⟨k,v,xs,mk,hk,rfl,rfl,t,f⟩;simp[bz,lk];have F:=t.obj;by_cases hlt:k<l.length
 .obtain⟨b,off,rfl,h4⟩:=h3 qdJ;have G:=bzw t.ext.le t.az;obtain⟨g1,ve,g2,T⟩:=h4 k hlt;have i':=azk G g1;have h':=azk G g2;have hb:=bzu G g1;have hC:=fun O (h:mk.az O)=>YI ve l[k].bu mk O h (rq t.ext.le T) (by have:=H l[k] (zF hlt);omega);have HC:=zh hC;clear hC;obtain⟨ea,ec,rfl,-⟩:=T;have l1:=F.lt;go_wp2;have p:=(t.al #[.bool l[k].bW,.slice ea l[k].bu.length ec] 105).dr;refine jX (fun w'=>bg w' (w.heap.size+2) 27 #[v]/\bg w' U.heap.size 105 #[.bool l[k].bW,.slice ea l[k].bu.length ec]) 11 zk ?_;have I:=zi p.av.obj p.obj;refine aL 0 rfl zk qe7 I qfk ?_;refine aL 1 rfl zk qe7 I qfk ?_;refine aL 2 rfl zk qe7 I qfk ?_;refine aL 3 rfl zk qe7 I qfk ?_;refine aL 4 rfl zk qe7 I qfk ?_;refine aL 5 rfl zk qe7 I qfk ?_;refine bG 6 zk (aM rfl rfl (fP qeb (HC.o _ p.az) ?_));rintro e O ⟨r,rfl,L,K⟩;have j:=p.call L;refine⟨r,rfl,pX (zi j.av.obj j.obj) fun M=>?_⟩;obtain⟨S,Q,rfl⟩:∃S Q,r=.slice S l[k].bu.length Q:=by obtain⟨x,y,e,-⟩:=K;exact⟨x,y,e⟩
  refine aL 7 rfl zk qe7 M qfj ?_;refine bG 8 zk (aM rfl rfl (aS (by go_simp;exact⟨rfl,rfl⟩) (pX (zi (j.av.obj.al _) (j.obj.al _)) fun V=>?_)));go_simp;have D:=j.al #[.bool l[k].bW,.slice S l[k].bu.length Q] 105;refine bG 9 zk (aM rfl rfl (fQ Gr (.tmp 14) (.tmp 21) rfl v k xs rfl D.bV.row ⟨O.heap.size,0,none⟩ 1 1 [.bool l[k].bW,.slice S l[k].bu.length Q] rfl rfl (D.obj.dQ rfl) qdN qdM zo (fun va P w3 A B u=>?_)));have d:=D.bV.app A B u (zI _);refine pX (zi d.bV.obj d.aR.obj) fun C=>?_;refine aL 10 rfl zk qe7 C qfj ?_;have f3:=C.1.frozen 0;have c3:=C.1.cell (i:=0) rfl;refine bG 11 zk (aM rfl rfl (dx (by go_simp;rfl) (sw rfl ?_)));refine jY zk ?_ _;have N:=d.bV.set 0 (.slice va (k+1) P);have g:=(f.mono (bzx p.az)).push (s:=l[k]) K;rw[<-zH hlt]at g;have Hfin:=zh (zi N.Bd.Bd g);clear N g d D j p t A B u I M V C f3 c3 F f L;go_wp2;exact hX.o _ _ _ zo rfl ⟨k+1,_,_,_,zo,rfl,rfl,Hfin.o.1,Hfin.o.2⟩
 .obtain rfl:k=l.length:=zo;have c1:=t.obj.c 0;have T:=t.aR.obj.c 0;have g4:=t.aR.obj.frozen 0;obtain⟨va,P,rfl⟩:=bv t.av.row;have d:=t.aR.set 0 (.slice va l.length P);have J:=pQ (l:=l) d.aR.row (by rw[yG]at f;exact f) d.aR.free;have E:=bq d.aR.bP.done J;have Hfin:=zh (zi d.aF E);clear J E d t F f;go_wp2;refine yV (v:=.agg #[.slice va l.length P]) (by simp[results,results138,go_sem,T]) rfl ?_;exact qa5
end Cl
