/- Lemmas for the proofs of chapter 11. -/
import Derived.Test.YtdgjplfcpcphoaaGreatDoorPkE19
set_option maxRecDepth 100000
set_option maxHeartbeats 16000000
namespace Cl
open Go Go.RowKit Go.Proofs Tryz
theorem ZY{α:Type}(C:α->α->Int)(A:Nat->Nat->α->Prop)(V:List Value->α->Prop)(v v':zV)(l l':List α)(m:Mem)(w:zW)(hm:m.ay w)
(hA:∀b o x,A b o x->∃cs:List Value,cs.length=18/\(∀j u,cs[j]?=some u->m.cell b (o+j)=some u)/\(∀u∈cs,u.oneCell'=true)/\V cs x)
(hc:∀cs f x x' w',m.ay w'->V cs x->V f x'->zC 115 #[.agg cs.toArray,.agg f.toArray] w' fun e O=>e=.returned (.int .i64 (C x x'))/\Below w'.heap.size w' O)
(hl:Mem.slice A 18 v l)(Q:Mem.slice A 18 v' l'):
 zX 113 #[v,v',.func (.func 115) #[] #[]] w (.int .i64 (bS C l l')):=by
 obtain⟨a,c,rfl,h1,h2,h3⟩:=hl;obtain⟨a',c',rfl,A',U,L⟩:=Q;unfold maxLen at h2 U;have HK:=zh (zi h3 L);have Z:=zh (zi hA hc);have HO:=zh (Own.start hm);clear h3 L hA hc;refine aj fun R hR=>?_
 go_enter func113,ntmps113
 go_wp2;refine av [0,1,2,11,12,13] (fun n vs wr=>∃k:Nat,k<=l.length/\n=l.length-k/\vs=[.slice a l.length c,.slice a' l'.length c',.func (.func 115) #[] #[],.slice a l.length c,.int .i64 l.length,.int .i64 k]/\bS C l l'=bS C (l.drop k) (l'.drop k)/\Own w m wr m []) ?_ ?_
 .exact qbD
 clear HO;rintro X z n vs wr hX-⟨k,hk,rfl,rfl,y,B⟩;have d:=zh y;clear y;simp[aX,lk];by_cases hlt:k<l.length
 case neg=>
  obtain rfl:k=l.length:=zo;have HL:=zh (d.o.trans qfx);have HB:=zh B.az;clear B hX d;by_cases hs:l.length<l'.length
  .have HL2:=zh (show bS C l l' = -1 by rw[HL.o,zK hs]);exact qah
  .have HL2:=zh (show bS C l l'=0 by rw[HL.o,zJ hs]);exact qah
 obtain⟨b,off,rfl,T⟩:=HK.o.1 qdX;obtain⟨cs,hl1,q,i,E⟩:=Z.o.1 _ _ _ (T k hlt);have t:=B.al uG 35;have M:=zh (fun(w':zW) (h:m.ay w') j u hj=>Mem_cell_w h (q j u hj));have D:=q 0 (cs[0]'zo) (yH _);have s':=Mem_cell_lt B.ay D;have J:=B.ay;by_cases hlt':k<l'.length
 case neg=>
  have HL2:=zh (show bS C l l'=1 from d.o.trans qfw);have HO:=zh t;have N:=zh i;clear B t T q i E D d hX;generalize l[k]=x at*
  go_wp2_with (first
   |refine ae iY rfl (.tmp 16) rfl rfl cs hl1 (M.o _ J) ?_
   | (refine aM iY rfl (.tmp 8) (.tmp 17) rfl (cs:=cs.toArray) rfl rfl rfl qd7 (fun u hu=>N.o u qd2) HO.o.obj ?_;intro w1 g p;have HO2:=zh (HO.o.bN g p)))
  exact qbg
 obtain⟨b',g',rfl,K⟩:=HK.o.2 qd3;obtain⟨f,hl2,F,I,H⟩:=Z.o.1 _ _ _ (K k hlt');have W:=zh (d.o.trans qfs);have HC:=zh (fun w' (h:m.ay w')=>Z.o.2 cs f l[k] l'[k] w' h E H);have Y:=zh (fun(w':zW) (h:m.ay w') j u hj=>Mem_cell_w h (F j u hj));have G:=F 0 (f[0]'zo) (yH _);have r':=Mem_cell_lt B.ay G;have N:=zh (zi i I);have HO:=zh t;clear B t T K q F i I E H D G d;generalize C l[k] l'[k]=r at*
 have HL0:=zh (show r=0->bS C l l'=bS C (l.drop (k+1)) (l'.drop (k+1)) from fun h=>by rw[W.o,h];rfl);have HL1:=zh (show ¬r=0->bS C l l'=r from fun h=>by rw[W.o,jK,zJ h]);clear W
 go_wp2_with (first
  |refine ae iY rfl (.tmp 16) rfl rfl cs hl1 (M.o _ J) ?_
  |(refine aM iY rfl (.tmp 8) (.tmp 17) rfl (cs:=cs.toArray) rfl rfl rfl qd7 (fun u hu=>N.o.1 u qd2) HO.o.obj ?_;intro w1 g p;have s:=(HO.o.bN g p).al uG 35;have q':=s.au.obj.lt;have i':=s.tail.ay)
  |refine ae iY rfl (.tmp 24) rfl rfl f hl2 (Y.o _ (HO.o.bN g p).ay) ?_
  |(refine aM iY rfl (.tmp 9) (.tmp 25) rfl (cs:=f.toArray) rfl rfl rfl qd5 (fun u hu=>N.o.2 u qd2) s.obj ?_;intro w2 P S;have hO3:=s.bN P S;have y1:=hO3.au.obj.all;have y2:=hO3.obj.all)
  |refine ae iY rfl (.tmp 8) rfl rfl cs hl1 y1 ?_
  |refine ae iY rfl (.tmp 9) rfl rfl f hl2 y2 ?_
  | (go_at_call 115;refine(HC.o _ hO3.ay).mono ?_;rintro e w3 ⟨rfl,hb3⟩;by_cases he:r=0;subst he;have HO4:=zh (hO3.aP hb3).tail.tail;clear hO3))
 .exact qbS
 .exact qau
theorem Z4{α:Type}(C:α->α->Int)(A:Nat->Nat->α->Prop)(V:List Value->α->Prop)(v v':zV)(l l':List α)(m:Mem)(w:zW)(hm:m.ay w)
(hA:∀b o x,A b o x->∃cs:List Value,cs.length=20/\(∀j u,cs[j]?=some u->m.cell b (o+j)=some u)/\(∀u∈cs,u.oneCell'=true)/\V cs x)
(hc:∀cs f x x' w',m.ay w'->V cs x->V f x'->zC 118 #[.agg cs.toArray,.agg f.toArray] w' fun e O=>e=.returned (.int .i64 (C x x'))/\Below w'.heap.size w' O)
(hl:Mem.slice A 20 v l)(Q:Mem.slice A 20 v' l'):
 zX 117 #[v,v',.func (.func 118) #[] #[]] w (.int .i64 (bS C l l')):=by
 obtain⟨a,c,rfl,h1,h2,h3⟩:=hl;obtain⟨a',c',rfl,A',U,L⟩:=Q;unfold maxLen at h2 U;have HK:=zh (zi h3 L);have Z:=zh (zi hA hc);have HO:=zh (Own.start hm);clear h3 L hA hc;refine aj fun R hR=>?_
 go_enter func117,ntmps117
 go_wp2;refine av [0,1,2,11,12,13] (fun n vs wr=>∃k:Nat,k<=l.length/\n=l.length-k/\vs=[.slice a l.length c,.slice a' l'.length c',.func (.func 118) #[] #[],.slice a l.length c,.int .i64 l.length,.int .i64 k]/\bS C l l'=bS C (l.drop k) (l'.drop k)/\Own w m wr m []) ?_ ?_
 .exact qbD
 clear HO;rintro X z n vs wr hX-⟨k,hk,rfl,rfl,y,B⟩;have d:=zh y;clear y;simp[aX,lk];by_cases hlt:k<l.length
 case neg=>
  obtain rfl:k=l.length:=zo;have HL:=zh (d.o.trans qfx);have HB:=zh B.az;clear B hX d;by_cases hs:l.length<l'.length
  .have HL2:=zh (show bS C l l' = -1 by rw[HL.o,zK hs]);exact qah
  .have HL2:=zh (show bS C l l'=0 by rw[HL.o,zJ hs]);exact qah
 obtain⟨b,off,rfl,T⟩:=HK.o.1 qdX;obtain⟨cs,hl1,q,i,E⟩:=Z.o.1 _ _ _ (T k hlt);have t:=B.al Wx 58;have M:=zh (fun(w':zW) (h:m.ay w') j u hj=>Mem_cell_w h (q j u hj));have D:=q 0 (cs[0]'zo) (yH _);have s':=Mem_cell_lt B.ay D;have J:=B.ay;by_cases hlt':k<l'.length
 case neg=>
  have HL2:=zh (show bS C l l'=1 from d.o.trans qfw);have HO:=zh t;have N:=zh i;clear B t T q i E D d hX;generalize l[k]=x at*
  go_wp2_with (first
   |refine ae uY rfl (.tmp 16) rfl rfl cs hl1 (M.o _ J) ?_
   | (refine aM uY rfl (.tmp 8) (.tmp 17) rfl (cs:=cs.toArray) rfl rfl rfl qd7 (fun u hu=>N.o u qd2) HO.o.obj ?_;intro w1 g p;have HO2:=zh (HO.o.bN g p)))
  exact qbg
 obtain⟨b',g',rfl,K⟩:=HK.o.2 qd3;obtain⟨f,hl2,F,I,H⟩:=Z.o.1 _ _ _ (K k hlt');have W:=zh (d.o.trans qfs);have HC:=zh (fun w' (h:m.ay w')=>Z.o.2 cs f l[k] l'[k] w' h E H);have Y:=zh (fun(w':zW) (h:m.ay w') j u hj=>Mem_cell_w h (F j u hj));have G:=F 0 (f[0]'zo) (yH _);have r':=Mem_cell_lt B.ay G;have N:=zh (zi i I);have HO:=zh t;clear B t T K q F i I E H D G d;generalize C l[k] l'[k]=r at*
 have HL0:=zh (show r=0->bS C l l'=bS C (l.drop (k+1)) (l'.drop (k+1)) from fun h=>by rw[W.o,h];rfl);have HL1:=zh (show ¬r=0->bS C l l'=r from fun h=>by rw[W.o,jK,zJ h]);clear W
 go_wp2_with (first
  |refine ae uY rfl (.tmp 16) rfl rfl cs hl1 (M.o _ J) ?_
  |(refine aM uY rfl (.tmp 8) (.tmp 17) rfl (cs:=cs.toArray) rfl rfl rfl qd7 (fun u hu=>N.o.1 u qd2) HO.o.obj ?_;intro w1 g p;have s:=(HO.o.bN g p).al Wx 58;have q':=s.au.obj.lt;have i':=s.tail.ay)
  |refine ae uY rfl (.tmp 24) rfl rfl f hl2 (Y.o _ (HO.o.bN g p).ay) ?_
  |(refine aM uY rfl (.tmp 9) (.tmp 25) rfl (cs:=f.toArray) rfl rfl rfl qd5 (fun u hu=>N.o.2 u qd2) s.obj ?_;intro w2 P S;have hO3:=s.bN P S;have y1:=hO3.au.obj.all;have y2:=hO3.obj.all)
  |refine ae uY rfl (.tmp 8) rfl rfl cs hl1 y1 ?_
  |refine ae uY rfl (.tmp 9) rfl rfl f hl2 y2 ?_
  | (go_at_call 118;refine(HC.o _ hO3.ay).mono ?_;rintro e w3 ⟨rfl,hb3⟩;by_cases he:r=0;subst he;have HO4:=zh (hO3.aP hb3).tail.tail;clear hO3))
 .exact qbS
 .exact qau
theorem Z0{α:Type}(C:α->α->Int)(A:Nat->Nat->α->Prop)(V:List Value->α->Prop)(v v':zV)(l l':List α)(m:Mem)(w:zW)(hm:m.ay w)
(hA:∀b o x,A b o x->∃cs:List Value,cs.length=19/\(∀j u,cs[j]?=some u->m.cell b (o+j)=some u)/\(∀u∈cs,u.oneCell'=true)/\V cs x)
(hc:∀cs f x x' w',m.ay w'->V cs x->V f x'->zC 125 #[.agg cs.toArray,.agg f.toArray] w' fun e O=>e=.returned (.int .i64 (C x x'))/\Below w'.heap.size w' O)
(hl:Mem.slice A 19 v l)(Q:Mem.slice A 19 v' l'):
 zX 124 #[v,v',.func (.func 125) #[] #[]] w (.int .i64 (bS C l l')):=by
 obtain⟨a,c,rfl,h1,h2,h3⟩:=hl;obtain⟨a',c',rfl,A',U,L⟩:=Q;unfold maxLen at h2 U;have HK:=zh (zi h3 L);have Z:=zh (zi hA hc);have HO:=zh (Own.start hm);clear h3 L hA hc;refine aj fun R hR=>?_
 go_enter func124,ntmps124
 go_wp2;refine av [0,1,2,11,12,13] (fun n vs wr=>∃k:Nat,k<=l.length/\n=l.length-k/\vs=[.slice a l.length c,.slice a' l'.length c',.func (.func 125) #[] #[],.slice a l.length c,.int .i64 l.length,.int .i64 k]/\bS C l l'=bS C (l.drop k) (l'.drop k)/\Own w m wr m []) ?_ ?_
 .exact qbD
 clear HO;rintro X z n vs wr hX-⟨k,hk,rfl,rfl,y,B⟩;have d:=zh y;clear y;simp[aX,lk];by_cases hlt:k<l.length
 case neg=>
  obtain rfl:k=l.length:=zo;have HL:=zh (d.o.trans qfx);have HB:=zh B.az;clear B hX d;by_cases hs:l.length<l'.length
  .have HL2:=zh (show bS C l l' = -1 by rw[HL.o,zK hs]);exact qah
  .have HL2:=zh (show bS C l l'=0 by rw[HL.o,zJ hs]);exact qah
 obtain⟨b,off,rfl,T⟩:=HK.o.1 qdX;obtain⟨cs,hl1,q,i,E⟩:=Z.o.1 _ _ _ (T k hlt);have t:=B.al Ww 61;have M:=zh (fun(w':zW) (h:m.ay w') j u hj=>Mem_cell_w h (q j u hj));have D:=q 0 (cs[0]'zo) (yH _);have s':=Mem_cell_lt B.ay D;have J:=B.ay;by_cases hlt':k<l'.length
 case neg=>
  have HL2:=zh (show bS C l l'=1 from d.o.trans qfw);have HO:=zh t;have N:=zh i;clear B t T q i E D d hX;generalize l[k]=x at*
  go_wp2_with (first
   |refine ae uX rfl (.tmp 16) rfl rfl cs hl1 (M.o _ J) ?_
   | (refine aM uX rfl (.tmp 8) (.tmp 17) rfl (cs:=cs.toArray) rfl rfl rfl qd7 (fun u hu=>N.o u qd2) HO.o.obj ?_;intro w1 g p;have HO2:=zh (HO.o.bN g p)))
  exact qbg
 obtain⟨b',g',rfl,K⟩:=HK.o.2 qd3;obtain⟨f,hl2,F,I,H⟩:=Z.o.1 _ _ _ (K k hlt');have W:=zh (d.o.trans qfs);have HC:=zh (fun w' (h:m.ay w')=>Z.o.2 cs f l[k] l'[k] w' h E H);have Y:=zh (fun(w':zW) (h:m.ay w') j u hj=>Mem_cell_w h (F j u hj));have G:=F 0 (f[0]'zo) (yH _);have r':=Mem_cell_lt B.ay G;have N:=zh (zi i I);have HO:=zh t;clear B t T K q F i I E H D G d;generalize C l[k] l'[k]=r at*
 have HL0:=zh (show r=0->bS C l l'=bS C (l.drop (k+1)) (l'.drop (k+1)) from fun h=>by rw[W.o,h];rfl);have HL1:=zh (show ¬r=0->bS C l l'=r from fun h=>by rw[W.o,jK,zJ h]);clear W
 go_wp2_with (first
  |refine ae uX rfl (.tmp 16) rfl rfl cs hl1 (M.o _ J) ?_
  |(refine aM uX rfl (.tmp 8) (.tmp 17) rfl (cs:=cs.toArray) rfl rfl rfl qd7 (fun u hu=>N.o.1 u qd2) HO.o.obj ?_;intro w1 g p;have s:=(HO.o.bN g p).al Ww 61;have q':=s.au.obj.lt;have i':=s.tail.ay)
  |refine ae uX rfl (.tmp 24) rfl rfl f hl2 (Y.o _ (HO.o.bN g p).ay) ?_
  |(refine aM uX rfl (.tmp 9) (.tmp 25) rfl (cs:=f.toArray) rfl rfl rfl qd5 (fun u hu=>N.o.2 u qd2) s.obj ?_;intro w2 P S;have hO3:=s.bN P S;have y1:=hO3.au.obj.all;have y2:=hO3.obj.all)
  |refine ae uX rfl (.tmp 8) rfl rfl cs hl1 y1 ?_
  |refine ae uX rfl (.tmp 9) rfl rfl f hl2 y2 ?_
  | (go_at_call 125;refine(HC.o _ hO3.ay).mono ?_;rintro e w3 ⟨rfl,hb3⟩;by_cases he:r=0;subst he;have HO4:=zh (hO3.aP hb3).tail.tail;clear hO3))
 .exact qbS
 .exact qau
theorem PP:o7 prog 51 2:=⟨Tryz.isAgg51,Tryz.sizeOf51⟩
theorem PQ:o7 prog 45 2:=⟨Tryz.isAgg45,Tryz.sizeOf45⟩
theorem ZZ{α:Type}(C:α->α->Int)(A:Nat->Nat->α->Prop)(Rp:List Value->α->Prop)(v v':zV)(l l':List α)(m:Mem)(w:zW)(hm:m.ay w)
(hA:∀b o x,A b o x->∃cs:List Value,cs.length=2/\(∀j u,cs[j]?=some u->m.cell b (o+j)=some u)/\(∀u∈cs,u.oneCell'=true)/\Rp cs x)
(hc:∀cs d x x' w',m.ay w'->Rp cs x->Rp d x'->zC 78 #[.agg cs.toArray,.agg d.toArray] w' fun e Z=>e=.returned (.int .i64 (C x x'))/\Below w'.heap.size w' Z)
(hl:Mem.slice A 2 v l)(d':Mem.slice A 2 v' l'):
 zX 77 #[v,v',.func (.func 78) #[] #[]] w (.int .i64 (bS C l l')):=by
 obtain⟨a,c,rfl,h1,h2,h3⟩:=hl;obtain⟨a',c',rfl,E',f',Q⟩:=d';unfold maxLen at h2 f';have HK:=zh (zi h3 Q);have HA:=zh (zi hA hc);have HO:=zh (Own.start hm);clear h3 Q hA hc;refine aj fun R hR=>?_
 go_enter func77,ntmps77
 go_wp2;refine av [0,1,2,11,12,13] (fun n vs wr=>∃k:Nat,k<=l.length/\n=l.length-k/\vs=[.slice a l.length c,.slice a' l'.length c',.func (.func 78) #[] #[],.slice a l.length c,.int .i64 l.length,.int .i64 k]/\bS C l l'=bS C (l.drop k) (l'.drop k)/\Own w m wr m []) ?_ ?_
 .exact qbD
 clear HO;rintro X z n vs wr hX-⟨k,hk,rfl,rfl,y,B⟩;have f:=zh y;clear y;simp[aX,lk];by_cases hlt:k<l.length
 case neg=>
  obtain rfl:k=l.length:=zo;have HL:=zh (f.o.trans qfx);have HB:=zh B.az;clear B hX f;by_cases hs:l.length<l'.length
  .have HL2:=zh (show bS C l l' = -1 by rw[HL.o,zK hs]);exact qah
  .have HL2:=zh (show bS C l l'=0 by rw[HL.o,zJ hs]);exact qah
 obtain⟨b,off,rfl,h4⟩:=HK.o.1 qdX;obtain⟨cs,hl1,s,q,F⟩:=HA.o.1 _ _ _ (h4 k hlt);have t:=B.al #[.slice none 0 0,.slice none 0 0] 51;have J:=zh (fun(w':zW) (h:m.ay w') j u hj=>Mem_cell_w h (s j u hj));have E:=s 0 (cs[0]'zo) (yH _);have y':=Mem_cell_lt B.ay E;have G:=B.ay;by_cases hlt':k<l'.length
 case neg=>
  have HL2:=zh (show bS C l l'=1 from f.o.trans qfw);have HO:=zh t;have K:=zh q;clear B t h4 s q F E f hX;generalize l[k]=x at*
  go_wp2_with (first
   |refine ae PP rfl (.tmp 16) rfl rfl cs hl1 (J.o _ G) ?_
   | (refine aM PP rfl (.tmp 8) (.tmp 17) rfl (cs:=cs.toArray) rfl rfl rfl qd7 (fun u hu=>K.o u qd2) HO.o.obj ?_;intro w1 i p;have HO2:=zh (HO.o.bN i p)))
  exact qbg
 obtain⟨b',n',rfl,P⟩:=HK.o.2 qd3;obtain⟨d,hl2,I,N,M⟩:=HA.o.1 _ _ _ (P k hlt');have U:=zh (f.o.trans qfs);have HC:=zh (fun w' (h:m.ay w')=>HA.o.2 cs d l[k] l'[k] w' h F M);have S:=zh (fun(w':zW) (h:m.ay w') j u hj=>Mem_cell_w h (I j u hj));have L:=I 0 (d[0]'zo) (yH _);have u':=Mem_cell_lt B.ay L;have K:=zh (zi q N);have HO:=zh t;clear B t h4 P s I q N F M E L f;generalize C l[k] l'[k]=r at*
 by_cases T:r=0
 .subst T;have HL:=zh (show bS C l l'=bS C (l.drop (k+1)) (l'.drop (k+1)) from U.o);clear U
  go_wp2_with (first
   |refine ae PP rfl (.tmp 16) rfl rfl cs hl1 (J.o _ G) ?_
   |(refine aM PP rfl (.tmp 8) (.tmp 17) rfl (cs:=cs.toArray) rfl rfl rfl qd7 (fun u hu=>K.o.1 u qd2) HO.o.obj ?_;intro w1 i p;have g:=(HO.o.bN i p).al #[.slice none 0 0,.slice none 0 0] 51;have Y:=g.au.obj.lt;have O:=g.tail.ay)
   |refine ae PP rfl (.tmp 24) rfl rfl d hl2 (S.o _ (HO.o.bN i p).ay) ?_
   |(refine aM PP rfl (.tmp 9) (.tmp 25) rfl (cs:=d.toArray) rfl rfl rfl qd5 (fun u hu=>K.o.2 u qd2) g.obj ?_;intro w2 D H;have hO3:=g.bN D H;have W:=hO3.au.obj.all;have V:=hO3.obj.all)
   |refine ae PP rfl (.tmp 8) rfl rfl cs hl1 W ?_
   |refine ae PP rfl (.tmp 9) rfl rfl d hl2 V ?_
   | (go_at_call 78;refine(HC.o _ hO3.ay).mono ?_;rintro e w3 ⟨rfl,hb3⟩))
  exact qaE
 .have hd:(r != 0)=true:=bne_iff_ne.2 T;have HL:=zh (show bS C l l'=r by rw[U.o,jK,zJ T]);clear U T hX
  go_wp2_with (first
   |refine ae PP rfl (.tmp 16) rfl rfl cs hl1 (J.o _ G) ?_
   |(refine aM PP rfl (.tmp 8) (.tmp 17) rfl (cs:=cs.toArray) rfl rfl rfl qd7 (fun u hu=>K.o.1 u qd2) HO.o.obj ?_;intro w1 i p;have g:=(HO.o.bN i p).al #[.slice none 0 0,.slice none 0 0] 51;have Y:=g.au.obj.lt;have O:=g.tail.ay)
   |refine ae PP rfl (.tmp 24) rfl rfl d hl2 (S.o _ (HO.o.bN i p).ay) ?_
   |(refine aM PP rfl (.tmp 9) (.tmp 25) rfl (cs:=d.toArray) rfl rfl rfl qd5 (fun u hu=>K.o.2 u qd2) g.obj ?_;intro w2 D H;have hO3:=g.bN D H;have W:=hO3.au.obj.all;have V:=hO3.obj.all)
   |refine ae PP rfl (.tmp 8) rfl rfl cs hl1 W ?_
   |refine ae PP rfl (.tmp 9) rfl rfl d hl2 V ?_
   | (go_at_call 78;refine(HC.o _ hO3.ay).mono ?_;rintro e w3 ⟨rfl,hb3⟩))
  exact qdP
theorem Z5{α:Type}(C:α->α->Int)(A:Nat->Nat->α->Prop)(Rp:List Value->α->Prop)(v v':zV)(l l':List α)(m:Mem)(w:zW)(hm:m.ay w)
(hA:∀b o x,A b o x->∃cs:List Value,cs.length=2/\(∀j u,cs[j]?=some u->m.cell b (o+j)=some u)/\(∀u∈cs,u.oneCell'=true)/\Rp cs x)
(hc:∀cs d x x' w',m.ay w'->Rp cs x->Rp d x'->zC 81 #[.agg cs.toArray,.agg d.toArray] w' fun e Z=>e=.returned (.int .i64 (C x x'))/\Below w'.heap.size w' Z)
(hl:Mem.slice A 2 v l)(d':Mem.slice A 2 v' l'):
 zX 80 #[v,v',.func (.func 81) #[] #[]] w (.int .i64 (bS C l l')):=by
 obtain⟨a,c,rfl,h1,h2,h3⟩:=hl;obtain⟨a',c',rfl,E',f',Q⟩:=d';unfold maxLen at h2 f';have HK:=zh (zi h3 Q);have HA:=zh (zi hA hc);have HO:=zh (Own.start hm);clear h3 Q hA hc;refine aj fun R hR=>?_
 go_enter func80,ntmps80
 go_wp2;refine av [0,1,2,11,12,13] (fun n vs wr=>∃k:Nat,k<=l.length/\n=l.length-k/\vs=[.slice a l.length c,.slice a' l'.length c',.func (.func 81) #[] #[],.slice a l.length c,.int .i64 l.length,.int .i64 k]/\bS C l l'=bS C (l.drop k) (l'.drop k)/\Own w m wr m []) ?_ ?_
 .exact qbD
 clear HO;rintro X z n vs wr hX-⟨k,hk,rfl,rfl,y,B⟩;have f:=zh y;clear y;simp[aX,lk];by_cases hlt:k<l.length
 case neg=>
  obtain rfl:k=l.length:=zo;have HL:=zh (f.o.trans qfx);have HB:=zh B.az;clear B hX f;by_cases hs:l.length<l'.length
  .have HL2:=zh (show bS C l l' = -1 by rw[HL.o,zK hs]);exact qah
  .have HL2:=zh (show bS C l l'=0 by rw[HL.o,zJ hs]);exact qah
 obtain⟨b,off,rfl,h4⟩:=HK.o.1 qdX;obtain⟨cs,hl1,s,q,F⟩:=HA.o.1 _ _ _ (h4 k hlt);have t:=B.al #[.slice none 0 0,.slice none 0 0] 45;have J:=zh (fun(w':zW) (h:m.ay w') j u hj=>Mem_cell_w h (s j u hj));have E:=s 0 (cs[0]'zo) (yH _);have y':=Mem_cell_lt B.ay E;have G:=B.ay;by_cases hlt':k<l'.length
 case neg=>
  have HL2:=zh (show bS C l l'=1 from f.o.trans qfw);have HO:=zh t;have K:=zh q;clear B t h4 s q F E f hX;generalize l[k]=x at*
  go_wp2_with (first
   |refine ae PQ rfl (.tmp 16) rfl rfl cs hl1 (J.o _ G) ?_
   | (refine aM PQ rfl (.tmp 8) (.tmp 17) rfl (cs:=cs.toArray) rfl rfl rfl qd7 (fun u hu=>K.o u qd2) HO.o.obj ?_;intro w1 i p;have HO2:=zh (HO.o.bN i p)))
  exact qbg
 obtain⟨b',n',rfl,P⟩:=HK.o.2 qd3;obtain⟨d,hl2,I,N,M⟩:=HA.o.1 _ _ _ (P k hlt');have U:=zh (f.o.trans qfs);have HC:=zh (fun w' (h:m.ay w')=>HA.o.2 cs d l[k] l'[k] w' h F M);have S:=zh (fun(w':zW) (h:m.ay w') j u hj=>Mem_cell_w h (I j u hj));have L:=I 0 (d[0]'zo) (yH _);have u':=Mem_cell_lt B.ay L;have K:=zh (zi q N);have HO:=zh t;clear B t h4 P s I q N F M E L f;generalize C l[k] l'[k]=r at*
 by_cases T:r=0
 .subst T;have HL:=zh (show bS C l l'=bS C (l.drop (k+1)) (l'.drop (k+1)) from U.o);clear U
  go_wp2_with (first
   |refine ae PQ rfl (.tmp 16) rfl rfl cs hl1 (J.o _ G) ?_
   |(refine aM PQ rfl (.tmp 8) (.tmp 17) rfl (cs:=cs.toArray) rfl rfl rfl qd7 (fun u hu=>K.o.1 u qd2) HO.o.obj ?_;intro w1 i p;have g:=(HO.o.bN i p).al #[.slice none 0 0,.slice none 0 0] 45;have Y:=g.au.obj.lt;have O:=g.tail.ay)
   |refine ae PQ rfl (.tmp 24) rfl rfl d hl2 (S.o _ (HO.o.bN i p).ay) ?_
   |(refine aM PQ rfl (.tmp 9) (.tmp 25) rfl (cs:=d.toArray) rfl rfl rfl qd5 (fun u hu=>K.o.2 u qd2) g.obj ?_;intro w2 D H;have hO3:=g.bN D H;have W:=hO3.au.obj.all;have V:=hO3.obj.all)
   |refine ae PQ rfl (.tmp 8) rfl rfl cs hl1 W ?_
   |refine ae PQ rfl (.tmp 9) rfl rfl d hl2 V ?_
   | (go_at_call 81;refine(HC.o _ hO3.ay).mono ?_;rintro e w3 ⟨rfl,hb3⟩))
  exact qaE
 .have hd:(r != 0)=true:=bne_iff_ne.2 T;have HL:=zh (show bS C l l'=r by rw[U.o,jK,zJ T]);clear U T hX
  go_wp2_with (first
   |refine ae PQ rfl (.tmp 16) rfl rfl cs hl1 (J.o _ G) ?_
   |(refine aM PQ rfl (.tmp 8) (.tmp 17) rfl (cs:=cs.toArray) rfl rfl rfl qd7 (fun u hu=>K.o.1 u qd2) HO.o.obj ?_;intro w1 i p;have g:=(HO.o.bN i p).al #[.slice none 0 0,.slice none 0 0] 45;have Y:=g.au.obj.lt;have O:=g.tail.ay)
   |refine ae PQ rfl (.tmp 24) rfl rfl d hl2 (S.o _ (HO.o.bN i p).ay) ?_
   |(refine aM PQ rfl (.tmp 9) (.tmp 25) rfl (cs:=d.toArray) rfl rfl rfl qd5 (fun u hu=>K.o.2 u qd2) g.obj ?_;intro w2 D H;have hO3:=g.bN D H;have W:=hO3.au.obj.all;have V:=hO3.obj.all)
   |refine ae PQ rfl (.tmp 8) rfl rfl cs hl1 W ?_
   |refine ae PQ rfl (.tmp 9) rfl rfl d hl2 V ?_
   | (go_at_call 81;refine(HC.o _ hO3.ay).mono ?_;rintro e w3 ⟨rfl,hb3⟩))
  exact qdP
abbrev GJ(g1 g2:Nat):List (Nat×Array Value):=[(72,#[.pointer (some ⟨g1,0,none⟩),.pointer (some ⟨g2,0,none⟩)]),(74,#[.pointer (some ⟨g1,0,none⟩),.pointer (some ⟨g2,0,none⟩)]),(76,#[.pointer (some ⟨g1,0,none⟩),.pointer (some ⟨g2,0,none⟩)]),(79,#[.pointer (some ⟨g1,0,none⟩),.pointer (some ⟨g2,0,none⟩)])]
theorem Vt(b a:Nat):∀i (h:i<(GJ b a).length),∀args w,(callFunc ((GJ b a)[i]).1 args).run prog w=.ok (.enter ((GJ b a)[i]).1 args) w:=fun i h=>by
 match i,h with
 |0,_=>exact En
 |1,_=>exact Em
 |2,_=>exact Ej
 |3,_=>exact Ei
theorem bzC(N t:Array Value)(c:List Int)(hk:c.length=4)(m:Mem)(w:zW)(B:m.ay w)
(y:∀(M:Mem) (g l:Nat),m.le M->(∀j u,N[j]?=some u->M.cell g j=some u)->(∀j u,t[j]?=some u->M.cell l j=some u)->∀i (h:i<(GJ g l).length) (z:i<c.length) (w':zW),M.ay w' ->
  zC ((GJ g l)[i]).1 ((GJ g l)[i]).2 w' fun e n=>e=.returned (.int .i64 c[i])/\Below w'.heap.size w' n):
 zX 53 #[.agg N,.agg t] w (.int .i64 (jo c)):=by
 obtain⟨F,x,A,f⟩:=dM 33 N (Own.start B);obtain⟨E,p,s,d⟩:=dM 33 t f;obtain⟨v,k,b,a⟩:=dM 96 #[.func (.func 72) #[] #[.pointer (some ⟨w.heap.size,0,none⟩),.pointer (some ⟨(w.heap.size+1),0,none⟩)],.func (.func 74) #[] #[.pointer (some ⟨w.heap.size,0,none⟩),.pointer (some ⟨(w.heap.size+1),0,none⟩)],.func (.func 76) #[] #[.pointer (some ⟨w.heap.size,0,none⟩),.pointer (some ⟨(w.heap.size+1),0,none⟩)],.func (.func 79) #[] #[.pointer (some ⟨w.heap.size,0,none⟩),.pointer (some ⟨(w.heap.size+1),0,none⟩)]] d;simp only[bR]at s b;have C:=zh (kg (.slice (some ⟨w.heap.size+1+1,0,none⟩) 4 4) (GJ w.heap.size (w.heap.size+1)) c v _ a.ay
  ⟨some ⟨w.heap.size+1+1,0,none⟩,4,rfl,zS,by simp[maxLen],fun _=>⟨_,0,rfl,fun i h=>by
   rw[yZ]
   match i,h with
   |0,_=>exact b 0 _ rfl
   |1,_=>exact b 1 _ rfl
   |2,_=>exact b 2 _ rfl
   | 3,_=>exact b 3 _ rfl⟩⟩
  ⟨Vt _ _,fun i h z w' q=>y v _ _ (Mem.le_trans x (Mem.le_trans p k)) (fun j u r=>Mem_cell_le (Mem.le_trans p k) (A j u r)) (fun j u r=>Mem_cell_le k (s j u r)) i h z w' q,by simp[hk],fun h=>absurd h qeL⟩)
 have HO:=zh a;clear f d a A s b x p k y;refine aj fun R hR=>?_
 go_enter func53,ntmps53
 go_wp2_with (go_at_call 71;refine C.o.mono ?_;rintro e D ⟨rfl,hb1⟩)
 exact qa0
theorem RF:∀args w,(callFunc 109 args).run prog w=.ok (.enter 109 args) w:=enters_of func109 zk rfl
theorem RD:∀args w,(callFunc 111 args).run prog w=.ok (.enter 111 args) w:=enters_of func111 zk rfl
theorem RB:∀args w,(callFunc 112 args).run prog w=.ok (.enter 112 args) w:=enters_of func112 zk rfl
abbrev GL(g1 g2:Nat):List (Nat×Array Value):=[(109,#[.pointer (some ⟨g1,0,none⟩),.pointer (some ⟨g2,0,none⟩)]),(111,#[.pointer (some ⟨g1,0,none⟩),.pointer (some ⟨g2,0,none⟩)]),(112,#[.pointer (some ⟨g1,0,none⟩),.pointer (some ⟨g2,0,none⟩)])]
theorem Vv(b a:Nat):∀i (h:i<(GL b a).length),∀args w,(callFunc ((GL b a)[i]).1 args).run prog w=.ok (.enter ((GL b a)[i]).1 args) w:=fun i h=>by
 match i,h with
 |0,_=>exact RF
 |1,_=>exact RD
 |2,_=>exact RB
theorem bzE(N t:Array Value)(b:List Int)(hk:b.length=3)(m:Mem)(w:zW)(B:m.ay w)
(y:∀(M:Mem) (g l:Nat),m.le M->(∀j u,N[j]?=some u->M.cell g j=some u)->(∀j u,t[j]?=some u->M.cell l j=some u)->∀i (h:i<(GL g l).length) (z:i<b.length) (w':zW),M.ay w' ->
  zC ((GL g l)[i]).1 ((GL g l)[i]).2 w' fun e n=>e=.returned (.int .i64 b[i])/\Below w'.heap.size w' n):
 zX 78 #[.agg N,.agg t] w (.int .i64 (jo b)):=by
 obtain⟨F,x,A,d⟩:=dM 51 N (Own.start B);obtain⟨E,p,s,c⟩:=dM 51 t d;obtain⟨v,k,f,a⟩:=dM 96 #[.func (.func 109) #[] #[.pointer (some ⟨w.heap.size,0,none⟩),.pointer (some ⟨(w.heap.size+1),0,none⟩)],.func (.func 111) #[] #[.pointer (some ⟨w.heap.size,0,none⟩),.pointer (some ⟨(w.heap.size+1),0,none⟩)],.func (.func 112) #[] #[.pointer (some ⟨w.heap.size,0,none⟩),.pointer (some ⟨(w.heap.size+1),0,none⟩)]] c;simp only[bR]at s f;have C:=zh (kg (.slice (some ⟨w.heap.size+1+1,0,none⟩) 3 3) (GL w.heap.size (w.heap.size+1)) b v _ a.ay
  ⟨some ⟨w.heap.size+1+1,0,none⟩,3,rfl,zS,by simp[maxLen],fun _=>⟨_,0,rfl,fun i h=>by
   rw[yZ]
   match i,h with
   |0,_=>exact f 0 _ rfl
   |1,_=>exact f 1 _ rfl
   | 2,_=>exact f 2 _ rfl⟩⟩
  ⟨Vv _ _,fun i h z w' q=>y v _ _ (Mem.le_trans x (Mem.le_trans p k)) (fun j u r=>Mem_cell_le (Mem.le_trans p k) (A j u r)) (fun j u r=>Mem_cell_le k (s j u r)) i h z w' q,by simp[hk],fun h=>absurd h qeL⟩)
 have HO:=zh a;clear d c a A s f x p k y;refine aj fun R hR=>?_
 go_enter func78,ntmps78
 go_wp2_with (go_at_call 71;refine C.o.mono ?_;rintro e D ⟨rfl,hb1⟩)
 exact qa0
theorem RO:∀args w,(callFunc 164 args).run prog w=.ok (.enter 164 args) w:=enters_of func164 zk rfl
theorem RN:∀args w,(callFunc 165 args).run prog w=.ok (.enter 165 args) w:=enters_of func165 zk rfl
abbrev GQ(g1 g2:Nat):List (Nat×Array Value):=[(164,#[.pointer (some ⟨g1,0,none⟩),.pointer (some ⟨g2,0,none⟩)]),(165,#[.pointer (some ⟨g1,0,none⟩),.pointer (some ⟨g2,0,none⟩)])]
theorem Vy(b a:Nat):∀i (h:i<(GQ b a).length),∀args w,(callFunc ((GQ b a)[i]).1 args).run prog w=.ok (.enter ((GQ b a)[i]).1 args) w:=fun i h=>by
 match i,h with
 |0,_=>exact RO
 |1,_=>exact RN
theorem bzH(N t:Array Value)(b:List Int)(hk:b.length=2)(m:Mem)(w:zW)(B:m.ay w)
(y:∀(M:Mem) (g k:Nat),m.le M->(∀j u,N[j]?=some u->M.cell g j=some u)->(∀j u,t[j]?=some u->M.cell k j=some u)->∀i (h:i<(GQ g k).length) (z:i<b.length) (w':zW),M.ay w' ->
  zC ((GQ g k)[i]).1 ((GQ g k)[i]).2 w' fun e n=>e=.returned (.int .i64 b[i])/\Below w'.heap.size w' n):
 zX 115 #[.agg N,.agg t] w (.int .i64 (jo b)):=by
 obtain⟨F,x,A,d⟩:=dM 35 N (Own.start B);obtain⟨E,p,s,c⟩:=dM 35 t d;obtain⟨v,f,l,a⟩:=dM 96 #[.func (.func 164) #[] #[.pointer (some ⟨w.heap.size,0,none⟩),.pointer (some ⟨(w.heap.size+1),0,none⟩)],.func (.func 165) #[] #[.pointer (some ⟨w.heap.size,0,none⟩),.pointer (some ⟨(w.heap.size+1),0,none⟩)]] c;simp only[bR]at s l;have C:=zh (kg (.slice (some ⟨w.heap.size+1+1,0,none⟩) 2 2) (GQ w.heap.size (w.heap.size+1)) b v _ a.ay
  ⟨some ⟨w.heap.size+1+1,0,none⟩,2,rfl,zS,by simp[maxLen],fun _=>⟨_,0,rfl,fun i h=>by
   rw[yZ]
   match i,h with
   |0,_=>exact l 0 _ rfl
   | 1,_=>exact l 1 _ rfl⟩⟩
  ⟨Vy _ _,fun i h z w' q=>y v _ _ (Mem.le_trans x (Mem.le_trans p f)) (fun j u r=>Mem_cell_le (Mem.le_trans p f) (A j u r)) (fun j u r=>Mem_cell_le f (s j u r)) i h z w' q,by simp[hk],fun h=>absurd h qeL⟩)
 have HO:=zh a;clear d c a A s l x p f y;refine aj fun R hR=>?_
 go_enter func115,ntmps115
 go_wp2_with (go_at_call 71;refine C.o.mono ?_;rintro e D ⟨rfl,hb1⟩)
 exact qa0
theorem Rz:∀args w,(callFunc 116 args).run prog w=.ok (.enter 116 args) w:=enters_of func116 zk rfl
theorem Ry:∀args w,(callFunc 123 args).run prog w=.ok (.enter 123 args) w:=enters_of func123 zk rfl
abbrev GK(g1 g2:Nat):List (Nat×Array Value):=[(116,#[.pointer (some ⟨g1,0,none⟩),.pointer (some ⟨g2,0,none⟩)]),(123,#[.pointer (some ⟨g1,0,none⟩),.pointer (some ⟨g2,0,none⟩)])]
theorem Vu(b a:Nat):∀i (h:i<(GK b a).length),∀args w,(callFunc ((GK b a)[i]).1 args).run prog w=.ok (.enter ((GK b a)[i]).1 args) w:=fun i h=>by
 match i,h with
 |0,_=>exact Rz
 |1,_=>exact Ry
theorem bzD(N t:Array Value)(b:List Int)(hk:b.length=2)(m:Mem)(w:zW)(B:m.ay w)
(y:∀(M:Mem) (g k:Nat),m.le M->(∀j u,N[j]?=some u->M.cell g j=some u)->(∀j u,t[j]?=some u->M.cell k j=some u)->∀i (h:i<(GK g k).length) (z:i<b.length) (w':zW),M.ay w' ->
  zC ((GK g k)[i]).1 ((GK g k)[i]).2 w' fun e n=>e=.returned (.int .i64 b[i])/\Below w'.heap.size w' n):
 zX 81 #[.agg N,.agg t] w (.int .i64 (jo b)):=by
 obtain⟨F,x,A,d⟩:=dM 45 N (Own.start B);obtain⟨E,p,s,c⟩:=dM 45 t d;obtain⟨v,f,l,a⟩:=dM 96 #[.func (.func 116) #[] #[.pointer (some ⟨w.heap.size,0,none⟩),.pointer (some ⟨(w.heap.size+1),0,none⟩)],.func (.func 123) #[] #[.pointer (some ⟨w.heap.size,0,none⟩),.pointer (some ⟨(w.heap.size+1),0,none⟩)]] c;simp only[bR]at s l;have C:=zh (kg (.slice (some ⟨w.heap.size+1+1,0,none⟩) 2 2) (GK w.heap.size (w.heap.size+1)) b v _ a.ay
  ⟨some ⟨w.heap.size+1+1,0,none⟩,2,rfl,zS,by simp[maxLen],fun _=>⟨_,0,rfl,fun i h=>by
   rw[yZ]
   match i,h with
   |0,_=>exact l 0 _ rfl
   | 1,_=>exact l 1 _ rfl⟩⟩
  ⟨Vu _ _,fun i h z w' q=>y v _ _ (Mem.le_trans x (Mem.le_trans p f)) (fun j u r=>Mem_cell_le (Mem.le_trans p f) (A j u r)) (fun j u r=>Mem_cell_le f (s j u r)) i h z w' q,by simp[hk],fun h=>absurd h qeL⟩)
 have HO:=zh a;clear d c a A s l x p f y;refine aj fun R hR=>?_
 go_enter func81,ntmps81
 go_wp2_with (go_at_call 71;refine C.o.mono ?_;rintro e D ⟨rfl,hb1⟩)
 exact qa0
theorem RL:∀args w,(callFunc 119 args).run prog w=.ok (.enter 119 args) w:=enters_of func119 zk rfl
theorem RJ:∀args w,(callFunc 121 args).run prog w=.ok (.enter 121 args) w:=enters_of func121 zk rfl
theorem RI:∀args w,(callFunc 122 args).run prog w=.ok (.enter 122 args) w:=enters_of func122 zk rfl
abbrev GN(g1 g2:Nat):List (Nat×Array Value):=[(119,#[.pointer (some ⟨g1,0,none⟩),.pointer (some ⟨g2,0,none⟩)]),(121,#[.pointer (some ⟨g1,0,none⟩),.pointer (some ⟨g2,0,none⟩)]),(122,#[.pointer (some ⟨g1,0,none⟩),.pointer (some ⟨g2,0,none⟩)])]
theorem Vx(b a:Nat):∀i (h:i<(GN b a).length),∀args w,(callFunc ((GN b a)[i]).1 args).run prog w=.ok (.enter ((GN b a)[i]).1 args) w:=fun i h=>by
 match i,h with
 |0,_=>exact RL
 |1,_=>exact RJ
 |2,_=>exact RI
theorem bzG(N t:Array Value)(b:List Int)(hk:b.length=3)(m:Mem)(w:zW)(B:m.ay w)
(y:∀(M:Mem) (g l:Nat),m.le M->(∀j u,N[j]?=some u->M.cell g j=some u)->(∀j u,t[j]?=some u->M.cell l j=some u)->∀i (h:i<(GN g l).length) (z:i<b.length) (w':zW),M.ay w' ->
  zC ((GN g l)[i]).1 ((GN g l)[i]).2 w' fun e n=>e=.returned (.int .i64 b[i])/\Below w'.heap.size w' n):
 zX 118 #[.agg N,.agg t] w (.int .i64 (jo b)):=by
 obtain⟨F,x,A,d⟩:=dM 58 N (Own.start B);obtain⟨E,p,s,c⟩:=dM 58 t d;obtain⟨v,k,f,a⟩:=dM 96 #[.func (.func 119) #[] #[.pointer (some ⟨w.heap.size,0,none⟩),.pointer (some ⟨(w.heap.size+1),0,none⟩)],.func (.func 121) #[] #[.pointer (some ⟨w.heap.size,0,none⟩),.pointer (some ⟨(w.heap.size+1),0,none⟩)],.func (.func 122) #[] #[.pointer (some ⟨w.heap.size,0,none⟩),.pointer (some ⟨(w.heap.size+1),0,none⟩)]] c;simp only[bR]at s f;have C:=zh (kg (.slice (some ⟨w.heap.size+1+1,0,none⟩) 3 3) (GN w.heap.size (w.heap.size+1)) b v _ a.ay
  ⟨some ⟨w.heap.size+1+1,0,none⟩,3,rfl,zS,by simp[maxLen],fun _=>⟨_,0,rfl,fun i h=>by
   rw[yZ]
   match i,h with
   |0,_=>exact f 0 _ rfl
   |1,_=>exact f 1 _ rfl
   | 2,_=>exact f 2 _ rfl⟩⟩
  ⟨Vx _ _,fun i h z w' q=>y v _ _ (Mem.le_trans x (Mem.le_trans p k)) (fun j u r=>Mem_cell_le (Mem.le_trans p k) (A j u r)) (fun j u r=>Mem_cell_le k (s j u r)) i h z w' q,by simp[hk],fun h=>absurd h qeL⟩)
 have HO:=zh a;clear d c a A s f x p k y;refine aj fun R hR=>?_
 go_enter func118,ntmps118
 go_wp2_with (go_at_call 71;refine C.o.mono ?_;rintro e D ⟨rfl,hb1⟩)
 exact qa0
theorem RH:∀args w,(callFunc 126 args).run prog w=.ok (.enter 126 args) w:=enters_of func126 zk rfl
theorem RG:∀args w,(callFunc 127 args).run prog w=.ok (.enter 127 args) w:=enters_of func127 zk rfl
abbrev GM(g1 g2:Nat):List (Nat×Array Value):=[(126,#[.pointer (some ⟨g1,0,none⟩),.pointer (some ⟨g2,0,none⟩)]),(127,#[.pointer (some ⟨g1,0,none⟩),.pointer (some ⟨g2,0,none⟩)])]
theorem Vw(b a:Nat):∀i (h:i<(GM b a).length),∀args w,(callFunc ((GM b a)[i]).1 args).run prog w=.ok (.enter ((GM b a)[i]).1 args) w:=fun i h=>by
 match i,h with
 |0,_=>exact RH
 |1,_=>exact RG
theorem bzF(N t:Array Value)(b:List Int)(hk:b.length=2)(m:Mem)(w:zW)(B:m.ay w)
(y:∀(M:Mem) (g k:Nat),m.le M->(∀j u,N[j]?=some u->M.cell g j=some u)->(∀j u,t[j]?=some u->M.cell k j=some u)->∀i (h:i<(GM g k).length) (z:i<b.length) (w':zW),M.ay w' ->
  zC ((GM g k)[i]).1 ((GM g k)[i]).2 w' fun e n=>e=.returned (.int .i64 b[i])/\Below w'.heap.size w' n):
 zX 125 #[.agg N,.agg t] w (.int .i64 (jo b)):=by
 obtain⟨F,x,A,d⟩:=dM 61 N (Own.start B);obtain⟨E,p,s,c⟩:=dM 61 t d;obtain⟨v,f,l,a⟩:=dM 96 #[.func (.func 126) #[] #[.pointer (some ⟨w.heap.size,0,none⟩),.pointer (some ⟨(w.heap.size+1),0,none⟩)],.func (.func 127) #[] #[.pointer (some ⟨w.heap.size,0,none⟩),.pointer (some ⟨(w.heap.size+1),0,none⟩)]] c;simp only[bR]at s l;have C:=zh (kg (.slice (some ⟨w.heap.size+1+1,0,none⟩) 2 2) (GM w.heap.size (w.heap.size+1)) b v _ a.ay
  ⟨some ⟨w.heap.size+1+1,0,none⟩,2,rfl,zS,by simp[maxLen],fun _=>⟨_,0,rfl,fun i h=>by
   rw[yZ]
   match i,h with
   |0,_=>exact l 0 _ rfl
   | 1,_=>exact l 1 _ rfl⟩⟩
  ⟨Vw _ _,fun i h z w' q=>y v _ _ (Mem.le_trans x (Mem.le_trans p f)) (fun j u r=>Mem_cell_le (Mem.le_trans p f) (A j u r)) (fun j u r=>Mem_cell_le f (s j u r)) i h z w' q,by simp[hk],fun h=>absurd h qeL⟩)
 have HO:=zh a;clear d c a A s l x p f y;refine aj fun R hR=>?_
 go_enter func125,ntmps125
 go_wp2_with (go_at_call 71;refine C.o.mono ?_;rintro e D ⟨rfl,hb1⟩)
 exact qa0
theorem ZU(g i:Nat)(cs a:List Value)(r:Int)(m:Mem)(w:zW)(b:m.ay w)(q:cs.length=6)(c:a.length=6)(h:∀j u,cs[j]?=some u->m.cell g (1+j)=some u)(f:∀j u,a[j]?=some u->m.cell i (1+j)=some u)
(n:zX 75 #[.agg cs.toArray,.agg a.toArray] w (.int .i64 r)):
 zX 74 #[.pointer (some ⟨g,0,none⟩),.pointer (some ⟨i,0,none⟩)] w (.int .i64 r):=by
 have l:∀j u,cs[j]?=some u->w.cell? ⟨g,1+j,none⟩=some u:=fun j u d=>Mem_cell_w b (h j u d);have k:∀j u,a[j]?=some u->w.cell? ⟨i,1+j,none⟩=some u:=fun j u d=>Mem_cell_w b (f j u d);have x:=Mem_cell_lt b (h 0 (cs[0]'zo) (yH _));have v:=Mem_cell_lt b (f 0 (a[0]'zo) (yH _));have s:=zh n;have p:=zh (zi l k);clear n h f l k;refine aj fun R hR=>?_
 go_enter func74,ntmps74
 go_wp2_with (first|refine ae K3 rfl (.tmp 3) rfl rfl cs q p.o.1 ?_|refine ae K3 rfl (.tmp 5) rfl rfl a c p.o.2 ?_|(go_at_call 75;refine s.o.mono ?_;rintro e t ⟨rfl,hb1⟩))
 exact qaL
theorem azf(g i:Nat)(cs a:List Value)(r:Int)(m:Mem)(w:zW)(b:m.ay w)(q:cs.length=9)(c:a.length=9)(h:∀j u,cs[j]?=some u->m.cell g (0+j)=some u)(f:∀j u,a[j]?=some u->m.cell i (0+j)=some u)
(n:zX 53 #[.agg cs.toArray,.agg a.toArray] w (.int .i64 r)):
 zX 164 #[.pointer (some ⟨g,0,none⟩),.pointer (some ⟨i,0,none⟩)] w (.int .i64 r):=by
 have l:∀j u,cs[j]?=some u->w.cell? ⟨g,0+j,none⟩=some u:=fun j u d=>Mem_cell_w b (h j u d);have k:∀j u,a[j]?=some u->w.cell? ⟨i,0+j,none⟩=some u:=fun j u d=>Mem_cell_w b (f j u d);have x:=Mem_cell_lt b (h 0 (cs[0]'zo) (yH _));have v:=Mem_cell_lt b (f 0 (a[0]'zo) (yH _));have s:=zh n;have p:=zh (zi l k);clear n h f l k;refine aj fun R hR=>?_
 go_enter func164,ntmps164
 go_wp2_with (first|refine ae iH rfl (.tmp 3) rfl rfl cs q p.o.1 ?_|refine ae iH rfl (.tmp 5) rfl rfl a c p.o.2 ?_|(go_at_call 53;refine s.o.mono ?_;rintro e t ⟨rfl,hb1⟩))
 exact qaL
theorem aze(g i:Nat)(cs a:List Value)(r:Int)(m:Mem)(w:zW)(b:m.ay w)(q:cs.length=9)(c:a.length=9)(h:∀j u,cs[j]?=some u->m.cell g (9+j)=some u)(f:∀j u,a[j]?=some u->m.cell i (9+j)=some u)
(n:zX 53 #[.agg cs.toArray,.agg a.toArray] w (.int .i64 r)):
 zX 165 #[.pointer (some ⟨g,0,none⟩),.pointer (some ⟨i,0,none⟩)] w (.int .i64 r):=by
 have l:∀j u,cs[j]?=some u->w.cell? ⟨g,9+j,none⟩=some u:=fun j u d=>Mem_cell_w b (h j u d);have k:∀j u,a[j]?=some u->w.cell? ⟨i,9+j,none⟩=some u:=fun j u d=>Mem_cell_w b (f j u d);have x:=Mem_cell_lt b (h 0 (cs[0]'zo) (yH _));have v:=Mem_cell_lt b (f 0 (a[0]'zo) (yH _));have s:=zh n;have p:=zh (zi l k);clear n h f l k;refine aj fun R hR=>?_
 go_enter func165,ntmps165
 go_wp2_with (first|refine ae iH rfl (.tmp 3) rfl rfl cs q p.o.1 ?_|refine ae iH rfl (.tmp 5) rfl rfl a c p.o.2 ?_|(go_at_call 53;refine s.o.mono ?_;rintro e t ⟨rfl,hb1⟩))
 exact qaL
theorem azb(g i:Nat)(cs a:List Value)(r:Int)(m:Mem)(w:zW)(b:m.ay w)(q:cs.length=18)(c:a.length=18)(h:∀j u,cs[j]?=some u->m.cell g (2+j)=some u)(f:∀j u,a[j]?=some u->m.cell i (2+j)=some u)
(n:zX 115 #[.agg cs.toArray,.agg a.toArray] w (.int .i64 r)):
 zX 122 #[.pointer (some ⟨g,0,none⟩),.pointer (some ⟨i,0,none⟩)] w (.int .i64 r):=by
 have l:∀j u,cs[j]?=some u->w.cell? ⟨g,2+j,none⟩=some u:=fun j u d=>Mem_cell_w b (h j u d);have k:∀j u,a[j]?=some u->w.cell? ⟨i,2+j,none⟩=some u:=fun j u d=>Mem_cell_w b (f j u d);have x:=Mem_cell_lt b (h 0 (cs[0]'zo) (yH _));have v:=Mem_cell_lt b (f 0 (a[0]'zo) (yH _));have s:=zh n;have p:=zh (zi l k);clear n h f l k;refine aj fun R hR=>?_
 go_enter func122,ntmps122
 go_wp2_with (first|refine ae iY rfl (.tmp 3) rfl rfl cs q p.o.1 ?_|refine ae iY rfl (.tmp 5) rfl rfl a c p.o.2 ?_|(go_at_call 115;refine s.o.mono ?_;rintro e t ⟨rfl,hb1⟩))
 exact qaL
theorem Z9(g i:Nat)(cs a:List Value)(r:Int)(m:Mem)(w:zW)(b:m.ay w)(q:cs.length=18)(c:a.length=18)(h:∀j u,cs[j]?=some u->m.cell g (1+j)=some u)(f:∀j u,a[j]?=some u->m.cell i (1+j)=some u)
(n:zX 115 #[.agg cs.toArray,.agg a.toArray] w (.int .i64 r)):
 zX 127 #[.pointer (some ⟨g,0,none⟩),.pointer (some ⟨i,0,none⟩)] w (.int .i64 r):=by
 have l:∀j u,cs[j]?=some u->w.cell? ⟨g,1+j,none⟩=some u:=fun j u d=>Mem_cell_w b (h j u d);have k:∀j u,a[j]?=some u->w.cell? ⟨i,1+j,none⟩=some u:=fun j u d=>Mem_cell_w b (f j u d);have x:=Mem_cell_lt b (h 0 (cs[0]'zo) (yH _));have v:=Mem_cell_lt b (f 0 (a[0]'zo) (yH _));have s:=zh n;have p:=zh (zi l k);clear n h f l k;refine aj fun R hR=>?_
 go_enter func127,ntmps127
 go_wp2_with (first|refine ae iY rfl (.tmp 3) rfl rfl cs q p.o.1 ?_|refine ae iY rfl (.tmp 5) rfl rfl a c p.o.2 ?_|(go_at_call 115;refine s.o.mono ?_;rintro e t ⟨rfl,hb1⟩))
 exact qaL
theorem ZT(g h:Nat)(u d:zV)(r:Int)(m:Mem)(w:zW)(a:m.ay w)(c:m.cell g 7=some (u))(b:m.cell h 7=some (d))
(f:zX 77 #[u,d,.func (.func 78) #[] #[]] w (.int .i64 r)):
 zX 76 #[.pointer (some ⟨g,0,none⟩),.pointer (some ⟨h,0,none⟩)] w (.int .i64 r):=by
 have l:=Mem_cell_w a c;have k:=Mem_cell_w a b;have p:=Mem_cell_lt a c;have n:=Mem_cell_lt a b;have i:=zh f;clear f c b;refine aj fun R hR=>?_
 go_enter func76,ntmps76
 go_wp2_with (go_at_call 77;refine i.o.mono ?_;rintro e j ⟨rfl,hb1⟩)
 exact qaL
theorem ZR(g h:Nat)(u d:zV)(r:Int)(m:Mem)(w:zW)(a:m.ay w)(c:m.cell g 8=some (u))(b:m.cell h 8=some (d))
(f:zX 80 #[u,d,.func (.func 81) #[] #[]] w (.int .i64 r)):
 zX 79 #[.pointer (some ⟨g,0,none⟩),.pointer (some ⟨h,0,none⟩)] w (.int .i64 r):=by
 have l:=Mem_cell_w a c;have k:=Mem_cell_w a b;have p:=Mem_cell_lt a c;have n:=Mem_cell_lt a b;have i:=zh f;clear f c b;refine aj fun R hR=>?_
 go_enter func79,ntmps79
 go_wp2_with (go_at_call 80;refine i.o.mono ?_;rintro e j ⟨rfl,hb1⟩)
 exact qaL
theorem ZW(g h:Nat)(u d:zV)(r:Int)(m:Mem)(w:zW)(a:m.ay w)(c:m.cell g 0=some (u))(b:m.cell h 0=some (d))
(f:zX 117 #[u,d,.func (.func 118) #[] #[]] w (.int .i64 r)):
 zX 116 #[.pointer (some ⟨g,0,none⟩),.pointer (some ⟨h,0,none⟩)] w (.int .i64 r):=by
 have l:=Mem_cell_w a c;have k:=Mem_cell_w a b;have p:=Mem_cell_lt a c;have n:=Mem_cell_lt a b;have i:=zh f;clear f c b;refine aj fun R hR=>?_
 go_enter func116,ntmps116
 go_wp2_with (go_at_call 117;refine i.o.mono ?_;rintro e j ⟨rfl,hb1⟩)
 exact qaL
theorem ZV(g h:Nat)(u d:zV)(r:Int)(m:Mem)(w:zW)(a:m.ay w)(c:m.cell g 1=some (u))(b:m.cell h 1=some (d))
(f:zX 124 #[u,d,.func (.func 125) #[] #[]] w (.int .i64 r)):
 zX 123 #[.pointer (some ⟨g,0,none⟩),.pointer (some ⟨h,0,none⟩)] w (.int .i64 r):=by
 have l:=Mem_cell_w a c;have k:=Mem_cell_w a b;have p:=Mem_cell_lt a c;have n:=Mem_cell_lt a b;have i:=zh f;clear f c b;refine aj fun R hR=>?_
 go_enter func123,ntmps123
 go_wp2_with (go_at_call 124;refine i.o.mono ?_;rintro e j ⟨rfl,hb1⟩)
 exact qaL
theorem azd(g h:Nat)(u d:ByteArray)(r:Int)(m:Mem)(w:zW)(a:m.ay w)(c:m.cell g 0=some (.string u))(b:m.cell h 0=some (.string d))
(f:zX 120 #[.string u,.string d] w (.int .i64 r)):
 zX 119 #[.pointer (some ⟨g,0,none⟩),.pointer (some ⟨h,0,none⟩)] w (.int .i64 r):=by
 have l:=Mem_cell_w a c;have k:=Mem_cell_w a b;have p:=Mem_cell_lt a c;have n:=Mem_cell_lt a b;have i:=zh f;clear f c b;refine aj fun R hR=>?_
 go_enter func119,ntmps119
 go_wp2_with (go_at_call 120;refine i.o.mono ?_;rintro e j ⟨rfl,hb1⟩)
 exact qaL
theorem azc(g h:Nat)(u d:Int)(r:Int)(m:Mem)(w:zW)(a:m.ay w)(c:m.cell g 1=some (.int .i64 u))(b:m.cell h 1=some (.int .i64 d))
(f:zX 110 #[.int .i64 u,.int .i64 d] w (.int .i64 r)):
 zX 121 #[.pointer (some ⟨g,0,none⟩),.pointer (some ⟨h,0,none⟩)] w (.int .i64 r):=by
 have l:=Mem_cell_w a c;have k:=Mem_cell_w a b;have p:=Mem_cell_lt a c;have n:=Mem_cell_lt a b;have i:=zh f;clear f c b;refine aj fun R hR=>?_
 go_enter func121,ntmps121
 go_wp2_with (go_at_call 110;refine i.o.mono ?_;rintro e j ⟨rfl,hb1⟩)
 exact qaL
theorem aza(g h:Nat)(u d:zV)(r:Int)(m:Mem)(w:zW)(a:m.ay w)(c:m.cell g 0=some (u))(b:m.cell h 0=some (d))
(f:zX 108 #[.agg #[u],.agg #[d]] w (.int .i64 r)):
 zX 126 #[.pointer (some ⟨g,0,none⟩),.pointer (some ⟨h,0,none⟩)] w (.int .i64 r):=by
 have l:=Mem_cell_w a c;have k:=Mem_cell_w a b;have p:=Mem_cell_lt a c;have n:=Mem_cell_lt a b;have i:=zh f;clear f c b;refine aj fun R hR=>?_
 go_enter func126,ntmps126
 go_wp2_with (go_at_call 108;refine i.o.mono ?_;rintro e j ⟨rfl,hb1⟩)
 exact qaL
theorem Z8(g k:Nat){s r:Nat->Nat->Vd->Prop}(u i:zV)(l j:List Vd)(m:Mem)(w:zW)(b:m.ay w)(h:m.cell g 0=some u)(f:m.cell k 0=some i)(q:Mem.slice s 18 u l)(p:Mem.slice r 18 i j):
 zX 109 #[.pointer (some ⟨g,0,none⟩),.pointer (some ⟨k,0,none⟩)] w (.int .i64 (Lib.compareInt l.length j.length)):=by
 obtain⟨a,c,rfl,y,n,-⟩:=q;obtain⟨C,B,rfl,o,d,-⟩:=p;unfold maxLen at n d;have x:=Mem_cell_w b h;have v:=Mem_cell_w b f;have A:=Mem_cell_lt b h;have z:=Mem_cell_lt b f;clear h f;refine aj fun R hR=>?_
 go_enter func109,ntmps109
 go_wp2_with (go_at_call 110;refine(Tryz.cmp_Compare_int _ _ _).mono ?_;rintro e t ⟨rfl,rfl⟩)
 exact qcm
theorem Z7(g n:Nat){x v:Nat->Nat->Vd->Prop}(u j:zV)(l k:List Vd)(m:Mem)(w:zW)(b:m.ay w)(i:m.cell g 1=some u)(h:m.cell n 1=some j)(s:Mem.slice x 18 u l)(r:Mem.slice v 18 j k):
 zX 111 #[.pointer (some ⟨g,0,none⟩),.pointer (some ⟨n,0,none⟩)] w (.int .i64 (ng (decide (0<l.length)) (decide (0<k.length)))):=by
 obtain⟨a,c,rfl,B,p,-⟩:=s;obtain⟨F,E,rfl,q,d,-⟩:=r;unfold maxLen at p d;have A:=Mem_cell_w b i;have z:=Mem_cell_w b h;have D:=Mem_cell_lt b i;have C:=Mem_cell_lt b h;clear i h;refine aj fun R t=>?_
 go_enter func111,ntmps111
 go_wp2_with (go_at_call 73;refine(DR _ _ _).mono ?_;rintro e y ⟨rfl,f⟩)
 exact t.o _ _ ⟨zS,f⟩
theorem Z6(g J:Nat)(H G p l:zV)(c s:Lc)(n:Nat)(r:Int)(m:Mem)(w:zW)(X:m.ay w)(T:m.cell g 0=some H)(S:m.cell g 1=some G)(D:m.cell J 0=some p)(C:m.cell J 1=some l)
(O:bO (bG m n) m H c.1)(N:bO (bG m n) m G c.2)(y:bO (bG m n) m p s.1)(x:bO (bG m n) m l s.2)(B:c.1.length+c.2.length<=1048576)(q:s.1.length+s.2.length<=1048576)
(P:∀(M:Mem) (v v':zV) (w':zW),m.le M->M.ay w'->bO (bG M n) M v (bW c)->bO (bG M n) M v' (bW s)->zC 113 #[v,v',.func (.func 115) #[] #[]] w' fun e I=>e=.returned (.int .i64 r)/\Below w'.heap.size w' I):
 zX 112 #[.pointer (some ⟨g,0,none⟩),.pointer (some ⟨J,0,none⟩)] w (.int .i64 r):=by
 have U:=zh (fun w' (h:m.ay w')=>kG H G c m n w' h O N B);have F:=zh (fun w' (h:m.ay w')=>kG p l s m n w' h y x q);have V:=zh P;have K:=zh (Own.start X);have b:=zh (zi (zi T S) (zi D C));clear P O N y x T S D C;generalize bW c=L1 at*
 generalize bW s=L2 at*
 refine aj fun R hR=>?_
 go_enter func112,ntmps112
 go_upto_region 1 with(fail)
 refine aR [2] (fun L w'=>L=[.int .i64 r]/\Own w m w' m []) ?_ ?_
 .intro Y hY;refine bz 5 6 (fun j=>[aD.is (·=.agg #[H,G]),aD.mem m [1] (fun M u=>bO (bG M n) M u L1),aD.is (·=.agg #[p,l]),aD.mem m [3] (fun M u=>bO (bG M n) M u L2),aD.is (·=.int .i64 r)].getD j aD.any) zk zk ?_ ?_
  .intro i hi o win a f ho t;have HO2:=K.o.dr.aP t.az;have y1:=Mem_cell_w HO2.ay b.o.1.1;have y2:=Mem_cell_w HO2.ay b.o.1.2;have y3:=Mem_cell_lt HO2.ay b.o.1.1;have y5:=Mem_cell_w HO2.ay b.o.2.1;have y6:=Mem_cell_w HO2.ay b.o.2.2;have y7:=Mem_cell_lt HO2.ay b.o.2.1;rcases(show i=0\/i=1\/i=2\/i=3\/i=4 by omega)with rfl|rfl|rfl|rfl|rfl
   .have e0:=t.k 0;exact qaa
   .have e3:zt a 3 _:=t.d 0 rfl;cases ho;refine we rfl rfl (U.o _ HO2.ay) ?_;exact qbN
   .have e1:=t.k 1;exact qaa
   .have e5:zt a 5 _:=t.d 2 rfl;cases ho;refine we rfl rfl (F.o _ HO2.ay) ?_;exact qbM
   .have e4:(aD.mem m [1] (fun M u=>bO (bG M n) M u L1)).holds (a.tmps.getD 4 undef) win f:=t.d 1 rfl;have e6:(aD.mem m [3] (fun M u=>bO (bG M n) M u L2)).holds (a.tmps.getD 6 undef) win f:=t.d 3 rfl;cases ho;have f1:bO (bG (m.gU f win [1]) n) (m.gU f win [1]) _ L1:=e4;have f2:bO (bG (m.gU f win [3]) n) (m.gU f win [3]) _ L2:=e6;have M1:=Mem_wins_le (m:=m) (es:=[1,3]) HO2.ay win (ds:=[1]) zS;have M2:=Mem_wins_le (m:=m) (es:=[1,3]) HO2.ay win (ds:=[3]) zS;have M0:=Mem_wins_le (m:=m) (es:=[1,3]) HO2.ay win (ds:=[]) zS;refine we rfl rfl (V.o (m.gU f win [1,3]) _ _ f M0 qfF (f1.iU M1) (f2.iU M2)) ?_;exact qab
  .intro win a f E;have e7:a.tmps.getD 7 undef=.int .i64 r:=E.fact 4 _ zo rfl;have Z:=K.o.dr.aP E.az;obtain⟨W,dd⟩:=a;obtain rfl:dd=[]:=E.defers;refine eF 5 zk (aJ rfl rfl (aN qd1 ?_));refine bY zk (hY.o _ _ qef ⟨?_,Z⟩) _;have A:W.size=8:=E.size;simp[A]at e7;simp[A]
 rintro z L w2-⟨rfl,Q⟩;simp[aX,lk];have HB:=zh Q.az;clear Q K U F V b;exact qag
theorem GX(a b:Int):jo [a,b]=jK a b:=by simp[jo,CY]
theorem OV(a b c:Int):jo [a,b,c]=jK a (jK b c):=by simp[jo,CY]
theorem XJ(a b c d:Int):jo [a,b,c,d]=jK a (jK b (jK c d)):=by simp[jo,CY]
theorem Tw{a b:RS}{c:Int}(h:Bf a b c)(e:a.gB)(d:b.gB):YX a b=c:=by
 rcases h with⟨-,-,h⟩|⟨h,-⟩
 .exact W9 h
 .exact absurd ⟨e,d⟩ h
theorem YO(a b:ByteArray):uB a.data.toList b.data.toList=Av a b:=by
 unfold uB Av Dw;by_cases h:a=b
 .subst h;simp
 .have c:¬a.data.toList=b.data.toList:=fun e=>h (ME e);rw[zJ h,zJ c]
structure Cw (n:Nat) (v:Vl):Prop where
 snd:oN n v
 few:eT n v
 cnt:dw n v<=1048576
def lT(n:Nat)(d:Vd):Prop:=Cw n d.1/\Cw n d.2
theorem Cw.kid{n:Nat}{v:Vl}(h:Cw (n+1) v){x:Vd}(a:x∈v.kids):lT n x:=by
 have c:=h.snd.2 x a;have b:=h.few.2 x a;have e:=vJ (n:=n) a;have d:=h.cnt;exact⟨⟨c.1,b.1,zo⟩,c.2,b.2,zo⟩
def DF(n:Nat):Prop:=∀(v v':Vl) (s a:Sl) (m:Mem) (w:zW),m.ay w->gD m->bG m n s v->bG m n a v'->Cw n v->Cw n v'->zX 53 #[v.val s,v'.val a] w (.int .i64 (dn n v v'))
theorem Ie{n:Nat}(H:DF n)(d b:Vd)(x y o l:Sl)(m:Mem)(w:zW)(A:m.ay w)(f:gD m)(C:bG m n x d.1)(B:bG m n y d.2)(r:bG m n o b.1)(q:bG m n l b.2)(s:lT n d)(p:lT n b):
 zX 115 #[dE d x y,dE b o l] w (.int .i64 (Cz (dn n) d b)):=by
 have h:=bzH (fK d x y).toArray (fK b o l).toArray [dn n d.1 b.1,dn n d.2 b.2] rfl m w A (fun M g t a z v i h hi w' c=>by
  match i,hi with
  |0,_=>exact azf g t (bu d.1 x) (bu b.1 o) _ M w' c rfl rfl (fun j u k=>z _ u (by simpa using lW (y:=y) k)) (fun j u k=>v _ u (by simpa using lW (y:=l) k)) (H d.1 b.1 x o M w' c (f.le a) (C.le a) (r.le a) s.1 p.1)
  | 1,_=>exact aze g t (bu d.2 y) (bu b.2 l) _ M w' c rfl rfl (fun j u k=>z _ u (by simpa using oh (x:=x) k)) (fun j u k=>v _ u (by simpa using oh (x:=o) k)) (H d.2 b.2 y l M w' c (f.le a) (B.le a) (q.le a) s.2 p.2))
 rw[GX]at h;exact h
theorem R6{n:Nat}(H:DF n)(v v':zV)(l c:List Vd)(m:Mem)(w:zW)(D:m.ay w)(a:gD m)(h:bO (bG m n) m v l)(E:bO (bG m n) m v' c)(z:∀d∈l,lT n d)(g:∀d∈c,lT n d):
 zX 113 #[v,v',.func (.func 115) #[] #[]] w (.int .i64 (bS (Cz (dn n)) l c)):=
 ZY (Cz (dn n)) (fun b o d=>uV (bG m n) m b o d/\lT n d) (fun cs d=>(∃x y,cs=fK d x y/\bG m n x d.1/\bG m n y d.2)/\lT n d) v v' l c m w D
  (fun b o d r=>by obtain⟨x,y,q,f,s⟩:=r.1.cells;exact⟨_,rfl,q,gW f s,⟨x,y,rfl,f,s⟩,r.2⟩)
  (fun cs G d F w' p q f=>by
   obtain⟨⟨x,y,rfl,C,B⟩,A⟩:=q;obtain⟨⟨u,t,rfl,k,j⟩,i⟩:=f;exact Ie H d F x y u t m w' p a C B k j A i) (dJ h z) (dJ E g)
theorem X9{n:Nat}(H:DF n)(f a:Fd)(x y k d:Sl)(m:Mem)(w:zW)(A:m.ay w)(l:gD m)(C:bG m n x f.2.1)(B:bG m n y f.2.2)(q:bG m n k a.2.1)(p:bG m n d a.2.2)(z:lT n f.2)(o:lT n a.2):
 zX 118 #[.agg (qU f x y).toArray,.agg (qU a k d).toArray] w (.int .i64 (Tt (dn n) f a)):=by
 have h:=bzG (qU f x y).toArray (qU a k d).toArray [Av f.1.1 a.1.1,kV f.1.2 a.1.2,Cz (dn n) f.2 a.2] rfl m w A (fun M g r b t s i h hi w' c=>by
  match i,hi with
  |0,_=>exact azd g r f.1.1 a.1.1 _ M w' c (t 0 _ rfl) (s 0 _ rfl) ((Hu _ _ _).mono fun e v h=>⟨by rw[h.1,YO];rfl,by rw[h.2];exact zR _ _⟩)
  |1,_=>exact azc g r f.1.2 a.1.2 _ M w' c (t 1 _ rfl) (s 1 _ rfl) ((Tryz.cmp_Compare_int _ _ _).mono fun e v h=>⟨h.1,by rw[h.2];exact zR _ _⟩)
  | 2,_=>exact azb g r (fK f.2 x y) (fK a.2 k d) _ M w' c rfl rfl (fun j u hj=>t _ u qeF) (fun j u hj=>s _ u qeF) (Ie H f.2 a.2 x y k d M w' c (l.le b) (C.le b) (B.le b) (q.le b) (p.le b) z o))
 rw[OV,<-CZ]at h;exact h
theorem VX{n:Nat}(H:DF n)(v v':zV)(l c:List Fd)(m:Mem)(w:zW)(D:m.ay w)(a:gD m)(h:iy (bG m n) m v l)(E:iy (bG m n) m v' c)(z:∀d∈l,lT n d.2)(g:∀d∈c,lT n d.2):
 zX 117 #[v,v',.func (.func 118) #[] #[]] w (.int .i64 (bS (Tt (dn n)) l c)):=
 Z4 (Tt (dn n)) (fun b o d=>IL (bG m n) m b o d/\lT n d.2) (fun cs d=>(∃x y,cs=qU d x y/\bG m n x d.2.1/\bG m n y d.2.2)/\lT n d.2) v v' l c m w D
  (fun b o d r=>by obtain⟨x,y,q,f,s⟩:=r.1.cells;exact⟨_,rfl,q,pF f s,⟨x,y,rfl,f,s⟩,r.2⟩)
  (fun cs G d F w' p q f=>by
   obtain⟨⟨x,y,rfl,C,B⟩,A⟩:=q;obtain⟨⟨u,t,rfl,k,j⟩,i⟩:=f;exact X9 H d F x y u t m w' p a C B k j A i) (dJ h z) (dJ E g)
def DC(n:Nat)(k:Kl):Prop:=lT n k.2/\k.1.length<=8
theorem azs{a b:Nat}(h:a<=8)(c:b<=8):(a+2)*(b+2)<=90000:=yJ (xV (Nat.add_le_add_right h 2) (Nat.add_le_add_right c 2)) zD
theorem X8{n:Nat}(H:DF n)(f b:Kl)(u p:zV)(x y o l:Sl)(m:Mem)(w:zW)(G:m.ay w)(k:gD m)(F:aQ m u f.1)(r:aQ m p b.1)(A:bG m n x f.2.1)(t:bG m n y f.2.2)(v:bG m n o b.2.1)(s:bG m n l b.2.2)(B:DC n f)(q:DC n b):
 zX 125 #[.agg (qN f u x y).toArray,.agg (qN b p o l).toArray] w (.int .i64 (Tk (dn n) f b)):=by
 have h:=bzF (qN f u x y).toArray (qN b p o l).toArray [J3 f.1 b.1,Cz (dn n) f.2 b.2] rfl m w G (fun M g C a E D i h hi w' d=>by
  match i,hi with
  |0,_=>exact aza g C u p _ M w' d (E 0 _ rfl) (D 0 _ rfl) ((uL u p f.1 b.1 M w' d (k.le a) (aW a F) (aW a r) (yJ (azs B.2 q.2) zD)).mono fun e w2 ⟨c,A,t,I⟩=>⟨by rw[A,Gt I];rfl,t⟩)
  | 1,_=>exact Z9 g C (fK f.2 x y) (fK b.2 o l) _ M w' d rfl rfl (fun j z hj=>E _ z qeG) (fun j z hj=>D _ z qeG) (Ie H f.2 b.2 x y o l M w' d (k.le a) (A.le a) (t.le a) (v.le a) (s.le a) B.1 q.1))
 rw[GX]at h;exact h
theorem VW{n:Nat}(H:DF n)(v v':zV)(l c:List Kl)(m:Mem)(w:zW)(I:m.ay w)(a:gD m)(h:gX (bG m n) m v l)(J:gX (bG m n) m v' c)(D:∀d∈l,DC n d)(i:∀d∈c,DC n d):
 zX 124 #[v,v',.func (.func 125) #[] #[]] w (.int .i64 (bS (Tk (dn n)) l c)):=
 Z0 (Tk (dn n)) (fun b o d=>II (bG m n) m b o d/\DC n d) (fun cs d=>(∃u x y,cs=qN d u x y/\aQ m u d.1/\bG m n x d.2.1/\bG m n y d.2.2)/\DC n d) v v' l c m w I
  (fun b o d t=>by obtain⟨u,x,y,f,s,g,z⟩:=t.1.cells;exact⟨_,rfl,s,pg f g z,⟨u,x,y,rfl,f,g,z⟩,t.2⟩)
  (fun cs L d K w' r s g=>by
   obtain⟨⟨u,x,y,rfl,f,G,F⟩,E⟩:=s;obtain⟨⟨C,B,A,rfl,q,p,k⟩,j⟩:=g;exact X8 H d K u C x y B A m w' r a f q G F p k E j) (dJ h D) (dJ J i)
def sK(n:Nat)(c:St):Prop:=(∀f∈c.1,lT n f.2)/\∀k∈c.2,DC n k
theorem X6{n:Nat}(H:DF n)(o l d b:zV)(c k:St)(m:Mem)(w:zW)(x:m.ay w)(j:gD m)(z:iy (bG m n) m o c.1)(y:gX (bG m n) m l c.2)(r:iy (bG m n) m d k.1)(q:gX (bG m n) m b k.2)(s:sK n c)(p:sK n k):
 zX 81 #[.agg #[o,l],.agg #[d,b]] w (.int .i64 (Wt (dn n) c k)):=by
 have h:=bzD #[o,l] #[d,b] [bS (Tt (dn n)) c.1 k.1,bS (Tk (dn n)) c.2 k.2] rfl m w x (fun M g t a v u i h hi w' f=>by
  match i,hi with
  |0,_=>exact ZW g t o d _ M w' f (v 0 _ rfl) (u 0 _ rfl) (VX H o d c.1 k.1 M w' f (j.le a) (iy.le a (fun _ _=>bG.le a) z) (iy.le a (fun _ _=>bG.le a) r) s.1 p.1)
  | 1,_=>exact ZV g t l b _ M w' f (v 1 _ rfl) (u 1 _ rfl) (VW H l b c.2 k.2 M w' f (j.le a) (gX.le a (fun _ _=>bG.le a) y) (gX.le a (fun _ _=>bG.le a) q) s.2 p.2))
 rw[GX]at h;exact h
theorem mG{α:Type}{R:Nat->Nat->α->Prop}{size:Nat}{v:zV}{l:List α}(h:Mem.slice R size v l):v.oneCell'=true:=by obtain⟨a,c,rfl,-⟩:=h;rfl
theorem wW{m:Mem}{b o:Nat}{u a:zV}(e:m.cell b o=some u)(d:m.cell b (o+1)=some a):∀j z,[u,a][j]?=some z->m.cell b (o+j)=some z:=fun j z c=>by
 match j,c with
 |0,h=>cases h;exact e
 |1,h=>cases h;exact d
theorem VR{n:Nat}(H:DF n)(v v':zV)(l f:List St)(m:Mem)(w:zW)(F:m.ay w)(c:gD m)(h:KF (bG m n) m v l)(J:KF (bG m n) m v' f)(B:∀d∈l,sK n d)(g:∀d∈f,sK n d):
 zX 80 #[v,v',.func (.func 81) #[] #[]] w (.int .i64 (bS (Wt (dn n)) l f)):=
 Z5 (Wt (dn n)) (fun b o d=>PH (bG m n) m b o d/\sK n d) (fun cs d=>(∃u a,cs=[u,a]/\iy (bG m n) m u d.1/\gX (bG m n) m a d.2)/\sK n d) v v' l f m w F
  (fun b o d G=>by
   obtain⟨⟨u,a,r,q,t,s⟩,I⟩:=G;exact⟨[u,a],rfl,wW r q,by simp[mG t,mG s],⟨u,a,rfl,t,s⟩,I⟩)
  (fun cs L d K w' p r q=>by
   obtain⟨⟨x,y,rfl,E,D⟩,C⟩:=r;obtain⟨⟨A,z,rfl,k,j⟩,i⟩:=q;exact X6 H x y A z d K m w' p c E D k j C i) (dJ h B) (dJ J g)
def sM(n:Nat)(c:Lc):Prop:=(∀x∈bW c,lT n x)/\(bW c).length<=1048576
theorem X7{n:Nat}(H:DF n)(o l f d:zV)(c b:Lc)(m:Mem)(w:zW)(F:m.ay w)(q:gD m)(D:bO (bG m n) m o c.1)(C:bO (bG m n) m l c.2)(t:bO (bG m n) m f b.1)(s:bO (bG m n) m d b.2)(B:sM n c)(p:sM n b):
 zX 78 #[.agg #[o,l],.agg #[f,d]] w (.int .i64 (Tj (dn n) c b)):=by
 have r:c.1.length+c.2.length<=1048576:=by have:=B.2;rwa [bW,zL]at this
 have k:b.1.length+b.2.length<=1048576:=by have:=p.2;rwa [bW,zL]at this
 have h:=bzE #[o,l] #[f,d] [kV c.1.length b.1.length,ng (decide (0<c.2.length)) (decide (0<b.2.length)),bS (Cz (dn n)) (bW c) (bW b)] rfl m w F (fun M g A a x u i h hi w' j=>by
  match i,hi with
  |0,_=>exact Z8 g A o f c.1 b.1 M w' j (x 0 _ rfl) (u 0 _ rfl) (bO.iU a D) (bO.iU a t)
  |1,_=>exact Z7 g A l d c.2 b.2 M w' j (x 1 _ rfl) (u 1 _ rfl) (bO.iU a C) (bO.iU a s)
  | 2,_=>exact Z6 g A o l f d c b n _ M w' j (x 0 _ rfl) (x 1 _ rfl) (u 0 _ rfl) (u 1 _ rfl) (bO.iU a D) (bO.iU a C) (bO.iU a t) (bO.iU a s) r k (fun J v v' E z y I G=>R6 H v v' _ _ J E y ((q.le a).le z) I G B.1 p.1))
 rw[OV]at h;exact h
theorem VV{n:Nat}(H:DF n)(v v':zV)(l f:List Lc)(m:Mem)(w:zW)(F:m.ay w)(c:gD m)(h:KH (bG m n) m v l)(J:KH (bG m n) m v' f)(B:∀d∈l,sM n d)(g:∀d∈f,sM n d):
 zX 77 #[v,v',.func (.func 78) #[] #[]] w (.int .i64 (bS (Tj (dn n)) l f)):=
 ZZ (Tj (dn n)) (fun b o d=>PI (bG m n) m b o d/\sM n d) (fun cs d=>(∃u a,cs=[u,a]/\bO (bG m n) m u d.1/\bO (bG m n) m a d.2)/\sM n d) v v' l f m w F
  (fun b o d G=>by
   obtain⟨⟨u,a,r,q,t,s⟩,I⟩:=G;exact⟨[u,a],rfl,wW r q,by simp[mG t,mG s],⟨u,a,rfl,t,s⟩,I⟩)
  (fun cs L d K w' p r q=>by
   obtain⟨⟨x,y,rfl,E,D⟩,C⟩:=r;obtain⟨⟨A,z,rfl,k,j⟩,i⟩:=q;exact X7 H x y A z d K m w' p c E D k j C i) (dJ h B) (dJ J g)
theorem Cw.lc{n:Nat}{v:Vl}(h:Cw (n+1) v){c:Lc}(a:c∈v.aU):sM n c:=⟨fun x b=>h.kid (xm a b),by rw[bW,zL];exact Gq h.few.ht h.cnt a⟩
theorem Cw.st{n:Nat}{v:Vl}(h:Cw (n+1) v){c:St}(a:c∈v.aF):sK n c:=⟨fun _ d=>h.kid (Gv a d),fun k b=>⟨h.kid (Gw a b),(h.few.1.set c a k b).2⟩⟩
theorem Cw.le{n:Nat}{v:Vl}(h:Cw (n+1) v):uW v.s 8 8:=⟨h.few.1.sc.1,h.few.1.sc.2.1,h.few.1.sc.2.2.2⟩
theorem BP{v:Vl}{s:Sl}{j:Nat}{u:zV}(h:([.bool v.s.gY,.bool v.s.iF,.bool v.s.iZ,s.i,s.f,s.t]:List Value)[j]?=some u):(bu v s).toArray[1+j]?=some u:=by
 match j,h with
 |0,h=>exact h
 |1,h=>exact h
 |2,h=>exact h
 |3,h=>exact h
 |4,h=>exact h
 |5,h=>exact h
theorem azY{n:Nat}(H:DF n):DF (n+1):=fun v v' s b m w G d I A q o=>by
 have h:=bzC (bu v s).toArray (bu v' b).toArray [ng v.any v'.any,YX v.s v'.s,bS (Tj (dn n)) v.aU v'.aU,bS (Wt (dn n)) v.aF v'.aF] rfl m w G (fun M g r k y x i h hi w' a=>by
  have C:bG M (n+1) s v:=I.le k;have B:bG M (n+1) b v':=A.le k
  match i,hi with
  |0,_=>exact DT g r v.any v'.any M w' a (y 0 _ rfl) (x 0 _ rfl)
  |1,_=>exact ZU g r [.bool v.s.gY,.bool v.s.iF,.bool v.s.iZ,s.i,s.f,s.t] [.bool v'.s.gY,.bool v'.s.iF,.bool v'.s.iZ,b.i,b.f,b.t] _ M w' a rfl rfl (fun j u z=>y _ u (BP z)) (fun j u z=>x _ u (BP z)) ((I6 s.i s.f s.t v.s b.i b.f b.t v'.s 8 8 8 8 M w' a (d.le k) C.1 B.1 q.le o.le zD zD zD).mono fun e w2 ⟨c,F,E,D⟩=>⟨by rw[F,Tw D q.snd.1.sc o.snd.1.sc];rfl,E⟩)
  |2,_=>exact ZT g r s.l b.l _ M w' a (y 7 _ rfl) (x 7 _ rfl) (VV H s.l b.l v.aU v'.aU M w' a (d.le k) C.2.1 B.2.1 (fun c p=>q.lc p) (fun c p=>o.lc p))
  | 3,_=>exact ZR g r s.s b.s _ M w' a (y 8 _ rfl) (x 8 _ rfl) (VR H s.s b.s v.aF v'.aF M w' a (d.le k) C.2.2 B.2.2 (fun c p=>q.st p) (fun c p=>o.st p)))
 rw[XJ]at h;exact h
theorem Fv:∀n,DF n
 |0=>fun _ _ _ _ _ _ _ _ h=>h.elim
 |n+1=>azY (Fv n)
theorem oN.succ:∀{n:Nat} {v:Vl},oN n v->oN (n+1) v
 |0,_,h=>h.elim
 |_+1,_,h=>⟨h.1,fun x a=>⟨(h.2 x a).1.succ,(h.2 x a).2.succ⟩⟩
theorem oN.mono{n m:Nat}{v:Vl}(h:oN n v)(k:n<=m):oN m v:=by
 induction k with
 |refl=>exact h
 |step _ ih=>exact ih.succ
open Classical in
noncomputable def wN(n:Nat)(v v':Vl):Int:=if eQ v/\eQ v' then dn n v v' else 0
theorem jR(v v':Vl)(s d:Sl)(m:Mem)(n:Nat)(w:zW)(H:m.ay w)(a:gD m)(D:16<=n)(z:bG m n s v)(f:bG m n d v')(f1:eT n v)(f2:eT n v')(u:dw n v<=1048576)(t:dw n v'<=1048576):
 zX 25 #[v.val s,v'.val d] w (.int .i64 (wN n v v')):=by
 have k:=((Own.start H).al (bu v s).toArray 33).al (bu v' d).toArray 33;simp only[bR]at k;have j:=nK v s m n _ k.ay a z f1 u;have i:=fun w' (h:m.ay w')=>nK v' d m n w' h a f f2 t;have p:=zh (fun w' (h:m.ay w') (b:eQ v) (c:eQ v')=>Fv n v v' s d m w' h a z f ⟨b.mono D,f1,u⟩ ⟨c.mono D,f2,t⟩);have HO:=zh k;have l:(bu v s).length=9:=rfl;have g:(bu v' d).length=9:=rfl;have y:=k.au.obj.all;unfold Vl.val at*
 clear k z f f1 f2 u t;generalize bu v s=N at*
 generalize bu v' d=A at*
 refine aj fun R hR=>?_;by_cases b:eQ v
 case neg=>
  rw[aA b]at j;have q:=zh j;have HX:=zh (show wN n v v'=0 by unfold wN;rw[zJ (fun h=>b h.1)]);clear j i p b
  go_enter func25,ntmps25
  go_wp2_with (first
   |(go_at_call 47;refine q.o.mono ?_;rintro e C ⟨rfl,hb1⟩)
   | refine ae iH rfl (.tmp 2) rfl rfl N l y ?_)
  exact qb9
 rw[aO b]at j;have q:=zh j;clear j;by_cases c:eQ v'
 case neg=>
  rw[aA c]at i;have B:=zh i;have HX:=zh (show wN n v v'=0 by unfold wN;rw[zJ (fun h=>c h.2)]);clear i p b c
  go_enter func25,ntmps25
  go_wp2_with (first
   | (go_at_call 47;first
    |(refine(B.o _ hO1.ay).mono ?_;rintro e E ⟨rfl,hb2⟩)
    | (refine q.o.mono ?_;rintro e C ⟨rfl,hb1⟩;have hO1:=HO.o.aP hb1;have x:=hO1.obj.all))
   |refine ae iH rfl (.tmp 3) rfl rfl A g x ?_
   | refine ae iH rfl (.tmp 2) rfl rfl N l y ?_)
  exact qcd
 rw[aO c]at i;have B:=zh i;have I:=zh (fun w' (h:m.ay w')=>p.o w' h b c);have HX:=zh (show wN n v v'=dn n v v' by unfold wN;rw[zK ⟨b,c⟩]);clear i p b c;generalize dn n v v'=r at*
 go_enter func25,ntmps25
 go_wp2_with (first
  | (go_at_call 47;first
   |(refine(B.o _ hO1.ay).mono ?_;rintro e E ⟨rfl,hb2⟩;have hO2:=hO1.aP hb2;have G:=hO2.au.obj.all;have F:=hO2.obj.all)
   | (refine q.o.mono ?_;rintro e C ⟨rfl,hb1⟩;have hO1:=HO.o.aP hb1;have x:=hO1.obj.all))
  |refine ae iH rfl (.tmp 2) rfl rfl N l G ?_
  |refine ae iH rfl (.tmp 3) rfl rfl A g F ?_
  |refine ae iH rfl (.tmp 3) rfl rfl A g x ?_
  |refine ae iH rfl (.tmp 2) rfl rfl N l y ?_
  | (go_at_call 53;refine(I.o _ hO2.ay).mono ?_;rintro e J ⟨rfl,hb3⟩))
 exact qdO
end Cl
