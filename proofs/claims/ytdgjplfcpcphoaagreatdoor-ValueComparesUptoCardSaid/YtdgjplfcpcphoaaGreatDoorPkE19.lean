/- Lemmas for the proofs of chapter 11. -/
import Derived.Test.YtdgjplfcpcphoaaGreatDoorPkE18
set_option maxRecDepth 100000
set_option maxHeartbeats 16000000
namespace Cl
open Go Go.RowKit Go.Proofs Tryz
theorem EB(C D B F G E:zV)(a b:RS)(m:Mem)(w:zW)(Q:m.ay w)(z:nU m C D B a)(y:nU m F G E b):
 zX 133 #[a.val C D B,b.val F G E] w (.bool (tf (a=b))):=by
 have d:=((Own.start Q).al #[.bool a.gY,.bool a.iF,.bool a.iZ,C,D,B] 29).al #[.bool b.gY,.bool b.iF,.bool b.iZ,F,G,E] 29;simp only[bR]at d;have L:=zh (fun w' (h:m.ay w')=>lX _ _ a.i b.i m w' h z.i y.i);have J:=zh (fun w' (h:m.ay w')=>lX _ _ a.f b.f m w' h z.f y.f);have A:=zh (fun w' (h:m.ay w')=>Ba _ _ a.t b.t m w' h z.t y.t);have l:=zh (RS.G5 a b);obtain⟨a1,b1,a2,b2,a3,b3,rfl,rfl,rfl⟩:=z.eG;obtain⟨c1,d1,c2,d2,c3,d3,rfl,rfl,rfl⟩:=y.eG;unfold RS.val;have g:=zh d;clear d z y;refine aj fun R hR=>?_;by_cases k:a.gY=b.gY
 case neg=>
  have HE3:=zh (show ¬a=b from fun h=>k (l.o.1 h).1);have HB:=zh g.o.az;have U:(a.gY==b.gY)=false:=by simp[k]
  clear k l g
  go_enter func133,ntmps133
  exact qbH
 have U:(a.gY==b.gY)=true:=by simp[k]
 by_cases n:a.iF=b.iF
 case neg=>
  have HE3:=zh (show ¬a=b from fun h=>n (l.o.1 h).2.1);have HB:=zh g.o.az;have T:(a.iF==b.iF)=false:=by simp[n]
  clear k n l g
  go_enter func133,ntmps133
  exact qbH
 have T:(a.iF==b.iF)=true:=by simp[n]
 by_cases s:a.iZ=b.iZ
 case neg=>
  have HE3:=zh (show ¬a=b from fun h=>s (l.o.1 h).2.2.1);have HB:=zh g.o.az;have S:(a.iZ==b.iZ)=false:=by simp[s]
  clear k n s l g
  go_enter func133,ntmps133
  exact qbH
 have S:(a.iZ==b.iZ)=true:=by simp[s]
 have j:=zh (show a=b↔(a.i=b.i/\a.f=b.f)/\a.t=b.t from l.o.trans ⟨fun h=>h.2.2.2,fun h=>⟨k,n,s,h⟩⟩);clear k n s l;generalize a.gY=an at*
 generalize b.gY=bn at*
 generalize a.iF=af at*
 generalize b.iF=bf at*
 generalize a.iZ=V at*
 generalize b.iZ=bt at*
 go_enter func133,ntmps133
 go_wp2_with fail
 refine(L.o _ g.o.ay).mono ?_;rintro e Z ⟨rfl,x⟩;have d:=g.o.aP x;clear L g x;by_cases r:a.i=b.i
 case neg=>
  rw[aA r];have HB:=zh d.az;have HE3:=zh (show ¬a=b from fun h=>r (j.o.1 h).1.1);clear d j r A J;exact qbH
 rw[aO r];have N:=d.obj.c 4;have H:=d.obj.lt;have P:=d.au.obj.c 4;have I:=d.au.obj.lt;have g:=zh d;have HE3:=zh (show a=b↔a.f=b.f/\a.t=b.t from j.o.trans ⟨fun h=>⟨h.1.2,h.2⟩,fun h=>⟨⟨r,h.1⟩,h.2⟩⟩);clear d j r
 go_wp2_with fail
 refine(J.o _ g.o.ay).mono ?_;rintro e Y ⟨rfl,v⟩;have d:=g.o.aP v;clear J g v N H P I;by_cases q:a.f=b.f
 case neg=>
  rw[aA q];have HB:=zh d.az;have p:=zh (show ¬a=b from fun h=>q (HE3.o.1 h).1);clear d HE3 q A;go_wp2;exact hR.o _ _ ⟨aS (by rw[aA p.o]),HB.o⟩
 rw[aO q];have M:=d.obj.c 5;have H:=d.obj.lt;have O:=d.au.obj.c 5;have I:=d.au.obj.lt;have g:=zh d;have p:=zh (show a=b↔a.t=b.t from HE3.o.trans ⟨fun h=>h.2,fun h=>⟨q,h⟩⟩);clear d HE3 q
 go_wp2_with fail
 refine(A.o _ g.o.ay).mono ?_;rintro e X ⟨rfl,u⟩;have HB:=zh (g.o.aP u).az;clear g A u M H O I;generalize K:tf (a.t=b.t)=tc at*
 have W:=zh (show tc=tf (a=b)by rw[<-K];exact(dh p.o).symm);clear K;go_wp2;exact hR.o _ _ ⟨aS (by rw[<-W.o]),HB.o⟩
theorem ZO{α:Type}(A:Nat->Nat->α->Prop)(Rp:List Value->α->Prop)(v v':zV)(l l':List α)(m:Mem)(w:zW)(hm:m.ay w)
(hA:∀b o x,A b o x->∃cs:List Value,cs.length=18/\(∀j u,cs[j]?=some u->m.cell b (o+j)=some u)/\(∀u∈cs,u.oneCell'=true)/\Rp cs x)
(hc:∀cs d x Q w',m.ay w'->Rp cs x->Rp d Q->zC 55 #[.agg cs.toArray,.agg d.toArray] w' fun e Z=>e=.returned (.bool (tf (x=Q)))/\Below w'.heap.size w' Z)
(hl:Mem.slice A 18 v l)(e':Mem.slice A 18 v' l'):
 zX 134 #[v,v',.func (.func 55) #[] #[]] w (.bool (tf (l=l'))):=by
 obtain⟨a,c,rfl,h1,h2,h3⟩:=hl;obtain⟨a',c',rfl,C',f',N⟩:=e';unfold maxLen at h2 f';have HK:=zh (zi h3 N);have HA:=zh (zi hA hc);have HO:=zh (Own.start hm);clear h3 N hA hc;refine aj fun R hR=>?_;by_cases g:l.length=l'.length
 case neg=>
  have d':((l.length:Int) != (l'.length:Int))=true:=by simp;omega
  have HL:=zh (show ¬l=l' from fun h=>g qe0);clear g
  go_enter func134,ntmps134
  exact qcg
 have d':((l.length:Int) != (l'.length:Int))=false:=by simp[g]
 have Hlen:=zh g;clear g
 go_enter func134,ntmps134
 go_wp2;refine av [0,1,2,15,16,17] (fun n vs wr=>∃k:Nat,k<=l.length/\n=l.length-k/\vs=[.slice a l.length c,.slice a' l'.length c',.func (.func 55) #[] #[],.slice a l.length c,.int .i64 l.length,.int .i64 k]/\(l=l'↔l.drop k=l'.drop k)/\Own w m wr m []) ?_ ?_
 .exact qda
 clear HO;rintro X z n vs wr hX-⟨k,hk,rfl,rfl,q,hO⟩;have Hrel:=zh q;clear q;simp[aX,lk];by_cases hlt:k<l.length
 case neg=>
  exact qat
 have hlt':k<l'.length:=by rw[<-Hlen.o];exact hlt
 obtain⟨b,off,rfl,h4⟩:=HK.o.1 qdX;obtain⟨b',k',rfl,M⟩:=HK.o.2 qd3;obtain⟨cs,hl1,y,I,G⟩:=HA.o.1 _ _ _ (h4 k hlt);obtain⟨d,hl2,t,H,F⟩:=HA.o.1 _ _ _ (M k hlt');have S:=zh qfo;have T:=zh (fun w' (h:m.ay w')=>HA.o.2 cs d l[k] l'[k] w' h G F);have L:=hO.al uG 35;have P:=zh (fun(w':zW) (h:m.ay w') j u hj=>Mem_cell_w h (y j u hj));have O:=zh (fun(w':zW) (h:m.ay w') j u hj=>Mem_cell_w h (t j u hj));have E:=y 0 (cs[0]'zo) (yH _);have D:=t 0 (d[0]'zo) (yH _);have s':=Mem_cell_lt hO.ay E;have r':=Mem_cell_lt hO.ay D;have U:=zh (zi I H);have K:=hO.ay;have HO:=zh L;clear hO L h4 M y t I H G F E D;generalize l[k]=x at*
 generalize l'[k]=Q at*
 by_cases C:x=Q
 .have B:=zh (show ∀w',m.ay w'->_ from fun w' h=>by have:=T.o w' h;rw[aO C]at this;exact this);have HL:=zh (Hrel.o.trans (S.o.trans ⟨fun h=>h.2,fun h=>⟨C,h⟩⟩));clear T S Hrel C
  go_wp2_with (first
   |refine ae iY rfl (.tmp 20) rfl rfl cs hl1 (P.o _ K) ?_
   |(refine aM iY rfl (.tmp 8) (.tmp 21) rfl (cs:=cs.toArray) rfl rfl rfl qd7 (fun u hu=>U.o.1 u qd2) HO.o.obj ?_;intro w1 i p;have f:=(HO.o.bN i p).al uG 35;have Y:=f.au.obj.lt;have J:=f.tail.ay)
   |refine ae iY rfl (.tmp 24) rfl rfl d hl2 (O.o _ (HO.o.bN i p).ay) ?_
   |(refine aM iY rfl (.tmp 9) (.tmp 25) rfl (cs:=d.toArray) rfl rfl rfl qd5 (fun u hu=>U.o.2 u qd2) f.obj ?_;intro w2 r s;have hO3:=f.bN r s;have W:=hO3.au.obj.all;have V:=hO3.obj.all)
   |refine ae iY rfl (.tmp 8) rfl rfl cs hl1 W ?_
   |refine ae iY rfl (.tmp 9) rfl rfl d hl2 V ?_
   | (go_at_call 55;refine(B.o _ hO3.ay).mono ?_;rintro e w3 ⟨rfl,hb3⟩))
  exact qaE
 .have B:=zh (show ∀w',m.ay w'->_ from fun w' h=>by have:=T.o w' h;rw[aA C]at this;exact this);have HL:=zh (show ¬l=l' from fun h=>C (S.o.1 (Hrel.o.1 h)).1);clear T S Hrel C hX
  go_wp2_with (first
   |refine ae iY rfl (.tmp 20) rfl rfl cs hl1 (P.o _ K) ?_
   |(refine aM iY rfl (.tmp 8) (.tmp 21) rfl (cs:=cs.toArray) rfl rfl rfl qd7 (fun u hu=>U.o.1 u qd2) HO.o.obj ?_;intro w1 i p;have f:=(HO.o.bN i p).al uG 35;have Y:=f.au.obj.lt;have J:=f.tail.ay)
   |refine ae iY rfl (.tmp 24) rfl rfl d hl2 (O.o _ (HO.o.bN i p).ay) ?_
   |(refine aM iY rfl (.tmp 9) (.tmp 25) rfl (cs:=d.toArray) rfl rfl rfl qd5 (fun u hu=>U.o.2 u qd2) f.obj ?_;intro w2 r s;have hO3:=f.bN r s;have W:=hO3.au.obj.all;have V:=hO3.obj.all)
   |refine ae iY rfl (.tmp 8) rfl rfl cs hl1 W ?_
   |refine ae iY rfl (.tmp 9) rfl rfl d hl2 V ?_
   | (go_at_call 55;refine(B.o _ hO3.ay).mono ?_;rintro e w3 ⟨rfl,hb3⟩))
  exact qce
theorem ZQ{α:Type}(A:Nat->Nat->α->Prop)(Rp:List Value->α->Prop)(v v':zV)(l l':List α)(m:Mem)(w:zW)(hm:m.ay w)
(hA:∀b o x,A b o x->∃cs:List Value,cs.length=20/\(∀j u,cs[j]?=some u->m.cell b (o+j)=some u)/\(∀u∈cs,u.oneCell'=true)/\Rp cs x)
(hc:∀cs d x Q w',m.ay w'->Rp cs x->Rp d Q->zC 178 #[.agg cs.toArray,.agg d.toArray] w' fun e Z=>e=.returned (.bool (tf (x=Q)))/\Below w'.heap.size w' Z)
(hl:Mem.slice A 20 v l)(e':Mem.slice A 20 v' l'):
 zX 177 #[v,v',.func (.func 178) #[] #[]] w (.bool (tf (l=l'))):=by
 obtain⟨a,c,rfl,h1,h2,h3⟩:=hl;obtain⟨a',c',rfl,C',f',N⟩:=e';unfold maxLen at h2 f';have HK:=zh (zi h3 N);have HA:=zh (zi hA hc);have HO:=zh (Own.start hm);clear h3 N hA hc;refine aj fun R hR=>?_;by_cases g:l.length=l'.length
 case neg=>
  have d':((l.length:Int) != (l'.length:Int))=true:=by simp;omega
  have HL:=zh (show ¬l=l' from fun h=>g qe0);clear g
  go_enter func177,ntmps177
  exact qcg
 have d':((l.length:Int) != (l'.length:Int))=false:=by simp[g]
 have Hlen:=zh g;clear g
 go_enter func177,ntmps177
 go_wp2;refine av [0,1,2,15,16,17] (fun n vs wr=>∃k:Nat,k<=l.length/\n=l.length-k/\vs=[.slice a l.length c,.slice a' l'.length c',.func (.func 178) #[] #[],.slice a l.length c,.int .i64 l.length,.int .i64 k]/\(l=l'↔l.drop k=l'.drop k)/\Own w m wr m []) ?_ ?_
 .exact qda
 clear HO;rintro X z n vs wr hX-⟨k,hk,rfl,rfl,q,hO⟩;have Hrel:=zh q;clear q;simp[aX,lk];by_cases hlt:k<l.length
 case neg=>
  exact qat
 have hlt':k<l'.length:=by rw[<-Hlen.o];exact hlt
 obtain⟨b,off,rfl,h4⟩:=HK.o.1 qdX;obtain⟨b',k',rfl,M⟩:=HK.o.2 qd3;obtain⟨cs,hl1,y,I,G⟩:=HA.o.1 _ _ _ (h4 k hlt);obtain⟨d,hl2,t,H,F⟩:=HA.o.1 _ _ _ (M k hlt');have S:=zh qfo;have T:=zh (fun w' (h:m.ay w')=>HA.o.2 cs d l[k] l'[k] w' h G F);have L:=hO.al Wx 58;have P:=zh (fun(w':zW) (h:m.ay w') j u hj=>Mem_cell_w h (y j u hj));have O:=zh (fun(w':zW) (h:m.ay w') j u hj=>Mem_cell_w h (t j u hj));have E:=y 0 (cs[0]'zo) (yH _);have D:=t 0 (d[0]'zo) (yH _);have s':=Mem_cell_lt hO.ay E;have r':=Mem_cell_lt hO.ay D;have U:=zh (zi I H);have K:=hO.ay;have HO:=zh L;clear hO L h4 M y t I H G F E D;generalize l[k]=x at*
 generalize l'[k]=Q at*
 by_cases C:x=Q
 .have B:=zh (show ∀w',m.ay w'->_ from fun w' h=>by have:=T.o w' h;rw[aO C]at this;exact this);have HL:=zh (Hrel.o.trans (S.o.trans ⟨fun h=>h.2,fun h=>⟨C,h⟩⟩));clear T S Hrel C
  go_wp2_with (first
   |refine ae uY rfl (.tmp 20) rfl rfl cs hl1 (P.o _ K) ?_
   |(refine aM uY rfl (.tmp 8) (.tmp 21) rfl (cs:=cs.toArray) rfl rfl rfl qd7 (fun u hu=>U.o.1 u qd2) HO.o.obj ?_;intro w1 i p;have f:=(HO.o.bN i p).al Wx 58;have Y:=f.au.obj.lt;have J:=f.tail.ay)
   |refine ae uY rfl (.tmp 24) rfl rfl d hl2 (O.o _ (HO.o.bN i p).ay) ?_
   |(refine aM uY rfl (.tmp 9) (.tmp 25) rfl (cs:=d.toArray) rfl rfl rfl qd5 (fun u hu=>U.o.2 u qd2) f.obj ?_;intro w2 r s;have hO3:=f.bN r s;have W:=hO3.au.obj.all;have V:=hO3.obj.all)
   |refine ae uY rfl (.tmp 8) rfl rfl cs hl1 W ?_
   |refine ae uY rfl (.tmp 9) rfl rfl d hl2 V ?_
   | (go_at_call 178;refine(B.o _ hO3.ay).mono ?_;rintro e w3 ⟨rfl,hb3⟩))
  exact qaE
 .have B:=zh (show ∀w',m.ay w'->_ from fun w' h=>by have:=T.o w' h;rw[aA C]at this;exact this);have HL:=zh (show ¬l=l' from fun h=>C (S.o.1 (Hrel.o.1 h)).1);clear T S Hrel C hX
  go_wp2_with (first
   |refine ae uY rfl (.tmp 20) rfl rfl cs hl1 (P.o _ K) ?_
   |(refine aM uY rfl (.tmp 8) (.tmp 21) rfl (cs:=cs.toArray) rfl rfl rfl qd7 (fun u hu=>U.o.1 u qd2) HO.o.obj ?_;intro w1 i p;have f:=(HO.o.bN i p).al Wx 58;have Y:=f.au.obj.lt;have J:=f.tail.ay)
   |refine ae uY rfl (.tmp 24) rfl rfl d hl2 (O.o _ (HO.o.bN i p).ay) ?_
   |(refine aM uY rfl (.tmp 9) (.tmp 25) rfl (cs:=d.toArray) rfl rfl rfl qd5 (fun u hu=>U.o.2 u qd2) f.obj ?_;intro w2 r s;have hO3:=f.bN r s;have W:=hO3.au.obj.all;have V:=hO3.obj.all)
   |refine ae uY rfl (.tmp 8) rfl rfl cs hl1 W ?_
   |refine ae uY rfl (.tmp 9) rfl rfl d hl2 V ?_
   | (go_at_call 178;refine(B.o _ hO3.ay).mono ?_;rintro e w3 ⟨rfl,hb3⟩))
  exact qce
theorem ZP{α:Type}(A:Nat->Nat->α->Prop)(Rp:List Value->α->Prop)(v v':zV)(l l':List α)(m:Mem)(w:zW)(hm:m.ay w)
(hA:∀b o x,A b o x->∃cs:List Value,cs.length=19/\(∀j u,cs[j]?=some u->m.cell b (o+j)=some u)/\(∀u∈cs,u.oneCell'=true)/\Rp cs x)
(hc:∀cs d x Q w',m.ay w'->Rp cs x->Rp d Q->zC 180 #[.agg cs.toArray,.agg d.toArray] w' fun e Z=>e=.returned (.bool (tf (x=Q)))/\Below w'.heap.size w' Z)
(hl:Mem.slice A 19 v l)(e':Mem.slice A 19 v' l'):
 zX 179 #[v,v',.func (.func 180) #[] #[]] w (.bool (tf (l=l'))):=by
 obtain⟨a,c,rfl,h1,h2,h3⟩:=hl;obtain⟨a',c',rfl,C',f',N⟩:=e';unfold maxLen at h2 f';have HK:=zh (zi h3 N);have HA:=zh (zi hA hc);have HO:=zh (Own.start hm);clear h3 N hA hc;refine aj fun R hR=>?_;by_cases g:l.length=l'.length
 case neg=>
  have d':((l.length:Int) != (l'.length:Int))=true:=by simp;omega
  have HL:=zh (show ¬l=l' from fun h=>g qe0);clear g
  go_enter func179,ntmps179
  exact qcg
 have d':((l.length:Int) != (l'.length:Int))=false:=by simp[g]
 have Hlen:=zh g;clear g
 go_enter func179,ntmps179
 go_wp2;refine av [0,1,2,15,16,17] (fun n vs wr=>∃k:Nat,k<=l.length/\n=l.length-k/\vs=[.slice a l.length c,.slice a' l'.length c',.func (.func 180) #[] #[],.slice a l.length c,.int .i64 l.length,.int .i64 k]/\(l=l'↔l.drop k=l'.drop k)/\Own w m wr m []) ?_ ?_
 .exact qda
 clear HO;rintro X z n vs wr hX-⟨k,hk,rfl,rfl,q,hO⟩;have Hrel:=zh q;clear q;simp[aX,lk];by_cases hlt:k<l.length
 case neg=>
  exact qat
 have hlt':k<l'.length:=by rw[<-Hlen.o];exact hlt
 obtain⟨b,off,rfl,h4⟩:=HK.o.1 qdX;obtain⟨b',k',rfl,M⟩:=HK.o.2 qd3;obtain⟨cs,hl1,y,I,G⟩:=HA.o.1 _ _ _ (h4 k hlt);obtain⟨d,hl2,t,H,F⟩:=HA.o.1 _ _ _ (M k hlt');have S:=zh qfo;have T:=zh (fun w' (h:m.ay w')=>HA.o.2 cs d l[k] l'[k] w' h G F);have L:=hO.al Ww 61;have P:=zh (fun(w':zW) (h:m.ay w') j u hj=>Mem_cell_w h (y j u hj));have O:=zh (fun(w':zW) (h:m.ay w') j u hj=>Mem_cell_w h (t j u hj));have E:=y 0 (cs[0]'zo) (yH _);have D:=t 0 (d[0]'zo) (yH _);have s':=Mem_cell_lt hO.ay E;have r':=Mem_cell_lt hO.ay D;have U:=zh (zi I H);have K:=hO.ay;have HO:=zh L;clear hO L h4 M y t I H G F E D;generalize l[k]=x at*
 generalize l'[k]=Q at*
 by_cases C:x=Q
 .have B:=zh (show ∀w',m.ay w'->_ from fun w' h=>by have:=T.o w' h;rw[aO C]at this;exact this);have HL:=zh (Hrel.o.trans (S.o.trans ⟨fun h=>h.2,fun h=>⟨C,h⟩⟩));clear T S Hrel C
  go_wp2_with (first
   |refine ae uX rfl (.tmp 20) rfl rfl cs hl1 (P.o _ K) ?_
   |(refine aM uX rfl (.tmp 8) (.tmp 21) rfl (cs:=cs.toArray) rfl rfl rfl qd7 (fun u hu=>U.o.1 u qd2) HO.o.obj ?_;intro w1 i p;have f:=(HO.o.bN i p).al Ww 61;have Y:=f.au.obj.lt;have J:=f.tail.ay)
   |refine ae uX rfl (.tmp 24) rfl rfl d hl2 (O.o _ (HO.o.bN i p).ay) ?_
   |(refine aM uX rfl (.tmp 9) (.tmp 25) rfl (cs:=d.toArray) rfl rfl rfl qd5 (fun u hu=>U.o.2 u qd2) f.obj ?_;intro w2 r s;have hO3:=f.bN r s;have W:=hO3.au.obj.all;have V:=hO3.obj.all)
   |refine ae uX rfl (.tmp 8) rfl rfl cs hl1 W ?_
   |refine ae uX rfl (.tmp 9) rfl rfl d hl2 V ?_
   | (go_at_call 180;refine(B.o _ hO3.ay).mono ?_;rintro e w3 ⟨rfl,hb3⟩))
  exact qaE
 .have B:=zh (show ∀w',m.ay w'->_ from fun w' h=>by have:=T.o w' h;rw[aA C]at this;exact this);have HL:=zh (show ¬l=l' from fun h=>C (S.o.1 (Hrel.o.1 h)).1);clear T S Hrel C hX
  go_wp2_with (first
   |refine ae uX rfl (.tmp 20) rfl rfl cs hl1 (P.o _ K) ?_
   |(refine aM uX rfl (.tmp 8) (.tmp 21) rfl (cs:=cs.toArray) rfl rfl rfl qd7 (fun u hu=>U.o.1 u qd2) HO.o.obj ?_;intro w1 i p;have f:=(HO.o.bN i p).al Ww 61;have Y:=f.au.obj.lt;have J:=f.tail.ay)
   |refine ae uX rfl (.tmp 24) rfl rfl d hl2 (O.o _ (HO.o.bN i p).ay) ?_
   |(refine aM uX rfl (.tmp 9) (.tmp 25) rfl (cs:=d.toArray) rfl rfl rfl qd5 (fun u hu=>U.o.2 u qd2) f.obj ?_;intro w2 r s;have hO3:=f.bN r s;have W:=hO3.au.obj.all;have V:=hO3.obj.all)
   |refine ae uX rfl (.tmp 8) rfl rfl cs hl1 W ?_
   |refine ae uX rfl (.tmp 9) rfl rfl d hl2 V ?_
   | (go_at_call 180;refine(B.o _ hO3.ay).mono ?_;rintro e w3 ⟨rfl,hb3⟩))
  exact qce
theorem Pw{a b:ByteArray}(h:a=b):(a.toList==b.toList)=true:=by rw[h];simp
theorem Px{a b:ByteArray}(h:¬a=b):(a.toList==b.toList)=false:=by
 rw[xE,xE];exact zO.2 fun e=>h (ME e)
def Ag(n:Nat):Prop:=∀(v v':Vl) (s a:Sl) (m:Mem) (w:zW),m.ay w->bG m n s v->bG m n a v'->dw n v<=1048576->dw n v'<=1048576->zX 86 #[v.val s,v'.val a] w (.bool (tf (v=v')))
def jc(n:Nat)(d:Vd):Prop:=dw n d.1<=1048576/\dw n d.2<=1048576
theorem dJ{α:Type}{A:Nat->Nat->α->Prop}{P:α->Prop}{size:Nat}{v:zV}{l:List α}(h:Mem.slice A size v l)(f:∀x∈l,P x):Mem.slice (fun b o x=>A b o x/\P x) size v l:=by
 obtain⟨a,c,e,m,k,j⟩:=h;refine⟨a,c,e,m,k,fun d=>?_⟩;obtain⟨b,off,n,g⟩:=j d;exact⟨b,off,n,fun i hi=>⟨g i hi,f _ (zF hi)⟩⟩
theorem qI{n:Nat}(H:Ag n)(d d':Vd)(x y x' y':Sl)(m:Mem)(w:zW)(W:m.ay w)(P:bG m n x d.1)(O:bG m n y d.2)(r:bG m n x' d'.1)(q:bG m n y' d'.2)(K:jc n d)(k:jc n d'):
 zX 55 #[dE d x y,dE d' x' y'] w (.bool (tf (d=d'))):=by
 have A:=((Own.start W).al (fK d x y).toArray 35).al (fK d' x' y').toArray 35;simp only[bR]at A;have z:=zh (H d.1 d'.1 x x' m _ A.ay P r K.1 k.1);have S:=zh (fun w' (h:m.ay w')=>H d.2 d'.2 y y' m w' h O q K.2 k.2);have M:(bu d.1 x).length=9:=rfl;have F:(bu d.2 y).length=9:=rfl;have p:(bu d'.1 x').length=9:=rfl;have l:(bu d'.2 y').length=9:=rfl;have T:=zh qfi;have v:=zh qfC;have t:=zh (show d=d'↔d.1=d'.1/\d.2=d'.2 from Prod.ext_iff);have B:=zh A;unfold Vl.val dE at*
 generalize bu d.1 x=N at*
 generalize bu d.2 y=Q at*
 generalize fK d x y=D at*
 generalize bu d'.1 x'=G at*
 generalize bu d'.2 y'=s at*
 generalize fK d' x' y'=Y at*
 clear A P O r q;have J:=B.o.au.obj.sub (o:=0) (cs:=N) fun j u b=>by simpa using T.o.1 j u b
 have i:=B.o.obj.sub (o:=0) (cs:=G) fun j u b=>by simpa using v.o.1 j u b
 refine aj fun R L=>?_
 go_enter func55,ntmps55
 by_cases g:d.1=d'.1
 case neg=>
  have c:=z.o;rw[aA g]at c;have z:=zh c;have HX:=zh (show ¬d=d' from fun h=>g (t.o.1 h).1);clear c S g t
  go_wp2_with (first|refine ae iH rfl (.tmp 5) rfl rfl N M J ?_|refine ae iH rfl (.tmp 7) rfl rfl G p i ?_|(go_at_call 86;refine z.o.mono ?_;rintro e U ⟨rfl,f⟩))
  exact L.o _ _ ⟨aS (by rw[aA HX.o]),(B.o.aP f).az⟩
 have c:=z.o;rw[aO g]at c;have I:=zh c;have HX:=zh (dh (show d.2=d'.2↔d=d' from⟨fun h=>t.o.2 ⟨g,h⟩,fun h=>(t.o.1 h).2⟩));clear c z g t;generalize tf (d.2=d'.2)=ts at*
 go_wp2_with (first
  |refine ae iH rfl (.tmp 5) rfl rfl N M J ?_
  |refine ae iH rfl (.tmp 7) rfl rfl G p i ?_
  |refine ae iH rfl (.tmp 11) rfl rfl Q F V ?_
  |refine ae iH rfl (.tmp 13) rfl rfl s l C ?_
  | (go_at_call 86;first
   |(refine(S.o _ a.ay).mono ?_;rintro e X ⟨rfl,E⟩)
   | (refine I.o.mono ?_;rintro e U ⟨rfl,f⟩;have a:=B.o.aP f;have V:=a.au.obj.sub (o:=9) (cs:=Q) (fun j u b=>by simpa using T.o.2 j u b);have C:=a.obj.sub (o:=9) (cs:=s) (fun j u b=>by simpa using v.o.2 j u b))))
 exact L.o _ _ ⟨aS qez,(a.aP E).az⟩
theorem azm{c:St}{f:Fd}(h:f∈c.1):f.2∈fE c:=yP.2 (.inl (yD.2 ⟨f,h,rfl⟩))
theorem azl{c:St}{f:Kl}(h:f∈c.2):f.2∈fE c:=yP.2 (.inr (yD.2 ⟨f,h,rfl⟩))
theorem VB{n:Nat}(H:Ag n)(v v':zV)(l a:List Vd)(m:Mem)(w:zW)(C:m.ay w)(h:bO (bG m n) m v l)(D:bO (bG m n) m v' a)(u:∀d∈l,jc n d)(f:∀d∈a,jc n d):
 zX 134 #[v,v',.func (.func 55) #[] #[]] w (.bool (tf (l=a))):=
 ZO (fun b o d=>uV (bG m n) m b o d/\jc n d) (fun cs d=>(∃x y,cs=fK d x y/\bG m n x d.1/\bG m n y d.2)/\jc n d) v v' l a m w C
  (fun b o d q=>by obtain⟨x,y,p,c,r⟩:=q.1.cells;exact⟨_,rfl,p,gW c r,⟨x,y,rfl,c,r⟩,q.2⟩)
  (fun cs F d E w' k p c=>by
   obtain⟨⟨x,y,rfl,B,A⟩,z⟩:=p;obtain⟨⟨t,s,rfl,j,i⟩,g⟩:=c;exact qI H d E x y t s m w' k B A j i z g) (dJ h u) (dJ D f)
theorem Ul{n:Nat}(H:Ag n)(f a:Fd)(x y d c:Sl)(m:Mem)(w:zW)(K:m.ay w)(I:bG m n x f.2.1)(G:bG m n y f.2.2)(r:bG m n d a.2.1)(q:bG m n c a.2.2)(J:jc n f.2)(t:jc n a.2):
 zX 178 #[.agg (qU f x y).toArray,.agg (qU a d c).toArray] w (.bool (tf (f=a))):=by
 have b:=((Own.start K).al (qU f x y).toArray 58).al (qU a d c).toArray 58;simp only[bR]at b;have F:=zh (fun w' (h:m.ay w')=>qI H f.2 a.2 x y d c m w' h I G r q J t);have M:(fK f.2 x y).length=18:=rfl;have E:(fK a.2 d c).length=18:=rfl;have U:=b.au.obj.cell (i:=0) (v:=.string f.1.1) rfl;have T:=b.au.obj.cell (i:=1) (v:=.int .i64 f.1.2) rfl;have P:=b.obj.cell (i:=0) (v:=.string a.1.1) rfl;have O:=b.obj.cell (i:=1) (v:=.int .i64 a.1.2) rfl;have s:=b.au.obj.sub (o:=2) (cs:=fK f.2 x y) fun j u z=>by simpa using qR z
 have g:=b.obj.sub (o:=2) (cs:=fK a.2 d c) fun j u z=>by simpa using qR z
 have l:=zh (show f=a↔f.1.1=a.1.1/\f.1.2=a.1.2/\f.2=a.2 from⟨fun h=>by rw[h];exact⟨rfl,rfl,rfl⟩,fun h=>Prod.ext (Prod.ext h.1 h.2.1) h.2.2⟩);have HO:=zh b;have A:=b.ay;unfold dE at*
 generalize fK f.2 x y=N at*
 generalize fK a.2 d c=Q at*
 generalize qU f x y=D at*
 generalize qU a d c=V at*
 clear b I G r q;refine aj fun R hR=>?_
 go_enter func178,ntmps178
 by_cases k:f.1.1=a.1.1
 case neg=>
  have HX:=zh (show ¬f=a from fun h=>k (l.o.1 h).1);have L:(f.1.1.toList==a.1.1.toList)=false:=Px k;clear l F k s g;exact qdS
 have L:(f.1.1.toList==a.1.1.toList)=true:=Pw k;by_cases p:f.1.2=a.1.2
 case neg=>
  have HX:=zh (show ¬f=a from fun h=>p (l.o.1 h).2.1);have B:(f.1.2==a.1.2)=false:=zO.2 p;clear l F k p s g;exact qdS
 have B:(f.1.2==a.1.2)=true:=beq_iff_eq.2 p;have HX:=zh (dh (show f.2=a.2↔f=a from⟨fun h=>l.o.2 ⟨k,p,h⟩,fun h=>(l.o.1 h).2.2⟩));clear k p l;generalize tf (f.2=a.2)=ts at*
 go_wp2_with (first
  |refine ae iY rfl (.tmp 18) rfl rfl N M s ?_
  |refine ae iY rfl (.tmp 20) rfl rfl Q E g ?_
  | (go_at_call 55;refine(F.o _ A).mono ?_;rintro e S ⟨rfl,C⟩))
 exact hR.o _ _ ⟨aS qez,(HO.o.aP C).az⟩
theorem XT{n:Nat}(H:Ag n)(v v':zV)(l a:List Fd)(m:Mem)(w:zW)(C:m.ay w)(h:iy (bG m n) m v l)(D:iy (bG m n) m v' a)(u:∀d∈l,jc n d.2)(f:∀d∈a,jc n d.2):
 zX 177 #[v,v',.func (.func 178) #[] #[]] w (.bool (tf (l=a))):=
 ZQ (fun b o d=>IL (bG m n) m b o d/\jc n d.2) (fun cs d=>(∃x y,cs=qU d x y/\bG m n x d.2.1/\bG m n y d.2.2)/\jc n d.2) v v' l a m w C
  (fun b o d q=>by obtain⟨x,y,p,c,r⟩:=q.1.cells;exact⟨_,rfl,p,pF c r,⟨x,y,rfl,c,r⟩,q.2⟩)
  (fun cs F d E w' k p c=>by
   obtain⟨⟨x,y,rfl,B,A⟩,z⟩:=p;obtain⟨⟨t,s,rfl,j,i⟩,g⟩:=c;exact Ul H d E x y t s m w' k B A j i z g) (dJ h u) (dJ D f)
theorem Uk{n:Nat}(H:Ag n)(f a:Kl)(c q:zV)(x y d b:Sl)(m:Mem)(w:zW)(W:m.ay w)(K:aQ m c f.1)(r:aQ m q a.1)(M:bG m n x f.2.1)(L:bG m n y f.2.2)(t:bG m n d a.2.1)(s:bG m n b a.2.2)(V:jc n f.2)(E:jc n a.2):
 zX 180 #[.agg (qN f c x y).toArray,.agg (qN a q d b).toArray] w (.bool (tf (f=a))):=by
 have l:=((Own.start W).al (qN f c x y).toArray 61).al (qN a q d b).toArray 61;simp only[bR]at l;have z:=zh (Ba c q f.1 a.1 m _ l.ay K r);have P:=zh (fun w' (h:m.ay w')=>qI H f.2 a.2 x y d b m w' h M L t s V E);have X:(fK f.2 x y).length=18:=rfl;have I:(fK a.2 d b).length=18:=rfl;have c0:=l.au.obj.cell (i:=0) (v:=c) rfl;have Y:=l.obj.cell (i:=0) (v:=q) rfl;have O:=zh (fun(w':zW) (h:bH w' w.heap.size 61 (qN f c x y).toArray)=>h.sub (o:=1) (cs:=fK f.2 x y) fun j u F=>by simpa using qM F);have A:=zh (fun(w':zW) (h:bH w' (w.heap.size+1) 61 (qN a q d b).toArray)=>h.sub (o:=1) (cs:=fK a.2 d b) fun j u F=>by simpa using qM F);have B:=zh (show f=a↔f.1=a.1/\f.2=a.2 from Prod.ext_iff);have HO:=zh l;obtain⟨ta,tc,rfl,-⟩:=K;obtain⟨T,S,rfl,-⟩:=r;unfold dE at*
 generalize fK f.2 x y=N at*
 generalize fK a.2 d b=Z at*
 generalize qN f _ x y=D at*
 generalize qN a _ d b=D' at*
 clear l M L t s;refine aj fun R hR=>?_
 go_enter func180,ntmps180
 by_cases p:f.1=a.1
 case neg=>
  have k:=z.o;rw[aA p]at k;have z:=zh k;have HX:=zh (show ¬f=a from fun h=>p (B.o.1 h).1);clear B P p O A k
  go_wp2_with (go_at_call 176;refine z.o.mono ?_;rintro e Q ⟨rfl,hb2⟩)
  exact qdL
 have k:=z.o;rw[aO p]at k;have J:=zh k;have HX:=zh (dh (show f.2=a.2↔f=a from⟨fun h=>B.o.2 ⟨p,h⟩,fun h=>(B.o.1 h).2⟩));clear p B z k;generalize tf (f.2=a.2)=ts at*
 go_wp2_with (first
  |(go_at_call 176;refine J.o.mono ?_;rintro e Q ⟨rfl,hb2⟩;have g:=HO.o.aP hb2;have U:=O.o _ g.au.obj;have C:=A.o _ g.obj)
  |refine ae iY rfl (.tmp 11) rfl rfl N X U ?_
  |refine ae iY rfl (.tmp 13) rfl rfl Z I C ?_
  | (go_at_call 55;refine(P.o _ g.ay).mono ?_;rintro e w3 ⟨rfl,G⟩))
 exact hR.o _ _ ⟨aS qez,(g.aP G).az⟩
theorem XR{n:Nat}(H:Ag n)(v v':zV)(l a:List Kl)(m:Mem)(w:zW)(G:m.ay w)(h:gX (bG m n) m v l)(I:gX (bG m n) m v' a)(B:∀d∈l,jc n d.2)(g:∀d∈a,jc n d.2):
 zX 179 #[v,v',.func (.func 180) #[] #[]] w (.bool (tf (l=a))):=
 ZP (fun b o d=>II (bG m n) m b o d/\jc n d.2) (fun cs d=>(∃c x y,cs=qN d c x y/\aQ m c d.1/\bG m n x d.2.1/\bG m n y d.2.2)/\jc n d.2) v v' l a m w G
  (fun b o d s=>by obtain⟨c,x,y,u,r,f,t⟩:=s.1.cells;exact⟨_,rfl,r,pg u f t,⟨c,x,y,rfl,u,f,t⟩,s.2⟩)
  (fun cs K d J w' q r f=>by
   obtain⟨⟨c,x,y,rfl,F,E,D⟩,C⟩:=r;obtain⟨⟨L,A,z,rfl,p,k,j⟩,i⟩:=f;exact Uk H d J c L x y A z m w' q F p E D k j C i) (dJ h B) (dJ I g)
theorem Ql{n:Nat}(H:Ag n)(c a:St)(u t v s:zV)(m:Mem)(w:zW)(F:m.ay w)(C:iy (bG m n) m u c.1)(B:gX (bG m n) m t c.2)(p:iy (bG m n) m v a.1)(l:gX (bG m n) m s a.2)(A:∀d∈fE c,jc n d)(k:∀d∈fE a,jc n d):
 zX 135 #[.agg #[u,t],.agg #[v,s]] w (.bool (tf (c=a))):=by
 have x:=((Own.start F).al #[u,t] 45).al #[v,s] 45;simp only[bR]at x;have q:=zh (XT H u v c.1 a.1 m _ x.ay C p (fun f i=>A _ (azm i)) (fun f i=>k _ (azm i)));have D:=zh (fun w' (h:m.ay w')=>XR H t s c.2 a.2 m w' h B l (fun f i=>A _ (azl i)) (fun f i=>k _ (azl i)));have r:=zh (show c=a↔c.1=a.1/\c.2=a.2 from Prod.ext_iff);have HO:=zh x;obtain⟨Y,U,rfl,-⟩:=C;obtain⟨X,T,rfl,-⟩:=B;obtain⟨W,S,rfl,-⟩:=p;obtain⟨V,Q,rfl,-⟩:=l;clear x;refine aj fun R hR=>?_
 go_enter func135,ntmps135
 by_cases j:c.1=a.1
 case neg=>
  have g:=q.o;rw[aA j]at g;have q:=zh g;have HX:=zh (show ¬c=a from fun h=>j (r.o.1 h).1);clear r D j g
  go_wp2_with (go_at_call 177;refine q.o.mono ?_;rintro e E ⟨rfl,hb2⟩)
  exact qdL
 have g:=q.o;rw[aO j]at g;have z:=zh g;have HX:=zh (dh (show c.2=a.2↔c=a from⟨fun h=>r.o.2 ⟨j,h⟩,fun h=>(r.o.1 h).2⟩));clear j r q g;generalize tf (c.2=a.2)=ts at*
 generalize c.1.length=P at*
 generalize c.2.length=O at*
 generalize a.1.length=N at*
 generalize a.2.length=M at*
 go_wp2_with (first
  |(go_at_call 177;refine z.o.mono ?_;rintro e E ⟨rfl,hb2⟩;have b:=HO.o.aP hb2;have K:=b.obj.c 1;have J:=b.au.obj.c 1;have I:=b.obj.lt;have G:=b.au.obj.lt)
  | (go_at_call 179;refine(D.o _ b.ay).mono ?_;rintro e L ⟨rfl,y⟩))
 exact hR.o _ _ ⟨aS qez,(b.aP y).az⟩
theorem bO.iU{m m':Mem}{n:Nat}{v:zV}{l:List Vd}(k:m.le m')(h:bO (bG m n) m v l):bO (bG m' n) m' v l:=bO.le k (fun _ _=>bG.le k) h
theorem Gq{n:Nat}{v:Vl}{c:Lc}(h:Ht (n+1) v)(d:dw (n+1) v<=1048576)(a:c∈v.aU):c.1.length+c.2.length<=1048576:=by
 have g:=wD h;have b:(bW c).length<=(v.aU.flatMap bW).length:=by
  rw[List.length_flatMap];exact Qc (f:=fun c=>(bW c).length) a
 have e:v.kids.length=(v.aU.flatMap bW).length+(v.aF.flatMap fE).length:=by rw[Vl.kids,zL]
 rw[bW,zL]at b;omega
theorem YY{n:Nat}(H:Ag n):Ag (n+1):=fun v v' s s' m w hm hv e' hct A'=>by
 have g:=((Own.start hm).al (bu v s).toArray 33).al (bu v' s').toArray 33;simp only[bR]at g;have HL:=zh (zi (fun c (hc:c∈v.aU)=>Gq hv.ht hct hc) (fun c (hc:c∈v'.aU)=>Gq e'.ht A' hc));have l':=zh (zi (fun d (L:d∈v.kids)=>show jc n d by have:=vJ (n:=n) L;exact⟨zo,zo⟩) (fun d (L:d∈v'.kids)=>show jc n d by have:=vJ (n:=n) L;exact⟨zo,zo⟩));have HS:=zh (EB s.i s.f s.t s'.i s'.f s'.t v.s v'.s m _ g.ay hv.sc e'.sc);have F:=zh (TJ v v');have c0:=g.au.obj.cell (i:=0) (v:=.bool v.any) rfl;have c0':=g.obj.cell (i:=0) (v:=.bool v'.any) rfl;have q0:=g.au.obj.sub (tZ v s);have c':=g.obj.sub (tZ v' s');have H7:(bu v s).toArray[7]?=some s.l:=rfl;have H8:(bu v s).toArray[8]?=some s.s:=rfl;have z':(bu v' s').toArray[7]?=some s'.l:=rfl;have y':(bu v' s').toArray[8]?=some s'.s:=rfl;have hv2:=hv.2;have hv2':=e'.2;obtain⟨a1,b1,a2,b2,a3,b3,a4,b4,a5,b5,rfl,q1,q2,q3,q4,q5⟩:=hv.eG;obtain⟨⟨z1,y1,e1,-,-,k1⟩,⟨z2,y2,e2,-,-,k2⟩⟩:=hv2;simp only[Value.slice.injEq]at e1 e2;obtain⟨rfl,-,rfl⟩:=e1;obtain⟨rfl,-,rfl⟩:=e2;obtain⟨a1',b1',a2',b2',a3',b3',a4',b4',a5',b5',rfl,q1',q2',q3',q4',q5'⟩:=e'.eG;obtain⟨⟨z1,y1,e1,-,-,k1'⟩,⟨z2,y2,e2,-,-,k2'⟩⟩:=hv2';simp only[Value.slice.injEq]at e1 e2;obtain⟨rfl,-,rfl⟩:=e1;obtain⟨rfl,-,rfl⟩:=e2;simp only at H7 H8 z' y';have I:=zh (zi H7 (zi H8 (zi z' y')));unfold maxLen at q4 q5 q4' q5';have HK:=zh (zi k1 (zi k2 (zi k1' k2')));have HO:=zh g;obtain⟨P1,hP1⟩:∃P1:Prop,P1=(v.any=v'.any/\v.s=v'.s/\v.aU.length=v'.aU.length/\v.aF.length=v'.aF.length):=⟨_,rfl⟩;have B:=zh hP1;have c7:=g.au.obj.cell H7;have V:=g.obj.cell z';have c8:=g.au.obj.cell H8;have p':=g.obj.cell y';have g1:=g.au.obj.lt;have g2:=g.obj.lt;clear g hP1 k1 k2 k1' k2' hv e' hct A' q1 q2 q3 q1' q2' q3' H7 H8 z' y';unfold Vl.val RS.val at*
 generalize bu v _=N at*
 generalize bu v' _=N' at*
 refine aj fun R hR=>?_
 go_enter func86,ntmps86
 go_upto_region 1 with(fail)
 generalize hW:(w.alloc (.cells N.toArray 33)).alloc (.cells N'.toArray 33)=w0 at*
 clear hW;refine aR [2,3,39] (fun G w'=>G=[.pointer (some ⟨w.heap.size,0,none⟩),.pointer (some ⟨w.heap.size+1,0,none⟩),.bool (!tf P1)]/\Own w m w' m [.obj (w.heap.size+1) 33 N'.toArray,.obj w.heap.size 33 N.toArray]) ?_ ?_
 .intro X hX;clear HK HL l' F;by_cases h1:v.any=v'.any
  case neg=>
   have HP:=zh (show tf P1=false by rw[B.o];exact aA fun h=>h1 h.1);have L:(v.any==v'.any)=false:=by simp[h1]
   have hd2:(v.any != v'.any)=true:=by simp[h1]
   clear h1 HS;go_wp2;exact hX.o _ _ rfl ⟨by rw[HP.o]<;>rfl,HO.o⟩
  have L:(v.any==v'.any)=true:=by simp[h1]
  have hd2:(v.any != v'.any)=false:=by simp[h1]
  by_cases h2:v.s=v'.s
  case neg=>
   have HP:=zh (show tf P1=false by rw[B.o];exact aA fun h=>h2 h.2.1);have hh:=HS.o;rw[aA h2]at hh;have HS:=zh hh;clear h1 h2 hh
   go_wp2_with (first|refine ae K3 rfl (.tmp 15) rfl rfl _ rfl q0 ?_|refine ae K3 rfl (.tmp 17) rfl rfl _ rfl c' ?_|(go_at_call 133;refine HS.o.mono ?_;rintro e w1 ⟨rfl,hb1⟩))
   exact qbw
  have hh:=HS.o;rw[aO h2]at hh;have O':=zh hh;clear hh HS;by_cases h3:v.aU.length=v'.aU.length
  case neg=>
   have HP:=zh (show tf P1=false by rw[B.o];exact aA fun h=>h3 h.2.2.1);have hd3:((v.aU.length:Int) != (v'.aU.length:Int))=true:=by simp;omega
   clear h1 h2 h3 B;generalize v.aU.length=n4 at*
   generalize v'.aU.length=n4' at*
   go_wp2_with (first|refine ae K3 rfl (.tmp 15) rfl rfl _ rfl q0 ?_|refine ae K3 rfl (.tmp 17) rfl rfl _ rfl c' ?_|(go_at_call 133;refine O'.o.mono ?_;rintro e w1 ⟨rfl,hb1⟩;have y:=HO.o.aP hb1;have c7:=y.au.obj.cell I.o.1;have V:=y.obj.cell I.o.2.2.1;have g1:=y.au.obj.lt;have g2:=y.obj.lt))
   exact qbw
  have hd3:((v.aU.length:Int) != (v'.aU.length:Int))=false:=by simp[h3]
  by_cases h4:v.aF.length=v'.aF.length
  case neg=>
   have HP:=zh (show tf P1=false by rw[B.o];exact aA fun h=>h4 h.2.2.2);have hd4:((v.aF.length:Int) != (v'.aF.length:Int))=true:=by simp;omega
   clear h1 h2 h3 h4 B;generalize v.aU.length=n4 at*
   generalize v'.aU.length=n4' at*
   generalize v.aF.length=n5 at*
   generalize v'.aF.length=n5' at*
   go_wp2_with (first|refine ae K3 rfl (.tmp 15) rfl rfl _ rfl q0 ?_|refine ae K3 rfl (.tmp 17) rfl rfl _ rfl c' ?_|(go_at_call 133;refine O'.o.mono ?_;rintro e w1 ⟨rfl,hb1⟩;have y:=HO.o.aP hb1;have c7:=y.au.obj.cell I.o.1;have V:=y.obj.cell I.o.2.2.1;have c8:=y.au.obj.cell I.o.2.1;have p':=y.obj.cell I.o.2.2.2;have g1:=y.au.obj.lt;have g2:=y.obj.lt))
   exact qbw
  have hd4:((v.aF.length:Int) != (v'.aF.length:Int))=false:=by simp[h4]
  have HP:=zh (show tf P1=true by rw[B.o];exact aO ⟨h1,h2,h3,h4⟩);clear h1 h2 h3 h4 B;generalize v.aU.length=n4 at*
  generalize v'.aU.length=n4' at*
  generalize v.aF.length=n5 at*
  generalize v'.aF.length=n5' at*
  go_wp2_with (first|refine ae K3 rfl (.tmp 15) rfl rfl _ rfl q0 ?_|refine ae K3 rfl (.tmp 17) rfl rfl _ rfl c' ?_|(go_at_call 133;refine O'.o.mono ?_;rintro e w1 ⟨rfl,hb1⟩;have y:=HO.o.aP hb1;have c7:=y.au.obj.cell I.o.1;have V:=y.obj.cell I.o.2.2.1;have c8:=y.au.obj.cell I.o.2.1;have p':=y.obj.cell I.o.2.2.2;have g1:=y.au.obj.lt;have g2:=y.obj.lt))
  exact qbw
 clear HO HS c0 c0' q0 c' c7 V c8 p' g1 g2;rintro z G w1-⟨rfl,g⟩;simp[aX,lk];have HO:=zh g;by_cases T:P1
 case neg=>
  have J:=zh (show ¬v=v' from fun h=>T (by rw[B.o,h];exact⟨rfl,rfl,rfl,rfl⟩));rw[aA T];have HB:=zh g.az;clear g HO F T B;go_wp2;exact hR.o _ _ ⟨aS (by rw[aA J.o]),HB.o⟩
 have hp:=B.o ▸ T;rw[aO T];have J:=zh (show v=v'↔v.aU=v'.aU/\v.aF=v'.aF from F.o.trans ⟨fun h=>h.2.2,fun h=>⟨hp.1,hp.2.1,h⟩⟩);have t':=zh (zi hp.2.2.1 hp.2.2.2);clear g F T B hp;have c7:=HO.o.au.obj.cell I.o.1;have g1:=HO.o.au.obj.lt;go_wp2;refine av [2,3,42,43] (fun q G D=>∃(i:Nat),i<=v.aU.length/\q=v.aU.length-i/\G=[.pointer (some ⟨w.heap.size,0,none⟩),.pointer (some ⟨w.heap.size+1,0,none⟩),.int .i64 (v.aU.length:Int),.int .i64 (i:Int)]/\(v=v'↔v.aU.drop i=v'.aU.drop i/\v.aF=v'.aF) /\
  Own w m D m [.obj (w.heap.size+1) 33 N'.toArray,.obj w.heap.size 33 N.toArray]) ?_ ?_
 .exact⟨_,0,zG _,rfl,rfl,J.o,HO.o⟩
 clear HO J c7 g1;rintro X z q G D hX-⟨i,hi,rfl,rfl,hE,g⟩;simp[aX,lk];have F:=zh hE;clear hE;by_cases hlt:i<v.aU.length
 .have hlt':i<v'.aU.length:=by rw[<-t'.o.1];exact hlt
  obtain⟨b,off,rfl,h4⟩:=HK.o.1 qdX;obtain⟨b',d',rfl,f'⟩:=HK.o.2.2.1 qd3;obtain⟨u,u2,s1,s2,s3,s4⟩:=h4 i hlt;obtain⟨u',H',K,a',Z,W⟩:=f' i hlt';have c7:=g.au.obj.cell I.o.1;have V:=g.obj.cell I.o.2.2.1;have g1:=g.au.obj.lt;have g2:=g.obj.lt;have x1:=Mem_cell_w g.ay s1;have x2:=Mem_cell_w g.ay s2;have xl:=Mem_cell_lt g.ay s1;have V':=Mem_cell_w g.ay K;have U':=Mem_cell_w g.ay a';have T':=Mem_cell_lt g.ay K;have C:=zh (jA v.aU v'.aU i hlt hlt');have k':=zh (UW v.aU[i] v'.aU[i]);have HO:=zh g;clear g h4 f' s1 s2 K a';have r':=zh (zi (HL.o.1 _ (zF hlt)) (HL.o.2 _ (zF hlt')));have x':=zh (zi (fun d (L:d∈bW v.aU[i])=>l'.o.1 d (xm (zF hlt) L)) (fun d (L:d∈bW v'.aU[i])=>l'.o.2 d (xm (zF hlt') L)));generalize v.aU[i]=cl at*
  generalize v'.aU[i]=x at*
  have M':=zh (fun(w':zW) (h:m.ay w')=>kG u u2 cl m n w' h s3 s4 r'.o.1);have j':=zh (fun(w':zW) (h:m.ay w')=>kG u' H' x m n w' h Z W r'.o.2);obtain⟨ua,uc,rfl,-,r2,-⟩:=s3;obtain⟨S,P,rfl,-⟩:=s4;obtain⟨ub,ud,rfl,-,r2',-⟩:=Z;obtain⟨Q,O,rfl,-⟩:=W;unfold maxLen at r2 r2'
  go_upto_region 6 with(fail)
  refine aR [2,3,6,7,42,43] (fun G w'=>∃p q,G=[.pointer (some ⟨w.heap.size,0,none⟩),.pointer (some ⟨w.heap.size+1,0,none⟩),.pointer (some ⟨p,0,none⟩),.pointer (some ⟨q,0,none⟩),.int .i64 (v.aU.length:Int),.int .i64 (i:Int)] /\
   Own w m w' m [.obj p 51 #[.slice ua cl.1.length uc,.slice S cl.2.length P],.obj q 51 #[.slice ub x.1.length ud,.slice Q x.2.length O],.obj (w.heap.size+1) 33 N'.toArray,.obj w.heap.size 33 N.toArray]) ?_ ?_
  .intro Y hY
   go_region
   .exact hY.o _ _ rfl ⟨D.heap.size,D.heap.size+1,rfl,by simpa only[bR]using((HO.o.al #[.slice ua cl.1.length uc,.slice S cl.2.length P] 51).al #[.slice ub x.1.length ud,.slice Q x.2.length O] 51).dr.au⟩
   .exact hY.o _ _ rfl ⟨D.heap.size+1,D.heap.size,rfl,by simpa only[bR]using((HO.o.al #[.slice ub x.1.length ud,.slice Q x.2.length O] 51).al #[.slice ua cl.1.length uc,.slice S cl.2.length P] 51).dr⟩
  clear HO c7 V g1 g2 x1 x2 xl V' U' T';rintro z1 G w2-⟨p,q,rfl,g⟩;simp[aX,lk];have y1:=g.obj.c 0;have y2:=g.au.obj.c 0;have y3:=g.obj.lt;have y4:=g.au.obj.lt;have HO:=zh g;clear g;by_cases o':cl.1.length=x.1.length
  case neg=>
   have L:((cl.1.length:Int) != (x.1.length:Int))=true:=by simp;omega
   have J:=zh (show ¬v=v' from fun h=>o' (k'.o.1 (C.o.1 (F.o.1 h).1).1).1);clear k' C F o' M' j' r' x' hX;generalize cl.1.length=n1 at*
   generalize x.1.length=n2 at*
   go_wp2
   go_quiet (fail)
   go_wp2;exact hR.o _ _ ⟨aS (by rw[aA J.o]),(HO.o.Ep _).az⟩
  have J:=zh (show v=v'↔bW cl=bW x/\v.aU.drop (i+1)=v'.aU.drop (i+1)/\v.aF=v'.aF from
   ⟨fun h=>⟨(k'.o.1 (C.o.1 (F.o.1 h).1).1).2,(C.o.1 (F.o.1 h).1).2,(F.o.1 h).2⟩,fun h=>F.o.2 ⟨C.o.2 ⟨k'.o.2 ⟨o',h.1⟩,h.2.1⟩,h.2.2⟩⟩)
  clear k' C F r';generalize cl.1.length=n1 at*
  generalize cl.2.length=n3 at*
  generalize x.2.length=n4 at*
  generalize x.1.length=n2 at*
  subst o';generalize bW cl=L1 at*
  generalize bW x=L2 at*
  have hin0:=HO.o.ay
  go_upto_region 7 with(fail)
  refine aR [2,3,42,43,70] (fun G w'=>G=[.pointer (some ⟨w.heap.size,0,none⟩),.pointer (some ⟨w.heap.size+1,0,none⟩),.int .i64 (v.aU.length:Int),.int .i64 (i:Int),.bool (!tf (L1=L2))] /\
   Own w m w' m [.obj (w.heap.size+1) 33 N'.toArray,.obj w.heap.size 33 N.toArray]) ?_ ?_
  .intro Y hY;refine bz 15 8 (fun j=>[aD.is (·=.pointer (some ⟨p,0,none⟩)),aD.is (·=.slice ua n1 uc),aD.is (·=.int .i64 (n1:Nat)),aD.is (·=.pointer (some ⟨q,0,none⟩)),aD.is (·=.slice ub n1 ud),aD.is (·=.int .i64 (n1:Nat)),aD.is (·=.bool false),aD.is (·=.bool false),aD.is (·=.agg #[.slice ua n1 uc,.slice S n3 P]),aD.mem m [9] (fun M u=>bO (bG M n) M u L1),aD.is (·=.agg #[.slice ub n1 ud,.slice Q n4 O]),aD.mem m [11] (fun M u=>bO (bG M n) M u L2),aD.is (·=.bool (tf (L1=L2))),aD.is (·=.bool (!tf (L1=L2))),aD.is (·=.bool (!tf (L1=L2)))].getD j aD.any) zk zk ?_ ?_
   .intro i hi o A a D ho RA;have HO2:=HO.o.dr.aP RA.az;have y1:=HO2.obj.c 0;have y2:=HO2.au.obj.c 0;have y5:=HO2.obj.c 1;have y6:=HO2.au.obj.c 1;have y3:=HO2.obj.lt;have y4:=HO2.au.obj.lt;rcases(show i=0\/i=1\/i=2\/i=3\/i=4\/i=5\/i=6\/i=7\/i=8\/i=9\/i=10\/i=11\/i=12\/i=13\/i=14 by omega)with rfl|rfl|rfl|rfl|rfl|rfl|rfl|rfl|rfl|rfl|rfl|rfl|rfl|rfl|rfl
    .have e6:=RA.k 6;exact qaa
    .have e56:zt a 56 _:=RA.d 0 rfl;exact qaa
    .have e57:zt a 57 _:=RA.d 1 rfl;exact qaa
    .have e7:=RA.k 7;exact qaa
    .have e59:zt a 59 _:=RA.d 3 rfl;exact qaa
    .have e60:zt a 60 _:=RA.d 4 rfl;exact qaa
    .have e58:zt a 58 _:=RA.d 2 rfl;have e61:zt a 61 _:=RA.d 5 rfl;exact qaa
    .have e62:zt a 62 _:=RA.d 6 rfl;exact qaa
    .have e6:=RA.k 6;exact qbu
    .have e64:zt a 64 _:=RA.d 8 rfl;have e63:zt a 63 _:=RA.d 7 rfl;cases ho;refine we2 rfl rfl rfl e63 (M'.o _ HO2.ay) ?_;exact qbN
    .have e7:=RA.k 7;exact qbu
    .have e66:zt a 66 _:=RA.d 10 rfl;have e63:zt a 63 _:=RA.d 7 rfl;cases ho;refine we2 rfl rfl rfl e63 (j'.o _ HO2.ay) ?_;exact qbM
    .have e65:(aD.mem m [9] (fun M u=>bO (bG M n) M u L1)).holds (a.tmps.getD 65 undef) A D:=RA.d 9 rfl;have e67:(aD.mem m [11] (fun M u=>bO (bG M n) M u L2)).holds (a.tmps.getD 67 undef) A D:=RA.d 11 rfl;have e63:zt a 63 _:=RA.d 7 rfl;cases ho;have f1:bO (bG (m.gU D A [9]) n) (m.gU D A [9]) _ L1:=e65;have f2:bO (bG (m.gU D A [11]) n) (m.gU D A [11]) _ L2:=e67;have M1:=Mem_wins_le (m:=m) (es:=[9,11]) HO2.ay A (ds:=[9]) zS;have M2:=Mem_wins_le (m:=m) (es:=[9,11]) HO2.ay A (ds:=[11]) zS;refine we2 rfl rfl rfl e63 (VB H _ _ L1 L2 (m.gU D A [9,11]) D (Mem_wins_inn HO2.ay A [9,11]) (f1.iU M1) (f2.iU M2) x'.o.1 x'.o.2) ?_;exact qab
    .have e68:zt a 68 _:=RA.d 12 rfl;exact qbu
    .have e63:zt a 63 _:=RA.d 7 rfl;have e69:zt a 69 _:=RA.d 13 rfl;exact qaa
   .intro A a D E;have e2:=E.keep 2 zk;have e3:=E.keep 3 zk;have e42:=E.keep 42 zk;have e43:=E.keep 43 zk;have e70:a.tmps.getD 70 undef=.bool (!tf (L1=L2)):=E.fact 14 _ zo rfl;have hZ:=HO.o.dr.aP E.az;obtain⟨t1,d⟩:=a;obtain rfl:d=[]:=E.defers;refine bY zk (hY.o _ _ E.size ⟨?_,hZ.tail.tail⟩) _;simp only[yL,xB,e2,e3,e42,e43,e70]
    rfl
  clear HO y1 y2 y3 y4 hin0 M' j' x';rintro z2 G w3-⟨rfl,g⟩;simp[aX,lk];have HO:=zh g;clear g;by_cases U:L1=L2
  .have HX2:=zh (J.o.trans ⟨fun h=>h.2,fun h=>⟨U,h⟩⟩);rw[aO U];clear J U;exact qdu
  .have HX2:=zh (show ¬v=v' from fun h=>U (J.o.1 h).1);rw[aA U];clear J U hX;exact qdN
 obtain rfl:i=v.aU.length:=zo;have J:=zh (show v=v'↔v.aF=v'.aF from F.o.trans ⟨fun h=>h.2,fun h=>⟨by rw[zQ zo,zQ (by rw[<-t'.o.1];omega)],h⟩⟩);have c8:=g.au.obj.cell I.o.2.1;have g1:=g.au.obj.lt;have HO:=zh g;clear g hX F;go_wp2;refine av [2,3,74,75] (fun q G D=>∃(i:Nat),i<=v.aF.length/\q=v.aF.length-i/\G=[.pointer (some ⟨w.heap.size,0,none⟩),.pointer (some ⟨w.heap.size+1,0,none⟩),.int .i64 (v.aF.length:Int),.int .i64 (i:Int)]/\(v=v'↔v.aF.drop i=v'.aF.drop i) /\
  Own w m D m [.obj (w.heap.size+1) 33 N'.toArray,.obj w.heap.size 33 N.toArray]) ?_ ?_
 .exact⟨_,0,zG _,rfl,rfl,J.o,HO.o⟩
 clear HO J c8 g1;rintro X z q G D hX-⟨i,hi,rfl,rfl,hE,g⟩;simp[aX,lk];have F:=zh hE;clear hE;by_cases hlt:i<v.aF.length
 case neg=>
  have J:=zh (show v=v' from F.o.2 (by rw[zQ zo,zQ (by rw[<-t'.o.2];omega)]));have HB:=zh g.az;clear g hX F;go_wp2;exact hR.o _ _ ⟨aS (by rw[aO J.o]),HB.o⟩
 have hlt':i<v'.aF.length:=by rw[<-t'.o.2];exact hlt
 obtain⟨b,off,rfl,h4⟩:=HK.o.2.1 qdX;obtain⟨b',d',rfl,f'⟩:=HK.o.2.2.2 qd3;obtain⟨u,u2,s1,s2,s3,s4⟩:=h4 i hlt;obtain⟨u',H',K,a',Z,W⟩:=f' i hlt';have C:=zh (jA v.aF v'.aF i hlt hlt');have HSX:=zh (fun(w':zW) (h:m.ay w')=>Ql H v.aF[i] v'.aF[i] u u2 u' H' m w' h s3 s4 Z W (fun d L=>l'.o.1 d (qL (zF hlt) L)) (fun d L=>l'.o.2 d (qL (zF hlt') L)));generalize v.aF[i]=cl at*
 generalize v'.aF[i]=x at*
 obtain⟨ua,uc,rfl,-⟩:=s3;obtain⟨S,P,rfl,-⟩:=s4;obtain⟨ub,ud,rfl,-⟩:=Z;obtain⟨Q,O,rfl,-⟩:=W;have HO:=zh g;have y8:=g.au.obj.cell I.o.2.1;have y9:=g.au.obj.lt;clear g h4 f'
 go_upto_region 13 with(fail)
 clear y8 y9;refine aR [2,3,74,75,89] (fun G w'=>G=[.pointer (some ⟨w.heap.size,0,none⟩),.pointer (some ⟨w.heap.size+1,0,none⟩),.int .i64 (v.aF.length:Int),.int .i64 (i:Int),.bool (!tf (cl=x))] /\
  Own w m w' m [.obj (w.heap.size+1) 33 N'.toArray,.obj w.heap.size 33 N.toArray]) ?_ ?_
 .intro Y hY;refine bz 12 8 (fun j=>[aD.is (·=.pointer (some ⟨w.heap.size,8,none⟩)),aD.is (·=.slice (some ⟨b,off,none⟩) v.aF.length b5),aD.is (·=.int .i64 (i:Int)),aD.is (·=.pointer (some ⟨b,off+i*2,none⟩)),aD.is (·=.agg #[.slice ua cl.1.length uc,.slice S cl.2.length P]),aD.is (·=.pointer (some ⟨w.heap.size+1,8,none⟩)),aD.is (·=.slice (some ⟨b',d',none⟩) v'.aF.length b5'),aD.is (·=.int .i64 (i:Int)),aD.is (·=.pointer (some ⟨b',d'+i*2,none⟩)),aD.is (·=.agg #[.slice ub x.1.length ud,.slice Q x.2.length O]),aD.is (·=.bool (tf (cl=x))),aD.is (·=.bool (!tf (cl=x)))].getD j aD.any) zk zk ?_ ?_
  .intro i hi o A a D ho RA;have HO2:=HO.o.dr.aP RA.az;have c8:=HO2.au.obj.cell I.o.2.1;have p':=HO2.obj.cell I.o.2.2.2;have g1:=HO2.au.obj.lt;have g2:=HO2.obj.lt;have x1:=Mem_cell_w HO2.ay s1;have x2:=Mem_cell_w HO2.ay s2;have xl:=Mem_cell_lt HO2.ay s1;have V':=Mem_cell_w HO2.ay K;have U':=Mem_cell_w HO2.ay a';have T':=Mem_cell_lt HO2.ay K;rcases(show i=0\/i=1\/i=2\/i=3\/i=4\/i=5\/i=6\/i=7\/i=8\/i=9\/i=10\/i=11 by omega)with rfl|rfl|rfl|rfl|rfl|rfl|rfl|rfl|rfl|rfl|rfl|rfl
   .have e2:=RA.k 2;exact qaa
   .have e78:zt a 78 _:=RA.d 0 rfl;exact qaa
   .have e8:=RA.k 8;exact qaa
   .have e79:zt a 79 _:=RA.d 1 rfl;have e80:zt a 80 _:=RA.d 2 rfl;exact qac
   .have e81:zt a 81 _:=RA.d 3 rfl;exact qaa
   .have e3:=RA.k 3;exact qaa
   .have e83:zt a 83 _:=RA.d 5 rfl;exact qaa
   .have e8:=RA.k 8;exact qaa
   .have e84:zt a 84 _:=RA.d 6 rfl;have e85:zt a 85 _:=RA.d 7 rfl;exact qac
   .have e86:zt a 86 _:=RA.d 8 rfl;exact qaa
   .have e82:zt a 82 _:=RA.d 4 rfl;have e87:zt a 87 _:=RA.d 9 rfl;cases ho;refine we rfl rfl (HSX.o _ HO2.ay) ?_;exact qab
   .have e88:zt a 88 _:=RA.d 10 rfl;exact qaa
  .intro A a D E;have e2:=E.keep 2 zk;have e3:=E.keep 3 zk;have e74:=E.keep 74 zk;have e75:=E.keep 75 zk;have e89:a.tmps.getD 89 undef=.bool (!tf (cl=x)):=E.fact 11 _ zo rfl;have hZ:=HO.o.dr.aP E.az;obtain⟨t1,d⟩:=a;obtain rfl:d=[]:=E.defers;refine bY zk (hY.o _ _ E.size ⟨?_,hZ⟩) _;simp only[yL,xB,e2,e3,e74,e75,e89]
   rfl
 clear HO s1 s2 K a' HSX;rintro z2 G w3-⟨rfl,g⟩;simp[aX,lk];have HO:=zh g;clear g;by_cases U:cl=x
 .have HX2:=zh (F.o.trans (C.o.trans ⟨fun h=>h.2,fun h=>⟨U,h⟩⟩));rw[aO U];clear F C U;exact qdu
 .have HX2:=zh (show ¬v=v' from fun h=>U (C.o.1 (F.o.1 h)).1);rw[aA U];clear F C U hX;exact qdN
theorem DK:∀n,Ag n
 |0=>fun _ _ _ _ _ _ _ h _ _ _=>h.elim
 |n+1=>YY (DK n)
theorem Xz{c:Lc}{i:Nat}(h:i<c.1.length):qj c (i:Int)=(c.1[i],true):=by
 unfold qj;rw[dif_pos ⟨zo,by simpa using h⟩];rfl
theorem Ri{c:Lc}{i:Int}(b:0<=i)(h:¬i.toNat<c.1.length)(a:0<c.2.length):qj c i=(c.2[0],true):=by
 unfold qj;rw[dif_neg (fun k=>h k.2),dif_pos ⟨b,a⟩]
theorem OC{c:Lc}{i:Int}(h:i<0\/(¬i.toNat<c.1.length/\c.2.length=0)):qj c i=((ja,ja),false):=by
 unfold qj;rw[dif_neg (fun k=>by rcases h with h|h<;>omega),dif_neg (fun k=>by rcases h with h|h<;>omega)]
def PL(m:Mem)(n:Nat)(r:Vd×Bool)(e:Ending):Prop:=∃x y,e=.returned (.tuple #[dE r.1 x y,.bool r.2])/\bG m (n+1) x r.1.1/\bG m (n+1) y r.1.2
theorem DN(u z:zV)(c:Lc)(i:Int)(m:Mem)(n:Nat)(w:zW)(G:m.ay w)(h1:bO (bG m n) m u c.1)(p:bO (bG m n) m z c.2):
 zC 32 #[.agg #[u,z],.int .i64 i] w fun e w'=>PL m n (qj c i) e/\zB w w':=by
 obtain⟨L,J,rfl,N,F,B⟩:=h1;obtain⟨K,I,rfl,M,E,A⟩:=p;unfold maxLen at F E;have s:=(((Own.start G).al #[.slice L c.1.length J,.slice K c.2.length I] 51).al uG 35);simp only[bR]at s;have HO:=zh s;have C:=zh (zi B A);clear s B A;refine aj fun R hR=>?_;by_cases t:i<0
 .have O:decide (0<=i)=false:=zM zo;have H:decide (i<0)=true:=zN t;have HR:=zh (show PL m n (qj c i) (.returned (.tuple #[dE (ja,ja) dB dB,.bool false]))by
   rw[OC (.inl t)];exact⟨dB,dB,rfl,(bG.leaf m false).mono zo,(bG.leaf m false).mono zo⟩)
  clear t
  go_enter func32,ntmps32
  go_wp2_with (first|refine aM iY rfl (.tmp 4) (.tmp 34) rfl (cs:=uG) rfl rfl rfl rfl zD HO.o.obj ?_|refine aM iY rfl (.tmp 4) (.tmp 8) rfl (cs:=uG) rfl rfl rfl rfl zD HO.o.obj ?_)
  exact qaU
 obtain⟨k,rfl⟩:=zT (by omega:0<=i);by_cases h1:k<c.1.length
 .obtain⟨b,off,rfl,l⟩:=C.o.1 (by intro h;simp[h]at h1);obtain⟨x,y,a,f,d⟩:=(l k h1).cells;have hl:(fK c.1[k] x y).length=18:=rfl;have g:=gW f d;have r:=Mem_cell_lt HO.o.ay (a 0 _ rfl);have HC:=zh (fun j u q=>Mem_cell_w HO.o.ay (a j u q));have HR:=zh (show PL m n (qj c (k:Int)) (.returned (.tuple #[dE c.1[k] x y,.bool true]))by
   rw[Xz h1];exact⟨x,y,rfl,f.succ,d.succ⟩)
  unfold dE at HR;generalize fK c.1[k] x y=D at*
  clear l a f d
  go_enter func32,ntmps32
  go_wp2_with (first
   |refine ae iY rfl (.tmp 19) rfl rfl D hl HC.o ?_
   |refine ae iY rfl (.tmp 17) rfl rfl D hl HC.o ?_
   | refine aM iY rfl (.tmp 4) (.tmp 20) rfl (cs:=D.toArray) rfl rfl rfl qea (fun u hu=>g u qd2) HO.o.obj ?_)
  exact qaY
 by_cases p:0<c.2.length
 .obtain⟨b,off,rfl,l⟩:=C.o.2 (by intro h;simp[h]at p);obtain⟨x,y,a,f,d⟩:=(l 0 p).cells;simp only[Nat.zero_mul,Nat.add_zero]at a;have hl:(fK c.2[0] x y).length=18:=rfl;have g:=gW f d;have r:=Mem_cell_lt HO.o.ay (a 0 _ rfl);have HC:=zh (fun j u q=>Mem_cell_w HO.o.ay (a j u q));have HR:=zh (show PL m n (qj c (k:Int)) (.returned (.tuple #[dE c.2[0] x y,.bool true]))by
   rw[Ri zo qeD p];exact⟨x,y,rfl,f.succ,d.succ⟩)
  unfold dE at HR;generalize fK c.2[0] x y=D at*
  clear l a f d
  go_enter func32,ntmps32
  go_wp2_with (first
   |refine ae iY rfl (.tmp 32) rfl rfl D hl HC.o ?_
   |refine ae iY rfl (.tmp 25) rfl rfl D hl HC.o ?_
   | refine aM iY rfl (.tmp 4) (.tmp 33) rfl (cs:=D.toArray) rfl rfl rfl qea (fun u hu=>g u qd2) HO.o.obj ?_)
  exact qaY
 .have HR:=zh (show PL m n (qj c (k:Int)) (.returned (.tuple #[dE (ja,ja) dB dB,.bool false]))by
   rw[OC (.inr ⟨by simpa using h1,zo⟩)];exact⟨dB,dB,rfl,(bG.leaf m false).mono zo,(bG.leaf m false).mono zo⟩)
  go_enter func32,ntmps32
  go_wp2_with (refine aM iY rfl (.tmp 4) (.tmp 34) rfl (cs:=uG) rfl rfl rfl rfl zD HO.o.obj ?_)
  exact qaU
theorem sW(d a:Vd)(x y f c:Sl)(m:Mem)(n:Nat)(w:zW)(F:m.ay w)(j:gD m)(v:bG m n x d.1)(u:bG m n y d.2)(p:bG m n f a.1)(l:bG m n c a.2)(r:jc n d)(q:jc n a)(f1:eT n d.1)(f2:eT n d.2):
 zX 27 #[dE d x y,dE a f c] w (.bool (tf (d=a)&&(tf (eQ d.1)&&tf (eQ d.2)))):=by
 have g:=((Own.start F).al (fK d x y).toArray 35).al (fK a f c).toArray 35;simp only[bR]at g;have A:=zh (qI (DK n) d a x y f c m _ g.ay v u p l r q);have G:=zh (fun w' (h:m.ay w')=>mR d x y m n w' h j v u f1 f2 r.1 r.2);have t:(fK d x y).length=18:=rfl;have k:(fK a f c).length=18:=rfl;have HO:=zh g;have z:=g.au.obj.all;have i:=g.obj.all;unfold dE at*
 generalize fK d x y=D at*
 generalize fK a f c=B at*
 clear g v u p l f1 f2;generalize (tf (eQ d.1)&&tf (eQ d.2))=I at*
 generalize tf (d=a)=s2 at*
 refine aj fun R hR=>?_
 go_enter func27,ntmps27
 cases s2
 .go_wp2_with (first
   |refine ae iY rfl (.tmp 2) rfl rfl D t z ?_
   |refine ae iY rfl (.tmp 3) rfl rfl B k i ?_
   | (go_at_call 55;refine A.o.mono ?_;rintro e C ⟨rfl,hb1⟩))
  exact qa0
 .go_wp2_with (first
   |refine ae iY rfl (.tmp 3) rfl rfl B k i ?_
   |(go_at_call 55;refine A.o.mono ?_;rintro e C ⟨rfl,hb1⟩;have b:=HO.o.aP hb1;have E:=b.au.obj.all)
   |refine ae iY rfl (.tmp 2) rfl rfl D t E ?_
   |refine ae iY rfl (.tmp 2) rfl rfl D t z ?_
   | (go_at_call 18;refine(G.o _ b.ay).mono ?_;rintro e H ⟨rfl,s⟩))
  exact hR.o _ _ ⟨rfl,(b.aP s).az⟩
def bzA(m:Mem)(v:zV)(fs:List (Nat×Array Value)):Prop:=Mem.qc (fun b o f=>m.cell b o=some (.func (.func f.1) #[] f.2)) v fs
structure bzz (m:Mem) (fs:List (Nat×Array Value)) (rs:List Int):Prop where
 ent:∀i (h:i<fs.length),∀args w,(callFunc (fs[i]).1 args).run prog w=.ok (.enter (fs[i]).1 args) w
 run:∀i (h:i<fs.length) (h2:i<rs.length) (w:zW),m.ay w->zX (fs[i]).1 (fs[i]).2 w (.int .i64 rs[i])
 le:rs.length<=fs.length
 rest:rs.length<fs.length->∃i,∃h:i<rs.length,rs[i]≠0
theorem kg(v:zV)(fs:List (Nat×Array Value))(d:List Int)(m:Mem)(w:zW)(T:m.ay w)(W:bzA m v fs)(s:bzz m fs d):
 zX 71 #[v] w (.int .i64 (jo d)):=by
 obtain⟨a,c,rfl,p1,Q,J⟩:=W;unfold maxLen at Q;have HK:=zh J;have y:=zh (Own.start T);have C:=zh s;clear J s;refine aj fun R K=>?_
 go_enter func71,ntmps71
 go_wp2;refine av [6,7,8] (fun q I F=>∃(i:Nat),i<=fs.length/\q=fs.length-i/\I=[.slice a fs.length c,.int .i64 (fs.length:Int),.int .i64 (i:Int)]/\(∀j (h:j<d.length),j<i->d[j]=0)/\(i<fs.length->i<d.length)/\jo d=jo (d.drop i)/\Own w m F m []) ?_ ?_
 .refine⟨_,0,zG _,rfl,rfl,fun j _ h=>absurd h (xY _),fun h=>?_,rfl,y.o⟩;by_cases e:d.length<fs.length
  .obtain⟨i,hi,-⟩:=C.o.rest e;omega
  .omega
 clear y;rintro X z q I F G-⟨i,hi,rfl,rfl,N,M,L,g⟩;simp[aX,lk];have D:=zh (zi N (zi M L));clear N M L;by_cases hlt:i<fs.length
 case neg=>
  have HR:=zh (show jo d=0 by
   rw[D.o.2.2,zQ (by have:=C.o.le;omega)];rfl)
  have HB:=zh g.az;clear g G;go_wp2;exact K.o _ _ ⟨by rw[HR.o]<;>rfl,HB.o⟩
 have p:=D.o.2.1 hlt;obtain⟨b,off,rfl,H⟩:=HK.o qdX;have x1:=Mem_cell_w g.ay (H i hlt);have xl:=Mem_cell_lt g.ay (H i hlt);have u:=zh (C.o.run i hlt p F g.ay);have eg:=C.o.ent i hlt;have B:=zh (OU d p);have l:=zh (show d[i]=0->(∀j (h:j<d.length),j<i+1->d[j]=0)/\(i+1<fs.length->i+1<d.length)/\jo d=jo (d.drop (i+1)) from fun h=>by
  have O:∀j (h:j<d.length),j<i+1->d[j]=0:=fun j V Z=>by
   by_cases e:j=i
   .subst e;exact h
   .exact D.o.1 j V zo
  refine⟨O,fun Z=>?_,?_⟩
  .by_cases e:d.length<fs.length
   .obtain⟨k,U,S⟩:=C.o.rest e;have:¬k<i+1:=fun Y=>S (O k U Y);omega
   .omega
  .rw[D.o.2.2,B.o,h];rfl)
 have n:=zh (show d[i]≠0->jo d=d[i] from fun h=>by
  rw[D.o.2.2,B.o,jK,zJ h])
 have y:=zh g;generalize d[i]=r at*
 generalize (fs[i]).1=f at*
 generalize (fs[i]).2=P at*
 clear g H
 go_wp2_with fail
 refine u.o.mono ?_;rintro e w1 ⟨rfl,t⟩;have x:=zh (y.o.aP t);clear y u t eg;by_cases E:r=0
 .subst E;have A:=zh (l.o rfl);clear l n;go_wp2;exact G.o _ _ _ zo rfl ⟨i+1,zo,rfl,rfl,A.o.1,A.o.2.1,A.o.2.2,x.o⟩
 .have hd:(r != 0)=true:=bne_iff_ne.2 E;have A:=zh (n.o E);clear l n E G;go_wp2;exact K.o _ _ ⟨by rw[A.o]<;>rfl,x.o.az⟩
theorem dM{w0 w:zW}{m mk:Mem}{L:List bF}(t:TypeId)(arr:Array Value)(h:Own w0 m w mk L):∃mk',mk.le mk'/\(∀i u,arr[i]?=some u->mk'.cell w.heap.size i=some u)/\Own w0 m (w.alloc (.cells arr t)) mk' L:=
 have a:=h.al arr t
 ⟨_,Mem_le_add a.lV,fun _ _ hi=>Mem_add_cell a.obj hi,a.lU⟩
theorem En:∀args w,(callFunc 72 args).run prog w=.ok (.enter 72 args) w:=enters_of func72 zk rfl
theorem Em:∀args w,(callFunc 74 args).run prog w=.ok (.enter 74 args) w:=enters_of func74 zk rfl
theorem Ej:∀args w,(callFunc 76 args).run prog w=.ok (.enter 76 args) w:=enters_of func76 zk rfl
theorem Ei:∀args w,(callFunc 79 args).run prog w=.ok (.enter 79 args) w:=enters_of func79 zk rfl
theorem DT(h g:Nat)(a b:Bool)(m:Mem)(w:zW)(c:m.ay w)(f:m.cell h 0=some (.bool a))(d:m.cell g 0=some (.bool b)):
 zX 72 #[.pointer (some ⟨h,0,none⟩),.pointer (some ⟨g,0,none⟩)] w (.int .i64 (ng a b)):=by
 have k:=Mem_cell_w c f;have j:=Mem_cell_w c d;have p:=Mem_cell_lt c f;have n:=Mem_cell_lt c d;have i:=zh (DR a b w);refine aj fun R hR=>?_
 go_enter func72,ntmps72
 go_wp2_with (go_at_call 73;refine i.o.mono ?_;rintro e l ⟨rfl,hb1⟩)
 exact qaL
abbrev Mv(g1 g2:Nat):List (Nat×Array Value):=[(72,#[.pointer (some ⟨g1,0,none⟩),.pointer (some ⟨g2,0,none⟩)]),(74,#[.pointer (some ⟨g1,0,none⟩),.pointer (some ⟨g2,0,none⟩)]),(76,#[.pointer (some ⟨g1,0,none⟩),.pointer (some ⟨g2,0,none⟩)]),(79,#[.pointer (some ⟨g1,0,none⟩),.pointer (some ⟨g2,0,none⟩)])]
theorem R9(b a:Nat):∀i (h:i<(Mv b a).length),∀args w,(callFunc ((Mv b a)[i]).1 args).run prog w=.ok (.enter ((Mv b a)[i]).1 args) w:=fun i h=>by
 match i,h with
 |0,_=>exact En
 |1,_=>exact Em
 |2,_=>exact Ej
 |3,_=>exact Ei
theorem CG(v v':Vl)(s l:Sl)(m:Mem)(w:zW)(A:m.ay w)(d:v.any≠v'.any):
 zX 53 #[v.val s,v'.val l] w (.int .i64 (ng v.any v'.any)):=by
 obtain⟨H,z,y,k⟩:=dM 33 (bu v s).toArray (Own.start A);obtain⟨G,x,t,j⟩:=dM 33 (bu v' l).toArray k;obtain⟨u,n,c,b⟩:=dM 96 #[.func (.func 72) #[] #[.pointer (some ⟨w.heap.size,0,none⟩),.pointer (some ⟨w.heap.size+1,0,none⟩)],.func (.func 74) #[] #[.pointer (some ⟨w.heap.size,0,none⟩),.pointer (some ⟨w.heap.size+1,0,none⟩)],.func (.func 76) #[] #[.pointer (some ⟨w.heap.size,0,none⟩),.pointer (some ⟨w.heap.size+1,0,none⟩)],.func (.func 79) #[] #[.pointer (some ⟨w.heap.size,0,none⟩),.pointer (some ⟨w.heap.size+1,0,none⟩)]] j;simp only[bR]at t c;have g:=Mem_cell_le (Mem.le_trans x n) (y 0 (.bool v.any) rfl);have f:=Mem_cell_le n (t 0 (.bool v'.any) rfl);have a:ng v.any v'.any≠0:=by
  cases h1:v.any<;>cases r:v'.any<;>simp[h1,r]at d<;>simp[ng]
 have D:=zh (kg (.slice (some ⟨w.heap.size+1+1,0,none⟩) 4 4) (Mv w.heap.size (w.heap.size+1)) [ng v.any v'.any] u _ b.ay
  ⟨some ⟨w.heap.size+1+1,0,none⟩,4,rfl,zS,by simp[maxLen],fun _=>⟨_,0,rfl,fun i h=>by
   rw[yZ]
   match i,h with
   |0,_=>exact c 0 _ rfl
   |1,_=>exact c 1 _ rfl
   |2,_=>exact c 2 _ rfl
   | 3,_=>exact c 3 _ rfl⟩⟩
  ⟨R9 _ _,fun i h r w' p=>by
   match i,r with
   | 0,_=>exact DT _ _ v.any v'.any u w' p g f,zS,fun _=>⟨0,zS,a⟩⟩)
 have E:=zh (show jo [ng v.any v'.any]=ng v.any v'.any by simp[jo,jK,a]);have C:=zh b;unfold Vl.val;clear k j b y t c g f z x n d a;generalize (bu v s).toArray=N at*
 generalize (bu v' l).toArray=I at*
 refine aj fun R B=>?_
 go_enter func53,ntmps53
 go_wp2_with (go_at_call 71;refine D.o.mono ?_;rintro e F ⟨rfl,q⟩)
 exact B.o _ _ ⟨by rw[E.o]<;>rfl,(C.o.aP q).az⟩
theorem Ey(v v':Vl)(s c:Sl)(m:Mem)(n:Nat)(w:zW)(F:m.ay w)(b:gD m)(u:bG m n s v)(f:bG m n c v')(f1:eT n v)(f2:eT n v')(A:dw n v<=1048576)(z:dw n v'<=1048576)(t:eQ v)(r:eQ v')(g:v.any≠v'.any):
 zX 25 #[v.val s,v'.val c] w (.int .i64 (ng v.any v'.any)):=by
 have i:=((Own.start F).al (bu v s).toArray 33).al (bu v' c).toArray 33;simp only[bR]at i;have q:=nK v s m n _ i.ay b u f1 A;rw[aO t]at q;have K:=zh q;have J:=zh (show ∀w',m.ay w'->_ from fun w' (h:m.ay w')=>by have:=nK v' c m n w' h b f f2 z;rw[aO r]at this;exact this);have I:=zh (fun w' (h:m.ay w')=>CG v v' s c m w' h g);have H:=zh i;have x:(bu v s).length=9:=rfl;have j:(bu v' c).length=9:=rfl;have E:=i.au.obj.all;unfold Vl.val at*
 clear i q u f f1 f2 g t r;generalize bu v s=N at*
 generalize bu v' c=y at*
 refine aj fun R G=>?_
 go_enter func25,ntmps25
 go_wp2_with (first
  | (go_at_call 47;first
   |(refine(J.o _ d.ay).mono ?_;rintro e M ⟨rfl,l⟩;have a:=d.aP l;have C:=a.au.obj.all;have B:=a.obj.all)
   | (refine K.o.mono ?_;rintro e O ⟨rfl,p⟩;have d:=H.o.aP p;have D:=d.obj.all))
  |refine ae iH rfl (.tmp 2) rfl rfl N x C ?_
  |refine ae iH rfl (.tmp 3) rfl rfl y j B ?_
  |refine ae iH rfl (.tmp 3) rfl rfl y j D ?_
  |refine ae iH rfl (.tmp 2) rfl rfl N x E ?_
  | (go_at_call 53;refine(I.o _ a.ay).mono ?_;rintro e L ⟨rfl,k⟩))
 exact G.o _ _ ⟨rfl,(a.aP k).az⟩
theorem sV(d:Vd)(x y:Sl)(w:zW):
 zX 15 #[dE d x y] w (.bool (d.1.any&&d.2.any)):=by
 have a:=(Own.start (Mem_of_inn w)).al (fK d x y).toArray 35;have c:=a.obj.cell (i:=0) (v:=.bool d.1.any) rfl;have b:=a.obj.cell (i:=9) (v:=.bool d.2.any) rfl;have HB:=zh a.az;unfold dE;clear a;generalize fK d x y=N at*
 generalize d.1.any=p at*
 generalize d.2.any=q at*
 refine aj fun R hR=>?_;cases p<;>cases q
 all_goals
  go_enter func15,ntmps15
  exact qag
noncomputable def Cn(s:ByteArray)(l:aC):Bool:=tf (WF l)&&aK l 0 s.data.toList
theorem Jm(v0:zV)(l:aC)(s:ByteArray)(m:Mem)(w:zW)(hm:m.ay w)(hl:aQ m v0 l)(hs:s.size<=maxLen):
 zX 57 #[.agg #[v0],.string s] w (.bool (Cn s l)):=by
 unfold Cn;have F:=hl;obtain⟨a,c,rfl,h1,h2,h3⟩:=hl;unfold maxLen at h2 hs;have d:=(Own.start hm).al #[.slice a l.length c] 27;have M:=zh (vI (.slice a l.length c) l m _ d.ay F);have HO:=zh d;have HK:=zh h3;have T:=d.ay;clear d h3 F;refine aj fun R hR=>?_
 go_enter func57,ntmps57
 go_wp2
 go_step3
 by_cases L:l.length=0
 .have G:((l.length:Int)==0)=true:=by simp[L]
  have HX:=zh (show(tf (WF l)&&aK l 0 s.data.toList)=false by rw[iP l 0 _ zo,Bool.and_false]);clear L M;go_wp2;exact hR.o _ _ ⟨aS qez,HO.o.az⟩
 have G:((l.length:Int)==0)=false:=zO.2 zo;have y:=M.o;by_cases f:WF l
 case neg=>
  rw[aA f]at y;have q:=zh y;have HX:=zh (show(tf (WF l)&&aK l 0 s.data.toList)=false by rw[aA f,Bool.false_and]);clear y M f L
  go_wp2_with (go_at_call 87;refine q.o.mono ?_;rintro e w1 ⟨rfl,p⟩)
  exact hR.o _ _ ⟨aS qez,(HO.o.aP p).az⟩
 rw[aO f]at y;have q:=zh y;have HX:=zh (show(tf (WF l)&&aK l 0 s.data.toList)=aK l 0 s.data.toList by rw[aO f,Bool.true_and]);have W:=zh f;clear y M f
 go_wp2_with (go_at_call 87;refine q.o.mono ?_;rintro e w1 ⟨rfl,p⟩)
 have H:=zh (HO.o.aP p);clear HO p q T
 go_step3
 go_wp2;refine av [1,2,5,20,21] (fun n D C=>∃(k x:Nat),k<=s.size/\x<l.length/\n=s.size-k/\D=[.string s,.pointer (some ⟨w.heap.size,0,none⟩),.int .i64 x,.int .i64 s.size,.int .i64 k]/\aK l 0 s.data.toList=aK l x (s.data.toList.drop k) /\
  Own w m C m [.obj w.heap.size 27 #[.slice a l.length c]]) ?_ ?_
 .exact⟨_,0,0,zG _,zo,rfl,rfl,rfl,H.o⟩
 clear H;rintro X z n D C U-⟨k,x,hk,K,rfl,rfl,u,d⟩;simp[aX,lk];have g1:=d.obj.c 0;have g2:=d.obj.lt;obtain⟨b,off,rfl,V⟩:=HK.o (by intro h;simp[h]at L);obtain⟨J,ve,I,se⟩:=V x K;have N:=zh u;clear u;by_cases hlt:k<s.size
 case neg=>
  have x1:=Mem_cell_w d.ay J;have xl:=Mem_cell_lt d.ay J;have HA2:=zh (show aK l 0 s.data.toList=l[x].aZ by
   rw[N.o,zQ qd4,aK,fJ l x K])
  have HB:=zh d.az;generalize l[x].aZ=ac at*
  clear d N V J I se U;exact qdT
 have i:aK l 0 s.data.toList=aK l (bv (l[x]).aH (s[k]).toNat) (s.data.toList.drop (k+1)):=by
  rw[N.o,yE qeA,aK];have e:(s.data.toList[k]'qeA)=s[k]:=rfl;rw[e,dW l x _ K]
 have v:=zh i;have Z:=zh (fun e (he:e∈(l[x]).aH)=>fP (W.o _ (zF K)) e he);have x2:=Mem_cell_w d.ay I;have xl:=Mem_cell_lt d.ay I;obtain⟨ea,ec,rfl,e1,e2,e3⟩:=se;unfold maxLen at e2;have a':=zh e3;have HO:=zh d;have t':=(s[k]).toNat_lt;generalize (l[x]).aH=es at*
 clear d i V J I e3 N;go_wp2;refine av [1,2,5,6,20,21,29,30,31] (fun n D C=>∃(j:Nat),j<=es.length/\n=es.length-j/\D=[.string s,.pointer (some ⟨w.heap.size,0,none⟩),.int .i64 x,.int .i64 k,.int .i64 s.size,.int .i64 k,.slice ea es.length ec,.int .i64 es.length,.int .i64 j]/\bv es (s[k]).toNat=bv (es.drop j) (s[k]).toNat /\
  Own w m C m [.obj w.heap.size 27 #[.slice (some ⟨b,off,none⟩) l.length c]]) ?_ ?_
 .exact qbD
 clear HO x2 xl g1 g2;rintro Y z n D C hY-⟨j,hj,rfl,rfl,t,d⟩;simp[aX,lk];have g:=zh t;clear t;by_cases hlj:j<es.length
 case neg=>
  have HA2:=zh (show aK l 0 s.data.toList=false by
   rw[v.o,g.o,zQ zo];exact dQ (by simp[bv]) _)
  have HB:=zh d.az;clear d U hY;exact qdT
 obtain⟨b',i',rfl,h5⟩:=a'.o qeh;obtain⟨O,y2,y3,-⟩:=h5 j hlj;have d1:=Mem_cell_w d.ay O;have d2:=Mem_cell_w d.ay y2;have d3:=Mem_cell_w d.ay y3;have dl:=Mem_cell_lt d.ay O;have B:=zh (uy es (s[k]).toNat j hlj);have E:=Z.o es[j] (zF hlj);have HO:=zh (d.al #[.int .u8 (es[j]).lo,.int .u8 (es[j]).hi,.int .i64 (es[j]).to] 104);generalize es[j]=e at*
 obtain⟨-,-,P,p'⟩:=E;obtain⟨tn,r⟩:=zT P;clear d h5 O y2 y3;rw[r]at d3 HO;generalize u':(s[k]).toNat=A at*
 by_cases S:e.lo<=A
 .by_cases Q:A<=e.hi
  .have HA2:=zh (show aK l 0 s.data.toList=aK l (tn:Int) (s.data.toList.drop (k+1))by rw[v.o,g.o,B.o,zK ⟨S,Q⟩,r]);clear g B v hY;go_wp2
   go_quiet (fail)
   go_wp2;exact U.o _ _ _ zo rfl ⟨k+1,tn,zo,zo,rfl,rfl,HA2.o,(HO.o.Ep _).tail⟩
  .have HA2:=zh (show bv es A=bv (es.drop (j+1)) A by rw[g.o,B.o,zJ zo]);clear g B;go_wp2
   go_quiet (fail)
   exact qcV
 .have HA2:=zh (show bv es A=bv (es.drop (j+1)) A by rw[g.o,B.o,zJ zo]);clear g B;go_wp2
  go_quiet (fail)
  exact qcV
theorem TF{P:Program}{t:TypeId}{n:Nat}{w:zW}{o:Oper}{a:Act}{K:Act->World->Prop}{Q:Exit->Act->World->Prop}(S:o7 P t n)(p v:Operand)(d:o.op=Op.store t p v){g:Nat}{T:TypeId}{b cs:Array Value}(i:a.eval p=.pointer (some ⟨g,0,none⟩))(h:a.eval v=.agg cs)(f:b.size=n)(j:cs.size=n)(l:∀u∈cs.toList,u.oneCell'=true)(e:bH w g T b)
(k:∀w',bH w' g T cs->w.grownBy w' (some g)->K (a.put o.dst undef) w'):o.wp P a w K Q:=by
 have c:=run_storeCells_from (P:=P) g T cs.toList 0 b w e.get qd4 l;simp only[List.take_zero,xN,Array.toArray_toList]at c;unfold Oper.wp;simp[execOp,d,i,h,Instr.storeAt,Instr.sureAddr,storeVar,S.size,Value.cells,j,c,Result.andThen];exact k _ ⟨setRow_heap w g b cs T (0,0) e.get⟩ (grownBy_setRow' e.get)
theorem WL{acc:aC->Bool}{c:St}{s:ByteArray}{i:Nat}(hi:i<c.1.length)(h:∀j (b:j<c.1.length),j<i->¬c.1[j].1.1=s)(e:c.1[i].1.1=s):uI acc c s=(c.1[i].2,c.1[i].1.2):=by
 unfold uI;rw[Mf i hi (fun j b a=>zM (h j b a)) (zN e)]
theorem WK{acc:aC->Bool}{c:St}{s:ByteArray}{i:Nat}(d:∀j (a:j<c.1.length),¬c.1[j].1.1=s)(hi:i<c.2.length)(h:∀j (a:j<c.2.length),j<i->acc c.2[j].1=false)(e:acc c.2[i].1=true):uI acc c s=(c.2[i].2,3):=by
 unfold uI;rw[Dk (p:=fun f:Fd=>decide (f.1.1=s)) (fun j a=>zM (d j a)),Mf (p:=fun k:Kl=>acc k.1) i hi (fun j a b=>h j a b) e]
theorem WJ{acc:aC->Bool}{c:St}{s:ByteArray}(b:∀j (a:j<c.1.length),¬c.1[j].1.1=s)(h:∀j (a:j<c.2.length),acc c.2[j].1=false):uI acc c s=((ja,ja),3):=by
 unfold uI;rw[Dk (p:=fun f:Fd=>decide (f.1.1=s)) (fun j a=>zM (b j a)),Dk (p:=fun k:Kl=>acc k.1) (fun j a=>h j a)]
def TC(m:Mem)(n:Nat)(r:Vd×Int)(e:Ending):Prop:=∃x y,e=.returned (.tuple #[dE r.1 x y,.int .i64 r.2])/\bG m (n+1) x r.1.1/\bG m (n+1) y r.1.2
theorem MW(u u2:zV)(c:St)(s:ByteArray)(m:Mem)(n:Nat)(w:zW)(hm:m.ay w)(h1:iy (bG m n) m u c.1)(h2:gX (bG m n) m u2 c.2)(hs:s.size<=maxLen):
 zC 29 #[.agg #[u,u2],.string s] w fun e w'=>TC m n (uI (Cn s) c s) e/\zB w w':=by
 obtain⟨a1,c1,rfl,p1,q1,k1⟩:=h1;obtain⟨a2,c2,rfl,p2,q2,k2⟩:=h2;unfold maxLen at q1 q2;have HK:=zh (zi k1 k2);have f:=zh (((Own.start hm).al #[.slice a1 c.1.length c1,.slice a2 c.2.length c2] 45).al uG 35);have x':=zh hs;clear k1 k2 hs;refine aj fun R hR=>?_
 go_enter func29,ntmps29
 go_wp2;refine av [1,2,4,12,11,13] (fun q J V=>∃(i:Nat),i<=c.1.length/\q=c.1.length-i/\J=[.string s,.pointer (some ⟨w.heap.size,0,none⟩),.pointer (some ⟨w.heap.size+1,0,none⟩),.int .i64 (c.1.length:Int),.slice a1 c.1.length c1,.int .i64 (i:Int)]/\(∀j (d:j<c.1.length),j<i->¬c.1[j].1.1=s) /\
  Own w m V m [.obj (w.heap.size+1) 35 uG,.obj w.heap.size 45 #[.slice a1 c.1.length c1,.slice a2 c.2.length c2]]) ?_ ?_
 .exact⟨_,0,zG _,rfl,rfl,fun j d h=>absurd h (xY _),by simpa only[bR]using f.o⟩
 clear f;rintro X z q J V Z-⟨i,hi,rfl,rfl,hA,r⟩;simp[aX,lk];have I:=zh hA;clear hA;by_cases hlt:i<c.1.length
 .obtain⟨b,off,rfl,h4⟩:=HK.o.1 qdX;obtain⟨x,y,M,G,F⟩:=(h4 i hlt).cells;have hl:(qU c.1[i] x y).length=20:=rfl;have hl2:(fK (c.1[i]).2 x y).length=18:=rfl;have B:=pF G F;have Q:=gW G F;have HC:=zh (fun(w':zW) (h:m.ay w') j u d=>Mem_cell_w h (M j u d));have q':=Mem_cell_lt r.ay (M 0 _ rfl);have H0:(qU c.1[i] x y).toArray[0]?=some (.string c.1[i].1.1):=rfl;have H1:(qU c.1[i] x y).toArray[1]?=some (.int .i64 c.1[i].1.2):=rfl;have S:=zh (fun(w':zW) (g:Nat) (h:bH w' g 58 (qU c.1[i] x y).toArray)=>h.sub (o:=2) (cs:=fK (c.1[i]).2 x y) fun j u d=>by simpa using qR d);have C:=zh (show c.1[i].1.1=s->TC m n (uI (Cn s) c s) (.returned (.tuple #[dE (c.1[i]).2 x y,.int .i64 c.1[i].1.2])) from fun e=>by
   rw[WL hlt I.o e];exact⟨x,y,rfl,G.succ,F.succ⟩)
  have t:=zh (show ¬c.1[i].1.1=s->∀j (d:j<c.1.length),j<i+1->¬c.1[j].1.1=s from fun h j d h3=>by
   by_cases e:j=i
   .subst e;exact h
   .exact I.o j d zo)
  have f:=zh (r.al Wx 58);unfold dE at C;generalize fK (c.1[i]).2 x y=D at*
  generalize qU c.1[i] x y=N at*
  generalize c.1[i].1.1=K at*
  generalize c.1[i].1.2=pr at*
  have A:=r.ay;clear r h4 M G F;by_cases W:K=s
  .have hd:(K.toList==s.toList)=true:=Pw W;have T:=zh (C.o W);clear C t W
   go_upto_region 5 with(first
    |refine ae uY rfl (.tmp 15) rfl rfl N hl (HC.o _ A) ?_
    | (refine aM uY rfl (.tmp 7) (.tmp 16) rfl (cs:=N.toArray) rfl rfl rfl qea (fun u hu=>B u qd2) f.o.obj ?_;intro w1 l p;have a:=f.o.bN l p;have y0:=a.obj.cell H0;have y1:=a.obj.lt))
   refine aR [4,5] (fun J w'=>J=[.pointer (some ⟨w.heap.size+1,0,none⟩),.int .i64 pr]/\Own w m w' m [.obj (w.heap.size+1) 35 D.toArray]) ?_ ?_
   .intro Y hY;refine jC (fun w'=>bH w' V.heap.size 58 N.toArray) 5 zk ?_;have k:=a.dr;have hS:=k.obj;refine aI 0 rfl zk qfc hS qfk ?_;refine aI 1 rfl zk qfc hS (aB rfl fun w' hS'=>iY.exec rfl zg hl2 (S.o w' _ hS')) ?_;refine aI 2 rfl zk qfc hS qfI ?_;refine aI 3 rfl zk qfc hS qfI ?_;refine aV 4 zk (aJ rfl rfl (TF iY (.tmp 4) (.tmp 22) rfl (cs:=D.toArray) zg zg rfl qd5 (fun u hu=>Q u qd2) k.au.obj fun w2 m' p'=>?_));have H:=k.au.bN m' p';refine jb H.au.obj fun N'=>?_;go_simp;refine aV 5 zk (aJ rfl rfl (aN qd0 (lD rfl ?_)));refine gG zk ?_ _;exact hY.o _ _ rfl ⟨rfl,H.bL.bL⟩
   rintro z1 J w3-⟨rfl,P⟩;simp[aX,lk];have hr:=iY.load hl2 P.obj.all;have HB:=zh P.az;clear P;go_wp2;refine yV (v:=.tuple #[.agg D.toArray,.int .i64 pr]) (kw results29 rfl hr) rfl ?_;exact hR.o _ _ ⟨T.o,HB.o⟩
  .have hd:(K.toList==s.toList)=false:=Px W;have E:=zh (t.o W);clear C t W
   go_wp2_with (first
    |refine ae uY rfl (.tmp 15) rfl rfl N hl (HC.o _ A) ?_
    | (refine aM uY rfl (.tmp 7) (.tmp 16) rfl (cs:=N.toArray) rfl rfl rfl qea (fun u hu=>B u qd2) f.o.obj ?_;intro w1 l p;have a:=f.o.bN l p;have y0:=a.obj.cell H0;have y1:=a.obj.lt))
   exact Z.o _ _ _ zo rfl ⟨i+1,zo,rfl,rfl,E.o,a.tail⟩
 obtain rfl:i=c.1.length:=zo;have U:=zh (fun j (d:j<c.1.length)=>I.o j d d);have g1:=r.au.obj.c 1;have g2:=r.au.obj.lt;have f:=zh r;clear r Z I;go_wp2;refine av [1,4,28,27,29] (fun q J V=>∃(i:Nat),i<=c.2.length/\q=c.2.length-i/\J=[.string s,.pointer (some ⟨w.heap.size+1,0,none⟩),.int .i64 (c.2.length:Int),.slice a2 c.2.length c2,.int .i64 (i:Int)]/\(∀j (d:j<c.2.length),j<i->Cn s c.2[j].1=false) /\
  Own w m V m [.obj (w.heap.size+1) 35 uG]) ?_ ?_
 .exact⟨_,0,zG _,rfl,rfl,fun j d h=>absurd h (xY _),f.o.bL⟩
 clear f g1 g2;rintro X z q J V Z-⟨i,hi,rfl,rfl,hA,r⟩;simp[aX,lk];have I:=zh hA;clear hA;by_cases hlt:i<c.2.length
 .obtain⟨b,off,rfl,h4⟩:=HK.o.2 qdX;obtain⟨kc,x,y,L,M,G,F⟩:=(h4 i hlt).cells;have hl:(qN c.2[i] kc x y).length=19:=rfl;have hl2:(fK (c.2[i]).2 x y).length=18:=rfl;have B:=pg L G F;have Q:=gW G F;have HC:=zh (fun(w':zW) (h:m.ay w') j u d=>Mem_cell_w h (M j u d));have q':=Mem_cell_lt r.ay (M 0 _ rfl);have H0:(qN c.2[i] kc x y).toArray[0]?=some kc:=rfl;have S:=zh (fun(w':zW) (g:Nat) (h:bH w' g 61 (qN c.2[i] kc x y).toArray)=>h.sub (o:=1) (cs:=fK (c.2[i]).2 x y) fun j u d=>by simpa using qM d);have C:=zh (show Cn s c.2[i].1=true->TC m n (uI (Cn s) c s) (.returned (.tuple #[dE (c.2[i]).2 x y,.int .i64 3])) from fun e=>by
   rw[WK U.o hlt I.o e];exact⟨x,y,rfl,G.succ,F.succ⟩)
  have t:=zh (show Cn s c.2[i].1=false->∀j (d:j<c.2.length),j<i+1->Cn s c.2[j].1=false from fun h j d h3=>by
   by_cases e:j=i
   .subst e;exact h
   .exact I.o j d zo)
  have g':=zh (fun(w':zW) (h:m.ay w')=>Jm kc c.2[i].1 s m w' h L x'.o);obtain⟨ta,tc,rfl,-⟩:=L;have f:=zh (r.al Ww 61);unfold dE at C;generalize fK (c.2[i]).2 x y=D at*
  generalize qN c.2[i] _ x y=N at*
  generalize Cn s c.2[i].1=ab at*
  have A:=r.ay;clear r h4 M G F;cases ab
  .have E:=zh (t.o rfl);clear C t
   go_wp2_with (first
    |refine ae uX rfl (.tmp 31) rfl rfl N hl (HC.o _ A) ?_
    |(refine aM uX rfl (.tmp 9) (.tmp 32) rfl (cs:=N.toArray) rfl rfl rfl qea (fun u hu=>B u qd2) f.o.obj ?_;intro w1 l p;have a:=f.o.bN l p;have y0:=a.obj.cell H0;have y1:=a.obj.lt)
    | (go_at_call 57;refine(g'.o _ a.ay).mono ?_;rintro e w2 ⟨rfl,O⟩))
   exact Z.o _ _ _ zo rfl ⟨i+1,zo,rfl,rfl,E.o,(a.aP O).tail⟩
  .have T:=zh (C.o rfl);clear C t Z
   go_wp2_with (first
    |refine ae uX rfl (.tmp 31) rfl rfl N hl (HC.o _ A) ?_
    |(refine aM uX rfl (.tmp 9) (.tmp 32) rfl (cs:=N.toArray) rfl rfl rfl qea (fun u hu=>B u qd2) f.o.obj ?_;intro w1 l p;have a:=f.o.bN l p;have y0:=a.obj.cell H0;have y1:=a.obj.lt)
    |(go_at_call 57;refine(g'.o _ a.ay).mono ?_;rintro e w2 ⟨rfl,O⟩;have k:=a.aP O;have y2:=S.o _ _ k.obj;have y3:=k.obj.lt)
    |refine ae iY rfl (.tmp 37) rfl rfl D hl2 y2 ?_
    | (refine aM iY rfl (.tmp 4) (.tmp 38) rfl (cs:=D.toArray) rfl rfl rfl qd5 (fun u hu=>Q u qd2) k.au.obj ?_;intro w3 a' o';have H:=k.au.bN a' o';have hr:=iY.load hl2 a'.all))
   refine yV (v:=.tuple #[.agg D.toArray,.int .i64 3]) (kw results29 rfl hr) rfl ?_;exact hR.o _ _ ⟨T.o,H.az⟩
 obtain rfl:i=c.2.length:=zo;have C:=zh (show TC m n (uI (Cn s) c s) (.returned (.tuple #[dE (ja,ja) dB dB,.int .i64 3]))by
  rw[WJ U.o (fun j d=>I.o j d d)];exact⟨dB,dB,rfl,(bG.leaf m false).mono zo,(bG.leaf m false).mono zo⟩)
 have f:=zh r;clear r Z I U
 go_wp2_with (refine aM iY rfl (.tmp 4) (.tmp 40) rfl (cs:=uG) rfl rfl rfl rfl zD f.o.obj ?_)
 intro w' ho hg;have HF:=zh (f.o.bN ho hg);have hr:=iY.load (cs:=uG.toList) rfl ho.all;clear f hg ho;go_wp2;refine yV (v:=.tuple #[.agg uG,.int .i64 3]) (kw results29 rfl hr) rfl ?_;exact hR.o _ _ ⟨C.o,HF.o.az⟩
def oW:St:=([],[(allT,(eu,eu))])
def fT:Vl:=.mk false fI [] [oW]
theorem Yp(s:ByteArray):Cn s allT=true:=by
 unfold Cn;rw[aO Fa.canon.wf,Fa.rC];rfl
theorem Sj:jM allT:=⟨fun s a=>by
 simp only[allT,zZ]at a;subst a;simp,by simp[allT]⟩
theorem Xi:eZ oW:=⟨fun k a=>by
 simp only[oW,zZ]at a;subst a;exact⟨Fa.canon,by simp[allT]⟩,fun w=>by simp[Rk,oW,Yo]⟩
theorem Vj(a:Bool):oO (.mk a fI [] []) where
 any _:=⟨rfl,rfl,rfl⟩
 rest c hc:=by simp[Vl.aU]at hc
 st c hc:=by simp[Vl.aF]at hc
 sc:=nk
theorem Bv(a:Bool)(n:Nat):oN (n+1) (.mk a fI [] []):=⟨Vj a,fun x b=>by simp[Vl.kids,Vl.aU,Vl.aF]at b⟩
theorem Gc:fT.kids=[(eu,eu)]:=rfl
theorem vZ{c:St}(a:c∈fT.aF):c=oW:=by simpa [fT,Vl.aF]using a
theorem QI:oO fT where
 any h:=by simp[fT,Vl.any]at h
 rest c hc:=by simp[fT,Vl.aU]at hc
 st c hc:=by
  rw[vZ hc];exact⟨⟨fun f a=>by simp[oW]at a,fun i h=>absurd h (xY _)⟩,Xi⟩
 sc:=nk
theorem xh:eQ fT:=⟨QI,fun x a=>by
 obtain rfl:x=(eu,eu):=by simpa [Gc]using a
 exact⟨Bv true 14,Bv true 14⟩⟩
theorem Uz:O6 fT=2:=by unfold O6;rw[zK (aO xh)];rfl
theorem Uy:Ng fT=3:=by unfold Ng;rw[zK (aO xh)];rfl
theorem QJ:ZN fT where
 sc:=⟨zG _,zG _,fun s a=>(by simp[fT,Vl.s,fI]at a),zG _⟩
 l:=zG _
 s:=by simp[fT,Vl.aF]
 f c hc:=by rw[vZ hc];exact zG _
 k c hc:=by rw[vZ hc];simp[oW]
 lab c hc f hf:=by rw[vZ hc]at hf;simp[oW]at hf
 set c hc k hk:=by
  rw[vZ hc]at hk;obtain rfl:k=(allT,(eu,eu)):=by simpa [oW]using hk
  exact Sj
theorem pR:eT 2 fT:=⟨QJ,fun x a=>by
 obtain rfl:x=(eu,eu):=by simpa [Gc]using a
 exact⟨xz 0 true,xz 0 true⟩⟩
theorem pU:dw 2 fT=3:=rfl
theorem zx(m:Mem)(w:zW)(K:m.ay w):
 zC 42 #[] w fun e w'=>∃u,e=.returned (.agg #[.slice none 0 0,u])/\zB w w'/\gX (bG (m.grow w w') 1) (m.grow w w') u oW.2:=by
 have D:=(Own.start K).al #[.slice none 0 0,.slice none 0 0] 45;have H:=zh (QB m (w.alloc (.cells #[.slice none 0 0,.slice none 0 0] 45)));have E:=zh (fun w'=>FP w');have F:=zh D;have C:dE (eu,eu) dB dB=.agg #[.bool true,.bool false,.bool false,.bool false,.slice none 0 0,.slice none 0 0,.slice none 0 0,.slice none 0 0,.slice none 0 0,.bool true,.bool false,.bool false,.bool false,.slice none 0 0,.slice none 0 0,.slice none 0 0,.slice none 0 0,.slice none 0 0]:=rfl;have G:=zh C;clear D C;refine aj fun R N=>?_
 go_enter func42,ntmps42
 go_wp2_with fail
 refine H.o.mono ?_;rintro e S ⟨r,rfl,l,s⟩;have p:=F.o.call l;obtain⟨J,I,rfl,-⟩:=id s
 go_wp2_with fail
 refine(E.o _).mono ?_;rintro e f ⟨rfl,z⟩;rw[G.o];have n:=p.aP z;obtain⟨q,B,A,a⟩:=dM 61 #[.slice J allT.length I,.bool true,.bool false,.bool false,.bool false,.slice none 0 0,.slice none 0 0,.slice none 0 0,.slice none 0 0,.slice none 0 0,.bool true,.bool false,.bool false,.bool false,.slice none 0 0,.slice none 0 0,.slice none 0 0,.slice none 0 0,.slice none 0 0] n;have W:=a.obj.frozen 0;have f1:=a.obj.frozen 1;have V:=a.obj.c 0;have U:=a.obj.c 1;have T:=a.obj.lt;have b:=(a.set 0 (.slice none 0 0)).set 1 (.slice (some ⟨f.heap.size,0,none⟩) 1 1);have P:=b.obj.cell (i:=0) (v:=.slice none 0 0) rfl;have O:=b.obj.cell (i:=1) (v:=.slice (some ⟨f.heap.size,0,none⟩) 1 1) rfl;have t:=Mem.le_trans a.done (Mem.le_refl _);have Q:=zh (show gX (bG q 1) q (.slice (some ⟨f.heap.size,0,none⟩) 1 1) oW.2 from
  ⟨some ⟨f.heap.size,0,none⟩,1,rfl,by simp[oW],by simp[maxLen],fun _=>⟨_,0,rfl,fun i hi=>by
   obtain rfl:i=0:=by simpa [oW]using hi
   refine⟨⟨_,A 0 _ rfl,aW B s⟩,.of (x:=dB) (y:=dB) (fun j u M=>?_) (bG.leaf q true) (bG.leaf q true)⟩;refine A (1+j) u ?_;have g:(fK (eu,eu) dB dB)[j]?=some u:=M;have L:=(yB.1 g).1;have:(fK (eu,eu) dB dB).length=18:=rfl
   match j,g with
   |0,h=>exact h
   |1,h=>exact h
   |2,h=>exact h
   |3,h=>exact h
   |4,h=>exact h
   |5,h=>exact h
   |6,h=>exact h
   |7,h=>exact h
   |8,h=>exact h
   |9,h=>exact h
   |10,h=>exact h
   |11,h=>exact h
   |12,h=>exact h
   |13,h=>exact h
   |14,h=>exact h
   |15,h=>exact h
   |16,h=>exact h
   |17,h=>exact h
   | k+18,_=>omega⟩⟩)
 have d:=zh (zi b.az b.done);clear p n a b s B A F H E l t G;go_wp2;refine yV (v:=.agg #[.slice none 0 0,.slice (some ⟨f.heap.size,0,none⟩) 1 1]) (by simp[results,results42,go_sem,P,O]) rfl ?_;exact N.o _ _ ⟨_,rfl,d.o.1,gX.le d.o.2 (fun _ _=>bG.le d.o.2) Q.o⟩
theorem PY(s:ByteArray):uI (Cn s) oW s=((eu,eu),3):=by
 unfold uI oW;simp[Yp]
theorem U6:OE ja=true:=by
 have h:rE ja.s=true:=BZ;unfold OE;rw[h];rfl
theorem E8(w:zW):(Instr.field 35 (dE (ja,ja) dB dB) 0).run prog w=.ok (ja.val dB) w:=by kernel_rfl
theorem Tq(w:zW):(Instr.field 35 (dE (eu,eu) dB dB) 0).run prog w=.ok (eu.val dB) w:=by kernel_rfl
theorem YG{m:Mem}{n g:Nat}{d:Vd}{x y:Sl}(c:∀j u,(fK d x y).toArray[j]?=some u->m.cell g j=some u)(b:bG m n x d.1)(a:bG m n y d.2):bO (bG m n) m (.slice (some ⟨g,0,none⟩) 1 1) [d]:=
 ⟨some ⟨g,0,none⟩,1,rfl,zS,by simp[maxLen],fun _=>⟨g,0,rfl,fun i hi=>by
  obtain rfl:i=0:=by simpa using hi
  exact .of (fun j u hj=>by simpa using c j u qeb) b a⟩⟩
theorem U2:qj ([],[(eu,eu)]) 4=((eu,eu),true):=by simp[qj]
theorem U3:qj ([],[]) 0=((ja,ja),false):=by simp[qj]
theorem Zz:jc 1 (eu,eu):=by simp[jc,dw,eu,Vl.kids,Vl.aU,Vl.aF]
theorem ZA:jc 1 (ja,ja):=by simp[jc,dw,ja,Vl.kids,Vl.aU,Vl.aF]
theorem Pf:jc 2 (fT,fT):=⟨by rw[pU];omega,by rw[pU];omega⟩
theorem Qa:¬((eu,eu):Vd)=(ja,ja):=fun h=>by
 have:=congrArg (fun d:Vd=>d.1.any) h;simp[eu,ja,Vl.any]at this
theorem fV(m:Mem)(w:zW)(hm:m.ay w)(a':gD m):
 zX 14 #[] w (.bool true):=by
 have HO:=zh (Own.start hm);have HA:=zh (zx m w hm);have HOP:=zh (fun(m':Mem) (w':zW) (h:m'.ay w')=>zx m' w' h);have O':=zh (fun w'=>FP w');refine aj fun R hR=>?_
 go_enter func14,ntmps14
 go_wp2_with fail
 refine HA.o.mono ?_;rintro e w1 ⟨u,rfl,J',hu⟩;have n':=HO.o.call J';have S':=zh (a'.le (Mem_le_grow (w:=w1) hm));have HV:=zh (MW (.slice none 0 0) u oW ⟨#[97]⟩ _ 1 w1 n'.ay (iR _ _) hu (by simp[ByteArray.size,maxLen]));have V':=zh n';generalize m.grow w w1=m1 at*
 clear n' HO HA J' hu a'
 go_wp2_with fail
 refine HV.o.mono ?_;rintro e w2 ⟨Z,I'⟩;rw[PY]at Z;obtain⟨x,y,rfl,X,W⟩:=Z;have M':=(V'.o.aP I').al uG 35;have hl:(fK (eu,eu) x y).length=18:=rfl;have n:=gW (d:=(eu,eu)) X W;have t':=zh (fun w'=>sV (eu,eu) x y w');have HO2:=zh M';unfold dE at t'⊢;generalize fK (eu,eu) x y=D at*
 clear M' V' HV I' X W
 go_wp2_with (refine aM iY rfl (.tmp 1) (.tmp 11) rfl (cs:=D.toArray) rfl rfl rfl qea (fun u hu=>n u qd2) HO2.o.obj ?_)
 intro w3 y' C';have P:=HO2.o.bN y' C';have N:=Mem_le_add (w:=w3) P.lV;have E':∀j u,D[j]?=some u->(m1.add w3 w2.heap.size).cell w2.heap.size j=some u:=fun j u hj=>Mem_add_cell P.obj qeb;have U':=zh P.lU;have R':=zh (S'.o.le N);generalize m1.add w3 _=m3 at*
 generalize w2.heap.size=g1 at*
 have f:=zh E';clear HO2 P N E' y' C' n S'
 go_wp2_with fail
 refine(O'.o _).mono ?_;rintro e w4 ⟨rfl,H'⟩;rw[show dE (eu,eu) dB dB=.agg #[.bool true,.bool false,.bool false,.bool false,.slice none 0 0,.slice none 0 0,.slice none 0 0,.slice none 0 0,.slice none 0 0,.bool true,.bool false,.bool false,.bool false,.slice none 0 0,.slice none 0 0,.slice none 0 0,.slice none 0 0,.slice none 0 0] from rfl];obtain⟨m5,l5,c5,C⟩:=dM 35 (fK (eu,eu) dB dB).toArray (U'.o.aP H');have C:Own w m (w4.alloc (.cells #[.bool true,.bool false,.bool false,.bool false,.slice none 0 0,.slice none 0 0,.slice none 0 0,.slice none 0 0,.slice none 0 0,.bool true,.bool false,.bool false,.bool false,.slice none 0 0,.slice none 0 0,.slice none 0 0,.slice none 0 0,.slice none 0 0] 35)) m5 []:=C;have HV:=zh (DN (.slice none 0 0) (.slice (some ⟨w4.heap.size,0,none⟩) 1 1) ([],[(eu,eu)]) 4 m5 1 _ C.ay (iR _ _) (YG c5 (bG.leaf m5 true) (bG.leaf m5 true)));have T':=zh C;have Q':=zh (R'.o.le l5);have f:=zh (fun j u hj=>Mem_cell_le l5 (f.o j u hj));clear U' R' C l5 c5 H'
 go_wp2_with fail
 refine HV.o.mono ?_;rintro e w6 ⟨Z,G'⟩;rw[U2]at Z;obtain⟨x2,y2,rfl,X,W⟩:=Z;have L':=(T'.o.aP G').al uG 35;have hl2:(fK (eu,eu) x2 y2).length=18:=rfl;have n:=gW (d:=(eu,eu)) X W;have I:=zh (fun w'=>sV (eu,eu) x2 y2 w');have s':=zh L';unfold dE at I⊢;generalize fK (eu,eu) x2 y2=D2 at*
 clear L' T' HV G' X W
 go_wp2_with (refine aM iY rfl (.tmp 3) (.tmp 18) rfl (cs:=D2.toArray) rfl rfl rfl qd5 (fun u hu=>n u qd2) s'.o.obj ?_)
 intro w7 x' B';have O:=s'.o.bN x' B';have k':=Mem_le_add (w:=w7) O.lV;have D':∀j u,D2[j]?=some u->(m5.add w7 w6.heap.size).cell w6.heap.size j=some u:=fun j u hj=>Mem_add_cell O.obj qeb;have r':=zh O.lU;have P':=zh (Q'.o.le k');have f:=zh (fun j u hj=>Mem_cell_le k' (f.o j u hj));generalize m5.add w7 _=m7 at*
 generalize w6.heap.size=g2 at*
 have q:=zh D';have HV:=zh (DN (.slice none 0 0) (.slice none 0 0) ([],[]) 0 m7 0 _ r'.o.ay (iR _ _) (iR _ _));clear s' O k' D' x' B' n Q'
 go_wp2_with fail
 refine HV.o.mono ?_;rintro e w8 ⟨Z,F'⟩;rw[U3]at Z;obtain⟨x3,y3,rfl,X,W⟩:=Z;have K':=(r'.o.aP F').al uG 35;have N:(fK (ja,ja) x3 y3).length=18:=rfl;have n:=gW (d:=(ja,ja)) X W;have q':=zh K';unfold dE at⊢;generalize fK (ja,ja) x3 y3=D3 at*
 clear K' r' HV F' X W
 go_wp2_with (refine aM iY rfl (.tmp 5) (.tmp 23) rfl (cs:=D3.toArray) rfl rfl rfl (by simpa using N) (fun u hu=>n u qd2) q'.o.obj ?_)
 intro w9 v' A';have l':=(q'.o.bN v' A').tail;have HA:=zh (HOP.o m7 w9 l'.ay);have p':=zh l';clear q' l' v' A' n
 go_wp2_with fail
 refine HA.o.mono ?_;rintro e g ⟨u4,rfl,d',hu⟩;have f':=p'.o.call d';have t:=Mem_le_grow (w:=g) p'.o.ay;obtain⟨K,L,o',e'⟩:=dM 45 #[.slice none 0 0,u4] f';have t:=Mem.le_trans t L;have F:=e'.al zcV 33;have h':=zh (P'.o.le t);have f:=zh (fun j u hj=>Mem_cell_le t (f.o j u hj));have q:=zh (fun j u hj=>Mem_cell_le t (q.o j u hj));have HSV:=zh (show bG K 2 ⟨.slice none 0 0,.slice none 0 0,.slice none 0 0,.slice none 0 0,.slice (some ⟨g.heap.size,0,none⟩) 1 1⟩ fT from
  ⟨⟨iR _ _,iR _ _,iR _ _⟩,iR _ _,some ⟨g.heap.size,0,none⟩,1,rfl,by simp[fT,Vl.aF],by simp[maxLen],fun _=>⟨_,0,rfl,fun i hi=>by
   obtain rfl:i=0:=by simpa [fT,Vl.aF]using hi
   exact⟨_,_,o' 0 _ rfl,o' 1 _ rfl,iR _ _,gX.le L (fun _ _=>bG.le L) hu⟩⟩⟩)
 have s:=zh F;simp only[bR]at s;have gl:=F.tail.ay;clear p' f' e' F L o' hu d' t P' HA gl
 go_wp2_with (refine aM iH rfl (.tmp 7) (.tmp 27) rfl (cs:=#[.bool false,.bool false,.bool false,.bool false,.slice none 0 0,.slice none 0 0,.slice none 0 0,.slice none 0 0,.slice (some ⟨g.heap.size,0,none⟩) 1 1]) rfl rfl rfl rfl qdZ s.o.obj ?_)
 intro J V b';have r:=s.o.bN V b';have l:=Mem_le_add (w:=J) r.lV;obtain⟨sv,j'⟩:∃sv:Sl,sv=⟨.slice none 0 0,.slice none 0 0,.slice none 0 0,.slice none 0 0,.slice (some ⟨g.heap.size,0,none⟩) 1 1⟩:=⟨_,rfl⟩;have c':∀j u,(bu fT sv)[j]?=some u->(K.add J (g.heap.size+1)).cell (g.heap.size+1) j=some u:=fun j u hj=>Mem_add_cell r.obj (by rw[j']at hj;have hj2:([.bool false,.bool false,.bool false,.bool false,.slice none 0 0,.slice none 0 0,.slice none 0 0,.slice none 0 0,.slice (some ⟨g.heap.size,0,none⟩) 1 1]:List Value)[j]?=some u:=hj;simpa using hj2);have HSV:=zh (show bG (K.add J (g.heap.size+1)) 2 sv fT by rw[j'];exact HSV.o.le l);have G:=zh r.lU;have HT:=zh (h'.o.le l);have f:=zh (fun j u hj=>Mem_cell_le l (f.o j u hj));have q:=zh (fun j u hj=>Mem_cell_le l (q.o j u hj));generalize K.add J _=M at*
 generalize g.heap.size+1=g3 at*
 have HC13:=zh c';have hl9:(bu fT sv).length=9:=rfl;clear s r l c' V b' h' j';have H:=zh (bG.leaf M false);have U:=zh (bG.leaf M true)
 go_upto_region 5 with(fail)
 refine aR [0] (fun vs w'=>vs=[.bool true]/\Own w m w' M []) ?_ ?_
 .intro Y hY;refine bz 62 6 (fun j=>[aD.is (·=dE (ja,ja) dB dB),aD.is (·=ja.val dB),aD.is (·=.bool true),aD.is (·=.bool true),aD.is (·=dE (eu,eu) dB dB),aD.is (·=.bool true),aD.is (·=.bool true),aD.is (·=.bool true),aD.is (·=.agg D.toArray),aD.is (·=.bool true),aD.is (·=.bool true),aD.is (·=.bool true),aD.is (·=.int .i64 3),aD.is (·=.bool true),aD.is (·=.bool true),aD.is (·=.bool true),aD.is (·=.agg D2.toArray),aD.is (·=.bool true),aD.is (·=.bool true),aD.is (·=.bool true),aD.is (·=.bool true),aD.is (·=.bool true),aD.is (·=.bool true),aD.is (·=.bool false),aD.is (·=.bool true),aD.is (·=.bool true),aD.is (·=.bool true),aD.is (·=dE (eu,eu) dB dB),aD.is (·=eu.val dB),aD.is (·=dE (ja,ja) dB dB),aD.is (·=ja.val dB),aD.is (·=.int .i64 (-1)),aD.is (·=.bool true),aD.is (·=.bool true),aD.is (·=.bool true),aD.is (·=.agg (bu fT sv).toArray),aD.is (·=dE (fT,fT) sv sv),aD.is (·=.bool true),aD.is (·=.bool true),aD.is (·=.bool true),aD.is (·=.agg (bu fT sv).toArray),aD.is (·=.int .i64 2),aD.is (·=.bool true),aD.is (·=.bool true),aD.is (·=.bool true),aD.is (·=.agg (bu fT sv).toArray),aD.is (·=.int .i64 3),aD.is (·=.bool true),aD.is (·=.bool true),aD.is (·=.bool true),aD.is (·=dE (eu,eu) dB dB),aD.is (·=dE (ja,ja) dB dB),aD.is (·=.bool false),aD.is (·=.bool true),aD.is (·=.bool true),aD.is (·=.bool true),aD.is (·=.agg (bu fT sv).toArray),aD.is (·=dE (fT,fT) sv sv),aD.is (·=.agg (bu fT sv).toArray),aD.is (·=dE (fT,fT) sv sv),aD.is (·=.bool true),aD.is (·=.bool true)].getD j aD.any) zk zk ?_ ?_
  .intro i hi o win a wr ho RA;have HO2:=G.o.dr.aP RA.az;have y1:=Mem_cell_lt HO2.ay (f.o 0 (D[0]'zo) (yH _));have y2:=Mem_cell_lt HO2.ay (q.o 0 (D2[0]'zo) (yH _));have y3:=Mem_cell_lt HO2.ay (HC13.o 0 _ rfl);rcases(show i=0\/i=1\/i=2\/i=3\/i=4\/i=5\/i=6\/i=7\/i=8\/i=9\/i=10\/i=11\/i=12\/i=13\/i=14\/i=15\/i=16\/i=17\/i=18\/i=19\/i=20\/i=21\/i=22\/i=23\/i=24\/i=25\/i=26\/i=27\/i=28\/i=29\/i=30\/i=31\/i=32\/i=33\/i=34\/i=35\/i=36\/i=37\/i=38\/i=39\/i=40\/i=41\/i=42\/i=43\/i=44\/i=45\/i=46\/i=47\/i=48\/i=49\/i=50\/i=51\/i=52\/i=53\/i=54\/i=55\/i=56\/i=57\/i=58\/i=59\/i=60\/i=61 by omega)with rfl|rfl|rfl|rfl|rfl|rfl|rfl|rfl|rfl|rfl|rfl|rfl|rfl|rfl|rfl|rfl|rfl|rfl|rfl|rfl|rfl|rfl|rfl|rfl|rfl|rfl|rfl|rfl|rfl|rfl|rfl|rfl|rfl|rfl|rfl|rfl|rfl|rfl|rfl|rfl|rfl|rfl|rfl|rfl|rfl|rfl|rfl|rfl|rfl|rfl|rfl|rfl|rfl|rfl|rfl|rfl|rfl|rfl|rfl|rfl|rfl|rfl
   .cases ho;refine we rfl rfl (rq wr) ?_;exact qab
   .have e28:zt a 28 _:=RA.d 0 rfl;cases ho;refine aJ rfl rfl (aN qeJ ⟨_,rfl,zR _ _,rfl⟩)
   .have e29:zt a 29 _:=RA.d 1 rfl;cases ho;refine we rfl rfl (Ex ja dB M 1 wr HO2.ay HT.o H.o ⟨zG _,zG _,zG _⟩ (zG _) (zG _)) ?_;rintro e w' ⟨rfl,hb⟩;exact⟨_,rfl,_,rfl,hb,congrArg Value.bool U6⟩
   .have e30:zt a 30 _:=RA.d 2 rfl;exact qaa
   .have T:zt a 31 _:=RA.d 3 rfl;cases ho;refine we2 rfl rfl rfl T (Am wr) ?_;exact qab
   .have e32:zt a 32 _:=RA.d 4 rfl;have T:zt a 31 _:=RA.d 3 rfl;cases ho;refine we2 rfl rfl rfl T (sV (eu,eu) dB dB wr) ?_;exact qab
   .have T:zt a 31 _:=RA.d 3 rfl;have e33:zt a 33 _:=RA.d 5 rfl;exact qaa
   .have e34:zt a 34 _:=RA.d 6 rfl;exact qaa
   .have e1:=RA.k 1;have S:zt a 35 _:=RA.d 7 rfl;cases ho;refine gF rfl (fD rfl rfl S) (aN (iY.exec (b:=g1) (off:=0) rfl zg hl (fun j u hj=>by rw[yZ];exact Mem_cell_w HO2.ay (f.o j u hj))) ⟨_,rfl,zR _ _,rfl⟩)
   .have e36:zt a 36 _:=RA.d 8 rfl;have S:zt a 35 _:=RA.d 7 rfl;cases ho;refine we2 rfl rfl rfl S (t'.o wr) ?_;exact qab
   .have S:zt a 35 _:=RA.d 7 rfl;have e37:zt a 37 _:=RA.d 9 rfl;exact qaa
   .have e38:zt a 38 _:=RA.d 10 rfl;exact qaa
   .have e2:=RA.k 2;exact qcG
   .have e40:zt a 40 _:=RA.d 12 rfl;exact qcG
   .have e39:zt a 39 _:=RA.d 11 rfl;have e41:zt a 41 _:=RA.d 13 rfl;exact qaa
   .have e42:zt a 42 _:=RA.d 14 rfl;exact qaa
   .have e3:=RA.k 3;have Q:zt a 43 _:=RA.d 15 rfl;cases ho;refine gF rfl (fD rfl rfl Q) (aN (iY.exec (b:=g2) (off:=0) rfl zg hl2 (fun j u hj=>by rw[yZ];exact Mem_cell_w HO2.ay (q.o j u hj))) ⟨_,rfl,zR _ _,rfl⟩)
   .have e44:zt a 44 _:=RA.d 16 rfl;have Q:zt a 43 _:=RA.d 15 rfl;cases ho;refine we2 rfl rfl rfl Q (I.o wr) ?_;exact qab
   .have Q:zt a 43 _:=RA.d 15 rfl;have e45:zt a 45 _:=RA.d 17 rfl;exact qaa
   .have e46:zt a 46 _:=RA.d 18 rfl;exact qaa
   .have e4:=RA.k 4;have N':a.tmps.getD 47 undef=_:=RA.d 19 rfl;cases ho;exact wy rfl rfl rfl N' rfl
   .have N':a.tmps.getD 47 undef=_:=RA.d 19 rfl;have e48:zt a 48 _:=RA.d 20 rfl;exact qaa
   .have e49:zt a 49 _:=RA.d 21 rfl;exact qaa
   .have e6:=RA.k 6;exact qcF
   .have e51:zt a 51 _:=RA.d 23 rfl;exact qcF
   .have e50:zt a 50 _:=RA.d 22 rfl;have e52:zt a 52 _:=RA.d 24 rfl;exact qaa
   .have e53:zt a 53 _:=RA.d 25 rfl;exact qaa
   .have c:zt a 54 _:=RA.d 26 rfl;cases ho;refine we2 rfl rfl rfl c (Am wr) ?_;exact qab
   .have e55:zt a 55 _:=RA.d 27 rfl;have c:zt a 54 _:=RA.d 26 rfl;cases ho;refine gF rfl (fD rfl rfl c) (aN (by go_simp;first|done|rfl|exact Tq _|simp[Tq]) ⟨_,rfl,zR _ _,rfl⟩)
   .have c:zt a 54 _:=RA.d 26 rfl;cases ho;refine we2 rfl rfl rfl c (rq wr) ?_;exact qab
   .have e57:zt a 57 _:=RA.d 29 rfl;have c:zt a 54 _:=RA.d 26 rfl;cases ho;refine gF rfl (fD rfl rfl c) (aN qeJ ⟨_,rfl,zR _ _,rfl⟩)
   .have e56:zt a 56 _:=RA.d 28 rfl;have e58:zt a 58 _:=RA.d 30 rfl;have c:zt a 54 _:=RA.d 26 rfl;cases ho;refine we2 rfl rfl rfl c (Ey eu ja dB dB M 1 wr HO2.ay HT.o U.o H.o (xz 0 true) (xz 0 false) (by simp[dw,eu,Vl.kids,Vl.aU,Vl.aF]) (by simp[dw,ja,Vl.kids,Vl.aU,Vl.aF]) (Bv true 15) (Bv false 15) (by simp[eu,ja,Vl.any])) ?_;exact qab
   .have e59:zt a 59 _:=RA.d 31 rfl;have c:zt a 54 _:=RA.d 26 rfl;cases ho;exact wy rfl rfl rfl c rfl
   .have c:zt a 54 _:=RA.d 26 rfl;have e60:zt a 60 _:=RA.d 32 rfl;exact qaa
   .have e61:zt a 61 _:=RA.d 33 rfl;exact qaa
   .have e7:=RA.k 7;have B:zt a 62 _:=RA.d 34 rfl;cases ho;refine gF rfl (fD rfl rfl B) qfh
   .have e63:zt a 63 _:=RA.d 35 rfl;have B:zt a 62 _:=RA.d 34 rfl;cases ho;refine we2 rfl rfl rfl B qfH ?_;exact qab
   .have e64:zt a 64 _:=RA.d 36 rfl;have B:zt a 62 _:=RA.d 34 rfl;cases ho;refine we2 rfl rfl rfl B (mR (fT,fT) sv sv M 2 wr HO2.ay HT.o HSV.o HSV.o pR pR qeV qeV) ?_;rintro e w' ⟨rfl,hb⟩;exact⟨_,rfl,_,rfl,hb,by rw[aO xh];rfl⟩
   .have B:zt a 62 _:=RA.d 34 rfl;have e65:zt a 65 _:=RA.d 37 rfl;exact qaa
   .have e66:zt a 66 _:=RA.d 38 rfl;exact qaa
   .have e7:=RA.k 7;have A:zt a 67 _:=RA.d 39 rfl;cases ho;refine gF rfl (fD rfl rfl A) qfh
   .have e68:zt a 68 _:=RA.d 40 rfl;have A:zt a 67 _:=RA.d 39 rfl;cases ho;refine we2 rfl rfl rfl A (KX fT sv M 2 wr HO2.ay HT.o HSV.o pR qeV) ?_;rintro e w' ⟨rfl,hb⟩;exact⟨_,rfl,_,rfl,hb,congrArg (Value.int .i64) Uz⟩
   .have e69:zt a 69 _:=RA.d 41 rfl;have A:zt a 67 _:=RA.d 39 rfl;cases ho;exact wy rfl rfl rfl A rfl
   .have A:zt a 67 _:=RA.d 39 rfl;have e70:zt a 70 _:=RA.d 42 rfl;exact qaa
   .have e71:zt a 71 _:=RA.d 43 rfl;exact qaa
   .have e7:=RA.k 7;have v:zt a 72 _:=RA.d 44 rfl;cases ho;refine gF rfl (fD rfl rfl v) qfh
   .have e73:zt a 73 _:=RA.d 45 rfl;have v:zt a 72 _:=RA.d 44 rfl;cases ho;refine we2 rfl rfl rfl v (MX fT sv M 2 wr HO2.ay HT.o HSV.o pR qeV) ?_;rintro e w' ⟨rfl,hb⟩;exact⟨_,rfl,_,rfl,hb,congrArg (Value.int .i64) Uy⟩
   .have e74:zt a 74 _:=RA.d 46 rfl;have v:zt a 72 _:=RA.d 44 rfl;cases ho;exact wy rfl rfl rfl v rfl
   .have v:zt a 72 _:=RA.d 44 rfl;have e75:zt a 75 _:=RA.d 47 rfl;exact qaa
   .have e76:zt a 76 _:=RA.d 48 rfl;exact qaa
   .have p:zt a 77 _:=RA.d 49 rfl;cases ho;refine we2 rfl rfl rfl p (Am wr) ?_;exact qab
   .have p:zt a 77 _:=RA.d 49 rfl;cases ho;refine we2 rfl rfl rfl p (rq wr) ?_;exact qab
   .have e78:zt a 78 _:=RA.d 50 rfl;have e79:zt a 79 _:=RA.d 51 rfl;have p:zt a 77 _:=RA.d 49 rfl;cases ho;refine we2 rfl rfl rfl p (sW (eu,eu) (ja,ja) dB dB dB dB M 1 wr HO2.ay HT.o U.o U.o H.o H.o Zz ZA (xz 0 true) (xz 0 true)) ?_;rintro e w' ⟨rfl,hb⟩;exact⟨_,rfl,_,rfl,hb,by rw[aA Qa];rfl⟩
   .have e80:zt a 80 _:=RA.d 52 rfl;have p:zt a 77 _:=RA.d 49 rfl;cases ho;exact wy rfl rfl rfl p rfl
   .have p:zt a 77 _:=RA.d 49 rfl;have e81:zt a 81 _:=RA.d 53 rfl;exact qaa
   .have e82:zt a 82 _:=RA.d 54 rfl;exact qaa
   .exact qaO
   .have e84:zt a 84 _:=RA.d 56 rfl;have e83:zt a 83 _:=RA.d 55 rfl;cases ho;refine we2 rfl rfl rfl e83 qfH ?_;exact qab
   .exact qaO
   .have e86:zt a 86 _:=RA.d 58 rfl;have e83:zt a 83 _:=RA.d 55 rfl;cases ho;refine we2 rfl rfl rfl e83 qfH ?_;exact qab
   .have e85:zt a 85 _:=RA.d 57 rfl;have e87:zt a 87 _:=RA.d 59 rfl;have e83:zt a 83 _:=RA.d 55 rfl;cases ho;refine we2 rfl rfl rfl e83 (sW (fT,fT) (fT,fT) sv sv sv sv M 2 wr HO2.ay HT.o HSV.o HSV.o HSV.o HSV.o Pf Pf pR pR) ?_;rintro e w' ⟨rfl,hb⟩;exact⟨_,rfl,_,rfl,hb,by rw[aO rfl,aO xh];rfl⟩
   .have e83:zt a 83 _:=RA.d 55 rfl;have e88:zt a 88 _:=RA.d 60 rfl;exact qaa
  .intro win a wr E;have e89:a.tmps.getD 89 undef=.bool true:=E.fact 61 _ zo rfl;have hZ:=G.o.dr.aP E.az;obtain⟨t1,d⟩:=a;obtain rfl:d=[]:=E.defers;refine eF 62 zk (aJ rfl rfl (aN qd1 ?_));refine bY zk (hY.o _ _ qef ⟨?_,hZ⟩) _;have z':t1.size=90:=E.size;simp[z']at e89;simp[z']
 rintro z vs w2-⟨rfl,hO⟩;simp[aX,lk];have HB:=zh hO.az;clear hO G HT f q HC13 HSV H U t' I;exact qag
end Cl
