/- Lemmas. -/
import Derived.Test.YtbbnjopkjbhpbaaGreatDoorPkT22
set_option maxRecDepth 99999
set_option maxHeartbeats 9999999
namespace Cl
open Go Go.RowKit Go.Proofs Tryz
theorem FI(C D B F G E:zV)(a b:RS)(m:Mem)(w:zW)(P:m.az w)(z:gJ m C D B a)(y:gJ m F G E b):
 zX 66 #[a.val C D B,b.val F G E] w (.bool (tf (a=b))):=by
 have d:=((Own.start P).al #[.bool a.dL,.bool a.dS,.bool a.dW,C,D,B] 29).al #[.bool b.dL,.bool b.dS,.bool b.dW,F,G,E] 29;simp only[bB]at d;have K:=zh (fun w' (h:m.az w')=>mO _ _ a.i b.i m w' h z.i y.i);have J:=zh (fun w' (h:m.az w')=>mO _ _ a.f b.f m w' h z.f y.f);have A:=zh (fun w' (h:m.az w')=>BV _ _ a.t b.t m w' h z.t y.t);have l:=zh (RS.I8 a b);obtain⟨a1,b1,a2,b2,a3,b3,rfl,rfl,rfl⟩:=z.dm;obtain⟨c1,Z,c2,Y,c3,X,rfl,rfl,rfl⟩:=y.dm;unfold RS.val;have g:=zh d;clear d z y;refine au fun R hR=>?_;by_cases k:a.dL=b.dL
 case neg=>
  have HE3:=zh (show ¬a=b from fun h=>k (l.o.1 h).1);have HB:=zh g.o.aF;have T:(a.dL==b.dL)=false:=by simp[k]
  clear k l g
  go_enter func66,ntmps66
  exact qgZ
 have T:(a.dL==b.dL)=true:=by simp[k]
 by_cases n:a.dS=b.dS
 case neg=>
  have HE3:=zh (show ¬a=b from fun h=>n (l.o.1 h).2.1);have HB:=zh g.o.aF;have S:(a.dS==b.dS)=false:=by simp[n]
  clear k n l g
  go_enter func66,ntmps66
  exact qgZ
 have S:(a.dS==b.dS)=true:=by simp[n]
 by_cases s:a.dW=b.dW
 case neg=>
  have HE3:=zh (show ¬a=b from fun h=>s (l.o.1 h).2.2.1);have HB:=zh g.o.aF;have Q:(a.dW==b.dW)=false:=by simp[s]
  clear k n s l g
  go_enter func66,ntmps66
  exact qgZ
 have Q:(a.dW==b.dW)=true:=by simp[s]
 have j:=zh (show a=b↔(a.i=b.i/\a.f=b.f)/\a.t=b.t from l.o.trans ⟨fun h=>h.2.2.2,fun h=>⟨k,n,s,h⟩⟩);clear k n s l;generalize a.dL=an at*
 generalize b.dL=bn at*
 generalize a.dS=af at*
 generalize b.dS=bf at*
 generalize a.dW=at' at*
 generalize b.dW=bt at*
 go_enter func66,ntmps66
 go_wp2_with fail
 refine(K.o _ g.o.az).mono ?_;rintro e W ⟨rfl,x⟩;have d:=g.o.aT x;clear K g x;by_cases r:a.i=b.i
 case neg=>
  rw[aG r];have HB:=zh d.aF;have HE3:=zh (show ¬a=b from fun h=>r (j.o.1 h).1.1);clear d j r A J;exact qgZ
 rw[aN r];have M:=d.obj.c 4;have H:=d.obj.lt;have O:=d.av.obj.c 4;have I:=d.av.obj.lt;have g:=zh d;have HE3:=zh (show a=b↔a.f=b.f/\a.t=b.t from j.o.trans ⟨fun h=>⟨h.1.2,h.2⟩,fun h=>⟨⟨r,h.1⟩,h.2⟩⟩);clear d j r
 go_wp2_with fail
 refine(J.o _ g.o.az).mono ?_;rintro e V ⟨rfl,v⟩;have d:=g.o.aT v;clear J g v M H O I;by_cases q:a.f=b.f
 case neg=>
  rw[aG q];have HB:=zh d.aF;have p:=zh (show ¬a=b from fun h=>q (HE3.o.1 h).1);clear d HE3 q A;go_wp2;exact hR.o _ _ ⟨aP (by rw[aG p.o]),HB.o⟩
 rw[aN q];have L:=d.obj.c 5;have H:=d.obj.lt;have N:=d.av.obj.c 5;have I:=d.av.obj.lt;have g:=zh d;have p:=zh (show a=b↔a.t=b.t from HE3.o.trans ⟨fun h=>h.2,fun h=>⟨q,h⟩⟩);clear d HE3 q
 go_wp2_with fail
 refine(A.o _ g.o.az).mono ?_;rintro e U ⟨rfl,u⟩;have HB:=zh (g.o.aT u).aF;clear g A u L H N I;generalize hc:tf (a.t=b.t)=tc at*
 have HC:=zh (show tc=tf (a=b)by rw[<-hc];exact(dY p.o).symm);exact qhu
theorem cz3{α:Type}(A:Nat->Nat->α->Prop)(Rp:List Value->α->Prop)(v v':zV)(l l':List α)(m:Mem)(w:zW)(hm:m.az w)
(hA:∀b o x,A b o x->∃cs:List Value,cs.length=18/\(∀j u,cs[j]?=some u->m.cell b (o+j)=some u)/\(∀u∈cs,u.oneCell'=true)/\Rp cs x)
(hc:∀cs d x Q w',m.az w'->Rp cs x->Rp d Q->zC 31 #[.agg cs.toArray,.agg d.toArray] w' fun e Z=>e=.returned (.bool (tf (x=Q)))/\Below w'.heap.size w' Z)
(hl:Mem.slice A 18 v l)(e':Mem.slice A 18 v' l'):
 zX 67 #[v,v',.func (.func 31) #[] #[]] w (.bool (tf (l=l'))):=by
 obtain⟨a,c,rfl,h1,h2,h3⟩:=hl;obtain⟨a',c',rfl,B',f',N⟩:=e';unfold maxLen at h2 f';have HK:=zh (zi h3 N);have HA:=zh (zi hA hc);have HO:=zh (Own.start hm);clear h3 N hA hc;refine au fun R hR=>?_;by_cases g:l.length=l'.length
 case neg=>
  have d':((l.length:Int) != (l'.length:Int))=true:=by simp;omega
  have HL:=zh (show ¬l=l' from fun h=>g (by rw[h]));clear g
  go_enter func67,ntmps67
  exact qg8
 have d':((l.length:Int) != (l'.length:Int))=false:=by simp[g]
 have Hlen:=zh g;clear g
 go_enter func67,ntmps67
 go_wp2;refine aB [0,1,2,15,16,17] (fun n vs wr=>∃k:Nat,k<=l.length/\n=l.length-k/\vs=[.slice a l.length c,.slice a' l'.length c',.func (.func 31) #[] #[],.slice a l.length c,.j l.length,.j k]/\(l=l'↔l.drop k=l'.drop k)/\Own w m wr m []) ?_ ?_
 .exact qcK
 clear HO;rintro X z n vs wr hX-⟨k,hk,rfl,rfl,q,hO⟩;have Hrel:=zh q;clear q;simp[bz,lk];by_cases hlt:k<l.length
 case neg=>
  exact qgE
 have hlt':k<l'.length:=by rw[<-Hlen.o];exact hlt
 obtain⟨b,off,rfl,h4⟩:=HK.o.1 qdJ;obtain⟨b',j',rfl,M⟩:=HK.o.2 qdV;obtain⟨cs,hl1,y,I,G⟩:=HA.o.1 _ _ _ (h4 k hlt);obtain⟨d,hl2,t,H,F⟩:=HA.o.1 _ _ _ (M k hlt');have S:=zh qhV;have T:=zh (fun w' (h:m.az w')=>HA.o.2 cs d l[k] l'[k] w' h G F);have L:=hO.al lZ 35;have P:=zh (fun(w':zW) (h:m.az w') j u hj=>azk h (y j u hj));have O:=zh (fun(w':zW) (h:m.az w') j u hj=>azk h (t j u hj));have E:=y 0 (cs[0]'zo) (yH _);have D:=t 0 (d[0]'zo) (yH _);have r':=bzu hO.az E;have q':=bzu hO.az D;have U:=zh (zi I H);have K:=hO.az;have HO:=zh L;clear hO L h4 M y t I H G F E D;generalize l[k]=x at*
 generalize l'[k]=Q at*
 by_cases C:x=Q
 .have B:=zh (show ∀w',m.az w'->_ from fun w' h=>by have:=T.o w' h;rw[aN C]at this;exact this);have HL:=zh (Hrel.o.trans (S.o.trans ⟨fun h=>h.2,fun h=>⟨C,h⟩⟩));clear T S Hrel C
  go_wp2_with (first
   |refine aj ek rfl (.tmp 20) rfl rfl cs hl1 (P.o _ K) ?_
   |(refine aA ek rfl (.tmp 8) (.tmp 21) rfl (cs:=cs.toArray) rfl rfl rfl qdU (fun u hu=>U.o.1 u qdL) HO.o.obj ?_;intro w1 i p;have f:=(HO.o.aQ i p).al lZ 35;have Y:=f.av.obj.lt;have J:=f.tail.az)
   |refine aj ek rfl (.tmp 24) rfl rfl d hl2 (O.o _ (HO.o.aQ i p).az) ?_
   |(refine aA ek rfl (.tmp 9) (.tmp 25) rfl (cs:=d.toArray) rfl rfl rfl qdT (fun u hu=>U.o.2 u qdL) f.obj ?_;intro w2 r s;have hO3:=f.aQ r s;have W:=hO3.av.obj.all;have V:=hO3.obj.all)
   |refine aj ek rfl (.tmp 8) rfl rfl cs hl1 W ?_
   |refine aj ek rfl (.tmp 9) rfl rfl d hl2 V ?_
   | (go_at_call 31;refine(B.o _ hO3.az).mono ?_;rintro e w3 ⟨rfl,hb3⟩))
  exact qaI
 .have B:=zh (show ∀w',m.az w'->_ from fun w' h=>by have:=T.o w' h;rw[aG C]at this;exact this);have HL:=zh (show ¬l=l' from fun h=>C (S.o.1 (Hrel.o.1 h)).1);clear T S Hrel C hX
  go_wp2_with (first
   |refine aj ek rfl (.tmp 20) rfl rfl cs hl1 (P.o _ K) ?_
   |(refine aA ek rfl (.tmp 8) (.tmp 21) rfl (cs:=cs.toArray) rfl rfl rfl qdU (fun u hu=>U.o.1 u qdL) HO.o.obj ?_;intro w1 i p;have f:=(HO.o.aQ i p).al lZ 35;have Y:=f.av.obj.lt;have J:=f.tail.az)
   |refine aj ek rfl (.tmp 24) rfl rfl d hl2 (O.o _ (HO.o.aQ i p).az) ?_
   |(refine aA ek rfl (.tmp 9) (.tmp 25) rfl (cs:=d.toArray) rfl rfl rfl qdT (fun u hu=>U.o.2 u qdL) f.obj ?_;intro w2 r s;have hO3:=f.aQ r s;have W:=hO3.av.obj.all;have V:=hO3.obj.all)
   |refine aj ek rfl (.tmp 8) rfl rfl cs hl1 W ?_
   |refine aj ek rfl (.tmp 9) rfl rfl d hl2 V ?_
   | (go_at_call 31;refine(B.o _ hO3.az).mono ?_;rintro e w3 ⟨rfl,hb3⟩))
  exact qg7
theorem cz5{α:Type}(A:Nat->Nat->α->Prop)(Rp:List Value->α->Prop)(v v':zV)(l l':List α)(m:Mem)(w:zW)(hm:m.az w)
(hA:∀b o x,A b o x->∃cs:List Value,cs.length=20/\(∀j u,cs[j]?=some u->m.cell b (o+j)=some u)/\(∀u∈cs,u.oneCell'=true)/\Rp cs x)
(hc:∀cs d x Q w',m.az w'->Rp cs x->Rp d Q->zC 108 #[.agg cs.toArray,.agg d.toArray] w' fun e Z=>e=.returned (.bool (tf (x=Q)))/\Below w'.heap.size w' Z)
(hl:Mem.slice A 20 v l)(e':Mem.slice A 20 v' l'):
 zX 107 #[v,v',.func (.func 108) #[] #[]] w (.bool (tf (l=l'))):=by
 obtain⟨a,c,rfl,h1,h2,h3⟩:=hl;obtain⟨a',c',rfl,B',f',N⟩:=e';unfold maxLen at h2 f';have HK:=zh (zi h3 N);have HA:=zh (zi hA hc);have HO:=zh (Own.start hm);clear h3 N hA hc;refine au fun R hR=>?_;by_cases g:l.length=l'.length
 case neg=>
  have d':((l.length:Int) != (l'.length:Int))=true:=by simp;omega
  have HL:=zh (show ¬l=l' from fun h=>g (by rw[h]));clear g
  go_enter func107,ntmps107
  exact qg8
 have d':((l.length:Int) != (l'.length:Int))=false:=by simp[g]
 have Hlen:=zh g;clear g
 go_enter func107,ntmps107
 go_wp2;refine aB [0,1,2,15,16,17] (fun n vs wr=>∃k:Nat,k<=l.length/\n=l.length-k/\vs=[.slice a l.length c,.slice a' l'.length c',.func (.func 108) #[] #[],.slice a l.length c,.j l.length,.j k]/\(l=l'↔l.drop k=l'.drop k)/\Own w m wr m []) ?_ ?_
 .exact qcK
 clear HO;rintro X z n vs wr hX-⟨k,hk,rfl,rfl,q,hO⟩;have Hrel:=zh q;clear q;simp[bz,lk];by_cases hlt:k<l.length
 case neg=>
  exact qgE
 have hlt':k<l'.length:=by rw[<-Hlen.o];exact hlt
 obtain⟨b,off,rfl,h4⟩:=HK.o.1 qdJ;obtain⟨b',j',rfl,M⟩:=HK.o.2 qdV;obtain⟨cs,hl1,y,I,G⟩:=HA.o.1 _ _ _ (h4 k hlt);obtain⟨d,hl2,t,H,F⟩:=HA.o.1 _ _ _ (M k hlt');have S:=zh qhV;have T:=zh (fun w' (h:m.az w')=>HA.o.2 cs d l[k] l'[k] w' h G F);have L:=hO.al RJ 82;have P:=zh (fun(w':zW) (h:m.az w') j u hj=>azk h (y j u hj));have O:=zh (fun(w':zW) (h:m.az w') j u hj=>azk h (t j u hj));have E:=y 0 (cs[0]'zo) (yH _);have D:=t 0 (d[0]'zo) (yH _);have r':=bzu hO.az E;have q':=bzu hO.az D;have U:=zh (zi I H);have K:=hO.az;have HO:=zh L;clear hO L h4 M y t I H G F E D;generalize l[k]=x at*
 generalize l'[k]=Q at*
 by_cases C:x=Q
 .have B:=zh (show ∀w',m.az w'->_ from fun w' h=>by have:=T.o w' h;rw[aN C]at this;exact this);have HL:=zh (Hrel.o.trans (S.o.trans ⟨fun h=>h.2,fun h=>⟨C,h⟩⟩));clear T S Hrel C
  go_wp2_with (first
   |refine aj tu rfl (.tmp 20) rfl rfl cs hl1 (P.o _ K) ?_
   |(refine aA tu rfl (.tmp 8) (.tmp 21) rfl (cs:=cs.toArray) rfl rfl rfl qdU (fun u hu=>U.o.1 u qdL) HO.o.obj ?_;intro w1 i p;have f:=(HO.o.aQ i p).al RJ 82;have Y:=f.av.obj.lt;have J:=f.tail.az)
   |refine aj tu rfl (.tmp 24) rfl rfl d hl2 (O.o _ (HO.o.aQ i p).az) ?_
   |(refine aA tu rfl (.tmp 9) (.tmp 25) rfl (cs:=d.toArray) rfl rfl rfl qdT (fun u hu=>U.o.2 u qdL) f.obj ?_;intro w2 r s;have hO3:=f.aQ r s;have W:=hO3.av.obj.all;have V:=hO3.obj.all)
   |refine aj tu rfl (.tmp 8) rfl rfl cs hl1 W ?_
   |refine aj tu rfl (.tmp 9) rfl rfl d hl2 V ?_
   | (go_at_call 108;refine(B.o _ hO3.az).mono ?_;rintro e w3 ⟨rfl,hb3⟩))
  exact qaI
 .have B:=zh (show ∀w',m.az w'->_ from fun w' h=>by have:=T.o w' h;rw[aG C]at this;exact this);have HL:=zh (show ¬l=l' from fun h=>C (S.o.1 (Hrel.o.1 h)).1);clear T S Hrel C hX
  go_wp2_with (first
   |refine aj tu rfl (.tmp 20) rfl rfl cs hl1 (P.o _ K) ?_
   |(refine aA tu rfl (.tmp 8) (.tmp 21) rfl (cs:=cs.toArray) rfl rfl rfl qdU (fun u hu=>U.o.1 u qdL) HO.o.obj ?_;intro w1 i p;have f:=(HO.o.aQ i p).al RJ 82;have Y:=f.av.obj.lt;have J:=f.tail.az)
   |refine aj tu rfl (.tmp 24) rfl rfl d hl2 (O.o _ (HO.o.aQ i p).az) ?_
   |(refine aA tu rfl (.tmp 9) (.tmp 25) rfl (cs:=d.toArray) rfl rfl rfl qdT (fun u hu=>U.o.2 u qdL) f.obj ?_;intro w2 r s;have hO3:=f.aQ r s;have W:=hO3.av.obj.all;have V:=hO3.obj.all)
   |refine aj tu rfl (.tmp 8) rfl rfl cs hl1 W ?_
   |refine aj tu rfl (.tmp 9) rfl rfl d hl2 V ?_
   | (go_at_call 108;refine(B.o _ hO3.az).mono ?_;rintro e w3 ⟨rfl,hb3⟩))
  exact qg7
theorem cz4{α:Type}(A:Nat->Nat->α->Prop)(Rp:List Value->α->Prop)(v v':zV)(l l':List α)(m:Mem)(w:zW)(hm:m.az w)
(hA:∀b o x,A b o x->∃cs:List Value,cs.length=19/\(∀j u,cs[j]?=some u->m.cell b (o+j)=some u)/\(∀u∈cs,u.oneCell'=true)/\Rp cs x)
(hc:∀cs d x Q w',m.az w'->Rp cs x->Rp d Q->zC 110 #[.agg cs.toArray,.agg d.toArray] w' fun e Z=>e=.returned (.bool (tf (x=Q)))/\Below w'.heap.size w' Z)
(hl:Mem.slice A 19 v l)(e':Mem.slice A 19 v' l'):
 zX 109 #[v,v',.func (.func 110) #[] #[]] w (.bool (tf (l=l'))):=by
 obtain⟨a,c,rfl,h1,h2,h3⟩:=hl;obtain⟨a',c',rfl,B',f',N⟩:=e';unfold maxLen at h2 f';have HK:=zh (zi h3 N);have HA:=zh (zi hA hc);have HO:=zh (Own.start hm);clear h3 N hA hc;refine au fun R hR=>?_;by_cases g:l.length=l'.length
 case neg=>
  have d':((l.length:Int) != (l'.length:Int))=true:=by simp;omega
  have HL:=zh (show ¬l=l' from fun h=>g (by rw[h]));clear g
  go_enter func109,ntmps109
  exact qg8
 have d':((l.length:Int) != (l'.length:Int))=false:=by simp[g]
 have Hlen:=zh g;clear g
 go_enter func109,ntmps109
 go_wp2;refine aB [0,1,2,15,16,17] (fun n vs wr=>∃k:Nat,k<=l.length/\n=l.length-k/\vs=[.slice a l.length c,.slice a' l'.length c',.func (.func 110) #[] #[],.slice a l.length c,.j l.length,.j k]/\(l=l'↔l.drop k=l'.drop k)/\Own w m wr m []) ?_ ?_
 .exact qcK
 clear HO;rintro X z n vs wr hX-⟨k,hk,rfl,rfl,q,hO⟩;have Hrel:=zh q;clear q;simp[bz,lk];by_cases hlt:k<l.length
 case neg=>
  exact qgE
 have hlt':k<l'.length:=by rw[<-Hlen.o];exact hlt
 obtain⟨b,off,rfl,h4⟩:=HK.o.1 qdJ;obtain⟨b',j',rfl,M⟩:=HK.o.2 qdV;obtain⟨cs,hl1,y,I,G⟩:=HA.o.1 _ _ _ (h4 k hlt);obtain⟨d,hl2,t,H,F⟩:=HA.o.1 _ _ _ (M k hlt');have S:=zh qhV;have T:=zh (fun w' (h:m.az w')=>HA.o.2 cs d l[k] l'[k] w' h G F);have L:=hO.al RF 68;have P:=zh (fun(w':zW) (h:m.az w') j u hj=>azk h (y j u hj));have O:=zh (fun(w':zW) (h:m.az w') j u hj=>azk h (t j u hj));have E:=y 0 (cs[0]'zo) (yH _);have D:=t 0 (d[0]'zo) (yH _);have r':=bzu hO.az E;have q':=bzu hO.az D;have U:=zh (zi I H);have K:=hO.az;have HO:=zh L;clear hO L h4 M y t I H G F E D;generalize l[k]=x at*
 generalize l'[k]=Q at*
 by_cases C:x=Q
 .have B:=zh (show ∀w',m.az w'->_ from fun w' h=>by have:=T.o w' h;rw[aN C]at this;exact this);have HL:=zh (Hrel.o.trans (S.o.trans ⟨fun h=>h.2,fun h=>⟨C,h⟩⟩));clear T S Hrel C
  go_wp2_with (first
   |refine aj qB rfl (.tmp 20) rfl rfl cs hl1 (P.o _ K) ?_
   |(refine aA qB rfl (.tmp 8) (.tmp 21) rfl (cs:=cs.toArray) rfl rfl rfl qdU (fun u hu=>U.o.1 u qdL) HO.o.obj ?_;intro w1 i p;have f:=(HO.o.aQ i p).al RF 68;have Y:=f.av.obj.lt;have J:=f.tail.az)
   |refine aj qB rfl (.tmp 24) rfl rfl d hl2 (O.o _ (HO.o.aQ i p).az) ?_
   |(refine aA qB rfl (.tmp 9) (.tmp 25) rfl (cs:=d.toArray) rfl rfl rfl qdT (fun u hu=>U.o.2 u qdL) f.obj ?_;intro w2 r s;have hO3:=f.aQ r s;have W:=hO3.av.obj.all;have V:=hO3.obj.all)
   |refine aj qB rfl (.tmp 8) rfl rfl cs hl1 W ?_
   |refine aj qB rfl (.tmp 9) rfl rfl d hl2 V ?_
   | (go_at_call 110;refine(B.o _ hO3.az).mono ?_;rintro e w3 ⟨rfl,hb3⟩))
  exact qaI
 .have B:=zh (show ∀w',m.az w'->_ from fun w' h=>by have:=T.o w' h;rw[aG C]at this;exact this);have HL:=zh (show ¬l=l' from fun h=>C (S.o.1 (Hrel.o.1 h)).1);clear T S Hrel C hX
  go_wp2_with (first
   |refine aj qB rfl (.tmp 20) rfl rfl cs hl1 (P.o _ K) ?_
   |(refine aA qB rfl (.tmp 8) (.tmp 21) rfl (cs:=cs.toArray) rfl rfl rfl qdU (fun u hu=>U.o.1 u qdL) HO.o.obj ?_;intro w1 i p;have f:=(HO.o.aQ i p).al RF 68;have Y:=f.av.obj.lt;have J:=f.tail.az)
   |refine aj qB rfl (.tmp 24) rfl rfl d hl2 (O.o _ (HO.o.aQ i p).az) ?_
   |(refine aA qB rfl (.tmp 9) (.tmp 25) rfl (cs:=d.toArray) rfl rfl rfl qdT (fun u hu=>U.o.2 u qdL) f.obj ?_;intro w2 r s;have hO3:=f.aQ r s;have W:=hO3.av.obj.all;have V:=hO3.obj.all)
   |refine aj qB rfl (.tmp 8) rfl rfl cs hl1 W ?_
   |refine aj qB rfl (.tmp 9) rfl rfl d hl2 V ?_
   | (go_at_call 110;refine(B.o _ hO3.az).mono ?_;rintro e w3 ⟨rfl,hb3⟩))
  exact qg7
theorem Ro{a b:ByteArray}(h:a=b):(a.toList==b.toList)=true:=by rw[h];simp
theorem Rs{a b:ByteArray}(h:¬a=b):(a.toList==b.toList)=false:=by
 rw[xE,xE];exact zO.2 fun e=>h (OB e)
def Bl(n:Nat):Prop:=∀(v v':Vl) (s a:Sl) (m:Mem) (w:zW),m.az w->aY m n s v->aY m n a v'->di n v<=1048576->di n v'<=1048576->zX 47 #[v.val s,v'.val a] w (.bool (tf (v=v')))
def jg(n:Nat)(d:Vd):Prop:=di n d.1<=1048576/\di n d.2<=1048576
theorem fw{α:Type}{A:Nat->Nat->α->Prop}{P:α->Prop}{size:Nat}{v:zV}{l:List α}(h:Mem.slice A size v l)(f:∀x∈l,P x):Mem.slice (fun b o x=>A b o x/\P x) size v l:=by
 obtain⟨a,c,e,m,k,j⟩:=h;refine⟨a,c,e,m,k,fun d=>?_⟩;obtain⟨b,off,n,g⟩:=j d;exact⟨b,off,n,fun i hi=>⟨g i hi,f _ (zF hi)⟩⟩
theorem pg{n:Nat}(H:Bl n)(d d':Vd)(x y x' y':Sl)(m:Mem)(w:zW)(S:m.az w)(K:aY m n x d.1)(J:aY m n y d.2)(q:aY m n x' d'.1)(p:aY m n y' d'.2)(G:jg n d)(i:jg n d'):
 zX 31 #[bQ d x y,bQ d' x' y'] w (.bool (tf (d=d'))):=by
 have z:=((Own.start S).al (dw d x y).toArray 35).al (dw d' x' y').toArray 35;simp only[bB]at z;have v:=zh (H d.1 d'.1 x x' m _ z.az K q G.1 i.1);have M:=zh (fun w' (h:m.az w')=>H d.2 d'.2 y y' m w' h J p G.2 i.2);have I:(aZ d.1 x).length=9:=rfl;have C:(aZ d.2 y).length=9:=rfl;have l:(aZ d'.1 x').length=9:=rfl;have k:(aZ d'.2 y').length=9:=rfl;have O:=zh qhN;have t:=zh qh5;have s:=zh (show d=d'↔d.1=d'.1/\d.2=d'.2 from Prod.ext_iff);have HO:=zh z;unfold Vl.val bQ at*
 generalize aZ d.1 x=N at*
 generalize aZ d.2 y=L at*
 generalize dw d x y=D at*
 generalize aZ d'.1 x'=N' at*
 generalize aZ d'.2 y'=r at*
 generalize dw d' x' y'=U at*
 clear z K J q p;have F:=HO.o.av.obj.sub (o:=0) (cs:=N) fun j u b=>by simpa using O.o.1 j u b
 have g:=HO.o.obj.sub (o:=0) (cs:=N') fun j u b=>by simpa using t.o.1 j u b
 refine au fun R hR=>?_
 go_enter func31,ntmps31
 by_cases f:d.1=d'.1
 case neg=>
  have c:=v.o;rw[aG f]at c;have v:=zh c;have HX:=zh (show ¬d=d' from fun h=>f (s.o.1 h).1);clear c M f s
  go_wp2_with (first|refine aj jI rfl (.tmp 5) rfl rfl N I F ?_|refine aj jI rfl (.tmp 7) rfl rfl N' l g ?_|(go_at_call 47;refine v.o.mono ?_;rintro e P ⟨rfl,hb1⟩))
  exact qhz
 have c:=v.o;rw[aN f]at c;have E:=zh c;have HX:=zh (dY (show d.2=d'.2↔d=d' from⟨fun h=>s.o.2 ⟨f,h⟩,fun h=>(s.o.1 h).2⟩));clear c v f s;generalize tf (d.2=d'.2)=ts at*
 go_wp2_with (first
  |refine aj jI rfl (.tmp 5) rfl rfl N I F ?_
  |refine aj jI rfl (.tmp 7) rfl rfl N' l g ?_
  |refine aj jI rfl (.tmp 11) rfl rfl L C Q ?_
  |refine aj jI rfl (.tmp 13) rfl rfl r k A ?_
  | (go_at_call 47;first
   |(refine(M.o _ a.az).mono ?_;rintro e T ⟨rfl,B⟩)
   | (refine E.o.mono ?_;rintro e P ⟨rfl,hb1⟩;have a:=HO.o.aT hb1;have Q:=a.av.obj.sub (o:=9) (cs:=L) (fun j u b=>by simpa using O.o.2 j u b);have A:=a.obj.sub (o:=9) (cs:=r) (fun j u b=>by simpa using t.o.2 j u b))))
 exact hR.o _ _ ⟨aP qex,(a.aT B).aF⟩
theorem dzA{c:St}{f:Fd}(h:f∈c.1):f.2∈bJ c:=yP.2 (.inl (yD.2 ⟨f,h,rfl⟩))
theorem dzz{c:St}{f:Kl}(h:f∈c.2):f.2∈bJ c:=yP.2 (.inr (yD.2 ⟨f,h,rfl⟩))
theorem XY{n:Nat}(H:Bl n)(v v':zV)(l l':List Vd)(m:Mem)(w:zW)(B:m.az w)(h:bD (aY m n) m v l)(C:bD (aY m n) m v' l')(t:∀d∈l,jg n d)(c:∀d∈l',jg n d):
 zX 67 #[v,v',.func (.func 31) #[] #[]] w (.bool (tf (l=l'))):=
 cz3 (fun b o d=>AJ (aY m n) m b o d/\jg n d) (fun cs d=>(∃x y,cs=dw d x y/\aY m n x d.1/\aY m n y d.2)/\jg n d) v v' l l' m w B
  (fun b o d p=>by obtain⟨x,y,k,a,q⟩:=p.1.cells;exact⟨_,rfl,k,fG a q,⟨x,y,rfl,a,q⟩,p.2⟩)
  (fun cs E d D w' j k a=>by
   obtain⟨⟨x,y,rfl,A,z⟩,u⟩:=k;obtain⟨⟨s,r,rfl,i,g⟩,f⟩:=a;exact pg H d D x y s r m w' j A z i g u f) (fw h t) (fw C c)
theorem WY{n:Nat}(H:Bl n)(f a:Fd)(x y d c:Sl)(m:Mem)(w:zW)(K:m.az w)(I:aY m n x f.2.1)(G:aY m n y f.2.2)(r:aY m n d a.2.1)(q:aY m n c a.2.2)(J:jg n f.2)(t:jg n a.2):
 zX 108 #[.agg (qx f x y).toArray,.agg (qx a d c).toArray] w (.bool (tf (f=a))):=by
 have b:=((Own.start K).al (qx f x y).toArray 82).al (qx a d c).toArray 82;simp only[bB]at b;have F:=zh (fun w' (h:m.az w')=>pg H f.2 a.2 x y d c m w' h I G r q J t);have M:(dw f.2 x y).length=18:=rfl;have E:(dw a.2 d c).length=18:=rfl;have T:=b.av.obj.cell (i:=0) (v:=.string f.1.1) rfl;have S:=b.av.obj.cell (i:=1) (v:=.j f.1.2) rfl;have P:=b.obj.cell (i:=0) (v:=.string a.1.1) rfl;have O:=b.obj.cell (i:=1) (v:=.j a.1.2) rfl;have s:=b.av.obj.sub (o:=2) (cs:=dw f.2 x y) fun j u z=>by simpa using qw z
 have g:=b.obj.sub (o:=2) (cs:=dw a.2 d c) fun j u z=>by simpa using qw z
 have l:=zh (show f=a↔f.1.1=a.1.1/\f.1.2=a.1.2/\f.2=a.2 from⟨fun h=>by rw[h];exact⟨rfl,rfl,rfl⟩,fun h=>Prod.ext (Prod.ext h.1 h.2.1) h.2.2⟩);have HO:=zh b;have A:=b.az;unfold bQ at*
 generalize dw f.2 x y=N at*
 generalize dw a.2 d c=N' at*
 generalize qx f x y=D at*
 generalize qx a d c=U at*
 clear b I G r q;refine au fun R hR=>?_
 go_enter func108,ntmps108
 by_cases k:f.1.1=a.1.1
 case neg=>
  have HX:=zh (show ¬f=a from fun h=>k (l.o.1 h).1);have L:(f.1.1.toList==a.1.1.toList)=false:=Rs k;clear l F k s g;exact qhD
 have L:(f.1.1.toList==a.1.1.toList)=true:=Ro k;by_cases p:f.1.2=a.1.2
 case neg=>
  have HX:=zh (show ¬f=a from fun h=>p (l.o.1 h).2.1);have B:(f.1.2==a.1.2)=false:=zO.2 p;clear l F k p s g;exact qhD
 have B:(f.1.2==a.1.2)=true:=beq_iff_eq.2 p;have HX:=zh (dY (show f.2=a.2↔f=a from⟨fun h=>l.o.2 ⟨k,p,h⟩,fun h=>(l.o.1 h).2.2⟩));clear k p l;generalize tf (f.2=a.2)=ts at*
 go_wp2_with (first
  |refine aj ek rfl (.tmp 18) rfl rfl N M s ?_
  |refine aj ek rfl (.tmp 20) rfl rfl N' E g ?_
  | (go_at_call 31;refine(F.o _ A).mono ?_;rintro e Q ⟨rfl,C⟩))
 exact hR.o _ _ ⟨aP qex,(HO.o.aT C).aF⟩
theorem azF{n:Nat}(H:Bl n)(v v':zV)(l l':List Fd)(m:Mem)(w:zW)(B:m.az w)(h:gG (aY m n) m v l)(C:gG (aY m n) m v' l')(t:∀d∈l,jg n d.2)(c:∀d∈l',jg n d.2):
 zX 107 #[v,v',.func (.func 108) #[] #[]] w (.bool (tf (l=l'))):=
 cz5 (fun b o d=>JJ (aY m n) m b o d/\jg n d.2) (fun cs d=>(∃x y,cs=qx d x y/\aY m n x d.2.1/\aY m n y d.2.2)/\jg n d.2) v v' l l' m w B
  (fun b o d p=>by obtain⟨x,y,k,a,q⟩:=p.1.cells;exact⟨_,rfl,k,mM a q,⟨x,y,rfl,a,q⟩,p.2⟩)
  (fun cs E d D w' j k a=>by
   obtain⟨⟨x,y,rfl,A,z⟩,u⟩:=k;obtain⟨⟨s,r,rfl,i,g⟩,f⟩:=a;exact WY H d D x y s r m w' j A z i g u f) (fw h t) (fw C c)
theorem WX{n:Nat}(H:Bl n)(f a:Kl)(c q:zV)(x y d b:Sl)(m:Mem)(w:zW)(W:m.az w)(K:aV m c f.1)(r:aV m q a.1)(M:aY m n x f.2.1)(L:aY m n y f.2.2)(t:aY m n d a.2.1)(s:aY m n b a.2.2)(V:jg n f.2)(E:jg n a.2):
 zX 110 #[.agg (nE f c x y).toArray,.agg (nE a q d b).toArray] w (.bool (tf (f=a))):=by
 have l:=((Own.start W).al (nE f c x y).toArray 68).al (nE a q d b).toArray 68;simp only[bB]at l;have z:=zh (BV c q f.1 a.1 m _ l.az K r);have P:=zh (fun w' (h:m.az w')=>pg H f.2 a.2 x y d b m w' h M L t s V E);have X:(dw f.2 x y).length=18:=rfl;have I:(dw a.2 d b).length=18:=rfl;have c0:=l.av.obj.cell (i:=0) (v:=c) rfl;have Y:=l.obj.cell (i:=0) (v:=q) rfl;have O:=zh (fun(w':zW) (h:bg w' w.heap.size 68 (nE f c x y).toArray)=>h.sub (o:=1) (cs:=dw f.2 x y) fun j u F=>by simpa using kQ F);have A:=zh (fun(w':zW) (h:bg w' (w.heap.size+1) 68 (nE a q d b).toArray)=>h.sub (o:=1) (cs:=dw a.2 d b) fun j u F=>by simpa using kQ F);have B:=zh (show f=a↔f.1=a.1/\f.2=a.2 from Prod.ext_iff);have HO:=zh l;obtain⟨ta,tc,rfl,-⟩:=K;obtain⟨T,S,rfl,-⟩:=r;unfold bQ at*
 generalize dw f.2 x y=N at*
 generalize dw a.2 d b=N' at*
 generalize nE f _ x y=D at*
 generalize nE a _ d b=D' at*
 clear l M L t s;refine au fun R hR=>?_
 go_enter func110,ntmps110
 by_cases p:f.1=a.1
 case neg=>
  have k:=z.o;rw[aG p]at k;have z:=zh k;have HX:=zh (show ¬f=a from fun h=>p (B.o.1 h).1);clear B P p O A k
  go_wp2_with (go_at_call 105;refine z.o.mono ?_;rintro e Q ⟨rfl,hb2⟩)
  exact qhy
 have k:=z.o;rw[aN p]at k;have J:=zh k;have HX:=zh (dY (show f.2=a.2↔f=a from⟨fun h=>B.o.2 ⟨p,h⟩,fun h=>(B.o.1 h).2⟩));clear p B z k;generalize tf (f.2=a.2)=ts at*
 go_wp2_with (first
  |(go_at_call 105;refine J.o.mono ?_;rintro e Q ⟨rfl,hb2⟩;have g:=HO.o.aT hb2;have U:=O.o _ g.av.obj;have C:=A.o _ g.obj)
  |refine aj ek rfl (.tmp 11) rfl rfl N X U ?_
  |refine aj ek rfl (.tmp 13) rfl rfl N' I C ?_
  | (go_at_call 31;refine(P.o _ g.az).mono ?_;rintro e Z ⟨rfl,G⟩))
 exact hR.o _ _ ⟨aP qex,(g.aT G).aF⟩
theorem azE{n:Nat}(H:Bl n)(v v':zV)(l l':List Kl)(m:Mem)(w:zW)(F:m.az w)(h:gM (aY m n) m v l)(G:gM (aY m n) m v' l')(A:∀d∈l,jg n d.2)(f:∀d∈l',jg n d.2):
 zX 109 #[v,v',.func (.func 110) #[] #[]] w (.bool (tf (l=l'))):=
 cz4 (fun b o d=>Km (aY m n) m b o d/\jg n d.2) (fun cs d=>(∃c x y,cs=nE d c x y/\aV m c d.1/\aY m n x d.2.1/\aY m n y d.2.2)/\jg n d.2) v v' l l' m w F
  (fun b o d r=>by obtain⟨c,x,y,t,q,a,s⟩:=r.1.cells;exact⟨_,rfl,q,mK t a s,⟨c,x,y,rfl,t,a,s⟩,r.2⟩)
  (fun cs J d I w' p q a=>by
   obtain⟨⟨c,x,y,rfl,E,D,C⟩,B⟩:=q;obtain⟨⟨K,z,u,rfl,k,j,i⟩,g⟩:=a;exact WX H d I c K x y z u m w' p E k D C j i B g) (fw h A) (fw G f)
theorem Sq{n:Nat}(H:Bl n)(c a:St)(u t v s:zV)(m:Mem)(w:zW)(F:m.az w)(C:gG (aY m n) m u c.1)(B:gM (aY m n) m t c.2)(p:gG (aY m n) m v a.1)(l:gM (aY m n) m s a.2)(A:∀d∈bJ c,jg n d)(k:∀d∈bJ a,jg n d):
 zX 69 #[.agg #[u,t],.agg #[v,s]] w (.bool (tf (c=a))):=by
 have x:=((Own.start F).al #[u,t] 62).al #[v,s] 62;simp only[bB]at x;have q:=zh (azF H u v c.1 a.1 m _ x.az C p (fun f i=>A _ (dzA i)) (fun f i=>k _ (dzA i)));have D:=zh (fun w' (h:m.az w')=>azE H t s c.2 a.2 m w' h B l (fun f i=>A _ (dzz i)) (fun f i=>k _ (dzz i)));have r:=zh (show c=a↔c.1=a.1/\c.2=a.2 from Prod.ext_iff);have HO:=zh x;obtain⟨Y,U,rfl,-⟩:=C;obtain⟨X,T,rfl,-⟩:=B;obtain⟨W,S,rfl,-⟩:=p;obtain⟨V,Q,rfl,-⟩:=l;clear x;refine au fun R hR=>?_
 go_enter func69,ntmps69
 by_cases j:c.1=a.1
 case neg=>
  have g:=q.o;rw[aG j]at g;have q:=zh g;have HX:=zh (show ¬c=a from fun h=>j (r.o.1 h).1);clear r D j g
  go_wp2_with (go_at_call 107;refine q.o.mono ?_;rintro e E ⟨rfl,hb2⟩)
  exact qhy
 have g:=q.o;rw[aN j]at g;have z:=zh g;have HX:=zh (dY (show c.2=a.2↔c=a from⟨fun h=>r.o.2 ⟨j,h⟩,fun h=>(r.o.1 h).2⟩));clear j r q g;generalize tf (c.2=a.2)=ts at*
 generalize c.1.length=P at*
 generalize c.2.length=O at*
 generalize a.1.length=N at*
 generalize a.2.length=M at*
 go_wp2_with (first
  |(go_at_call 107;refine z.o.mono ?_;rintro e E ⟨rfl,hb2⟩;have b:=HO.o.aT hb2;have K:=b.obj.c 1;have J:=b.av.obj.c 1;have I:=b.obj.lt;have G:=b.av.obj.lt)
  | (go_at_call 109;refine(D.o _ b.az).mono ?_;rintro e L ⟨rfl,y⟩))
 exact hR.o _ _ ⟨aP qex,(b.aT y).aF⟩
noncomputable def Dp(s:ByteArray)(l:aK):Bool:=tf (WF l)&&aH l 0 s.data.toList
theorem Kj(v0:zV)(l:aK)(s:ByteArray)(m:Mem)(w:zW)(hm:m.az w)(hl:aV m v0 l)(hs:s.size<=maxLen):
 zX 113 #[.agg #[v0],.string s] w (.bool (Dp s l)):=by
 unfold Dp;have G:=hl;obtain⟨a,c,rfl,h1,h2,h3⟩:=hl;unfold maxLen at h2 hs;have d:=(Own.start hm).al #[.slice a l.length c] 27;have M:=zh (wh (.slice a l.length c) l m _ d.az G);have HO:=zh d;have HK:=zh h3;have T:=d.az;clear d h3 G;refine au fun R hR=>?_
 go_enter func113,ntmps113
 go_wp2
 go_step3
 by_cases h0:l.length=0
 .have H:((l.length:Int)==0)=true:=by simp[h0]
  have HX:=zh (show(tf (WF l)&&aH l 0 s.data.toList)=false by rw[jZ l 0 _ zo,Bool.and_false]);clear h0 M;go_wp2;exact qhi
 have H:((l.length:Int)==0)=false:=zO.2 zo;have A:=M.o;by_cases f:WF l
 case neg=>
  rw[aG f]at A;have r:=zh A;have HX:=zh (show(tf (WF l)&&aH l 0 s.data.toList)=false by rw[aG f,Bool.false_and]);clear A M f h0
  go_wp2_with (go_at_call 152;refine r.o.mono ?_;rintro e w1 ⟨rfl,q⟩)
  exact hR.o _ _ ⟨aP qex,(HO.o.aT q).aF⟩
 rw[aN f]at A;have r:=zh A;have HX:=zh (show(tf (WF l)&&aH l 0 s.data.toList)=aH l 0 s.data.toList by rw[aN f,Bool.true_and]);have W:=zh f;clear A M f
 go_wp2_with (go_at_call 152;refine r.o.mono ?_;rintro e w1 ⟨rfl,q⟩)
 have I:=zh (HO.o.aT q);clear HO q r T
 go_step3
 go_wp2;refine aB [1,2,5,20,21] (fun n E D=>∃(k x:Nat),k<=s.size/\x<l.length/\n=s.size-k/\E=[.string s,.p w.heap.size,.j x,.j s.size,.j k]/\aH l 0 s.data.toList=aH l x (s.data.toList.drop k) /\
  Own w m D m [.obj w.heap.size 27 #[.slice a l.length c]]) ?_ ?_
 .exact⟨_,0,0,zG _,zo,rfl,rfl,rfl,I.o⟩
 clear I;rintro X z n E D U-⟨k,x,hk,L,rfl,rfl,v,d⟩;simp[bz,lk];have g1:=d.obj.c 0;have g2:=d.obj.lt;obtain⟨b,off,rfl,V⟩:=HK.o qeC;obtain⟨K,ve,J,se⟩:=V x L;have N:=zh v;clear v;by_cases hlt:k<s.size
 case neg=>
  have x1:=azk d.az K;have xl:=bzu d.az K;have HA2:=zh (show aH l 0 s.data.toList=l[x].bW by
   rw[N.o,zQ qdQ,aH,lY l x L])
  have HB:=zh d.aF;generalize l[x].bW=ac at*
  clear d N V K J se U;exact qhE
 have i:aH l 0 s.data.toList=aH l (bH (l[x]).bu (s[k]).toNat) (s.data.toList.drop (k+1)):=by
  rw[N.o,yE qeW,aH];have e:(s.data.toList[k]'qeW)=s[k]:=rfl;rw[e,iW l x _ L]
 have y:=zh i;have Z:=zh (fun e (he:e∈(l[x]).bu)=>jl (W.o _ (zF L)) e he);have x2:=azk d.az J;have xl:=bzu d.az J;obtain⟨ea,ec,rfl,e1,e2,e3⟩:=se;unfold maxLen at e2;have a':=zh e3;have HO:=zh d;have t':=(s[k]).toNat_lt;generalize (l[x]).bu=es at*
 clear d i V K J e3 N;go_wp2;refine aB [1,2,5,6,20,21,29,30,31] (fun n E D=>∃(j:Nat),j<=es.length/\n=es.length-j/\E=[.string s,.p w.heap.size,.j x,.j k,.j s.size,.j k,.slice ea es.length ec,.j es.length,.j j]/\bH es (s[k]).toNat=bH (es.drop j) (s[k]).toNat /\
  Own w m D m [.obj w.heap.size 27 #[.slice (some ⟨b,off,none⟩) l.length c]]) ?_ ?_
 .exact qbs
 clear HO x2 xl g1 g2;rintro Y z n E D hY-⟨j,hj,rfl,rfl,u,d⟩;simp[bz,lk];have g:=zh u;clear u;by_cases p:j<es.length
 case neg=>
  have HA2:=zh (show aH l 0 s.data.toList=false by
   rw[y.o,g.o,zQ zo];exact gL (by simp[bH]) _)
  have HB:=zh d.aF;clear d U hY;exact qhE
 obtain⟨b',i',rfl,h5⟩:=a'.o (by intro h;simp[h]at p);obtain⟨O,y2,y3,-⟩:=h5 j p;have d1:=azk d.az O;have d2:=azk d.az y2;have d3:=azk d.az y3;have dl:=bzu d.az O;have C:=zh (I7 es (s[k]).toNat j p);have F:=Z.o es[j] (zF p);have HO:=zh (d.al #[.int .u8 (es[j]).lo,.int .u8 (es[j]).hi,.int .i64 (es[j]).to] 102);generalize es[j]=e at*
 obtain⟨-,-,P,p'⟩:=F;obtain⟨tn,t⟩:=zT P;clear d h5 O y2 y3;rw[t]at d3 HO;generalize u':(s[k]).toNat=B at*
 by_cases S:e.lo<=B
 .by_cases Q:B<=e.hi
  .have HA2:=zh (show aH l 0 s.data.toList=aH l (tn:Int) (s.data.toList.drop (k+1))by rw[y.o,g.o,C.o,zK ⟨S,Q⟩,t]);clear g C y hY;go_wp2
   go_quiet (fail)
   go_wp2;exact U.o _ _ _ zo rfl ⟨k+1,tn,zo,zo,rfl,rfl,HA2.o,(HO.o.FN _).tail⟩
  .have HA2:=zh (show bH es B=bH (es.drop (j+1)) B by rw[g.o,C.o,zJ zo]);clear g C;go_wp2
   go_quiet (fail)
   exact qho
 .have HA2:=zh (show bH es B=bH (es.drop (j+1)) B by rw[g.o,C.o,zJ zo]);clear g C;go_wp2
  go_quiet (fail)
  exact qho
theorem kF{P:Program}{t:TypeId}{n:Nat}{w:zW}{o:Oper}{a:Act}{K:Act->World->Prop}{Q:Exit->Act->World->Prop}(S:og P t n)(p v:Operand)(d:o.op=Op.store t p v){g:Nat}{T:TypeId}{b cs:Array Value}(i:a.eval p=.p g)(h:a.eval v=.agg cs)(f:b.size=n)(j:cs.size=n)(l:∀u∈cs.toList,u.oneCell'=true)(e:bg w g T b)
(k:∀w',bg w' g T cs->w.grownBy w' (some g)->K (a.put o.dst undef) w'):o.wp P a w K Q:=by
 have c:=run_storeCells_from (P:=P) g T cs.toList 0 b w e.get qdQ l;simp only[List.take_zero,xN,Array.toArray_toList]at c;unfold Oper.wp;simp[execOp,d,i,h,Instr.storeAt,Instr.sureAddr,storeVar,S.size,Value.cells,j,c,Result.andThen];exact k _ ⟨setRow_heap w g b cs T (0,0) e.get⟩ (grownBy_setRow' e.get)
theorem YZ{acc:aK->Bool}{c:St}{s:ByteArray}{i:Nat}(hi:i<c.1.length)(h:∀j (b:j<c.1.length),j<i->¬c.1[j].1.1=s)(e:c.1[i].1.1=s):qJ acc c s=(c.1[i].2,c.1[i].1.2):=by
 unfold qJ;rw[NZ i hi (fun j b a=>zM (h j b a)) (zN e)]
theorem YY{acc:aK->Bool}{c:St}{s:ByteArray}{i:Nat}(d:∀j (a:j<c.1.length),¬c.1[j].1.1=s)(hi:i<c.2.length)(h:∀j (a:j<c.2.length),j<i->acc c.2[j].1=false)(e:acc c.2[i].1=true):qJ acc c s=(c.2[i].2,3):=by
 unfold qJ;rw[Et (p:=fun f:Fd=>decide (f.1.1=s)) (fun j a=>zM (d j a)),NZ (p:=fun k:Kl=>acc k.1) i hi (fun j a b=>h j a b) e]
theorem YX{acc:aK->Bool}{c:St}{s:ByteArray}(b:∀j (a:j<c.1.length),¬c.1[j].1.1=s)(h:∀j (a:j<c.2.length),acc c.2[j].1=false):qJ acc c s=((dn,dn),3):=by
 unfold qJ;rw[Et (p:=fun f:Fd=>decide (f.1.1=s)) (fun j a=>zM (b j a)),Et (p:=fun k:Kl=>acc k.1) (fun j a=>h j a)]
def Rv(m:Mem)(n:Nat)(r:Vd×Int)(e:Ending):Prop:=∃x y,e=.returned (.tuple #[bQ r.1 x y,.int .i64 r.2])/\aY m (n+1) x r.1.1/\aY m (n+1) y r.1.2
theorem ER(u u2:zV)(c:St)(s:ByteArray)(m:Mem)(n:Nat)(w:zW)(hm:m.az w)(h1:gG (aY m n) m u c.1)(h2:gM (aY m n) m u2 c.2)(hs:s.size<=maxLen):
 zC 75 #[.agg #[u,u2],.string s] w fun e w'=>Rv m n (qJ (Dp s) c s) e/\zB w w':=by
 obtain⟨a1,c1,rfl,p1,q1,k1⟩:=h1;obtain⟨a2,c2,rfl,p2,q2,k2⟩:=h2;unfold maxLen at q1 q2;have HK:=zh (zi k1 k2);have f:=zh (((Own.start hm).al #[.slice a1 c.1.length c1,.slice a2 c.2.length c2] 62).al lZ 35);have x':=zh hs;clear k1 k2 hs;refine au fun R hR=>?_
 go_enter func75,ntmps75
 go_wp2;refine aB [1,2,4,12,11,13] (fun q J V=>∃(i:Nat),i<=c.1.length/\q=c.1.length-i/\J=[.string s,.p w.heap.size,.p (w.heap.size+1),.j (c.1.length:Int),.slice a1 c.1.length c1,.j (i:Int)]/\(∀j (d:j<c.1.length),j<i->¬c.1[j].1.1=s) /\
  Own w m V m [.obj (w.heap.size+1) 35 lZ,.obj w.heap.size 62 #[.slice a1 c.1.length c1,.slice a2 c.2.length c2]]) ?_ ?_
 .exact⟨_,0,zG _,rfl,rfl,fun j d h=>absurd h (xY _),by simpa only[bB]using f.o⟩
 clear f;rintro X z q J V Z-⟨i,hi,rfl,rfl,hA,r⟩;simp[bz,lk];have I:=zh hA;clear hA;by_cases hlt:i<c.1.length
 .obtain⟨b,off,rfl,h4⟩:=HK.o.1 qdJ;obtain⟨x,y,M,G,F⟩:=(h4 i hlt).cells;have hl:(qx c.1[i] x y).length=20:=rfl;have hl2:(dw (c.1[i]).2 x y).length=18:=rfl;have B:=mM G F;have Q:=fG G F;have HC:=zh (fun(w':zW) (h:m.az w') j u d=>azk h (M j u d));have q':=bzu r.az (M 0 _ rfl);have H0:(qx c.1[i] x y).toArray[0]?=some (.string c.1[i].1.1):=rfl;have H1:(qx c.1[i] x y).toArray[1]?=some (.j c.1[i].1.2):=rfl;have S:=zh (fun(w':zW) (g:Nat) (h:bg w' g 82 (qx c.1[i] x y).toArray)=>h.sub (o:=2) (cs:=dw (c.1[i]).2 x y) fun j u d=>by simpa using qw d);have C:=zh (show c.1[i].1.1=s->Rv m n (qJ (Dp s) c s) (.returned (.tuple #[bQ (c.1[i]).2 x y,.int .i64 c.1[i].1.2])) from fun e=>by
   rw[YZ hlt I.o e];exact⟨x,y,rfl,G.succ,F.succ⟩)
  have t:=zh (show ¬c.1[i].1.1=s->∀j (d:j<c.1.length),j<i+1->¬c.1[j].1.1=s from fun h j d h3=>by
   by_cases e:j=i
   .exact qbR
   .exact I.o j d zo)
  have f:=zh (r.al RJ 82);unfold bQ at C;generalize dw (c.1[i]).2 x y=D at*
  generalize qx c.1[i] x y=N at*
  generalize c.1[i].1.1=K at*
  generalize c.1[i].1.2=pr at*
  have A:=r.az;clear r h4 M G F;by_cases W:K=s
  .have hd:(K.toList==s.toList)=true:=Ro W;have T:=zh (C.o W);clear C t W
   go_upto_region 5 with(first
    |refine aj tu rfl (.tmp 15) rfl rfl N hl (HC.o _ A) ?_
    | (refine aA tu rfl (.tmp 7) (.tmp 16) rfl (cs:=N.toArray) rfl rfl rfl qdR (fun u hu=>B u qdL) f.o.obj ?_;intro w1 l p;have a:=f.o.aQ l p;have y0:=a.obj.cell H0;have y1:=a.obj.lt))
   refine aW [4,5] (fun J w'=>J=[.p (w.heap.size+1),.j pr]/\Own w m w' m [.obj (w.heap.size+1) 35 D.toArray]) ?_ ?_
   .intro Y hY;refine jX (fun w'=>bg w' V.heap.size 82 N.toArray) 5 zk ?_;have k:=a.dr;have hS:=k.obj;refine aL 0 rfl zk qe7 hS qfj ?_;refine aL 1 rfl zk qe7 hS (ax rfl fun w' hS'=>ek.exec rfl zg hl2 (S.o w' _ hS')) ?_;refine aL 2 rfl zk qe7 hS qgc ?_;refine aL 3 rfl zk qe7 hS qgc ?_;refine bG 4 zk (aM rfl rfl (kF ek (.tmp 4) (.tmp 22) rfl (cs:=D.toArray) zg zg rfl qdT (fun u hu=>Q u qdL) k.av.obj fun w2 m' p'=>?_));have H:=k.av.aQ m' p';refine pX H.av.obj fun N'=>?_;go_simp;refine bG 5 zk (aM rfl rfl (aS qdK (sw rfl ?_)));refine jY zk ?_ _;exact hY.o _ _ rfl ⟨rfl,H.bM.bM⟩
   rintro z1 J w3-⟨rfl,P⟩;simp[bz,lk];have hr:=ek.load hl2 P.obj.all;have HB:=zh P.aF;clear P;go_wp2;refine yV (v:=.tuple #[.agg D.toArray,.int .i64 pr]) (dz results75 rfl hr) rfl ?_;exact hR.o _ _ ⟨T.o,HB.o⟩
  .have hd:(K.toList==s.toList)=false:=Rs W;have E:=zh (t.o W);clear C t W
   go_wp2_with (first
    |refine aj tu rfl (.tmp 15) rfl rfl N hl (HC.o _ A) ?_
    | (refine aA tu rfl (.tmp 7) (.tmp 16) rfl (cs:=N.toArray) rfl rfl rfl qdR (fun u hu=>B u qdL) f.o.obj ?_;intro w1 l p;have a:=f.o.aQ l p;have y0:=a.obj.cell H0;have y1:=a.obj.lt))
   exact Z.o _ _ _ zo rfl ⟨i+1,zo,rfl,rfl,E.o,a.tail⟩
 obtain rfl:i=c.1.length:=zo;have U:=zh (fun j (d:j<c.1.length)=>I.o j d d);have g1:=r.av.obj.c 1;have g2:=r.av.obj.lt;have f:=zh r;clear r Z I;go_wp2;refine aB [1,4,28,27,29] (fun q J V=>∃(i:Nat),i<=c.2.length/\q=c.2.length-i/\J=[.string s,.p (w.heap.size+1),.j (c.2.length:Int),.slice a2 c.2.length c2,.j (i:Int)]/\(∀j (d:j<c.2.length),j<i->Dp s c.2[j].1=false) /\
  Own w m V m [.obj (w.heap.size+1) 35 lZ]) ?_ ?_
 .exact⟨_,0,zG _,rfl,rfl,fun j d h=>absurd h (xY _),f.o.bM⟩
 clear f g1 g2;rintro X z q J V Z-⟨i,hi,rfl,rfl,hA,r⟩;simp[bz,lk];have I:=zh hA;clear hA;by_cases hlt:i<c.2.length
 .obtain⟨b,off,rfl,h4⟩:=HK.o.2 qdJ;obtain⟨kc,x,y,L,M,G,F⟩:=(h4 i hlt).cells;have hl:(nE c.2[i] kc x y).length=19:=rfl;have hl2:(dw (c.2[i]).2 x y).length=18:=rfl;have B:=mK L G F;have Q:=fG G F;have HC:=zh (fun(w':zW) (h:m.az w') j u d=>azk h (M j u d));have q':=bzu r.az (M 0 _ rfl);have H0:(nE c.2[i] kc x y).toArray[0]?=some kc:=rfl;have S:=zh (fun(w':zW) (g:Nat) (h:bg w' g 68 (nE c.2[i] kc x y).toArray)=>h.sub (o:=1) (cs:=dw (c.2[i]).2 x y) fun j u d=>by simpa using kQ d);have C:=zh (show Dp s c.2[i].1=true->Rv m n (qJ (Dp s) c s) (.returned (.tuple #[bQ (c.2[i]).2 x y,.int .i64 3])) from fun e=>by
   rw[YY U.o hlt I.o e];exact⟨x,y,rfl,G.succ,F.succ⟩)
  have t:=zh (show Dp s c.2[i].1=false->∀j (d:j<c.2.length),j<i+1->Dp s c.2[j].1=false from fun h j d h3=>by
   by_cases e:j=i
   .exact qbR
   .exact I.o j d zo)
  have g':=zh (fun(w':zW) (h:m.az w')=>Kj kc c.2[i].1 s m w' h L x'.o);obtain⟨ta,tc,rfl,-⟩:=L;have f:=zh (r.al RF 68);unfold bQ at C;generalize dw (c.2[i]).2 x y=D at*
  generalize nE c.2[i] _ x y=N at*
  generalize Dp s c.2[i].1=ab at*
  have A:=r.az;clear r h4 M G F;cases ab
  .have E:=zh (t.o rfl);clear C t
   go_wp2_with (first
    |refine aj qB rfl (.tmp 31) rfl rfl N hl (HC.o _ A) ?_
    |(refine aA qB rfl (.tmp 9) (.tmp 32) rfl (cs:=N.toArray) rfl rfl rfl qdR (fun u hu=>B u qdL) f.o.obj ?_;intro w1 l p;have a:=f.o.aQ l p;have y0:=a.obj.cell H0;have y1:=a.obj.lt)
    | (go_at_call 113;refine(g'.o _ a.az).mono ?_;rintro e w2 ⟨rfl,O⟩))
   exact Z.o _ _ _ zo rfl ⟨i+1,zo,rfl,rfl,E.o,(a.aT O).tail⟩
  .have T:=zh (C.o rfl);clear C t Z
   go_wp2_with (first
    |refine aj qB rfl (.tmp 31) rfl rfl N hl (HC.o _ A) ?_
    |(refine aA qB rfl (.tmp 9) (.tmp 32) rfl (cs:=N.toArray) rfl rfl rfl qdR (fun u hu=>B u qdL) f.o.obj ?_;intro w1 l p;have a:=f.o.aQ l p;have y0:=a.obj.cell H0;have y1:=a.obj.lt)
    |(go_at_call 113;refine(g'.o _ a.az).mono ?_;rintro e w2 ⟨rfl,O⟩;have k:=a.aT O;have y2:=S.o _ _ k.obj;have y3:=k.obj.lt)
    |refine aj ek rfl (.tmp 37) rfl rfl D hl2 y2 ?_
    | (refine aA ek rfl (.tmp 4) (.tmp 38) rfl (cs:=D.toArray) rfl rfl rfl qdT (fun u hu=>Q u qdL) k.av.obj ?_;intro w3 a' o';have H:=k.av.aQ a' o';have hr:=ek.load hl2 a'.all))
   refine yV (v:=.tuple #[.agg D.toArray,.int .i64 3]) (dz results75 rfl hr) rfl ?_;exact hR.o _ _ ⟨T.o,H.aF⟩
 obtain rfl:i=c.2.length:=zo;have C:=zh (show Rv m n (qJ (Dp s) c s) (.returned (.tuple #[bQ (dn,dn) dI dI,.int .i64 3]))by
  rw[YX U.o (fun j d=>I.o j d d)];exact⟨dI,dI,rfl,(aY.leaf m false).mono zo,(aY.leaf m false).mono zo⟩)
 have f:=zh r;clear r Z I U
 go_wp2_with (refine aA ek rfl (.tmp 4) (.tmp 40) rfl (cs:=lZ) rfl rfl rfl rfl zD f.o.obj ?_)
 intro w' ho hg;have HF:=zh (f.o.aQ ho hg);have hr:=ek.load (cs:=lZ.toList) rfl ho.all;clear f hg ho;go_wp2;refine yV (v:=.tuple #[.agg lZ,.int .i64 3]) (dz results75 rfl hr) rfl ?_;exact hR.o _ _ ⟨C.o,HF.o.aF⟩
end Cl
namespace Cl
open Go Go.RowKit Go.Proofs
def uP(c:St):Vl:=.mk false fe [] [c]
def lI(c:Lc):Vl:=.mk false fe [c] []
abbrev DV(g:Nat):Sl:=⟨.n,.n,.n,.n,.slice (some ⟨g,0,none⟩) 1 1⟩
abbrev Ej(g:Nat):Sl:=⟨.n,.n,.n,.slice (some ⟨g,0,none⟩) 1 1,.n⟩
theorem ZI{α:Type}{R:Nat->Nat->α->Prop}{size g:Nat}{x:α}(h:R g 0 x):Mem.slice R size (.slice (some ⟨g,0,none⟩) 1 1) [x]:=
 ⟨some ⟨g,0,none⟩,1,rfl,zS,by simp[maxLen],fun _=>⟨g,0,rfl,fun i hi=>by
  obtain rfl:i=0:=by simpa using hi
  simpa using h⟩⟩
theorem Sa{m:Mem}{n:Nat}{c:St}{g:Nat}{u a:zV}(f:m.cell g 0=some u)(e:m.cell g 1=some a)(d:gG (aY m n) m u c.1)(b:gM (aY m n) m a c.2):aY m (n+1) (DV g) (uP c):=
 ⟨(aY.leaf m false).1,fq _ _,ZI ⟨u,a,f,e,d,b⟩⟩
theorem TC{m:Mem}{n:Nat}{c:Lc}{g:Nat}{u a:zV}(f:m.cell g 0=some u)(e:m.cell g 1=some a)(d:bD (aY m n) m u c.1)(b:bD (aY m n) m a c.2):aY m (n+1) (Ej g) (lI c):=
 ⟨(aY.leaf m false).1,ZI ⟨u,a,f,e,d,b⟩,fq _ _⟩
end Cl
namespace Cl
open Go Go.RowKit Go.Proofs Tryz
theorem bD.gB{m m':Mem}{n:Nat}{v:zV}{l:List Vd}(k:m.le m')(h:bD (aY m n) m v l):bD (aY m' n) m' v l:=bD.le k (fun _ _=>aY.le k) h
theorem Il{n:Nat}{v:Vl}{c:Lc}(h:Ht (n+1) v)(d:di (n+1) v<=1048576)(a:c∈v.aJ):c.1.length+c.2.length<=1048576:=by
 have g:=Qo h;have b:(aX c).length<=(v.aJ.flatMap aX).length:=by
  rw[List.length_flatMap];exact M7 (f:=fun c=>(aX c).length) a
 have e:v.kids.length=(v.aJ.flatMap aX).length+(v.ay.flatMap bJ).length:=by rw[Vl.kids,zL]
 rw[aX,zL]at b;omega
theorem bzT{n:Nat}(H:Bl n):Bl (n+1):=fun v v' s s' m w hm hv e' hct A'=>by
 have g:=((Own.start hm).al (aZ v s).toArray 33).al (aZ v' s').toArray 33;simp only[bB]at g;have HL:=zh (zi (fun c (hc:c∈v.aJ)=>Il hv.ht hct hc) (fun c (hc:c∈v'.aJ)=>Il e'.ht A' hc));have l':=zh (zi (fun d (L:d∈v.kids)=>show jg n d by have:=wo (n:=n) L;exact⟨zo,zo⟩) (fun d (L:d∈v'.kids)=>show jg n d by have:=wo (n:=n) L;exact⟨zo,zo⟩));have HS:=zh (FI s.i s.f s.t s'.i s'.f s'.t v.s v'.s m _ g.az hv.sc e'.sc);have G:=zh (Wn v v');have c0:=g.av.obj.cell (i:=0) (v:=.bool v.any) rfl;have c0':=g.obj.cell (i:=0) (v:=.bool v'.any) rfl;have q0:=g.av.obj.sub (Aj v s);have c':=g.obj.sub (Aj v' s');have H7:(aZ v s).toArray[7]?=some s.l:=rfl;have H8:(aZ v s).toArray[8]?=some s.s:=rfl;have z':(aZ v' s').toArray[7]?=some s'.l:=rfl;have y':(aZ v' s').toArray[8]?=some s'.s:=rfl;have hv2:=hv.2;have hv2':=e'.2;obtain⟨a1,b1,a2,b2,a3,b3,a4,b4,a5,b5,rfl,q1,q2,q3,q4,q5⟩:=hv.dm;obtain⟨⟨z1,y1,e1,-,-,k1⟩,⟨z2,y2,e2,-,-,k2⟩⟩:=hv2;simp only[Value.slice.injEq]at e1 e2;obtain⟨rfl,-,rfl⟩:=e1;obtain⟨rfl,-,rfl⟩:=e2;obtain⟨a1',b1',a2',b2',a3',b3',a4',b4',a5',b5',rfl,q1',q2',q3',q4',q5'⟩:=e'.dm;obtain⟨⟨z1,y1,e1,-,-,k1'⟩,⟨z2,y2,e2,-,-,k2'⟩⟩:=hv2';simp only[Value.slice.injEq]at e1 e2;obtain⟨rfl,-,rfl⟩:=e1;obtain⟨rfl,-,rfl⟩:=e2;simp only at H7 H8 z' y';have J:=zh (zi H7 (zi H8 (zi z' y')));unfold maxLen at q4 q5 q4' q5';have HK:=zh (zi k1 (zi k2 (zi k1' k2')));have HO:=zh g;obtain⟨P1,hP1⟩:∃P1:Prop,P1=(v.any=v'.any/\v.s=v'.s/\v.aJ.length=v'.aJ.length/\v.ay.length=v'.ay.length):=⟨_,rfl⟩;have C:=zh hP1;have c7:=g.av.obj.cell H7;have V:=g.obj.cell z';have c8:=g.av.obj.cell H8;have p':=g.obj.cell y';have g1:=g.av.obj.lt;have g2:=g.obj.lt;clear g hP1 k1 k2 k1' k2' hv e' hct A' q1 q2 q3 q1' q2' q3' H7 H8 z' y';unfold Vl.val RS.val at*
 generalize aZ v _=N at*
 generalize aZ v' _=N' at*
 refine au fun R hR=>?_
 go_enter func47,ntmps47
 go_upto_region 1 with(fail)
 generalize hW:(w.alloc (.cells N.toArray 33)).alloc (.cells N'.toArray 33)=w0 at*
 clear hW;refine aW [2,3,39] (fun I w'=>I=[.p w.heap.size,.p (w.heap.size+1),.bool (!tf P1)]/\Own w m w' m [.obj (w.heap.size+1) 33 N'.toArray,.obj w.heap.size 33 N.toArray]) ?_ ?_
 .intro X hX;clear HK HL l' G;by_cases h1:v.any=v'.any
  case neg=>
   have HP:=zh (show tf P1=false by rw[C.o];exact aG fun h=>h1 h.1);have L:(v.any==v'.any)=false:=by simp[h1]
   have hd2:(v.any != v'.any)=true:=by simp[h1]
   clear h1 HS;go_wp2;exact hX.o _ _ rfl ⟨by rw[HP.o]<;>rfl,HO.o⟩
  have L:(v.any==v'.any)=true:=by simp[h1]
  have hd2:(v.any != v'.any)=false:=by simp[h1]
  by_cases h2:v.s=v'.s
  case neg=>
   have HP:=zh (show tf P1=false by rw[C.o];exact aG fun h=>h2 h.2.1);have hh:=HS.o;rw[aG h2]at hh;have HS:=zh hh;clear h1 h2 hh
   go_wp2_with (first|refine aj rO rfl (.tmp 15) rfl rfl _ rfl q0 ?_|refine aj rO rfl (.tmp 17) rfl rfl _ rfl c' ?_|(go_at_call 66;refine HS.o.mono ?_;rintro e w1 ⟨rfl,hb1⟩))
   exact qbm
  have hh:=HS.o;rw[aN h2]at hh;have M':=zh hh;clear hh HS;by_cases h3:v.aJ.length=v'.aJ.length
  case neg=>
   have HP:=zh (show tf P1=false by rw[C.o];exact aG fun h=>h3 h.2.2.1);have hd3:((v.aJ.length:Int) != (v'.aJ.length:Int))=true:=by simp;omega
   clear h1 h2 h3 C;generalize v.aJ.length=n4 at*
   generalize v'.aJ.length=Z' at*
   go_wp2_with (first|refine aj rO rfl (.tmp 15) rfl rfl _ rfl q0 ?_|refine aj rO rfl (.tmp 17) rfl rfl _ rfl c' ?_|(go_at_call 66;refine M'.o.mono ?_;rintro e w1 ⟨rfl,hb1⟩;have A:=HO.o.aT hb1;have c7:=A.av.obj.cell J.o.1;have V:=A.obj.cell J.o.2.2.1;have g1:=A.av.obj.lt;have g2:=A.obj.lt))
   exact qbm
  have hd3:((v.aJ.length:Int) != (v'.aJ.length:Int))=false:=by simp[h3]
  by_cases h4:v.ay.length=v'.ay.length
  case neg=>
   have HP:=zh (show tf P1=false by rw[C.o];exact aG fun h=>h4 h.2.2.2);have hd4:((v.ay.length:Int) != (v'.ay.length:Int))=true:=by simp;omega
   clear h1 h2 h3 h4 C;generalize v.aJ.length=n4 at*
   generalize v'.aJ.length=Z' at*
   generalize v.ay.length=n5 at*
   generalize v'.ay.length=n5' at*
   go_wp2_with (first|refine aj rO rfl (.tmp 15) rfl rfl _ rfl q0 ?_|refine aj rO rfl (.tmp 17) rfl rfl _ rfl c' ?_|(go_at_call 66;refine M'.o.mono ?_;rintro e w1 ⟨rfl,hb1⟩;have A:=HO.o.aT hb1;have c7:=A.av.obj.cell J.o.1;have V:=A.obj.cell J.o.2.2.1;have c8:=A.av.obj.cell J.o.2.1;have p':=A.obj.cell J.o.2.2.2;have g1:=A.av.obj.lt;have g2:=A.obj.lt))
   exact qbm
  have hd4:((v.ay.length:Int) != (v'.ay.length:Int))=false:=by simp[h4]
  have HP:=zh (show tf P1=true by rw[C.o];exact aN ⟨h1,h2,h3,h4⟩);clear h1 h2 h3 h4 C;generalize v.aJ.length=n4 at*
  generalize v'.aJ.length=Z' at*
  generalize v.ay.length=n5 at*
  generalize v'.ay.length=n5' at*
  go_wp2_with (first|refine aj rO rfl (.tmp 15) rfl rfl _ rfl q0 ?_|refine aj rO rfl (.tmp 17) rfl rfl _ rfl c' ?_|(go_at_call 66;refine M'.o.mono ?_;rintro e w1 ⟨rfl,hb1⟩;have A:=HO.o.aT hb1;have c7:=A.av.obj.cell J.o.1;have V:=A.obj.cell J.o.2.2.1;have c8:=A.av.obj.cell J.o.2.1;have p':=A.obj.cell J.o.2.2.2;have g1:=A.av.obj.lt;have g2:=A.obj.lt))
  exact qbm
 clear HO HS c0 c0' q0 c' c7 V c8 p' g1 g2;rintro z I w1-⟨rfl,g⟩;simp[bz,lk];have HO:=zh g;by_cases T:P1
 case neg=>
  have HX:=zh (show ¬v=v' from fun h=>T (by rw[C.o,h];exact⟨rfl,rfl,rfl,rfl⟩));rw[aG T];have HB:=zh g.aF;clear g HO G T C;exact qgT
 have hp:=C.o ▸ T;rw[aN T];have HX:=zh (show v=v'↔v.aJ=v'.aJ/\v.ay=v'.ay from G.o.trans ⟨fun h=>h.2.2,fun h=>⟨hp.1,hp.2.1,h⟩⟩);have t':=zh (zi hp.2.2.1 hp.2.2.2);clear g G T C hp;have c7:=HO.o.av.obj.cell J.o.1;have g1:=HO.o.av.obj.lt;go_wp2;refine aB [2,3,42,43] (fun q I F=>∃(i:Nat),i<=v.aJ.length/\q=v.aJ.length-i/\I=[.p w.heap.size,.p (w.heap.size+1),.j (v.aJ.length:Int),.j (i:Int)]/\(v=v'↔v.aJ.drop i=v'.aJ.drop i/\v.ay=v'.ay) /\
  Own w m F m [.obj (w.heap.size+1) 33 N'.toArray,.obj w.heap.size 33 N.toArray]) ?_ ?_
 .exact⟨_,0,zG _,rfl,rfl,HX.o,HO.o⟩
 clear HO HX c7 g1;rintro X z q I F hX-⟨i,hi,rfl,rfl,hE,g⟩;simp[bz,lk];have G:=zh hE;clear hE;by_cases hlt:i<v.aJ.length
 .have hlt':i<v'.aJ.length:=by rw[<-t'.o.1];exact hlt
  obtain⟨b,off,rfl,h4⟩:=HK.o.1 qdJ;obtain⟨b',d',rfl,f'⟩:=HK.o.2.2.1 qdV;obtain⟨u,u2,s1,s2,s3,s4⟩:=h4 i hlt;obtain⟨u',H',K,a',Z,W⟩:=f' i hlt';have c7:=g.av.obj.cell J.o.1;have V:=g.obj.cell J.o.2.2.1;have g1:=g.av.obj.lt;have g2:=g.obj.lt;have x1:=azk g.az s1;have x2:=azk g.az s2;have xl:=bzu g.az s1;have U':=azk g.az K;have T':=azk g.az a';have S':=bzu g.az K;have D:=zh (nk v.aJ v'.aJ i hlt hlt');have k':=zh (Xx v.aJ[i] v'.aJ[i]);have HO:=zh g;clear g h4 f' s1 s2 K a';have r':=zh (zi (HL.o.1 _ (zF hlt)) (HL.o.2 _ (zF hlt')));have x':=zh (zi (fun d (L:d∈aX v.aJ[i])=>l'.o.1 d (dM (zF hlt) L)) (fun d (L:d∈aX v'.aJ[i])=>l'.o.2 d (dM (zF hlt') L)));generalize v.aJ[i]=cl at*
  generalize v'.aJ[i]=x at*
  have L':=zh (fun(w':zW) (h:m.az w')=>kD u u2 cl m n w' h s3 s4 r'.o.1);have j':=zh (fun(w':zW) (h:m.az w')=>kD u' H' x m n w' h Z W r'.o.2);obtain⟨ua,uc,rfl,-,r2,-⟩:=s3;obtain⟨S,P,rfl,-⟩:=s4;obtain⟨ub,ud,rfl,-,r2',-⟩:=Z;obtain⟨Q,O,rfl,-⟩:=W;unfold maxLen at r2 r2'
  go_upto_region 6 with(fail)
  refine aW [2,3,6,7,42,43] (fun I w'=>∃p q,I=[.p w.heap.size,.p (w.heap.size+1),.p p,.p q,.j (v.aJ.length:Int),.j (i:Int)] /\
   Own w m w' m [.obj p 50 #[.slice ua cl.1.length uc,.slice S cl.2.length P],.obj q 50 #[.slice ub x.1.length ud,.slice Q x.2.length O],.obj (w.heap.size+1) 33 N'.toArray,.obj w.heap.size 33 N.toArray]) ?_ ?_
  .intro Y hY
   go_region
   .exact hY.o _ _ rfl ⟨F.heap.size,F.heap.size+1,rfl,by simpa only[bB]using((HO.o.al #[.slice ua cl.1.length uc,.slice S cl.2.length P] 50).al #[.slice ub x.1.length ud,.slice Q x.2.length O] 50).dr.av⟩
   .exact hY.o _ _ rfl ⟨F.heap.size+1,F.heap.size,rfl,by simpa only[bB]using((HO.o.al #[.slice ub x.1.length ud,.slice Q x.2.length O] 50).al #[.slice ua cl.1.length uc,.slice S cl.2.length P] 50).dr⟩
  clear HO c7 V g1 g2 x1 x2 xl U' T' S';rintro z1 I w2-⟨p,q,rfl,g⟩;simp[bz,lk];have y1:=g.obj.c 0;have y2:=g.av.obj.c 0;have y3:=g.obj.lt;have y4:=g.av.obj.lt;have HO:=zh g;clear g;by_cases o':cl.1.length=x.1.length
  case neg=>
   have L:((cl.1.length:Int) != (x.1.length:Int))=true:=by simp;omega
   have HX:=zh (show ¬v=v' from fun h=>o' (k'.o.1 (D.o.1 (G.o.1 h).1).1).1);clear k' D G o' L' j' r' x' hX;generalize cl.1.length=n1 at*
   generalize x.1.length=n2 at*
   go_wp2
   go_quiet (fail)
   exact qg5
  have HX:=zh (show v=v'↔aX cl=aX x/\v.aJ.drop (i+1)=v'.aJ.drop (i+1)/\v.ay=v'.ay from
   ⟨fun h=>⟨(k'.o.1 (D.o.1 (G.o.1 h).1).1).2,(D.o.1 (G.o.1 h).1).2,(G.o.1 h).2⟩,fun h=>G.o.2 ⟨D.o.2 ⟨k'.o.2 ⟨o',h.1⟩,h.2.1⟩,h.2.2⟩⟩)
  clear k' D G r';generalize cl.1.length=n1 at*
  generalize cl.2.length=n3 at*
  generalize x.2.length=n4 at*
  generalize x.1.length=n2 at*
  subst o';generalize aX cl=L1 at*
  generalize aX x=L2 at*
  have hin0:=HO.o.az
  go_upto_region 7 with(fail)
  refine aW [2,3,42,43,70] (fun I w'=>I=[.p w.heap.size,.p (w.heap.size+1),.j (v.aJ.length:Int),.j (i:Int),.bool (!tf (L1=L2))] /\
   Own w m w' m [.obj (w.heap.size+1) 33 N'.toArray,.obj w.heap.size 33 N.toArray]) ?_ ?_
  .intro Y hY;refine bE 15 8 (fun j=>[aI.is (·=.p p),aI.is (·=.slice ua n1 uc),aI.is (·=.j (n1:Nat)),aI.is (·=.p q),aI.is (·=.slice ub n1 ud),aI.is (·=.j (n1:Nat)),aI.is (·=.bool false),aI.is (·=.bool false),aI.is (·=.agg #[.slice ua n1 uc,.slice S n3 P]),aI.mem m [9] (fun M u=>bD (aY M n) M u L1),aI.is (·=.agg #[.slice ub n1 ud,.slice Q n4 O]),aI.mem m [11] (fun M u=>bD (aY M n) M u L2),aI.is (·=.bool (tf (L1=L2))),aI.is (·=.bool (!tf (L1=L2))),aI.is (·=.bool (!tf (L1=L2)))].getD j aI.any) zk zk ?_ ?_
   .intro i hi o B a F ho y;have HO2:=HO.o.dr.aT y.aF;have y1:=HO2.obj.c 0;have y2:=HO2.av.obj.c 0;have y5:=HO2.obj.c 1;have y6:=HO2.av.obj.c 1;have y3:=HO2.obj.lt;have y4:=HO2.av.obj.lt;rcases(show i=0\/i=1\/i=2\/i=3\/i=4\/i=5\/i=6\/i=7\/i=8\/i=9\/i=10\/i=11\/i=12\/i=13\/i=14 by omega)with rfl|rfl|rfl|rfl|rfl|rfl|rfl|rfl|rfl|rfl|rfl|rfl|rfl|rfl|rfl
    .have e6:=y.k 6;exact qaa
    .have e56:zt a 56 _:=y.d 0 rfl;exact qaa
    .have e57:zt a 57 _:=y.d 1 rfl;exact qaa
    .have e7:=y.k 7;exact qaa
    .have e59:zt a 59 _:=y.d 3 rfl;exact qaa
    .have e60:zt a 60 _:=y.d 4 rfl;exact qaa
    .have e58:zt a 58 _:=y.d 2 rfl;have e61:zt a 61 _:=y.d 5 rfl;exact qaa
    .have e62:zt a 62 _:=y.d 6 rfl;exact qaa
    .have e6:=y.k 6;have e63:zt a 63 _:=y.d 7 rfl;exact qba
    .have e64:zt a 64 _:=y.d 8 rfl;have e63:zt a 63 _:=y.d 7 rfl;cases ho;refine we2 rfl rfl rfl e63 (L'.o _ HO2.az) ?_;exact qg3
    .have e7:=y.k 7;have e63:zt a 63 _:=y.d 7 rfl;exact qba
    .have e66:zt a 66 _:=y.d 10 rfl;have e63:zt a 63 _:=y.d 7 rfl;cases ho;refine we2 rfl rfl rfl e63 (j'.o _ HO2.az) ?_;exact qg2
    .have e65:(aI.mem m [9] (fun M u=>bD (aY M n) M u L1)).holds (a.tmps.getD 65 undef) B F:=y.d 9 rfl;have e67:(aI.mem m [11] (fun M u=>bD (aY M n) M u L2)).holds (a.tmps.getD 67 undef) B F:=y.d 11 rfl;have e63:zt a 63 _:=y.d 7 rfl;cases ho;have f1:bD (aY (m.fJ F B [9]) n) (m.fJ F B [9]) _ L1:=e65;have f2:bD (aY (m.fJ F B [11]) n) (m.fJ F B [11]) _ L2:=e67;have M1:=cz7 (m:=m) (es:=[9,11]) HO2.az B (ds:=[9]) zS;have M2:=cz7 (m:=m) (es:=[9,11]) HO2.az B (ds:=[11]) zS;refine we2 rfl rfl rfl e63 (XY H _ _ L1 L2 (m.fJ F B [9,11]) F (dzd HO2.az B [9,11]) (f1.gB M1) (f2.gB M2) x'.o.1 x'.o.2) ?_;exact qag
    .have e68:zt a 68 _:=y.d 12 rfl;have e63:zt a 63 _:=y.d 7 rfl;exact qba
    .have e63:zt a 63 _:=y.d 7 rfl;have e69:zt a 69 _:=y.d 13 rfl;exact qaa
   .intro B a F E;have e2:=E.keep 2 zk;have e3:=E.keep 3 zk;have e42:=E.keep 42 zk;have e43:=E.keep 43 zk;have e70:a.tmps.getD 70 undef=.bool (!tf (L1=L2)):=E.fact 14 _ zo rfl;have hZ:=HO.o.dr.aT E.aF;obtain⟨t1,d⟩:=a;obtain rfl:d=[]:=E.defers;refine dB zk (hY.o _ _ E.size ⟨?_,hZ.tail.tail⟩) _;simp only[yL,xB,e2,e3,e42,e43,e70]
    rfl
  clear HO y1 y2 y3 y4 hin0 L' j' x';rintro z2 I w3-⟨rfl,g⟩;simp[bz,lk];have HO:=zh g;clear g;by_cases U:L1=L2
  .have HX2:=zh (HX.o.trans ⟨fun h=>h.2,fun h=>⟨U,h⟩⟩);rw[aN U];clear HX U;exact qde
  .have HX2:=zh (show ¬v=v' from fun h=>U (HX.o.1 h).1);rw[aG U];clear HX U hX;exact qhB
 obtain rfl:i=v.aJ.length:=zo;have HX:=zh (show v=v'↔v.ay=v'.ay from G.o.trans ⟨fun h=>h.2,fun h=>⟨by rw[zQ zo,zQ (by rw[<-t'.o.1];omega)],h⟩⟩);have c8:=g.av.obj.cell J.o.2.1;have g1:=g.av.obj.lt;have HO:=zh g;clear g hX G;go_wp2;refine aB [2,3,74,75] (fun q I F=>∃(i:Nat),i<=v.ay.length/\q=v.ay.length-i/\I=[.p w.heap.size,.p (w.heap.size+1),.j (v.ay.length:Int),.j (i:Int)]/\(v=v'↔v.ay.drop i=v'.ay.drop i) /\
  Own w m F m [.obj (w.heap.size+1) 33 N'.toArray,.obj w.heap.size 33 N.toArray]) ?_ ?_
 .exact⟨_,0,zG _,rfl,rfl,HX.o,HO.o⟩
 clear HO HX c8 g1;rintro X z q I F hX-⟨i,hi,rfl,rfl,hE,g⟩;simp[bz,lk];have G:=zh hE;clear hE;by_cases hlt:i<v.ay.length
 case neg=>
  have HX:=zh (show v=v' from G.o.2 (by rw[zQ zo,zQ (by rw[<-t'.o.2];omega)]));have HB:=zh g.aF;clear g hX G;go_wp2;exact hR.o _ _ ⟨aP (by rw[aN HX.o]),HB.o⟩
 have hlt':i<v'.ay.length:=by rw[<-t'.o.2];exact hlt
 obtain⟨b,off,rfl,h4⟩:=HK.o.2.1 qdJ;obtain⟨b',d',rfl,f'⟩:=HK.o.2.2.2 qdV;obtain⟨u,u2,s1,s2,s3,s4⟩:=h4 i hlt;obtain⟨u',H',K,a',Z,W⟩:=f' i hlt';have D:=zh (nk v.ay v'.ay i hlt hlt');have HSX:=zh (fun(w':zW) (h:m.az w')=>Sq H v.ay[i] v'.ay[i] u u2 u' H' m w' h s3 s4 Z W (fun d L=>l'.o.1 d (dP (zF hlt) L)) (fun d L=>l'.o.2 d (dP (zF hlt') L)));generalize v.ay[i]=cl at*
 generalize v'.ay[i]=x at*
 obtain⟨ua,uc,rfl,-⟩:=s3;obtain⟨S,P,rfl,-⟩:=s4;obtain⟨ub,ud,rfl,-⟩:=Z;obtain⟨Q,O,rfl,-⟩:=W;have HO:=zh g;have y8:=g.av.obj.cell J.o.2.1;have y9:=g.av.obj.lt;clear g h4 f'
 go_upto_region 13 with(fail)
 clear y8 y9;refine aW [2,3,74,75,89] (fun I w'=>I=[.p w.heap.size,.p (w.heap.size+1),.j (v.ay.length:Int),.j (i:Int),.bool (!tf (cl=x))] /\
  Own w m w' m [.obj (w.heap.size+1) 33 N'.toArray,.obj w.heap.size 33 N.toArray]) ?_ ?_
 .intro Y hY;refine bE 12 8 (fun j=>[aI.is (·=.pointer (some ⟨w.heap.size,8,none⟩)),aI.is (·=.slice (some ⟨b,off,none⟩) v.ay.length b5),aI.is (·=.j (i:Int)),aI.is (·=.pointer (some ⟨b,off+i*2,none⟩)),aI.is (·=.agg #[.slice ua cl.1.length uc,.slice S cl.2.length P]),aI.is (·=.pointer (some ⟨w.heap.size+1,8,none⟩)),aI.is (·=.slice (some ⟨b',d',none⟩) v'.ay.length b5'),aI.is (·=.j (i:Int)),aI.is (·=.pointer (some ⟨b',d'+i*2,none⟩)),aI.is (·=.agg #[.slice ub x.1.length ud,.slice Q x.2.length O]),aI.is (·=.bool (tf (cl=x))),aI.is (·=.bool (!tf (cl=x)))].getD j aI.any) zk zk ?_ ?_
  .intro i hi o B a F ho y;have HO2:=HO.o.dr.aT y.aF;have c8:=HO2.av.obj.cell J.o.2.1;have p':=HO2.obj.cell J.o.2.2.2;have g1:=HO2.av.obj.lt;have g2:=HO2.obj.lt;have x1:=azk HO2.az s1;have x2:=azk HO2.az s2;have xl:=bzu HO2.az s1;have U':=azk HO2.az K;have T':=azk HO2.az a';have S':=bzu HO2.az K;rcases(show i=0\/i=1\/i=2\/i=3\/i=4\/i=5\/i=6\/i=7\/i=8\/i=9\/i=10\/i=11 by omega)with rfl|rfl|rfl|rfl|rfl|rfl|rfl|rfl|rfl|rfl|rfl|rfl
   .have e2:=y.k 2;exact qaa
   .have e78:zt a 78 _:=y.d 0 rfl;exact qaa
   .have e8:=y.k 8;exact qaa
   .have e79:zt a 79 _:=y.d 1 rfl;have e80:zt a 80 _:=y.d 2 rfl;exact qhe
   .have e81:zt a 81 _:=y.d 3 rfl;exact qaa
   .have e3:=y.k 3;exact qaa
   .have e83:zt a 83 _:=y.d 5 rfl;exact qaa
   .have e8:=y.k 8;exact qaa
   .have e84:zt a 84 _:=y.d 6 rfl;have e85:zt a 85 _:=y.d 7 rfl;exact qhe
   .have e86:zt a 86 _:=y.d 8 rfl;exact qaa
   .have e82:zt a 82 _:=y.d 4 rfl;have e87:zt a 87 _:=y.d 9 rfl;cases ho;refine we rfl rfl (HSX.o _ HO2.az) ?_;exact qag
   .have e88:zt a 88 _:=y.d 10 rfl;exact qaa
  .intro B a F E;have e2:=E.keep 2 zk;have e3:=E.keep 3 zk;have e74:=E.keep 74 zk;have e75:=E.keep 75 zk;have e89:a.tmps.getD 89 undef=.bool (!tf (cl=x)):=E.fact 11 _ zo rfl;have hZ:=HO.o.dr.aT E.aF;obtain⟨t1,d⟩:=a;obtain rfl:d=[]:=E.defers;refine dB zk (hY.o _ _ E.size ⟨?_,hZ⟩) _;simp only[yL,xB,e2,e3,e74,e75,e89]
   rfl
 clear HO s1 s2 K a' HSX;rintro z2 I w3-⟨rfl,g⟩;simp[bz,lk];have HO:=zh g;clear g;by_cases U:cl=x
 .have HX2:=zh (G.o.trans (D.o.trans ⟨fun h=>h.2,fun h=>⟨U,h⟩⟩));rw[aN U];clear G D U;exact qde
 .have HX2:=zh (show ¬v=v' from fun h=>U (D.o.1 (G.o.1 h)).1);rw[aG U];clear G D U hX;exact qhB
theorem wu:∀n,Bl n
 |0=>fun _ _ _ _ _ _ _ h _ _ _=>h.elim
 |n+1=>bzT (wu n)
theorem dze{α:Type}(C:α->α->Int)(A:Nat->Nat->α->Prop)(Rp:List Value->α->Prop)(v v':zV)(l l':List α)(m:Mem)(w:zW)(hm:m.az w)
(hA:∀b o x,A b o x->∃cs:List Value,cs.length=18/\(∀j u,cs[j]?=some u->m.cell b (o+j)=some u)/\(∀u∈cs,u.oneCell'=true)/\Rp cs x)
(hc:∀cs f x Z w',m.az w'->Rp cs x->Rp f Z->zC 268 #[.agg cs.toArray,.agg f.toArray] w' fun e O=>e=.returned (.j (C x Z))/\Below w'.heap.size w' O)
(hl:Mem.slice A 18 v l)(Q:Mem.slice A 18 v' l'):
 zX 267 #[v,v',.func (.func 268) #[] #[]] w (.j (eB C l l')):=by
 obtain⟨a,c,rfl,h1,h2,h3⟩:=hl;obtain⟨a',c',rfl,z',U,L⟩:=Q;unfold maxLen at h2 U;have HK:=zh (zi h3 L);have Y:=zh (zi hA hc);have HO:=zh (Own.start hm);clear h3 L hA hc;refine au fun R hR=>?_
 go_enter func267,ntmps267
 go_wp2;refine aB [0,1,2,11,12,13] (fun n vs wr=>∃k:Nat,k<=l.length/\n=l.length-k/\vs=[.slice a l.length c,.slice a' l'.length c',.func (.func 268) #[] #[],.slice a l.length c,.j l.length,.j k]/\eB C l l'=eB C (l.drop k) (l'.drop k)/\Own w m wr m []) ?_ ?_
 .exact qbs
 clear HO;rintro X z n vs wr hX-⟨k,hk,rfl,rfl,y,B⟩;have d:=zh y;clear y;simp[bz,lk];by_cases hlt:k<l.length
 case neg=>
  obtain rfl:k=l.length:=zo;have HL:=zh (d.o.trans qh1);have HB:=zh B.aF;clear B hX d;by_cases hs:l.length<l'.length
  .have HL2:=zh (show eB C l l' = -1 by rw[HL.o,zK hs]);exact qal
  .have HL2:=zh (show eB C l l'=0 by rw[HL.o,zJ hs]);exact qal
 obtain⟨b,off,rfl,T⟩:=HK.o.1 qdJ;obtain⟨cs,hl1,q,i,E⟩:=Y.o.1 _ _ _ (T k hlt);have t:=B.al lZ 35;have M:=zh (fun(w':zW) (h:m.az w') j u hj=>azk h (q j u hj));have D:=q 0 (cs[0]'zo) (yH _);have r':=bzu B.az D;have J:=B.az;by_cases hlt':k<l'.length
 case neg=>
  have HL2:=zh (show eB C l l'=1 from d.o.trans qh2);have HO:=zh t;have N:=zh i;clear B t T q i E D d hX;generalize l[k]=x at*
  go_wp2_with (first
   |refine aj ek rfl (.tmp 16) rfl rfl cs hl1 (M.o _ J) ?_
   | (refine aA ek rfl (.tmp 8) (.tmp 17) rfl (cs:=cs.toArray) rfl rfl rfl qdU (fun u hu=>N.o u qdL) HO.o.obj ?_;intro w1 g p;have HO2:=zh (HO.o.aQ g p)))
  exact qbc
 obtain⟨b',f',rfl,K⟩:=HK.o.2 qdV;obtain⟨f,hl2,F,I,H⟩:=Y.o.1 _ _ _ (K k hlt');have V:=zh (d.o.trans qhW);have HC:=zh (fun w' (h:m.az w')=>Y.o.2 cs f l[k] l'[k] w' h E H);have W:=zh (fun(w':zW) (h:m.az w') j u hj=>azk h (F j u hj));have G:=F 0 (f[0]'zo) (yH _);have q':=bzu B.az G;have N:=zh (zi i I);have HO:=zh t;clear B t T K q F i I E H D G d;generalize C l[k] l'[k]=r at*
 have HL0:=zh (show r=0->eB C l l'=eB C (l.drop (k+1)) (l'.drop (k+1)) from fun h=>by rw[V.o,h];rfl);have HL1:=zh (show ¬r=0->eB C l l'=r from fun h=>by rw[V.o,rQ,zJ h]);clear V
 go_wp2_with (first
  |refine aj ek rfl (.tmp 16) rfl rfl cs hl1 (M.o _ J) ?_
  |(refine aA ek rfl (.tmp 8) (.tmp 17) rfl (cs:=cs.toArray) rfl rfl rfl qdU (fun u hu=>N.o.1 u qdL) HO.o.obj ?_;intro w1 g p;have s:=(HO.o.aQ g p).al lZ 35;have p':=s.av.obj.lt;have h':=s.tail.az)
  |refine aj ek rfl (.tmp 24) rfl rfl f hl2 (W.o _ (HO.o.aQ g p).az) ?_
  |(refine aA ek rfl (.tmp 9) (.tmp 25) rfl (cs:=f.toArray) rfl rfl rfl qdT (fun u hu=>N.o.2 u qdL) s.obj ?_;intro w2 P S;have hO3:=s.aQ P S;have y1:=hO3.av.obj.all;have y2:=hO3.obj.all)
  |refine aj ek rfl (.tmp 8) rfl rfl cs hl1 y1 ?_
  |refine aj ek rfl (.tmp 9) rfl rfl f hl2 y2 ?_
  | (go_at_call 268;refine(HC.o _ hO3.az).mono ?_;rintro e w3 ⟨rfl,hb3⟩;by_cases he:r=0;subst he;have HO4:=zh (hO3.aT hb3).tail.tail;clear hO3))
 .exact qbH
 .exact qaB
theorem dzh{α:Type}(C:α->α->Int)(A:Nat->Nat->α->Prop)(Rp:List Value->α->Prop)(v v':zV)(l l':List α)(m:Mem)(w:zW)(hm:m.az w)
(hA:∀b o x,A b o x->∃cs:List Value,cs.length=20/\(∀j u,cs[j]?=some u->m.cell b (o+j)=some u)/\(∀u∈cs,u.oneCell'=true)/\Rp cs x)
(hc:∀cs f x Z w',m.az w'->Rp cs x->Rp f Z->zC 271 #[.agg cs.toArray,.agg f.toArray] w' fun e O=>e=.returned (.j (C x Z))/\Below w'.heap.size w' O)
(hl:Mem.slice A 20 v l)(Q:Mem.slice A 20 v' l'):
 zX 270 #[v,v',.func (.func 271) #[] #[]] w (.j (eB C l l')):=by
 obtain⟨a,c,rfl,h1,h2,h3⟩:=hl;obtain⟨a',c',rfl,z',U,L⟩:=Q;unfold maxLen at h2 U;have HK:=zh (zi h3 L);have Y:=zh (zi hA hc);have HO:=zh (Own.start hm);clear h3 L hA hc;refine au fun R hR=>?_
 go_enter func270,ntmps270
 go_wp2;refine aB [0,1,2,11,12,13] (fun n vs wr=>∃k:Nat,k<=l.length/\n=l.length-k/\vs=[.slice a l.length c,.slice a' l'.length c',.func (.func 271) #[] #[],.slice a l.length c,.j l.length,.j k]/\eB C l l'=eB C (l.drop k) (l'.drop k)/\Own w m wr m []) ?_ ?_
 .exact qbs
 clear HO;rintro X z n vs wr hX-⟨k,hk,rfl,rfl,y,B⟩;have d:=zh y;clear y;simp[bz,lk];by_cases hlt:k<l.length
 case neg=>
  obtain rfl:k=l.length:=zo;have HL:=zh (d.o.trans qh1);have HB:=zh B.aF;clear B hX d;by_cases hs:l.length<l'.length
  .have HL2:=zh (show eB C l l' = -1 by rw[HL.o,zK hs]);exact qal
  .have HL2:=zh (show eB C l l'=0 by rw[HL.o,zJ hs]);exact qal
 obtain⟨b,off,rfl,T⟩:=HK.o.1 qdJ;obtain⟨cs,hl1,q,i,E⟩:=Y.o.1 _ _ _ (T k hlt);have t:=B.al RJ 82;have M:=zh (fun(w':zW) (h:m.az w') j u hj=>azk h (q j u hj));have D:=q 0 (cs[0]'zo) (yH _);have r':=bzu B.az D;have J:=B.az;by_cases hlt':k<l'.length
 case neg=>
  have HL2:=zh (show eB C l l'=1 from d.o.trans qh2);have HO:=zh t;have N:=zh i;clear B t T q i E D d hX;generalize l[k]=x at*
  go_wp2_with (first
   |refine aj tu rfl (.tmp 16) rfl rfl cs hl1 (M.o _ J) ?_
   | (refine aA tu rfl (.tmp 8) (.tmp 17) rfl (cs:=cs.toArray) rfl rfl rfl qdU (fun u hu=>N.o u qdL) HO.o.obj ?_;intro w1 g p;have HO2:=zh (HO.o.aQ g p)))
  exact qbc
 obtain⟨b',f',rfl,K⟩:=HK.o.2 qdV;obtain⟨f,hl2,F,I,H⟩:=Y.o.1 _ _ _ (K k hlt');have V:=zh (d.o.trans qhW);have HC:=zh (fun w' (h:m.az w')=>Y.o.2 cs f l[k] l'[k] w' h E H);have W:=zh (fun(w':zW) (h:m.az w') j u hj=>azk h (F j u hj));have G:=F 0 (f[0]'zo) (yH _);have q':=bzu B.az G;have N:=zh (zi i I);have HO:=zh t;clear B t T K q F i I E H D G d;generalize C l[k] l'[k]=r at*
 have HL0:=zh (show r=0->eB C l l'=eB C (l.drop (k+1)) (l'.drop (k+1)) from fun h=>by rw[V.o,h];rfl);have HL1:=zh (show ¬r=0->eB C l l'=r from fun h=>by rw[V.o,rQ,zJ h]);clear V
 go_wp2_with (first
  |refine aj tu rfl (.tmp 16) rfl rfl cs hl1 (M.o _ J) ?_
  |(refine aA tu rfl (.tmp 8) (.tmp 17) rfl (cs:=cs.toArray) rfl rfl rfl qdU (fun u hu=>N.o.1 u qdL) HO.o.obj ?_;intro w1 g p;have s:=(HO.o.aQ g p).al RJ 82;have p':=s.av.obj.lt;have h':=s.tail.az)
  |refine aj tu rfl (.tmp 24) rfl rfl f hl2 (W.o _ (HO.o.aQ g p).az) ?_
  |(refine aA tu rfl (.tmp 9) (.tmp 25) rfl (cs:=f.toArray) rfl rfl rfl qdT (fun u hu=>N.o.2 u qdL) s.obj ?_;intro w2 P S;have hO3:=s.aQ P S;have y1:=hO3.av.obj.all;have y2:=hO3.obj.all)
  |refine aj tu rfl (.tmp 8) rfl rfl cs hl1 y1 ?_
  |refine aj tu rfl (.tmp 9) rfl rfl f hl2 y2 ?_
  | (go_at_call 271;refine(HC.o _ hO3.az).mono ?_;rintro e w3 ⟨rfl,hb3⟩;by_cases he:r=0;subst he;have HO4:=zh (hO3.aT hb3).tail.tail;clear hO3))
 .exact qbH
 .exact qaB
theorem dzg{α:Type}(C:α->α->Int)(A:Nat->Nat->α->Prop)(Rp:List Value->α->Prop)(v v':zV)(l l':List α)(m:Mem)(w:zW)(hm:m.az w)
(hA:∀b o x,A b o x->∃cs:List Value,cs.length=19/\(∀j u,cs[j]?=some u->m.cell b (o+j)=some u)/\(∀u∈cs,u.oneCell'=true)/\Rp cs x)
(hc:∀cs f x Z w',m.az w'->Rp cs x->Rp f Z->zC 277 #[.agg cs.toArray,.agg f.toArray] w' fun e O=>e=.returned (.j (C x Z))/\Below w'.heap.size w' O)
(hl:Mem.slice A 19 v l)(Q:Mem.slice A 19 v' l'):
 zX 276 #[v,v',.func (.func 277) #[] #[]] w (.j (eB C l l')):=by
 obtain⟨a,c,rfl,h1,h2,h3⟩:=hl;obtain⟨a',c',rfl,z',U,L⟩:=Q;unfold maxLen at h2 U;have HK:=zh (zi h3 L);have Y:=zh (zi hA hc);have HO:=zh (Own.start hm);clear h3 L hA hc;refine au fun R hR=>?_
 go_enter func276,ntmps276
 go_wp2;refine aB [0,1,2,11,12,13] (fun n vs wr=>∃k:Nat,k<=l.length/\n=l.length-k/\vs=[.slice a l.length c,.slice a' l'.length c',.func (.func 277) #[] #[],.slice a l.length c,.j l.length,.j k]/\eB C l l'=eB C (l.drop k) (l'.drop k)/\Own w m wr m []) ?_ ?_
 .exact qbs
 clear HO;rintro X z n vs wr hX-⟨k,hk,rfl,rfl,y,B⟩;have d:=zh y;clear y;simp[bz,lk];by_cases hlt:k<l.length
 case neg=>
  obtain rfl:k=l.length:=zo;have HL:=zh (d.o.trans qh1);have HB:=zh B.aF;clear B hX d;by_cases hs:l.length<l'.length
  .have HL2:=zh (show eB C l l' = -1 by rw[HL.o,zK hs]);exact qal
  .have HL2:=zh (show eB C l l'=0 by rw[HL.o,zJ hs]);exact qal
 obtain⟨b,off,rfl,T⟩:=HK.o.1 qdJ;obtain⟨cs,hl1,q,i,E⟩:=Y.o.1 _ _ _ (T k hlt);have t:=B.al RF 68;have M:=zh (fun(w':zW) (h:m.az w') j u hj=>azk h (q j u hj));have D:=q 0 (cs[0]'zo) (yH _);have r':=bzu B.az D;have J:=B.az;by_cases hlt':k<l'.length
 case neg=>
  have HL2:=zh (show eB C l l'=1 from d.o.trans qh2);have HO:=zh t;have N:=zh i;clear B t T q i E D d hX;generalize l[k]=x at*
  go_wp2_with (first
   |refine aj qB rfl (.tmp 16) rfl rfl cs hl1 (M.o _ J) ?_
   | (refine aA qB rfl (.tmp 8) (.tmp 17) rfl (cs:=cs.toArray) rfl rfl rfl qdU (fun u hu=>N.o u qdL) HO.o.obj ?_;intro w1 g p;have HO2:=zh (HO.o.aQ g p)))
  exact qbc
 obtain⟨b',f',rfl,K⟩:=HK.o.2 qdV;obtain⟨f,hl2,F,I,H⟩:=Y.o.1 _ _ _ (K k hlt');have V:=zh (d.o.trans qhW);have HC:=zh (fun w' (h:m.az w')=>Y.o.2 cs f l[k] l'[k] w' h E H);have W:=zh (fun(w':zW) (h:m.az w') j u hj=>azk h (F j u hj));have G:=F 0 (f[0]'zo) (yH _);have q':=bzu B.az G;have N:=zh (zi i I);have HO:=zh t;clear B t T K q F i I E H D G d;generalize C l[k] l'[k]=r at*
 have HL0:=zh (show r=0->eB C l l'=eB C (l.drop (k+1)) (l'.drop (k+1)) from fun h=>by rw[V.o,h];rfl);have HL1:=zh (show ¬r=0->eB C l l'=r from fun h=>by rw[V.o,rQ,zJ h]);clear V
 go_wp2_with (first
  |refine aj qB rfl (.tmp 16) rfl rfl cs hl1 (M.o _ J) ?_
  |(refine aA qB rfl (.tmp 8) (.tmp 17) rfl (cs:=cs.toArray) rfl rfl rfl qdU (fun u hu=>N.o.1 u qdL) HO.o.obj ?_;intro w1 g p;have s:=(HO.o.aQ g p).al RF 68;have p':=s.av.obj.lt;have h':=s.tail.az)
  |refine aj qB rfl (.tmp 24) rfl rfl f hl2 (W.o _ (HO.o.aQ g p).az) ?_
  |(refine aA qB rfl (.tmp 9) (.tmp 25) rfl (cs:=f.toArray) rfl rfl rfl qdT (fun u hu=>N.o.2 u qdL) s.obj ?_;intro w2 P S;have hO3:=s.aQ P S;have y1:=hO3.av.obj.all;have y2:=hO3.obj.all)
  |refine aj qB rfl (.tmp 8) rfl rfl cs hl1 y1 ?_
  |refine aj qB rfl (.tmp 9) rfl rfl f hl2 y2 ?_
  | (go_at_call 277;refine(HC.o _ hO3.az).mono ?_;rintro e w3 ⟨rfl,hb3⟩;by_cases he:r=0;subst he;have HO4:=zh (hO3.aT hb3).tail.tail;clear hO3))
 .exact qbH
 .exact qaB
def fzH(m:Mem)(v:zV)(fs:List (Nat×Array Value)):Prop:=Mem.uR (fun b o f=>m.cell b o=some (.func (.func f.1) #[] f.2)) v fs
structure fzG (m:Mem) (fs:List (Nat×Array Value)) (rs:List Int):Prop where
 ent:∀i (h:i<fs.length),∀args w,(callFunc (fs[i]).1 args).run prog w=.ok (.enter (fs[i]).1 args) w
 run:∀i (h:i<fs.length) (h2:i<rs.length) (w:zW),m.az w->zX (fs[i]).1 (fs[i]).2 w (.j rs[i])
 le:rs.length<=fs.length
 rest:rs.length<fs.length->∃i,∃h:i<rs.length,rs[i]≠0
theorem lL(v:zV)(fs:List (Nat×Array Value))(d:List Int)(m:Mem)(w:zW)(T:m.az w)(V:fzH m v fs)(s:fzG m fs d):
 zX 219 #[v] w (.j (jF d)):=by
 obtain⟨a,c,rfl,p1,Q,J⟩:=V;unfold maxLen at Q;have HK:=zh J;have y:=zh (Own.start T);have C:=zh s;clear J s;refine au fun R K=>?_
 go_enter func219,ntmps219
 go_wp2;refine aB [6,7,8] (fun q I F=>∃(i:Nat),i<=fs.length/\q=fs.length-i/\I=[.slice a fs.length c,.j (fs.length:Int),.j (i:Int)]/\(∀j (h:j<d.length),j<i->d[j]=0)/\(i<fs.length->i<d.length)/\jF d=jF (d.drop i)/\Own w m F m []) ?_ ?_
 .refine⟨_,0,zG _,rfl,rfl,fun j _ h=>absurd h (xY _),fun h=>?_,rfl,y.o⟩;by_cases e:d.length<fs.length
  .obtain⟨i,hi,-⟩:=C.o.rest e;omega
  .omega
 clear y;rintro X z q I F G-⟨i,hi,rfl,rfl,N,M,L,g⟩;simp[bz,lk];have D:=zh (zi N (zi M L));clear N M L;by_cases hlt:i<fs.length
 case neg=>
  have HR:=zh (show jF d=0 by
   rw[D.o.2.2,zQ (by have:=C.o.le;omega)];rfl)
  have HB:=zh g.aF;clear g G;go_wp2;exact K.o _ _ ⟨by rw[HR.o]<;>rfl,HB.o⟩
 have p:=D.o.2.1 hlt;obtain⟨b,off,rfl,H⟩:=HK.o qdJ;have x1:=azk g.az (H i hlt);have xl:=bzu g.az (H i hlt);have u:=zh (C.o.run i hlt p F g.az);have Z:=C.o.ent i hlt;have B:=zh (QE d p);have l:=zh (show d[i]=0->(∀j (h:j<d.length),j<i+1->d[j]=0)/\(i+1<fs.length->i+1<d.length)/\jF d=jF (d.drop (i+1)) from fun h=>by
  have O:∀j (h:j<d.length),j<i+1->d[j]=0:=fun j U Y=>by
   by_cases e:j=i
   .exact qbR
   .exact D.o.1 j U zo
  refine⟨O,fun Y=>?_,?_⟩
  .by_cases e:d.length<fs.length
   .obtain⟨k,hk,S⟩:=C.o.rest e;have:¬k<i+1:=fun W=>S (O k hk W);omega
   .omega
  .rw[D.o.2.2,B.o,h];rfl)
 have n:=zh (show d[i]≠0->jF d=d[i] from fun h=>by
  rw[D.o.2.2,B.o,rQ,zJ h])
 have y:=zh g;generalize d[i]=r at*
 generalize (fs[i]).1=f at*
 generalize (fs[i]).2=P at*
 clear g H
 go_wp2_with fail
 refine u.o.mono ?_;rintro e w1 ⟨rfl,t⟩;have x:=zh (y.o.aT t);clear y u t Z;by_cases E:r=0
 .subst E;have A:=zh (l.o rfl);clear l n;go_wp2;exact G.o _ _ _ zo rfl ⟨i+1,zo,rfl,rfl,A.o.1,A.o.2.1,A.o.2.2,x.o⟩
 .have hd:(r != 0)=true:=bne_iff_ne.2 E;have A:=zh (n.o E);clear l n E G;go_wp2;exact K.o _ _ ⟨by rw[A.o]<;>rfl,x.o.aF⟩
theorem iL{w0 w:zW}{m mk:Mem}{L:List bA}(t:TypeId)(arr:Array Value)(h:Own w0 m w mk L):∃mk',mk.le mk'/\(∀i u,arr[i]?=some u->mk'.cell w.heap.size i=some u)/\Own w0 m (w.alloc (.cells arr t)) mk' L:=
 have a:=h.al arr t
 ⟨_,dz9 a.j6,fun _ _ hi=>bzy a.obj hi,a.iC⟩
theorem QQ:∀args w,(callFunc 220 args).run prog w=.ok (.enter 220 args) w:=enters_of func220 zk rfl
theorem QP:∀args w,(callFunc 222 args).run prog w=.ok (.enter 222 args) w:=enters_of func222 zk rfl
theorem QO:∀args w,(callFunc 223 args).run prog w=.ok (.enter 223 args) w:=enters_of func223 zk rfl
theorem QN:∀args w,(callFunc 226 args).run prog w=.ok (.enter 226 args) w:=enters_of func226 zk rfl
theorem O4(h g:Nat)(a b:Bool)(m:Mem)(w:zW)(c:m.az w)(f:m.cell h 0=some (.bool a))(d:m.cell g 0=some (.bool b)):
 zX 220 #[.pointer (some ⟨h,0,none⟩),.pointer (some ⟨g,0,none⟩)] w (.j (Bb a b)):=by
 have k:=azk c f;have j:=azk c d;have p:=bzu c f;have n:=bzu c d;have i:=zh (ET a b w);refine au fun R hR=>?_
 go_enter func220,ntmps220
 go_wp2_with (go_at_call 221;refine i.o.mono ?_;rintro e l ⟨rfl,hb1⟩)
 exact qaK
abbrev IQ(g1 g2:Nat):List (Nat×Array Value):=[(220,#[.pointer (some ⟨g1,0,none⟩),.pointer (some ⟨g2,0,none⟩)]),(222,#[.pointer (some ⟨g1,0,none⟩),.pointer (some ⟨g2,0,none⟩)]),(223,#[.pointer (some ⟨g1,0,none⟩),.pointer (some ⟨g2,0,none⟩)]),(226,#[.pointer (some ⟨g1,0,none⟩),.pointer (some ⟨g2,0,none⟩)])]
theorem XO(b a:Nat):∀i (h:i<(IQ b a).length),∀args w,(callFunc ((IQ b a)[i]).1 args).run prog w=.ok (.enter ((IQ b a)[i]).1 args) w:=fun i h=>by
 match i,h with
 |0,_=>exact QQ
 |1,_=>exact QP
 |2,_=>exact QO
 |3,_=>exact QN
theorem fzK(N N':Array Value)(c:List Int)(hk:c.length=4)(m:Mem)(w:zW)(A:m.az w)
(x:∀(M:Mem) (g l:Nat),m.le M->(∀j u,N[j]?=some u->M.cell g j=some u)->(∀j u,N'[j]?=some u->M.cell l j=some u)->∀i (h:i<(IQ g l).length) (y:i<c.length) (w':zW),M.az w' ->
  zC ((IQ g l)[i]).1 ((IQ g l)[i]).2 w' fun e n=>e=.returned (.j c[i])/\Below w'.heap.size w' n):
 zX 172 #[.agg N,.agg N'] w (.j (jF c)):=by
 obtain⟨E,v,z,f⟩:=iL 33 N (Own.start A);obtain⟨D,p,s,d⟩:=iL 33 N' f;obtain⟨t,k,b,a⟩:=iL 266 #[.func (.func 220) #[] #[.pointer (some ⟨w.heap.size,0,none⟩),.pointer (some ⟨(w.heap.size+1),0,none⟩)],.func (.func 222) #[] #[.pointer (some ⟨w.heap.size,0,none⟩),.pointer (some ⟨(w.heap.size+1),0,none⟩)],.func (.func 223) #[] #[.pointer (some ⟨w.heap.size,0,none⟩),.pointer (some ⟨(w.heap.size+1),0,none⟩)],.func (.func 226) #[] #[.pointer (some ⟨w.heap.size,0,none⟩),.pointer (some ⟨(w.heap.size+1),0,none⟩)]] d;simp only[bB]at s b;have B:=zh (lL (.slice (some ⟨w.heap.size+1+1,0,none⟩) 4 4) (IQ w.heap.size (w.heap.size+1)) c t _ a.az
  ⟨some ⟨w.heap.size+1+1,0,none⟩,4,rfl,zS,by simp[maxLen],fun _=>⟨_,0,rfl,fun i h=>by
   rw[yZ]
   match i,h with
   |0,_=>exact b 0 _ rfl
   |1,_=>exact b 1 _ rfl
   |2,_=>exact b 2 _ rfl
   | 3,_=>exact b 3 _ rfl⟩⟩
  ⟨XO _ _,fun i h y w' q=>x t _ _ (Mem.le_trans v (Mem.le_trans p k)) (fun j u r=>bzv (Mem.le_trans p k) (z j u r)) (fun j u r=>bzv k (s j u r)) i h y w' q,by simp[hk],fun h=>absurd h qeu⟩)
 have HO:=zh a;clear f d a z s b v p k x;refine au fun R hR=>?_
 go_enter func172,ntmps172
 go_wp2_with (go_at_call 219;refine B.o.mono ?_;rintro e C ⟨rfl,hb1⟩)
 exact qay
theorem Uk:∀args w,(callFunc 264 args).run prog w=.ok (.enter 264 args) w:=enters_of func264 zk rfl
theorem Uj:∀args w,(callFunc 265 args).run prog w=.ok (.enter 265 args) w:=enters_of func265 zk rfl
theorem Ui:∀args w,(callFunc 266 args).run prog w=.ok (.enter 266 args) w:=enters_of func266 zk rfl
abbrev IU(g1 g2:Nat):List (Nat×Array Value):=[(264,#[.pointer (some ⟨g1,0,none⟩),.pointer (some ⟨g2,0,none⟩)]),(265,#[.pointer (some ⟨g1,0,none⟩),.pointer (some ⟨g2,0,none⟩)]),(266,#[.pointer (some ⟨g1,0,none⟩),.pointer (some ⟨g2,0,none⟩)])]
theorem XQ(b a:Nat):∀i (h:i<(IU b a).length),∀args w,(callFunc ((IU b a)[i]).1 args).run prog w=.ok (.enter ((IU b a)[i]).1 args) w:=fun i h=>by
 match i,h with
 |0,_=>exact Uk
 |1,_=>exact Uj
 |2,_=>exact Ui
theorem fzM(N N':Array Value)(b:List Int)(hk:b.length=3)(m:Mem)(w:zW)(A:m.az w)
(x:∀(M:Mem) (g l:Nat),m.le M->(∀j u,N[j]?=some u->M.cell g j=some u)->(∀j u,N'[j]?=some u->M.cell l j=some u)->∀i (h:i<(IU g l).length) (y:i<b.length) (w':zW),M.az w' ->
  zC ((IU g l)[i]).1 ((IU g l)[i]).2 w' fun e n=>e=.returned (.j b[i])/\Below w'.heap.size w' n):
 zX 225 #[.agg N,.agg N'] w (.j (jF b)):=by
 obtain⟨E,v,z,d⟩:=iL 50 N (Own.start A);obtain⟨D,p,s,c⟩:=iL 50 N' d;obtain⟨t,k,f,a⟩:=iL 266 #[.func (.func 264) #[] #[.pointer (some ⟨w.heap.size,0,none⟩),.pointer (some ⟨(w.heap.size+1),0,none⟩)],.func (.func 265) #[] #[.pointer (some ⟨w.heap.size,0,none⟩),.pointer (some ⟨(w.heap.size+1),0,none⟩)],.func (.func 266) #[] #[.pointer (some ⟨w.heap.size,0,none⟩),.pointer (some ⟨(w.heap.size+1),0,none⟩)]] c;simp only[bB]at s f;have B:=zh (lL (.slice (some ⟨w.heap.size+1+1,0,none⟩) 3 3) (IU w.heap.size (w.heap.size+1)) b t _ a.az
  ⟨some ⟨w.heap.size+1+1,0,none⟩,3,rfl,zS,by simp[maxLen],fun _=>⟨_,0,rfl,fun i h=>by
   rw[yZ]
   match i,h with
   |0,_=>exact f 0 _ rfl
   |1,_=>exact f 1 _ rfl
   | 2,_=>exact f 2 _ rfl⟩⟩
  ⟨XQ _ _,fun i h y w' q=>x t _ _ (Mem.le_trans v (Mem.le_trans p k)) (fun j u r=>bzv (Mem.le_trans p k) (z j u r)) (fun j u r=>bzv k (s j u r)) i h y w' q,by simp[hk],fun h=>absurd h qeu⟩)
 have HO:=zh a;clear d c a z s f v p k x;refine au fun R hR=>?_
 go_enter func225,ntmps225
 go_wp2_with (go_at_call 219;refine B.o.mono ?_;rintro e C ⟨rfl,hb1⟩)
 exact qay
theorem Us:∀args w,(callFunc 291 args).run prog w=.ok (.enter 291 args) w:=enters_of func291 zk rfl
theorem Ur:∀args w,(callFunc 292 args).run prog w=.ok (.enter 292 args) w:=enters_of func292 zk rfl
abbrev IX(g1 g2:Nat):List (Nat×Array Value):=[(291,#[.pointer (some ⟨g1,0,none⟩),.pointer (some ⟨g2,0,none⟩)]),(292,#[.pointer (some ⟨g1,0,none⟩),.pointer (some ⟨g2,0,none⟩)])]
theorem XU(b a:Nat):∀i (h:i<(IX b a).length),∀args w,(callFunc ((IX b a)[i]).1 args).run prog w=.ok (.enter ((IX b a)[i]).1 args) w:=fun i h=>by
 match i,h with
 |0,_=>exact Us
 |1,_=>exact Ur
theorem fzP(N N':Array Value)(b:List Int)(hk:b.length=2)(m:Mem)(w:zW)(A:m.az w)
(x:∀(M:Mem) (g k:Nat),m.le M->(∀j u,N[j]?=some u->M.cell g j=some u)->(∀j u,N'[j]?=some u->M.cell k j=some u)->∀i (h:i<(IX g k).length) (y:i<b.length) (w':zW),M.az w' ->
  zC ((IX g k)[i]).1 ((IX g k)[i]).2 w' fun e n=>e=.returned (.j b[i])/\Below w'.heap.size w' n):
 zX 268 #[.agg N,.agg N'] w (.j (jF b)):=by
 obtain⟨E,v,z,d⟩:=iL 35 N (Own.start A);obtain⟨D,p,s,c⟩:=iL 35 N' d;obtain⟨t,f,l,a⟩:=iL 266 #[.func (.func 291) #[] #[.pointer (some ⟨w.heap.size,0,none⟩),.pointer (some ⟨(w.heap.size+1),0,none⟩)],.func (.func 292) #[] #[.pointer (some ⟨w.heap.size,0,none⟩),.pointer (some ⟨(w.heap.size+1),0,none⟩)]] c;simp only[bB]at s l;have B:=zh (lL (.slice (some ⟨w.heap.size+1+1,0,none⟩) 2 2) (IX w.heap.size (w.heap.size+1)) b t _ a.az
  ⟨some ⟨w.heap.size+1+1,0,none⟩,2,rfl,zS,by simp[maxLen],fun _=>⟨_,0,rfl,fun i h=>by
   rw[yZ]
   match i,h with
   |0,_=>exact l 0 _ rfl
   | 1,_=>exact l 1 _ rfl⟩⟩
  ⟨XU _ _,fun i h y w' q=>x t _ _ (Mem.le_trans v (Mem.le_trans p f)) (fun j u r=>bzv (Mem.le_trans p f) (z j u r)) (fun j u r=>bzv f (s j u r)) i h y w' q,by simp[hk],fun h=>absurd h qeu⟩)
 have HO:=zh a;clear d c a z s l v p f x;refine au fun R hR=>?_
 go_enter func268,ntmps268
 go_wp2_with (go_at_call 219;refine B.o.mono ?_;rintro e C ⟨rfl,hb1⟩)
 exact qay
theorem Uh:∀args w,(callFunc 269 args).run prog w=.ok (.enter 269 args) w:=enters_of func269 zk rfl
theorem Ug:∀args w,(callFunc 275 args).run prog w=.ok (.enter 275 args) w:=enters_of func275 zk rfl
abbrev IR(g1 g2:Nat):List (Nat×Array Value):=[(269,#[.pointer (some ⟨g1,0,none⟩),.pointer (some ⟨g2,0,none⟩)]),(275,#[.pointer (some ⟨g1,0,none⟩),.pointer (some ⟨g2,0,none⟩)])]
theorem XP(b a:Nat):∀i (h:i<(IR b a).length),∀args w,(callFunc ((IR b a)[i]).1 args).run prog w=.ok (.enter ((IR b a)[i]).1 args) w:=fun i h=>by
 match i,h with
 |0,_=>exact Uh
 |1,_=>exact Ug
theorem fzL(N N':Array Value)(b:List Int)(hk:b.length=2)(m:Mem)(w:zW)(A:m.az w)
(x:∀(M:Mem) (g k:Nat),m.le M->(∀j u,N[j]?=some u->M.cell g j=some u)->(∀j u,N'[j]?=some u->M.cell k j=some u)->∀i (h:i<(IR g k).length) (y:i<b.length) (w':zW),M.az w' ->
  zC ((IR g k)[i]).1 ((IR g k)[i]).2 w' fun e n=>e=.returned (.j b[i])/\Below w'.heap.size w' n):
 zX 228 #[.agg N,.agg N'] w (.j (jF b)):=by
 obtain⟨E,v,z,d⟩:=iL 62 N (Own.start A);obtain⟨D,p,s,c⟩:=iL 62 N' d;obtain⟨t,f,l,a⟩:=iL 266 #[.func (.func 269) #[] #[.pointer (some ⟨w.heap.size,0,none⟩),.pointer (some ⟨(w.heap.size+1),0,none⟩)],.func (.func 275) #[] #[.pointer (some ⟨w.heap.size,0,none⟩),.pointer (some ⟨(w.heap.size+1),0,none⟩)]] c;simp only[bB]at s l;have B:=zh (lL (.slice (some ⟨w.heap.size+1+1,0,none⟩) 2 2) (IR w.heap.size (w.heap.size+1)) b t _ a.az
  ⟨some ⟨w.heap.size+1+1,0,none⟩,2,rfl,zS,by simp[maxLen],fun _=>⟨_,0,rfl,fun i h=>by
   rw[yZ]
   match i,h with
   |0,_=>exact l 0 _ rfl
   | 1,_=>exact l 1 _ rfl⟩⟩
  ⟨XP _ _,fun i h y w' q=>x t _ _ (Mem.le_trans v (Mem.le_trans p f)) (fun j u r=>bzv (Mem.le_trans p f) (z j u r)) (fun j u r=>bzv f (s j u r)) i h y w' q,by simp[hk],fun h=>absurd h qeu⟩)
 have HO:=zh a;clear d c a z s l v p f x;refine au fun R hR=>?_
 go_enter func228,ntmps228
 go_wp2_with (go_at_call 219;refine B.o.mono ?_;rintro e C ⟨rfl,hb1⟩)
 exact qay
theorem Uq:∀args w,(callFunc 272 args).run prog w=.ok (.enter 272 args) w:=enters_of func272 zk rfl
theorem Uo:∀args w,(callFunc 273 args).run prog w=.ok (.enter 273 args) w:=enters_of func273 zk rfl
theorem Un:∀args w,(callFunc 274 args).run prog w=.ok (.enter 274 args) w:=enters_of func274 zk rfl
abbrev IW(g1 g2:Nat):List (Nat×Array Value):=[(272,#[.pointer (some ⟨g1,0,none⟩),.pointer (some ⟨g2,0,none⟩)]),(273,#[.pointer (some ⟨g1,0,none⟩),.pointer (some ⟨g2,0,none⟩)]),(274,#[.pointer (some ⟨g1,0,none⟩),.pointer (some ⟨g2,0,none⟩)])]
theorem XT(b a:Nat):∀i (h:i<(IW b a).length),∀args w,(callFunc ((IW b a)[i]).1 args).run prog w=.ok (.enter ((IW b a)[i]).1 args) w:=fun i h=>by
 match i,h with
 |0,_=>exact Uq
 |1,_=>exact Uo
 |2,_=>exact Un
theorem fzO(N N':Array Value)(b:List Int)(hk:b.length=3)(m:Mem)(w:zW)(A:m.az w)
(x:∀(M:Mem) (g l:Nat),m.le M->(∀j u,N[j]?=some u->M.cell g j=some u)->(∀j u,N'[j]?=some u->M.cell l j=some u)->∀i (h:i<(IW g l).length) (y:i<b.length) (w':zW),M.az w' ->
  zC ((IW g l)[i]).1 ((IW g l)[i]).2 w' fun e n=>e=.returned (.j b[i])/\Below w'.heap.size w' n):
 zX 271 #[.agg N,.agg N'] w (.j (jF b)):=by
 obtain⟨E,v,z,d⟩:=iL 82 N (Own.start A);obtain⟨D,p,s,c⟩:=iL 82 N' d;obtain⟨t,k,f,a⟩:=iL 266 #[.func (.func 272) #[] #[.pointer (some ⟨w.heap.size,0,none⟩),.pointer (some ⟨(w.heap.size+1),0,none⟩)],.func (.func 273) #[] #[.pointer (some ⟨w.heap.size,0,none⟩),.pointer (some ⟨(w.heap.size+1),0,none⟩)],.func (.func 274) #[] #[.pointer (some ⟨w.heap.size,0,none⟩),.pointer (some ⟨(w.heap.size+1),0,none⟩)]] c;simp only[bB]at s f;have B:=zh (lL (.slice (some ⟨w.heap.size+1+1,0,none⟩) 3 3) (IW w.heap.size (w.heap.size+1)) b t _ a.az
  ⟨some ⟨w.heap.size+1+1,0,none⟩,3,rfl,zS,by simp[maxLen],fun _=>⟨_,0,rfl,fun i h=>by
   rw[yZ]
   match i,h with
   |0,_=>exact f 0 _ rfl
   |1,_=>exact f 1 _ rfl
   | 2,_=>exact f 2 _ rfl⟩⟩
  ⟨XT _ _,fun i h y w' q=>x t _ _ (Mem.le_trans v (Mem.le_trans p k)) (fun j u r=>bzv (Mem.le_trans p k) (z j u r)) (fun j u r=>bzv k (s j u r)) i h y w' q,by simp[hk],fun h=>absurd h qeu⟩)
 have HO:=zh a;clear d c a z s f v p k x;refine au fun R hR=>?_
 go_enter func271,ntmps271
 go_wp2_with (go_at_call 219;refine B.o.mono ?_;rintro e C ⟨rfl,hb1⟩)
 exact qay
theorem Um:∀args w,(callFunc 278 args).run prog w=.ok (.enter 278 args) w:=enters_of func278 zk rfl
theorem Ul:∀args w,(callFunc 279 args).run prog w=.ok (.enter 279 args) w:=enters_of func279 zk rfl
abbrev IV(g1 g2:Nat):List (Nat×Array Value):=[(278,#[.pointer (some ⟨g1,0,none⟩),.pointer (some ⟨g2,0,none⟩)]),(279,#[.pointer (some ⟨g1,0,none⟩),.pointer (some ⟨g2,0,none⟩)])]
theorem XR(b a:Nat):∀i (h:i<(IV b a).length),∀args w,(callFunc ((IV b a)[i]).1 args).run prog w=.ok (.enter ((IV b a)[i]).1 args) w:=fun i h=>by
 match i,h with
 |0,_=>exact Um
 |1,_=>exact Ul
theorem fzN(N N':Array Value)(b:List Int)(hk:b.length=2)(m:Mem)(w:zW)(A:m.az w)
(x:∀(M:Mem) (g k:Nat),m.le M->(∀j u,N[j]?=some u->M.cell g j=some u)->(∀j u,N'[j]?=some u->M.cell k j=some u)->∀i (h:i<(IV g k).length) (y:i<b.length) (w':zW),M.az w' ->
  zC ((IV g k)[i]).1 ((IV g k)[i]).2 w' fun e n=>e=.returned (.j b[i])/\Below w'.heap.size w' n):
 zX 277 #[.agg N,.agg N'] w (.j (jF b)):=by
 obtain⟨E,v,z,d⟩:=iL 68 N (Own.start A);obtain⟨D,p,s,c⟩:=iL 68 N' d;obtain⟨t,f,l,a⟩:=iL 266 #[.func (.func 278) #[] #[.pointer (some ⟨w.heap.size,0,none⟩),.pointer (some ⟨(w.heap.size+1),0,none⟩)],.func (.func 279) #[] #[.pointer (some ⟨w.heap.size,0,none⟩),.pointer (some ⟨(w.heap.size+1),0,none⟩)]] c;simp only[bB]at s l;have B:=zh (lL (.slice (some ⟨w.heap.size+1+1,0,none⟩) 2 2) (IV w.heap.size (w.heap.size+1)) b t _ a.az
  ⟨some ⟨w.heap.size+1+1,0,none⟩,2,rfl,zS,by simp[maxLen],fun _=>⟨_,0,rfl,fun i h=>by
   rw[yZ]
   match i,h with
   |0,_=>exact l 0 _ rfl
   | 1,_=>exact l 1 _ rfl⟩⟩
  ⟨XR _ _,fun i h y w' q=>x t _ _ (Mem.le_trans v (Mem.le_trans p f)) (fun j u r=>bzv (Mem.le_trans p f) (z j u r)) (fun j u r=>bzv f (s j u r)) i h y w' q,by simp[hk],fun h=>absurd h qeu⟩)
 have HO:=zh a;clear d c a z s l v p f x;refine au fun R hR=>?_
 go_enter func277,ntmps277
 go_wp2_with (go_at_call 219;refine B.o.mono ?_;rintro e C ⟨rfl,hb1⟩)
 exact qay
theorem dza(g i:Nat)(cs a:List Value)(r:Int)(m:Mem)(w:zW)(b:m.az w)(q:cs.length=6)(c:a.length=6)(h:∀j u,cs[j]?=some u->m.cell g (1+j)=some u)(f:∀j u,a[j]?=some u->m.cell i (1+j)=some u)
(n:zX 133 #[.agg cs.toArray,.agg a.toArray] w (.j r)):
 zX 222 #[.pointer (some ⟨g,0,none⟩),.pointer (some ⟨i,0,none⟩)] w (.j r):=by
 have l:∀j u,cs[j]?=some u->w.cell? ⟨g,1+j,none⟩=some u:=fun j u d=>azk b (h j u d);have k:∀j u,a[j]?=some u->w.cell? ⟨i,1+j,none⟩=some u:=fun j u d=>azk b (f j u d);have x:=bzu b (h 0 (cs[0]'zo) (yH _));have v:=bzu b (f 0 (a[0]'zo) (yH _));have s:=zh n;have p:=zh (zi l k);clear n h f l k;refine au fun R hR=>?_
 go_enter func222,ntmps222
 go_wp2_with (first|refine aj rO rfl (.tmp 3) rfl rfl cs q p.o.1 ?_|refine aj rO rfl (.tmp 5) rfl rfl a c p.o.2 ?_|(go_at_call 133;refine s.o.mono ?_;rintro e t ⟨rfl,hb1⟩))
 exact qaK
theorem dzs(g i:Nat)(cs a:List Value)(r:Int)(m:Mem)(w:zW)(b:m.az w)(q:cs.length=9)(c:a.length=9)(h:∀j u,cs[j]?=some u->m.cell g (0+j)=some u)(f:∀j u,a[j]?=some u->m.cell i (0+j)=some u)
(n:zX 172 #[.agg cs.toArray,.agg a.toArray] w (.j r)):
 zX 291 #[.pointer (some ⟨g,0,none⟩),.pointer (some ⟨i,0,none⟩)] w (.j r):=by
 have l:∀j u,cs[j]?=some u->w.cell? ⟨g,0+j,none⟩=some u:=fun j u d=>azk b (h j u d);have k:∀j u,a[j]?=some u->w.cell? ⟨i,0+j,none⟩=some u:=fun j u d=>azk b (f j u d);have x:=bzu b (h 0 (cs[0]'zo) (yH _));have v:=bzu b (f 0 (a[0]'zo) (yH _));have s:=zh n;have p:=zh (zi l k);clear n h f l k;refine au fun R hR=>?_
 go_enter func291,ntmps291
 go_wp2_with (first|refine aj jI rfl (.tmp 3) rfl rfl cs q p.o.1 ?_|refine aj jI rfl (.tmp 5) rfl rfl a c p.o.2 ?_|(go_at_call 172;refine s.o.mono ?_;rintro e t ⟨rfl,hb1⟩))
 exact qaK
theorem dzr(g i:Nat)(cs a:List Value)(r:Int)(m:Mem)(w:zW)(b:m.az w)(q:cs.length=9)(c:a.length=9)(h:∀j u,cs[j]?=some u->m.cell g (9+j)=some u)(f:∀j u,a[j]?=some u->m.cell i (9+j)=some u)
(n:zX 172 #[.agg cs.toArray,.agg a.toArray] w (.j r)):
 zX 292 #[.pointer (some ⟨g,0,none⟩),.pointer (some ⟨i,0,none⟩)] w (.j r):=by
 have l:∀j u,cs[j]?=some u->w.cell? ⟨g,9+j,none⟩=some u:=fun j u d=>azk b (h j u d);have k:∀j u,a[j]?=some u->w.cell? ⟨i,9+j,none⟩=some u:=fun j u d=>azk b (f j u d);have x:=bzu b (h 0 (cs[0]'zo) (yH _));have v:=bzu b (f 0 (a[0]'zo) (yH _));have s:=zh n;have p:=zh (zi l k);clear n h f l k;refine au fun R hR=>?_
 go_enter func292,ntmps292
 go_wp2_with (first|refine aj jI rfl (.tmp 3) rfl rfl cs q p.o.1 ?_|refine aj jI rfl (.tmp 5) rfl rfl a c p.o.2 ?_|(go_at_call 172;refine s.o.mono ?_;rintro e t ⟨rfl,hb1⟩))
 exact qaK
theorem dzo(g i:Nat)(cs a:List Value)(r:Int)(m:Mem)(w:zW)(b:m.az w)(q:cs.length=18)(c:a.length=18)(h:∀j u,cs[j]?=some u->m.cell g (2+j)=some u)(f:∀j u,a[j]?=some u->m.cell i (2+j)=some u)
(n:zX 268 #[.agg cs.toArray,.agg a.toArray] w (.j r)):
 zX 274 #[.pointer (some ⟨g,0,none⟩),.pointer (some ⟨i,0,none⟩)] w (.j r):=by
 have l:∀j u,cs[j]?=some u->w.cell? ⟨g,2+j,none⟩=some u:=fun j u d=>azk b (h j u d);have k:∀j u,a[j]?=some u->w.cell? ⟨i,2+j,none⟩=some u:=fun j u d=>azk b (f j u d);have x:=bzu b (h 0 (cs[0]'zo) (yH _));have v:=bzu b (f 0 (a[0]'zo) (yH _));have s:=zh n;have p:=zh (zi l k);clear n h f l k;refine au fun R hR=>?_
 go_enter func274,ntmps274
 go_wp2_with (first|refine aj ek rfl (.tmp 3) rfl rfl cs q p.o.1 ?_|refine aj ek rfl (.tmp 5) rfl rfl a c p.o.2 ?_|(go_at_call 268;refine s.o.mono ?_;rintro e t ⟨rfl,hb1⟩))
 exact qaK
theorem dzm(g i:Nat)(cs a:List Value)(r:Int)(m:Mem)(w:zW)(b:m.az w)(q:cs.length=18)(c:a.length=18)(h:∀j u,cs[j]?=some u->m.cell g (1+j)=some u)(f:∀j u,a[j]?=some u->m.cell i (1+j)=some u)
(n:zX 268 #[.agg cs.toArray,.agg a.toArray] w (.j r)):
 zX 279 #[.pointer (some ⟨g,0,none⟩),.pointer (some ⟨i,0,none⟩)] w (.j r):=by
 have l:∀j u,cs[j]?=some u->w.cell? ⟨g,1+j,none⟩=some u:=fun j u d=>azk b (h j u d);have k:∀j u,a[j]?=some u->w.cell? ⟨i,1+j,none⟩=some u:=fun j u d=>azk b (f j u d);have x:=bzu b (h 0 (cs[0]'zo) (yH _));have v:=bzu b (f 0 (a[0]'zo) (yH _));have s:=zh n;have p:=zh (zi l k);clear n h f l k;refine au fun R hR=>?_
 go_enter func279,ntmps279
 go_wp2_with (first|refine aj ek rfl (.tmp 3) rfl rfl cs q p.o.1 ?_|refine aj ek rfl (.tmp 5) rfl rfl a c p.o.2 ?_|(go_at_call 268;refine s.o.mono ?_;rintro e t ⟨rfl,hb1⟩))
 exact qaK
theorem cz9(g h:Nat)(u d:zV)(r:Int)(m:Mem)(w:zW)(a:m.az w)(c:m.cell g 7=some (u))(b:m.cell h 7=some (d))
(f:zX 224 #[u,d,.func (.func 225) #[] #[]] w (.j r)):
 zX 223 #[.pointer (some ⟨g,0,none⟩),.pointer (some ⟨h,0,none⟩)] w (.j r):=by
 have l:=azk a c;have k:=azk a b;have p:=bzu a c;have n:=bzu a b;have i:=zh f;clear f c b;refine au fun R hR=>?_
 go_enter func223,ntmps223
 go_wp2_with (go_at_call 224;refine i.o.mono ?_;rintro e j ⟨rfl,hb1⟩)
 exact qaK
theorem cz8(g h:Nat)(u d:zV)(r:Int)(m:Mem)(w:zW)(a:m.az w)(c:m.cell g 8=some (u))(b:m.cell h 8=some (d))
(f:zX 227 #[u,d,.func (.func 228) #[] #[]] w (.j r)):
 zX 226 #[.pointer (some ⟨g,0,none⟩),.pointer (some ⟨h,0,none⟩)] w (.j r):=by
 have l:=azk a c;have k:=azk a b;have p:=bzu a c;have n:=bzu a b;have i:=zh f;clear f c b;refine au fun R hR=>?_
 go_enter func226,ntmps226
 go_wp2_with (go_at_call 227;refine i.o.mono ?_;rintro e j ⟨rfl,hb1⟩)
 exact qaK
theorem dzc(g h:Nat)(u d:zV)(r:Int)(m:Mem)(w:zW)(a:m.az w)(c:m.cell g 0=some (u))(b:m.cell h 0=some (d))
(f:zX 270 #[u,d,.func (.func 271) #[] #[]] w (.j r)):
 zX 269 #[.pointer (some ⟨g,0,none⟩),.pointer (some ⟨h,0,none⟩)] w (.j r):=by
 have l:=azk a c;have k:=azk a b;have p:=bzu a c;have n:=bzu a b;have i:=zh f;clear f c b;refine au fun R hR=>?_
 go_enter func269,ntmps269
 go_wp2_with (go_at_call 270;refine i.o.mono ?_;rintro e j ⟨rfl,hb1⟩)
 exact qaK
theorem dzb(g h:Nat)(u d:zV)(r:Int)(m:Mem)(w:zW)(a:m.az w)(c:m.cell g 1=some (u))(b:m.cell h 1=some (d))
(f:zX 276 #[u,d,.func (.func 277) #[] #[]] w (.j r)):
 zX 275 #[.pointer (some ⟨g,0,none⟩),.pointer (some ⟨h,0,none⟩)] w (.j r):=by
 have l:=azk a c;have k:=azk a b;have p:=bzu a c;have n:=bzu a b;have i:=zh f;clear f c b;refine au fun R hR=>?_
 go_enter func275,ntmps275
 go_wp2_with (go_at_call 276;refine i.o.mono ?_;rintro e j ⟨rfl,hb1⟩)
 exact qaK
theorem dzq(g h:Nat)(u d:ByteArray)(r:Int)(m:Mem)(w:zW)(a:m.az w)(c:m.cell g 0=some (.string u))(b:m.cell h 0=some (.string d))
(f:zX 170 #[.string u,.string d] w (.j r)):
 zX 272 #[.pointer (some ⟨g,0,none⟩),.pointer (some ⟨h,0,none⟩)] w (.j r):=by
 have l:=azk a c;have k:=azk a b;have p:=bzu a c;have n:=bzu a b;have i:=zh f;clear f c b;refine au fun R hR=>?_
 go_enter func272,ntmps272
 go_wp2_with (go_at_call 170;refine i.o.mono ?_;rintro e j ⟨rfl,hb1⟩)
 exact qaK
theorem dzp(g h:Nat)(u d:Int)(r:Int)(m:Mem)(w:zW)(a:m.az w)(c:m.cell g 1=some (.j u))(b:m.cell h 1=some (.j d))
(f:zX 169 #[.int .i64 u,.int .i64 d] w (.j r)):
 zX 273 #[.pointer (some ⟨g,0,none⟩),.pointer (some ⟨h,0,none⟩)] w (.j r):=by
 have l:=azk a c;have k:=azk a b;have p:=bzu a c;have n:=bzu a b;have i:=zh f;clear f c b;refine au fun R hR=>?_
 go_enter func273,ntmps273
 go_wp2_with (go_at_call 169;refine i.o.mono ?_;rintro e j ⟨rfl,hb1⟩)
 exact qaK
theorem dzn(g h:Nat)(u d:zV)(r:Int)(m:Mem)(w:zW)(a:m.az w)(c:m.cell g 0=some (u))(b:m.cell h 0=some (d))
(f:zX 127 #[.agg #[u],.agg #[d]] w (.j r)):
 zX 278 #[.pointer (some ⟨g,0,none⟩),.pointer (some ⟨h,0,none⟩)] w (.j r):=by
 have l:=azk a c;have k:=azk a b;have p:=bzu a c;have n:=bzu a b;have i:=zh f;clear f c b;refine au fun R hR=>?_
 go_enter func278,ntmps278
 go_wp2_with (go_at_call 127;refine i.o.mono ?_;rintro e j ⟨rfl,hb1⟩)
 exact qaK
theorem dzl(g j:Nat){r q:Nat->Nat->Vd->Prop}(u i:zV)(l l':List Vd)(m:Mem)(w:zW)(b:m.az w)(h:m.cell g 0=some u)(f:m.cell j 0=some i)(p:Mem.slice r 18 u l)(o:Mem.slice q 18 i l'):
 zX 264 #[.pointer (some ⟨g,0,none⟩),.pointer (some ⟨j,0,none⟩)] w (.j (Lib.compareInt l.length l'.length)):=by
 obtain⟨a,c,rfl,x,k,-⟩:=p;obtain⟨B,A,rfl,n,d,-⟩:=o;unfold maxLen at k d;have v:=azk b h;have t:=azk b f;have z:=bzu b h;have y:=bzu b f;clear h f;refine au fun R hR=>?_
 go_enter func264,ntmps264
 go_wp2_with (go_at_call 169;refine(Tryz.cmp_Compare_int _ _ _).mono ?_;rintro e s ⟨rfl,rfl⟩)
 exact qb3
theorem dzk(g k:Nat){v t:Nat->Nat->Vd->Prop}(u j:zV)(l l':List Vd)(m:Mem)(w:zW)(b:m.az w)(i:m.cell g 1=some u)(h:m.cell k 1=some j)(r:Mem.slice v 18 u l)(q:Mem.slice t 18 j l'):
 zX 265 #[.pointer (some ⟨g,0,none⟩),.pointer (some ⟨k,0,none⟩)] w (.j (Bb (decide (0<l.length)) (decide (0<l'.length)))):=by
 obtain⟨a,c,rfl,A,n,-⟩:=r;obtain⟨E,D,rfl,p,d,-⟩:=q;unfold maxLen at n d;have z:=azk b i;have y:=azk b h;have C:=bzu b i;have B:=bzu b h;clear i h;refine au fun R s=>?_
 go_enter func265,ntmps265
 go_wp2_with (go_at_call 221;refine(ET _ _ _).mono ?_;rintro e x ⟨rfl,f⟩)
 exact s.o _ _ ⟨zS,f⟩
theorem dzj(g K:Nat)(I H q p:zV)(c t:Lc)(n:Nat)(r:Int)(m:Mem)(w:zW)(Z:m.az w)(U:m.cell g 0=some I)(T:m.cell g 1=some H)(F:m.cell K 0=some q)(D:m.cell K 1=some p)
(P:bD (aY m n) m I c.1)(O:bD (aY m n) m H c.2)(A:bD (aY m n) m q t.1)(y:bD (aY m n) m p t.2)(C:c.1.length+c.2.length<=1048576)(s:t.1.length+t.2.length<=1048576)
(Q:∀(M:Mem) (v v':zV) (w':zW),m.le M->M.az w'->bD (aY M n) M v (aX c)->bD (aY M n) M v' (aX t)->zC 267 #[v,v',.func (.func 268) #[] #[]] w' fun e J=>e=.returned (.j r)/\Below w'.heap.size w' J):
 zX 266 #[.pointer (some ⟨g,0,none⟩),.pointer (some ⟨K,0,none⟩)] w (.j r):=by
 have V:=zh (fun w' (h:m.az w')=>kD I H c m n w' h P O C);have G:=zh (fun w' (h:m.az w')=>kD q p t m n w' h A y s);have W:=zh Q;have L:=zh (Own.start Z);have f:=zh (zi (zi U T) (zi F D));clear Q P O A y U T F D;generalize aX c=L1 at*
 generalize aX t=L2 at*
 refine au fun R hR=>?_
 go_enter func266,ntmps266
 go_upto_region 1 with(fail)
 refine aW [2] (fun N w'=>N=[.j r]/\Own w m w' m []) ?_ ?_
 .intro Y hY;refine bE 5 6 (fun j=>[aI.is (·=.agg #[I,H]),aI.mem m [1] (fun M u=>bD (aY M n) M u L1),aI.is (·=.agg #[q,p]),aI.mem m [3] (fun M u=>bD (aY M n) M u L2),aI.is (·=.j r)].getD j aI.any) zk zk ?_ ?_
  .intro i hi o b a l ho x;have HO2:=L.o.dr.aT x.aF;have y1:=azk HO2.az f.o.1.1;have y2:=azk HO2.az f.o.1.2;have y3:=bzu HO2.az f.o.1.1;have y5:=azk HO2.az f.o.2.1;have y6:=azk HO2.az f.o.2.2;have y7:=bzu HO2.az f.o.2.1;rcases(show i=0\/i=1\/i=2\/i=3\/i=4 by omega)with rfl|rfl|rfl|rfl|rfl
   .have e0:=x.k 0;exact qaa
   .have e3:zt a 3 _:=x.d 0 rfl;cases ho;refine we rfl rfl (V.o _ HO2.az) ?_;exact qg3
   .have e1:=x.k 1;exact qaa
   .have e5:zt a 5 _:=x.d 2 rfl;cases ho;refine we rfl rfl (G.o _ HO2.az) ?_;exact qg2
   .have e4:(aI.mem m [1] (fun M u=>bD (aY M n) M u L1)).holds (a.tmps.getD 4 undef) b l:=x.d 1 rfl;have e6:(aI.mem m [3] (fun M u=>bD (aY M n) M u L2)).holds (a.tmps.getD 6 undef) b l:=x.d 3 rfl;cases ho;have f1:bD (aY (m.fJ l b [1]) n) (m.fJ l b [1]) _ L1:=e4;have f2:bD (aY (m.fJ l b [3]) n) (m.fJ l b [3]) _ L2:=e6;have M1:=cz7 (m:=m) (es:=[1,3]) HO2.az b (ds:=[1]) zS;have M2:=cz7 (m:=m) (es:=[1,3]) HO2.az b (ds:=[3]) zS;have M0:=cz7 (m:=m) (es:=[1,3]) HO2.az b (ds:=[]) zS;refine we rfl rfl (W.o (m.fJ l b [1,3]) _ _ l M0 (dzd HO2.az b [1,3]) (f1.gB M1) (f2.gB M2)) ?_;exact qag
  .intro b a l E;have e7:a.tmps.getD 7 undef=.j r:=E.fact 4 _ zo rfl;have hZ:=L.o.dr.aT E.aF;obtain⟨X,dd⟩:=a;obtain rfl:dd=[]:=E.defers;refine eQ 5 zk (aM rfl rfl (aS qdO ?_));refine dB zk (hY.o _ _ (by simpa using E.size) ⟨?_,hZ⟩) _;have B:X.size=8:=E.size;simp[B]at e7;simp[B]
 rintro z N w2-⟨rfl,S⟩;simp[bz,lk];have HB:=zh S.aF;clear S L V G W f;exact qaD
end Cl
