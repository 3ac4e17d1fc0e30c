/- Lemmas for the proofs of chapter 11. -/
import Derived.Test.YtbbnjopkjbhpbaaGreatDoorPkP20
set_option maxRecDepth 100000
set_option maxHeartbeats 16000000
namespace Cl
open Go Go.RowKit Go.Proofs Tryz
theorem Gq(C D B F G E:zV)(a b:RS)(m:Mem)(w:zW)(P:m.ay w)(z:dD m C D B a)(y:dD m F G E b):
 zX 66 #[a.val C D B,b.val F G E] w (.bool (tf (a=b))):=by
 have d:=((Own.start P).al #[.bool a.dI,.bool a.dM,.bool a.dO,C,D,B] 29).al #[.bool b.dI,.bool b.dM,.bool b.dO,F,G,E] 29;simp only[bC]at d;have K:=zh (fun w' (h:m.ay w')=>mW _ _ a.i b.i m w' h z.i y.i);have J:=zh (fun w' (h:m.ay w')=>mW _ _ a.f b.f m w' h z.f y.f);have A:=zh (fun w' (h:m.ay w')=>CB _ _ a.t b.t m w' h z.t y.t);have l:=zh (RS.JK a b);obtain⟨a1,b1,a2,b2,a3,b3,rfl,rfl,rfl⟩:=z.df;obtain⟨c1,Z,c2,Y,c3,X,rfl,rfl,rfl⟩:=y.df;unfold RS.val;have g:=zh d;clear d z y;refine au fun R hR=>?_;by_cases k:a.dI=b.dI
 case neg=>
  have HE3:=zh (show ¬a=b from fun h=>k (l.o.1 h).1);have HB:=zh g.o.az;have T:(a.dI==b.dI)=false:=by simp[k]
  clear k l g
  go_enter func66,ntmps66
  exact qhg
 have T:(a.dI==b.dI)=true:=by simp[k]
 by_cases n:a.dM=b.dM
 case neg=>
  have HE3:=zh (show ¬a=b from fun h=>n (l.o.1 h).2.1);have HB:=zh g.o.az;have S:(a.dM==b.dM)=false:=by simp[n]
  clear k n l g
  go_enter func66,ntmps66
  exact qhg
 have S:(a.dM==b.dM)=true:=by simp[n]
 by_cases s:a.dO=b.dO
 case neg=>
  have HE3:=zh (show ¬a=b from fun h=>s (l.o.1 h).2.2.1);have HB:=zh g.o.az;have Q:(a.dO==b.dO)=false:=by simp[s]
  clear k n s l g
  go_enter func66,ntmps66
  exact qhg
 have Q:(a.dO==b.dO)=true:=by simp[s]
 have j:=zh (show a=b↔(a.i=b.i/\a.f=b.f)/\a.t=b.t from l.o.trans ⟨fun h=>h.2.2.2,fun h=>⟨k,n,s,h⟩⟩);clear k n s l;generalize a.dI=an at*
 generalize b.dI=bn at*
 generalize a.dM=af at*
 generalize b.dM=bf at*
 generalize a.dO=at' at*
 generalize b.dO=bt at*
 go_enter func66,ntmps66
 go_wp2_with fail
 refine(K.o _ g.o.ay).mono ?_;rintro e W ⟨rfl,x⟩;have d:=g.o.aS x;clear K g x;by_cases r:a.i=b.i
 case neg=>
  rw[aF r];have HB:=zh d.az;have HE3:=zh (show ¬a=b from fun h=>r (j.o.1 h).1.1);clear d j r A J;exact qhg
 rw[aM r];have M:=d.obj.c 4;have H:=d.obj.lt;have O:=d.av.obj.c 4;have I:=d.av.obj.lt;have g:=zh d;have HE3:=zh (show a=b↔a.f=b.f/\a.t=b.t from j.o.trans ⟨fun h=>⟨h.1.2,h.2⟩,fun h=>⟨⟨r,h.1⟩,h.2⟩⟩);clear d j r
 go_wp2_with fail
 refine(J.o _ g.o.ay).mono ?_;rintro e V ⟨rfl,v⟩;have d:=g.o.aS v;clear J g v M H O I;by_cases q:a.f=b.f
 case neg=>
  rw[aF q];have HB:=zh d.az;have p:=zh (show ¬a=b from fun h=>q (HE3.o.1 h).1);clear d HE3 q A;go_wp2;exact hR.o _ _ ⟨aR (by rw[aF p.o]),HB.o⟩
 rw[aM q];have L:=d.obj.c 5;have H:=d.obj.lt;have N:=d.av.obj.c 5;have I:=d.av.obj.lt;have g:=zh d;have p:=zh (show a=b↔a.t=b.t from HE3.o.trans ⟨fun h=>h.2,fun h=>⟨q,h⟩⟩);clear d HE3 q
 go_wp2_with fail
 refine(A.o _ g.o.ay).mono ?_;rintro e U ⟨rfl,u⟩;have HB:=zh (g.o.aS u).az;clear g A u L H N I;generalize hc:tf (a.t=b.t)=tc at*
 have HC:=zh (show tc=tf (a=b)by rw[<-hc];exact(dY p.o).symm);exact qhW
theorem dz3{α:Type}(A:Nat->Nat->α->Prop)(Rp:List Value->α->Prop)(v v':zV)(l l':List α)(m:Mem)(w:zW)(hm:m.ay w)
(hA:∀b o x,A b o x->∃cs:List Value,cs.length=18/\(∀j u,cs[j]?=some u->m.cell b (o+j)=some u)/\(∀u∈cs,u.oneCell'=true)/\Rp cs x)
(hc:∀cs d x Q w',m.ay w'->Rp cs x->Rp d Q->zC 31 #[.agg cs.toArray,.agg d.toArray] w' fun e Z=>e=.returned (.bool (tf (x=Q)))/\Below w'.heap.size w' Z)
(hl:Mem.slice A 18 v l)(e':Mem.slice A 18 v' l'):
 zX 67 #[v,v',.func (.func 31) #[] #[]] w (.bool (tf (l=l'))):=by
 obtain⟨a,c,rfl,h1,h2,h3⟩:=hl;obtain⟨a',c',rfl,B',f',N⟩:=e';unfold maxLen at h2 f';have HK:=zh (zi h3 N);have HA:=zh (zi hA hc);have HO:=zh (Own.start hm);clear h3 N hA hc;refine au fun R hR=>?_;by_cases g:l.length=l'.length
 case neg=>
  have d':((l.length:Int) != (l'.length:Int))=true:=by simp;omega
  have HL:=zh (show ¬l=l' from fun h=>g (by rw[h]));clear g
  go_enter func67,ntmps67
  exact qhr
 have d':((l.length:Int) != (l'.length:Int))=false:=by simp[g]
 have Hlen:=zh g;clear g
 go_enter func67,ntmps67
 go_wp2;refine aC [0,1,2,15,16,17] (fun n vs wr=>∃k:Nat,k<=l.length/\n=l.length-k/\vs=[.slice a l.length c,.slice a' l'.length c',.func (.func 31) #[] #[],.slice a l.length c,.int .i64 l.length,.int .i64 k]/\(l=l'↔l.drop k=l'.drop k)/\Own w m wr m []) ?_ ?_
 .exact qcQ
 clear HO;rintro X z n vs wr hX-⟨k,hk,rfl,rfl,q,hO⟩;have Hrel:=zh q;clear q;simp[bB,lk];by_cases hlt:k<l.length
 case neg=>
  exact qgK
 have hlt':k<l'.length:=by rw[<-Hlen.o];exact hlt
 obtain⟨b,off,rfl,h4⟩:=HK.o.1 qdP;obtain⟨b',j',rfl,M⟩:=HK.o.2 qd1;obtain⟨cs,hl1,y,I,G⟩:=HA.o.1 _ _ _ (h4 k hlt);obtain⟨d,hl2,t,H,F⟩:=HA.o.1 _ _ _ (M k hlt');have S:=zh qiH;have T:=zh (fun w' (h:m.ay w')=>HA.o.2 cs d l[k] l'[k] w' h G F);have L:=hO.al oz 35;have P:=zh (fun(w':zW) (h:m.ay w') j u hj=>Mem_cell_w h (y j u hj));have O:=zh (fun(w':zW) (h:m.ay w') j u hj=>Mem_cell_w h (t j u hj));have E:=y 0 (cs[0]'zo) (yH _);have D:=t 0 (d[0]'zo) (yH _);have r':=Mem_cell_lt hO.ay E;have q':=Mem_cell_lt hO.ay D;have U:=zh (zi I H);have K:=hO.ay;have HO:=zh L;clear hO L h4 M y t I H G F E D;generalize l[k]=x at*
 generalize l'[k]=Q at*
 by_cases C:x=Q
 .have B:=zh (show ∀w',m.ay w'->_ from fun w' h=>by have:=T.o w' h;rw[aM C]at this;exact this);have HL:=zh (Hrel.o.trans (S.o.trans ⟨fun h=>h.2,fun h=>⟨C,h⟩⟩));clear T S Hrel C
  go_wp2_with (first
   |refine aj dU rfl (.tmp 20) rfl rfl cs hl1 (P.o _ K) ?_
   |(refine aB dU rfl (.tmp 8) (.tmp 21) rfl (cs:=cs.toArray) rfl rfl rfl qd0 (fun u hu=>U.o.1 u qdQ) HO.o.obj ?_;intro w1 i p;have f:=(HO.o.aW i p).al oz 35;have Y:=f.av.obj.lt;have J:=f.tail.ay)
   |refine aj dU rfl (.tmp 24) rfl rfl d hl2 (O.o _ (HO.o.aW i p).ay) ?_
   |(refine aB dU rfl (.tmp 9) (.tmp 25) rfl (cs:=d.toArray) rfl rfl rfl qdZ (fun u hu=>U.o.2 u qdQ) f.obj ?_;intro w2 r s;have hO3:=f.aW r s;have W:=hO3.av.obj.all;have V:=hO3.obj.all)
   |refine aj dU rfl (.tmp 8) rfl rfl cs hl1 W ?_
   |refine aj dU rfl (.tmp 9) rfl rfl d hl2 V ?_
   | (go_at_call 31;refine(B.o _ hO3.ay).mono ?_;rintro e w3 ⟨rfl,hb3⟩))
  exact qgQ
 .have B:=zh (show ∀w',m.ay w'->_ from fun w' h=>by have:=T.o w' h;rw[aF C]at this;exact this);have HL:=zh (show ¬l=l' from fun h=>C (S.o.1 (Hrel.o.1 h)).1);clear T S Hrel C hX
  go_wp2_with (first
   |refine aj dU rfl (.tmp 20) rfl rfl cs hl1 (P.o _ K) ?_
   |(refine aB dU rfl (.tmp 8) (.tmp 21) rfl (cs:=cs.toArray) rfl rfl rfl qd0 (fun u hu=>U.o.1 u qdQ) HO.o.obj ?_;intro w1 i p;have f:=(HO.o.aW i p).al oz 35;have Y:=f.av.obj.lt;have J:=f.tail.ay)
   |refine aj dU rfl (.tmp 24) rfl rfl d hl2 (O.o _ (HO.o.aW i p).ay) ?_
   |(refine aB dU rfl (.tmp 9) (.tmp 25) rfl (cs:=d.toArray) rfl rfl rfl qdZ (fun u hu=>U.o.2 u qdQ) f.obj ?_;intro w2 r s;have hO3:=f.aW r s;have W:=hO3.av.obj.all;have V:=hO3.obj.all)
   |refine aj dU rfl (.tmp 8) rfl rfl cs hl1 W ?_
   |refine aj dU rfl (.tmp 9) rfl rfl d hl2 V ?_
   | (go_at_call 31;refine(B.o _ hO3.ay).mono ?_;rintro e w3 ⟨rfl,hb3⟩))
  exact qhq
theorem dz5{α:Type}(A:Nat->Nat->α->Prop)(Rp:List Value->α->Prop)(v v':zV)(l l':List α)(m:Mem)(w:zW)(hm:m.ay w)
(hA:∀b o x,A b o x->∃cs:List Value,cs.length=20/\(∀j u,cs[j]?=some u->m.cell b (o+j)=some u)/\(∀u∈cs,u.oneCell'=true)/\Rp cs x)
(hc:∀cs d x Q w',m.ay w'->Rp cs x->Rp d Q->zC 108 #[.agg cs.toArray,.agg d.toArray] w' fun e Z=>e=.returned (.bool (tf (x=Q)))/\Below w'.heap.size w' Z)
(hl:Mem.slice A 20 v l)(e':Mem.slice A 20 v' l'):
 zX 107 #[v,v',.func (.func 108) #[] #[]] w (.bool (tf (l=l'))):=by
 obtain⟨a,c,rfl,h1,h2,h3⟩:=hl;obtain⟨a',c',rfl,B',f',N⟩:=e';unfold maxLen at h2 f';have HK:=zh (zi h3 N);have HA:=zh (zi hA hc);have HO:=zh (Own.start hm);clear h3 N hA hc;refine au fun R hR=>?_;by_cases g:l.length=l'.length
 case neg=>
  have d':((l.length:Int) != (l'.length:Int))=true:=by simp;omega
  have HL:=zh (show ¬l=l' from fun h=>g (by rw[h]));clear g
  go_enter func107,ntmps107
  exact qhr
 have d':((l.length:Int) != (l'.length:Int))=false:=by simp[g]
 have Hlen:=zh g;clear g
 go_enter func107,ntmps107
 go_wp2;refine aC [0,1,2,15,16,17] (fun n vs wr=>∃k:Nat,k<=l.length/\n=l.length-k/\vs=[.slice a l.length c,.slice a' l'.length c',.func (.func 108) #[] #[],.slice a l.length c,.int .i64 l.length,.int .i64 k]/\(l=l'↔l.drop k=l'.drop k)/\Own w m wr m []) ?_ ?_
 .exact qcQ
 clear HO;rintro X z n vs wr hX-⟨k,hk,rfl,rfl,q,hO⟩;have Hrel:=zh q;clear q;simp[bB,lk];by_cases hlt:k<l.length
 case neg=>
  exact qgK
 have hlt':k<l'.length:=by rw[<-Hlen.o];exact hlt
 obtain⟨b,off,rfl,h4⟩:=HK.o.1 qdP;obtain⟨b',j',rfl,M⟩:=HK.o.2 qd1;obtain⟨cs,hl1,y,I,G⟩:=HA.o.1 _ _ _ (h4 k hlt);obtain⟨d,hl2,t,H,F⟩:=HA.o.1 _ _ _ (M k hlt');have S:=zh qiH;have T:=zh (fun w' (h:m.ay w')=>HA.o.2 cs d l[k] l'[k] w' h G F);have L:=hO.al SG 82;have P:=zh (fun(w':zW) (h:m.ay w') j u hj=>Mem_cell_w h (y j u hj));have O:=zh (fun(w':zW) (h:m.ay w') j u hj=>Mem_cell_w h (t j u hj));have E:=y 0 (cs[0]'zo) (yH _);have D:=t 0 (d[0]'zo) (yH _);have r':=Mem_cell_lt hO.ay E;have q':=Mem_cell_lt hO.ay D;have U:=zh (zi I H);have K:=hO.ay;have HO:=zh L;clear hO L h4 M y t I H G F E D;generalize l[k]=x at*
 generalize l'[k]=Q at*
 by_cases C:x=Q
 .have B:=zh (show ∀w',m.ay w'->_ from fun w' h=>by have:=T.o w' h;rw[aM C]at this;exact this);have HL:=zh (Hrel.o.trans (S.o.trans ⟨fun h=>h.2,fun h=>⟨C,h⟩⟩));clear T S Hrel C
  go_wp2_with (first
   |refine aj uh rfl (.tmp 20) rfl rfl cs hl1 (P.o _ K) ?_
   |(refine aB uh rfl (.tmp 8) (.tmp 21) rfl (cs:=cs.toArray) rfl rfl rfl qd0 (fun u hu=>U.o.1 u qdQ) HO.o.obj ?_;intro w1 i p;have f:=(HO.o.aW i p).al SG 82;have Y:=f.av.obj.lt;have J:=f.tail.ay)
   |refine aj uh rfl (.tmp 24) rfl rfl d hl2 (O.o _ (HO.o.aW i p).ay) ?_
   |(refine aB uh rfl (.tmp 9) (.tmp 25) rfl (cs:=d.toArray) rfl rfl rfl qdZ (fun u hu=>U.o.2 u qdQ) f.obj ?_;intro w2 r s;have hO3:=f.aW r s;have W:=hO3.av.obj.all;have V:=hO3.obj.all)
   |refine aj uh rfl (.tmp 8) rfl rfl cs hl1 W ?_
   |refine aj uh rfl (.tmp 9) rfl rfl d hl2 V ?_
   | (go_at_call 108;refine(B.o _ hO3.ay).mono ?_;rintro e w3 ⟨rfl,hb3⟩))
  exact qgQ
 .have B:=zh (show ∀w',m.ay w'->_ from fun w' h=>by have:=T.o w' h;rw[aF C]at this;exact this);have HL:=zh (show ¬l=l' from fun h=>C (S.o.1 (Hrel.o.1 h)).1);clear T S Hrel C hX
  go_wp2_with (first
   |refine aj uh rfl (.tmp 20) rfl rfl cs hl1 (P.o _ K) ?_
   |(refine aB uh rfl (.tmp 8) (.tmp 21) rfl (cs:=cs.toArray) rfl rfl rfl qd0 (fun u hu=>U.o.1 u qdQ) HO.o.obj ?_;intro w1 i p;have f:=(HO.o.aW i p).al SG 82;have Y:=f.av.obj.lt;have J:=f.tail.ay)
   |refine aj uh rfl (.tmp 24) rfl rfl d hl2 (O.o _ (HO.o.aW i p).ay) ?_
   |(refine aB uh rfl (.tmp 9) (.tmp 25) rfl (cs:=d.toArray) rfl rfl rfl qdZ (fun u hu=>U.o.2 u qdQ) f.obj ?_;intro w2 r s;have hO3:=f.aW r s;have W:=hO3.av.obj.all;have V:=hO3.obj.all)
   |refine aj uh rfl (.tmp 8) rfl rfl cs hl1 W ?_
   |refine aj uh rfl (.tmp 9) rfl rfl d hl2 V ?_
   | (go_at_call 108;refine(B.o _ hO3.ay).mono ?_;rintro e w3 ⟨rfl,hb3⟩))
  exact qhq
theorem dz4{α:Type}(A:Nat->Nat->α->Prop)(Rp:List Value->α->Prop)(v v':zV)(l l':List α)(m:Mem)(w:zW)(hm:m.ay w)
(hA:∀b o x,A b o x->∃cs:List Value,cs.length=19/\(∀j u,cs[j]?=some u->m.cell b (o+j)=some u)/\(∀u∈cs,u.oneCell'=true)/\Rp cs x)
(hc:∀cs d x Q w',m.ay w'->Rp cs x->Rp d Q->zC 110 #[.agg cs.toArray,.agg d.toArray] w' fun e Z=>e=.returned (.bool (tf (x=Q)))/\Below w'.heap.size w' Z)
(hl:Mem.slice A 19 v l)(e':Mem.slice A 19 v' l'):
 zX 109 #[v,v',.func (.func 110) #[] #[]] w (.bool (tf (l=l'))):=by
 obtain⟨a,c,rfl,h1,h2,h3⟩:=hl;obtain⟨a',c',rfl,B',f',N⟩:=e';unfold maxLen at h2 f';have HK:=zh (zi h3 N);have HA:=zh (zi hA hc);have HO:=zh (Own.start hm);clear h3 N hA hc;refine au fun R hR=>?_;by_cases g:l.length=l'.length
 case neg=>
  have d':((l.length:Int) != (l'.length:Int))=true:=by simp;omega
  have HL:=zh (show ¬l=l' from fun h=>g (by rw[h]));clear g
  go_enter func109,ntmps109
  exact qhr
 have d':((l.length:Int) != (l'.length:Int))=false:=by simp[g]
 have Hlen:=zh g;clear g
 go_enter func109,ntmps109
 go_wp2;refine aC [0,1,2,15,16,17] (fun n vs wr=>∃k:Nat,k<=l.length/\n=l.length-k/\vs=[.slice a l.length c,.slice a' l'.length c',.func (.func 110) #[] #[],.slice a l.length c,.int .i64 l.length,.int .i64 k]/\(l=l'↔l.drop k=l'.drop k)/\Own w m wr m []) ?_ ?_
 .exact qcQ
 clear HO;rintro X z n vs wr hX-⟨k,hk,rfl,rfl,q,hO⟩;have Hrel:=zh q;clear q;simp[bB,lk];by_cases hlt:k<l.length
 case neg=>
  exact qgK
 have hlt':k<l'.length:=by rw[<-Hlen.o];exact hlt
 obtain⟨b,off,rfl,h4⟩:=HK.o.1 qdP;obtain⟨b',j',rfl,M⟩:=HK.o.2 qd1;obtain⟨cs,hl1,y,I,G⟩:=HA.o.1 _ _ _ (h4 k hlt);obtain⟨d,hl2,t,H,F⟩:=HA.o.1 _ _ _ (M k hlt');have S:=zh qiH;have T:=zh (fun w' (h:m.ay w')=>HA.o.2 cs d l[k] l'[k] w' h G F);have L:=hO.al SB 68;have P:=zh (fun(w':zW) (h:m.ay w') j u hj=>Mem_cell_w h (y j u hj));have O:=zh (fun(w':zW) (h:m.ay w') j u hj=>Mem_cell_w h (t j u hj));have E:=y 0 (cs[0]'zo) (yH _);have D:=t 0 (d[0]'zo) (yH _);have r':=Mem_cell_lt hO.ay E;have q':=Mem_cell_lt hO.ay D;have U:=zh (zi I H);have K:=hO.ay;have HO:=zh L;clear hO L h4 M y t I H G F E D;generalize l[k]=x at*
 generalize l'[k]=Q at*
 by_cases C:x=Q
 .have B:=zh (show ∀w',m.ay w'->_ from fun w' h=>by have:=T.o w' h;rw[aM C]at this;exact this);have HL:=zh (Hrel.o.trans (S.o.trans ⟨fun h=>h.2,fun h=>⟨C,h⟩⟩));clear T S Hrel C
  go_wp2_with (first
   |refine aj sw rfl (.tmp 20) rfl rfl cs hl1 (P.o _ K) ?_
   |(refine aB sw rfl (.tmp 8) (.tmp 21) rfl (cs:=cs.toArray) rfl rfl rfl qd0 (fun u hu=>U.o.1 u qdQ) HO.o.obj ?_;intro w1 i p;have f:=(HO.o.aW i p).al SB 68;have Y:=f.av.obj.lt;have J:=f.tail.ay)
   |refine aj sw rfl (.tmp 24) rfl rfl d hl2 (O.o _ (HO.o.aW i p).ay) ?_
   |(refine aB sw rfl (.tmp 9) (.tmp 25) rfl (cs:=d.toArray) rfl rfl rfl qdZ (fun u hu=>U.o.2 u qdQ) f.obj ?_;intro w2 r s;have hO3:=f.aW r s;have W:=hO3.av.obj.all;have V:=hO3.obj.all)
   |refine aj sw rfl (.tmp 8) rfl rfl cs hl1 W ?_
   |refine aj sw rfl (.tmp 9) rfl rfl d hl2 V ?_
   | (go_at_call 110;refine(B.o _ hO3.ay).mono ?_;rintro e w3 ⟨rfl,hb3⟩))
  exact qgQ
 .have B:=zh (show ∀w',m.ay w'->_ from fun w' h=>by have:=T.o w' h;rw[aF C]at this;exact this);have HL:=zh (show ¬l=l' from fun h=>C (S.o.1 (Hrel.o.1 h)).1);clear T S Hrel C hX
  go_wp2_with (first
   |refine aj sw rfl (.tmp 20) rfl rfl cs hl1 (P.o _ K) ?_
   |(refine aB sw rfl (.tmp 8) (.tmp 21) rfl (cs:=cs.toArray) rfl rfl rfl qd0 (fun u hu=>U.o.1 u qdQ) HO.o.obj ?_;intro w1 i p;have f:=(HO.o.aW i p).al SB 68;have Y:=f.av.obj.lt;have J:=f.tail.ay)
   |refine aj sw rfl (.tmp 24) rfl rfl d hl2 (O.o _ (HO.o.aW i p).ay) ?_
   |(refine aB sw rfl (.tmp 9) (.tmp 25) rfl (cs:=d.toArray) rfl rfl rfl qdZ (fun u hu=>U.o.2 u qdQ) f.obj ?_;intro w2 r s;have hO3:=f.aW r s;have W:=hO3.av.obj.all;have V:=hO3.obj.all)
   |refine aj sw rfl (.tmp 8) rfl rfl cs hl1 W ?_
   |refine aj sw rfl (.tmp 9) rfl rfl d hl2 V ?_
   | (go_at_call 110;refine(B.o _ hO3.ay).mono ?_;rintro e w3 ⟨rfl,hb3⟩))
  exact qhq
theorem Sa{a b:ByteArray}(h:a=b):(a.toList==b.toList)=true:=by rw[h];simp
theorem Sb{a b:ByteArray}(h:¬a=b):(a.toList==b.toList)=false:=by
 rw[xE,xE];exact zO.2 fun e=>h (O5 e)
def BM(n:Nat):Prop:=∀(v v':Vl) (s a:Sl) (m:Mem) (w:zW),m.ay w->bq m n s v->bq m n a v'->dA n v<=1048576->dA n v'<=1048576->zX 47 #[v.val s,v'.val a] w (.bool (tf (v=v')))
def jw(n:Nat)(d:Vd):Prop:=dA n d.1<=1048576/\dA n d.2<=1048576
theorem fD{α:Type}{A:Nat->Nat->α->Prop}{P:α->Prop}{size:Nat}{v:zV}{l:List α}(h:Mem.slice A size v l)(f:∀x∈l,P x):Mem.slice (fun b o x=>A b o x/\P x) size v l:=by
 obtain⟨a,c,e,m,k,j⟩:=h;refine⟨a,c,e,m,k,fun d=>?_⟩;obtain⟨b,off,n,g⟩:=j d;exact⟨b,off,n,fun i hi=>⟨g i hi,f _ (zF hi)⟩⟩
theorem pU{n:Nat}(H:BM n)(d d':Vd)(x y x' y':Sl)(m:Mem)(w:zW)(S:m.ay w)(K:bq m n x d.1)(J:bq m n y d.2)(q:bq m n x' d'.1)(p:bq m n y' d'.2)(G:jw n d)(i:jw n d'):
 zX 31 #[bP d x y,bP d' x' y'] w (.bool (tf (d=d'))):=by
 have z:=((Own.start S).al (dC d x y).toArray 35).al (dC d' x' y').toArray 35;simp only[bC]at z;have v:=zh (H d.1 d'.1 x x' m _ z.ay K q G.1 i.1);have M:=zh (fun w' (h:m.ay w')=>H d.2 d'.2 y y' m w' h J p G.2 i.2);have I:(bu d.1 x).length=9:=rfl;have C:(bu d.2 y).length=9:=rfl;have l:(bu d'.1 x').length=9:=rfl;have k:(bu d'.2 y').length=9:=rfl;have O:=zh qiv;have t:=zh qiU;have s:=zh (show d=d'↔d.1=d'.1/\d.2=d'.2 from Prod.ext_iff);have HO:=zh z;unfold Vl.val bP at*
 generalize bu d.1 x=N at*
 generalize bu d.2 y=L at*
 generalize dC d x y=D at*
 generalize bu d'.1 x'=N' at*
 generalize bu d'.2 y'=r at*
 generalize dC d' x' y'=U at*
 clear z K J q p;have F:=HO.o.av.obj.sub (o:=0) (cs:=N) fun j u b=>by simpa using O.o.1 j u b
 have g:=HO.o.obj.sub (o:=0) (cs:=N') fun j u b=>by simpa using t.o.1 j u b
 refine au fun R hR=>?_
 go_enter func31,ntmps31
 by_cases f:d.1=d'.1
 case neg=>
  have c:=v.o;rw[aF f]at c;have v:=zh c;have HX:=zh (show ¬d=d' from fun h=>f (s.o.1 h).1);clear c M f s
  go_wp2_with (first|refine aj kK rfl (.tmp 5) rfl rfl N I F ?_|refine aj kK rfl (.tmp 7) rfl rfl N' l g ?_|(go_at_call 47;refine v.o.mono ?_;rintro e P ⟨rfl,hb1⟩))
  exact qh3
 have c:=v.o;rw[aM f]at c;have E:=zh c;have HX:=zh (dY (show d.2=d'.2↔d=d' from⟨fun h=>s.o.2 ⟨f,h⟩,fun h=>(s.o.1 h).2⟩));clear c v f s;generalize tf (d.2=d'.2)=ts at*
 go_wp2_with (first
  |refine aj kK rfl (.tmp 5) rfl rfl N I F ?_
  |refine aj kK rfl (.tmp 7) rfl rfl N' l g ?_
  |refine aj kK rfl (.tmp 11) rfl rfl L C Q ?_
  |refine aj kK rfl (.tmp 13) rfl rfl r k A ?_
  | (go_at_call 47;first
   |(refine(M.o _ a.ay).mono ?_;rintro e T ⟨rfl,B⟩)
   | (refine E.o.mono ?_;rintro e P ⟨rfl,hb1⟩;have a:=HO.o.aS hb1;have Q:=a.av.obj.sub (o:=9) (cs:=L) (fun j u b=>by simpa using O.o.2 j u b);have A:=a.obj.sub (o:=9) (cs:=r) (fun j u b=>by simpa using t.o.2 j u b))))
 exact hR.o _ _ ⟨aR qeC,(a.aS B).az⟩
theorem ezE{c:St}{f:Fd}(h:f∈c.1):f.2∈bN c:=yP.2 (.inl (yD.2 ⟨f,h,rfl⟩))
theorem ezD{c:St}{f:Kl}(h:f∈c.2):f.2∈bN c:=yP.2 (.inr (yD.2 ⟨f,h,rfl⟩))
theorem YP{n:Nat}(H:BM n)(v v':zV)(l a:List Vd)(m:Mem)(w:zW)(C:m.ay w)(h:bG (bq m n) m v l)(D:bG (bq m n) m v' a)(u:∀d∈l,jw n d)(f:∀d∈a,jw n d):
 zX 67 #[v,v',.func (.func 31) #[] #[]] w (.bool (tf (l=a))):=
 dz3 (fun b o d=>Bh (bq m n) m b o d/\jw n d) (fun cs d=>(∃x y,cs=dC d x y/\bq m n x d.1/\bq m n y d.2)/\jw n d) v v' l a m w C
  (fun b o d q=>by obtain⟨x,y,p,c,r⟩:=q.1.cells;exact⟨_,rfl,p,fZ c r,⟨x,y,rfl,c,r⟩,q.2⟩)
  (fun cs F d E w' k p c=>by
   obtain⟨⟨x,y,rfl,B,A⟩,z⟩:=p;obtain⟨⟨t,s,rfl,j,i⟩,g⟩:=c;exact pU H d E x y t s m w' k B A j i z g) (fD h u) (fD D f)
theorem XY{n:Nat}(H:BM n)(f a:Fd)(x y d c:Sl)(m:Mem)(w:zW)(K:m.ay w)(I:bq m n x f.2.1)(G:bq m n y f.2.2)(r:bq m n d a.2.1)(q:bq m n c a.2.2)(J:jw n f.2)(t:jw n a.2):
 zX 108 #[.agg (qI f x y).toArray,.agg (qI a d c).toArray] w (.bool (tf (f=a))):=by
 have b:=((Own.start K).al (qI f x y).toArray 82).al (qI a d c).toArray 82;simp only[bC]at b;have F:=zh (fun w' (h:m.ay w')=>pU H f.2 a.2 x y d c m w' h I G r q J t);have M:(dC f.2 x y).length=18:=rfl;have E:(dC a.2 d c).length=18:=rfl;have T:=b.av.obj.cell (i:=0) (v:=.string f.1.1) rfl;have S:=b.av.obj.cell (i:=1) (v:=.int .i64 f.1.2) rfl;have P:=b.obj.cell (i:=0) (v:=.string a.1.1) rfl;have O:=b.obj.cell (i:=1) (v:=.int .i64 a.1.2) rfl;have s:=b.av.obj.sub (o:=2) (cs:=dC f.2 x y) fun j u z=>by simpa using qH z
 have g:=b.obj.sub (o:=2) (cs:=dC a.2 d c) fun j u z=>by simpa using qH z
 have l:=zh (show f=a↔f.1.1=a.1.1/\f.1.2=a.1.2/\f.2=a.2 from⟨fun h=>by rw[h];exact⟨rfl,rfl,rfl⟩,fun h=>Prod.ext (Prod.ext h.1 h.2.1) h.2.2⟩);have HO:=zh b;have A:=b.ay;unfold bP at*
 generalize dC f.2 x y=N at*
 generalize dC a.2 d c=N' at*
 generalize qI f x y=D at*
 generalize qI a d c=U at*
 clear b I G r q;refine au fun R hR=>?_
 go_enter func108,ntmps108
 by_cases k:f.1.1=a.1.1
 case neg=>
  have HX:=zh (show ¬f=a from fun h=>k (l.o.1 h).1);have L:(f.1.1.toList==a.1.1.toList)=false:=Sb k;clear l F k s g;exact qh9
 have L:(f.1.1.toList==a.1.1.toList)=true:=Sa k;by_cases p:f.1.2=a.1.2
 case neg=>
  have HX:=zh (show ¬f=a from fun h=>p (l.o.1 h).2.1);have B:(f.1.2==a.1.2)=false:=zO.2 p;clear l F k p s g;exact qh9
 have B:(f.1.2==a.1.2)=true:=beq_iff_eq.2 p;have HX:=zh (dY (show f.2=a.2↔f=a from⟨fun h=>l.o.2 ⟨k,p,h⟩,fun h=>(l.o.1 h).2.2⟩));clear k p l;generalize tf (f.2=a.2)=ts at*
 go_wp2_with (first
  |refine aj dU rfl (.tmp 18) rfl rfl N M s ?_
  |refine aj dU rfl (.tmp 20) rfl rfl N' E g ?_
  | (go_at_call 31;refine(F.o _ A).mono ?_;rintro e Q ⟨rfl,C⟩))
 exact hR.o _ _ ⟨aR qeC,(HO.o.aS C).az⟩
theorem bzB{n:Nat}(H:BM n)(v v':zV)(l a:List Fd)(m:Mem)(w:zW)(C:m.ay w)(h:gN (bq m n) m v l)(D:gN (bq m n) m v' a)(u:∀d∈l,jw n d.2)(f:∀d∈a,jw n d.2):
 zX 107 #[v,v',.func (.func 108) #[] #[]] w (.bool (tf (l=a))):=
 dz5 (fun b o d=>Ky (bq m n) m b o d/\jw n d.2) (fun cs d=>(∃x y,cs=qI d x y/\bq m n x d.2.1/\bq m n y d.2.2)/\jw n d.2) v v' l a m w C
  (fun b o d q=>by obtain⟨x,y,p,c,r⟩:=q.1.cells;exact⟨_,rfl,p,mV c r,⟨x,y,rfl,c,r⟩,q.2⟩)
  (fun cs F d E w' k p c=>by
   obtain⟨⟨x,y,rfl,B,A⟩,z⟩:=p;obtain⟨⟨t,s,rfl,j,i⟩,g⟩:=c;exact XY H d E x y t s m w' k B A j i z g) (fD h u) (fD D f)
theorem XX{n:Nat}(H:BM n)(f a:Kl)(c q:zV)(x y d b:Sl)(m:Mem)(w:zW)(W:m.ay w)(K:aU m c f.1)(r:aU m q a.1)(M:bq m n x f.2.1)(L:bq m n y f.2.2)(t:bq m n d a.2.1)(s:bq m n b a.2.2)(V:jw n f.2)(E:jw n a.2):
 zX 110 #[.agg (ow f c x y).toArray,.agg (ow a q d b).toArray] w (.bool (tf (f=a))):=by
 have l:=((Own.start W).al (ow f c x y).toArray 68).al (ow a q d b).toArray 68;simp only[bC]at l;have z:=zh (CB c q f.1 a.1 m _ l.ay K r);have P:=zh (fun w' (h:m.ay w')=>pU H f.2 a.2 x y d b m w' h M L t s V E);have X:(dC f.2 x y).length=18:=rfl;have I:(dC a.2 d b).length=18:=rfl;have c0:=l.av.obj.cell (i:=0) (v:=c) rfl;have Y:=l.obj.cell (i:=0) (v:=q) rfl;have O:=zh (fun(w':zW) (h:aZ w' w.heap.size 68 (ow f c x y).toArray)=>h.sub (o:=1) (cs:=dC f.2 x y) fun j u F=>by simpa using kZ F);have A:=zh (fun(w':zW) (h:aZ w' (w.heap.size+1) 68 (ow a q d b).toArray)=>h.sub (o:=1) (cs:=dC a.2 d b) fun j u F=>by simpa using kZ F);have B:=zh (show f=a↔f.1=a.1/\f.2=a.2 from Prod.ext_iff);have HO:=zh l;obtain⟨ta,tc,rfl,-⟩:=K;obtain⟨T,S,rfl,-⟩:=r;unfold bP at*
 generalize dC f.2 x y=N at*
 generalize dC a.2 d b=N' at*
 generalize ow f _ x y=D at*
 generalize ow a _ d b=D' at*
 clear l M L t s;refine au fun R hR=>?_
 go_enter func110,ntmps110
 by_cases p:f.1=a.1
 case neg=>
  have k:=z.o;rw[aF p]at k;have z:=zh k;have HX:=zh (show ¬f=a from fun h=>p (B.o.1 h).1);clear B P p O A k
  go_wp2_with (go_at_call 105;refine z.o.mono ?_;rintro e Q ⟨rfl,hb2⟩)
  exact qh2
 have k:=z.o;rw[aM p]at k;have J:=zh k;have HX:=zh (dY (show f.2=a.2↔f=a from⟨fun h=>B.o.2 ⟨p,h⟩,fun h=>(B.o.1 h).2⟩));clear p B z k;generalize tf (f.2=a.2)=ts at*
 go_wp2_with (first
  |(go_at_call 105;refine J.o.mono ?_;rintro e Q ⟨rfl,hb2⟩;have g:=HO.o.aS hb2;have U:=O.o _ g.av.obj;have C:=A.o _ g.obj)
  |refine aj dU rfl (.tmp 11) rfl rfl N X U ?_
  |refine aj dU rfl (.tmp 13) rfl rfl N' I C ?_
  | (go_at_call 31;refine(P.o _ g.ay).mono ?_;rintro e Z ⟨rfl,G⟩))
 exact hR.o _ _ ⟨aR qeC,(g.aS G).az⟩
theorem bzA{n:Nat}(H:BM n)(v v':zV)(l a:List Kl)(m:Mem)(w:zW)(G:m.ay w)(h:gP (bq m n) m v l)(I:gP (bq m n) m v' a)(B:∀d∈l,jw n d.2)(g:∀d∈a,jw n d.2):
 zX 109 #[v,v',.func (.func 110) #[] #[]] w (.bool (tf (l=a))):=
 dz4 (fun b o d=>Li (bq m n) m b o d/\jw n d.2) (fun cs d=>(∃c x y,cs=ow d c x y/\aU m c d.1/\bq m n x d.2.1/\bq m n y d.2.2)/\jw n d.2) v v' l a m w G
  (fun b o d s=>by obtain⟨c,x,y,u,r,f,t⟩:=s.1.cells;exact⟨_,rfl,r,nU u f t,⟨c,x,y,rfl,u,f,t⟩,s.2⟩)
  (fun cs K d J w' q r f=>by
   obtain⟨⟨c,x,y,rfl,F,E,D⟩,C⟩:=r;obtain⟨⟨L,A,z,rfl,p,k,j⟩,i⟩:=f;exact XX H d J c L x y A z m w' q F p E D k j C i) (fD h B) (fD I g)
theorem Ty{n:Nat}(H:BM n)(c a:St)(u t v s:zV)(m:Mem)(w:zW)(F:m.ay w)(C:gN (bq m n) m u c.1)(B:gP (bq m n) m t c.2)(p:gN (bq m n) m v a.1)(l:gP (bq m n) m s a.2)(A:∀d∈bN c,jw n d)(k:∀d∈bN a,jw n d):
 zX 69 #[.agg #[u,t],.agg #[v,s]] w (.bool (tf (c=a))):=by
 have x:=((Own.start F).al #[u,t] 62).al #[v,s] 62;simp only[bC]at x;have q:=zh (bzB H u v c.1 a.1 m _ x.ay C p (fun f i=>A _ (ezE i)) (fun f i=>k _ (ezE i)));have D:=zh (fun w' (h:m.ay w')=>bzA H t s c.2 a.2 m w' h B l (fun f i=>A _ (ezD i)) (fun f i=>k _ (ezD i)));have r:=zh (show c=a↔c.1=a.1/\c.2=a.2 from Prod.ext_iff);have HO:=zh x;obtain⟨Y,U,rfl,-⟩:=C;obtain⟨X,T,rfl,-⟩:=B;obtain⟨W,S,rfl,-⟩:=p;obtain⟨V,Q,rfl,-⟩:=l;clear x;refine au fun R hR=>?_
 go_enter func69,ntmps69
 by_cases j:c.1=a.1
 case neg=>
  have g:=q.o;rw[aF j]at g;have q:=zh g;have HX:=zh (show ¬c=a from fun h=>j (r.o.1 h).1);clear r D j g
  go_wp2_with (go_at_call 107;refine q.o.mono ?_;rintro e E ⟨rfl,hb2⟩)
  exact qh2
 have g:=q.o;rw[aM j]at g;have z:=zh g;have HX:=zh (dY (show c.2=a.2↔c=a from⟨fun h=>r.o.2 ⟨j,h⟩,fun h=>(r.o.1 h).2⟩));clear j r q g;generalize tf (c.2=a.2)=ts at*
 generalize c.1.length=P at*
 generalize c.2.length=O at*
 generalize a.1.length=N at*
 generalize a.2.length=M at*
 go_wp2_with (first
  |(go_at_call 107;refine z.o.mono ?_;rintro e E ⟨rfl,hb2⟩;have b:=HO.o.aS hb2;have K:=b.obj.c 1;have J:=b.av.obj.c 1;have I:=b.obj.lt;have G:=b.av.obj.lt)
  | (go_at_call 109;refine(D.o _ b.ay).mono ?_;rintro e L ⟨rfl,y⟩))
 exact hR.o _ _ ⟨aR qeC,(b.aS y).az⟩
noncomputable def Ef(s:ByteArray)(l:aK):Bool:=tf (WF l)&&aH l 0 s.data.toList
theorem Lg(v0:zV)(l:aK)(s:ByteArray)(m:Mem)(w:zW)(hm:m.ay w)(hl:aU m v0 l)(hs:s.size<=maxLen):
 zX 113 #[.agg #[v0],.string s] w (.bool (Ef s l)):=by
 unfold Ef;have G:=hl;obtain⟨a,c,rfl,h1,h2,h3⟩:=hl;unfold maxLen at h2 hs;have d:=(Own.start hm).al #[.slice a l.length c] 27;have M:=zh (wK (.slice a l.length c) l m _ d.ay G);have HO:=zh d;have HK:=zh h3;have T:=d.ay;clear d h3 G;refine au fun R hR=>?_
 go_enter func113,ntmps113
 go_wp2
 go_step3
 by_cases h0:l.length=0
 .have H:((l.length:Int)==0)=true:=by simp[h0]
  have HX:=zh (show(tf (WF l)&&aH l 0 s.data.toList)=false by rw[kE l 0 _ zo,Bool.and_false]);clear h0 M;go_wp2;exact qhC
 have H:((l.length:Int)==0)=false:=zO.2 zo;have A:=M.o;by_cases f:WF l
 case neg=>
  rw[aF f]at A;have r:=zh A;have HX:=zh (show(tf (WF l)&&aH l 0 s.data.toList)=false by rw[aF f,Bool.false_and]);clear A M f h0
  go_wp2_with (go_at_call 152;refine r.o.mono ?_;rintro e w1 ⟨rfl,q⟩)
  exact hR.o _ _ ⟨aR qeC,(HO.o.aS q).az⟩
 rw[aM f]at A;have r:=zh A;have HX:=zh (show(tf (WF l)&&aH l 0 s.data.toList)=aH l 0 s.data.toList by rw[aM f,Bool.true_and]);have W:=zh f;clear A M f
 go_wp2_with (go_at_call 152;refine r.o.mono ?_;rintro e w1 ⟨rfl,q⟩)
 have I:=zh (HO.o.aS q);clear HO q r T
 go_step3
 go_wp2;refine aC [1,2,5,20,21] (fun n E D=>∃(k x:Nat),k<=s.size/\x<l.length/\n=s.size-k/\E=[.string s,.pointer (some ⟨w.heap.size,0,none⟩),.int .i64 x,.int .i64 s.size,.int .i64 k]/\aH l 0 s.data.toList=aH l x (s.data.toList.drop k) /\
  Own w m D m [.obj w.heap.size 27 #[.slice a l.length c]]) ?_ ?_
 .exact⟨_,0,0,zG _,zo,rfl,rfl,rfl,I.o⟩
 clear I;rintro X z n E D U-⟨k,x,hk,L,rfl,rfl,v,d⟩;simp[bB,lk];have g1:=d.obj.c 0;have g2:=d.obj.lt;obtain⟨b,off,rfl,V⟩:=HK.o qeG;obtain⟨K,ve,J,se⟩:=V x L;have N:=zh v;clear v;by_cases hlt:k<s.size
 case neg=>
  have x1:=Mem_cell_w d.ay K;have xl:=Mem_cell_lt d.ay K;have HA2:=zh (show aH l 0 s.data.toList=l[x].bU by
   rw[N.o,zQ qdW,aH,kT l x L])
  have HB:=zh d.az;generalize l[x].bU=ac at*
  clear d N V K J se U;exact qia
 have i:aH l 0 s.data.toList=aH l (bE (l[x]).bv (s[k]).toNat) (s.data.toList.drop (k+1)):=by
  rw[N.o,yE qe1,aH];have e:(s.data.toList[k]'qe1)=s[k]:=rfl;rw[e,iT l x _ L]
 have y:=zh i;have Z:=zh (fun e (he:e∈(l[x]).bv)=>jD (W.o _ (zF L)) e he);have x2:=Mem_cell_w d.ay J;have xl:=Mem_cell_lt d.ay J;obtain⟨ea,ec,rfl,e1,e2,e3⟩:=se;unfold maxLen at e2;have a':=zh e3;have HO:=zh d;have t':=(s[k]).toNat_lt;generalize (l[x]).bv=es at*
 clear d i V K J e3 N;go_wp2;refine aC [1,2,5,6,20,21,29,30,31] (fun n E D=>∃(j:Nat),j<=es.length/\n=es.length-j/\E=[.string s,.pointer (some ⟨w.heap.size,0,none⟩),.int .i64 x,.int .i64 k,.int .i64 s.size,.int .i64 k,.slice ea es.length ec,.int .i64 es.length,.int .i64 j]/\bE es (s[k]).toNat=bE (es.drop j) (s[k]).toNat /\
  Own w m D m [.obj w.heap.size 27 #[.slice (some ⟨b,off,none⟩) l.length c]]) ?_ ?_
 .exact qbx
 clear HO x2 xl g1 g2;rintro Y z n E D hY-⟨j,hj,rfl,rfl,u,d⟩;simp[bB,lk];have g:=zh u;clear u;by_cases p:j<es.length
 case neg=>
  have HA2:=zh (show aH l 0 s.data.toList=false by
   rw[y.o,g.o,zQ zo];exact eU (by simp[bE]) _)
  have HB:=zh d.az;clear d U hY;exact qia
 obtain⟨b',i',rfl,h5⟩:=a'.o (by intro h;simp[h]at p);obtain⟨O,y2,y3,-⟩:=h5 j p;have d1:=Mem_cell_w d.ay O;have d2:=Mem_cell_w d.ay y2;have d3:=Mem_cell_w d.ay y3;have dl:=Mem_cell_lt d.ay O;have C:=zh (JJ es (s[k]).toNat j p);have F:=Z.o es[j] (zF p);have HO:=zh (d.al #[.int .u8 (es[j]).lo,.int .u8 (es[j]).hi,.int .i64 (es[j]).to] 102);generalize es[j]=e at*
 obtain⟨-,-,P,p'⟩:=F;obtain⟨tn,t⟩:=zT P;clear d h5 O y2 y3;rw[t]at d3 HO;generalize u':(s[k]).toNat=B at*
 by_cases S:e.lo<=B
 .by_cases Q:B<=e.hi
  .have HA2:=zh (show aH l 0 s.data.toList=aH l (tn:Int) (s.data.toList.drop (k+1))by rw[y.o,g.o,C.o,zK ⟨S,Q⟩,t]);clear g C y hY;go_wp2
   go_quiet (fail)
   go_wp2;exact U.o _ _ _ zo rfl ⟨k+1,tn,zo,zo,rfl,rfl,HA2.o,(HO.o.Fa _).tail⟩
  .have HA2:=zh (show bE es B=bE (es.drop (j+1)) B by rw[g.o,C.o,zJ zo]);clear g C;go_wp2
   go_quiet (fail)
   exact qhJ
 .have HA2:=zh (show bE es B=bE (es.drop (j+1)) B by rw[g.o,C.o,zJ zo]);clear g C;go_wp2
  go_quiet (fail)
  exact qhJ
theorem qN{P:Program}{t:TypeId}{n:Nat}{w:zW}{o:Oper}{a:Act}{K:Act->World->Prop}{Q:Exit->Act->World->Prop}(S:oG P t n)(p v:Operand)(d:o.op=Op.store t p v){g:Nat}{T:TypeId}{b cs:Array Value}(i:a.eval p=.pointer (some ⟨g,0,none⟩))(h:a.eval v=.agg cs)(f:b.size=n)(j:cs.size=n)(l:∀u∈cs.toList,u.oneCell'=true)(e:aZ w g T b)
(k:∀w',aZ w' g T cs->w.grownBy w' (some g)->K (a.put o.dst undef) w'):o.wp P a w K Q:=by
 have c:=run_storeCells_from (P:=P) g T cs.toList 0 b w e.get qdW l;simp only[List.take_zero,xN,Array.toArray_toList]at c;unfold Oper.wp;simp[execOp,d,i,h,Instr.storeAt,Instr.sureAddr,storeVar,S.size,Value.cells,j,c,Result.andThen];exact k _ ⟨setRow_heap w g b cs T (0,0) e.get⟩ (grownBy_setRow' e.get)
theorem ZZ{acc:aK->Bool}{c:St}{s:ByteArray}{i:Nat}(hi:i<c.1.length)(h:∀j (b:j<c.1.length),j<i->¬c.1[j].1.1=s)(e:c.1[i].1.1=s):qY acc c s=(c.1[i].2,c.1[i].1.2):=by
 unfold qY;rw[OE i hi (fun j b a=>zM (h j b a)) (zN e)]
theorem ZY{acc:aK->Bool}{c:St}{s:ByteArray}{i:Nat}(d:∀j (a:j<c.1.length),¬c.1[j].1.1=s)(hi:i<c.2.length)(h:∀j (a:j<c.2.length),j<i->acc c.2[j].1=false)(e:acc c.2[i].1=true):qY acc c s=(c.2[i].2,3):=by
 unfold qY;rw[E5 (p:=fun f:Fd=>decide (f.1.1=s)) (fun j a=>zM (d j a)),OE (p:=fun k:Kl=>acc k.1) i hi (fun j a b=>h j a b) e]
theorem ZX{acc:aK->Bool}{c:St}{s:ByteArray}(b:∀j (a:j<c.1.length),¬c.1[j].1.1=s)(h:∀j (a:j<c.2.length),acc c.2[j].1=false):qY acc c s=((dB,dB),3):=by
 unfold qY;rw[E5 (p:=fun f:Fd=>decide (f.1.1=s)) (fun j a=>zM (b j a)),E5 (p:=fun k:Kl=>acc k.1) (fun j a=>h j a)]
def Si(m:Mem)(n:Nat)(r:Vd×Int)(e:Ending):Prop:=∃x y,e=.returned (.tuple #[bP r.1 x y,.int .i64 r.2])/\bq m (n+1) x r.1.1/\bq m (n+1) y r.1.2
theorem FM(u u2:zV)(c:St)(s:ByteArray)(m:Mem)(n:Nat)(w:zW)(hm:m.ay w)(h1:gN (bq m n) m u c.1)(h2:gP (bq m n) m u2 c.2)(hs:s.size<=maxLen):
 zC 75 #[.agg #[u,u2],.string s] w fun e w'=>Si m n (qY (Ef s) c s) e/\zB w w':=by
 obtain⟨a1,c1,rfl,p1,q1,k1⟩:=h1;obtain⟨a2,c2,rfl,p2,q2,k2⟩:=h2;unfold maxLen at q1 q2;have HK:=zh (zi k1 k2);have f:=zh (((Own.start hm).al #[.slice a1 c.1.length c1,.slice a2 c.2.length c2] 62).al oz 35);have x':=zh hs;clear k1 k2 hs;refine au fun R hR=>?_
 go_enter func75,ntmps75
 go_wp2;refine aC [1,2,4,12,11,13] (fun q J V=>∃(i:Nat),i<=c.1.length/\q=c.1.length-i/\J=[.string s,.pointer (some ⟨w.heap.size,0,none⟩),.pointer (some ⟨w.heap.size+1,0,none⟩),.int .i64 (c.1.length:Int),.slice a1 c.1.length c1,.int .i64 (i:Int)]/\(∀j (d:j<c.1.length),j<i->¬c.1[j].1.1=s) /\
  Own w m V m [.obj (w.heap.size+1) 35 oz,.obj w.heap.size 62 #[.slice a1 c.1.length c1,.slice a2 c.2.length c2]]) ?_ ?_
 .exact⟨_,0,zG _,rfl,rfl,fun j d h=>absurd h (xY _),by simpa only[bC]using f.o⟩
 clear f;rintro X z q J V Z-⟨i,hi,rfl,rfl,hA,r⟩;simp[bB,lk];have I:=zh hA;clear hA;by_cases hlt:i<c.1.length
 .obtain⟨b,off,rfl,h4⟩:=HK.o.1 qdP;obtain⟨x,y,M,G,F⟩:=(h4 i hlt).cells;have hl:(qI c.1[i] x y).length=20:=rfl;have hl2:(dC (c.1[i]).2 x y).length=18:=rfl;have B:=mV G F;have Q:=fZ G F;have HC:=zh (fun(w':zW) (h:m.ay w') j u d=>Mem_cell_w h (M j u d));have q':=Mem_cell_lt r.ay (M 0 _ rfl);have H0:(qI c.1[i] x y).toArray[0]?=some (.string c.1[i].1.1):=rfl;have H1:(qI c.1[i] x y).toArray[1]?=some (.int .i64 c.1[i].1.2):=rfl;have S:=zh (fun(w':zW) (g:Nat) (h:aZ w' g 82 (qI c.1[i] x y).toArray)=>h.sub (o:=2) (cs:=dC (c.1[i]).2 x y) fun j u d=>by simpa using qH d);have C:=zh (show c.1[i].1.1=s->Si m n (qY (Ef s) c s) (.returned (.tuple #[bP (c.1[i]).2 x y,.int .i64 c.1[i].1.2])) from fun e=>by
   rw[ZZ hlt I.o e];exact⟨x,y,rfl,G.succ,F.succ⟩)
  have t:=zh (show ¬c.1[i].1.1=s->∀j (d:j<c.1.length),j<i+1->¬c.1[j].1.1=s from fun h j d h3=>by
   by_cases e:j=i
   .exact qbV
   .exact I.o j d zo)
  have f:=zh (r.al SG 82);unfold bP at C;generalize dC (c.1[i]).2 x y=D at*
  generalize qI c.1[i] x y=N at*
  generalize c.1[i].1.1=K at*
  generalize c.1[i].1.2=pr at*
  have A:=r.ay;clear r h4 M G F;by_cases W:K=s
  .have hd:(K.toList==s.toList)=true:=Sa W;have T:=zh (C.o W);clear C t W
   go_upto_region 5 with(first
    |refine aj uh rfl (.tmp 15) rfl rfl N hl (HC.o _ A) ?_
    | (refine aB uh rfl (.tmp 7) (.tmp 16) rfl (cs:=N.toArray) rfl rfl rfl qdY (fun u hu=>B u qdQ) f.o.obj ?_;intro w1 l p;have a:=f.o.aW l p;have y0:=a.obj.cell H0;have y1:=a.obj.lt))
   refine aV [4,5] (fun J w'=>J=[.pointer (some ⟨w.heap.size+1,0,none⟩),.int .i64 pr]/\Own w m w' m [.obj (w.heap.size+1) 35 D.toArray]) ?_ ?_
   .intro Y hY;refine gL (fun w'=>aZ w' V.heap.size 82 N.toArray) 5 zk ?_;have k:=a.dr;have hS:=k.obj;refine aD 0 rfl zk qfd hS qiq ?_;refine aD 1 rfl zk qfd hS (ax rfl fun w' hS'=>dU.exec rfl zg hl2 (S.o w' _ hS')) ?_;refine aD 2 rfl zk qfd hS qiZ ?_;refine aD 3 rfl zk qfd hS qiZ ?_;refine aQ 4 zk (aJ rfl rfl (qN dU (.tmp 4) (.tmp 22) rfl (cs:=D.toArray) zg zg rfl qdZ (fun u hu=>Q u qdQ) k.av.obj fun w2 m' p'=>?_));have H:=k.av.aW m' p';refine iq H.av.obj fun N'=>?_;go_simp;refine aQ 5 zk (aJ rfl rfl (aO qdT (jJ rfl ?_)));refine eP zk ?_ _;exact hY.o _ _ rfl ⟨rfl,H.bK.bK⟩
   rintro z1 J w3-⟨rfl,P⟩;simp[bB,lk];have hr:=dU.load hl2 P.obj.all;have HB:=zh P.az;clear P;go_wp2;refine yV (v:=.tuple #[.agg D.toArray,.int .i64 pr]) (ek results75 rfl hr) rfl ?_;exact hR.o _ _ ⟨T.o,HB.o⟩
  .have hd:(K.toList==s.toList)=false:=Sb W;have E:=zh (t.o W);clear C t W
   go_wp2_with (first
    |refine aj uh rfl (.tmp 15) rfl rfl N hl (HC.o _ A) ?_
    | (refine aB uh rfl (.tmp 7) (.tmp 16) rfl (cs:=N.toArray) rfl rfl rfl qdY (fun u hu=>B u qdQ) f.o.obj ?_;intro w1 l p;have a:=f.o.aW l p;have y0:=a.obj.cell H0;have y1:=a.obj.lt))
   exact Z.o _ _ _ zo rfl ⟨i+1,zo,rfl,rfl,E.o,a.tail⟩
 obtain rfl:i=c.1.length:=zo;have U:=zh (fun j (d:j<c.1.length)=>I.o j d d);have g1:=r.av.obj.c 1;have g2:=r.av.obj.lt;have f:=zh r;clear r Z I;go_wp2;refine aC [1,4,28,27,29] (fun q J V=>∃(i:Nat),i<=c.2.length/\q=c.2.length-i/\J=[.string s,.pointer (some ⟨w.heap.size+1,0,none⟩),.int .i64 (c.2.length:Int),.slice a2 c.2.length c2,.int .i64 (i:Int)]/\(∀j (d:j<c.2.length),j<i->Ef s c.2[j].1=false) /\
  Own w m V m [.obj (w.heap.size+1) 35 oz]) ?_ ?_
 .exact⟨_,0,zG _,rfl,rfl,fun j d h=>absurd h (xY _),f.o.bK⟩
 clear f g1 g2;rintro X z q J V Z-⟨i,hi,rfl,rfl,hA,r⟩;simp[bB,lk];have I:=zh hA;clear hA;by_cases hlt:i<c.2.length
 .obtain⟨b,off,rfl,h4⟩:=HK.o.2 qdP;obtain⟨kc,x,y,L,M,G,F⟩:=(h4 i hlt).cells;have hl:(ow c.2[i] kc x y).length=19:=rfl;have hl2:(dC (c.2[i]).2 x y).length=18:=rfl;have B:=nU L G F;have Q:=fZ G F;have HC:=zh (fun(w':zW) (h:m.ay w') j u d=>Mem_cell_w h (M j u d));have q':=Mem_cell_lt r.ay (M 0 _ rfl);have H0:(ow c.2[i] kc x y).toArray[0]?=some kc:=rfl;have S:=zh (fun(w':zW) (g:Nat) (h:aZ w' g 68 (ow c.2[i] kc x y).toArray)=>h.sub (o:=1) (cs:=dC (c.2[i]).2 x y) fun j u d=>by simpa using kZ d);have C:=zh (show Ef s c.2[i].1=true->Si m n (qY (Ef s) c s) (.returned (.tuple #[bP (c.2[i]).2 x y,.int .i64 3])) from fun e=>by
   rw[ZY U.o hlt I.o e];exact⟨x,y,rfl,G.succ,F.succ⟩)
  have t:=zh (show Ef s c.2[i].1=false->∀j (d:j<c.2.length),j<i+1->Ef s c.2[j].1=false from fun h j d h3=>by
   by_cases e:j=i
   .exact qbV
   .exact I.o j d zo)
  have g':=zh (fun(w':zW) (h:m.ay w')=>Lg kc c.2[i].1 s m w' h L x'.o);obtain⟨ta,tc,rfl,-⟩:=L;have f:=zh (r.al SB 68);unfold bP at C;generalize dC (c.2[i]).2 x y=D at*
  generalize ow c.2[i] _ x y=N at*
  generalize Ef s c.2[i].1=ab at*
  have A:=r.ay;clear r h4 M G F;cases ab
  .have E:=zh (t.o rfl);clear C t
   go_wp2_with (first
    |refine aj sw rfl (.tmp 31) rfl rfl N hl (HC.o _ A) ?_
    |(refine aB sw rfl (.tmp 9) (.tmp 32) rfl (cs:=N.toArray) rfl rfl rfl qdY (fun u hu=>B u qdQ) f.o.obj ?_;intro w1 l p;have a:=f.o.aW l p;have y0:=a.obj.cell H0;have y1:=a.obj.lt)
    | (go_at_call 113;refine(g'.o _ a.ay).mono ?_;rintro e w2 ⟨rfl,O⟩))
   exact Z.o _ _ _ zo rfl ⟨i+1,zo,rfl,rfl,E.o,(a.aS O).tail⟩
  .have T:=zh (C.o rfl);clear C t Z
   go_wp2_with (first
    |refine aj sw rfl (.tmp 31) rfl rfl N hl (HC.o _ A) ?_
    |(refine aB sw rfl (.tmp 9) (.tmp 32) rfl (cs:=N.toArray) rfl rfl rfl qdY (fun u hu=>B u qdQ) f.o.obj ?_;intro w1 l p;have a:=f.o.aW l p;have y0:=a.obj.cell H0;have y1:=a.obj.lt)
    |(go_at_call 113;refine(g'.o _ a.ay).mono ?_;rintro e w2 ⟨rfl,O⟩;have k:=a.aS O;have y2:=S.o _ _ k.obj;have y3:=k.obj.lt)
    |refine aj dU rfl (.tmp 37) rfl rfl D hl2 y2 ?_
    | (refine aB dU rfl (.tmp 4) (.tmp 38) rfl (cs:=D.toArray) rfl rfl rfl qdZ (fun u hu=>Q u qdQ) k.av.obj ?_;intro w3 a' o';have H:=k.av.aW a' o';have hr:=dU.load hl2 a'.all))
   refine yV (v:=.tuple #[.agg D.toArray,.int .i64 3]) (ek results75 rfl hr) rfl ?_;exact hR.o _ _ ⟨T.o,H.az⟩
 obtain rfl:i=c.2.length:=zo;have C:=zh (show Si m n (qY (Ef s) c s) (.returned (.tuple #[bP (dB,dB) dR dR,.int .i64 3]))by
  rw[ZX U.o (fun j d=>I.o j d d)];exact⟨dR,dR,rfl,(bq.leaf m false).mono zo,(bq.leaf m false).mono zo⟩)
 have f:=zh r;clear r Z I U
 go_wp2_with (refine aB dU rfl (.tmp 4) (.tmp 40) rfl (cs:=oz) rfl rfl rfl rfl zD f.o.obj ?_)
 intro w' ho hg;have HF:=zh (f.o.aW ho hg);have hr:=dU.load (cs:=oz.toList) rfl ho.all;clear f hg ho;go_wp2;refine yV (v:=.tuple #[.agg oz,.int .i64 3]) (ek results75 rfl hr) rfl ?_;exact hR.o _ _ ⟨C.o,HF.o.az⟩
end Cl
namespace Cl
open Go Go.RowKit Go.Proofs
def uX(c:St):Vl:=.mk false cK [] [c]
def lZ(c:Lc):Vl:=.mk false cK [c] []
abbrev EC(g:Nat):Sl:=⟨.slice none 0 0,.slice none 0 0,.slice none 0 0,.slice none 0 0,.slice (some ⟨g,0,none⟩) 1 1⟩
abbrev ES(g:Nat):Sl:=⟨.slice none 0 0,.slice none 0 0,.slice none 0 0,.slice (some ⟨g,0,none⟩) 1 1,.slice none 0 0⟩
theorem azG{α:Type}{R:Nat->Nat->α->Prop}{size g:Nat}{x:α}(h:R g 0 x):Mem.slice R size (.slice (some ⟨g,0,none⟩) 1 1) [x]:=
 ⟨some ⟨g,0,none⟩,1,rfl,zS,by simp[maxLen],fun _=>⟨g,0,rfl,fun i hi=>by
  obtain rfl:i=0:=by simpa using hi
  simpa using h⟩⟩
theorem Tm{m:Mem}{n:Nat}{c:St}{g:Nat}{u a:zV}(f:m.cell g 0=some u)(e:m.cell g 1=some a)(d:gN (bq m n) m u c.1)(b:gP (bq m n) m a c.2):bq m (n+1) (EC g) (uX c):=
 ⟨(bq.leaf m false).1,fM _ _,azG ⟨u,a,f,e,d,b⟩⟩
theorem Ut{m:Mem}{n:Nat}{c:Lc}{g:Nat}{u a:zV}(f:m.cell g 0=some u)(e:m.cell g 1=some a)(d:bG (bq m n) m u c.1)(b:bG (bq m n) m a c.2):bq m (n+1) (ES g) (lZ c):=
 ⟨(bq.leaf m false).1,azG ⟨u,a,f,e,d,b⟩,fM _ _⟩
end Cl
namespace Cl
open Go Go.RowKit Go.Proofs Tryz
theorem bG.gH{m m':Mem}{n:Nat}{v:zV}{l:List Vd}(k:m.le m')(h:bG (bq m n) m v l):bG (bq m' n) m' v l:=bG.le k (fun _ _=>bq.le k) h
theorem Je{n:Nat}{v:Vl}{c:Lc}(h:Ht (n+1) v)(d:dA (n+1) v<=1048576)(a:c∈v.aN):c.1.length+c.2.length<=1048576:=by
 have g:=QN h;have b:(aY c).length<=(v.aN.flatMap aY).length:=by
  rw[List.length_flatMap];exact NI (f:=fun c=>(aY c).length) a
 have e:v.kids.length=(v.aN.flatMap aY).length+(v.aA.flatMap bN).length:=by rw[Vl.kids,zL]
 rw[aY,zL]at b;omega
theorem czP{n:Nat}(H:BM n):BM (n+1):=fun v v' s s' m w hm hv e' hct A'=>by
 have g:=((Own.start hm).al (bu v s).toArray 33).al (bu v' s').toArray 33;simp only[bC]at g;have HL:=zh (zi (fun c (hc:c∈v.aN)=>Je hv.ht hct hc) (fun c (hc:c∈v'.aN)=>Je e'.ht A' hc));have l':=zh (zi (fun d (L:d∈v.kids)=>show jw n d by have:=wM (n:=n) L;exact⟨zo,zo⟩) (fun d (L:d∈v'.kids)=>show jw n d by have:=wM (n:=n) L;exact⟨zo,zo⟩));have HS:=zh (Gq s.i s.f s.t s'.i s'.f s'.t v.s v'.s m _ g.ay hv.sc e'.sc);have G:=zh (Xn v v');have c0:=g.av.obj.cell (i:=0) (v:=.bool v.any) rfl;have c0':=g.obj.cell (i:=0) (v:=.bool v'.any) rfl;have q0:=g.av.obj.sub (DC v s);have c':=g.obj.sub (DC v' s');have H7:(bu v s).toArray[7]?=some s.l:=rfl;have H8:(bu v s).toArray[8]?=some s.s:=rfl;have z':(bu v' s').toArray[7]?=some s'.l:=rfl;have y':(bu v' s').toArray[8]?=some s'.s:=rfl;have hv2:=hv.2;have hv2':=e'.2;obtain⟨a1,b1,a2,b2,a3,b3,a4,b4,a5,b5,rfl,q1,q2,q3,q4,q5⟩:=hv.df;obtain⟨⟨z1,y1,e1,-,-,k1⟩,⟨z2,y2,e2,-,-,k2⟩⟩:=hv2;simp only[Value.slice.injEq]at e1 e2;obtain⟨rfl,-,rfl⟩:=e1;obtain⟨rfl,-,rfl⟩:=e2;obtain⟨a1',b1',a2',b2',a3',b3',a4',b4',a5',b5',rfl,q1',q2',q3',q4',q5'⟩:=e'.df;obtain⟨⟨z1,y1,e1,-,-,k1'⟩,⟨z2,y2,e2,-,-,k2'⟩⟩:=hv2';simp only[Value.slice.injEq]at e1 e2;obtain⟨rfl,-,rfl⟩:=e1;obtain⟨rfl,-,rfl⟩:=e2;simp only at H7 H8 z' y';have J:=zh (zi H7 (zi H8 (zi z' y')));unfold maxLen at q4 q5 q4' q5';have HK:=zh (zi k1 (zi k2 (zi k1' k2')));have HO:=zh g;obtain⟨P1,hP1⟩:∃P1:Prop,P1=(v.any=v'.any/\v.s=v'.s/\v.aN.length=v'.aN.length/\v.aA.length=v'.aA.length):=⟨_,rfl⟩;have C:=zh hP1;have c7:=g.av.obj.cell H7;have V:=g.obj.cell z';have c8:=g.av.obj.cell H8;have p':=g.obj.cell y';have g1:=g.av.obj.lt;have g2:=g.obj.lt;clear g hP1 k1 k2 k1' k2' hv e' hct A' q1 q2 q3 q1' q2' q3' H7 H8 z' y';unfold Vl.val RS.val at*
 generalize bu v _=N at*
 generalize bu v' _=N' at*
 refine au fun R hR=>?_
 go_enter func47,ntmps47
 go_upto_region 1 with(fail)
 generalize hW:(w.alloc (.cells N.toArray 33)).alloc (.cells N'.toArray 33)=w0 at*
 clear hW;refine aV [2,3,39] (fun I w'=>I=[.pointer (some ⟨w.heap.size,0,none⟩),.pointer (some ⟨w.heap.size+1,0,none⟩),.bool (!tf P1)]/\Own w m w' m [.obj (w.heap.size+1) 33 N'.toArray,.obj w.heap.size 33 N.toArray]) ?_ ?_
 .intro X hX;clear HK HL l' G;by_cases h1:v.any=v'.any
  case neg=>
   have HP:=zh (show tf P1=false by rw[C.o];exact aF fun h=>h1 h.1);have L:(v.any==v'.any)=false:=by simp[h1]
   have hd2:(v.any != v'.any)=true:=by simp[h1]
   clear h1 HS;go_wp2;exact hX.o _ _ rfl ⟨by rw[HP.o]<;>rfl,HO.o⟩
  have L:(v.any==v'.any)=true:=by simp[h1]
  have hd2:(v.any != v'.any)=false:=by simp[h1]
  by_cases h2:v.s=v'.s
  case neg=>
   have HP:=zh (show tf P1=false by rw[C.o];exact aF fun h=>h2 h.2.1);have hh:=HS.o;rw[aF h2]at hh;have HS:=zh hh;clear h1 h2 hh
   go_wp2_with (first|refine aj wQ rfl (.tmp 15) rfl rfl _ rfl q0 ?_|refine aj wQ rfl (.tmp 17) rfl rfl _ rfl c' ?_|(go_at_call 66;refine HS.o.mono ?_;rintro e w1 ⟨rfl,hb1⟩))
   exact qhc
  have hh:=HS.o;rw[aM h2]at hh;have M':=zh hh;clear hh HS;by_cases h3:v.aN.length=v'.aN.length
  case neg=>
   have HP:=zh (show tf P1=false by rw[C.o];exact aF fun h=>h3 h.2.2.1);have hd3:((v.aN.length:Int) != (v'.aN.length:Int))=true:=by simp;omega
   clear h1 h2 h3 C;generalize v.aN.length=n4 at*
   generalize v'.aN.length=Z' at*
   go_wp2_with (first|refine aj wQ rfl (.tmp 15) rfl rfl _ rfl q0 ?_|refine aj wQ rfl (.tmp 17) rfl rfl _ rfl c' ?_|(go_at_call 66;refine M'.o.mono ?_;rintro e w1 ⟨rfl,hb1⟩;have A:=HO.o.aS hb1;have c7:=A.av.obj.cell J.o.1;have V:=A.obj.cell J.o.2.2.1;have g1:=A.av.obj.lt;have g2:=A.obj.lt))
   exact qhc
  have hd3:((v.aN.length:Int) != (v'.aN.length:Int))=false:=by simp[h3]
  by_cases h4:v.aA.length=v'.aA.length
  case neg=>
   have HP:=zh (show tf P1=false by rw[C.o];exact aF fun h=>h4 h.2.2.2);have hd4:((v.aA.length:Int) != (v'.aA.length:Int))=true:=by simp;omega
   clear h1 h2 h3 h4 C;generalize v.aN.length=n4 at*
   generalize v'.aN.length=Z' at*
   generalize v.aA.length=n5 at*
   generalize v'.aA.length=n5' at*
   go_wp2_with (first|refine aj wQ rfl (.tmp 15) rfl rfl _ rfl q0 ?_|refine aj wQ rfl (.tmp 17) rfl rfl _ rfl c' ?_|(go_at_call 66;refine M'.o.mono ?_;rintro e w1 ⟨rfl,hb1⟩;have A:=HO.o.aS hb1;have c7:=A.av.obj.cell J.o.1;have V:=A.obj.cell J.o.2.2.1;have c8:=A.av.obj.cell J.o.2.1;have p':=A.obj.cell J.o.2.2.2;have g1:=A.av.obj.lt;have g2:=A.obj.lt))
   exact qhc
  have hd4:((v.aA.length:Int) != (v'.aA.length:Int))=false:=by simp[h4]
  have HP:=zh (show tf P1=true by rw[C.o];exact aM ⟨h1,h2,h3,h4⟩);clear h1 h2 h3 h4 C;generalize v.aN.length=n4 at*
  generalize v'.aN.length=Z' at*
  generalize v.aA.length=n5 at*
  generalize v'.aA.length=n5' at*
  go_wp2_with (first|refine aj wQ rfl (.tmp 15) rfl rfl _ rfl q0 ?_|refine aj wQ rfl (.tmp 17) rfl rfl _ rfl c' ?_|(go_at_call 66;refine M'.o.mono ?_;rintro e w1 ⟨rfl,hb1⟩;have A:=HO.o.aS hb1;have c7:=A.av.obj.cell J.o.1;have V:=A.obj.cell J.o.2.2.1;have c8:=A.av.obj.cell J.o.2.1;have p':=A.obj.cell J.o.2.2.2;have g1:=A.av.obj.lt;have g2:=A.obj.lt))
  exact qhc
 clear HO HS c0 c0' q0 c' c7 V c8 p' g1 g2;rintro z I w1-⟨rfl,g⟩;simp[bB,lk];have HO:=zh g;by_cases T:P1
 case neg=>
  have HX:=zh (show ¬v=v' from fun h=>T (by rw[C.o,h];exact⟨rfl,rfl,rfl,rfl⟩));rw[aF T];have HB:=zh g.az;clear g HO G T C;exact qg7
 have hp:=C.o ▸ T;rw[aM T];have HX:=zh (show v=v'↔v.aN=v'.aN/\v.aA=v'.aA from G.o.trans ⟨fun h=>h.2.2,fun h=>⟨hp.1,hp.2.1,h⟩⟩);have t':=zh (zi hp.2.2.1 hp.2.2.2);clear g G T C hp;have c7:=HO.o.av.obj.cell J.o.1;have g1:=HO.o.av.obj.lt;go_wp2;refine aC [2,3,42,43] (fun q I F=>∃(i:Nat),i<=v.aN.length/\q=v.aN.length-i/\I=[.pointer (some ⟨w.heap.size,0,none⟩),.pointer (some ⟨w.heap.size+1,0,none⟩),.int .i64 (v.aN.length:Int),.int .i64 (i:Int)]/\(v=v'↔v.aN.drop i=v'.aN.drop i/\v.aA=v'.aA) /\
  Own w m F m [.obj (w.heap.size+1) 33 N'.toArray,.obj w.heap.size 33 N.toArray]) ?_ ?_
 .exact⟨_,0,zG _,rfl,rfl,HX.o,HO.o⟩
 clear HO HX c7 g1;rintro X z q I F hX-⟨i,hi,rfl,rfl,hE,g⟩;simp[bB,lk];have G:=zh hE;clear hE;by_cases hlt:i<v.aN.length
 .have hlt':i<v'.aN.length:=by rw[<-t'.o.1];exact hlt
  obtain⟨b,off,rfl,h4⟩:=HK.o.1 qdP;obtain⟨b',d',rfl,f'⟩:=HK.o.2.2.1 qd1;obtain⟨u,u2,s1,s2,s3,s4⟩:=h4 i hlt;obtain⟨u',H',K,a',Z,W⟩:=f' i hlt';have c7:=g.av.obj.cell J.o.1;have V:=g.obj.cell J.o.2.2.1;have g1:=g.av.obj.lt;have g2:=g.obj.lt;have x1:=Mem_cell_w g.ay s1;have x2:=Mem_cell_w g.ay s2;have xl:=Mem_cell_lt g.ay s1;have U':=Mem_cell_w g.ay K;have T':=Mem_cell_w g.ay a';have S':=Mem_cell_lt g.ay K;have D:=zh (nE v.aN v'.aN i hlt hlt');have k':=zh (Yp v.aN[i] v'.aN[i]);have HO:=zh g;clear g h4 f' s1 s2 K a';have r':=zh (zi (HL.o.1 _ (zF hlt)) (HL.o.2 _ (zF hlt')));have x':=zh (zi (fun d (L:d∈aY v.aN[i])=>l'.o.1 d (eB (zF hlt) L)) (fun d (L:d∈aY v'.aN[i])=>l'.o.2 d (eB (zF hlt') L)));generalize v.aN[i]=cl at*
  generalize v'.aN[i]=x at*
  have L':=zh (fun(w':zW) (h:m.ay w')=>kL u u2 cl m n w' h s3 s4 r'.o.1);have j':=zh (fun(w':zW) (h:m.ay w')=>kL u' H' x m n w' h Z W r'.o.2);obtain⟨ua,uc,rfl,-,r2,-⟩:=s3;obtain⟨S,P,rfl,-⟩:=s4;obtain⟨ub,ud,rfl,-,r2',-⟩:=Z;obtain⟨Q,O,rfl,-⟩:=W;unfold maxLen at r2 r2'
  go_upto_region 6 with(fail)
  refine aV [2,3,6,7,42,43] (fun I w'=>∃p q,I=[.pointer (some ⟨w.heap.size,0,none⟩),.pointer (some ⟨w.heap.size+1,0,none⟩),.pointer (some ⟨p,0,none⟩),.pointer (some ⟨q,0,none⟩),.int .i64 (v.aN.length:Int),.int .i64 (i:Int)] /\
   Own w m w' m [.obj p 50 #[.slice ua cl.1.length uc,.slice S cl.2.length P],.obj q 50 #[.slice ub x.1.length ud,.slice Q x.2.length O],.obj (w.heap.size+1) 33 N'.toArray,.obj w.heap.size 33 N.toArray]) ?_ ?_
  .intro Y hY
   go_region
   .exact hY.o _ _ rfl ⟨F.heap.size,F.heap.size+1,rfl,by simpa only[bC]using((HO.o.al #[.slice ua cl.1.length uc,.slice S cl.2.length P] 50).al #[.slice ub x.1.length ud,.slice Q x.2.length O] 50).dr.av⟩
   .exact hY.o _ _ rfl ⟨F.heap.size+1,F.heap.size,rfl,by simpa only[bC]using((HO.o.al #[.slice ub x.1.length ud,.slice Q x.2.length O] 50).al #[.slice ua cl.1.length uc,.slice S cl.2.length P] 50).dr⟩
  clear HO c7 V g1 g2 x1 x2 xl U' T' S';rintro z1 I w2-⟨p,q,rfl,g⟩;simp[bB,lk];have y1:=g.obj.c 0;have y2:=g.av.obj.c 0;have y3:=g.obj.lt;have y4:=g.av.obj.lt;have HO:=zh g;clear g;by_cases o':cl.1.length=x.1.length
  case neg=>
   have L:((cl.1.length:Int) != (x.1.length:Int))=true:=by simp;omega
   have HX:=zh (show ¬v=v' from fun h=>o' (k'.o.1 (D.o.1 (G.o.1 h).1).1).1);clear k' D G o' L' j' r' x' hX;generalize cl.1.length=n1 at*
   generalize x.1.length=n2 at*
   go_wp2
   go_quiet (fail)
   exact qho
  have HX:=zh (show v=v'↔aY cl=aY x/\v.aN.drop (i+1)=v'.aN.drop (i+1)/\v.aA=v'.aA from
   ⟨fun h=>⟨(k'.o.1 (D.o.1 (G.o.1 h).1).1).2,(D.o.1 (G.o.1 h).1).2,(G.o.1 h).2⟩,fun h=>G.o.2 ⟨D.o.2 ⟨k'.o.2 ⟨o',h.1⟩,h.2.1⟩,h.2.2⟩⟩)
  clear k' D G r';generalize cl.1.length=n1 at*
  generalize cl.2.length=n3 at*
  generalize x.2.length=n4 at*
  generalize x.1.length=n2 at*
  subst o';generalize aY cl=L1 at*
  generalize aY x=L2 at*
  have hin0:=HO.o.ay
  go_upto_region 7 with(fail)
  refine aV [2,3,42,43,70] (fun I w'=>I=[.pointer (some ⟨w.heap.size,0,none⟩),.pointer (some ⟨w.heap.size+1,0,none⟩),.int .i64 (v.aN.length:Int),.int .i64 (i:Int),.bool (!tf (L1=L2))] /\
   Own w m w' m [.obj (w.heap.size+1) 33 N'.toArray,.obj w.heap.size 33 N.toArray]) ?_ ?_
  .intro Y hY;refine bF 15 8 (fun j=>[aI.is (·=.pointer (some ⟨p,0,none⟩)),aI.is (·=.slice ua n1 uc),aI.is (·=.int .i64 (n1:Nat)),aI.is (·=.pointer (some ⟨q,0,none⟩)),aI.is (·=.slice ub n1 ud),aI.is (·=.int .i64 (n1:Nat)),aI.is (·=.bool false),aI.is (·=.bool false),aI.is (·=.agg #[.slice ua n1 uc,.slice S n3 P]),aI.mem m [9] (fun M u=>bG (bq M n) M u L1),aI.is (·=.agg #[.slice ub n1 ud,.slice Q n4 O]),aI.mem m [11] (fun M u=>bG (bq M n) M u L2),aI.is (·=.bool (tf (L1=L2))),aI.is (·=.bool (!tf (L1=L2))),aI.is (·=.bool (!tf (L1=L2)))].getD j aI.any) zk zk ?_ ?_
   .intro i hi o B a F ho y;have HO2:=HO.o.dr.aS y.az;have y1:=HO2.obj.c 0;have y2:=HO2.av.obj.c 0;have y5:=HO2.obj.c 1;have y6:=HO2.av.obj.c 1;have y3:=HO2.obj.lt;have y4:=HO2.av.obj.lt;rcases(show i=0\/i=1\/i=2\/i=3\/i=4\/i=5\/i=6\/i=7\/i=8\/i=9\/i=10\/i=11\/i=12\/i=13\/i=14 by omega)with rfl|rfl|rfl|rfl|rfl|rfl|rfl|rfl|rfl|rfl|rfl|rfl|rfl|rfl|rfl
    .have e6:=y.k 6;exact qaa
    .have e56:zt a 56 _:=y.d 0 rfl;exact qaa
    .have e57:zt a 57 _:=y.d 1 rfl;exact qaa
    .have e7:=y.k 7;exact qaa
    .have e59:zt a 59 _:=y.d 3 rfl;exact qaa
    .have e60:zt a 60 _:=y.d 4 rfl;exact qaa
    .have e58:zt a 58 _:=y.d 2 rfl;have e61:zt a 61 _:=y.d 5 rfl;exact qaa
    .have e62:zt a 62 _:=y.d 6 rfl;exact qaa
    .have e6:=y.k 6;have e63:zt a 63 _:=y.d 7 rfl;exact qbd
    .have e64:zt a 64 _:=y.d 8 rfl;have e63:zt a 63 _:=y.d 7 rfl;cases ho;refine we2 rfl rfl rfl e63 (L'.o _ HO2.ay) ?_;exact qhl
    .have e7:=y.k 7;have e63:zt a 63 _:=y.d 7 rfl;exact qbd
    .have e66:zt a 66 _:=y.d 10 rfl;have e63:zt a 63 _:=y.d 7 rfl;cases ho;refine we2 rfl rfl rfl e63 (j'.o _ HO2.ay) ?_;exact qhk
    .have e65:(aI.mem m [9] (fun M u=>bG (bq M n) M u L1)).holds (a.tmps.getD 65 undef) B F:=y.d 9 rfl;have e67:(aI.mem m [11] (fun M u=>bG (bq M n) M u L2)).holds (a.tmps.getD 67 undef) B F:=y.d 11 rfl;have e63:zt a 63 _:=y.d 7 rfl;cases ho;have f1:bG (bq (m.fJ F B [9]) n) (m.fJ F B [9]) _ L1:=e65;have f2:bG (bq (m.fJ F B [11]) n) (m.fJ F B [11]) _ L2:=e67;have M1:=Mem_wins_le (m:=m) (es:=[9,11]) HO2.ay B (ds:=[9]) zS;have M2:=Mem_wins_le (m:=m) (es:=[9,11]) HO2.ay B (ds:=[11]) zS;refine we2 rfl rfl rfl e63 (YP H _ _ L1 L2 (m.fJ F B [9,11]) F (Mem_wins_inn HO2.ay B [9,11]) (f1.gH M1) (f2.gH M2) x'.o.1 x'.o.2) ?_;exact qab
    .have e68:zt a 68 _:=y.d 12 rfl;have e63:zt a 63 _:=y.d 7 rfl;exact qbd
    .have e63:zt a 63 _:=y.d 7 rfl;have e69:zt a 69 _:=y.d 13 rfl;exact qaa
   .intro B a F E;have e2:=E.keep 2 zk;have e3:=E.keep 3 zk;have e42:=E.keep 42 zk;have e43:=E.keep 43 zk;have e70:a.tmps.getD 70 undef=.bool (!tf (L1=L2)):=E.fact 14 _ zo rfl;have hZ:=HO.o.dr.aS E.az;obtain⟨t1,d⟩:=a;obtain rfl:d=[]:=E.defers;refine dx zk (hY.o _ _ E.size ⟨?_,hZ.tail.tail⟩) _;simp only[yL,xB,e2,e3,e42,e43,e70]
    rfl
  clear HO y1 y2 y3 y4 hin0 L' j' x';rintro z2 I w3-⟨rfl,g⟩;simp[bB,lk];have HO:=zh g;clear g;by_cases U:L1=L2
  .have HX2:=zh (HX.o.trans ⟨fun h=>h.2,fun h=>⟨U,h⟩⟩);rw[aM U];clear HX U;exact qdk
  .have HX2:=zh (show ¬v=v' from fun h=>U (HX.o.1 h).1);rw[aF U];clear HX U hX;exact qh5
 obtain rfl:i=v.aN.length:=zo;have HX:=zh (show v=v'↔v.aA=v'.aA from G.o.trans ⟨fun h=>h.2,fun h=>⟨by rw[zQ zo,zQ (by rw[<-t'.o.1];omega)],h⟩⟩);have c8:=g.av.obj.cell J.o.2.1;have g1:=g.av.obj.lt;have HO:=zh g;clear g hX G;go_wp2;refine aC [2,3,74,75] (fun q I F=>∃(i:Nat),i<=v.aA.length/\q=v.aA.length-i/\I=[.pointer (some ⟨w.heap.size,0,none⟩),.pointer (some ⟨w.heap.size+1,0,none⟩),.int .i64 (v.aA.length:Int),.int .i64 (i:Int)]/\(v=v'↔v.aA.drop i=v'.aA.drop i) /\
  Own w m F m [.obj (w.heap.size+1) 33 N'.toArray,.obj w.heap.size 33 N.toArray]) ?_ ?_
 .exact⟨_,0,zG _,rfl,rfl,HX.o,HO.o⟩
 clear HO HX c8 g1;rintro X z q I F hX-⟨i,hi,rfl,rfl,hE,g⟩;simp[bB,lk];have G:=zh hE;clear hE;by_cases hlt:i<v.aA.length
 case neg=>
  have HX:=zh (show v=v' from G.o.2 (by rw[zQ zo,zQ (by rw[<-t'.o.2];omega)]));have HB:=zh g.az;clear g hX G;go_wp2;exact hR.o _ _ ⟨aR (by rw[aM HX.o]),HB.o⟩
 have hlt':i<v'.aA.length:=by rw[<-t'.o.2];exact hlt
 obtain⟨b,off,rfl,h4⟩:=HK.o.2.1 qdP;obtain⟨b',d',rfl,f'⟩:=HK.o.2.2.2 qd1;obtain⟨u,u2,s1,s2,s3,s4⟩:=h4 i hlt;obtain⟨u',H',K,a',Z,W⟩:=f' i hlt';have D:=zh (nE v.aA v'.aA i hlt hlt');have HSX:=zh (fun(w':zW) (h:m.ay w')=>Ty H v.aA[i] v'.aA[i] u u2 u' H' m w' h s3 s4 Z W (fun d L=>l'.o.1 d (eQ (zF hlt) L)) (fun d L=>l'.o.2 d (eQ (zF hlt') L)));generalize v.aA[i]=cl at*
 generalize v'.aA[i]=x at*
 obtain⟨ua,uc,rfl,-⟩:=s3;obtain⟨S,P,rfl,-⟩:=s4;obtain⟨ub,ud,rfl,-⟩:=Z;obtain⟨Q,O,rfl,-⟩:=W;have HO:=zh g;have y8:=g.av.obj.cell J.o.2.1;have y9:=g.av.obj.lt;clear g h4 f'
 go_upto_region 13 with(fail)
 clear y8 y9;refine aV [2,3,74,75,89] (fun I w'=>I=[.pointer (some ⟨w.heap.size,0,none⟩),.pointer (some ⟨w.heap.size+1,0,none⟩),.int .i64 (v.aA.length:Int),.int .i64 (i:Int),.bool (!tf (cl=x))] /\
  Own w m w' m [.obj (w.heap.size+1) 33 N'.toArray,.obj w.heap.size 33 N.toArray]) ?_ ?_
 .intro Y hY;refine bF 12 8 (fun j=>[aI.is (·=.pointer (some ⟨w.heap.size,8,none⟩)),aI.is (·=.slice (some ⟨b,off,none⟩) v.aA.length b5),aI.is (·=.int .i64 (i:Int)),aI.is (·=.pointer (some ⟨b,off+i*2,none⟩)),aI.is (·=.agg #[.slice ua cl.1.length uc,.slice S cl.2.length P]),aI.is (·=.pointer (some ⟨w.heap.size+1,8,none⟩)),aI.is (·=.slice (some ⟨b',d',none⟩) v'.aA.length b5'),aI.is (·=.int .i64 (i:Int)),aI.is (·=.pointer (some ⟨b',d'+i*2,none⟩)),aI.is (·=.agg #[.slice ub x.1.length ud,.slice Q x.2.length O]),aI.is (·=.bool (tf (cl=x))),aI.is (·=.bool (!tf (cl=x)))].getD j aI.any) zk zk ?_ ?_
  .intro i hi o B a F ho y;have HO2:=HO.o.dr.aS y.az;have c8:=HO2.av.obj.cell J.o.2.1;have p':=HO2.obj.cell J.o.2.2.2;have g1:=HO2.av.obj.lt;have g2:=HO2.obj.lt;have x1:=Mem_cell_w HO2.ay s1;have x2:=Mem_cell_w HO2.ay s2;have xl:=Mem_cell_lt HO2.ay s1;have U':=Mem_cell_w HO2.ay K;have T':=Mem_cell_w HO2.ay a';have S':=Mem_cell_lt HO2.ay K;rcases(show i=0\/i=1\/i=2\/i=3\/i=4\/i=5\/i=6\/i=7\/i=8\/i=9\/i=10\/i=11 by omega)with rfl|rfl|rfl|rfl|rfl|rfl|rfl|rfl|rfl|rfl|rfl|rfl
   .have e2:=y.k 2;exact qaa
   .have e78:zt a 78 _:=y.d 0 rfl;exact qaa
   .have e8:=y.k 8;exact qaa
   .have e79:zt a 79 _:=y.d 1 rfl;have e80:zt a 80 _:=y.d 2 rfl;exact qhz
   .have e81:zt a 81 _:=y.d 3 rfl;exact qaa
   .have e3:=y.k 3;exact qaa
   .have e83:zt a 83 _:=y.d 5 rfl;exact qaa
   .have e8:=y.k 8;exact qaa
   .have e84:zt a 84 _:=y.d 6 rfl;have e85:zt a 85 _:=y.d 7 rfl;exact qhz
   .have e86:zt a 86 _:=y.d 8 rfl;exact qaa
   .have e82:zt a 82 _:=y.d 4 rfl;have e87:zt a 87 _:=y.d 9 rfl;cases ho;refine we rfl rfl (HSX.o _ HO2.ay) ?_;exact qab
   .have e88:zt a 88 _:=y.d 10 rfl;exact qaa
  .intro B a F E;have e2:=E.keep 2 zk;have e3:=E.keep 3 zk;have e74:=E.keep 74 zk;have e75:=E.keep 75 zk;have e89:a.tmps.getD 89 undef=.bool (!tf (cl=x)):=E.fact 11 _ zo rfl;have hZ:=HO.o.dr.aS E.az;obtain⟨t1,d⟩:=a;obtain rfl:d=[]:=E.defers;refine dx zk (hY.o _ _ E.size ⟨?_,hZ⟩) _;simp only[yL,xB,e2,e3,e74,e75,e89]
   rfl
 clear HO s1 s2 K a' HSX;rintro z2 I w3-⟨rfl,g⟩;simp[bB,lk];have HO:=zh g;clear g;by_cases U:cl=x
 .have HX2:=zh (G.o.trans (D.o.trans ⟨fun h=>h.2,fun h=>⟨U,h⟩⟩));rw[aM U];clear G D U;exact qdk
 .have HX2:=zh (show ¬v=v' from fun h=>U (D.o.1 (G.o.1 h)).1);rw[aF U];clear G D U hX;exact qh5
theorem wN:∀n,BM n
 |0=>fun _ _ _ _ _ _ _ h _ _ _=>h.elim
 |n+1=>czP (wN n)
theorem eze{α:Type}(C:α->α->Int)(A:Nat->Nat->α->Prop)(Rp:List Value->α->Prop)(v v':zV)(l l':List α)(m:Mem)(w:zW)(hm:m.ay w)
(hA:∀b o x,A b o x->∃cs:List Value,cs.length=18/\(∀j u,cs[j]?=some u->m.cell b (o+j)=some u)/\(∀u∈cs,u.oneCell'=true)/\Rp cs x)
(hc:∀cs f x Z w',m.ay w'->Rp cs x->Rp f Z->zC 268 #[.agg cs.toArray,.agg f.toArray] w' fun e O=>e=.returned (.int .i64 (C x Z))/\Below w'.heap.size w' O)
(hl:Mem.slice A 18 v l)(Q:Mem.slice A 18 v' l'):
 zX 267 #[v,v',.func (.func 268) #[] #[]] w (.int .i64 (eO C l l')):=by
 obtain⟨a,c,rfl,h1,h2,h3⟩:=hl;obtain⟨a',c',rfl,z',U,L⟩:=Q;unfold maxLen at h2 U;have HK:=zh (zi h3 L);have Y:=zh (zi hA hc);have HO:=zh (Own.start hm);clear h3 L hA hc;refine au fun R hR=>?_
 go_enter func267,ntmps267
 go_wp2;refine aC [0,1,2,11,12,13] (fun n vs wr=>∃k:Nat,k<=l.length/\n=l.length-k/\vs=[.slice a l.length c,.slice a' l'.length c',.func (.func 268) #[] #[],.slice a l.length c,.int .i64 l.length,.int .i64 k]/\eO C l l'=eO C (l.drop k) (l'.drop k)/\Own w m wr m []) ?_ ?_
 .exact qbx
 clear HO;rintro X z n vs wr hX-⟨k,hk,rfl,rfl,y,B⟩;have d:=zh y;clear y;simp[bB,lk];by_cases hlt:k<l.length
 case neg=>
  obtain rfl:k=l.length:=zo;have HL:=zh (d.o.trans qiP);have HB:=zh B.az;clear B hX d;by_cases hs:l.length<l'.length
  .have HL2:=zh (show eO C l l' = -1 by rw[HL.o,zK hs]);exact qan
  .have HL2:=zh (show eO C l l'=0 by rw[HL.o,zJ hs]);exact qan
 obtain⟨b,off,rfl,T⟩:=HK.o.1 qdP;obtain⟨cs,hl1,q,i,E⟩:=Y.o.1 _ _ _ (T k hlt);have t:=B.al oz 35;have M:=zh (fun(w':zW) (h:m.ay w') j u hj=>Mem_cell_w h (q j u hj));have D:=q 0 (cs[0]'zo) (yH _);have r':=Mem_cell_lt B.ay D;have J:=B.ay;by_cases hlt':k<l'.length
 case neg=>
  have HL2:=zh (show eO C l l'=1 from d.o.trans qiQ);have HO:=zh t;have N:=zh i;clear B t T q i E D d hX;generalize l[k]=x at*
  go_wp2_with (first
   |refine aj dU rfl (.tmp 16) rfl rfl cs hl1 (M.o _ J) ?_
   | (refine aB dU rfl (.tmp 8) (.tmp 17) rfl (cs:=cs.toArray) rfl rfl rfl qd0 (fun u hu=>N.o u qdQ) HO.o.obj ?_;intro w1 g p;have HO2:=zh (HO.o.aW g p)))
  exact qg8
 obtain⟨b',f',rfl,K⟩:=HK.o.2 qd1;obtain⟨f,hl2,F,I,H⟩:=Y.o.1 _ _ _ (K k hlt');have V:=zh (d.o.trans qiJ);have HC:=zh (fun w' (h:m.ay w')=>Y.o.2 cs f l[k] l'[k] w' h E H);have W:=zh (fun(w':zW) (h:m.ay w') j u hj=>Mem_cell_w h (F j u hj));have G:=F 0 (f[0]'zo) (yH _);have q':=Mem_cell_lt B.ay G;have N:=zh (zi i I);have HO:=zh t;clear B t T K q F i I E H D G d;generalize C l[k] l'[k]=r at*
 have HL0:=zh (show r=0->eO C l l'=eO C (l.drop (k+1)) (l'.drop (k+1)) from fun h=>by rw[V.o,h];rfl);have HL1:=zh (show ¬r=0->eO C l l'=r from fun h=>by rw[V.o,sI,zJ h]);clear V
 go_wp2_with (first
  |refine aj dU rfl (.tmp 16) rfl rfl cs hl1 (M.o _ J) ?_
  |(refine aB dU rfl (.tmp 8) (.tmp 17) rfl (cs:=cs.toArray) rfl rfl rfl qd0 (fun u hu=>N.o.1 u qdQ) HO.o.obj ?_;intro w1 g p;have s:=(HO.o.aW g p).al oz 35;have p':=s.av.obj.lt;have h':=s.tail.ay)
  |refine aj dU rfl (.tmp 24) rfl rfl f hl2 (W.o _ (HO.o.aW g p).ay) ?_
  |(refine aB dU rfl (.tmp 9) (.tmp 25) rfl (cs:=f.toArray) rfl rfl rfl qdZ (fun u hu=>N.o.2 u qdQ) s.obj ?_;intro w2 P S;have hO3:=s.aW P S;have y1:=hO3.av.obj.all;have y2:=hO3.obj.all)
  |refine aj dU rfl (.tmp 8) rfl rfl cs hl1 y1 ?_
  |refine aj dU rfl (.tmp 9) rfl rfl f hl2 y2 ?_
  | (go_at_call 268;refine(HC.o _ hO3.ay).mono ?_;rintro e w3 ⟨rfl,hb3⟩;by_cases he:r=0;subst he;have HO4:=zh (hO3.aS hb3).tail.tail;clear hO3))
 .exact qbL
 .exact qgL
theorem ezh{α:Type}(C:α->α->Int)(A:Nat->Nat->α->Prop)(Rp:List Value->α->Prop)(v v':zV)(l l':List α)(m:Mem)(w:zW)(hm:m.ay w)
(hA:∀b o x,A b o x->∃cs:List Value,cs.length=20/\(∀j u,cs[j]?=some u->m.cell b (o+j)=some u)/\(∀u∈cs,u.oneCell'=true)/\Rp cs x)
(hc:∀cs f x Z w',m.ay w'->Rp cs x->Rp f Z->zC 271 #[.agg cs.toArray,.agg f.toArray] w' fun e O=>e=.returned (.int .i64 (C x Z))/\Below w'.heap.size w' O)
(hl:Mem.slice A 20 v l)(Q:Mem.slice A 20 v' l'):
 zX 270 #[v,v',.func (.func 271) #[] #[]] w (.int .i64 (eO C l l')):=by
 obtain⟨a,c,rfl,h1,h2,h3⟩:=hl;obtain⟨a',c',rfl,z',U,L⟩:=Q;unfold maxLen at h2 U;have HK:=zh (zi h3 L);have Y:=zh (zi hA hc);have HO:=zh (Own.start hm);clear h3 L hA hc;refine au fun R hR=>?_
 go_enter func270,ntmps270
 go_wp2;refine aC [0,1,2,11,12,13] (fun n vs wr=>∃k:Nat,k<=l.length/\n=l.length-k/\vs=[.slice a l.length c,.slice a' l'.length c',.func (.func 271) #[] #[],.slice a l.length c,.int .i64 l.length,.int .i64 k]/\eO C l l'=eO C (l.drop k) (l'.drop k)/\Own w m wr m []) ?_ ?_
 .exact qbx
 clear HO;rintro X z n vs wr hX-⟨k,hk,rfl,rfl,y,B⟩;have d:=zh y;clear y;simp[bB,lk];by_cases hlt:k<l.length
 case neg=>
  obtain rfl:k=l.length:=zo;have HL:=zh (d.o.trans qiP);have HB:=zh B.az;clear B hX d;by_cases hs:l.length<l'.length
  .have HL2:=zh (show eO C l l' = -1 by rw[HL.o,zK hs]);exact qan
  .have HL2:=zh (show eO C l l'=0 by rw[HL.o,zJ hs]);exact qan
 obtain⟨b,off,rfl,T⟩:=HK.o.1 qdP;obtain⟨cs,hl1,q,i,E⟩:=Y.o.1 _ _ _ (T k hlt);have t:=B.al SG 82;have M:=zh (fun(w':zW) (h:m.ay w') j u hj=>Mem_cell_w h (q j u hj));have D:=q 0 (cs[0]'zo) (yH _);have r':=Mem_cell_lt B.ay D;have J:=B.ay;by_cases hlt':k<l'.length
 case neg=>
  have HL2:=zh (show eO C l l'=1 from d.o.trans qiQ);have HO:=zh t;have N:=zh i;clear B t T q i E D d hX;generalize l[k]=x at*
  go_wp2_with (first
   |refine aj uh rfl (.tmp 16) rfl rfl cs hl1 (M.o _ J) ?_
   | (refine aB uh rfl (.tmp 8) (.tmp 17) rfl (cs:=cs.toArray) rfl rfl rfl qd0 (fun u hu=>N.o u qdQ) HO.o.obj ?_;intro w1 g p;have HO2:=zh (HO.o.aW g p)))
  exact qg8
 obtain⟨b',f',rfl,K⟩:=HK.o.2 qd1;obtain⟨f,hl2,F,I,H⟩:=Y.o.1 _ _ _ (K k hlt');have V:=zh (d.o.trans qiJ);have HC:=zh (fun w' (h:m.ay w')=>Y.o.2 cs f l[k] l'[k] w' h E H);have W:=zh (fun(w':zW) (h:m.ay w') j u hj=>Mem_cell_w h (F j u hj));have G:=F 0 (f[0]'zo) (yH _);have q':=Mem_cell_lt B.ay G;have N:=zh (zi i I);have HO:=zh t;clear B t T K q F i I E H D G d;generalize C l[k] l'[k]=r at*
 have HL0:=zh (show r=0->eO C l l'=eO C (l.drop (k+1)) (l'.drop (k+1)) from fun h=>by rw[V.o,h];rfl);have HL1:=zh (show ¬r=0->eO C l l'=r from fun h=>by rw[V.o,sI,zJ h]);clear V
 go_wp2_with (first
  |refine aj uh rfl (.tmp 16) rfl rfl cs hl1 (M.o _ J) ?_
  |(refine aB uh rfl (.tmp 8) (.tmp 17) rfl (cs:=cs.toArray) rfl rfl rfl qd0 (fun u hu=>N.o.1 u qdQ) HO.o.obj ?_;intro w1 g p;have s:=(HO.o.aW g p).al SG 82;have p':=s.av.obj.lt;have h':=s.tail.ay)
  |refine aj uh rfl (.tmp 24) rfl rfl f hl2 (W.o _ (HO.o.aW g p).ay) ?_
  |(refine aB uh rfl (.tmp 9) (.tmp 25) rfl (cs:=f.toArray) rfl rfl rfl qdZ (fun u hu=>N.o.2 u qdQ) s.obj ?_;intro w2 P S;have hO3:=s.aW P S;have y1:=hO3.av.obj.all;have y2:=hO3.obj.all)
  |refine aj uh rfl (.tmp 8) rfl rfl cs hl1 y1 ?_
  |refine aj uh rfl (.tmp 9) rfl rfl f hl2 y2 ?_
  | (go_at_call 271;refine(HC.o _ hO3.ay).mono ?_;rintro e w3 ⟨rfl,hb3⟩;by_cases he:r=0;subst he;have HO4:=zh (hO3.aS hb3).tail.tail;clear hO3))
 .exact qbL
 .exact qgL
theorem ezg{α:Type}(C:α->α->Int)(A:Nat->Nat->α->Prop)(Rp:List Value->α->Prop)(v v':zV)(l l':List α)(m:Mem)(w:zW)(hm:m.ay w)
(hA:∀b o x,A b o x->∃cs:List Value,cs.length=19/\(∀j u,cs[j]?=some u->m.cell b (o+j)=some u)/\(∀u∈cs,u.oneCell'=true)/\Rp cs x)
(hc:∀cs f x Z w',m.ay w'->Rp cs x->Rp f Z->zC 277 #[.agg cs.toArray,.agg f.toArray] w' fun e O=>e=.returned (.int .i64 (C x Z))/\Below w'.heap.size w' O)
(hl:Mem.slice A 19 v l)(Q:Mem.slice A 19 v' l'):
 zX 276 #[v,v',.func (.func 277) #[] #[]] w (.int .i64 (eO C l l')):=by
 obtain⟨a,c,rfl,h1,h2,h3⟩:=hl;obtain⟨a',c',rfl,z',U,L⟩:=Q;unfold maxLen at h2 U;have HK:=zh (zi h3 L);have Y:=zh (zi hA hc);have HO:=zh (Own.start hm);clear h3 L hA hc;refine au fun R hR=>?_
 go_enter func276,ntmps276
 go_wp2;refine aC [0,1,2,11,12,13] (fun n vs wr=>∃k:Nat,k<=l.length/\n=l.length-k/\vs=[.slice a l.length c,.slice a' l'.length c',.func (.func 277) #[] #[],.slice a l.length c,.int .i64 l.length,.int .i64 k]/\eO C l l'=eO C (l.drop k) (l'.drop k)/\Own w m wr m []) ?_ ?_
 .exact qbx
 clear HO;rintro X z n vs wr hX-⟨k,hk,rfl,rfl,y,B⟩;have d:=zh y;clear y;simp[bB,lk];by_cases hlt:k<l.length
 case neg=>
  obtain rfl:k=l.length:=zo;have HL:=zh (d.o.trans qiP);have HB:=zh B.az;clear B hX d;by_cases hs:l.length<l'.length
  .have HL2:=zh (show eO C l l' = -1 by rw[HL.o,zK hs]);exact qan
  .have HL2:=zh (show eO C l l'=0 by rw[HL.o,zJ hs]);exact qan
 obtain⟨b,off,rfl,T⟩:=HK.o.1 qdP;obtain⟨cs,hl1,q,i,E⟩:=Y.o.1 _ _ _ (T k hlt);have t:=B.al SB 68;have M:=zh (fun(w':zW) (h:m.ay w') j u hj=>Mem_cell_w h (q j u hj));have D:=q 0 (cs[0]'zo) (yH _);have r':=Mem_cell_lt B.ay D;have J:=B.ay;by_cases hlt':k<l'.length
 case neg=>
  have HL2:=zh (show eO C l l'=1 from d.o.trans qiQ);have HO:=zh t;have N:=zh i;clear B t T q i E D d hX;generalize l[k]=x at*
  go_wp2_with (first
   |refine aj sw rfl (.tmp 16) rfl rfl cs hl1 (M.o _ J) ?_
   | (refine aB sw rfl (.tmp 8) (.tmp 17) rfl (cs:=cs.toArray) rfl rfl rfl qd0 (fun u hu=>N.o u qdQ) HO.o.obj ?_;intro w1 g p;have HO2:=zh (HO.o.aW g p)))
  exact qg8
 obtain⟨b',f',rfl,K⟩:=HK.o.2 qd1;obtain⟨f,hl2,F,I,H⟩:=Y.o.1 _ _ _ (K k hlt');have V:=zh (d.o.trans qiJ);have HC:=zh (fun w' (h:m.ay w')=>Y.o.2 cs f l[k] l'[k] w' h E H);have W:=zh (fun(w':zW) (h:m.ay w') j u hj=>Mem_cell_w h (F j u hj));have G:=F 0 (f[0]'zo) (yH _);have q':=Mem_cell_lt B.ay G;have N:=zh (zi i I);have HO:=zh t;clear B t T K q F i I E H D G d;generalize C l[k] l'[k]=r at*
 have HL0:=zh (show r=0->eO C l l'=eO C (l.drop (k+1)) (l'.drop (k+1)) from fun h=>by rw[V.o,h];rfl);have HL1:=zh (show ¬r=0->eO C l l'=r from fun h=>by rw[V.o,sI,zJ h]);clear V
 go_wp2_with (first
  |refine aj sw rfl (.tmp 16) rfl rfl cs hl1 (M.o _ J) ?_
  |(refine aB sw rfl (.tmp 8) (.tmp 17) rfl (cs:=cs.toArray) rfl rfl rfl qd0 (fun u hu=>N.o.1 u qdQ) HO.o.obj ?_;intro w1 g p;have s:=(HO.o.aW g p).al SB 68;have p':=s.av.obj.lt;have h':=s.tail.ay)
  |refine aj sw rfl (.tmp 24) rfl rfl f hl2 (W.o _ (HO.o.aW g p).ay) ?_
  |(refine aB sw rfl (.tmp 9) (.tmp 25) rfl (cs:=f.toArray) rfl rfl rfl qdZ (fun u hu=>N.o.2 u qdQ) s.obj ?_;intro w2 P S;have hO3:=s.aW P S;have y1:=hO3.av.obj.all;have y2:=hO3.obj.all)
  |refine aj sw rfl (.tmp 8) rfl rfl cs hl1 y1 ?_
  |refine aj sw rfl (.tmp 9) rfl rfl f hl2 y2 ?_
  | (go_at_call 277;refine(HC.o _ hO3.ay).mono ?_;rintro e w3 ⟨rfl,hb3⟩;by_cases he:r=0;subst he;have HO4:=zh (hO3.aS hb3).tail.tail;clear hO3))
 .exact qbL
 .exact qgL
def gzB(m:Mem)(v:zV)(fs:List (Nat×Array Value)):Prop:=Mem.uZ (fun b o f=>m.cell b o=some (.func (.func f.1) #[] f.2)) v fs
structure gzA (m:Mem) (fs:List (Nat×Array Value)) (rs:List Int):Prop where
 ent:∀i (h:i<fs.length),∀args w,(callFunc (fs[i]).1 args).run prog w=.ok (.enter (fs[i]).1 args) w
 run:∀i (h:i<fs.length) (h2:i<rs.length) (w:zW),m.ay w->zX (fs[i]).1 (fs[i]).2 w (.int .i64 rs[i])
 le:rs.length<=fs.length
 rest:rs.length<fs.length->∃i,∃h:i<rs.length,rs[i]≠0
theorem mh(v:zV)(fs:List (Nat×Array Value))(d:List Int)(m:Mem)(w:zW)(T:m.ay w)(V:gzB m v fs)(s:gzA m fs d):
 zX 219 #[v] w (.int .i64 (jN d)):=by
 obtain⟨a,c,rfl,p1,Q,J⟩:=V;unfold maxLen at Q;have HK:=zh J;have y:=zh (Own.start T);have C:=zh s;clear J s;refine au fun R K=>?_
 go_enter func219,ntmps219
 go_wp2;refine aC [6,7,8] (fun q I F=>∃(i:Nat),i<=fs.length/\q=fs.length-i/\I=[.slice a fs.length c,.int .i64 (fs.length:Int),.int .i64 (i:Int)]/\(∀j (h:j<d.length),j<i->d[j]=0)/\(i<fs.length->i<d.length)/\jN d=jN (d.drop i)/\Own w m F m []) ?_ ?_
 .refine⟨_,0,zG _,rfl,rfl,fun j _ h=>absurd h (xY _),fun h=>?_,rfl,y.o⟩;by_cases e:d.length<fs.length
  .obtain⟨i,hi,-⟩:=C.o.rest e;omega
  .omega
 clear y;rintro X z q I F G-⟨i,hi,rfl,rfl,N,M,L,g⟩;simp[bB,lk];have D:=zh (zi N (zi M L));clear N M L;by_cases hlt:i<fs.length
 case neg=>
  have HR:=zh (show jN d=0 by
   rw[D.o.2.2,zQ (by have:=C.o.le;omega)];rfl)
  have HB:=zh g.az;clear g G;go_wp2;exact K.o _ _ ⟨by rw[HR.o]<;>rfl,HB.o⟩
 have p:=D.o.2.1 hlt;obtain⟨b,off,rfl,H⟩:=HK.o qdP;have x1:=Mem_cell_w g.ay (H i hlt);have xl:=Mem_cell_lt g.ay (H i hlt);have u:=zh (C.o.run i hlt p F g.ay);have Z:=C.o.ent i hlt;have B:=zh (Q5 d p);have l:=zh (show d[i]=0->(∀j (h:j<d.length),j<i+1->d[j]=0)/\(i+1<fs.length->i+1<d.length)/\jN d=jN (d.drop (i+1)) from fun h=>by
  have O:∀j (h:j<d.length),j<i+1->d[j]=0:=fun j U Y=>by
   by_cases e:j=i
   .exact qbV
   .exact D.o.1 j U zo
  refine⟨O,fun Y=>?_,?_⟩
  .by_cases e:d.length<fs.length
   .obtain⟨k,hk,S⟩:=C.o.rest e;have:¬k<i+1:=fun W=>S (O k hk W);omega
   .omega
  .rw[D.o.2.2,B.o,h];rfl)
 have n:=zh (show d[i]≠0->jN d=d[i] from fun h=>by
  rw[D.o.2.2,B.o,sI,zJ h])
 have y:=zh g;generalize d[i]=r at*
 generalize (fs[i]).1=f at*
 generalize (fs[i]).2=P at*
 clear g H
 go_wp2_with fail
 refine u.o.mono ?_;rintro e w1 ⟨rfl,t⟩;have x:=zh (y.o.aS t);clear y u t Z;by_cases E:r=0
 .subst E;have A:=zh (l.o rfl);clear l n;go_wp2;exact G.o _ _ _ zo rfl ⟨i+1,zo,rfl,rfl,A.o.1,A.o.2.1,A.o.2.2,x.o⟩
 .have hd:(r != 0)=true:=bne_iff_ne.2 E;have A:=zh (n.o E);clear l n E G;go_wp2;exact K.o _ _ ⟨by rw[A.o]<;>rfl,x.o.az⟩
theorem jv{w0 w:zW}{m mk:Mem}{L:List bA}(t:TypeId)(arr:Array Value)(h:Own w0 m w mk L):∃mk',mk.le mk'/\(∀i u,arr[i]?=some u->mk'.cell w.heap.size i=some u)/\Own w0 m (w.alloc (.cells arr t)) mk' L:=
 have a:=h.al arr t
 ⟨_,Mem_le_add a.jG,fun _ _ hi=>Mem_add_cell a.obj hi,a.gU⟩
theorem Rk:∀args w,(callFunc 220 args).run prog w=.ok (.enter 220 args) w:=enters_of func220 zk rfl
theorem Rj:∀args w,(callFunc 222 args).run prog w=.ok (.enter 222 args) w:=enters_of func222 zk rfl
theorem Ri:∀args w,(callFunc 223 args).run prog w=.ok (.enter 223 args) w:=enters_of func223 zk rfl
theorem Rh:∀args w,(callFunc 226 args).run prog w=.ok (.enter 226 args) w:=enters_of func226 zk rfl
theorem PG(h g:Nat)(a b:Bool)(m:Mem)(w:zW)(c:m.ay w)(f:m.cell h 0=some (.bool a))(d:m.cell g 0=some (.bool b)):
 zX 220 #[.pointer (some ⟨h,0,none⟩),.pointer (some ⟨g,0,none⟩)] w (.int .i64 (BB a b)):=by
 have k:=Mem_cell_w c f;have j:=Mem_cell_w c d;have p:=Mem_cell_lt c f;have n:=Mem_cell_lt c d;have i:=zh (FP a b w);refine au fun R hR=>?_
 go_enter func220,ntmps220
 go_wp2_with (go_at_call 221;refine i.o.mono ?_;rintro e l ⟨rfl,hb1⟩)
 exact qaL
abbrev Jw(g1 g2:Nat):List (Nat×Array Value):=[(220,#[.pointer (some ⟨g1,0,none⟩),.pointer (some ⟨g2,0,none⟩)]),(222,#[.pointer (some ⟨g1,0,none⟩),.pointer (some ⟨g2,0,none⟩)]),(223,#[.pointer (some ⟨g1,0,none⟩),.pointer (some ⟨g2,0,none⟩)]),(226,#[.pointer (some ⟨g1,0,none⟩),.pointer (some ⟨g2,0,none⟩)])]
theorem YI(b a:Nat):∀i (h:i<(Jw b a).length),∀args w,(callFunc ((Jw b a)[i]).1 args).run prog w=.ok (.enter ((Jw b a)[i]).1 args) w:=fun i h=>by
 match i,h with
 |0,_=>exact Rk
 |1,_=>exact Rj
 |2,_=>exact Ri
 |3,_=>exact Rh
theorem gzD(N N':Array Value)(c:List Int)(hk:c.length=4)(m:Mem)(w:zW)(A:m.ay w)
(x:∀(M:Mem) (g l:Nat),m.le M->(∀j u,N[j]?=some u->M.cell g j=some u)->(∀j u,N'[j]?=some u->M.cell l j=some u)->∀i (h:i<(Jw g l).length) (y:i<c.length) (w':zW),M.ay w' ->
  zC ((Jw g l)[i]).1 ((Jw g l)[i]).2 w' fun e n=>e=.returned (.int .i64 c[i])/\Below w'.heap.size w' n):
 zX 172 #[.agg N,.agg N'] w (.int .i64 (jN c)):=by
 obtain⟨E,v,z,f⟩:=jv 33 N (Own.start A);obtain⟨D,p,s,d⟩:=jv 33 N' f;obtain⟨t,k,b,a⟩:=jv 266 #[.func (.func 220) #[] #[.pointer (some ⟨w.heap.size,0,none⟩),.pointer (some ⟨(w.heap.size+1),0,none⟩)],.func (.func 222) #[] #[.pointer (some ⟨w.heap.size,0,none⟩),.pointer (some ⟨(w.heap.size+1),0,none⟩)],.func (.func 223) #[] #[.pointer (some ⟨w.heap.size,0,none⟩),.pointer (some ⟨(w.heap.size+1),0,none⟩)],.func (.func 226) #[] #[.pointer (some ⟨w.heap.size,0,none⟩),.pointer (some ⟨(w.heap.size+1),0,none⟩)]] d;simp only[bC]at s b;have B:=zh (mh (.slice (some ⟨w.heap.size+1+1,0,none⟩) 4 4) (Jw w.heap.size (w.heap.size+1)) c t _ a.ay
  ⟨some ⟨w.heap.size+1+1,0,none⟩,4,rfl,zS,by simp[maxLen],fun _=>⟨_,0,rfl,fun i h=>by
   rw[yZ]
   match i,h with
   |0,_=>exact b 0 _ rfl
   |1,_=>exact b 1 _ rfl
   |2,_=>exact b 2 _ rfl
   | 3,_=>exact b 3 _ rfl⟩⟩
  ⟨YI _ _,fun i h y w' q=>x t _ _ (Mem.le_trans v (Mem.le_trans p k)) (fun j u r=>Mem_cell_le (Mem.le_trans p k) (z j u r)) (fun j u r=>Mem_cell_le k (s j u r)) i h y w' q,by simp[hk],fun h=>absurd h qez⟩)
 have HO:=zh a;clear f d a z s b v p k x;refine au fun R hR=>?_
 go_enter func172,ntmps172
 go_wp2_with (go_at_call 219;refine B.o.mono ?_;rintro e C ⟨rfl,hb1⟩)
 exact qgI
theorem U5:∀args w,(callFunc 264 args).run prog w=.ok (.enter 264 args) w:=enters_of func264 zk rfl
theorem U4:∀args w,(callFunc 265 args).run prog w=.ok (.enter 265 args) w:=enters_of func265 zk rfl
theorem U3:∀args w,(callFunc 266 args).run prog w=.ok (.enter 266 args) w:=enters_of func266 zk rfl
abbrev Jz(g1 g2:Nat):List (Nat×Array Value):=[(264,#[.pointer (some ⟨g1,0,none⟩),.pointer (some ⟨g2,0,none⟩)]),(265,#[.pointer (some ⟨g1,0,none⟩),.pointer (some ⟨g2,0,none⟩)]),(266,#[.pointer (some ⟨g1,0,none⟩),.pointer (some ⟨g2,0,none⟩)])]
theorem YK(b a:Nat):∀i (h:i<(Jz b a).length),∀args w,(callFunc ((Jz b a)[i]).1 args).run prog w=.ok (.enter ((Jz b a)[i]).1 args) w:=fun i h=>by
 match i,h with
 |0,_=>exact U5
 |1,_=>exact U4
 |2,_=>exact U3
theorem gzF(N N':Array Value)(b:List Int)(hk:b.length=3)(m:Mem)(w:zW)(A:m.ay w)
(x:∀(M:Mem) (g l:Nat),m.le M->(∀j u,N[j]?=some u->M.cell g j=some u)->(∀j u,N'[j]?=some u->M.cell l j=some u)->∀i (h:i<(Jz g l).length) (y:i<b.length) (w':zW),M.ay w' ->
  zC ((Jz g l)[i]).1 ((Jz g l)[i]).2 w' fun e n=>e=.returned (.int .i64 b[i])/\Below w'.heap.size w' n):
 zX 225 #[.agg N,.agg N'] w (.int .i64 (jN b)):=by
 obtain⟨E,v,z,d⟩:=jv 50 N (Own.start A);obtain⟨D,p,s,c⟩:=jv 50 N' d;obtain⟨t,k,f,a⟩:=jv 266 #[.func (.func 264) #[] #[.pointer (some ⟨w.heap.size,0,none⟩),.pointer (some ⟨(w.heap.size+1),0,none⟩)],.func (.func 265) #[] #[.pointer (some ⟨w.heap.size,0,none⟩),.pointer (some ⟨(w.heap.size+1),0,none⟩)],.func (.func 266) #[] #[.pointer (some ⟨w.heap.size,0,none⟩),.pointer (some ⟨(w.heap.size+1),0,none⟩)]] c;simp only[bC]at s f;have B:=zh (mh (.slice (some ⟨w.heap.size+1+1,0,none⟩) 3 3) (Jz w.heap.size (w.heap.size+1)) b t _ a.ay
  ⟨some ⟨w.heap.size+1+1,0,none⟩,3,rfl,zS,by simp[maxLen],fun _=>⟨_,0,rfl,fun i h=>by
   rw[yZ]
   match i,h with
   |0,_=>exact f 0 _ rfl
   |1,_=>exact f 1 _ rfl
   | 2,_=>exact f 2 _ rfl⟩⟩
  ⟨YK _ _,fun i h y w' q=>x t _ _ (Mem.le_trans v (Mem.le_trans p k)) (fun j u r=>Mem_cell_le (Mem.le_trans p k) (z j u r)) (fun j u r=>Mem_cell_le k (s j u r)) i h y w' q,by simp[hk],fun h=>absurd h qez⟩)
 have HO:=zh a;clear d c a z s f v p k x;refine au fun R hR=>?_
 go_enter func225,ntmps225
 go_wp2_with (go_at_call 219;refine B.o.mono ?_;rintro e C ⟨rfl,hb1⟩)
 exact qgI
theorem Ve:∀args w,(callFunc 291 args).run prog w=.ok (.enter 291 args) w:=enters_of func291 zk rfl
theorem Vb:∀args w,(callFunc 292 args).run prog w=.ok (.enter 292 args) w:=enters_of func292 zk rfl
abbrev JC(g1 g2:Nat):List (Nat×Array Value):=[(291,#[.pointer (some ⟨g1,0,none⟩),.pointer (some ⟨g2,0,none⟩)]),(292,#[.pointer (some ⟨g1,0,none⟩),.pointer (some ⟨g2,0,none⟩)])]
theorem YN(b a:Nat):∀i (h:i<(JC b a).length),∀args w,(callFunc ((JC b a)[i]).1 args).run prog w=.ok (.enter ((JC b a)[i]).1 args) w:=fun i h=>by
 match i,h with
 |0,_=>exact Ve
 |1,_=>exact Vb
theorem gzI(N N':Array Value)(b:List Int)(hk:b.length=2)(m:Mem)(w:zW)(A:m.ay w)
(x:∀(M:Mem) (g k:Nat),m.le M->(∀j u,N[j]?=some u->M.cell g j=some u)->(∀j u,N'[j]?=some u->M.cell k j=some u)->∀i (h:i<(JC g k).length) (y:i<b.length) (w':zW),M.ay w' ->
  zC ((JC g k)[i]).1 ((JC g k)[i]).2 w' fun e n=>e=.returned (.int .i64 b[i])/\Below w'.heap.size w' n):
 zX 268 #[.agg N,.agg N'] w (.int .i64 (jN b)):=by
 obtain⟨E,v,z,d⟩:=jv 35 N (Own.start A);obtain⟨D,p,s,c⟩:=jv 35 N' d;obtain⟨t,f,l,a⟩:=jv 266 #[.func (.func 291) #[] #[.pointer (some ⟨w.heap.size,0,none⟩),.pointer (some ⟨(w.heap.size+1),0,none⟩)],.func (.func 292) #[] #[.pointer (some ⟨w.heap.size,0,none⟩),.pointer (some ⟨(w.heap.size+1),0,none⟩)]] c;simp only[bC]at s l;have B:=zh (mh (.slice (some ⟨w.heap.size+1+1,0,none⟩) 2 2) (JC w.heap.size (w.heap.size+1)) b t _ a.ay
  ⟨some ⟨w.heap.size+1+1,0,none⟩,2,rfl,zS,by simp[maxLen],fun _=>⟨_,0,rfl,fun i h=>by
   rw[yZ]
   match i,h with
   |0,_=>exact l 0 _ rfl
   | 1,_=>exact l 1 _ rfl⟩⟩
  ⟨YN _ _,fun i h y w' q=>x t _ _ (Mem.le_trans v (Mem.le_trans p f)) (fun j u r=>Mem_cell_le (Mem.le_trans p f) (z j u r)) (fun j u r=>Mem_cell_le f (s j u r)) i h y w' q,by simp[hk],fun h=>absurd h qez⟩)
 have HO:=zh a;clear d c a z s l v p f x;refine au fun R hR=>?_
 go_enter func268,ntmps268
 go_wp2_with (go_at_call 219;refine B.o.mono ?_;rintro e C ⟨rfl,hb1⟩)
 exact qgI
theorem U2:∀args w,(callFunc 269 args).run prog w=.ok (.enter 269 args) w:=enters_of func269 zk rfl
theorem hzp:∀args w,(callFunc 275 args).run prog w=.ok (.enter 275 args) w:=enters_of func275 zk rfl
abbrev Jy(g1 g2:Nat):List (Nat×Array Value):=[(269,#[.pointer (some ⟨g1,0,none⟩),.pointer (some ⟨g2,0,none⟩)]),(275,#[.pointer (some ⟨g1,0,none⟩),.pointer (some ⟨g2,0,none⟩)])]
theorem YJ(b a:Nat):∀i (h:i<(Jy b a).length),∀args w,(callFunc ((Jy b a)[i]).1 args).run prog w=.ok (.enter ((Jy b a)[i]).1 args) w:=fun i h=>by
 match i,h with
 |0,_=>exact U2
 |1,_=>exact hzp
theorem gzE(N N':Array Value)(b:List Int)(hk:b.length=2)(m:Mem)(w:zW)(A:m.ay w)
(x:∀(M:Mem) (g k:Nat),m.le M->(∀j u,N[j]?=some u->M.cell g j=some u)->(∀j u,N'[j]?=some u->M.cell k j=some u)->∀i (h:i<(Jy g k).length) (y:i<b.length) (w':zW),M.ay w' ->
  zC ((Jy g k)[i]).1 ((Jy g k)[i]).2 w' fun e n=>e=.returned (.int .i64 b[i])/\Below w'.heap.size w' n):
 zX 228 #[.agg N,.agg N'] w (.int .i64 (jN b)):=by
 obtain⟨E,v,z,d⟩:=jv 62 N (Own.start A);obtain⟨D,p,s,c⟩:=jv 62 N' d;obtain⟨t,f,l,a⟩:=jv 266 #[.func (.func 269) #[] #[.pointer (some ⟨w.heap.size,0,none⟩),.pointer (some ⟨(w.heap.size+1),0,none⟩)],.func (.func 275) #[] #[.pointer (some ⟨w.heap.size,0,none⟩),.pointer (some ⟨(w.heap.size+1),0,none⟩)]] c;simp only[bC]at s l;have B:=zh (mh (.slice (some ⟨w.heap.size+1+1,0,none⟩) 2 2) (Jy w.heap.size (w.heap.size+1)) b t _ a.ay
  ⟨some ⟨w.heap.size+1+1,0,none⟩,2,rfl,zS,by simp[maxLen],fun _=>⟨_,0,rfl,fun i h=>by
   rw[yZ]
   match i,h with
   |0,_=>exact l 0 _ rfl
   | 1,_=>exact l 1 _ rfl⟩⟩
  ⟨YJ _ _,fun i h y w' q=>x t _ _ (Mem.le_trans v (Mem.le_trans p f)) (fun j u r=>Mem_cell_le (Mem.le_trans p f) (z j u r)) (fun j u r=>Mem_cell_le f (s j u r)) i h y w' q,by simp[hk],fun h=>absurd h qez⟩)
 have HO:=zh a;clear d c a z s l v p f x;refine au fun R hR=>?_
 go_enter func228,ntmps228
 go_wp2_with (go_at_call 219;refine B.o.mono ?_;rintro e C ⟨rfl,hb1⟩)
 exact qgI
theorem Va:∀args w,(callFunc 272 args).run prog w=.ok (.enter 272 args) w:=enters_of func272 zk rfl
theorem U9:∀args w,(callFunc 273 args).run prog w=.ok (.enter 273 args) w:=enters_of func273 zk rfl
theorem U8:∀args w,(callFunc 274 args).run prog w=.ok (.enter 274 args) w:=enters_of func274 zk rfl
abbrev JB(g1 g2:Nat):List (Nat×Array Value):=[(272,#[.pointer (some ⟨g1,0,none⟩),.pointer (some ⟨g2,0,none⟩)]),(273,#[.pointer (some ⟨g1,0,none⟩),.pointer (some ⟨g2,0,none⟩)]),(274,#[.pointer (some ⟨g1,0,none⟩),.pointer (some ⟨g2,0,none⟩)])]
theorem YM(b a:Nat):∀i (h:i<(JB b a).length),∀args w,(callFunc ((JB b a)[i]).1 args).run prog w=.ok (.enter ((JB b a)[i]).1 args) w:=fun i h=>by
 match i,h with
 |0,_=>exact Va
 |1,_=>exact U9
 |2,_=>exact U8
theorem gzH(N N':Array Value)(b:List Int)(hk:b.length=3)(m:Mem)(w:zW)(A:m.ay w)
(x:∀(M:Mem) (g l:Nat),m.le M->(∀j u,N[j]?=some u->M.cell g j=some u)->(∀j u,N'[j]?=some u->M.cell l j=some u)->∀i (h:i<(JB g l).length) (y:i<b.length) (w':zW),M.ay w' ->
  zC ((JB g l)[i]).1 ((JB g l)[i]).2 w' fun e n=>e=.returned (.int .i64 b[i])/\Below w'.heap.size w' n):
 zX 271 #[.agg N,.agg N'] w (.int .i64 (jN b)):=by
 obtain⟨E,v,z,d⟩:=jv 82 N (Own.start A);obtain⟨D,p,s,c⟩:=jv 82 N' d;obtain⟨t,k,f,a⟩:=jv 266 #[.func (.func 272) #[] #[.pointer (some ⟨w.heap.size,0,none⟩),.pointer (some ⟨(w.heap.size+1),0,none⟩)],.func (.func 273) #[] #[.pointer (some ⟨w.heap.size,0,none⟩),.pointer (some ⟨(w.heap.size+1),0,none⟩)],.func (.func 274) #[] #[.pointer (some ⟨w.heap.size,0,none⟩),.pointer (some ⟨(w.heap.size+1),0,none⟩)]] c;simp only[bC]at s f;have B:=zh (mh (.slice (some ⟨w.heap.size+1+1,0,none⟩) 3 3) (JB w.heap.size (w.heap.size+1)) b t _ a.ay
  ⟨some ⟨w.heap.size+1+1,0,none⟩,3,rfl,zS,by simp[maxLen],fun _=>⟨_,0,rfl,fun i h=>by
   rw[yZ]
   match i,h with
   |0,_=>exact f 0 _ rfl
   |1,_=>exact f 1 _ rfl
   | 2,_=>exact f 2 _ rfl⟩⟩
  ⟨YM _ _,fun i h y w' q=>x t _ _ (Mem.le_trans v (Mem.le_trans p k)) (fun j u r=>Mem_cell_le (Mem.le_trans p k) (z j u r)) (fun j u r=>Mem_cell_le k (s j u r)) i h y w' q,by simp[hk],fun h=>absurd h qez⟩)
 have HO:=zh a;clear d c a z s f v p k x;refine au fun R hR=>?_
 go_enter func271,ntmps271
 go_wp2_with (go_at_call 219;refine B.o.mono ?_;rintro e C ⟨rfl,hb1⟩)
 exact qgI
theorem U7:∀args w,(callFunc 278 args).run prog w=.ok (.enter 278 args) w:=enters_of func278 zk rfl
theorem U6:∀args w,(callFunc 279 args).run prog w=.ok (.enter 279 args) w:=enters_of func279 zk rfl
abbrev JA(g1 g2:Nat):List (Nat×Array Value):=[(278,#[.pointer (some ⟨g1,0,none⟩),.pointer (some ⟨g2,0,none⟩)]),(279,#[.pointer (some ⟨g1,0,none⟩),.pointer (some ⟨g2,0,none⟩)])]
theorem YL(b a:Nat):∀i (h:i<(JA b a).length),∀args w,(callFunc ((JA b a)[i]).1 args).run prog w=.ok (.enter ((JA b a)[i]).1 args) w:=fun i h=>by
 match i,h with
 |0,_=>exact U7
 |1,_=>exact U6
theorem gzG(N N':Array Value)(b:List Int)(hk:b.length=2)(m:Mem)(w:zW)(A:m.ay w)
(x:∀(M:Mem) (g k:Nat),m.le M->(∀j u,N[j]?=some u->M.cell g j=some u)->(∀j u,N'[j]?=some u->M.cell k j=some u)->∀i (h:i<(JA g k).length) (y:i<b.length) (w':zW),M.ay w' ->
  zC ((JA g k)[i]).1 ((JA g k)[i]).2 w' fun e n=>e=.returned (.int .i64 b[i])/\Below w'.heap.size w' n):
 zX 277 #[.agg N,.agg N'] w (.int .i64 (jN b)):=by
 obtain⟨E,v,z,d⟩:=jv 68 N (Own.start A);obtain⟨D,p,s,c⟩:=jv 68 N' d;obtain⟨t,f,l,a⟩:=jv 266 #[.func (.func 278) #[] #[.pointer (some ⟨w.heap.size,0,none⟩),.pointer (some ⟨(w.heap.size+1),0,none⟩)],.func (.func 279) #[] #[.pointer (some ⟨w.heap.size,0,none⟩),.pointer (some ⟨(w.heap.size+1),0,none⟩)]] c;simp only[bC]at s l;have B:=zh (mh (.slice (some ⟨w.heap.size+1+1,0,none⟩) 2 2) (JA w.heap.size (w.heap.size+1)) b t _ a.ay
  ⟨some ⟨w.heap.size+1+1,0,none⟩,2,rfl,zS,by simp[maxLen],fun _=>⟨_,0,rfl,fun i h=>by
   rw[yZ]
   match i,h with
   |0,_=>exact l 0 _ rfl
   | 1,_=>exact l 1 _ rfl⟩⟩
  ⟨YL _ _,fun i h y w' q=>x t _ _ (Mem.le_trans v (Mem.le_trans p f)) (fun j u r=>Mem_cell_le (Mem.le_trans p f) (z j u r)) (fun j u r=>Mem_cell_le f (s j u r)) i h y w' q,by simp[hk],fun h=>absurd h qez⟩)
 have HO:=zh a;clear d c a z s l v p f x;refine au fun R hR=>?_
 go_enter func277,ntmps277
 go_wp2_with (go_at_call 219;refine B.o.mono ?_;rintro e C ⟨rfl,hb1⟩)
 exact qgI
end Cl
