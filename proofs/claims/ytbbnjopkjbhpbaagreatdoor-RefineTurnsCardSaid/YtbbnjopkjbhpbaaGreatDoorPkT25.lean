/- Lemmas. -/
import Derived.Test.YtbbnjopkjbhpbaaGreatDoorPkT24
set_option maxRecDepth 99999
set_option maxHeartbeats 9999999
namespace Cl
open Go Go.RowKit Go.Proofs Tryz
theorem CU{n:Nat}{c:Lc}(h:kC (n+1) (lI c)):∀d∈aX c,vW n d:=h.lc c (by simp[lI,Vl.aJ])
theorem Cw{n:Nat}{c:St}(h:kC (n+1) (uP c)):YA n c:=h.st c (by simp[uP,Vl.ay])
theorem czi{n:Nat}{c:Lc}(h:kC (n+1) (lI c)):c.2.length<=1/\∀y∈aX c,ib n y.1/\ib n y.2:=⟨h.snd.1.rest c (by simp[lI,Vl.aJ]),fun y a=>⟨(CU h y a).1.snd,(CU h y a).2.snd⟩⟩
theorem bzP{n:Nat}{c:St}(h:kC (n+1) (uP c)):(∀f∈c.1,ib n f.2.1/\ib n f.2.2)/\∀k∈c.2,bZ k.1/\ib n k.2.1/\ib n k.2.2:=
 have k:=Cw h
 ⟨fun f a=>⟨(k.vals _ (yP.2 (.inl (yD.2 ⟨f,a,rfl⟩)))).1.snd,(k.vals _ (yP.2 (.inl (yD.2 ⟨f,a,rfl⟩)))).2.snd⟩,fun f a=>⟨(k.ok.sets f a).1,(k.vals _ (yP.2 (.inr (yD.2 ⟨f,a,rfl⟩)))).1.snd,(k.vals _ (yP.2 (.inr (yD.2 ⟨f,a,rfl⟩)))).2.snd⟩⟩
theorem czh{n:Nat}{c:Lc}(h:kC (n+1) (lI c)):uF (df n) c c:=Ir fun d a=>⟨(CU h d a).1.snd.ht,(CU h d a).2.snd.ht⟩
theorem bzO{n:Nat}{c:St}(h:kC (n+1) (uP c)):uE (df n) c c:=GD (Cw h).ok fun d a=>⟨((Cw h).vals d a).1.snd.ht,((Cw h).vals d a).2.snd.ht⟩
theorem Y6:fB prog 30 50 2 48:=⟨underlying30,zo,by
 obtain⟨i,d,c,b,a⟩:=info_parts (P:=prog) (e:=50) (z:=.agg #[.slice none 0 0,.slice none 0 0]) (size:=2) (bytes:=48) zk;exact⟨i,_,d,c,b,a,rfl⟩⟩
theorem dzL{n:Nat}{m:Mem}{b o:Nat}{c:Lc}(h:OO (aY m n) m b o c)(k:kC (n+1) (lI c)):∃f i d e g a,m.cell b o=some (.slice f i d)/\m.cell b (o+1)=some (.slice e g a)/\Dw n m [.slice f i d,.slice e g a] c:=by
 obtain⟨u,t,s,r,l,j⟩:=h;have q:=l;have p:=j;obtain⟨f,d,rfl,-⟩:=q;obtain⟨e,a,rfl,-⟩:=p;exact⟨_,_,_,_,_,_,s,r,_,_,rfl,l,j,CU k⟩
theorem Ip{n:Nat}{m mk M:Mem}{w:zW}{t:TypeId}{v:zV}{l:List Lc}{xs:List Value}(hown:w.ownsRow 0 t 2 v l.length xs)(hx:jd 2 (Dw n m) xs l)(hm:m.le M)(hM:(mk.iA w v).le M):vT (aY M n) M v l:=
 eY hown fun g hg i h=>by
  exact qil
theorem ZX{n:Nat}(hn:n+1<=16)(v:zV)(l:List Lc)(m:Mem)(w:zW)(hm:m.az w)(A:eD m)(hl:vT (aY m n) m v l)(kl:∀c∈l,kC (n+1) (lI c))(B':l.length<=8):
 zC 82 #[v,.func (.func 50) #[] #[],.func (.func 83) #[] #[]] w fun e w'=>∃r,e=.returned r/\zB w w'/\vT (aY (m.grow w w') n) (m.grow w w') r (eU (Lm (gI n)) (mh (uF (df n)) l)):=by
 obtain⟨a,c,rfl,h1,E,G⟩:=hl;unfold maxLen at E;obtain⟨mk,hO,d,Q⟩:=((Own.start hm).al #[.func (.func 83) #[] #[]] 132).AY;have HK:=zh G;have HM:=zh (zi d (zi Q (zi A kl)));have HQ:=zh (fun cs W c c' w' (h:m.az w') k1 k2=>VG (qH n) A cs W c c' w' h k1 k2);have HO:=zh (hO.fE 50 2);clear hO d Q A kl G;generalize U:uF (df n)=f at*
 have y':=zh U;clear U;refine au fun R hR=>?_
 go_enter func82,ntmps82
 go_wp2
 go_step3
 go_wp2
 go_step3
 go_wp2;refine aB [0,1,5,7,12,13,14] (fun q vs wr=>∃(i:Nat) (H:zV) (xs:List Value),i<=l.length/\q=l.length-i/\vs=[.slice a l.length c,.func (.func 50) #[] #[],.p w.heap.size,H,.slice a l.length c,.j (l.length:Int),.j (i:Int)]/\jd 2 (Dw n m) xs (ig f l i)/\Own w m wr mk [.row H 50 2 (ig f l i).length xs]) ?_ ?_
 .exact⟨_,0,_,[],zG _,rfl,rfl,jd.nil,HO.o⟩
 clear HO;rintro X z q vs wr hX-⟨i,H,xs,hi,rfl,rfl,F,hO⟩;simp[bz,lk];have HX:=zh F;clear F;by_cases hlt:i<l.length
 case neg=>
  obtain rfl:i=l.length:=zo;have d:=HM.o.1;have HS:=zh (Zj (C:=Lm (gI n)) (uV (lX n)) hO HX.o (fun x F=>czi (HM.o.2.2.2 x (dV F))) (by
   have:=ll (R:=f) (l:=l) fun x F=>by rw[<-y'.o];exact czh (HM.o.2.2.2 x F)
   exact this) 129 #[.pointer (some ⟨w.heap.size,0,none⟩)] Uc (fun cs W x x' w' p' F D r r'=>by
   obtain⟨u,u2,rfl,G,V,-⟩:=r;obtain⟨u',o',rfl,v',t',-⟩:=r';exact ZO hn x x' u u2 u' o' _ mk w' p' (HM.o.2.2.1.le d) HM.o.2.1 (G.le d fun _ _ h=>h.le d) (V.le d fun _ _ h=>h.le d) (v'.le d fun _ _ h=>h.le d) (t'.le d fun _ _ h=>h.le d) (HM.o.2.2.2 x (dV F)) (HM.o.2.2.2 x' (dV D))) (by
   have:=List.length_filterMap_le (fun i=>l[i]?) ((List.range l.length).filter fun i=>tf (rW f l i));have E:=vB (fun i=>tf (rW f l i)) (List.range l.length);rw[List.length_range]at E;have G:(ig f l l.length).length<=l.length:=yJ this E;omega))
  clear hO hX HX
  go_wp2_with fail
  refine HS.o.mono ?_;rintro e w1 ⟨rfl,g',D,g⟩;have HF:=zh (show zB w w1/\vT (aY (m.grow w w1) n) (m.grow w w1) H (eU (Lm (gI n)) (mh f l)) from by
   refine⟨g.aF,Ip (mk:=mk) (w:=w1) (t:=50) (xs:=g') ?_ D (Mem.le_trans d (Mem.le_trans (czS g.free) g.bP.done)) g.bP.done⟩;have e:(eU (Lm (gI n)) (mh f l)).length=(ig f l l.length).length:=(iY _ _).length_eq;rw[e];exact g.row)
  clear HS D g d;exact qbj
 have P:=zF hlt;obtain⟨b,off,rfl,V⟩:=HK.o qdJ;obtain⟨N,L,M,y,p,s,K,Y,O⟩:=dzL (V i hlt) (HM.o.2.2.2 _ P);have x1:=azk qiu K;have x2:=azk qiu Y;have xl:=bzu qiu K;have HO:=zh (hO.al #[.slice N L M,.slice y p s] 50);have Z:=zh (zi O V);clear hO V K Y O;go_wp2;clear x1 x2 xl;refine aB [0,1,5,7,8,9,12,13,14,19,20,21] (fun q vs wi=>∃(k:Nat),k<=l.length/\q=l.length-k/\vs=[.slice (some ⟨b,off,none⟩) l.length c,.func (.func 50) #[] #[],.p w.heap.size,H,.j (i:Int),.p wr.heap.size,.slice (some ⟨b,off,none⟩) l.length c,.j (l.length:Int),.j (i:Int),.slice (some ⟨b,off,none⟩) l.length c,.j (l.length:Int),.j (k:Int)]/\(∀j (hj:j<l.length),j<k->j≠i->f l[i] l[j]->¬(j<i\/¬f l[j] l[i])) /\
  Own w m wi mk [.obj wr.heap.size 50 #[.slice N L M,.slice y p s],.row H 50 2 (ig f l i).length xs]) ?_ ?_
 .exact qat
 clear HO;rintro X2 z2 q2 I' wi hX2-⟨k,hk,rfl,rfl,hA,hO⟩;simp[bz,lk];have HA:=zh hA;clear hA;by_cases J:k<l.length
 case neg=>
  obtain rfl:k=l.length:=zo;have HK2:=zh (show ig f l (i+1)=ig f l i++[l[i]] from tY hlt fun k hk _ hne hr=>HA.o k hk hk hne hr);have HX2:=zh (HX.o.push (cs:=[.slice N L M,.slice y p s]) rfl qdN Z.o.1);have y0:=hO.obj.c 0;have y1:=hO.obj.c 1;have yl:=hO.obj.lt;have HL:=zh (show(ig f l i).length<=i from by
   have:=List.length_filterMap_le (fun i=>l[i]?) ((List.range i).filter fun i=>tf (rW f l i));have E:=vB (fun i=>tf (rW f l i)) (List.range i);rw[List.length_range]at E;exact yJ this E)
  have Q':=HL.o;have HO:=zh (hO.al #[.slice N L M,.slice y p s] 50);clear hO hX2 HA;generalize ig f l i=MX at*
  go_wp2_with (at_builtin;refine aU Y6 rfl (.tmp 48) (.tmp 50) rfl H MX.length xs rfl HO.o.aR.row ⟨wi.heap.size,0,none⟩ 1 1 [.slice N L M,.slice y p s] rfl rfl qe5 qdN qdM zo ?_)
  exact qgJ
 have I:=zF J;obtain⟨va,vn,vc,n',l',m',K,Y,B⟩:=dzL (Z.o.2 k J) (HM.o.2.2.2 _ I);have x1:=azk qiu K;have x2:=azk qiu Y;have xl:=bzu qiu K;have HO:=zh (hO.al #[.slice va vn vc,.slice n' l' m'] 50);have y0:=HO.o.av.obj.c 0;have y1:=HO.o.av.obj.c 1;have yl:=HO.o.av.obj.lt;have HN:=zh (show(k≠i->f l[i] l[k]->¬(k<i\/¬f l[k] l[i]))->∀j (hj:j<l.length),j<k+1->j≠i->f l[i] l[j]->¬(j<i\/¬f l[j] l[i]) from fun h j hj G=>by
  by_cases e:j=k
  .exact qbR
  .exact HA.o j hj zo)
 have HZ:=zh (show k≠i->f l[i] l[k]->(k<i\/¬f l[k] l[i])->ig f l (i+1)=ig f l i from fun h1 E G=>CP fun h=>h k J hlt h1 E G);have HQ1:=zh (fun w' (h:mk.az w')=>HQ.o _ _ l[i] l[k] w' (bzw HM.o.1 h) Z.o.1 B);have HQ2:=zh (fun w' (h:mk.az w')=>HQ.o _ _ l[k] l[i] w' (bzw HM.o.1 h) B Z.o.1);clear hO K Y B HA Z;by_cases hne:k=i
 .exact qbA
 have hd:((i:Int) != (k:Int))=true:=by simp;omega
 have q':(i != k)=true:=by simp;omega
 go_wp2_with fail
 refine(HQ1.o _ HO.o.az).mono ?_;rintro e w3 ⟨rfl,T⟩;have HO3:=zh (HO.o.aT T);clear HO HQ1 T y0 y1 yl x1 x2 xl hd q';by_cases e1:f l[i] l[k]
 case neg=>
  exact qbw
 rw[aN e1];by_cases e2:k<i
 .exact qbb
 have y0:=HO3.o.obj.c 0;have y1:=HO3.o.obj.c 1;have yl:=HO3.o.obj.lt;have y2:=HO3.o.av.obj.c 0;have y3:=HO3.o.av.obj.c 1;have f':=HO3.o.av.obj.lt;have hd:decide (k<i)=false:=zM e2
 go_wp2_with fail
 refine(HQ2.o _ HO3.o.az).mono ?_;rintro e w4 ⟨rfl,S⟩;have HO4:=zh (HO3.o.aT S);clear HO3 HQ2 S y0 y1 yl y2 y3 f' hd;by_cases e3:f l[k] l[i]
 .exact qbl
 .exact qa6
theorem Y5:fB prog 31 62 2 48:=⟨underlying31,zo,by
 obtain⟨i,d,c,b,a⟩:=info_parts (P:=prog) (e:=62) (z:=.agg #[.slice none 0 0,.slice none 0 0]) (size:=2) (bytes:=48) zk;exact⟨i,_,d,c,b,a,rfl⟩⟩
theorem dzy{n:Nat}{m:Mem}{b o:Nat}{c:St}(h:OG (aY m n) m b o c)(k:kC (n+1) (uP c)):∃f i d e g a,m.cell b o=some (.slice f i d)/\m.cell b (o+1)=some (.slice e g a)/\EH n m [.slice f i d,.slice e g a] c:=by
 obtain⟨u,t,s,r,l,j⟩:=h;have q:=l;have p:=j;obtain⟨f,d,rfl,-⟩:=q;obtain⟨e,a,rfl,-⟩:=p;exact⟨_,_,_,_,_,_,s,r,_,_,rfl,l,j,Cw k⟩
theorem Gx{n:Nat}{m mk M:Mem}{w:zW}{t:TypeId}{v:zV}{l:List St}{xs:List Value}(hown:w.ownsRow 0 t 2 v l.length xs)(hx:jd 2 (EH n m) xs l)(hm:m.le M)(hM:(mk.iA w v).le M):vQ (aY M n) M v l:=
 eY hown fun g hg i h=>by
  exact qil
theorem ZY{n:Nat}(hn:n+1<=16)(v:zV)(l:List St)(m:Mem)(w:zW)(hm:m.az w)(A:eD m)(hl:vQ (aY m n) m v l)(kl:∀c∈l,kC (n+1) (uP c))(B':l.length<=8):
 zC 84 #[v,.func (.func 52) #[] #[],.func (.func 85) #[] #[]] w fun e w'=>∃r,e=.returned r/\zB w w'/\vQ (aY (m.grow w w') n) (m.grow w w') r (eU (KJ (gI n)) (mh (uE (df n)) l)):=by
 obtain⟨a,c,rfl,h1,E,G⟩:=hl;unfold maxLen at E;obtain⟨mk,hO,d,Q⟩:=((Own.start hm).al #[.func (.func 85) #[] #[]] 134).AY;have HK:=zh G;have HM:=zh (zi d (zi Q (zi A kl)));have HQ:=zh (fun cs W c c' w' (h:m.az w') k1 k2=>Vj (qH n) A cs W c c' w' h k1 k2);have HO:=zh (hO.fE 62 2);clear hO d Q A kl G;generalize U:uE (df n)=f at*
 have y':=zh U;clear U;refine au fun R hR=>?_
 go_enter func84,ntmps84
 go_wp2
 go_step3
 go_wp2
 go_step3
 go_wp2;refine aB [0,1,5,7,12,13,14] (fun q vs wr=>∃(i:Nat) (H:zV) (xs:List Value),i<=l.length/\q=l.length-i/\vs=[.slice a l.length c,.func (.func 52) #[] #[],.p w.heap.size,H,.slice a l.length c,.j (l.length:Int),.j (i:Int)]/\jd 2 (EH n m) xs (ig f l i)/\Own w m wr mk [.row H 62 2 (ig f l i).length xs]) ?_ ?_
 .exact⟨_,0,_,[],zG _,rfl,rfl,jd.nil,HO.o⟩
 clear HO;rintro X z q vs wr hX-⟨i,H,xs,hi,rfl,rfl,F,hO⟩;simp[bz,lk];have HX:=zh F;clear F;by_cases hlt:i<l.length
 case neg=>
  obtain rfl:i=l.length:=zo;have d:=HM.o.1;have HS:=zh (Zn (C:=KJ (gI n)) (uQ (lX n)) hO HX.o (fun x F=>bzP (HM.o.2.2.2 x (dV F))) (by
   have:=ll (R:=f) (l:=l) fun x F=>by rw[<-y'.o];exact bzO (HM.o.2.2.2 x F)
   exact this) 132 #[.pointer (some ⟨w.heap.size,0,none⟩)] Ud (fun cs W x x' w' p' F D r r'=>by
   obtain⟨u,u2,rfl,G,V,-⟩:=r;obtain⟨u',o',rfl,v',t',-⟩:=r';exact ZP hn x x' u u2 u' o' _ mk w' p' (HM.o.2.2.1.le d) HM.o.2.1 (G.le d fun _ _ h=>h.le d) (V.le d fun _ _ h=>h.le d) (v'.le d fun _ _ h=>h.le d) (t'.le d fun _ _ h=>h.le d) (HM.o.2.2.2 x (dV F)) (HM.o.2.2.2 x' (dV D))) (by
   have:=List.length_filterMap_le (fun i=>l[i]?) ((List.range l.length).filter fun i=>tf (rW f l i));have E:=vB (fun i=>tf (rW f l i)) (List.range l.length);rw[List.length_range]at E;have G:(ig f l l.length).length<=l.length:=yJ this E;omega))
  clear hO hX HX
  go_wp2_with fail
  refine HS.o.mono ?_;rintro e w1 ⟨rfl,g',D,g⟩;have HF:=zh (show zB w w1/\vQ (aY (m.grow w w1) n) (m.grow w w1) H (eU (KJ (gI n)) (mh f l)) from by
   refine⟨g.aF,Gx (mk:=mk) (w:=w1) (t:=62) (xs:=g') ?_ D (Mem.le_trans d (Mem.le_trans (czS g.free) g.bP.done)) g.bP.done⟩;have e:(eU (KJ (gI n)) (mh f l)).length=(ig f l l.length).length:=(iY _ _).length_eq;rw[e];exact g.row)
  clear HS D g d;exact qbj
 have P:=zF hlt;obtain⟨b,off,rfl,V⟩:=HK.o qdJ;obtain⟨N,L,M,y,p,s,K,Y,O⟩:=dzy (V i hlt) (HM.o.2.2.2 _ P);have x1:=azk qiu K;have x2:=azk qiu Y;have xl:=bzu qiu K;have HO:=zh (hO.al #[.slice N L M,.slice y p s] 62);have Z:=zh (zi O V);clear hO V K Y O;go_wp2;clear x1 x2 xl;refine aB [0,1,5,7,8,9,12,13,14,19,20,21] (fun q vs wi=>∃(k:Nat),k<=l.length/\q=l.length-k/\vs=[.slice (some ⟨b,off,none⟩) l.length c,.func (.func 52) #[] #[],.p w.heap.size,H,.j (i:Int),.p wr.heap.size,.slice (some ⟨b,off,none⟩) l.length c,.j (l.length:Int),.j (i:Int),.slice (some ⟨b,off,none⟩) l.length c,.j (l.length:Int),.j (k:Int)]/\(∀j (hj:j<l.length),j<k->j≠i->f l[i] l[j]->¬(j<i\/¬f l[j] l[i])) /\
  Own w m wi mk [.obj wr.heap.size 62 #[.slice N L M,.slice y p s],.row H 62 2 (ig f l i).length xs]) ?_ ?_
 .exact qat
 clear HO;rintro X2 z2 q2 I' wi hX2-⟨k,hk,rfl,rfl,hA,hO⟩;simp[bz,lk];have HA:=zh hA;clear hA;by_cases J:k<l.length
 case neg=>
  obtain rfl:k=l.length:=zo;have HK2:=zh (show ig f l (i+1)=ig f l i++[l[i]] from tY hlt fun k hk _ hne hr=>HA.o k hk hk hne hr);have HX2:=zh (HX.o.push (cs:=[.slice N L M,.slice y p s]) rfl qdN Z.o.1);have y0:=hO.obj.c 0;have y1:=hO.obj.c 1;have yl:=hO.obj.lt;have HL:=zh (show(ig f l i).length<=i from by
   have:=List.length_filterMap_le (fun i=>l[i]?) ((List.range i).filter fun i=>tf (rW f l i));have E:=vB (fun i=>tf (rW f l i)) (List.range i);rw[List.length_range]at E;exact yJ this E)
  have Q':=HL.o;have HO:=zh (hO.al #[.slice N L M,.slice y p s] 62);clear hO hX2 HA;generalize ig f l i=MX at*
  go_wp2_with (at_builtin;refine aU Y5 rfl (.tmp 48) (.tmp 50) rfl H MX.length xs rfl HO.o.aR.row ⟨wi.heap.size,0,none⟩ 1 1 [.slice N L M,.slice y p s] rfl rfl qe5 qdN qdM zo ?_)
  exact qgJ
 have I:=zF J;obtain⟨va,vn,vc,n',l',m',K,Y,B⟩:=dzy (Z.o.2 k J) (HM.o.2.2.2 _ I);have x1:=azk qiu K;have x2:=azk qiu Y;have xl:=bzu qiu K;have HO:=zh (hO.al #[.slice va vn vc,.slice n' l' m'] 62);have y0:=HO.o.av.obj.c 0;have y1:=HO.o.av.obj.c 1;have yl:=HO.o.av.obj.lt;have HN:=zh (show(k≠i->f l[i] l[k]->¬(k<i\/¬f l[k] l[i]))->∀j (hj:j<l.length),j<k+1->j≠i->f l[i] l[j]->¬(j<i\/¬f l[j] l[i]) from fun h j hj G=>by
  by_cases e:j=k
  .exact qbR
  .exact HA.o j hj zo)
 have HZ:=zh (show k≠i->f l[i] l[k]->(k<i\/¬f l[k] l[i])->ig f l (i+1)=ig f l i from fun h1 E G=>CP fun h=>h k J hlt h1 E G);have HQ1:=zh (fun w' (h:mk.az w')=>HQ.o _ _ l[i] l[k] w' (bzw HM.o.1 h) Z.o.1 B);have HQ2:=zh (fun w' (h:mk.az w')=>HQ.o _ _ l[k] l[i] w' (bzw HM.o.1 h) B Z.o.1);clear hO K Y B HA Z;by_cases hne:k=i
 .exact qbA
 have hd:((i:Int) != (k:Int))=true:=by simp;omega
 have q':(i != k)=true:=by simp;omega
 go_wp2_with fail
 refine(HQ1.o _ HO.o.az).mono ?_;rintro e w3 ⟨rfl,T⟩;have HO3:=zh (HO.o.aT T);clear HO HQ1 T y0 y1 yl x1 x2 xl hd q';by_cases e1:f l[i] l[k]
 case neg=>
  exact qbw
 rw[aN e1];by_cases e2:k<i
 .exact qbb
 have y0:=HO3.o.obj.c 0;have y1:=HO3.o.obj.c 1;have yl:=HO3.o.obj.lt;have y2:=HO3.o.av.obj.c 0;have y3:=HO3.o.av.obj.c 1;have f':=HO3.o.av.obj.lt;have hd:decide (k<i)=false:=zM e2
 go_wp2_with fail
 refine(HQ2.o _ HO3.o.az).mono ?_;rintro e w4 ⟨rfl,S⟩;have HO4:=zh (HO3.o.aT S);clear HO3 HQ2 S y0 y1 yl y2 y3 f' hd;by_cases e3:f l[k] l[i]
 .exact qbl
 .exact qa6
theorem Cr(d:Vd)(x y:Sl)(w:zW):
 zX 14 #[bQ d x y] w (.bool (d.1.any&&d.2.any)):=by
 have a:=(Own.start (ezr w)).al (dw d x y).toArray 35;have c:=a.obj.cell (i:=0) (v:=.bool d.1.any) rfl;have b:=a.obj.cell (i:=9) (v:=.bool d.2.any) rfl;have HB:=zh a.aF;unfold bQ;clear a;generalize dw d x y=N at*
 generalize d.1.any=p at*
 generalize d.2.any=q at*
 refine au fun R hR=>?_;cases p<;>cases q
 all_goals
  go_enter func14,ntmps14
  exact qaD
theorem AU(s:RS)(b c a:zV)(m:Mem)(w:zW)(x:m.az w)(r:gJ m b c a s):
 zX 28 #[s.val b c a] w (bQ (.mk false s [] [],.mk false s [] []) ⟨b,c,a,.n,.n⟩ ⟨b,c,a,.n,.n⟩):=by
 have h:=((Own.start x).al #[.bool s.dL,.bool s.dS,.bool s.dW,b,c,a] 29).al lZ 35;simp only[bB]at h;have i:aY m 1 ⟨b,c,a,.n,.n⟩ (.mk false s [] []):=⟨r,fq _ _,fq _ _⟩;have n:=zh (uM _ _ m 1 _ h.az i);have z:=fG (d:=(Vl.mk false s [] [],Vl.mk false s [] [])) i i;have k:=h.av.obj.all (cs:=[.bool s.dL,.bool s.dS,.bool s.dW,b,c,a]);have p:=zh h;clear h;unfold bQ at*
 unfold RS.val;have hl:(dw (Vl.mk false s [] [],Vl.mk false s [] []) ⟨b,c,a,.n,.n⟩ ⟨b,c,a,.n,.n⟩).length=18:=rfl;generalize dw (Vl.mk false s [] [],Vl.mk false s [] []) ⟨b,c,a,.n,.n⟩ ⟨b,c,a,.n,.n⟩=N at*
 refine au fun R y=>?_
 go_enter func28,ntmps28
 go_wp2_with (refine aj rO rfl (.tmp 1) rfl rfl [.bool s.dL,.bool s.dS,.bool s.dW,b,c,a] rfl k ?_)
 refine n.o.mono ?_;rintro e B ⟨rfl,g⟩;have f:=zh (p.o.aT g);clear p n g k
 go_wp2_with (refine aA ek rfl (.tmp 2) (.tmp 5) rfl (cs:=N.toArray) rfl rfl rfl qdR (fun u q=>z u q) f.o.obj ?_)
 intro w' j l;have A:=zh (f.o.aQ j l);have t:=ek.load hl j.all;clear f l j;go_wp2;exact yV (v:=.agg N.toArray) (jq results28 rfl t) rfl (y.o _ _ ⟨rfl,A.o.aF⟩)
def opL(c:Lc):Prop:=c.1=[]/\∃d,c.2=[d]/\(d.1.any&&d.2.any)=true
def opS(c:St):Prop:=c.1=[]/\∃k,c.2=[k]/\(k.2.1.any&&k.2.2.any)=true
theorem ezp{c:Lc}(b:c.1.length=0)(g:c.2.length=1):tf (opL c)=(c.2[0].1.any&&c.2[0].2.any):=by
 obtain⟨d,a⟩:=List.length_eq_one_iff.1 g;have b:=xJ.1 b;have e:opL c↔(d.1.any&&d.2.any)=true:=⟨fun⟨_,x,f,k⟩=>by rw[a]at f;cases f;exact k,fun k=>⟨b,d,a,k⟩⟩;rw[dY e];simp only[a,xL];cases (d.1.any&&d.2.any)<;>simp[tf]
theorem ezo{c:St}(b:c.1.length=0)(g:c.2.length=1):tf (opS c)=(c.2[0].2.1.any&&c.2[0].2.2.any):=by
 obtain⟨d,a⟩:=List.length_eq_one_iff.1 g;have b:=xJ.1 b;have e:opS c↔(d.2.1.any&&d.2.2.any)=true:=⟨fun⟨_,x,f,k⟩=>by rw[a]at f;cases f;exact k,fun k=>⟨b,d,a,k⟩⟩;rw[dY e];simp only[a,xL];cases (d.2.1.any&&d.2.2.any)<;>simp[tf]
theorem Nr{n:Nat}(c:Lc)(u q:zV)(m:Mem)(w:zW)(B:m.az w)(H:bD (aY m n) m u c.1)(G:bD (aY m n) m q c.2):
 zX 134 #[.agg #[u,q]] w (.bool (tf (opL c))):=by
 obtain⟨L,J,rfl,S,z,-⟩:=H;obtain⟨K,I,rfl,Q,v,t⟩:=G;unfold maxLen at z v;have g:=(Own.start B).al #[.slice L c.1.length J,.slice K c.2.length I] 50;have O:=g.obj.c 0;have N:=g.obj.c 1;have M:=g.obj.lt;have HO:=zh g;have k:=zh t;clear g t;refine au fun R hR=>?_
 go_enter func134,ntmps134
 by_cases i:c.1.length=0
 case neg=>
  have HX:=zh (show ¬opL c from fun h=>i (by rw[h.1];rfl));have HB:=zh HO.o.aF;have E:((c.1.length:Int)==0)=false:=zO.2 zo;generalize c.1.length=s at*
  clear HO k;exact qgT
 by_cases p:c.2.length=1
 case neg=>
  have HX:=zh (show ¬opL c from fun⟨_,d,h,_⟩=>p qeH);have HB:=zh HO.o.aF;have E:((c.2.length:Int)==1)=false:=zO.2 zo;clear HO k;generalize c.1.length=s at*
  generalize c.2.length=A at*
  subst i;exact qgT
 have h0:0<c.2.length:=zo;have HX:=zh (ezp i p);obtain⟨b,off,rfl,l⟩:=k.o qeC;obtain⟨x,y,a⟩:∃x y,∀j u,(dw c.2[0] x y)[j]?=some u->m.cell b ((off)+j)=some u:=by
  first
   | (obtain⟨x,y,a,-⟩:=(l 0 h0).cells
      exact⟨x,y,fun j u f=>by simpa using a j u f⟩)
   | (obtain⟨T,x,y,-,a,-⟩:=(l 0 h0).cells
      exact⟨x,y,fun j u f=>by have:=a (1+j) u (kQ f);rw[show off+1+j=off+0*19+(1+j)by omega];exact this⟩)
 have C:(dw c.2[0] x y).length=18:=rfl;have HT:=zh (fun w'=>Cr c.2[0] x y w');have HC:=zh (fun j u f=>azk HO.o.az (a j u f));have F:=bzu HO.o.az (a 0 _ rfl);unfold bQ at HT;generalize dw c.2[0] x y=D at*
 generalize (c.2[0].1.any&&c.2[0].2.any)=r at*
 generalize tf (opL c)=P at*
 clear l k a;generalize c.1.length=s at*
 generalize c.2.length=A at*
 subst i p
 go_wp2_with (first
  |refine aj ek rfl (.tmp 16) rfl rfl D C HC.o ?_
  | fail)
 exact qgY
theorem Hf{n:Nat}(c:St)(u q:zV)(m:Mem)(w:zW)(B:m.az w)(H:gG (aY m n) m u c.1)(G:gM (aY m n) m q c.2):
 zX 135 #[.agg #[u,q]] w (.bool (tf (opS c))):=by
 obtain⟨L,J,rfl,S,z,-⟩:=H;obtain⟨K,I,rfl,Q,v,t⟩:=G;unfold maxLen at z v;have g:=(Own.start B).al #[.slice L c.1.length J,.slice K c.2.length I] 62;have O:=g.obj.c 0;have N:=g.obj.c 1;have M:=g.obj.lt;have HO:=zh g;have k:=zh t;clear g t;refine au fun R hR=>?_
 go_enter func135,ntmps135
 by_cases i:c.1.length=0
 case neg=>
  have HX:=zh (show ¬opS c from fun h=>i (by rw[h.1];rfl));have HB:=zh HO.o.aF;have E:((c.1.length:Int)==0)=false:=zO.2 zo;generalize c.1.length=s at*
  clear HO k;exact qgT
 by_cases p:c.2.length=1
 case neg=>
  have HX:=zh (show ¬opS c from fun⟨_,d,h,_⟩=>p qeH);have HB:=zh HO.o.aF;have E:((c.2.length:Int)==1)=false:=zO.2 zo;clear HO k;generalize c.1.length=s at*
  generalize c.2.length=A at*
  subst i;exact qgT
 have h0:0<c.2.length:=zo;have HX:=zh (ezo i p);obtain⟨b,off,rfl,l⟩:=k.o qeC;obtain⟨x,y,a⟩:∃x y,∀j u,(dw c.2[0].2 x y)[j]?=some u->m.cell b ((off+1)+j)=some u:=by
  first
   | (obtain⟨x,y,a,-⟩:=(l 0 h0).cells
      exact⟨x,y,fun j u f=>by simpa using a j u f⟩)
   | (obtain⟨T,x,y,-,a,-⟩:=(l 0 h0).cells
      exact⟨x,y,fun j u f=>by have:=a (1+j) u (kQ f);rw[show off+1+j=off+0*19+(1+j)by omega];exact this⟩)
 have C:(dw c.2[0].2 x y).length=18:=rfl;have HT:=zh (fun w'=>Cr c.2[0].2 x y w');have HC:=zh (fun j u f=>azk HO.o.az (a j u f));have F:=bzu HO.o.az (a 0 _ rfl);unfold bQ at HT;generalize dw c.2[0].2 x y=D at*
 generalize (c.2[0].2.1.any&&c.2[0].2.2.any)=r at*
 generalize tf (opS c)=P at*
 clear l k a;generalize c.1.length=s at*
 generalize c.2.length=A at*
 subst i p
 go_wp2_with (first
  |refine aj ek rfl (.tmp 17) rfl rfl D C HC.o ?_
  | fail)
 exact qgY
theorem azv{s:RS}{A:RS}(a:s.iB)(h:oK (fun e=>(iV s).has e\/(iV fe).has e) A):A=s:=by
 refine GR h.valid a fun e=>(h.mem e).trans ?_;rw[mG a,mG gD];exact⟨fun k=>k.elim id fun k=>absurd k (fun k=>(L8.mem e).1 k),.inl⟩
theorem Ni(p q n:zV)(s:RS)(m:Mem)(w:zW)(L:m.az w)(j:eD m)(C:gJ m p q n s)(M:jW s 8 8)(J:s.iB):
 zC 79 #[s.val p q n] w fun e w'=>∃F G E,e=.returned (s.val F G E)/\zB w w'/\gJ (m.grow w w') F G E s:=by
 have r:=((Own.start L).al #[.bool s.dL,.bool s.dS,.bool s.dW,p,q,n] 29).al #[.bool false,.bool false,.bool false,.slice none 0 0,.slice none 0 0,.slice none 0 0] 29;simp only[bB]at r;have D:=zh (Zu p q n s (.n) (.n) (.n) fe 8 8 8 8 m _ r.az j C (aY.leaf m false).1 M (L6 8 8) zo zo zo);have O:=zh J;obtain⟨aa,Z,ac,Y,X,W,rfl,rfl,rfl⟩:=C.dm;unfold RS.val at D⊢;have H:=zh r;clear r C;refine au fun R N=>?_
 go_enter func79,ntmps79
 go_wp2_with fail
 refine D.o.mono ?_;rintro e T ⟨A,U,V,st,rfl,b,c,k,-⟩;obtain rfl:=azv O.o k;have a:=c;obtain⟨B,z,y,zd,x,u,rfl,rfl,rfl⟩:=c.dm;have g:=zh (H.o.call b);have I:=zh (zi b a);clear H D b c a k
 go_wp2_with (first
  | refine aA rO rfl (.tmp 2) (.tmp 5) rfl (cs:=#[.bool A.dL,.bool A.dS,.bool A.dW,.slice B A.i.length z,.slice y A.f.length zd,.slice x A.t.length u]) rfl rfl rfl rfl qdN g.o.obj ?_)
 intro S h l;have d:=g.o.aQ h l;have K:=rO.load (P:=prog) (cs:=[.bool A.dL,.bool A.dS,.bool A.dW,.slice B A.i.length z,.slice y A.f.length zd,.slice x A.t.length u]) rfl h.all;have Q:=zh (zi d.aF (I.o.2.le d.done));clear g I d l;go_wp2;refine yV (v:=.agg #[.bool A.dL,.bool A.dS,.bool A.dW,.slice B A.i.length z,.slice y A.f.length zd,.slice x A.t.length u]) (jq results79 rfl K) rfl ?_;exact N.o _ _ ⟨_,_,_,rfl,Q.o⟩
theorem czD{v:Vl}(l:v.aJ.length=1)(k:v.ay.length=1):J8 v↔(∀e,Ob e->v.s.has e)/\opL v.aJ[0]/\opS v.ay[0]:=by
 obtain⟨x,d⟩:=List.length_eq_one_iff.1 l;obtain⟨y,c⟩:=List.length_eq_one_iff.1 k;simp only[d,c,xL];constructor
 .rintro⟨a,b,j,i,h,g,f⟩;rw[d]at j;rw[c]at i;cases j;cases i;exact⟨h,g,f⟩
 .rintro⟨h,g,f⟩;exact⟨x,y,d,c,h,g,f⟩
theorem czM{s:RS}(a:s.iB):∃c:Int,(c=0↔∀e,Ob e->s.has e)/\∀d,RB s mW d->d=c:=by
 refine⟨scC s mW,?_,fun d h=>(VV h a Av.valid).symm⟩;rw[F3.eq s mW a Av.valid];exact⟨fun h e b=>by rw[h];exact(Av.mem e).2 b,fun h=>GR a Av.valid fun e=>⟨fun k=>(Av.mem e).2 (ezA k),fun k=>h e ((Av.mem e).1 k)⟩⟩
theorem I5{n:Nat}(v:Vl)(s:Sl)(m:Mem)(w:zW)(hm:m.az w)(C:eD m)(hv:aY m (n+1) s v)(hl:jW v.s 8 8)(P:v.s.iB):
 zX 86 #[v.val s] w (.bool (tf (J8 v))):=by
 have L:=(Own.start hm).al (aZ v s).toArray 33;have F:=fun(z:Int) (A:∀d,RB v.s mW d->d=z)=>zh (fun(M:Mem) r w' (h:M.az w') (Q:m.le M) (k:∃ui uf ut,r=mW.val ui uf ut/\gJ M ui uf ut mW)=>show zC 133 #[v.s.val s.i s.f s.t,r] w' fun e N=>e=.returned (.j z)/\Below w'.heap.size w' N from by
  obtain⟨ui,uf,ut,rfl,k⟩:=k;refine(AZ s.i s.f s.t v.s ui uf ut mW 8 8 1 1 M w' h (C.le Q) (hv.1.le Q) k hl czV zo zo zo).mono ?_;rintro e N ⟨c,rfl,hb,hc⟩;exact⟨by rw[A c hc],hb⟩)
 obtain⟨z,S,A⟩:=czM P;have HCM:=F z A;obtain⟨-,y',x'⟩:=hv;obtain⟨n1,n2,n3,n4,n5,n6,hN,hS⟩:=NB v s;unfold Vl.val;rw[hS]at HCM;rw[hN]at L⊢;generalize s.l=sl at*
 generalize s.s=ss at*
 obtain⟨a4,b4,rfl,p4,q4,k4⟩:=y';obtain⟨a5,b5,rfl,p5,q5,k5⟩:=x';unfold maxLen at q4 q5;have HK:=zh (zi k4 k5);have B:=zh S;have y7:=L.obj.c 7;have y8:=L.obj.c 8;have yl:=L.obj.lt;have HO:=zh L;clear L k4 k5 hN hS F A S hl P C;refine au fun R hR=>?_
 go_enter func86,ntmps86
 by_cases e1:v.aJ.length=1
 case neg=>
  have HX:=zh (show ¬J8 v from fun⟨x,y,h,_⟩=>e1 qeH);have hd:((v.aJ.length:Int)==1)=false:=zO.2 zo;clear HK B HCM;generalize v.aJ.length=l4 at*
  go_wp2
  go_quiet (fail)
  exact qg5
 by_cases e2:v.ay.length=1
 case neg=>
  have HX:=zh (show ¬J8 v from fun⟨x,y,_,h,_⟩=>e2 qeH);have hd:((v.ay.length:Int)==1)=false:=zO.2 zo;clear HK B HCM;generalize v.aJ.length=l4 at*
  generalize v.ay.length=l5 at*
  subst e1;go_wp2
  go_quiet (fail)
  exact qg5
 have HX:=zh ((czD e1 e2).trans (and_congr_left' B.o.symm));have U:0<v.aJ.length:=zo;have T:0<v.ay.length:=zo;obtain⟨H,G,rfl,h4⟩:=HK.o.1 (by intro h;simp[h]at U);obtain⟨V,O,rfl,h5⟩:=HK.o.2 (by intro h;simp[h]at T);obtain⟨u1,u2,a1,a2,a3,a4⟩:=h4 0 U;obtain⟨v1,v2,b1,b2,b3,m'⟩:=h5 0 T;simp only[Nat.zero_mul,Nat.add_zero]at a1 a2 b1 b2;have p:=zh (zi a1 (zi a2 (zi b1 b2)));have q:=zh (fun w' (h:m.az w')=>Nr v.aJ[0] u1 u2 m w' h a3 a4);have D:=zh (fun w' (h:m.az w')=>Hf v.ay[0] v1 v2 m w' h b3 m');clear a1 a2 a3 a4 b1 b2 b3 m' h4 h5 HK B y7 y8 yl;generalize opL v.aJ[0]=OL at*
 generalize opS v.ay[0]=OS at*
 generalize J8 v=EV at*
 generalize v.aJ.length=l4 at*
 generalize v.ay.length=l5 at*
 subst e1 e2
 go_upto_region 1 with(fail)
 refine aW [2] (fun vs w'=>vs=[.bool (tf EV)]/\zB w w') ?_ ?_
 .intro Y hY;by_cases J:z=0
  case neg=>
   have hd:(z==0)=false:=zO.2 J;rw[aG fun h=>J (HX.o.1 h).1]at hY;refine bE 31 6 (fun j=>[aI.is (·=.pointer (some ⟨w.heap.size,7,none⟩)),aI.is (·=.slice (some ⟨H,G,none⟩) 1 b4),aI.is (·=.j 1),aI.is (·=.bool true),aI.is (·=.bool true),aI.is (·=.pointer (some ⟨w.heap.size,8,none⟩)),aI.is (·=.slice (some ⟨V,O,none⟩) 1 b5),aI.is (·=.j 1),aI.is (·=.bool true),aI.is (·=.bool true),aI.is (·=.bool true),aI.is (·=.pointer (some ⟨w.heap.size,1,none⟩)),aI.is (·=.agg #[n1,n2,n3,n4,n5,n6]),aI.mem m [13] (fun M u=>∃ui uf ut,u=mW.val ui uf ut/\gJ M ui uf ut mW),aI.is (·=.j z),aI.is (·=.bool false),aI.is (·=.bool false),aI.is (·=.bool false),aI.is (·=Go.undef),aI.is (·=Go.undef),aI.is (·=Go.undef),aI.is (·=Go.undef),aI.is (·=Go.undef),aI.is (·=.bool false),aI.is (·=.bool false),aI.is (·=Go.undef),aI.is (·=Go.undef),aI.is (·=Go.undef),aI.is (·=Go.undef),aI.is (·=Go.undef),aI.is (·=.bool false)].getD j aI.any) zk zk ?_ ?_
   .intro i hi o win a wr ho RA;have HO2:=HO.o.dr.aT RA.aF;have y7:=HO2.obj.c 7;have y8:=HO2.obj.c 8;have yl:=HO2.obj.lt;have q1:=HO2.obj.sub (o:=1) (cs:=[n1,n2,n3,n4,n5,n6]) (fun j u g=>by match j,g with|0,g=>exact g|1,g=>exact g|2,g=>exact g|3,g=>exact g|4,g=>exact g|5,g=>exact g|j+6,g=>simp at g);have x1:=azk HO2.az p.o.1;have x2:=azk HO2.az p.o.2.1;have xl:=bzu HO2.az p.o.1;have z1:=azk HO2.az p.o.2.2.1;have z2:=azk HO2.az p.o.2.2.2;have zl:=bzu HO2.az p.o.2.2.1;rcases(show i=0\/i=1\/i=2\/i=3\/i=4\/i=5\/i=6\/i=7\/i=8\/i=9\/i=10\/i=11\/i=12\/i=13\/i=14\/i=15\/i=16\/i=17\/i=18\/i=19\/i=20\/i=21\/i=22\/i=23\/i=24\/i=25\/i=26\/i=27\/i=28\/i=29\/i=30 by omega)with rfl|rfl|rfl|rfl|rfl|rfl|rfl|rfl|rfl|rfl|rfl|rfl|rfl|rfl|rfl|rfl|rfl|rfl|rfl|rfl|rfl|rfl|rfl|rfl|rfl|rfl|rfl|rfl|rfl|rfl|rfl
    .have e1:=RA.k 1;exact qaa
    .have J:zt a 3 _:=RA.d 0 rfl;exact qaa
    .have I:zt a 4 _:=RA.d 1 rfl;exact qaa
    .have e5:zt a 5 _:=RA.d 2 rfl;exact qaa
    .have e6:zt a 6 _:=RA.d 3 rfl;exact qaa
    .have e1:=RA.k 1;exact qad
    .have e8:zt a 8 _:=RA.d 5 rfl;exact qad
    .have e9:zt a 9 _:=RA.d 6 rfl;exact qad
    .have l':a.tmps.getD 10 undef=_:=RA.d 7 rfl;exact qad
    .have e7:zt a 7 _:=RA.d 4 rfl;have k':a.tmps.getD 11 undef=_:=RA.d 8 rfl;exact qaa
    .have j':a.tmps.getD 12 undef=_:=RA.d 9 rfl;exact qaa
    .exact qa4
    .exact qgy
    .exact qgu
    .exact qih
    .exact qgz
    .have e13:zt a 13 _:=RA.d 10 rfl;have i':a.tmps.getD 18 undef=_:=RA.d 15 rfl;exact qaa
    .have h':a.tmps.getD 19 undef=_:=RA.d 16 rfl;exact qaa
    .have e1:=RA.k 1;exact qaC
    .have g':a.tmps.getD 21 undef=_:=RA.d 18 rfl;exact qaC
    .have e22:zt a 22 _:=RA.d 19 rfl;exact qaC
    .have f':a.tmps.getD 23 undef=_:=RA.d 20 rfl;exact qaC
    .have e':a.tmps.getD 24 undef=_:=RA.d 21 rfl;exact qaC
    .have e20:zt a 20 _:=RA.d 17 rfl;have d':a.tmps.getD 25 undef=_:=RA.d 22 rfl;exact qaa
    .have c':a.tmps.getD 26 undef=_:=RA.d 23 rfl;exact qaa
    .have e1:=RA.k 1;exact qae
    .have b':a.tmps.getD 28 undef=_:=RA.d 25 rfl;exact qae
    .have a':a.tmps.getD 29 undef=_:=RA.d 26 rfl;exact qae
    .have Z:zt a 30 _:=RA.d 27 rfl;exact qae
    .have X:zt a 31 _:=RA.d 28 rfl;exact qae
    .have e27:zt a 27 _:=RA.d 24 rfl;have W:zt a 32 _:=RA.d 29 rfl;exact qaa
   .intro win a wr E;have e33:a.tmps.getD 33 undef=.bool false:=E.fact 30 _ zo rfl;exact qgv
  have hd:(z==0)=true:=beq_iff_eq.2 J;by_cases I:OL
  case neg=>
   have K:=zh (show ∀w',m.az w'->_ from fun w' h=>by have:=q.o w' h;rw[aG I]at this;exact this);rw[aG fun h=>I (HX.o.1 h).2.1]at hY;refine bE 31 6 (fun j=>[aI.is (·=.pointer (some ⟨w.heap.size,7,none⟩)),aI.is (·=.slice (some ⟨H,G,none⟩) 1 b4),aI.is (·=.j 1),aI.is (·=.bool true),aI.is (·=.bool true),aI.is (·=.pointer (some ⟨w.heap.size,8,none⟩)),aI.is (·=.slice (some ⟨V,O,none⟩) 1 b5),aI.is (·=.j 1),aI.is (·=.bool true),aI.is (·=.bool true),aI.is (·=.bool true),aI.is (·=.pointer (some ⟨w.heap.size,1,none⟩)),aI.is (·=.agg #[n1,n2,n3,n4,n5,n6]),aI.mem m [13] (fun M u=>∃ui uf ut,u=mW.val ui uf ut/\gJ M ui uf ut mW),aI.is (·=.j z),aI.is (·=.bool true),aI.is (·=.bool true),aI.is (·=.bool true),aI.is (·=.pointer (some ⟨w.heap.size,7,none⟩)),aI.is (·=.slice (some ⟨H,G,none⟩) 1 b4),aI.is (·=.pointer (some ⟨H,G,none⟩)),aI.is (·=.agg #[u1,u2]),aI.is (·=.bool false),aI.is (·=.bool false),aI.is (·=.bool false),aI.is (·=Go.undef),aI.is (·=Go.undef),aI.is (·=Go.undef),aI.is (·=Go.undef),aI.is (·=Go.undef),aI.is (·=.bool false)].getD j aI.any) zk zk ?_ ?_
   .intro i hi o win a wr ho RA;have HO2:=HO.o.dr.aT RA.aF;have y7:=HO2.obj.c 7;have y8:=HO2.obj.c 8;have yl:=HO2.obj.lt;have q1:=HO2.obj.sub (o:=1) (cs:=[n1,n2,n3,n4,n5,n6]) (fun j u g=>by match j,g with|0,g=>exact g|1,g=>exact g|2,g=>exact g|3,g=>exact g|4,g=>exact g|5,g=>exact g|j+6,g=>simp at g);have x1:=azk HO2.az p.o.1;have x2:=azk HO2.az p.o.2.1;have xl:=bzu HO2.az p.o.1;have z1:=azk HO2.az p.o.2.2.1;have z2:=azk HO2.az p.o.2.2.2;have zl:=bzu HO2.az p.o.2.2.1;rcases(show i=0\/i=1\/i=2\/i=3\/i=4\/i=5\/i=6\/i=7\/i=8\/i=9\/i=10\/i=11\/i=12\/i=13\/i=14\/i=15\/i=16\/i=17\/i=18\/i=19\/i=20\/i=21\/i=22\/i=23\/i=24\/i=25\/i=26\/i=27\/i=28\/i=29\/i=30 by omega)with rfl|rfl|rfl|rfl|rfl|rfl|rfl|rfl|rfl|rfl|rfl|rfl|rfl|rfl|rfl|rfl|rfl|rfl|rfl|rfl|rfl|rfl|rfl|rfl|rfl|rfl|rfl|rfl|rfl|rfl|rfl
    .have e1:=RA.k 1;exact qaa
    .have J:zt a 3 _:=RA.d 0 rfl;exact qaa
    .have I:zt a 4 _:=RA.d 1 rfl;exact qaa
    .have e5:zt a 5 _:=RA.d 2 rfl;exact qaa
    .have e6:zt a 6 _:=RA.d 3 rfl;exact qaa
    .have e1:=RA.k 1;exact qad
    .have e8:zt a 8 _:=RA.d 5 rfl;exact qad
    .have e9:zt a 9 _:=RA.d 6 rfl;exact qad
    .have l':a.tmps.getD 10 undef=_:=RA.d 7 rfl;exact qad
    .have e7:zt a 7 _:=RA.d 4 rfl;have k':a.tmps.getD 11 undef=_:=RA.d 8 rfl;exact qaa
    .have j':a.tmps.getD 12 undef=_:=RA.d 9 rfl;exact qaa
    .exact qa4
    .exact qgy
    .exact qgu
    .exact qih
    .exact qgz
    .have e13:zt a 13 _:=RA.d 10 rfl;have i':a.tmps.getD 18 undef=_:=RA.d 15 rfl;exact qaa
    .have h':a.tmps.getD 19 undef=_:=RA.d 16 rfl;exact qaa
    .have e1:=RA.k 1;exact qar
    .have g':a.tmps.getD 21 undef=_:=RA.d 18 rfl;exact qar
    .exact qgQ
    .have f':a.tmps.getD 23 undef=_:=RA.d 20 rfl;exact qar
    .have e':a.tmps.getD 24 undef=_:=RA.d 21 rfl;have e20:zt a 20 _:=RA.d 17 rfl;cases ho;refine we2 rfl rfl rfl e20 (K.o _ HO2.az) ?_;exact qag
    .have e20:zt a 20 _:=RA.d 17 rfl;have d':a.tmps.getD 25 undef=_:=RA.d 22 rfl;exact qaa
    .have c':a.tmps.getD 26 undef=_:=RA.d 23 rfl;exact qaa
    .have e1:=RA.k 1;exact qae
    .have b':a.tmps.getD 28 undef=_:=RA.d 25 rfl;exact qae
    .have a':a.tmps.getD 29 undef=_:=RA.d 26 rfl;exact qae
    .have Z:zt a 30 _:=RA.d 27 rfl;exact qae
    .have X:zt a 31 _:=RA.d 28 rfl;exact qae
    .have e27:zt a 27 _:=RA.d 24 rfl;have W:zt a 32 _:=RA.d 29 rfl;exact qaa
   .intro win a wr E;have e33:a.tmps.getD 33 undef=.bool false:=E.fact 30 _ zo rfl;exact qgv
  .have K:=zh (show ∀w',m.az w'->_ from fun w' h=>by have:=q.o w' h;rw[aN I]at this;exact this);have F':=D;rw[dY (HX.o.trans ⟨fun h=>h.2.2,fun h=>⟨J,I,h⟩⟩)]at hY;generalize tf OS=rr at*
   refine bE 31 6 (fun j=>[aI.is (·=.pointer (some ⟨w.heap.size,7,none⟩)),aI.is (·=.slice (some ⟨H,G,none⟩) 1 b4),aI.is (·=.j 1),aI.is (·=.bool true),aI.is (·=.bool true),aI.is (·=.pointer (some ⟨w.heap.size,8,none⟩)),aI.is (·=.slice (some ⟨V,O,none⟩) 1 b5),aI.is (·=.j 1),aI.is (·=.bool true),aI.is (·=.bool true),aI.is (·=.bool true),aI.is (·=.pointer (some ⟨w.heap.size,1,none⟩)),aI.is (·=.agg #[n1,n2,n3,n4,n5,n6]),aI.mem m [13] (fun M u=>∃ui uf ut,u=mW.val ui uf ut/\gJ M ui uf ut mW),aI.is (·=.j z),aI.is (·=.bool true),aI.is (·=.bool true),aI.is (·=.bool true),aI.is (·=.pointer (some ⟨w.heap.size,7,none⟩)),aI.is (·=.slice (some ⟨H,G,none⟩) 1 b4),aI.is (·=.pointer (some ⟨H,G,none⟩)),aI.is (·=.agg #[u1,u2]),aI.is (·=.bool true),aI.is (·=.bool true),aI.is (·=.bool true),aI.is (·=.pointer (some ⟨w.heap.size,8,none⟩)),aI.is (·=.slice (some ⟨V,O,none⟩) 1 b5),aI.is (·=.pointer (some ⟨V,O,none⟩)),aI.is (·=.agg #[v1,v2]),aI.is (·=.bool rr),aI.is (·=.bool rr)].getD j aI.any) zk zk ?_ ?_
   .intro i hi o win a wr ho RA;have HO2:=HO.o.dr.aT RA.aF;have y7:=HO2.obj.c 7;have y8:=HO2.obj.c 8;have yl:=HO2.obj.lt;have q1:=HO2.obj.sub (o:=1) (cs:=[n1,n2,n3,n4,n5,n6]) (fun j u g=>by match j,g with|0,g=>exact g|1,g=>exact g|2,g=>exact g|3,g=>exact g|4,g=>exact g|5,g=>exact g|j+6,g=>simp at g);have x1:=azk HO2.az p.o.1;have x2:=azk HO2.az p.o.2.1;have xl:=bzu HO2.az p.o.1;have z1:=azk HO2.az p.o.2.2.1;have z2:=azk HO2.az p.o.2.2.2;have zl:=bzu HO2.az p.o.2.2.1;rcases(show i=0\/i=1\/i=2\/i=3\/i=4\/i=5\/i=6\/i=7\/i=8\/i=9\/i=10\/i=11\/i=12\/i=13\/i=14\/i=15\/i=16\/i=17\/i=18\/i=19\/i=20\/i=21\/i=22\/i=23\/i=24\/i=25\/i=26\/i=27\/i=28\/i=29\/i=30 by omega)with rfl|rfl|rfl|rfl|rfl|rfl|rfl|rfl|rfl|rfl|rfl|rfl|rfl|rfl|rfl|rfl|rfl|rfl|rfl|rfl|rfl|rfl|rfl|rfl|rfl|rfl|rfl|rfl|rfl|rfl|rfl
    .have e1:=RA.k 1;exact qaa
    .have J:zt a 3 _:=RA.d 0 rfl;exact qaa
    .have I:zt a 4 _:=RA.d 1 rfl;exact qaa
    .have e5:zt a 5 _:=RA.d 2 rfl;exact qaa
    .have e6:zt a 6 _:=RA.d 3 rfl;exact qaa
    .have e1:=RA.k 1;exact qad
    .have e8:zt a 8 _:=RA.d 5 rfl;exact qad
    .have e9:zt a 9 _:=RA.d 6 rfl;exact qad
    .have l':a.tmps.getD 10 undef=_:=RA.d 7 rfl;exact qad
    .have e7:zt a 7 _:=RA.d 4 rfl;have k':a.tmps.getD 11 undef=_:=RA.d 8 rfl;exact qaa
    .have j':a.tmps.getD 12 undef=_:=RA.d 9 rfl;exact qaa
    .exact qa4
    .exact qgy
    .exact qgu
    .exact qih
    .exact qgz
    .have e13:zt a 13 _:=RA.d 10 rfl;have i':a.tmps.getD 18 undef=_:=RA.d 15 rfl;exact qaa
    .have h':a.tmps.getD 19 undef=_:=RA.d 16 rfl;exact qaa
    .have e1:=RA.k 1;exact qar
    .have g':a.tmps.getD 21 undef=_:=RA.d 18 rfl;exact qar
    .exact qgQ
    .have f':a.tmps.getD 23 undef=_:=RA.d 20 rfl;exact qar
    .have e':a.tmps.getD 24 undef=_:=RA.d 21 rfl;have e20:zt a 20 _:=RA.d 17 rfl;cases ho;refine we2 rfl rfl rfl e20 (K.o _ HO2.az) ?_;exact qag
    .have e20:zt a 20 _:=RA.d 17 rfl;have d':a.tmps.getD 25 undef=_:=RA.d 22 rfl;exact qaa
    .have c':a.tmps.getD 26 undef=_:=RA.d 23 rfl;exact qaa
    .have e1:=RA.k 1;exact qbi
    .have b':a.tmps.getD 28 undef=_:=RA.d 25 rfl;exact qbi
    .have a':a.tmps.getD 29 undef=_:=RA.d 26 rfl;have e27:zt a 27 _:=RA.d 24 rfl;cases ho;refine fT rfl (fC rfl rfl e27) (aS (by go_simp;try (intro hh;omega)) ⟨_,rfl,zR _ _,rfl⟩)
    .have Z:zt a 30 _:=RA.d 27 rfl;exact qbi
    .have X:zt a 31 _:=RA.d 28 rfl;have e27:zt a 27 _:=RA.d 24 rfl;cases ho;refine we2 rfl rfl rfl e27 (F'.o _ HO2.az) ?_;exact qag
    .have e27:zt a 27 _:=RA.d 24 rfl;have W:zt a 32 _:=RA.d 29 rfl;exact qaa
   .intro win a wr E;have e33:a.tmps.getD 33 undef=.bool rr:=E.fact 30 _ zo rfl;exact qgv
 clear HO HCM q D p HX;exact qgP
theorem UK(a0 q p o n m l k j i h g f e d c b a:zV)(w:zW):(Instr.build 35 #[(0,.agg #[a0,q,p,o,n,m,l,k,j]),(1,.agg #[i,h,g,f,e,d,c,b,a])]).run prog w=.ok (.agg #[a0,q,p,o,n,m,l,k,j,i,h,g,f,e,d,c,b,a]) w:=by kernel_rfl
theorem ED{A B:List Value}(b:A.length=9)(a:B.length=9)(w:zW):(Instr.build 35 #[(0,.agg A.toArray),(1,.agg B.toArray)]).run prog w=.ok (.agg (A++B).toArray) w:=by
 match A,b,B,a with
 |[a0,a1,a2,a3,a4,a5,a6,a7,a8],_,[b0,b1,b2,b3,b4,b5,b6,b7,b8],_=>exact UK a0 a1 a2 a3 a4 a5 a6 a7 a8 b0 b1 b2 b3 b4 b5 b6 b7 b8 w
theorem jA{P:Program}{w:zW}{o:Oper}{d:Operand->Value}{t:TypeId}{x y:Operand}{a b r:zV}(c:o.op=Op.build t #[(0,x),(1,y)])(f:d x=a)(e:d y=b)(g:(Instr.build t #[(0,a),(1,b)]).run P w=.ok r w):(execOp d o).run P w=.ok (.value r) w:=by
 simp[execOp,c,f,e,g,Result.andThen]
structure We (n:Nat) (v:Vl):Prop where
 snd:ib n v
 src:rJ n v
 cnt:di n v<=1048576
theorem We.OA{n:Nat}{v u:Vl}(h:We n v)(e:bR n v=some u):kC n u:=⟨(Au n v u h.snd e).1,Rf n v u h.snd h.src e,yJ (uy n v u h.snd e) h.cnt⟩
def Kq(n:Nat)(d:Vd):Prop:=We n d.1/\We n d.2
theorem We.kids{n:Nat}{v:Vl}(h:We (n+1) v):∀d∈v.kids,Kq n d:=fun d hd=>by
 have h1:=h.snd.2 d hd;have h2:=h.src.2 d hd;exact qhn
def CnR(n:Nat)(v:Vl)(M:Mem)(e:Ending):Prop:=match bR n v with
 |some u=>∃s,e=.returned (.tuple #[u.val s,.bool true])/\aY M n s u
 |none=>e=.returned (.tuple #[.agg FV,.bool false])
def CnH(n:Nat):Prop:=∀(v:Vl) (s:Sl) (m:Mem) (w:zW),m.az w->eD m->aY m n s v->We n v->zC 55 #[v.val s] w fun e w'=>zB w w'/\CnR n v (m.grow w w') e
def ezS(n:Nat)(d:Vd)(M:Mem)(e:Ending):Prop:=∃cs:List Value,cs.length=18/\(∀u∈cs,u.oneCell'=true)/\match fO (bR n) (df n) d with
 |some u=>e=.returned (.tuple #[.agg cs.toArray,.bool true])/\∃x y,cs=dw u x y/\aY M n x u.1/\aY M n y u.2
 |none=>e=.returned (.tuple #[.agg cs.toArray,.bool false])
theorem CnR.cells{n:Nat}{v:Vl}{M:Mem}{e:Ending}(h:CnR n v M e):∃(N:List Value) (b:Bool),e=.returned (.tuple #[.agg N.toArray,.bool b])/\N.length=9/\(∀u∈N,u.oneCell'=true)/\b=(bR n v).isSome/\∀u,bR n v=some u->∃s,N=aZ u s/\aY M n s u:=by
 unfold CnR at h
 cases hc:bR n v with
 |some u=>
  rw[hc]at h;obtain⟨s,rfl,k⟩:=h
  exact⟨aZ u s,true,rfl,rfl,CL k,rfl,fun z a=>by cases a;exact⟨s,rfl,k⟩⟩
 |none=>
  rw[hc]at h;exact⟨FV.toList,false,h,rfl,by simp[Value.oneCell'],rfl,fun z a=>by cases a⟩
theorem pW{n:Nat}(H:CnH n)(d:Vd)(x y:Sl)(m:Mem)(w:zW)(hm:m.az w)(l:eD m)(h1:aY m n x d.1)(h2:aY m n y d.2)(k:Kq n d):
 zC 36 #[bQ d x y] w fun e w'=>zB w w'/\ezS n d (m.grow w w') e:=by
 have p:=((Own.start hm).al (dw d x y).toArray 35).al lZ 35;simp only[bB]at p;have S:=zh (H d.1 x m _ p.az l h1 k.1);have Q:=zh (fun(M:Mem) w' (h:M.az w') (g:m.le M)=>H d.2 y M w' h (l.le g) (h2.le g) k.2);have HB:=zh (fun(a b:Vl) s T (M:Mem) w' (h:M.az w') (ht:eD M) (k1:aY M n s b) (k2:aY M n T a) (V:bR n d.1=some a) (U:bR n d.2=some b)=>qH n b a s T M w' h ht k1 k2 (k.2.OA U) (k.1.OA V));have HT:=zh l;have hN:(aZ d.1 x).length=9:=rfl;have v':(aZ d.2 y).length=9:=rfl;have HD:=zh qhN;have O:=zh p;unfold Vl.val at S Q;unfold bQ;have q0:=p.av.obj.sub (o:=0) (cs:=aZ d.1 x) fun j u hj=>by simpa using HD.o.1 j u hj
 generalize aZ d.1 x=N at*
 generalize aZ d.2 y=N2 at*
 generalize dw d x y=D at*
 clear p h1 h2 k l;refine au fun R hR=>?_
 go_enter func36,ntmps36
 go_wp2_with (first
  |refine aj jI rfl (.tmp 9) rfl rfl N hN q0 ?_
  | fail)
 refine S.o.mono ?_;rintro e w1 ⟨i',J⟩;obtain⟨A,ba,rfl,la,oa,n',ha⟩:=J.cells;have l':=(O.o.call i').al FV 33;have L:=zh l';have HA:=zh (zi n' ha);clear O S i' J l' q0 n' ha
 go_wp2_with (first
  |(refine aA jI rfl (.tmp 4) (.tmp 12) rfl (cs:=A.toArray) rfl rfl rfl (by simpa using la) (fun u hu=>oa u qdL) L.o.obj ?_;intro w2 Z g';have i:=L.o.aQ Z g';have q1:=i.aR.obj.sub (o:=9) (cs:=N2) fun j u hj=>by simpa using HD.o.2 j u hj)
  |refine aj jI rfl (.tmp 15) rfl rfl N2 v' q1 ?_
  | fail)
 refine(Q.o _ _ i.az i.ext.le).mono ?_;rintro e W ⟨h',J⟩;obtain⟨B,bb,rfl,lb,ob,m',hb⟩:=J.cells;have k':=i.call h';have r:=bzx (w:=W) i.az;have HM:=zh (zi (Mem.le_trans i.ext.le r) (zi (fun u (hu:bR n d.1=some u)=>by obtain⟨s,e,h⟩:=HA.o.2 u hu;exact(⟨s,e,h.le r⟩:∃s,A=aZ u s/\aY _ n s u)) hb));have HE:=zh (zi HA.o.1 m');have K:=zh (k'.al FV 33);clear L HA i Z g' h' J k' r hb m' q1 Q HD
 go_wp2_with (first
  |(refine aA jI rfl (.tmp 6) (.tmp 18) rfl (cs:=B.toArray) rfl rfl rfl (by simpa using lb) (fun u hu=>ob u qdL) K.o.obj ?_;intro w4 X f';have o':=zh (K.o.aQ X f'))
  | fail)
 obtain⟨C,p,g,hA,hB⟩:∃C,Own w m w4 C [.obj W.heap.size 33 B.toArray,.obj w1.heap.size 33 A.toArray,.obj (w.heap.size+1) 35 lZ,.obj w.heap.size 35 D.toArray]/\m.le C/\(∀u,bR n d.1=some u->∃s,A=aZ u s/\aY C n s u)/\∀u,bR n d.2=some u->∃s,B=aZ u s/\aY C n s u:=⟨_,o'.o,HM.o⟩;have O:=zh p;have HR:=zh (zi hA hB);obtain⟨F,e'⟩:∃F,F=(fO (bR n) (df n) d).isSome:=⟨_,rfl⟩;have E:=zh e';have G:=zh (fun(a b:Vl) w' (h:C.az w') (V:bR n d.1=some a) (U:bR n d.2=some b)=>show zC 32 #[.agg B.toArray,.agg A.toArray] w' fun e I=>e=.returned (.bool (tf (df n b a)))/\Below w'.heap.size w' I from by
  obtain⟨s,e3,k1⟩:=hA a V;obtain⟨T,e4,k2⟩:=hB b U;rw[e3,e4];exact HB.o a b T s C w' h (HT.o.le g) k2 k1 V U)
 clear K o' HM X f' p hA hB e' HB HT;refine aW [2,3] (fun vs w'=>vs=[.p (w.heap.size+1),.bool F]/\Own w m w' C [.obj (w.heap.size+1) 35 (A++B).toArray]) ?_ ?_
 .intro Y hY
  cases hca:bR n d.1 with
  |none=>
   obtain rfl:ba=false:=by rw[HE.o.1,hca];rfl
   obtain rfl:F=false:=by rw[E.o];unfold fO;rw[hca];rfl
   refine jX (fun w'=>bg w' W.heap.size 33 B.toArray/\bg w' w1.heap.size 33 A.toArray) 13 zk ?_;have f:=O.o.dr;have c:=zi f.obj f.av.obj;refine aL 0 rfl zk qe7 c qhQ ?_;go_simp;refine aL 1 rfl zk qe7 c qhP ?_;go_simp;refine aL 2 rfl zk qe7 c qhT ?_;go_simp;refine aL 3 rfl zk qe7 c qfj ?_;go_simp;refine aL 4 rfl zk qe7 c qfj ?_;go_simp;refine aL 5 rfl zk qe7 c (.inr ⟨rfl,rfl⟩) ?_;go_simp;refine aL 6 rfl zk qe7 c qfj ?_;go_simp;refine aL 7 rfl zk qe7 c qfj ?_;go_simp;refine aL 8 rfl zk qe7 c (.inr ⟨rfl,rfl⟩) ?_;go_simp;refine aL 9 rfl zk qe7 c (.inr ⟨rfl,rfl⟩) ?_;go_simp;refine aL 10 rfl zk qe7 c (.inr ⟨rfl,rfl⟩) ?_;go_simp;refine aL 11 rfl zk qe7 c qfj ?_;go_simp;refine bG 12 zk (aM rfl rfl (kF ek (.tmp 2) (.tmp 22) rfl (cs:=(A++B).toArray) zg zg rfl qeO (fun u hu=>by rcases yP.1 qdL with h|h<;>first|exact oa u h|exact ob u h) f.aR.obj fun w5 q t=>?_));have hO7:=f.aR.aQ q t;refine pX qia fun j'=>?_;go_simp;refine bG 13 zk (aM rfl rfl (aS qdK (sw rfl ?_)));refine jY zk ?_ _
   exact qcF
  |some va=>cases hcb:bR n d.2 with
   |none=>
    obtain rfl:ba=true:=by rw[HE.o.1,hca];rfl
    obtain rfl:bb=false:=by rw[HE.o.2,hcb];rfl
    obtain rfl:F=false:=by rw[E.o];unfold fO;rw[hca,hcb];rfl
    refine jX (fun w'=>bg w' W.heap.size 33 B.toArray/\bg w' w1.heap.size 33 A.toArray) 13 zk ?_;have f:=O.o.dr;have c:=zi f.obj f.av.obj;refine aL 0 rfl zk qe7 c qhQ ?_;go_simp;refine aL 1 rfl zk qe7 c qhP ?_;go_simp;refine aL 2 rfl zk qe7 c qhT ?_;go_simp;refine aL 3 rfl zk qe7 c qfj ?_;go_simp;refine aL 4 rfl zk qe7 c qfj ?_;go_simp;refine aL 5 rfl zk qe7 c qfj ?_;go_simp;refine aL 6 rfl zk qe7 c qfj ?_;go_simp;refine aL 7 rfl zk qe7 c qfj ?_;go_simp;refine aL 8 rfl zk qe7 c (.inr ⟨rfl,rfl⟩) ?_;go_simp;refine aL 9 rfl zk qe7 c (.inr ⟨rfl,rfl⟩) ?_;go_simp;refine aL 10 rfl zk qe7 c (.inr ⟨rfl,rfl⟩) ?_;go_simp;refine aL 11 rfl zk qe7 c qfj ?_;go_simp;refine bG 12 zk (aM rfl rfl (kF ek (.tmp 2) (.tmp 22) rfl (cs:=(A++B).toArray) zg zg rfl qeO (fun u hu=>by rcases yP.1 qdL with h|h<;>first|exact oa u h|exact ob u h) f.aR.obj fun w5 q t=>?_));have hO7:=f.aR.aQ q t;refine pX qia fun j'=>?_;go_simp;refine bG 13 zk (aM rfl rfl (aS qdK (sw rfl ?_)));refine jY zk ?_ _
    exact qcF
   |some vb=>
    obtain rfl:ba=true:=by rw[HE.o.1,hca];rfl
    obtain rfl:bb=true:=by rw[HE.o.2,hcb];rfl
    have E':=zh (show ∀w',C.az w'->zC 32 #[.agg B.toArray,.agg A.toArray] w' fun e I=>e=.returned (.bool F)/\Below w'.heap.size w' I from fun w' h=>by
     have:=G.o va vb w' h hca hcb;have e:F=tf (df n vb va):=by
      rw[E.o];unfold fO;rw[hca,hcb];by_cases g:df n vb va
      .simp[aN g]
      .simp[aG g]
     rw[e];exact this)
    refine jX (fun w'=>bg w' W.heap.size 33 B.toArray/\bg w' w1.heap.size 33 A.toArray) 13 zk ?_;have f:=O.o.dr;have c:=zi f.obj f.av.obj;refine aL 0 rfl zk qe7 c qhQ ?_;go_simp;refine aL 1 rfl zk qe7 c qhP ?_;go_simp;refine aL 2 rfl zk qe7 c qhT ?_;go_simp;refine aL 3 rfl zk qe7 c qfj ?_;go_simp;refine aL 4 rfl zk qe7 c qfj ?_;go_simp;refine aL 5 rfl zk qe7 c qfj ?_;go_simp;refine aL 6 rfl zk qe7 c qfj ?_;go_simp;refine aL 7 rfl zk qe7 c qfj ?_;go_simp;refine aL 8 rfl zk qe7 c qhP ?_;go_simp;refine aL 9 rfl zk qe7 c qhQ ?_;go_simp;refine bG 10 zk (fT rfl rfl (fP zg (E'.o _ f.az) ?_));rintro e w6 ⟨rfl,u'⟩;have z:=f.aT u';refine⟨_,rfl,pX (zi z.obj z.av.obj) fun c=>?_⟩;go_simp;refine aL 11 rfl zk qe7 c qfj ?_;go_simp;refine bG 12 zk (aM rfl rfl (kF ek (.tmp 2) (.tmp 22) rfl (cs:=(A++B).toArray) zg zg rfl qeO (fun u hu=>by rcases yP.1 qdL with h|h<;>first|exact oa u h|exact ob u h) z.aR.obj fun w5 q t=>?_));have hO7:=z.aR.aQ q t;refine pX qia fun j'=>?_;go_simp;refine bG 13 zk (aM rfl rfl (aS qdK (sw rfl ?_)));refine jY zk ?_ _;exact qcF
 clear O G;rintro z1 vs w5-⟨rfl,p⟩;simp[bz,lk];have J:=ek.load (P:=prog) (cs:=A++B) qeO p.obj.all;have HF:=zh (zi p.aF p.done);clear p;go_wp2;refine yV (v:=.tuple #[.agg (A++B).toArray,.bool F]) (dz results36 rfl J) rfl ?_;refine hR.o _ _ ⟨HF.o.1,A++B,by simp[la,lb],fun u hu=>by rcases yP.1 hu with h|h<;>first|exact oa u h|exact ob u h,?_⟩;have h:=E.o
 cases hc:fO (bR n) (df n) d with
 |none=>rw[hc]at h;rw[h];rfl
 |some u=>
  rw[hc]at h;rw[h];obtain⟨V,U,-⟩:=Aq hc;obtain⟨s,e3,k1⟩:=HR.o.1 _ V;obtain⟨T,e4,k2⟩:=HR.o.2 _ U;exact⟨rfl,s,T,by rw[e3,e4];rfl,k1.le HF.o.2,k2.le HF.o.2⟩
theorem ezS.cells{n:Nat}{d:Vd}{M:Mem}{e:Ending}(h:ezS n d M e):∃(cs:List Value) (ok:Bool),e=.returned (.tuple #[.agg cs.toArray,.bool ok])/\cs.length=18/\(∀u∈cs,u.oneCell'=true)/\ok=(fO (bR n) (df n) d).isSome/\∀u,fO (bR n) (df n) d=some u->∃x y,cs=dw u x y/\aY M n x u.1/\aY M n y u.2:=by
 obtain⟨cs,c,b,a⟩:=h
 cases hc:fO (bR n) (df n) d with
 |none=>rw[hc]at a;exact⟨cs,false,a,c,b,rfl,fun u g=>by cases g⟩
 |some u=>rw[hc]at a;exact⟨cs,true,a.1,c,b,rfl,fun v f=>by cases f;exact a.2⟩
theorem Kq.OA{n:Nat}{d e:Vd}(h:Kq n d)(k:fO (bR n) (df n) d=some e):vW n e:=⟨h.1.OA (Aq k).1,h.2.OA (Aq k).2.1⟩
theorem kC.bot{n:Nat}{v:Vl}{x:Sl}{m:Mem}{w:zW}(h:kC n v)(d:m.az w)(a:eD m)(c:aY m n x v):
 zX 16 #[.agg (aZ v x).toArray] w (.bool (iP v)):=by
 cases n with
 |zero=>exact c.elim
 |succ n=>
  have b:=h.fit.1;exact FC v x m (n+1) w d a c ⟨by have:=b.i;omega,by have:=b.fr;omega,by have:=b.t;omega⟩ (by have:=b.l;omega) (by have:=b.s;omega)
theorem oo{P:Program}{c:Func}{k i j:Nat}{t:TypeId}{a:Array Value}{w:zW}{v:zV}{b:Addr}(hf:c.results=#[.cell k t,.tmp i,.tmp j])(hk:a.getD k undef=.pointer (some b))(hr:(loadVar t b).run P w=.ok v w):(results c a).run P w=.ok (.tuple #[v,a.getD i undef,a.getD j undef]) w:=by
 exact qdv
def YH(n:Nat)(c:Lc)(M:Mem)(e:Ending):Prop:=match lC (bR n) (df n) c with
 |some y=>∃u a,e=.returned (.tuple #[.agg #[u,a],.bool y.2,.bool true])/\bD (aY M n) M u y.1.1/\bD (aY M n) M a y.1.2
 |none=>e=.returned (.tuple #[.agg #[.slice none 0 0,.slice none 0 0],.bool false,.bool false])
theorem EB{n:Nat}(H:CnH n)(c:Lc)(u u2:zV)(m:Mem)(w:zW)(hm:m.az w)(Z:eD m)(h1:bD (aY m n) m u c.1)(h2:bD (aY m n) m u2 c.2)(k:∀d∈aX c,Kq n d)(r':(aX c).length<=1048576):
 zC 80 #[.agg #[u,u2]] w fun e w'=>zB w w'/\YH n c (m.grow w w') e:=by
 obtain⟨a1,c1,rfl,p1,q1,V⟩:=h1;obtain⟨a2,c2,rfl,p2,q2,k2⟩:=h2;unfold maxLen at q1 q2;have hl1:c.1.length+c.2.length<=1048576:=by rw[<-zL];exact r'
 have a:=((((Own.start hm).al #[.slice a1 c.1.length c1,.slice a2 c.2.length c2] 50).al #[.slice none 0 0,.slice none 0 0] 50).al #[.slice none 0 0,.slice none 0 0] 50).fE 35 18;simp only[bB]at a;have g0:=a.bV.obj.c 0;have gl:=a.bV.obj.lt;have G:=zh a;have HK:=zh (zi V k2);have HH:=zh (zi Z k);have HCV:=zh (fun(M:Mem) (d:Vd) x y w' (h:M.az w') (g:m.le M) (V:aY M n x d.1) (k2:aY M n y d.2) (kd:Kq n d)=>pW H d x y M w' h (Z.le g) V k2 kd);obtain⟨cf,W'⟩:∃cf,cf=fO (bR n) (df n):=⟨_,rfl⟩;have HCF:=zh W';clear a V k2 Z k H r' W';refine au fun R hR=>?_
 go_enter func80,ntmps80
 go_wp2;refine aB [1,2,5,6,16,17,18] (fun q vs wr=>∃(i:Nat) (J:Mem) (rv:zV) (xs:List Value) (es:List Vd),i<=c.1.length/\q=c.1.length-i/\vs=[.p w.heap.size,.p (w.heap.size+1),.p (w.heap.size+1+1),.bool (es.all fun d => !iP d.1),.slice a1 c.1.length c1,.j (c.1.length:Int),.j (i:Int)]/\eZ cf (c.1.take i)=some es/\kK (aY J n) xs es/\m.le J /\
  Own w m wr J [.row rv 35 18 es.length xs,.obj (w.heap.size+1+1) 50 #[rv,.slice none 0 0],.obj (w.heap.size+1) 50 #[.slice none 0 0,.slice none 0 0],.obj w.heap.size 50 #[.slice a1 c.1.length c1,.slice a2 c.2.length c2]]) ?_ ?_
 .exact⟨_,0,m,_,[],[],zG _,rfl,rfl,rfl,.nil _,Mem.le_refl _,G.o⟩
 clear G g0 gl;rintro X z q vs wr hX-⟨i,J,rv,xs,es,hi,rfl,rfl,he,hv,g,a⟩;simp[bz,lk];have p:=zh (zi he (zi hv g));have U:=gP he;rw[List.length_take,Nat.min_eq_left hi]at U;have hel2:es.length<=1048576:=zo;have HEL:=zh U;clear U;clear he hv g;by_cases hlt:i<c.1.length
 case neg=>
  obtain rfl:i=c.1.length:=zo;have HE1:=zh (show eZ cf c.1=some es from by have:=p.o.1;rwa [yG]at this);obtain⟨bl,F'⟩:∃b,b=es.all fun d => !iP d.1:=⟨_,rfl⟩;rw[<-F'];have o':=zh F';have g0:=a.bV.obj.c 1;have gl:=a.bV.obj.lt;have G:=zh ((a.fE 35 18).sub (.cons_cons _ (.cons_cons _ (.cons_cons _ (.cons_cons _ (List.nil_sublist _))))));have L':=zh p.o.2;clear a hX p HEL F' hlt hi;go_wp2;refine aB [2,5,6,45,46,47] (fun q vs wr=>∃(i:Nat) (J:Mem) (k':zV) (ys:List Value) (I:List Vd),i<=c.2.length/\q=c.2.length-i/\vs=[.p (w.heap.size+1),.p (w.heap.size+1+1),.bool bl,.slice a2 c.2.length c2,.j (c.2.length:Int),.j (i:Int)]/\eZ cf (c.2.take i)=some I/\kK (aY J n) ys (I.filter fun d => !iP d.1)/\kK (aY J n) xs es/\m.le J /\
   Own w m wr J [.row k' 35 18 (I.filter fun d => !iP d.1).length ys,.row rv 35 18 es.length xs,.obj (w.heap.size+1+1) 50 #[rv,k'],.obj (w.heap.size+1) 50 #[.slice none 0 0,.slice none 0 0]]) ?_ ?_
  .exact⟨_,0,J,_,[],[],zG _,rfl,rfl,rfl,.nil _,L'.o.1,L'.o.2,G.o⟩
  clear G g0 gl L';rintro X z q vs wr hX-⟨i,J,k',ys,I,hi,rfl,rfl,he,hv,T',g,a⟩;simp[bz,lk];have p:=zh (zi he (zi hv (zi T' g)));have U:=gP he;rw[List.length_take,Nat.min_eq_left hi]at U;have hfl:=vB (fun d:Vd => !iP d.1) I;have hfl2:(I.filter fun d => !iP d.1).length<=1048576:=zo;clear he hv T' g U hfl;by_cases hlt:i<c.2.length
  case neg=>
   obtain rfl:i=c.2.length:=zo;have HCN:=zh (show lC (bR n) (df n) c=some ((es,I.filter fun d => !iP d.1),bl) from by
    have h2:=p.o.1;rw[yG]at h2;unfold lC;rw[<-HCF.o,HE1.o,h2,o'.o];rfl)
   obtain⟨z',u',rfl⟩:=bv a.row;obtain⟨A',v',rfl⟩:=bv a.av.row;have y0:=a.aR.obj.c 0;have y1:=a.aR.obj.c 1;have yl:=a.aR.obj.lt;have G:=zh a;clear a hX
   go_wp2_with (refine aA EU rfl (.tmp 2) (.tmp 70) rfl (cs:=#[.slice A' es.length v',.slice z' (I.filter fun d => !iP d.1).length u']) rfl rfl rfl rfl qdN G.o.bV.obj ?_)
   intro w5 s K;have hr:=EU.load (P:=prog) (cs:=[.slice A' es.length v',.slice z' (I.filter fun d => !iP d.1).length u']) rfl s.all;have E:=(G.o.bV.aQ s K);have hA:=E.tail;have HF:=zh (zi E.aF (zi (bD.GQ (m:=m.grow w w5) hA.av.row (p.o.2.2.1) hA.av.free hA.av.bP.done) (bD.GQ (m:=m.grow w w5) hA.row p.o.2.1 hA.free hA.bP.done)));clear G E hA s K y0 y1 yl;go_wp2;refine yV (v:=.tuple #[.agg #[.slice A' es.length v',.slice z' (I.filter fun d => !iP d.1).length u'],.bool bl,.bool true]) (oo results80 rfl hr) rfl ?_;refine hR.o _ _ ⟨HF.o.1,?_⟩;unfold YH;rw[HCN.o];exact⟨_,_,rfl,HF.o.2.1,HF.o.2.2⟩
  obtain⟨b,off,rfl,h4⟩:=HK.o.2 qdJ;obtain⟨x,y,hc,hx,hy⟩:=(h4 i hlt).cells;have g:=p.o.2.2.2;have A:=bzw g a.az;have hcl:=bzu A (hc 0 _ rfl);have HC:=zh (fun j u hj=>azk A (hc j u hj));have h1:=fG hx hy;have hl:(dw c.2[i] x y).length=18:=rfl;have HD:=zh (HH.o.2 _ (lS hlt));have O:=zh (fun w' (h:J.az w')=>HCV.o J c.2[i] x y w' h g (hx.le g) (hy.le g) HD.o);have HT:=zh (show eZ cf (c.2.take (i+1))=(cf c.2[i]).map fun y=>I++[y] from by rw[qF hlt,p.o.1];rfl);have S:=zh (show cf c.2[i]=none->lC (bR n) (df n) c=none from fun h=>by
   unfold lC;rw[<-HCF.o,HE1.o,lN (zF hlt) h];rfl)
  have G:=zh (a.al lZ 35);unfold bQ at O;generalize dw c.2[i] x y=D at*
  generalize c.2[i]=d at*
  clear a h4 hc hx hy A g
  go_wp2_with (first
   |refine aj ek rfl (.tmp 49) rfl rfl D hl HC.o ?_
   |(refine aA ek rfl (.tmp 12) (.tmp 50) rfl (cs:=D.toArray) rfl rfl rfl qdR (fun u hu=>h1 u qdL) G.o.obj ?_;intro w2 W e';have hO2:=G.o.aQ W e';have q1:=hO2.obj.all)
   |refine aj ek rfl (.tmp 12) rfl rfl D hl q1 ?_
   | fail)
  refine(O.o _ hO2.az).mono ?_;rintro e w3 ⟨g',hr⟩;obtain⟨cs,ok,rfl,sW,L,F,hcs⟩:=hr.cells;rw[<-HCF.o]at F hcs;have T:=zh qiv;have l:=zh ((hO2.call g').tail.al lZ 35);clear G hO2 g' hr O q1 W e' HC h1 hcs
  cases hcd:cf d with
  |none=>
   obtain rfl:ok=false:=by rw[F,hcd];rfl
   have J':=zh (S.o hcd);clear S HT p T hcd F
   go_wp2_with (first
    |(refine aA ek rfl (.tmp 13) (.tmp 54) rfl (cs:=cs.toArray) rfl rfl rfl qhG (fun u hu=>L u qdL) l.o.obj ?_;intro w4 t B;have r:=l.o.aQ t B)
    | refine aA EU rfl (.tmp 2) (.tmp 58) rfl (cs:=#[.slice none 0 0,.slice none 0 0]) rfl rfl rfl rfl zD r.fifth.obj ?_)
   intro w5 s K;have hr:=EU.load (P:=prog) (cs:=[.n,.n]) rfl s.all;have HB:=zh (r.fifth.aQ s K).aF;clear l r t B s K;go_wp2;refine yV (v:=.tuple #[.agg #[.slice none 0 0,.slice none 0 0],.bool false,.bool false]) (oo results80 rfl hr) rfl ?_
   exact hR.o _ _ ⟨HB.o,by unfold YH;rw[J'.o]⟩
  |some e=>
   obtain rfl:ok=true:=by rw[F,hcd];rfl
   obtain⟨x',y',h',V,k2⟩:=T.o.2 e hcd;have s':=zh (HD.o.OA qel);have HBT:=zh (fun w' (h:(J.grow w2 w3).az w')=>s'.o.1.bot h (HH.o.1.le (Mem.le_trans p.o.2.2.2 T.o.1)) V);have f:=zh (zi (show eZ cf (c.2.take (i+1))=some (I++[e]) from by rw[HT.o,hcd];rfl) (zi (p.o.2.1.mono fun _ _ h=>h.le T.o.1) (zi (p.o.2.2.1.mono fun _ _ h=>h.le T.o.1) (zi (Mem.le_trans p.o.2.2.2 T.o.1) ((p.o.2.1.mono fun _ _ h=>h.le T.o.1).push V k2)))));have Q:=zh (fun j u hj=>@ku e x' y' j u hj);have l':(aZ e.1 x').length=9:=rfl;have n':=zh (show(I++[e]).filter (fun d => !iP d.1)=(I.filter fun d => !iP d.1)++if iP e.1 then[]else[e] from by
    rw[List.filter_append];cases h:iP e.1<;>simp[h])
   rw[<-h']at f Q;generalize aZ e.1 x'=N at*
   clear S HT p T hcd F h' V k2 s';generalize iP e.1=be at*
   generalize J.grow w2 w3=i' at*
   go_wp2_with (first
    |(refine aA ek rfl (.tmp 13) (.tmp 54) rfl (cs:=cs.toArray) rfl rfl rfl qhG (fun u hu=>L u qdL) l.o.obj ?_;intro w4 t B;have r:=l.o.aQ t B;have q1:=r.obj.sub (o:=0) (cs:=N) (fun j u hj=>by simpa using Q.o j u hj))
    |refine aj jI rfl (.tmp 59) rfl rfl N l' q1 ?_
    | fail)
   refine(HBT.o _ r.az).mono ?_;rintro e5 w5 ⟨rfl,hb5⟩;have E:=r.aT hb5;clear l r hb5 q1 t B HBT Q
   cases be with
   |true=>
    have e6:(I++[e]).filter (fun d => !iP d.1)=I.filter fun d => !iP d.1:=by rw[n'.o];simp
    have HQ:=zh (zi e6 E.tail);clear E e6 n';go_wp2
    exact hX.o _ _ _ zo rfl ⟨i+1,i',_,_,I++[e],zo,rfl,rfl,f.o.1,by rw[HQ.o.1];exact f.o.2.1,f.o.2.2.1,f.o.2.2.2.1,by rw[HQ.o.1];exact HQ.o.2⟩
   |false=>
    have e6:(I++[e]).filter (fun d => !iP d.1)=(I.filter fun d => !iP d.1)++[e]:=by rw[n'.o];simp
    have HQ:=zh e6;have y0:=E.bV.obj.c 1;have yl:=E.bV.obj.lt;have q1:=E.obj.all;have G:=zh E;clear E e6 n';generalize V':(I.filter fun d => !iP d.1)=RS at*
    have HRS:=zh V';clear V'
    go_wp2_with (first
     |refine aj ek rfl (.tmp 13) rfl rfl cs sW q1 ?_
     |(refine fU jN ek qh rfl zo rfl (.tmp 65) rfl (cs:=cs.toArray) rfl qhG ?_;have HO7:=zh (G.o.al cs.toArray 35))
     | (at_builtin;refine aU jN rfl (.tmp 64) (.tmp 66) rfl k' RS.length ys rfl HO7.o.aR.row ⟨w5.heap.size,0,none⟩ 1 1 cs rfl sW qe2 L qdM zo ?_))
    intro va vc w8 c' d' a';have C:=(HO7.o.aR.app c' d' a' zS).bM.bM;have y0:=C.aR.obj.c 1;have yl:=C.aR.obj.lt;have yf:=C.aR.obj.frozen 1;have K':=zh (C.aR.set 1 (.slice va (RS.length+1) vc)).aR.aR;clear G HO7 C c' d' a' q1;go_wp2;exact hX.o _ _ _ zo rfl ⟨i+1,i',_,_,I++[e],zo,rfl,rfl,f.o.1,by rw[HQ.o];exact f.o.2.2.2.2,f.o.2.2.1,f.o.2.2.2.1,by rw[HQ.o];simpa using K'.o⟩
 obtain⟨b,off,rfl,h4⟩:=HK.o.1 qdJ;obtain⟨x,y,hc,hx,hy⟩:=(h4 i hlt).cells;have A:=bzw p.o.2.2 a.az;have hcl:=bzu A (hc 0 _ rfl);have HC:=zh (fun j u hj=>azk A (hc j u hj));have h1:=fG hx hy;have hl:(dw c.1[i] x y).length=18:=rfl;have HD:=zh (HH.o.2 _ (mJ hlt));have O:=zh (fun w' (h:J.az w')=>HCV.o J c.1[i] x y w' h p.o.2.2 (hx.le p.o.2.2) (hy.le p.o.2.2) HD.o);have HT:=zh (show eZ cf (c.1.take (i+1))=(cf c.1[i]).map fun y=>es++[y] from by rw[qF hlt,p.o.1];rfl);have S:=zh (show cf c.1[i]=none->lC (bR n) (df n) c=none from fun h=>by
  unfold lC;rw[<-HCF.o,lN (zF hlt) h];rfl)
 have G:=zh (a.al lZ 35);unfold bQ at O;generalize dw c.1[i] x y=D at*
 generalize c.1[i]=d at*
 clear a h4 hc hx hy A
 go_wp2_with (first
  |refine aj ek rfl (.tmp 20) rfl rfl D hl HC.o ?_
  |(refine aA ek rfl (.tmp 8) (.tmp 21) rfl (cs:=D.toArray) rfl rfl rfl qdR (fun u hu=>h1 u qdL) G.o.obj ?_;intro w2 W e';have hO2:=G.o.aQ W e';have q1:=hO2.obj.all)
  |refine aj ek rfl (.tmp 8) rfl rfl D hl q1 ?_
  | fail)
 refine(O.o _ hO2.az).mono ?_;rintro e w3 ⟨g',hr⟩;obtain⟨cs,ok,rfl,sW,L,F,hcs⟩:=hr.cells;rw[<-HCF.o]at F hcs;have T:=zh qiv;have l:=zh ((hO2.call g').tail.al lZ 35);clear G hO2 g' hr O q1 W e' HC h1 hcs
 cases hcd:cf d with
 |none=>
  obtain rfl:ok=false:=by rw[F,hcd];rfl
  have J':=zh (S.o hcd);clear S HT p T hcd F
  go_wp2_with (first
   |(refine aA ek rfl (.tmp 9) (.tmp 25) rfl (cs:=cs.toArray) rfl rfl rfl qhG (fun u hu=>L u qdL) l.o.obj ?_;intro w4 t B;have r:=l.o.aQ t B)
   | refine aA EU rfl (.tmp 2) (.tmp 29) rfl (cs:=#[.slice none 0 0,.slice none 0 0]) rfl rfl rfl rfl zD r.bV.obj ?_)
  intro w5 s K;have hr:=EU.load (P:=prog) (cs:=[.n,.n]) rfl s.all;have HB:=zh (r.bV.aQ s K).aF;clear l r t B s K;go_wp2;refine yV (v:=.tuple #[.agg #[.slice none 0 0,.slice none 0 0],.bool false,.bool false]) (oo results80 rfl hr) rfl ?_
  exact hR.o _ _ ⟨HB.o,by unfold YH;rw[J'.o]⟩
 |some e=>
  obtain rfl:ok=true:=by rw[F,hcd];rfl
  obtain⟨x',y',h',V,k2⟩:=T.o.2 e hcd;have o':=zh (HD.o.OA qel);have f:=zh (zi (show eZ cf (c.1.take (i+1))=some (es++[e]) from by rw[HT.o,hcd];rfl) (zi ((p.o.2.1.mono fun _ _ h=>h.le T.o.1).push V k2) (Mem.le_trans p.o.2.2 T.o.1)));have HBT:=zh (fun w' (h:(J.grow w2 w3).az w')=>o'.o.1.bot h (HH.o.1.le (Mem.le_trans p.o.2.2 T.o.1)) V);have Q:=zh (fun j u hj=>@ku e x' y' j u hj);have l':(aZ e.1 x').length=9:=rfl;rw[<-h']at f Q;generalize aZ e.1 x'=N at*
  obtain⟨m',f'⟩:∃b,b=((es++[e]).all fun d => !iP d.1):=⟨_,rfl⟩;have M':=zh (show m'=((es.all fun d => !iP d.1) && !iP e.1)by rw[f'];simp);have HB2:=zh f';clear S HT p T hcd F h' V k2 o' f';generalize (es.all fun d => !iP d.1)=bl at*
  generalize iP e.1=be at*
  generalize J.grow w2 w3=i' at*
  go_upto_region 9 with(first
   | (refine aA ek rfl (.tmp 9) (.tmp 25) rfl (cs:=cs.toArray) rfl rfl rfl qhG (fun u hu=>L u qdL) l.o.obj ?_;intro w4 t B;have HO4:=zh (l.o.aQ t B);clear l t B))
  refine aW [1,2,5,6,9,16,17,18] (fun vs w'=>vs=[.p w.heap.size,.p (w.heap.size+1),.p (w.heap.size+1+1),.bool m',.p w3.heap.size,.slice (some ⟨b,off,none⟩) c.1.length c1,.j (c.1.length:Int),.j (i:Int)] /\
   Own w m w' i' [.obj w3.heap.size 35 cs.toArray,.row rv 35 18 es.length xs,.obj (w.heap.size+1+1) 50 #[rv,.slice none 0 0],.obj (w.heap.size+1) 50 #[.slice none 0 0,.slice none 0 0],.obj w.heap.size 50 #[.slice (some ⟨b,off,none⟩) c.1.length c1,.slice a2 c.2.length c2]]) ?_ ?_
  .intro Y hY;have q1:=HO4.o.obj.sub (o:=0) (cs:=N) (fun j u hj=>by simpa using Q.o j u hj)
   cases bl with
   |false=>
    have e2:m'=false:=by rw[M'.o];rfl
    rw[e2]at hY;clear e2;go_wp2
    exact hY.o _ _ rfl ⟨rfl,HO4.o⟩
   |true=>
    have e2:m' = !be:=by rw[M'.o];rfl
    rw[e2]at hY;clear e2
    go_wp2_with (first
     |refine aj jI rfl (.tmp 32) rfl rfl N l' q1 ?_
     | fail)
    exact qbp
  clear HO4 HBT Q M' l';rintro z1 vs w6-⟨rfl,a⟩;simp[bz,lk];have y0:=a.aR.obj.c 0;have yl:=a.aR.obj.lt;have q1:=a.obj.all;have G:=zh a;clear a
  go_wp2_with (first
   |refine aj ek rfl (.tmp 9) rfl rfl cs sW q1 ?_
   |(refine fU jN ek qh rfl zo rfl (.tmp 39) rfl (cs:=cs.toArray) rfl qhG ?_;have HO7:=zh (G.o.al cs.toArray 35))
   | (at_builtin;refine aU jN rfl (.tmp 38) (.tmp 40) rfl rv es.length xs rfl HO7.o.aR.row ⟨w6.heap.size,0,none⟩ 1 1 cs rfl sW qe2 L qdM zo ?_))
  intro va vc w8 c' d' a';have C:=(HO7.o.aR.app c' d' a' zS).bM.bM;have y0:=C.av.obj.c 0;have yl:=C.av.obj.lt;have yf:=C.av.obj.frozen 0;have K':=zh (C.av.set 0 (.slice va (es.length+1) vc)).av;clear G HO7 C c' d' a' q1;go_wp2;exact hX.o _ _ _ zo rfl ⟨i+1,i',_,_,es++[e],zo,rfl,by rw[<-HB2.o]<;>rfl,f.o.1,f.o.2.1,f.o.2.2,by simpa using K'.o⟩
def YF(n:Nat)(m:Mem)(cs:List Value)(f:Fd):Prop:=f.1.1.size<=maxLen/\(-9223372036854775808<=f.1.2/\f.1.2<=9223372036854775807)/\∃x y,cs=qx f x y/\aY m n x f.2.1/\aY m n y f.2.2
def JG(n:Nat)(m:Mem)(cs:List Value)(k:Kl):Prop:=∃c x y,cs=nE k c x y/\aV m c k.1/\aY m n x k.2.1/\aY m n y k.2.2
theorem YF.le{n:Nat}{m M:Mem}(a:m.le M){cs:List Value}{f:Fd}(h:YF n m cs f):YF n M cs f:=by
 obtain⟨g,d,x,y,e,c,b⟩:=h;exact⟨g,d,x,y,e,c.le a,b.le a⟩
theorem JG.le{n:Nat}{m M:Mem}(a:m.le M){cs:List Value}{k:Kl}(h:JG n m cs k):JG n M cs k:=by
 obtain⟨c,x,y,e,f,d,b⟩:=h;exact⟨c,x,y,e,bq a f,d.le a,b.le a⟩
theorem Ua{n:Nat}{mk M:Mem}{w:zW}{t:TypeId}{v:zV}{l:List Fd}{xs:List Value}(a:w.ownsRow 0 t 20 v l.length xs)(k:jd 20 (YF n mk) xs l)(d:mk.le M)(o:(mk.iA w v).le M):gG (aY M n) M v l:=
 eY a fun g m i h=>by
  obtain⟨cs,-,-,⟨f,e,x,y,rfl,q,p⟩,b⟩:=k.at' h;have b:=fun j u c=>bzv o (eO a m mk (b j u c));exact⟨b 0 _ rfl,f,b 1 _ rfl,e,.of (fun j u c=>by have:=b (2+j) u (qw c);rwa [<-Nat.add_assoc]at this) (q.le d) (p.le d)⟩
theorem IA{n:Nat}{mk M:Mem}{w:zW}{t:TypeId}{v:zV}{l:List Kl}{xs:List Value}(a:w.ownsRow 0 t 19 v l.length xs)(f:jd 19 (JG n mk) xs l)(d:mk.le M)(m:(mk.iA w v).le M):gM (aY M n) M v l:=
 eY a fun g k i h=>by
  obtain⟨cs,-,-,⟨c,x,y,rfl,q,p,o⟩,b⟩:=f.at' h;have b:=fun j u e=>bzv m (eO a k mk (b j u e));exact⟨⟨c,b 0 _ rfl,bq d q⟩,.of (fun j u e=>by have:=b (1+j) u (kQ e);rwa [<-Nat.add_assoc]at this) (p.le d) (o.le d)⟩
theorem QC{k:Nat}:∀{css:List (List Value)},(∀c∈css,c.length=k)->∀(i:Nat) (h:i<css.length) (j:Nat),j<k->∀u,css.flatten.set (i*k+j) u=(css.set i (css[i].set j u)).flatten
 |[],_,i,h,_,_,_=>by simp at h
 |c::css,hk,0,h,j,hj,u=>by
  rw[List.flatten_cons,Nat.zero_mul,yZ,List.set_append_left _ _ (by rw[hk c zS];exact hj)];simp
 |c::css,hk,i+1,h,j,hj,u=>by
  have a:=hk c zS;rw[List.flatten_cons,List.set_append_right _ _ (by rw[a,Nat.add_mul];omega),a,show(i+1)*k+j-k=i*k+j by rw[Nat.add_mul];omega,QC (fun x hx=>hk x qd4) i qd5 j hj u];simp
theorem jd.set1{k:Nat}{α:Type}{Rp:List Value->α->Prop}{xs:List Value}{l:List α}(h:jd k Rp xs l){i j:Nat}(hi:i<l.length)(p:j<k){u:zV}(o:u.oneCell'=true){x:α}(r:∀cs,Rp cs l[i]->Rp (cs.set j u) x):jd k Rp (xs.set (i*k+j) u) (l.set i x):=by
 obtain⟨css,t,s,f⟩:=h.ex;refine⟨css.set i ((css[i]'zo).set j u),by rw[t,QC (fun c q=>by obtain⟨i,hi,rfl⟩:=yX q;exact(f i hi zo).1) i zo j p u],by simp[s],fun d a b=>?_⟩;have m:d<css.length:=by simpa using a
 have g:d<l.length:=by simpa using b
 by_cases e:d=i
 .subst e;have:=f d m g;rw[List.getElem_set_self,List.getElem_set_self];exact⟨by simpa using this.1,fun z n=>(List.mem_or_eq_of_mem_set n).elim (this.2.1 z) fun e=>by rw[e];exact o,r _ this.2.2⟩
 .rw[List.getElem_set_ne zo,List.getElem_set_ne zo];exact f d m g
theorem tH{P:Program}(g o k:Nat):∀(b:List Value) (i:Nat),(storeCells ⟨g,o+k,none⟩ b i).run P=(storeCells ⟨g,o,none⟩ b (k+i)).run P
 |[],i=>rfl
 |v::b,i=>by
  funext w;have c:=tH (P:=P) g o k b (i+1);simp only[storeCells,Sem.run_bind];rw[show(⟨g,o+k,none⟩:Addr).add i=(⟨g,o,none⟩:Addr).add (k+i)by by_cases e:i=0<;>by_cases d:k=0<;>simp[Addr.add,e,d,Nat.add_assoc]]
  cases (store ((⟨g,o,none⟩:Addr).add (k+i)) v).run P w with
  |ok a w'=>simp only[Result.andThen_ok];rw[c,Nat.add_assoc]
  |_=>rfl
theorem MI{P:Program}{t:TypeId}{n:Nat}{w:zW}{ops:Array Oper}{rest:List Oper}{op:Oper}{a:Act}{Q:Exit->Act->World->Prop}(S:og P t n)(m:Region.wanted op (yielded ops a.tmps)=true)(p v:Operand)(e:op.op=Op.store t p v){g o:Nat}{T:TypeId}{b cs:Array Value}(k:a.eval p=.pointer (some ⟨g,o,none⟩))(j:a.eval v=.agg cs)(i:o+n=b.size)(l:cs.size=n)(r:∀u∈cs.toList,u.oneCell'=true)(f:bg w g T b)
(q:∀w',bg w' g T (b.toList.take o++cs.toList).toArray->w.grownBy w' (some g)->wpList P ops Q rest (a.put op.dst undef) w'):wpList P ops Q (op::rest) a w:=by
 refine BigFrame.wpList_want m fun s h=>?_;have c:=run_storeCells_from (P:=P) g T cs.toList o b w f.get qdQ r;have d:(storeCells ⟨g,o,none⟩ cs.toList 0).run P w=(storeCells ⟨g,0,none⟩ cs.toList o).run P w:=by
  have:=congrFun (tH (P:=P) g 0 o cs.toList 0) w
  rwa [yZ,Nat.add_zero]at this
 rw[<-d]at c;unfold Oper.wp;simp[execOp,e,k,j,Instr.storeAt,Instr.sureAddr,storeVar,S.size,Value.cells,l,c,Result.andThen];refine h _ _ (q _ ⟨setRow_heap w g b _ T (0,0) f.get⟩ ?_);exact grownBy_setRow' f.get
theorem R6:fB prog 59 82 20 296:=⟨underlying59,zo,by
 obtain⟨i,d,c,b,a⟩:=info_parts (P:=prog) (e:=82) (z:=.agg RJ) (size:=20) (bytes:=296) zk;exact⟨i,_,d,c,b,a,rfl⟩⟩
theorem U8:∀w,(zeroValue 82).run prog w=.ok (.agg RJ) w:=Tryz.zeroValue82
theorem Gs:fB prog 60 68 19 296:=⟨underlying60,zo,by
 obtain⟨i,d,c,b,a⟩:=info_parts (P:=prog) (e:=68) (z:=.agg RF) (size:=19) (bytes:=296) zk;exact⟨i,_,d,c,b,a,rfl⟩⟩
theorem ME:∀w,(zeroValue 68).run prog w=.ok (.agg RF) w:=Tryz.zeroValue68
theorem czX{out:List Kl}{k:Kl}(h:Qv (fun x:Kl=>tf (x.2=k.2)) out<0):kJ out k=out++[k]:=by
 unfold Qv at h;unfold kJ
 cases e:out.findIdx? (fun x:Kl=>tf (x.2=k.2))with
 |none=>rfl
 |some i=>rw[e]at h;simp at h;omega
theorem czY{out:List Kl}{k:Kl}(h:¬Qv (fun x:Kl=>tf (x.2=k.2)) out<0):∃(i:Nat) (hi:i<out.length),Qv (fun x:Kl=>tf (x.2=k.2)) out=i/\kJ out k=out.set i (orT out[i].1 k.1,k.2)/\out[i].2=k.2:=by
 unfold Qv at h⊢;unfold kJ
 cases e:out.findIdx? (fun x:Kl=>tf (x.2=k.2))with
 |none=>rw[e]at h;simp at h
 |some i=>
  obtain⟨hi,a,_⟩:=List.findIdx?_eq_some_iff_getElem.1 e;exact⟨i,hi,rfl,by simp[hi],j4.1 a⟩
theorem Uf:∀args w,(callFunc 123 args).run prog w=.ok (.enter 123 args) w:=enters_of func123 zk rfl
theorem Ue:∀args w,(callFunc 126 args).run prog w=.ok (.enter 126 args) w:=enters_of func126 zk rfl
theorem UL(r a0 q p o n m l k j i h g f e d c b a:zV)(w:zW):(Instr.build 68 #[(0,.agg #[r]),(1,.agg #[a0,q,p,o,n,m,l,k,j,i,h,g,f,e,d,c,b,a])]).run prog w=.ok (.agg #[r,a0,q,p,o,n,m,l,k,j,i,h,g,f,e,d,c,b,a]) w:=by kernel_rfl
theorem Rl(r:zV){D:List Value}(a:D.length=18)(w:zW):(Instr.build 68 #[(0,.agg #[r]),(1,.agg D.toArray)]).run prog w=.ok (.agg (r::D).toArray) w:=by
 match D,a with
 |[a0,a1,a2,a3,a4,a5,a6,a7,a8,b0,b1,b2,b3,b4,b5,b6,b7,b8],_=>exact UL r a0 a1 a2 a3 a4 a5 a6 a7 a8 b0 b1 b2 b3 b4 b5 b6 b7 b8 w
theorem uG{P:Program}{t e:TypeId}{n bytes:Nat}(S:fB P t e n bytes)(B:og P e n){z:zV}(g:∀w,(zeroValue e).run P w=.ok z w)(f:z.cells.size=n)(j:n<=1000){w:zW}{op:Oper}{a:Act}{K:Act->World->Prop}{Q:Exit->Act->World->Prop}
(x:Operand)(b:op.op=Op.buildSlice t 1 #[(0,x)]){cs:Array Value}(h:a.eval x=.agg cs)(hl:cs.size=n)
(i:K (a.put op.dst (.slice (some ⟨w.heap.size,0,none⟩) 1 1)) (w.alloc (.cells cs e))):op.wp P a w K Q:=by
 have c:=S.pos;have d:cs.zipIdx.foldl (fun(a:Array Value) (x:Value×Nat)=>a.setIfInBounds (0+x.2) x.1) ((Array.range (1*n)).map (z.cells[·%z.cells.size]!))=cs:=QB cs _ qek;unfold Oper.wp;simp[execOp,b,h,Instr.buildSlice,run_underlying S.ht,B.size,g,Instr.fill,Value.cells,hl,Result.andThen,newRow,show ¬(16777216<n)by omega,show n≠0 by omega]at d⊢;simp only[d];exact i
theorem azM{n:Nat}(k:Kl)(e:Vd)(c:zV)(x y b a:Sl)(g:Nat)(m:Mem)(w:zW)(G:m.az w)(A:∀j u,(dw e b a)[j]?=some u->m.cell g (0+j)=some u)(C:aY m n x k.2.1)(B:aY m n y k.2.2)(i:aY m n b e.1)(f:aY m n a e.2)(F:jg n k.2)(E:jg n e):
 zC 123 #[.agg (nE k c x y).toArray,.pointer (some ⟨g,0,none⟩)] w fun r w'=>r=.returned (.bool (tf (k.2=e)))/\zB w w':=by
 have l:=(Own.start G).al (nE k c x y).toArray 68;have s:=zh (fun w' (h:m.az w')=>uL n k.2 e x y b a m w' h C B i f F E);unfold bQ at s;have H:(dw k.2 x y).length=18:=rfl;have p:(dw e b a).length=18:=rfl;have z:=l.obj.sub (o:=1) (cs:=dw k.2 x y) (fun j u q=>by simpa using kQ q);have v:=fun j u q=>azk l.az (A j u q);have t:=zh l;generalize dw k.2 x y=D at*
 generalize dw e b a=I at*
 generalize nE k c x y=K at*
 clear l C B i f A;refine au fun R hR=>?_
 go_enter func123,ntmps123
 go_wp2_with (first
  |refine aj ek rfl (.tmp 4) rfl rfl D H z ?_
  |refine aj ek rfl (.tmp 1) rfl rfl I p v ?_
  | fail)
 refine(s.o _ t.o.az).mono ?_;rintro e J ⟨rfl,d⟩;have HB:=zh (t.o.aT d).aF;clear t d z v s;exact qaD
theorem azL{n:Nat}(k d:Kl)(cs l:List Value)(m:Mem)(w:zW)(F:m.az w)(g:eD m)(h:JG n m cs k)(J:JG n m l d)(G:k.1.length<=729)(u:d.1.length<=729):
 zC 126 #[.agg cs.toArray,.agg l.toArray] w fun r w'=>r=.returned (.j (F6 k d))/\zB w w':=by
 obtain⟨c,x,y,rfl,p,-,-⟩:=h;obtain⟨q,t,s,rfl,j,-,-⟩:=J;have f:=((Own.start F).al (nE k c x y).toArray 68).al (nE d q t s).toArray 68;simp only[bB]at f;have A:=zh (fun w' (h:m.az w')=>(pV c q k.1 d.1 m w' h g p j (yJ (xV (Nat.add_le_add_right G 2) (Nat.add_le_add_right u 2)) zD)).mono (R':=fun e z=>e=.returned (.j (F6 k d))/\Below w'.heap.size w' z) fun e z ⟨c,p,I,H⟩=>⟨by rw[p,F6,CV H],I⟩);have M:(nE k c x y).toArray[0]?=some c:=rfl;have L:(nE d q t s).toArray[0]?=some q:=rfl;have E:=f.av.obj.cell M;have D:=f.av.obj.lt;have C:=f.obj.cell L;have B:=f.obj.lt;have v:=zh f;obtain⟨a,b,rfl,-⟩:=p;obtain⟨S,Q,rfl,-⟩:=j;generalize nE k _ x y=K at*
 generalize nE d _ t s=T at*
 generalize k.1.length=P at*
 generalize d.1.length=O at*
 clear f;refine au fun R hR=>?_
 go_enter func126,ntmps126
 go_wp2_with fail
 refine(A.o _ v.o.az).mono ?_;rintro e N ⟨rfl,i⟩;have HB:=zh (v.o.aT i).aF;clear v i E D C B A;exact qaD
def YG(n:Nat)(c:St)(M:Mem)(e:Ending):Prop:=match kE (bR n) (df n) c with
 |some y=>∃u a,e=.returned (.tuple #[.agg #[u,a],.bool y.2,.bool true])/\gG (aY M n) M u y.1.1/\gM (aY M n) M a y.1.2
 |none=>e=.returned (.tuple #[.agg #[.slice none 0 0,.slice none 0 0],.bool false,.bool false])
theorem fz4{c:St}{i:Nat}(h:i<c.1.length):c.1[i].2∈bJ c:=yP.2 (.inl (yD.2 ⟨_,zF h,rfl⟩))
theorem fzZ{c:St}{i:Nat}(h:i<c.2.length):c.2[i].2∈bJ c:=yP.2 (.inr (yD.2 ⟨_,zF h,rfl⟩))
theorem UI{c:Vl->Option Vl}{le:Vl->Vl->Prop}{f:Fd}{d:Vd}(h:fO c le f.2=some d):sj c le f=some (f.1,d):=by unfold sj;rw[h];rfl
theorem UG{c:Vl->Option Vl}{le:Vl->Vl->Prop}{f:Kl}{d:Vd}(h:fO c le f.2=some d):nQ c le f=some (f.1,d):=by unfold nQ;rw[h];rfl
theorem UJ{c:Vl->Option Vl}{le:Vl->Vl->Prop}{f:Fd}(h:fO c le f.2=none):sj c le f=none:=by unfold sj;rw[h];rfl
theorem UH{c:Vl->Option Vl}{le:Vl->Vl->Prop}{f:Kl}(h:fO c le f.2=none):nQ c le f=none:=by unfold nQ;rw[h];rfl
theorem BS{n:Nat}(H:CnH n)(c:St)(u u2:zV)(m:Mem)(w:zW)(hm:m.az w)(D':eD m)(h1:gG (aY m n) m u c.1)(h2:gM (aY m n) m u2 c.2)(k:∀d∈bJ c,Kq n d)(hco:bC c)(Z':zm c):
 zC 81 #[.agg #[u,u2]] w fun e w'=>zB w w'/\YG n c (m.grow w w') e:=by
 obtain⟨a1,c1,rfl,p1,q1,k1⟩:=h1;obtain⟨a2,c2,rfl,p2,q2,k2⟩:=h2;unfold maxLen at q1 q2;have hl4:=Z'.f;have hl5:=Z'.k;have p:=((((Own.start hm).al #[.slice a1 c.1.length c1,.slice a2 c.2.length c2] 62).al #[.slice none 0 0,.slice none 0 0] 62).al #[.slice none 0 0,.slice none 0 0] 62).fE 82 20;simp only[bB]at p;have g0:=p.bV.obj.c 0;have gl:=p.bV.obj.lt;have K:=zh p;have HK:=zh (zi k1 k2);have HH:=zh (zi D' k);have T':=zh (zi hco Z');have HCV:=zh (fun(M:Mem) (d:Vd) x y w' (h:M.az w') (t:m.le M) (k1:aY M n x d.1) (k2:aY M n y d.2) (kd:Kq n d)=>pW H d x y M w' h (D'.le t) k1 k2 kd);obtain⟨cf,hcf⟩:∃cf,cf=fO (bR n) (df n):=⟨_,rfl⟩;obtain⟨ff,hff⟩:∃ff,ff=sj (bR n) (df n):=⟨_,rfl⟩;obtain⟨kf,hkf⟩:∃kf,kf=nQ (bR n) (df n):=⟨_,rfl⟩;have HCF:=zh hcf;have HFF:=zh hff;have HKF:=zh hkf;clear p k1 k2 D' k H hcf hff hkf hco Z';refine au fun R hR=>?_
 go_enter func81,ntmps81
 go_wp2;refine aB [1,2,5,6,17,18,19] (fun q vs wr=>∃(i:Nat) (W:Mem) (rv:zV) (xs:List Value) (es:List Fd),i<=c.1.length/\q=c.1.length-i/\vs=[.p w.heap.size,.p (w.heap.size+1),.p (w.heap.size+1+1),.bool (es.all fun f => !iP f.2.1),.slice a1 c.1.length c1,.j (c.1.length:Int),.j (i:Int)]/\eZ ff (c.1.take i)=some es/\jd 20 (YF n W) xs es/\m.le W /\
  Own w m wr W [.row rv 82 20 es.length xs,.obj (w.heap.size+1+1) 62 #[rv,.slice none 0 0],.obj (w.heap.size+1) 62 #[.slice none 0 0,.slice none 0 0],.obj w.heap.size 62 #[.slice a1 c.1.length c1,.slice a2 c.2.length c2]]) ?_ ?_
 .exact⟨_,0,m,_,[],[],zG _,rfl,rfl,rfl,.nil,Mem.le_refl _,K.o⟩
 clear K g0 gl;rintro X z q vs wr hX-⟨i,W,rv,xs,es,hi,rfl,rfl,he,hv,t,p⟩;simp[bz,lk];have B:=zh (zi he (zi hv t));have hel:=gP he;rw[List.length_take,Nat.min_eq_left hi]at hel;have hel2:es.length<=4:=zo;have HEL:=zh hel;clear hel;clear he hv t;by_cases hlt:i<c.1.length
 case neg=>
  obtain rfl:i=c.1.length:=zo;have HE1:=zh (show eZ ff c.1=some es from by have:=B.o.1;rwa [yG]at this);obtain⟨bl,hbl⟩:∃b,b=es.all fun f => !iP f.2.1:=⟨_,rfl⟩;rw[<-hbl];have d':=zh hbl;have g0:=p.bV.obj.c 1;have gl:=p.bV.obj.lt;have K:=zh ((p.fE 68 19).sub (.cons_cons _ (.cons_cons _ (.cons_cons _ (.cons_cons _ (List.nil_sublist _))))));have HE0:=zh B.o.2;clear p hX B HEL hbl hlt hi;go_wp2;refine aB [2,5,6,49,50,51] (fun q vs wr=>∃(i:Nat) (W:Mem) (rv2:zV) (ys:List Value) (ks:List Kl),i<=c.2.length/\q=c.2.length-i/\vs=[.p (w.heap.size+1),.p (w.heap.size+1+1),.bool bl,.slice a2 c.2.length c2,.j (c.2.length:Int),.j (i:Int)]/\eZ kf (c.2.take i)=some ks/\jd 19 (JG n W) ys (ks.foldl kJ [])/\jd 20 (YF n W) xs es/\m.le W /\
   Own w m wr W [.row rv2 68 19 (ks.foldl kJ []).length ys,.row rv 82 20 es.length xs,.obj (w.heap.size+1+1) 62 #[rv,rv2],.obj (w.heap.size+1) 62 #[.slice none 0 0,.slice none 0 0]]) ?_ ?_
  .exact⟨_,0,W,_,[],[],zG _,rfl,rfl,rfl,.nil,HE0.o.1,HE0.o.2,K.o⟩
  clear K g0 gl HE0;rintro X z q vs wr hX-⟨i,W,rv2,ys,ks,hi,rfl,rfl,he,hv,hv0,t,p⟩;simp[bz,lk];have HP:=zh (KX (n:=n) T'.o.1 T'.o.2 (by rw[<-HKF.o];exact he));have HCT:=zh (show ∀x∈ks.foldl kJ [],jg n x.2 from fun x hx=>by
   obtain⟨k',h1,h2⟩:=HP.o.RG.wV.vals x hx;obtain⟨z,h3,h4⟩:=fZ he h1;rw[HKF.o]at h4;unfold nQ at h4;obtain⟨d,h5,rfl⟩:=Option.map_eq_some_iff.1 h4;rw[<-h2];have hb:=Kq.OA (HH.o.2 z.2 (yP.2 (.inr (yD.2 ⟨z,xX h3,rfl⟩)))) h5;exact⟨hb.1.cnt,hb.2.cnt⟩)
  have B:=zh (zi he (zi hv (zi hv0 t)));have HFO:=zh (show ∀k,(ks++[k]).foldl kJ []=kJ (ks.foldl kJ []) k from fun k=>by rw[List.foldl_append];rfl);obtain⟨out,H'⟩:∃out,out=ks.foldl kJ []:=⟨_,rfl⟩;rw[<-H']at B HP p HCT HFO;have HOUT:=zh H';have hof:=HP.o.few;obtain⟨i',V,rfl⟩:=bv p.row;obtain⟨j',g',rfl⟩:=bv p.av.row;clear he hv hv0 t H';by_cases hlt:i<c.2.length
  case neg=>
   obtain rfl:i=c.2.length:=zo;have HCN:=zh (show kE (bR n) (df n) c=some ((es,eU F6 out),bl) from by
    have h2:=B.o.1;rw[yG]at h2;unfold kE;rw[<-HFF.o,<-HKF.o,HE1.o,h2,d'.o,HOUT.o];rfl)
   have y1:=p.aR.obj.c 1;have yl:=p.aR.obj.lt;have HS:=zh (Zl (czp HP.o) p B.o.2.1 (fun x hx=>hx) (Xi HP.o) 126 #[] Ue (fun cs cs' x Z w' h' hx Y' r r'=>azL x Z cs cs' W w' h' (HH.o.1.le B.o.2.2.2) r r' (HP.o.len x hx) (HP.o.len Z Y')) zo);have t:=B.o.2.2.2;have HG:=zh B.o.2.2.1;clear p hX HCT HFO HP HOUT B
   go_wp2_with fail
   refine HS.o.mono ?_;rintro e w5 ⟨rfl,ys',Y',O'⟩;have y0:=O'.aR.obj.c 0;have y1:=O'.aR.obj.c 1;have yl:=O'.aR.obj.lt;have K:=zh O';have HX:=zh Y';have HSL:=zh (show(eU F6 out).length=out.length from(iY F6 out).length_eq);clear HS O' Y'
   go_wp2_with (refine aA Cs rfl (.tmp 2) (.tmp 99) rfl (cs:=#[.slice j' es.length g',.slice i' out.length V]) rfl rfl rfl rfl qdN K.o.bV.obj ?_)
   intro w6 X' hg6;have hr:=Cs.load (P:=prog) (cs:=[.slice j' es.length g',.slice i' out.length V]) rfl X'.all;have hA:=(K.o.bV.aQ X' hg6).tail;have hB:=(K.o.bV.aQ X' hg6).aF;have k1:=Ua (M:=m.grow w w6) hA.av.row HG.o hA.done hA.av.bP.done;have k2:=IA (M:=m.grow w w6) (l:=eU F6 out) (by rw[HSL.o];exact hA.row) HX.o hA.done hA.bP.done;have HF:=zh (zi hB (zi k1 k2));clear K HX hA hB k1 k2 X' hg6 y0 y1 yl;go_wp2;refine yV (v:=.tuple #[.agg #[.slice j' es.length g',.slice i' out.length V],.bool bl,.bool true]) (oo results81 rfl hr) rfl ?_;refine hR.o _ _ ⟨HF.o.1,?_⟩;unfold YG;rw[HCN.o];exact⟨_,_,rfl,HF.o.2.1,HF.o.2.2⟩
  obtain⟨b,off,rfl,h4⟩:=HK.o.2 qdJ;obtain⟨kc,x,y,hks,hc,hx,hy⟩:=(h4 i hlt).cells;have t:=B.o.2.2.2;have Q:=bzw t p.az;have hcl:=bzu Q (hc 0 _ rfl);have HC:=zh (fun j u hj=>azk Q (hc j u hj));have h1:=mK hks hx hy;have hl:(nE c.2[i] kc x y).length=19:=rfl;have hlD:(dw c.2[i].2 x y).length=18:=rfl;have HSU:=zh (fun j u=>@kQ c.2[i] kc x y j u);have H0:(nE c.2[i] kc x y).toArray[0]?=some kc:=rfl;have s':=zF hlt;have HQ:=zh (zi (T'.o.1.sets _ s').1 (zi (T'.o.2.set _ s') (bq t hks)));have HD:=zh (HH.o.2 _ (fzZ hlt));have p':=zh (fun w' (h:W.az w')=>HCV.o W c.2[i].2 x y w' h t (hx.le t) (hy.le t) HD.o);have HT:=zh (show ∀e,cf c.2[i].2=some e->eZ kf (c.2.take (i+1))=some (ks++[(c.2[i].1,e)]) from fun e he=>by rw[qF hlt,B.o.1];show((kf c.2[i]).map fun y=>ks++[y])=_;rw[HKF.o,UG (by rw[<-HCF.o];exact he)];rfl);have q':=zh (show cf c.2[i].2=none->kE (bR n) (df n) c=none from fun h=>by
   unfold kE;rw[<-HFF.o,HE1.o,lN s' (UH (by rw[<-HCF.o];exact h))];rfl)
  obtain⟨ka,kb,rfl,-⟩:=id hks;have K:=zh (p.al RF 68);unfold bQ at p';generalize nE c.2[i] _ x y=F at*
  generalize dw c.2[i].2 x y=D at*
  generalize c.2[i]=f at*
  clear p h4 hc hx hy Q hks s'
  go_wp2_with (first
   |refine aj qB rfl (.tmp 53) rfl rfl F hl HC.o ?_
   |(refine aA qB rfl (.tmp 12) (.tmp 54) rfl (cs:=F.toArray) rfl rfl rfl qdR (fun u hu=>h1 u qdL) K.o.obj ?_;intro w2 B' K';have hO2:=K.o.aQ B' K';have q1:=hO2.obj.sub (o:=1) (cs:=D) (fun j u hj=>by simpa using HSU.o j u hj))
   |refine aj ek rfl (.tmp 56) rfl rfl D hlD q1 ?_
   | fail)
  refine(p'.o _ hO2.az).mono ?_;rintro e w3 ⟨N',hr⟩;obtain⟨cs,ok,rfl,sW,a',T,hcs⟩:=hr.cells;rw[<-HCF.o]at T hcs;have HM:=zh qiv;have G:=zh ((hO2.call N').al lZ 35);clear K hO2 N' hr p' q1 B' K' HC hcs
  cases hcd:cf f.2 with
  |none=>
   obtain rfl:ok=false:=by rw[T,hcd];rfl
   have HRN:=zh (q'.o hcd);clear q' HT B HM hcd T
   go_wp2_with (first
    |(refine aA ek rfl (.tmp 13) (.tmp 59) rfl (cs:=cs.toArray) rfl rfl rfl qhG (fun u hu=>a' u qdL) G.o.obj ?_;intro w4 L S;have o':=(G.o.aQ L S).bM)
    | refine aA Cs rfl (.tmp 2) (.tmp 63) rfl (cs:=#[.slice none 0 0,.slice none 0 0]) rfl rfl rfl rfl zD o'.fifth.obj ?_)
   intro w5 l' J';have hr:=Cs.load (P:=prog) (cs:=[.n,.n]) rfl l'.all;have HB:=zh (o'.fifth.aQ l' J').aF;clear G o' L S l' J';go_wp2;refine yV (v:=.tuple #[.agg #[.slice none 0 0,.slice none 0 0],.bool false,.bool false]) (oo results81 rfl hr) rfl ?_
   exact hR.o _ _ ⟨HB.o,by unfold YG;rw[HRN.o]⟩
  |some e=>
   obtain rfl:ok=true:=by rw[T,hcd];rfl
   obtain⟨Z,y',Q',k1,k2⟩:=HM.o.2 e hcd;have d':=zh (HD.o.OA qel);have s:=zh (zi (HT.o e hcd) (zi (B.o.2.1.mono fun _ _ h=>h.le HM.o.1) (zi (B.o.2.2.1.mono fun _ _ h=>h.le HM.o.1) (zi (Mem.le_trans B.o.2.2.2 HM.o.1) (bq HM.o.1 HQ.o.2.2)))));have ECS:=zh Q';have HV2:=zh (zi k1 k2);clear q' HT B HM hcd T k1 k2 Q';generalize W.grow w2 w3=U at*
   go_wp2_with (first
    |(refine aA ek rfl (.tmp 13) (.tmp 59) rfl (cs:=cs.toArray) rfl rfl rfl qhG (fun u hu=>a' u qdL) G.o.obj ?_;intro w4 L S;have HO4:=zh (G.o.aQ L S);have y1:=HO4.o.fifth.obj.c 1;have yl:=HO4.o.fifth.obj.lt;clear G L S)
    | fail)
   obtain⟨M3,hi3,I,E',L'⟩:∃M3:Mem,M3.az w4/\U.le M3/\(∀g,(Value.slice i' out.length V).ownBlock=some g->∀j u,ys[j]?=some u->M3.cell g j=some u)/\∀j u,cs[j]?=some u->M3.cell w3.heap.size (0+j)=some u:=
    ⟨_,HO4.o.aR.bP.iC.az,Mem.le_trans (czS HO4.o.aR.free) (dz9 HO4.o.aR.bP.j6),fun g hg j u hj=>bzv (dz9 HO4.o.aR.bP.j6) (eO HO4.o.aR.row hg U hj),fun j u hj=>bzy HO4.o.obj qdP⟩
   have HIX:=zh (czs (fun x:Kl=>tf (x.2=e)) 123 #[.pointer (some ⟨w3.heap.size,0,none⟩)] (.slice i' out.length V) out M3 w4 hi3 Uf (eY HO4.o.aR.row fun g hg j hj=>by
    obtain⟨cs',l1,o1,⟨c',x1,y1,rfl,g1,g2,g3⟩,hc'⟩:=s.o.2.1.at' hj;exact⟨_,l1,fun j u hj=>E' g hg _ _ (hc' j u hj),fun w' hw'=>azM out[j] e c' x1 y1 Z y' w3.heap.size M3 w' hw' (fun j u hj=>L' j u (by rw[ECS.o];exact hj)) (g2.le I) (g3.le I) (HV2.o.1.le I) (HV2.o.2.le I) (HCT.o _ (zF hj)) ⟨d'.o.1.cnt,d'.o.2.cnt⟩⟩))
   have HAK:=zh (zi (@czX out (f.1,e)) (@czY out (f.1,e)));obtain⟨ix,hix⟩:∃ix,ix=Qv (fun x:Kl=>tf (x.2=e)) out:=⟨_,rfl⟩;rw[<-hix]at HIX;have S':=zh hix;have HHL:=zh (zi T'.o.2.set HP.o.len);clear hi3 I E' L' hix HCT d';refine(HIX.o).mono ?_;rintro r w5 ⟨rfl,hb5⟩;have HO5:=zh (HO4.o.aT hb5);clear HO4 HIX hb5 y1 yl
   go_upto_if 69 with(fail)
   refine aW [2,5,6,49,50,51] (fun vs w'=>∃(R':Mem) (rv3:zV) (ys3:List Value),vs=[.p (w.heap.size+1),.p (w.heap.size+1+1),.bool bl,.slice (some ⟨b,off,none⟩) c.2.length c2,.j (c.2.length:Int),.j (i:Int)]/\U.le R'/\jd 19 (JG n R') ys3 (kJ out (f.1,e)) /\
    Own w m w' R' [.row rv3 68 19 (kJ out (f.1,e)).length ys3,.row (.slice j' es.length g') 82 20 es.length xs,.obj (w.heap.size+1+1) 62 #[.slice j' es.length g',rv3],.obj (w.heap.size+1) 62 #[.slice none 0 0,.slice none 0 0]]) ?_ ?_
   .intro Y hY;by_cases I':ix<0
    .have HN:=zh (HAK.o.1 (by rw[<-S'.o];exact I'));have hdl:decide (ix<0)=true:=zN I';have HOR:=zh (fun w' (h:U.az w')=>BG (.slice ka f.1.length kb) (.n) f.1 [] U w' h (HH.o.1.le s.o.2.2.2.1) s.o.2.2.2.2 (fq _ _) (.of HQ.o.2.1 (zI _) zD));clear HAK S';go_wp2;refine gV (fun j w'=>j≠11->(bg w' (w.heap.size+1+1) 62 #[.slice j' es.length g',.slice i' out.length V]/\bg w' wr.heap.size 68 F.toArray/\bg w' w3.heap.size 35 cs.toArray)) zk ?_;have A:=HO5.o.dr;have J:=zi A.fifth.obj (zi A.av.obj A.obj);refine aD 0 16 _ rfl zk qe7 qfg J qfl ?_;go_simp;refine aD 1 16 _ rfl zk qe7 qfg J qfl ?_;go_simp;refine aD 2 16 _ rfl zk qe7 qfg J qfl ?_;go_simp;refine aD 3 16 _ rfl zk qe7 qfg J qfl ?_;go_simp;refine aD 4 16 _ rfl zk qe7 qfg J qfl ?_;go_simp;refine aD 6 16 _ rfl zk qe7 qfg J (ax rfl fun w' hS'=>by exact ek.exec rfl zg sW hS'.2.2.all) ?_;go_simp;refine aO 5 zk (aM rfl rfl (fP zg (HOR.o _ A.az) ?_));rintro e' w6 ⟨r,C,rfl,hb6,n',hC,-⟩;obtain rfl:C=f.1:=bzZ HQ.o.1 hC;obtain⟨ra,rc,rfl,-⟩:=id n';have a:=A.call hb6;have O:=bzx (w:=w6) A.az;have J:=zi a.fifth.obj (zi a.av.obj a.obj);have h2:=s.o;have HCR:=zh ((h2.2.1.mono fun _ _ h=>h.le O).push (x:=(f.1,e)) (cs:=.slice ra f.1.length rc::cs) (by simp[sW]) (fun u hu=>(yA.1 hu).elim (fun h=>by rw[h];rfl) (a' u)) ⟨_,Z,y',by rw[ECS.o];rfl,n',HV2.o.1.le O,HV2.o.2.le O⟩);clear h2 n' hC;refine⟨_,rfl,.inr fun _=>J,?_⟩;go_simp;refine aD 7 16 _ rfl zk qe7 qfg J (ax rfl fun w' hS'=>jA rfl zg zg (Rl _ sW w')) ?_;go_simp;have E:=a.al (.slice ra f.1.length rc::cs).toArray 68;have hO8b:=E.bV.bM;refine aO 8 zk (aM rfl rfl (uG Gs qB ME rfl zo (.tmp 77) rfl (cs:=(.slice ra f.1.length rc::cs).toArray) zg (by simp[sW]) ⟨.inr fun _=>zi (E.tail.fifth.obj) (zi E.tail.av.obj E.tail.obj),?_⟩));go_simp;refine aO 9 zk (aM rfl rfl (fQ Gs (.tmp 71) (.tmp 78) rfl (.slice i' out.length V) out.length ys zg E.bV.row ⟨w6.heap.size,0,none⟩ 1 1 (.slice ra f.1.length rc::cs) zg (by simp[sW]) (by intro j u hj;rw[Addr.add_lit,yZ];exact E.obj.cell qdP) (fun u hu=>(yA.1 hu).elim (fun h=>by rw[h];rfl) (a' u)) qdM zo (fun va vc w8 ho8 hg8 hr8=>?_)));have hO9:=(E.bV.app ho8 hg8 hr8 zS).bM;have b':=hO9.bM.bM;refine⟨.inr fun _=>zi b'.aR.obj (zi hO9.aR.obj hO9.av.obj),?_⟩;go_simp;refine aO 10 zk (aM rfl rfl (aS qdK ⟨.inl rfl,?_⟩));go_simp;have y0:=b'.aR.obj.c 1;have yl:=b'.aR.obj.lt;have yf:=b'.aR.obj.frozen 1;refine aO 11 zk (aM rfl rfl (dx zg ⟨.inr fun h=>absurd rfl h,?_⟩));refine dE zk ?_ _;have HO11:=zh (b'.aR.set 1 (.slice va (out.length+1) vc)).av.R8;exact hY.o _ _ rfl ⟨_,.slice va (out.length+1) vc,ys++(.slice ra f.1.length rc::cs),rfl,O,by rw[HN.o];exact HCR.o,by rw[HN.o];simpa using HO11.o⟩
    .obtain⟨i2,hi2,e1,e2,e3⟩:=HAK.o.2 (by rw[<-S'.o];omega);obtain rfl:ix=(i2:Int):=by rw[S'.o,e1]
     have HN:=zh e2;have HI2:=zh e3;have hdl:decide ((i2:Int)<0)=false:=zM I';obtain⟨gr,rfl⟩:=tO HO5.o.aR.row zo;obtain⟨cs',l1,o1,⟨c',x1,y1,rfl,g1,g2,g3⟩,hc'⟩:=s.o.2.1.at' hi2;have HOR:=zh (fun w' (h:U.az w')=>BG c' (.slice ka f.1.length kb) out[i2].1 f.1 U w' h (HH.o.1.le s.o.2.2.2.1) g1 s.o.2.2.2.2 (.of (HHL.o.2 _ (zF hi2)) HQ.o.2.1 zD));have hcy:=hc' 0 c' rfl;rw[Nat.add_zero]at hcy;obtain⟨oa,oc,rfl,-⟩:=g1;generalize out[i2].1.length=ol at*
     clear HAK S' e1 e2 e3 l1 o1 g2 g3 hc';go_wp2;refine gV (fun j w'=>j≠14->(bg w' (w.heap.size+1+1) 62 #[.slice j' es.length g',.slice (some ⟨gr,0,none⟩) out.length V]/\bg w' wr.heap.size 68 F.toArray/\(w'.cell? ⟨gr,i2*19,none⟩=some (.slice oa ol oc)/\gr<w'.heap.size))) zk ?_;have A:=HO5.o.dr;have J:=zi A.fifth.obj (zi A.av.obj (zi (bO A.aR.row hcy) (World.ownsRow.lt A.aR.row _ rfl).2));refine aD 0 16 _ rfl zk qe7 qfg J qfe ?_;go_simp;refine aD 1 16 _ rfl zk qe7 qfg J qfe ?_;go_simp;refine aD 2 16 _ rfl zk qe7 qfg J qfe ?_;go_simp;refine aD 3 16 _ rfl zk qe7 qfg J qfe ?_;go_simp;refine aD 4 16 _ rfl zk qe7 qfg J qfe ?_;go_simp;refine aD 5 16 _ rfl zk qe7 qfg J qfe ?_;go_simp;refine aD 6 16 _ rfl zk qe7 qfg J qfe ?_;go_simp;refine aD 7 16 _ rfl zk qe7 qfg J qfe ?_;go_simp;refine aD 8 16 _ rfl zk qe7 qfg J qfe ?_;go_simp;refine aD 9 16 _ rfl zk qe7 qfg J qfe ?_;go_simp;refine aD 10 16 _ rfl zk qe7 qfg J qfe ?_;go_simp;refine aO 11 zk (aM rfl rfl (fP zg (HOR.o _ A.az) ?_));rintro e' w6 ⟨r,C,rfl,hb6,n',hC,-⟩;have eC:=ezk hC;obtain⟨ra,rc,rfl,-⟩:=id n';have a:=A.call hb6;have O:=bzx (w:=w6) A.az;have J:=zi a.fifth.obj (zi a.av.obj (zi (bO a.aR.row hcy) (World.ownsRow.lt a.aR.row _ rfl).2));have HCR:=zh ((s.o.2.1.mono fun _ _ h=>h.le O).set1 (x:=(C,e)) hi2 (j:=0) zo (u:=.slice ra C.length rc) rfl fun cs' h=>by obtain⟨c',x1,y1,rfl,g1,g2,g3⟩:=h;rw[HI2.o]at g2 g3;exact⟨_,x1,y1,by rw[nE,HI2.o];rfl,n',g2,g3⟩);clear n' hC;refine⟨_,rfl,.inr fun _=>J,?_⟩;go_simp;have y0:=J.2.2.1;have yl:=J.2.2.2;have yf:=fD a.aR.row (i2*19);refine aO 12 zk (aM rfl rfl (aS qdK ⟨.inl rfl,?_⟩));go_simp;refine aO 13 zk (aM rfl rfl (aS qdK ⟨.inl rfl,?_⟩));go_simp;refine aO 14 zk (aM rfl rfl (dx zg ⟨.inr fun h=>absurd rfl h,?_⟩));refine dE zk ?_ _;have HO8:=zh (a.aR.setRow (i2*19) (.slice ra C.length rc)).bM.bM;exact hY.o _ _ rfl ⟨_,.slice (some ⟨gr,0,none⟩) out.length V,_,rfl,O,by rw[HN.o,eC];exact HCR.o,by rw[HN.o,List.length_set];exact HO8.o⟩
   clear HO5;rintro z1 vs w6-⟨R',rv3,ys3,rfl,I,hx3,p⟩;simp[bz,lk];have K:=zh p;clear p;go_wp2;exact hX.o _ _ _ zo rfl ⟨i+1,R',_,_,ks++[(f.1,e)],zo,rfl,rfl,s.o.1,by rw[HFO.o];exact hx3,s.o.2.2.1.mono fun _ _ h=>h.le I,Mem.le_trans s.o.2.2.2.1 I,by rw[HFO.o];exact K.o⟩
 obtain⟨b,off,rfl,h4⟩:=HK.o.1 qdJ;have kf1:=(h4 i hlt).sz;have kf2:=(h4 i hlt).pr;obtain⟨x,y,hc,hx,hy⟩:=(h4 i hlt).cells;have Q:=bzw B.o.2.2 p.az;have hcl:=bzu Q (hc 0 _ rfl);have HC:=zh (fun j u hj=>azk Q (hc j u hj));have h1:=mM hx hy;have hl:(qx c.1[i] x y).length=20:=rfl;have hlD:(dw c.1[i].2 x y).length=18:=rfl;have HSU:=zh (fun j u=>@qw c.1[i] x y j u);have HTK:=zh (show ∀e Z y',(qx c.1[i] x y).take 2++dw e Z y'=qx (c.1[i].1,e) Z y' from fun e Z y'=>rfl);have HD:=zh (HH.o.2 _ (fz4 hlt));have p':=zh (fun w' (h:W.az w')=>HCV.o W c.1[i].2 x y w' h B.o.2.2 (hx.le B.o.2.2) (hy.le B.o.2.2) HD.o);have HT:=zh (show ∀e,cf c.1[i].2=some e->eZ ff (c.1.take (i+1))=some (es++[(c.1[i].1,e)]) from fun e he=>by rw[qF hlt,B.o.1];show((ff c.1[i]).map fun y=>es++[y])=_;rw[HFF.o,UI (by rw[<-HCF.o];exact he)];rfl);have q':=zh (show cf c.1[i].2=none->kE (bR n) (df n) c=none from fun h=>by
  unfold kE;rw[lN (zF hlt) (UJ (by rw[<-HCF.o];exact h))];rfl)
 have HFS:=zh (zi kf1 kf2);have K:=zh (p.al RJ 82);unfold bQ at p';generalize qx c.1[i] x y=F at*
 generalize dw c.1[i].2 x y=D at*
 generalize c.1[i]=f at*
 clear p h4 hc hx hy Q kf1 kf2
 go_wp2_with (first
  |refine aj tu rfl (.tmp 21) rfl rfl F hl HC.o ?_
  |(refine aA tu rfl (.tmp 8) (.tmp 22) rfl (cs:=F.toArray) rfl rfl rfl qdR (fun u hu=>h1 u qdL) K.o.obj ?_;intro w2 B' K';have hO2:=K.o.aQ B' K';have q1:=hO2.obj.sub (o:=2) (cs:=D) (fun j u hj=>by simpa using HSU.o j u hj))
  |refine aj ek rfl (.tmp 24) rfl rfl D hlD q1 ?_
  | fail)
 refine(p'.o _ hO2.az).mono ?_;rintro e w3 ⟨N',hr⟩;obtain⟨cs,ok,rfl,sW,a',T,hcs⟩:=hr.cells;rw[<-HCF.o]at T hcs;have HM:=zh qiv;have G:=zh ((hO2.call N').al lZ 35);clear K hO2 N' hr p' q1 B' K' HC hcs
 cases hcd:cf f.2 with
 |none=>
  obtain rfl:ok=false:=by rw[T,hcd];rfl
  have HRN:=zh (q'.o hcd);clear q' HT B HM hcd T
  go_wp2_with (first
   |(refine aA ek rfl (.tmp 9) (.tmp 27) rfl (cs:=cs.toArray) rfl rfl rfl qhG (fun u hu=>a' u qdL) G.o.obj ?_;intro w4 L S;have o':=G.o.aQ L S)
   | refine aA Cs rfl (.tmp 2) (.tmp 31) rfl (cs:=#[.slice none 0 0,.slice none 0 0]) rfl rfl rfl rfl zD o'.fifth.obj ?_)
  intro w5 l' J';have hr:=Cs.load (P:=prog) (cs:=[.n,.n]) rfl l'.all;have HB:=zh (o'.fifth.aQ l' J').aF;clear G o' L S l' J';go_wp2;refine yV (v:=.tuple #[.agg #[.slice none 0 0,.slice none 0 0],.bool false,.bool false]) (oo results81 rfl hr) rfl ?_
  exact hR.o _ _ ⟨HB.o,by unfold YG;rw[HRN.o]⟩
 |some e=>
  obtain rfl:ok=true:=by rw[T,hcd];rfl
  obtain⟨Z,y',Q',k1,k2⟩:=HM.o.2 e hcd;have d':=zh (HD.o.OA qel);have s:=zh (zi (HT.o e hcd) (zi ((B.o.2.1.mono fun _ _ h=>h.le HM.o.1).push (x:=(f.1,e)) (cs:=qx (f.1,e) Z y') rfl (mM k1 k2) ⟨HFS.o.1,HFS.o.2,Z,y',rfl,k1,k2⟩) (Mem.le_trans B.o.2.2 HM.o.1)));have HBT:=zh (fun w' (h:(W.grow w2 w3).az w')=>d'.o.1.bot h (HH.o.1.le (Mem.le_trans B.o.2.2 HM.o.1)) k1);have HSB:=zh (fun j u hj=>@ku e Z y' j u hj);have hlN:(aZ e.1 Z).length=9:=rfl;have HTK2:=zh (HTK.o e Z y');have lF':(qx (f.1,e) Z y').length=20:=rfl;have oF':=mM (f:=(f.1,e)) k1 k2;rw[<-Q']at HSB HTK2;generalize aZ e.1 Z=N at*
  generalize qx (f.1,e) Z y'=F' at*
  obtain⟨bl2,M'⟩:∃b,b=((es++[(f.1,e)]).all fun f => !iP f.2.1):=⟨_,rfl⟩;have HAL:=zh (show bl2=((es.all fun f => !iP f.2.1) && !iP e.1)by rw[M'];simp);have HB2:=zh M';clear q' HT B HM hcd T Q' k1 k2 d' M' HTK;generalize (es.all fun f => !iP f.2.1)=bl at*
  generalize iP e.1=be at*
  generalize W.grow w2 w3=U at*
  go_upto_region 9 with(first
   | (refine aA ek rfl (.tmp 9) (.tmp 27) rfl (cs:=cs.toArray) rfl rfl rfl qhG (fun u hu=>a' u qdL) G.o.obj ?_;intro w4 L S;have HO4:=zh (G.o.aQ L S);clear G L S))
  refine aW [1,2,5,6,8,9,17,18,19] (fun vs w'=>vs=[.p w.heap.size,.p (w.heap.size+1),.p (w.heap.size+1+1),.bool bl2,.p wr.heap.size,.p w3.heap.size,.slice (some ⟨b,off,none⟩) c.1.length c1,.j (c.1.length:Int),.j (i:Int)] /\
   Own w m w' U [.obj w3.heap.size 35 cs.toArray,.obj wr.heap.size 82 F.toArray,.row rv 82 20 es.length xs,.obj (w.heap.size+1+1) 62 #[rv,.slice none 0 0],.obj (w.heap.size+1) 62 #[.slice none 0 0,.slice none 0 0],.obj w.heap.size 62 #[.slice (some ⟨b,off,none⟩) c.1.length c1,.slice a2 c.2.length c2]]) ?_ ?_
  .intro Y hY;have q1:=HO4.o.obj.sub (o:=0) (cs:=N) (fun j u hj=>by simpa using HSB.o j u hj)
   cases bl with
   |false=>
    have e2:bl2=false:=by rw[HAL.o];rfl
    rw[e2]at hY;clear e2;go_wp2
    exact hY.o _ _ rfl ⟨rfl,HO4.o⟩
   |true=>
    have e2:bl2 = !be:=by rw[HAL.o];rfl
    rw[e2]at hY;clear e2
    go_wp2_with (first
     |refine aj jI rfl (.tmp 34) rfl rfl N hlN q1 ?_
     | fail)
    exact qbp
  clear HO4 HBT HSB HAL hlN;rintro z1 vs w6-⟨rfl,p⟩;simp[bz,lk];have q1:=p.obj.all;have K:=zh p;clear p
  go_wp2_with (first
   |refine aj ek rfl (.tmp 9) rfl rfl cs sW q1 ?_
   |(refine MI ek rfl (.tmp 40) (.tmp 39) rfl (o:=2) (cs:=cs.toArray) rfl rfl qek qhG (fun u hu=>a' u qdL) K.o.av.obj ?_;intro w7 ob7 hg7;simp only[HTK2.o]at ob7;have a:=K.o.av.aQ ob7 hg7;have HO7:=zh a;have y0:=a.bV.obj.c 0;have yl:=a.bV.obj.lt;have q2:=a.obj.all;clear a ob7 hg7)
   |refine aj tu rfl (.tmp 8) rfl rfl F' lF' q2 ?_
   |(refine fU R6 tu U8 rfl zo rfl (.tmp 43) rfl (cs:=F'.toArray) rfl (by simpa using lF') ?_;have HO8:=zh (HO7.o.al F'.toArray 82))
   | (at_builtin;refine aU R6 rfl (.tmp 42) (.tmp 44) rfl rv es.length xs rfl HO8.o.bV.row ⟨w7.heap.size,0,none⟩ 1 1 F' rfl lF' qe0 oF' qdM zo ?_))
  intro va vc w8 ho8 hg8 hr8;have E:=(HO8.o.bV.app ho8 hg8 hr8 zS).bM.bM.bM;have y0:=E.av.obj.c 0;have yl:=E.av.obj.lt;have yf:=E.av.obj.frozen 0;have HO9:=zh (E.av.set 0 (.slice va (es.length+1) vc)).av;clear K HO7 HO8 E ho8 hg8 hr8 q1 q2;go_wp2;exact hX.o _ _ _ zo rfl ⟨i+1,U,_,_,es++[(f.1,e)],zo,rfl,by rw[<-HB2.o]<;>rfl,s.o.1,s.o.2.1,s.o.2.2,by simpa using HO9.o⟩
end Cl
