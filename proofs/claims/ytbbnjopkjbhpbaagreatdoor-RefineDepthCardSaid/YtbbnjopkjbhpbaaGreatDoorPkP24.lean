/- Lemmas for the proofs of chapter 11. -/
import Derived.Test.YtbbnjopkjbhpbaaGreatDoorPkP23
set_option maxRecDepth 100000
set_option maxHeartbeats 16000000
namespace Cl
open Go Go.RowKit Go.Proofs Tryz
theorem DK{n:Nat}{c:Lc}(h:kQ (n+1) (lZ c)):∀d∈aY c,Aq n d:=h.lc c (by simp[lZ,Vl.aN])
theorem Dh{n:Nat}{c:St}(h:kQ (n+1) (uX c)):Zx n c:=h.st c (by simp[uX,Vl.aA])
theorem dzi{n:Nat}{c:Lc}(h:kQ (n+1) (lZ c)):c.2.length<=1/\∀y∈aY c,iQ n y.1/\iQ n y.2:=⟨h.snd.1.rest c (by simp[lZ,Vl.aN]),fun y a=>⟨(DK h y a).1.snd,(DK h y a).2.snd⟩⟩
theorem czL{n:Nat}{c:St}(h:kQ (n+1) (uX c)):(∀f∈c.1,iQ n f.2.1/\iQ n f.2.2)/\∀k∈c.2,cB k.1/\iQ n k.2.1/\iQ n k.2.2:=
 have k:=Dh h
 ⟨fun f a=>⟨(k.vals _ (yP.2 (.inl (yD.2 ⟨f,a,rfl⟩)))).1.snd,(k.vals _ (yP.2 (.inl (yD.2 ⟨f,a,rfl⟩)))).2.snd⟩,fun f a=>⟨(k.ok.sets f a).1,(k.vals _ (yP.2 (.inr (yD.2 ⟨f,a,rfl⟩)))).1.snd,(k.vals _ (yP.2 (.inr (yD.2 ⟨f,a,rfl⟩)))).2.snd⟩⟩
theorem dzh{n:Nat}{c:Lc}(h:kQ (n+1) (lZ c)):AV (dz n) c c:=QF fun d a=>⟨(DK h d a).1.snd.ht,(DK h d a).2.snd.ht⟩
theorem czK{n:Nat}{c:St}(h:kQ (n+1) (uX c)):AJ (dz n) c c:=PR (Dh h).ok fun d a=>⟨((Dh h).vals d a).1.snd.ht,((Dh h).vals d a).2.snd.ht⟩
theorem ezA:fB prog 30 50 2 48:=⟨underlying30,zo,by
 obtain⟨i,d,c,b,a⟩:=info_parts (P:=prog) (e:=50) (z:=.agg #[.slice none 0 0,.slice none 0 0]) (size:=2) (bytes:=48) zk;exact⟨i,_,d,c,b,a,rfl⟩⟩
theorem ezO{n:Nat}{m:Mem}{b o:Nat}{c:Lc}(h:Ph (bq m n) m b o c)(k:kQ (n+1) (lZ c)):∃f i d e g a,m.cell b o=some (.slice f i d)/\m.cell b (o+1)=some (.slice e g a)/\En n m [.slice f i d,.slice e g a] c:=by
 obtain⟨u,t,s,r,l,j⟩:=h;have q:=l;have p:=j;obtain⟨f,d,rfl,-⟩:=q;obtain⟨e,a,rfl,-⟩:=p;exact⟨_,_,_,_,_,_,s,r,_,_,rfl,l,j,DK k⟩
theorem Jh{n:Nat}{m mk M:Mem}{w:zW}{t:TypeId}{v:zV}{l:List Lc}{xs:List Value}(hown:w.ownsRow 0 t 2 v l.length xs)(hx:lw 2 (En n m) xs l)(hm:m.le M)(hM:(mk.iH w v).le M):Am (bq M n) M v l:=
 fK hown fun g hg i h=>by
  exact qgX
theorem azW{n:Nat}(hn:n+1<=16)(v:zV)(l:List Lc)(m:Mem)(w:zW)(hm:m.ay w)(A:dV m)(hl:Am (bq m n) m v l)(kl:∀c∈l,kQ (n+1) (lZ c))(B':l.length<=8):
 zC 82 #[v,.func (.func 50) #[] #[],.func (.func 83) #[] #[]] w fun e w'=>∃r,e=.returned r/\zB w w'/\Am (bq (m.grow w w') n) (m.grow w w') r (gJ (Pn (gW n)) (oN (AV (dz n)) l)):=by
 obtain⟨a,c,rfl,h1,E,G⟩:=hl;unfold maxLen at E;obtain⟨mk,hO,d,Q⟩:=((Own.start hm).al #[.func (.func 83) #[] #[]] 132).Bt;have HK:=zh G;have HM:=zh (zi d (zi Q (zi A kl)));have HQ:=zh (fun cs W c c' w' (h:m.ay w') k1 k2=>WH (qW n) A cs W c c' w' h k1 k2);have HO:=zh (hO.fC 50 2);clear hO d Q A kl G;generalize U:AV (dz n)=f at*
 have y':=zh U;clear U;refine au fun R hR=>?_
 go_enter func82,ntmps82
 go_wp2
 go_step3
 go_wp2
 go_step3
 go_wp2;refine aC [0,1,5,7,12,13,14] (fun q vs wr=>∃(i:Nat) (H:zV) (xs:List Value),i<=l.length/\q=l.length-i/\vs=[.slice a l.length c,.func (.func 50) #[] #[],.pointer (some ⟨w.heap.size,0,none⟩),H,.slice a l.length c,.int .i64 (l.length:Int),.int .i64 (i:Int)]/\lw 2 (En n m) xs (iy f l i)/\Own w m wr mk [.row H 50 2 (iy f l i).length xs]) ?_ ?_
 .exact⟨_,0,_,[],zG _,rfl,rfl,lw.nil,HO.o⟩
 clear HO;rintro X z q vs wr hX-⟨i,H,xs,hi,rfl,rfl,F,hO⟩;simp[bB,lk];have HX:=zh F;clear F;by_cases hlt:i<l.length
 case neg=>
  obtain rfl:i=l.length:=zo;have d:=HM.o.1;have HS:=zh (azi (C:=Pn (gW n)) (GQ (vT n)) hO HX.o (fun x F=>dzi (HM.o.2.2.2 x (fU F))) (by
   have:=vz (R:=f) (l:=l) fun x F=>by rw[<-y'.o];exact dzh (HM.o.2.2.2 x F)
   exact this) 129 #[.pointer (some ⟨w.heap.size,0,none⟩)] UX (fun cs W x x' w' p' F D r r'=>by
   obtain⟨u,u2,rfl,G,V,-⟩:=r;obtain⟨u',o',rfl,v',t',-⟩:=r';exact azO hn x x' u u2 u' o' _ mk w' p' (HM.o.2.2.1.le d) HM.o.2.1 (G.le d fun _ _ h=>h.le d) (V.le d fun _ _ h=>h.le d) (v'.le d fun _ _ h=>h.le d) (t'.le d fun _ _ h=>h.le d) (HM.o.2.2.2 x (fU F)) (HM.o.2.2.2 x' (fU D))) (by
   have:=List.length_filterMap_le (fun i=>l[i]?) ((List.range l.length).filter fun i=>tf (sP f l i));have E:=vB (fun i=>tf (sP f l i)) (List.range l.length);rw[List.length_range]at E;have G:(iy f l l.length).length<=l.length:=yJ this E;omega))
  clear hO hX HX
  go_wp2_with fail
  refine HS.o.mono ?_;rintro e w1 ⟨rfl,g',D,g⟩;have HF:=zh (show zB w w1/\Am (bq (m.grow w w1) n) (m.grow w w1) H (gJ (Pn (gW n)) (oN f l)) from by
   refine⟨g.az,Jh (mk:=mk) (w:=w1) (t:=50) (xs:=g') ?_ D (Mem.le_trans d (Mem.le_trans (Mem_le_addv g.free) g.bO.done)) g.bO.done⟩;have e:(gJ (Pn (gW n)) (oN f l)).length=(iy f l l.length).length:=(jh _ _).length_eq;rw[e];exact g.row)
  clear HS D g d;exact qbo
 have P:=zF hlt;obtain⟨b,off,rfl,V⟩:=HK.o qdP;obtain⟨N,L,M,y,p,s,K,Y,O⟩:=ezO (V i hlt) (HM.o.2.2.2 _ P);have x1:=Mem_cell_w qiu K;have x2:=Mem_cell_w qiu Y;have xl:=Mem_cell_lt qiu K;have HO:=zh (hO.al #[.slice N L M,.slice y p s] 50);have Z:=zh (zi O V);clear hO V K Y O;go_wp2;clear x1 x2 xl;refine aC [0,1,5,7,8,9,12,13,14,19,20,21] (fun q vs wi=>∃(k:Nat),k<=l.length/\q=l.length-k/\vs=[.slice (some ⟨b,off,none⟩) l.length c,.func (.func 50) #[] #[],.pointer (some ⟨w.heap.size,0,none⟩),H,.int .i64 (i:Int),.pointer (some ⟨wr.heap.size,0,none⟩),.slice (some ⟨b,off,none⟩) l.length c,.int .i64 (l.length:Int),.int .i64 (i:Int),.slice (some ⟨b,off,none⟩) l.length c,.int .i64 (l.length:Int),.int .i64 (k:Int)]/\(∀j (hj:j<l.length),j<k->j≠i->f l[i] l[j]->¬(j<i\/¬f l[j] l[i])) /\
  Own w m wi mk [.obj wr.heap.size 50 #[.slice N L M,.slice y p s],.row H 50 2 (iy f l i).length xs]) ?_ ?_
 .exact qau
 clear HO;rintro X2 z2 q2 I' wi hX2-⟨k,hk,rfl,rfl,hA,hO⟩;simp[bB,lk];have HA:=zh hA;clear hA;by_cases J:k<l.length
 case neg=>
  obtain rfl:k=l.length:=zo;have HK2:=zh (show iy f l (i+1)=iy f l i++[l[i]] from uA hlt fun k hk _ hne hr=>HA.o k hk hk hne hr);have HX2:=zh (HX.o.push (cs:=[.slice N L M,.slice y p s]) rfl qdS Z.o.1);have y0:=hO.obj.c 0;have y1:=hO.obj.c 1;have yl:=hO.obj.lt;have HL:=zh (show(iy f l i).length<=i from by
   have:=List.length_filterMap_le (fun i=>l[i]?) ((List.range i).filter fun i=>tf (sP f l i));have E:=vB (fun i=>tf (sP f l i)) (List.range i);rw[List.length_range]at E;exact yJ this E)
  have Q':=HL.o;have HO:=zh (hO.al #[.slice N L M,.slice y p s] 50);clear hO hX2 HA;generalize iy f l i=MX at*
  go_wp2_with (at_builtin;refine aT ezA rfl (.tmp 48) (.tmp 50) rfl H MX.length xs rfl HO.o.aP.row ⟨wi.heap.size,0,none⟩ 1 1 [.slice N L M,.slice y p s] rfl rfl qfa qdS qdR zo ?_)
  exact qgV
 have I:=zF J;obtain⟨va,vn,vc,n',l',m',K,Y,B⟩:=ezO (Z.o.2 k J) (HM.o.2.2.2 _ I);have x1:=Mem_cell_w qiu K;have x2:=Mem_cell_w qiu Y;have xl:=Mem_cell_lt qiu K;have HO:=zh (hO.al #[.slice va vn vc,.slice n' l' m'] 50);have y0:=HO.o.av.obj.c 0;have y1:=HO.o.av.obj.c 1;have yl:=HO.o.av.obj.lt;have HN:=zh (show(k≠i->f l[i] l[k]->¬(k<i\/¬f l[k] l[i]))->∀j (hj:j<l.length),j<k+1->j≠i->f l[i] l[j]->¬(j<i\/¬f l[j] l[i]) from fun h j hj G=>by
  by_cases e:j=k
  .exact qbV
  .exact HA.o j hj zo)
 have HZ:=zh (show k≠i->f l[i] l[k]->(k<i\/¬f l[k] l[i])->iy f l (i+1)=iy f l i from fun h1 E G=>DI fun h=>h k J hlt h1 E G);have HQ1:=zh (fun w' (h:mk.ay w')=>HQ.o _ _ l[i] l[k] w' qgb Z.o.1 B);have HQ2:=zh (fun w' (h:mk.ay w')=>HQ.o _ _ l[k] l[i] w' qgb B Z.o.1);clear hO K Y B HA Z;by_cases hne:k=i
 .exact qbF
 have hd:((i:Int) != (k:Int))=true:=by simp;omega
 have q':(i != k)=true:=by simp;omega
 go_wp2_with fail
 refine(HQ1.o _ HO.o.ay).mono ?_;rintro e w3 ⟨rfl,T⟩;have HO3:=zh (HO.o.aS T);clear HO HQ1 T y0 y1 yl x1 x2 xl hd q';by_cases e1:f l[i] l[k]
 case neg=>
  exact qhh
 rw[aM e1];by_cases e2:k<i
 .exact qbe
 have y0:=HO3.o.obj.c 0;have y1:=HO3.o.obj.c 1;have yl:=HO3.o.obj.lt;have y2:=HO3.o.av.obj.c 0;have y3:=HO3.o.av.obj.c 1;have f':=HO3.o.av.obj.lt;have hd:decide (k<i)=false:=zM e2
 go_wp2_with fail
 refine(HQ2.o _ HO3.o.ay).mono ?_;rintro e w4 ⟨rfl,S⟩;have HO4:=zh (HO3.o.aS S);clear HO3 HQ2 S y0 y1 yl y2 y3 f' hd;by_cases e3:f l[k] l[i]
 .exact qhb
 .exact qg5
theorem ezz:fB prog 31 62 2 48:=⟨underlying31,zo,by
 obtain⟨i,d,c,b,a⟩:=info_parts (P:=prog) (e:=62) (z:=.agg #[.slice none 0 0,.slice none 0 0]) (size:=2) (bytes:=48) zk;exact⟨i,_,d,c,b,a,rfl⟩⟩
theorem ezC{n:Nat}{m:Mem}{b o:Nat}{c:St}(h:O9 (bq m n) m b o c)(k:kQ (n+1) (uX c)):∃f i d e g a,m.cell b o=some (.slice f i d)/\m.cell b (o+1)=some (.slice e g a)/\Fz n m [.slice f i d,.slice e g a] c:=by
 obtain⟨u,t,s,r,l,j⟩:=h;have q:=l;have p:=j;obtain⟨f,d,rfl,-⟩:=q;obtain⟨e,a,rfl,-⟩:=p;exact⟨_,_,_,_,_,_,s,r,_,_,rfl,l,j,Dh k⟩
theorem Ih{n:Nat}{m mk M:Mem}{w:zW}{t:TypeId}{v:zV}{l:List St}{xs:List Value}(hown:w.ownsRow 0 t 2 v l.length xs)(hx:lw 2 (Fz n m) xs l)(hm:m.le M)(hM:(mk.iH w v).le M):Aj (bq M n) M v l:=
 fK hown fun g hg i h=>by
  exact qgX
theorem azX{n:Nat}(hn:n+1<=16)(v:zV)(l:List St)(m:Mem)(w:zW)(hm:m.ay w)(A:dV m)(hl:Aj (bq m n) m v l)(kl:∀c∈l,kQ (n+1) (uX c))(B':l.length<=8):
 zC 84 #[v,.func (.func 52) #[] #[],.func (.func 85) #[] #[]] w fun e w'=>∃r,e=.returned r/\zB w w'/\Aj (bq (m.grow w w') n) (m.grow w w') r (gJ (Pm (gW n)) (oN (AJ (dz n)) l)):=by
 obtain⟨a,c,rfl,h1,E,G⟩:=hl;unfold maxLen at E;obtain⟨mk,hO,d,Q⟩:=((Own.start hm).al #[.func (.func 85) #[] #[]] 134).Bt;have HK:=zh G;have HM:=zh (zi d (zi Q (zi A kl)));have HQ:=zh (fun cs W c c' w' (h:m.ay w') k1 k2=>V9 (qW n) A cs W c c' w' h k1 k2);have HO:=zh (hO.fC 62 2);clear hO d Q A kl G;generalize U:AJ (dz n)=f at*
 have y':=zh U;clear U;refine au fun R hR=>?_
 go_enter func84,ntmps84
 go_wp2
 go_step3
 go_wp2
 go_step3
 go_wp2;refine aC [0,1,5,7,12,13,14] (fun q vs wr=>∃(i:Nat) (H:zV) (xs:List Value),i<=l.length/\q=l.length-i/\vs=[.slice a l.length c,.func (.func 52) #[] #[],.pointer (some ⟨w.heap.size,0,none⟩),H,.slice a l.length c,.int .i64 (l.length:Int),.int .i64 (i:Int)]/\lw 2 (Fz n m) xs (iy f l i)/\Own w m wr mk [.row H 62 2 (iy f l i).length xs]) ?_ ?_
 .exact⟨_,0,_,[],zG _,rfl,rfl,lw.nil,HO.o⟩
 clear HO;rintro X z q vs wr hX-⟨i,H,xs,hi,rfl,rfl,F,hO⟩;simp[bB,lk];have HX:=zh F;clear F;by_cases hlt:i<l.length
 case neg=>
  obtain rfl:i=l.length:=zo;have d:=HM.o.1;have HS:=zh (azm (C:=Pm (gW n)) (GJ (vT n)) hO HX.o (fun x F=>czL (HM.o.2.2.2 x (fU F))) (by
   have:=vz (R:=f) (l:=l) fun x F=>by rw[<-y'.o];exact czK (HM.o.2.2.2 x F)
   exact this) 132 #[.pointer (some ⟨w.heap.size,0,none⟩)] UY (fun cs W x x' w' p' F D r r'=>by
   obtain⟨u,u2,rfl,G,V,-⟩:=r;obtain⟨u',o',rfl,v',t',-⟩:=r';exact azP hn x x' u u2 u' o' _ mk w' p' (HM.o.2.2.1.le d) HM.o.2.1 (G.le d fun _ _ h=>h.le d) (V.le d fun _ _ h=>h.le d) (v'.le d fun _ _ h=>h.le d) (t'.le d fun _ _ h=>h.le d) (HM.o.2.2.2 x (fU F)) (HM.o.2.2.2 x' (fU D))) (by
   have:=List.length_filterMap_le (fun i=>l[i]?) ((List.range l.length).filter fun i=>tf (sP f l i));have E:=vB (fun i=>tf (sP f l i)) (List.range l.length);rw[List.length_range]at E;have G:(iy f l l.length).length<=l.length:=yJ this E;omega))
  clear hO hX HX
  go_wp2_with fail
  refine HS.o.mono ?_;rintro e w1 ⟨rfl,g',D,g⟩;have HF:=zh (show zB w w1/\Aj (bq (m.grow w w1) n) (m.grow w w1) H (gJ (Pm (gW n)) (oN f l)) from by
   refine⟨g.az,Ih (mk:=mk) (w:=w1) (t:=62) (xs:=g') ?_ D (Mem.le_trans d (Mem.le_trans (Mem_le_addv g.free) g.bO.done)) g.bO.done⟩;have e:(gJ (Pm (gW n)) (oN f l)).length=(iy f l l.length).length:=(jh _ _).length_eq;rw[e];exact g.row)
  clear HS D g d;exact qbo
 have P:=zF hlt;obtain⟨b,off,rfl,V⟩:=HK.o qdP;obtain⟨N,L,M,y,p,s,K,Y,O⟩:=ezC (V i hlt) (HM.o.2.2.2 _ P);have x1:=Mem_cell_w qiu K;have x2:=Mem_cell_w qiu Y;have xl:=Mem_cell_lt qiu K;have HO:=zh (hO.al #[.slice N L M,.slice y p s] 62);have Z:=zh (zi O V);clear hO V K Y O;go_wp2;clear x1 x2 xl;refine aC [0,1,5,7,8,9,12,13,14,19,20,21] (fun q vs wi=>∃(k:Nat),k<=l.length/\q=l.length-k/\vs=[.slice (some ⟨b,off,none⟩) l.length c,.func (.func 52) #[] #[],.pointer (some ⟨w.heap.size,0,none⟩),H,.int .i64 (i:Int),.pointer (some ⟨wr.heap.size,0,none⟩),.slice (some ⟨b,off,none⟩) l.length c,.int .i64 (l.length:Int),.int .i64 (i:Int),.slice (some ⟨b,off,none⟩) l.length c,.int .i64 (l.length:Int),.int .i64 (k:Int)]/\(∀j (hj:j<l.length),j<k->j≠i->f l[i] l[j]->¬(j<i\/¬f l[j] l[i])) /\
  Own w m wi mk [.obj wr.heap.size 62 #[.slice N L M,.slice y p s],.row H 62 2 (iy f l i).length xs]) ?_ ?_
 .exact qau
 clear HO;rintro X2 z2 q2 I' wi hX2-⟨k,hk,rfl,rfl,hA,hO⟩;simp[bB,lk];have HA:=zh hA;clear hA;by_cases J:k<l.length
 case neg=>
  obtain rfl:k=l.length:=zo;have HK2:=zh (show iy f l (i+1)=iy f l i++[l[i]] from uA hlt fun k hk _ hne hr=>HA.o k hk hk hne hr);have HX2:=zh (HX.o.push (cs:=[.slice N L M,.slice y p s]) rfl qdS Z.o.1);have y0:=hO.obj.c 0;have y1:=hO.obj.c 1;have yl:=hO.obj.lt;have HL:=zh (show(iy f l i).length<=i from by
   have:=List.length_filterMap_le (fun i=>l[i]?) ((List.range i).filter fun i=>tf (sP f l i));have E:=vB (fun i=>tf (sP f l i)) (List.range i);rw[List.length_range]at E;exact yJ this E)
  have Q':=HL.o;have HO:=zh (hO.al #[.slice N L M,.slice y p s] 62);clear hO hX2 HA;generalize iy f l i=MX at*
  go_wp2_with (at_builtin;refine aT ezz rfl (.tmp 48) (.tmp 50) rfl H MX.length xs rfl HO.o.aP.row ⟨wi.heap.size,0,none⟩ 1 1 [.slice N L M,.slice y p s] rfl rfl qfa qdS qdR zo ?_)
  exact qgV
 have I:=zF J;obtain⟨va,vn,vc,n',l',m',K,Y,B⟩:=ezC (Z.o.2 k J) (HM.o.2.2.2 _ I);have x1:=Mem_cell_w qiu K;have x2:=Mem_cell_w qiu Y;have xl:=Mem_cell_lt qiu K;have HO:=zh (hO.al #[.slice va vn vc,.slice n' l' m'] 62);have y0:=HO.o.av.obj.c 0;have y1:=HO.o.av.obj.c 1;have yl:=HO.o.av.obj.lt;have HN:=zh (show(k≠i->f l[i] l[k]->¬(k<i\/¬f l[k] l[i]))->∀j (hj:j<l.length),j<k+1->j≠i->f l[i] l[j]->¬(j<i\/¬f l[j] l[i]) from fun h j hj G=>by
  by_cases e:j=k
  .exact qbV
  .exact HA.o j hj zo)
 have HZ:=zh (show k≠i->f l[i] l[k]->(k<i\/¬f l[k] l[i])->iy f l (i+1)=iy f l i from fun h1 E G=>DI fun h=>h k J hlt h1 E G);have HQ1:=zh (fun w' (h:mk.ay w')=>HQ.o _ _ l[i] l[k] w' qgb Z.o.1 B);have HQ2:=zh (fun w' (h:mk.ay w')=>HQ.o _ _ l[k] l[i] w' qgb B Z.o.1);clear hO K Y B HA Z;by_cases hne:k=i
 .exact qbF
 have hd:((i:Int) != (k:Int))=true:=by simp;omega
 have q':(i != k)=true:=by simp;omega
 go_wp2_with fail
 refine(HQ1.o _ HO.o.ay).mono ?_;rintro e w3 ⟨rfl,T⟩;have HO3:=zh (HO.o.aS T);clear HO HQ1 T y0 y1 yl x1 x2 xl hd q';by_cases e1:f l[i] l[k]
 case neg=>
  exact qhh
 rw[aM e1];by_cases e2:k<i
 .exact qbe
 have y0:=HO3.o.obj.c 0;have y1:=HO3.o.obj.c 1;have yl:=HO3.o.obj.lt;have y2:=HO3.o.av.obj.c 0;have y3:=HO3.o.av.obj.c 1;have f':=HO3.o.av.obj.lt;have hd:decide (k<i)=false:=zM e2
 go_wp2_with fail
 refine(HQ2.o _ HO3.o.ay).mono ?_;rintro e w4 ⟨rfl,S⟩;have HO4:=zh (HO3.o.aS S);clear HO3 HQ2 S y0 y1 yl y2 y3 f' hd;by_cases e3:f l[k] l[i]
 .exact qhb
 .exact qg5
theorem Da(d:Vd)(x y:Sl)(w:zW):
 zX 14 #[bP d x y] w (.bool (d.1.any&&d.2.any)):=by
 have a:=(Own.start qfF).al (dC d x y).toArray 35;have c:=a.obj.cell (i:=0) (v:=.bool d.1.any) rfl;have b:=a.obj.cell (i:=9) (v:=.bool d.2.any) rfl;have HB:=zh a.az;unfold bP;clear a;generalize dC d x y=N at*
 generalize d.1.any=p at*
 generalize d.2.any=q at*
 refine au fun R hR=>?_;cases p<;>cases q
 all_goals
  go_enter func14,ntmps14
  exact qak
theorem Bp(s:RS)(b c a:zV)(m:Mem)(w:zW)(x:m.ay w)(r:dD m b c a s):
 zX 28 #[s.val b c a] w (bP (.mk false s [] [],.mk false s [] []) ⟨b,c,a,.slice none 0 0,.slice none 0 0⟩ ⟨b,c,a,.slice none 0 0,.slice none 0 0⟩):=by
 have h:=((Own.start x).al #[.bool s.dI,.bool s.dM,.bool s.dO,b,c,a] 29).al oz 35;simp only[bC]at h;have i:bq m 1 ⟨b,c,a,.slice none 0 0,.slice none 0 0⟩ (.mk false s [] []):=⟨r,fM _ _,fM _ _⟩;have n:=zh (uU _ _ m 1 _ h.ay i);have z:=fZ (d:=(Vl.mk false s [] [],Vl.mk false s [] [])) i i;have k:=h.av.obj.all (cs:=[.bool s.dI,.bool s.dM,.bool s.dO,b,c,a]);have p:=zh h;clear h;unfold bP at*
 unfold RS.val;have hl:(dC (Vl.mk false s [] [],Vl.mk false s [] []) ⟨b,c,a,.slice none 0 0,.slice none 0 0⟩ ⟨b,c,a,.slice none 0 0,.slice none 0 0⟩).length=18:=rfl;generalize dC (Vl.mk false s [] [],Vl.mk false s [] []) ⟨b,c,a,.slice none 0 0,.slice none 0 0⟩ ⟨b,c,a,.slice none 0 0,.slice none 0 0⟩=N at*
 refine au fun R y=>?_
 go_enter func28,ntmps28
 go_wp2_with (refine aj wQ rfl (.tmp 1) rfl rfl [.bool s.dI,.bool s.dM,.bool s.dO,b,c,a] rfl k ?_)
 refine n.o.mono ?_;rintro e B ⟨rfl,g⟩;have f:=zh (p.o.aS g);clear p n g k
 go_wp2_with (refine aB dU rfl (.tmp 2) (.tmp 5) rfl (cs:=N.toArray) rfl rfl rfl qdY (fun u q=>z u q) f.o.obj ?_)
 intro w' j l;have A:=zh (f.o.aW j l);have t:=dU.load hl j.all;clear f l j;go_wp2;exact yV (v:=.agg N.toArray) (kC results28 rfl t) rfl (y.o _ _ ⟨rfl,A.o.az⟩)
def U1(c:Lc):Prop:=c.1=[]/\∃d,c.2=[d]/\(d.1.any&&d.2.any)=true
def U0(c:St):Prop:=c.1=[]/\∃k,c.2=[k]/\(k.2.1.any&&k.2.2.any)=true
theorem fzn{c:Lc}(b:c.1.length=0)(g:c.2.length=1):tf (U1 c)=(c.2[0].1.any&&c.2[0].2.any):=by
 obtain⟨d,a⟩:=List.length_eq_one_iff.1 g;have b:=xJ.1 b;have e:U1 c↔(d.1.any&&d.2.any)=true:=⟨fun⟨_,x,f,k⟩=>by rw[a]at f;cases f;exact k,fun k=>⟨b,d,a,k⟩⟩;rw[dY e];simp only[a,xL];cases (d.1.any&&d.2.any)<;>simp[tf]
theorem fzm{c:St}(b:c.1.length=0)(g:c.2.length=1):tf (U0 c)=(c.2[0].2.1.any&&c.2[0].2.2.any):=by
 obtain⟨d,a⟩:=List.length_eq_one_iff.1 g;have b:=xJ.1 b;have e:U0 c↔(d.2.1.any&&d.2.2.any)=true:=⟨fun⟨_,x,f,k⟩=>by rw[a]at f;cases f;exact k,fun k=>⟨b,d,a,k⟩⟩;rw[dY e];simp only[a,xL];cases (d.2.1.any&&d.2.2.any)<;>simp[tf]
theorem N7{n:Nat}(c:Lc)(u q:zV)(m:Mem)(w:zW)(B:m.ay w)(H:bG (bq m n) m u c.1)(G:bG (bq m n) m q c.2):
 zX 134 #[.agg #[u,q]] w (.bool (tf (U1 c))):=by
 obtain⟨L,J,rfl,S,z,-⟩:=H;obtain⟨K,I,rfl,Q,v,t⟩:=G;unfold maxLen at z v;have g:=(Own.start B).al #[.slice L c.1.length J,.slice K c.2.length I] 50;have O:=g.obj.c 0;have N:=g.obj.c 1;have M:=g.obj.lt;have HO:=zh g;have k:=zh t;clear g t;refine au fun R hR=>?_
 go_enter func134,ntmps134
 by_cases i:c.1.length=0
 case neg=>
  have HX:=zh (show ¬U1 c from fun h=>i (by rw[h.1];rfl));have HB:=zh HO.o.az;have E:((c.1.length:Int)==0)=false:=zO.2 zo;generalize c.1.length=s at*
  clear HO k;exact qg7
 by_cases p:c.2.length=1
 case neg=>
  have HX:=zh (show ¬U1 c from fun⟨_,d,h,_⟩=>p qeL);have HB:=zh HO.o.az;have E:((c.2.length:Int)==1)=false:=zO.2 zo;clear HO k;generalize c.1.length=s at*
  generalize c.2.length=A at*
  subst i;exact qg7
 have h0:0<c.2.length:=zo;have HX:=zh (fzn i p);obtain⟨b,off,rfl,l⟩:=k.o qeG;obtain⟨x,y,a⟩:∃x y,∀j u,(dC c.2[0] x y)[j]?=some u->m.cell b ((off)+j)=some u:=by
  first
   | (obtain⟨x,y,a,-⟩:=(l 0 h0).cells
      exact⟨x,y,fun j u f=>by simpa using a j u f⟩)
   | (obtain⟨T,x,y,-,a,-⟩:=(l 0 h0).cells
      exact⟨x,y,fun j u f=>by have:=a (1+j) u (kZ f);rw[show off+1+j=off+0*19+(1+j)by omega];exact this⟩)
 have C:(dC c.2[0] x y).length=18:=rfl;have HT:=zh (fun w'=>Da c.2[0] x y w');have HC:=zh (fun j u f=>Mem_cell_w HO.o.ay (a j u f));have F:=Mem_cell_lt HO.o.ay (a 0 _ rfl);unfold bP at HT;generalize dC c.2[0] x y=D at*
 generalize (c.2[0].1.any&&c.2[0].2.any)=r at*
 generalize tf (U1 c)=P at*
 clear l k a;generalize c.1.length=s at*
 generalize c.2.length=A at*
 subst i p
 go_wp2_with (first
  |refine aj dU rfl (.tmp 16) rfl rfl D C HC.o ?_
  | fail)
 exact qhf
theorem IU{n:Nat}(c:St)(u q:zV)(m:Mem)(w:zW)(B:m.ay w)(H:gN (bq m n) m u c.1)(G:gP (bq m n) m q c.2):
 zX 135 #[.agg #[u,q]] w (.bool (tf (U0 c))):=by
 obtain⟨L,J,rfl,S,z,-⟩:=H;obtain⟨K,I,rfl,Q,v,t⟩:=G;unfold maxLen at z v;have g:=(Own.start B).al #[.slice L c.1.length J,.slice K c.2.length I] 62;have O:=g.obj.c 0;have N:=g.obj.c 1;have M:=g.obj.lt;have HO:=zh g;have k:=zh t;clear g t;refine au fun R hR=>?_
 go_enter func135,ntmps135
 by_cases i:c.1.length=0
 case neg=>
  have HX:=zh (show ¬U0 c from fun h=>i (by rw[h.1];rfl));have HB:=zh HO.o.az;have E:((c.1.length:Int)==0)=false:=zO.2 zo;generalize c.1.length=s at*
  clear HO k;exact qg7
 by_cases p:c.2.length=1
 case neg=>
  have HX:=zh (show ¬U0 c from fun⟨_,d,h,_⟩=>p qeL);have HB:=zh HO.o.az;have E:((c.2.length:Int)==1)=false:=zO.2 zo;clear HO k;generalize c.1.length=s at*
  generalize c.2.length=A at*
  subst i;exact qg7
 have h0:0<c.2.length:=zo;have HX:=zh (fzm i p);obtain⟨b,off,rfl,l⟩:=k.o qeG;obtain⟨x,y,a⟩:∃x y,∀j u,(dC c.2[0].2 x y)[j]?=some u->m.cell b ((off+1)+j)=some u:=by
  first
   | (obtain⟨x,y,a,-⟩:=(l 0 h0).cells
      exact⟨x,y,fun j u f=>by simpa using a j u f⟩)
   | (obtain⟨T,x,y,-,a,-⟩:=(l 0 h0).cells
      exact⟨x,y,fun j u f=>by have:=a (1+j) u (kZ f);rw[show off+1+j=off+0*19+(1+j)by omega];exact this⟩)
 have C:(dC c.2[0].2 x y).length=18:=rfl;have HT:=zh (fun w'=>Da c.2[0].2 x y w');have HC:=zh (fun j u f=>Mem_cell_w HO.o.ay (a j u f));have F:=Mem_cell_lt HO.o.ay (a 0 _ rfl);unfold bP at HT;generalize dC c.2[0].2 x y=D at*
 generalize (c.2[0].2.1.any&&c.2[0].2.2.any)=r at*
 generalize tf (U0 c)=P at*
 clear l k a;generalize c.1.length=s at*
 generalize c.2.length=A at*
 subst i p
 go_wp2_with (first
  |refine aj dU rfl (.tmp 17) rfl rfl D C HC.o ?_
  | fail)
 exact qhf
theorem bzr{s:RS}{A:RS}(a:s.iG)(h:jT (fun e=>(iV s).has e\/(iV cK).has e) A):A=s:=by
 refine IC h.valid a fun e=>(h.mem e).trans ?_;rw[bzg a,bzg gI];exact⟨fun k=>k.elim id fun k=>absurd k (fun k=>(A8.mem e).1 k),.inl⟩
theorem NT(p q n:zV)(s:RS)(m:Mem)(w:zW)(L:m.ay w)(j:dV m)(C:dD m p q n s)(M:jS s 8 8)(J:s.iG):
 zC 79 #[s.val p q n] w fun e w'=>∃F G E,e=.returned (s.val F G E)/\zB w w'/\dD (m.grow w w') F G E s:=by
 have r:=((Own.start L).al #[.bool s.dI,.bool s.dM,.bool s.dO,p,q,n] 29).al #[.bool false,.bool false,.bool false,.slice none 0 0,.slice none 0 0,.slice none 0 0] 29;simp only[bC]at r;have D:=zh (azs p q n s (.slice none 0 0) (.slice none 0 0) (.slice none 0 0) cK 8 8 8 8 m _ r.ay j C (bq.leaf m false).1 M (kS 8 8) zo zo zo);have O:=zh J;obtain⟨aa,Z,ac,Y,X,W,rfl,rfl,rfl⟩:=C.df;unfold RS.val at D⊢;have H:=zh r;clear r C;refine au fun R N=>?_
 go_enter func79,ntmps79
 go_wp2_with fail
 refine D.o.mono ?_;rintro e T ⟨A,U,V,st,rfl,b,c,k,-⟩;obtain rfl:=bzr O.o k;have a:=c;obtain⟨B,z,y,zd,x,u,rfl,rfl,rfl⟩:=c.df;have g:=zh (H.o.call b);have I:=zh (zi b a);clear H D b c a k
 go_wp2_with (first
  | refine aB wQ rfl (.tmp 2) (.tmp 5) rfl (cs:=#[.bool A.dI,.bool A.dM,.bool A.dO,.slice B A.i.length z,.slice y A.f.length zd,.slice x A.t.length u]) rfl rfl rfl rfl qdS g.o.obj ?_)
 intro S h l;have d:=g.o.aW h l;have K:=wQ.load (P:=prog) (cs:=[.bool A.dI,.bool A.dM,.bool A.dO,.slice B A.i.length z,.slice y A.f.length zd,.slice x A.t.length u]) rfl h.all;have Q:=zh (zi d.az (I.o.2.le d.done));clear g I d l;go_wp2;refine yV (v:=.agg #[.bool A.dI,.bool A.dM,.bool A.dO,.slice B A.i.length z,.slice y A.f.length zd,.slice x A.t.length u]) (kC results79 rfl K) rfl ?_;exact N.o _ _ ⟨_,_,_,rfl,Q.o⟩
theorem dzD{v:Vl}(l:v.aN.length=1)(k:v.aA.length=1):OG v↔(∀e,Gw e->v.s.has e)/\U1 v.aN[0]/\U0 v.aA[0]:=by
 obtain⟨x,d⟩:=List.length_eq_one_iff.1 l;obtain⟨y,c⟩:=List.length_eq_one_iff.1 k;simp only[d,c,xL];constructor
 .rintro⟨a,b,j,i,h,g,f⟩;rw[d]at j;rw[c]at i;cases j;cases i;exact⟨h,g,f⟩
 .rintro⟨h,g,f⟩;exact⟨x,y,d,c,h,g,f⟩
theorem dzO{s:RS}(a:s.iG):∃c:Int,(c=0↔∀e,Gw e->s.has e)/\∀d,Sw s lV d->d=c:=by
 refine⟨scC s lV,?_,fun d h=>(WU h a sV.valid).symm⟩;rw[GM.eq s lV a sV.valid];exact⟨fun h e b=>by rw[h];exact(sV.mem e).2 b,fun h=>IC a sV.valid fun e=>⟨fun k=>(sV.mem e).2 (fzy k),fun k=>h e ((sV.mem e).1 k)⟩⟩
theorem JH{n:Nat}(v:Vl)(s:Sl)(m:Mem)(w:zW)(hm:m.ay w)(F:dV m)(hv:bq m (n+1) s v)(hl:jS v.s 8 8)(S:v.s.iG):
 zX 86 #[v.val s] w (.bool (tf (OG v))):=by
 have O:=(Own.start hm).al (bu v s).toArray 33;have H:=fun(B:Int) (C:∀d,Sw v.s lV d->d=B)=>zh (fun(M:Mem) r w' (h:M.ay w') (T:m.le M) (k:∃ui uf ut,r=lV.val ui uf ut/\dD M ui uf ut lV)=>show zC 133 #[v.s.val s.i s.f s.t,r] w' fun e P=>e=.returned (.int .i64 B)/\Below w'.heap.size w' P from by
  obtain⟨ui,uf,ut,rfl,k⟩:=k;refine(Bu s.i s.f s.t v.s ui uf ut lV 8 8 1 1 M w' h (F.le T) (hv.1.le T) k hl Xa zo zo zo).mono ?_;rintro e P ⟨c,rfl,hb,hc⟩;exact⟨by rw[C c hc],hb⟩)
 obtain⟨B,U,C⟩:=dzO S;have q:=H B C;obtain⟨-,B',A'⟩:=hv;obtain⟨n1,n2,n3,n4,n5,n6,hN,hS⟩:=Oe v s;unfold Vl.val;rw[hS]at q;rw[hN]at O⊢;generalize s.l=sl at*
 generalize s.s=ss at*
 obtain⟨a4,b4,rfl,p4,q4,k4⟩:=B';obtain⟨a5,b5,rfl,p5,q5,k5⟩:=A';unfold maxLen at q4 q5;have HK:=zh (zi k4 k5);have D:=zh U;have y7:=O.obj.c 7;have y8:=O.obj.c 8;have yl:=O.obj.lt;have HO:=zh O;clear O k4 k5 hN hS H C U hl S F;refine au fun R hR=>?_
 go_enter func86,ntmps86
 by_cases e1:v.aN.length=1
 case neg=>
  have HX:=zh (show ¬OG v from fun⟨x,y,h,_⟩=>e1 qeL);have hd:((v.aN.length:Int)==1)=false:=zO.2 zo;clear HK D q;generalize v.aN.length=l4 at*
  go_wp2
  go_quiet (fail)
  exact qho
 by_cases e2:v.aA.length=1
 case neg=>
  have HX:=zh (show ¬OG v from fun⟨x,y,_,h,_⟩=>e2 qeL);have hd:((v.aA.length:Int)==1)=false:=zO.2 zo;clear HK D q;generalize v.aN.length=l4 at*
  generalize v.aA.length=l5 at*
  subst e1;go_wp2
  go_quiet (fail)
  exact qho
 have HX:=zh ((dzD e1 e2).trans (and_congr_left' D.o.symm));have W:0<v.aN.length:=zo;have V:0<v.aA.length:=zo;obtain⟨J,I,rfl,h4⟩:=HK.o.1 (by intro h;simp[h]at W);obtain⟨X,Q,rfl,h5⟩:=HK.o.2 (by intro h;simp[h]at V);obtain⟨u1,u2,a1,a2,a3,a4⟩:=h4 0 W;obtain⟨v1,v2,b1,b2,b3,p'⟩:=h5 0 V;simp only[Nat.zero_mul,Nat.add_zero]at a1 a2 b1 b2;have p:=zh (zi a1 (zi a2 (zi b1 b2)));have A:=zh (fun w' (h:m.ay w')=>N7 v.aN[0] u1 u2 m w' h a3 a4);have G:=zh (fun w' (h:m.ay w')=>IU v.aA[0] v1 v2 m w' h b3 p');clear a1 a2 a3 a4 b1 b2 b3 p' h4 h5 HK D y7 y8 yl;generalize U1 v.aN[0]=OL at*
 generalize U0 v.aA[0]=OS at*
 generalize OG v=EV at*
 generalize v.aN.length=l4 at*
 generalize v.aA.length=l5 at*
 subst e1 e2
 go_upto_region 1 with(fail)
 refine aV [2] (fun vs w'=>vs=[.bool (tf EV)]/\zB w w') ?_ ?_
 .intro Y hY;by_cases L:B=0
  case neg=>
   have hd:(B==0)=false:=zO.2 L;rw[aF fun h=>L (HX.o.1 h).1]at hY;refine bF 31 6 (fun j=>[aI.is (·=.pointer (some ⟨w.heap.size,7,none⟩)),aI.is (·=.slice (some ⟨J,I,none⟩) 1 b4),aI.is (·=.int .i64 1),aI.is (·=.bool true),aI.is (·=.bool true),aI.is (·=.pointer (some ⟨w.heap.size,8,none⟩)),aI.is (·=.slice (some ⟨X,Q,none⟩) 1 b5),aI.is (·=.int .i64 1),aI.is (·=.bool true),aI.is (·=.bool true),aI.is (·=.bool true),aI.is (·=.pointer (some ⟨w.heap.size,1,none⟩)),aI.is (·=.agg #[n1,n2,n3,n4,n5,n6]),aI.mem m [13] (fun M u=>∃ui uf ut,u=lV.val ui uf ut/\dD M ui uf ut lV),aI.is (·=.int .i64 B),aI.is (·=.bool false),aI.is (·=.bool false),aI.is (·=.bool false),aI.is (·=Go.undef),aI.is (·=Go.undef),aI.is (·=Go.undef),aI.is (·=Go.undef),aI.is (·=Go.undef),aI.is (·=.bool false),aI.is (·=.bool false),aI.is (·=Go.undef),aI.is (·=Go.undef),aI.is (·=Go.undef),aI.is (·=Go.undef),aI.is (·=Go.undef),aI.is (·=.bool false)].getD j aI.any) zk zk ?_ ?_
   .intro i hi o win a wr ho RA;have HO2:=HO.o.dr.aS RA.az;have y7:=HO2.obj.c 7;have y8:=HO2.obj.c 8;have yl:=HO2.obj.lt;have q1:=HO2.obj.sub (o:=1) (cs:=[n1,n2,n3,n4,n5,n6]) (fun j u g=>by match j,g with|0,g=>exact g|1,g=>exact g|2,g=>exact g|3,g=>exact g|4,g=>exact g|5,g=>exact g|j+6,g=>simp at g);have x1:=Mem_cell_w HO2.ay p.o.1;have x2:=Mem_cell_w HO2.ay p.o.2.1;have xl:=Mem_cell_lt HO2.ay p.o.1;have z1:=Mem_cell_w HO2.ay p.o.2.2.1;have z2:=Mem_cell_w HO2.ay p.o.2.2.2;have zl:=Mem_cell_lt HO2.ay p.o.2.2.1;rcases(show i=0\/i=1\/i=2\/i=3\/i=4\/i=5\/i=6\/i=7\/i=8\/i=9\/i=10\/i=11\/i=12\/i=13\/i=14\/i=15\/i=16\/i=17\/i=18\/i=19\/i=20\/i=21\/i=22\/i=23\/i=24\/i=25\/i=26\/i=27\/i=28\/i=29\/i=30 by omega)with rfl|rfl|rfl|rfl|rfl|rfl|rfl|rfl|rfl|rfl|rfl|rfl|rfl|rfl|rfl|rfl|rfl|rfl|rfl|rfl|rfl|rfl|rfl|rfl|rfl|rfl|rfl|rfl|rfl|rfl|rfl
    .have e1:=RA.k 1;exact qaa
    .have L:zt a 3 _:=RA.d 0 rfl;exact qaa
    .have K:zt a 4 _:=RA.d 1 rfl;exact qaa
    .have e5:zt a 5 _:=RA.d 2 rfl;exact qaa
    .have e6:zt a 6 _:=RA.d 3 rfl;exact qaa
    .have e1:=RA.k 1;exact qad
    .have e8:zt a 8 _:=RA.d 5 rfl;exact qad
    .have e9:zt a 9 _:=RA.d 6 rfl;exact qad
    .have o':a.tmps.getD 10 undef=_:=RA.d 7 rfl;exact qad
    .have e7:zt a 7 _:=RA.d 4 rfl;have n':a.tmps.getD 11 undef=_:=RA.d 8 rfl;exact qaa
    .have m':a.tmps.getD 12 undef=_:=RA.d 9 rfl;exact qaa
    .exact qa5
    .exact qgC
    .exact qgw
    .have l':a.tmps.getD 15 undef=_:=RA.d 12 rfl;have z:(aI.mem m [13] (fun M u=>∃ui uf ut,u=lV.val ui uf ut/\dD M ui uf ut lV)).holds (a.tmps.getD 16 undef) win wr:=RA.d 13 rfl;have e13:zt a 13 _:=RA.d 10 rfl;cases ho;refine we2 rfl rfl rfl e13 (q.o (m.fJ wr win [13]) _ wr qiW qi0 z) ?_;exact qab
    .exact qgD
    .have e13:zt a 13 _:=RA.d 10 rfl;have k':a.tmps.getD 18 undef=_:=RA.d 15 rfl;exact qaa
    .have j':a.tmps.getD 19 undef=_:=RA.d 16 rfl;exact qaa
    .have e1:=RA.k 1;exact qaD
    .have i':a.tmps.getD 21 undef=_:=RA.d 18 rfl;exact qaD
    .have e22:zt a 22 _:=RA.d 19 rfl;exact qaD
    .have h':a.tmps.getD 23 undef=_:=RA.d 20 rfl;exact qaD
    .have g':a.tmps.getD 24 undef=_:=RA.d 21 rfl;exact qaD
    .have e20:zt a 20 _:=RA.d 17 rfl;have f':a.tmps.getD 25 undef=_:=RA.d 22 rfl;exact qaa
    .have e':a.tmps.getD 26 undef=_:=RA.d 23 rfl;exact qaa
    .have e1:=RA.k 1;exact qae
    .have d':a.tmps.getD 28 undef=_:=RA.d 25 rfl;exact qae
    .have c':a.tmps.getD 29 undef=_:=RA.d 26 rfl;exact qae
    .have b':a.tmps.getD 30 undef=_:=RA.d 27 rfl;exact qae
    .have a':a.tmps.getD 31 undef=_:=RA.d 28 rfl;exact qae
    .have e27:zt a 27 _:=RA.d 24 rfl;have Z:zt a 32 _:=RA.d 29 rfl;exact qaa
   .intro win a wr E;have e33:a.tmps.getD 33 undef=.bool false:=E.fact 30 _ zo rfl;exact qgx
  have hd:(B==0)=true:=beq_iff_eq.2 L;by_cases K:OL
  case neg=>
   have N:=zh (show ∀w',m.ay w'->_ from fun w' h=>by have:=A.o w' h;rw[aF K]at this;exact this);rw[aF fun h=>K (HX.o.1 h).2.1]at hY;refine bF 31 6 (fun j=>[aI.is (·=.pointer (some ⟨w.heap.size,7,none⟩)),aI.is (·=.slice (some ⟨J,I,none⟩) 1 b4),aI.is (·=.int .i64 1),aI.is (·=.bool true),aI.is (·=.bool true),aI.is (·=.pointer (some ⟨w.heap.size,8,none⟩)),aI.is (·=.slice (some ⟨X,Q,none⟩) 1 b5),aI.is (·=.int .i64 1),aI.is (·=.bool true),aI.is (·=.bool true),aI.is (·=.bool true),aI.is (·=.pointer (some ⟨w.heap.size,1,none⟩)),aI.is (·=.agg #[n1,n2,n3,n4,n5,n6]),aI.mem m [13] (fun M u=>∃ui uf ut,u=lV.val ui uf ut/\dD M ui uf ut lV),aI.is (·=.int .i64 B),aI.is (·=.bool true),aI.is (·=.bool true),aI.is (·=.bool true),aI.is (·=.pointer (some ⟨w.heap.size,7,none⟩)),aI.is (·=.slice (some ⟨J,I,none⟩) 1 b4),aI.is (·=.pointer (some ⟨J,I,none⟩)),aI.is (·=.agg #[u1,u2]),aI.is (·=.bool false),aI.is (·=.bool false),aI.is (·=.bool false),aI.is (·=Go.undef),aI.is (·=Go.undef),aI.is (·=Go.undef),aI.is (·=Go.undef),aI.is (·=Go.undef),aI.is (·=.bool false)].getD j aI.any) zk zk ?_ ?_
   .intro i hi o win a wr ho RA;have HO2:=HO.o.dr.aS RA.az;have y7:=HO2.obj.c 7;have y8:=HO2.obj.c 8;have yl:=HO2.obj.lt;have q1:=HO2.obj.sub (o:=1) (cs:=[n1,n2,n3,n4,n5,n6]) (fun j u g=>by match j,g with|0,g=>exact g|1,g=>exact g|2,g=>exact g|3,g=>exact g|4,g=>exact g|5,g=>exact g|j+6,g=>simp at g);have x1:=Mem_cell_w HO2.ay p.o.1;have x2:=Mem_cell_w HO2.ay p.o.2.1;have xl:=Mem_cell_lt HO2.ay p.o.1;have z1:=Mem_cell_w HO2.ay p.o.2.2.1;have z2:=Mem_cell_w HO2.ay p.o.2.2.2;have zl:=Mem_cell_lt HO2.ay p.o.2.2.1;rcases(show i=0\/i=1\/i=2\/i=3\/i=4\/i=5\/i=6\/i=7\/i=8\/i=9\/i=10\/i=11\/i=12\/i=13\/i=14\/i=15\/i=16\/i=17\/i=18\/i=19\/i=20\/i=21\/i=22\/i=23\/i=24\/i=25\/i=26\/i=27\/i=28\/i=29\/i=30 by omega)with rfl|rfl|rfl|rfl|rfl|rfl|rfl|rfl|rfl|rfl|rfl|rfl|rfl|rfl|rfl|rfl|rfl|rfl|rfl|rfl|rfl|rfl|rfl|rfl|rfl|rfl|rfl|rfl|rfl|rfl|rfl
    .have e1:=RA.k 1;exact qaa
    .have L:zt a 3 _:=RA.d 0 rfl;exact qaa
    .have K:zt a 4 _:=RA.d 1 rfl;exact qaa
    .have e5:zt a 5 _:=RA.d 2 rfl;exact qaa
    .have e6:zt a 6 _:=RA.d 3 rfl;exact qaa
    .have e1:=RA.k 1;exact qad
    .have e8:zt a 8 _:=RA.d 5 rfl;exact qad
    .have e9:zt a 9 _:=RA.d 6 rfl;exact qad
    .have o':a.tmps.getD 10 undef=_:=RA.d 7 rfl;exact qad
    .have e7:zt a 7 _:=RA.d 4 rfl;have n':a.tmps.getD 11 undef=_:=RA.d 8 rfl;exact qaa
    .have m':a.tmps.getD 12 undef=_:=RA.d 9 rfl;exact qaa
    .exact qa5
    .exact qgC
    .exact qgw
    .have l':a.tmps.getD 15 undef=_:=RA.d 12 rfl;have z:(aI.mem m [13] (fun M u=>∃ui uf ut,u=lV.val ui uf ut/\dD M ui uf ut lV)).holds (a.tmps.getD 16 undef) win wr:=RA.d 13 rfl;have e13:zt a 13 _:=RA.d 10 rfl;cases ho;refine we2 rfl rfl rfl e13 (q.o (m.fJ wr win [13]) _ wr qiW qi0 z) ?_;exact qab
    .exact qgD
    .have e13:zt a 13 _:=RA.d 10 rfl;have k':a.tmps.getD 18 undef=_:=RA.d 15 rfl;exact qaa
    .have j':a.tmps.getD 19 undef=_:=RA.d 16 rfl;exact qaa
    .have e1:=RA.k 1;exact qat
    .have i':a.tmps.getD 21 undef=_:=RA.d 18 rfl;exact qat
    .exact qg2
    .have h':a.tmps.getD 23 undef=_:=RA.d 20 rfl;exact qat
    .have g':a.tmps.getD 24 undef=_:=RA.d 21 rfl;have e20:zt a 20 _:=RA.d 17 rfl;cases ho;refine we2 rfl rfl rfl e20 (N.o _ HO2.ay) ?_;exact qab
    .have e20:zt a 20 _:=RA.d 17 rfl;have f':a.tmps.getD 25 undef=_:=RA.d 22 rfl;exact qaa
    .have e':a.tmps.getD 26 undef=_:=RA.d 23 rfl;exact qaa
    .have e1:=RA.k 1;exact qae
    .have d':a.tmps.getD 28 undef=_:=RA.d 25 rfl;exact qae
    .have c':a.tmps.getD 29 undef=_:=RA.d 26 rfl;exact qae
    .have b':a.tmps.getD 30 undef=_:=RA.d 27 rfl;exact qae
    .have a':a.tmps.getD 31 undef=_:=RA.d 28 rfl;exact qae
    .have e27:zt a 27 _:=RA.d 24 rfl;have Z:zt a 32 _:=RA.d 29 rfl;exact qaa
   .intro win a wr E;have e33:a.tmps.getD 33 undef=.bool false:=E.fact 30 _ zo rfl;exact qgx
  .have N:=zh (show ∀w',m.ay w'->_ from fun w' h=>by have:=A.o w' h;rw[aM K]at this;exact this);have I':=G;rw[dY (HX.o.trans ⟨fun h=>h.2.2,fun h=>⟨L,K,h⟩⟩)]at hY;generalize tf OS=rr at*
   refine bF 31 6 (fun j=>[aI.is (·=.pointer (some ⟨w.heap.size,7,none⟩)),aI.is (·=.slice (some ⟨J,I,none⟩) 1 b4),aI.is (·=.int .i64 1),aI.is (·=.bool true),aI.is (·=.bool true),aI.is (·=.pointer (some ⟨w.heap.size,8,none⟩)),aI.is (·=.slice (some ⟨X,Q,none⟩) 1 b5),aI.is (·=.int .i64 1),aI.is (·=.bool true),aI.is (·=.bool true),aI.is (·=.bool true),aI.is (·=.pointer (some ⟨w.heap.size,1,none⟩)),aI.is (·=.agg #[n1,n2,n3,n4,n5,n6]),aI.mem m [13] (fun M u=>∃ui uf ut,u=lV.val ui uf ut/\dD M ui uf ut lV),aI.is (·=.int .i64 B),aI.is (·=.bool true),aI.is (·=.bool true),aI.is (·=.bool true),aI.is (·=.pointer (some ⟨w.heap.size,7,none⟩)),aI.is (·=.slice (some ⟨J,I,none⟩) 1 b4),aI.is (·=.pointer (some ⟨J,I,none⟩)),aI.is (·=.agg #[u1,u2]),aI.is (·=.bool true),aI.is (·=.bool true),aI.is (·=.bool true),aI.is (·=.pointer (some ⟨w.heap.size,8,none⟩)),aI.is (·=.slice (some ⟨X,Q,none⟩) 1 b5),aI.is (·=.pointer (some ⟨X,Q,none⟩)),aI.is (·=.agg #[v1,v2]),aI.is (·=.bool rr),aI.is (·=.bool rr)].getD j aI.any) zk zk ?_ ?_
   .intro i hi o win a wr ho RA;have HO2:=HO.o.dr.aS RA.az;have y7:=HO2.obj.c 7;have y8:=HO2.obj.c 8;have yl:=HO2.obj.lt;have q1:=HO2.obj.sub (o:=1) (cs:=[n1,n2,n3,n4,n5,n6]) (fun j u g=>by match j,g with|0,g=>exact g|1,g=>exact g|2,g=>exact g|3,g=>exact g|4,g=>exact g|5,g=>exact g|j+6,g=>simp at g);have x1:=Mem_cell_w HO2.ay p.o.1;have x2:=Mem_cell_w HO2.ay p.o.2.1;have xl:=Mem_cell_lt HO2.ay p.o.1;have z1:=Mem_cell_w HO2.ay p.o.2.2.1;have z2:=Mem_cell_w HO2.ay p.o.2.2.2;have zl:=Mem_cell_lt HO2.ay p.o.2.2.1;rcases(show i=0\/i=1\/i=2\/i=3\/i=4\/i=5\/i=6\/i=7\/i=8\/i=9\/i=10\/i=11\/i=12\/i=13\/i=14\/i=15\/i=16\/i=17\/i=18\/i=19\/i=20\/i=21\/i=22\/i=23\/i=24\/i=25\/i=26\/i=27\/i=28\/i=29\/i=30 by omega)with rfl|rfl|rfl|rfl|rfl|rfl|rfl|rfl|rfl|rfl|rfl|rfl|rfl|rfl|rfl|rfl|rfl|rfl|rfl|rfl|rfl|rfl|rfl|rfl|rfl|rfl|rfl|rfl|rfl|rfl|rfl
    .have e1:=RA.k 1;exact qaa
    .have L:zt a 3 _:=RA.d 0 rfl;exact qaa
    .have K:zt a 4 _:=RA.d 1 rfl;exact qaa
    .have e5:zt a 5 _:=RA.d 2 rfl;exact qaa
    .have e6:zt a 6 _:=RA.d 3 rfl;exact qaa
    .have e1:=RA.k 1;exact qad
    .have e8:zt a 8 _:=RA.d 5 rfl;exact qad
    .have e9:zt a 9 _:=RA.d 6 rfl;exact qad
    .have o':a.tmps.getD 10 undef=_:=RA.d 7 rfl;exact qad
    .have e7:zt a 7 _:=RA.d 4 rfl;have n':a.tmps.getD 11 undef=_:=RA.d 8 rfl;exact qaa
    .have m':a.tmps.getD 12 undef=_:=RA.d 9 rfl;exact qaa
    .exact qa5
    .exact qgC
    .exact qgw
    .have l':a.tmps.getD 15 undef=_:=RA.d 12 rfl;have z:(aI.mem m [13] (fun M u=>∃ui uf ut,u=lV.val ui uf ut/\dD M ui uf ut lV)).holds (a.tmps.getD 16 undef) win wr:=RA.d 13 rfl;have e13:zt a 13 _:=RA.d 10 rfl;cases ho;refine we2 rfl rfl rfl e13 (q.o (m.fJ wr win [13]) _ wr qiW qi0 z) ?_;exact qab
    .exact qgD
    .have e13:zt a 13 _:=RA.d 10 rfl;have k':a.tmps.getD 18 undef=_:=RA.d 15 rfl;exact qaa
    .have j':a.tmps.getD 19 undef=_:=RA.d 16 rfl;exact qaa
    .have e1:=RA.k 1;exact qat
    .have i':a.tmps.getD 21 undef=_:=RA.d 18 rfl;exact qat
    .exact qg2
    .have h':a.tmps.getD 23 undef=_:=RA.d 20 rfl;exact qat
    .have g':a.tmps.getD 24 undef=_:=RA.d 21 rfl;have e20:zt a 20 _:=RA.d 17 rfl;cases ho;refine we2 rfl rfl rfl e20 (N.o _ HO2.ay) ?_;exact qab
    .have e20:zt a 20 _:=RA.d 17 rfl;have f':a.tmps.getD 25 undef=_:=RA.d 22 rfl;exact qaa
    .have e':a.tmps.getD 26 undef=_:=RA.d 23 rfl;exact qaa
    .have e1:=RA.k 1;exact qbn
    .have d':a.tmps.getD 28 undef=_:=RA.d 25 rfl;exact qbn
    .have c':a.tmps.getD 29 undef=_:=RA.d 26 rfl;have e27:zt a 27 _:=RA.d 24 rfl;cases ho;refine fH rfl (eX rfl rfl e27) (aO (by go_simp;try (intro hh;omega)) ⟨_,rfl,zR _ _,rfl⟩)
    .have b':a.tmps.getD 30 undef=_:=RA.d 27 rfl;exact qbn
    .have a':a.tmps.getD 31 undef=_:=RA.d 28 rfl;have e27:zt a 27 _:=RA.d 24 rfl;cases ho;refine we2 rfl rfl rfl e27 (I'.o _ HO2.ay) ?_;exact qab
    .have e27:zt a 27 _:=RA.d 24 rfl;have Z:zt a 32 _:=RA.d 29 rfl;exact qaa
   .intro win a wr E;have e33:a.tmps.getD 33 undef=.bool rr:=E.fact 30 _ zo rfl;exact qgx
 clear HO q A G p HX;exact qg1
theorem Vz(a0 q p o n m l k j i h g f e d c b a:zV)(w:zW):(Instr.build 35 #[(0,.agg #[a0,q,p,o,n,m,l,k,j]),(1,.agg #[i,h,g,f,e,d,c,b,a])]).run prog w=.ok (.agg #[a0,q,p,o,n,m,l,k,j,i,h,g,f,e,d,c,b,a]) w:=by kernel_rfl
theorem Fu{A B:List Value}(b:A.length=9)(a:B.length=9)(w:zW):(Instr.build 35 #[(0,.agg A.toArray),(1,.agg B.toArray)]).run prog w=.ok (.agg (A++B).toArray) w:=by
 match A,b,B,a with
 |[a0,a1,a2,a3,a4,a5,a6,a7,a8],_,[b0,b1,b2,b3,b4,b5,b6,b7,b8],_=>exact Vz a0 a1 a2 a3 a4 a5 a6 a7 a8 b0 b1 b2 b3 b4 b5 b6 b7 b8 w
theorem nL{P:Program}{w:zW}{o:Oper}{d:Operand->Value}{t:TypeId}{x y:Operand}{a b r:zV}(c:o.op=Op.build t #[(0,x),(1,y)])(f:d x=a)(e:d y=b)(g:(Instr.build t #[(0,a),(1,b)]).run P w=.ok r w):(execOp d o).run P w=.ok (.value r) w:=by
 simp[execOp,c,f,e,g,Result.andThen]
structure Xf (n:Nat) (v:Vl):Prop where
 snd:iQ n v
 src:tQ n v
 cnt:dA n v<=1048576
theorem Xf.Po{n:Nat}{v u:Vl}(h:Xf n v)(e:cz n v=some u):kQ n u:=⟨(D9 n v u h.snd e).1,RP n v u h.snd h.src e,yJ (uI n v u h.snd e) h.cnt⟩
def Lm(n:Nat)(d:Vd):Prop:=Xf n d.1/\Xf n d.2
theorem Xf.kids{n:Nat}{v:Vl}(h:Xf (n+1) v):∀d∈v.kids,Lm n d:=fun d hd=>by
 have h1:=h.snd.2 d hd;have h2:=h.src.2 d hd;exact qhI
def Mx(n:Nat)(v:Vl)(M:Mem)(e:Ending):Prop:=match cz n v with
 |some u=>∃s,e=.returned (.tuple #[u.val s,.bool true])/\bq M n s u
 |none=>e=.returned (.tuple #[.agg Sz,.bool false])
def CnH(n:Nat):Prop:=∀(v:Vl) (s:Sl) (m:Mem) (w:zW),m.ay w->dV m->bq m n s v->Xf n v->zC 55 #[v.val s] w fun e w'=>zB w w'/\Mx n v (m.grow w w') e
def fzQ(n:Nat)(d:Vd)(M:Mem)(e:Ending):Prop:=∃cs:List Value,cs.length=18/\(∀u∈cs,u.oneCell'=true)/\match gD (cz n) (dz n) d with
 |some u=>e=.returned (.tuple #[.agg cs.toArray,.bool true])/\∃x y,cs=dC u x y/\bq M n x u.1/\bq M n y u.2
 |none=>e=.returned (.tuple #[.agg cs.toArray,.bool false])
theorem Mx.cells{n:Nat}{v:Vl}{M:Mem}{e:Ending}(h:Mx n v M e):∃(N:List Value) (b:Bool),e=.returned (.tuple #[.agg N.toArray,.bool b])/\N.length=9/\(∀u∈N,u.oneCell'=true)/\b=(cz n v).isSome/\∀u,cz n v=some u->∃s,N=bu u s/\bq M n s u:=by
 unfold Mx at h
 cases hc:cz n v with
 |some u=>
  rw[hc]at h;obtain⟨s,rfl,k⟩:=h
  exact⟨bu u s,true,rfl,rfl,DF k,rfl,fun z a=>by cases a;exact⟨s,rfl,k⟩⟩
 |none=>
  rw[hc]at h;exact⟨Sz.toList,false,h,rfl,by simp[Value.oneCell'],rfl,fun z a=>by cases a⟩
theorem qx{n:Nat}(H:CnH n)(d:Vd)(x y:Sl)(m:Mem)(w:zW)(hm:m.ay w)(l:dV m)(h1:bq m n x d.1)(h2:bq m n y d.2)(k:Lm n d):
 zC 36 #[bP d x y] w fun e w'=>zB w w'/\fzQ n d (m.grow w w') e:=by
 have p:=((Own.start hm).al (dC d x y).toArray 35).al oz 35;simp only[bC]at p;have S:=zh (H d.1 x m _ p.ay l h1 k.1);have Q:=zh (fun(M:Mem) w' (h:M.ay w') (g:m.le M)=>H d.2 y M w' h (l.le g) (h2.le g) k.2);have HB:=zh (fun(a b:Vl) s T (M:Mem) w' (h:M.ay w') (ht:dV M) (k1:bq M n s b) (k2:bq M n T a) (V:cz n d.1=some a) (U:cz n d.2=some b)=>qW n b a s T M w' h ht k1 k2 (k.2.Po U) (k.1.Po V));have HT:=zh l;have hN:(bu d.1 x).length=9:=rfl;have v':(bu d.2 y).length=9:=rfl;have HD:=zh qiv;have O:=zh p;unfold Vl.val at S Q;unfold bP;have q0:=p.av.obj.sub (o:=0) (cs:=bu d.1 x) fun j u hj=>by simpa using HD.o.1 j u hj
 generalize bu d.1 x=N at*
 generalize bu d.2 y=N2 at*
 generalize dC d x y=D at*
 clear p h1 h2 k l;refine au fun R hR=>?_
 go_enter func36,ntmps36
 go_wp2_with (first
  |refine aj kK rfl (.tmp 9) rfl rfl N hN q0 ?_
  | fail)
 refine S.o.mono ?_;rintro e w1 ⟨i',J⟩;obtain⟨A,ba,rfl,la,oa,n',ha⟩:=J.cells;have l':=(O.o.call i').al Sz 33;have L:=zh l';have HA:=zh (zi n' ha);clear O S i' J l' q0 n' ha
 go_wp2_with (first
  |(refine aB kK rfl (.tmp 4) (.tmp 12) rfl (cs:=A.toArray) rfl rfl rfl (by simpa using la) (fun u hu=>oa u qdQ) L.o.obj ?_;intro w2 Z g';have i:=L.o.aW Z g';have q1:=i.aP.obj.sub (o:=9) (cs:=N2) fun j u hj=>by simpa using HD.o.2 j u hj)
  |refine aj kK rfl (.tmp 15) rfl rfl N2 v' q1 ?_
  | fail)
 refine(Q.o _ _ i.ay i.ext.le).mono ?_;rintro e W ⟨h',J⟩;obtain⟨B,bb,rfl,lb,ob,m',hb⟩:=J.cells;have k':=i.call h';have r:=Mem_le_grow (w:=W) i.ay;have HM:=zh (zi (Mem.le_trans i.ext.le r) (zi (fun u (hu:cz n d.1=some u)=>by obtain⟨s,e,h⟩:=HA.o.2 u hu;exact(⟨s,e,h.le r⟩:∃s,A=bu u s/\bq _ n s u)) hb));have HE:=zh (zi HA.o.1 m');have K:=zh (k'.al Sz 33);clear L HA i Z g' h' J k' r hb m' q1 Q HD
 go_wp2_with (first
  |(refine aB kK rfl (.tmp 6) (.tmp 18) rfl (cs:=B.toArray) rfl rfl rfl (by simpa using lb) (fun u hu=>ob u qdQ) K.o.obj ?_;intro w4 X f';have o':=zh (K.o.aW X f'))
  | fail)
 obtain⟨C,p,g,hA,hB⟩:∃C,Own w m w4 C [.obj W.heap.size 33 B.toArray,.obj w1.heap.size 33 A.toArray,.obj (w.heap.size+1) 35 oz,.obj w.heap.size 35 D.toArray]/\m.le C/\(∀u,cz n d.1=some u->∃s,A=bu u s/\bq C n s u)/\∀u,cz n d.2=some u->∃s,B=bu u s/\bq C n s u:=⟨_,o'.o,HM.o⟩;have O:=zh p;have HR:=zh (zi hA hB);obtain⟨F,e'⟩:∃F,F=(gD (cz n) (dz n) d).isSome:=⟨_,rfl⟩;have E:=zh e';have G:=zh (fun(a b:Vl) w' (h:C.ay w') (V:cz n d.1=some a) (U:cz n d.2=some b)=>show zC 32 #[.agg B.toArray,.agg A.toArray] w' fun e I=>e=.returned (.bool (tf (dz n b a)))/\Below w'.heap.size w' I from by
  obtain⟨s,e3,k1⟩:=hA a V;obtain⟨T,e4,k2⟩:=hB b U;rw[e3,e4];exact HB.o a b T s C w' h (HT.o.le g) k2 k1 V U)
 clear K o' HM X f' p hA hB e' HB HT;refine aV [2,3] (fun vs w'=>vs=[.pointer (some ⟨w.heap.size+1,0,none⟩),.bool F]/\Own w m w' C [.obj (w.heap.size+1) 35 (A++B).toArray]) ?_ ?_
 .intro Y hY
  cases hca:cz n d.1 with
  |none=>
   obtain rfl:ba=false:=by rw[HE.o.1,hca];rfl
   obtain rfl:F=false:=by rw[E.o];unfold gD;rw[hca];rfl
   refine gL (fun w'=>aZ w' W.heap.size 33 B.toArray/\aZ w' w1.heap.size 33 A.toArray) 13 zk ?_;have f:=O.o.dr;have c:=zi f.obj f.av.obj;refine aD 0 rfl zk qfd c qiC ?_;go_simp;refine aD 1 rfl zk qfd c qiB ?_;go_simp;refine aD 2 rfl zk qfd c qiG ?_;go_simp;refine aD 3 rfl zk qfd c qiq ?_;go_simp;refine aD 4 rfl zk qfd c qiq ?_;go_simp;refine aD 5 rfl zk qfd c (.inr ⟨rfl,rfl⟩) ?_;go_simp;refine aD 6 rfl zk qfd c qiq ?_;go_simp;refine aD 7 rfl zk qfd c qiq ?_;go_simp;refine aD 8 rfl zk qfd c (.inr ⟨rfl,rfl⟩) ?_;go_simp;refine aD 9 rfl zk qfd c (.inr ⟨rfl,rfl⟩) ?_;go_simp;refine aD 10 rfl zk qfd c (.inr ⟨rfl,rfl⟩) ?_;go_simp;refine aD 11 rfl zk qfd c qiq ?_;go_simp;refine aQ 12 zk (aJ rfl rfl (qN dU (.tmp 2) (.tmp 22) rfl (cs:=(A++B).toArray) zg zg rfl qeT (fun u hu=>by rcases yP.1 qdQ with h|h<;>first|exact oa u h|exact ob u h) f.aP.obj fun w5 q t=>?_));have hO7:=f.aP.aW q t;refine iq qi4 fun j'=>?_;go_simp;refine aQ 13 zk (aJ rfl rfl (aO qdT (jJ rfl ?_)));refine eP zk ?_ _
   exact qhK
  |some va=>cases hcb:cz n d.2 with
   |none=>
    obtain rfl:ba=true:=by rw[HE.o.1,hca];rfl
    obtain rfl:bb=false:=by rw[HE.o.2,hcb];rfl
    obtain rfl:F=false:=by rw[E.o];unfold gD;rw[hca,hcb];rfl
    refine gL (fun w'=>aZ w' W.heap.size 33 B.toArray/\aZ w' w1.heap.size 33 A.toArray) 13 zk ?_;have f:=O.o.dr;have c:=zi f.obj f.av.obj;refine aD 0 rfl zk qfd c qiC ?_;go_simp;refine aD 1 rfl zk qfd c qiB ?_;go_simp;refine aD 2 rfl zk qfd c qiG ?_;go_simp;refine aD 3 rfl zk qfd c qiq ?_;go_simp;refine aD 4 rfl zk qfd c qiq ?_;go_simp;refine aD 5 rfl zk qfd c qiq ?_;go_simp;refine aD 6 rfl zk qfd c qiq ?_;go_simp;refine aD 7 rfl zk qfd c qiq ?_;go_simp;refine aD 8 rfl zk qfd c (.inr ⟨rfl,rfl⟩) ?_;go_simp;refine aD 9 rfl zk qfd c (.inr ⟨rfl,rfl⟩) ?_;go_simp;refine aD 10 rfl zk qfd c (.inr ⟨rfl,rfl⟩) ?_;go_simp;refine aD 11 rfl zk qfd c qiq ?_;go_simp;refine aQ 12 zk (aJ rfl rfl (qN dU (.tmp 2) (.tmp 22) rfl (cs:=(A++B).toArray) zg zg rfl qeT (fun u hu=>by rcases yP.1 qdQ with h|h<;>first|exact oa u h|exact ob u h) f.aP.obj fun w5 q t=>?_));have hO7:=f.aP.aW q t;refine iq qi4 fun j'=>?_;go_simp;refine aQ 13 zk (aJ rfl rfl (aO qdT (jJ rfl ?_)));refine eP zk ?_ _
    exact qhK
   |some vb=>
    obtain rfl:ba=true:=by rw[HE.o.1,hca];rfl
    obtain rfl:bb=true:=by rw[HE.o.2,hcb];rfl
    have E':=zh (show ∀w',C.ay w'->zC 32 #[.agg B.toArray,.agg A.toArray] w' fun e I=>e=.returned (.bool F)/\Below w'.heap.size w' I from fun w' h=>by
     have:=G.o va vb w' h hca hcb;have e:F=tf (dz n vb va):=by
      rw[E.o];unfold gD;rw[hca,hcb];by_cases g:dz n vb va
      .simp[aM g]
      .simp[aF g]
     rw[e];exact this)
    refine gL (fun w'=>aZ w' W.heap.size 33 B.toArray/\aZ w' w1.heap.size 33 A.toArray) 13 zk ?_;have f:=O.o.dr;have c:=zi f.obj f.av.obj;refine aD 0 rfl zk qfd c qiC ?_;go_simp;refine aD 1 rfl zk qfd c qiB ?_;go_simp;refine aD 2 rfl zk qfd c qiG ?_;go_simp;refine aD 3 rfl zk qfd c qiq ?_;go_simp;refine aD 4 rfl zk qfd c qiq ?_;go_simp;refine aD 5 rfl zk qfd c qiq ?_;go_simp;refine aD 6 rfl zk qfd c qiq ?_;go_simp;refine aD 7 rfl zk qfd c qiq ?_;go_simp;refine aD 8 rfl zk qfd c qiB ?_;go_simp;refine aD 9 rfl zk qfd c qiC ?_;go_simp;refine aQ 10 zk (fH rfl rfl (dE zg (E'.o _ f.ay) ?_));rintro e w6 ⟨rfl,u'⟩;have z:=f.aS u';refine⟨_,rfl,iq (zi z.obj z.av.obj) fun c=>?_⟩;go_simp;refine aD 11 rfl zk qfd c qiq ?_;go_simp;refine aQ 12 zk (aJ rfl rfl (qN dU (.tmp 2) (.tmp 22) rfl (cs:=(A++B).toArray) zg zg rfl qeT (fun u hu=>by rcases yP.1 qdQ with h|h<;>first|exact oa u h|exact ob u h) z.aP.obj fun w5 q t=>?_));have hO7:=z.aP.aW q t;refine iq qi4 fun j'=>?_;go_simp;refine aQ 13 zk (aJ rfl rfl (aO qdT (jJ rfl ?_)));refine eP zk ?_ _;exact qhK
 clear O G;rintro z1 vs w5-⟨rfl,p⟩;simp[bB,lk];have J:=dU.load (P:=prog) (cs:=A++B) qeT p.obj.all;have HF:=zh (zi p.az p.done);clear p;go_wp2;refine yV (v:=.tuple #[.agg (A++B).toArray,.bool F]) (ek results36 rfl J) rfl ?_;refine hR.o _ _ ⟨HF.o.1,A++B,by simp[la,lb],fun u hu=>by rcases yP.1 hu with h|h<;>first|exact oa u h|exact ob u h,?_⟩;have h:=E.o
 cases hc:gD (cz n) (dz n) d with
 |none=>rw[hc]at h;rw[h];rfl
 |some u=>
  rw[hc]at h;rw[h];obtain⟨V,U,-⟩:=A9 hc;obtain⟨s,e3,k1⟩:=HR.o.1 _ V;obtain⟨T,e4,k2⟩:=HR.o.2 _ U;exact⟨rfl,s,T,by rw[e3,e4];rfl,k1.le HF.o.2,k2.le HF.o.2⟩
theorem fzQ.cells{n:Nat}{d:Vd}{M:Mem}{e:Ending}(h:fzQ n d M e):∃(cs:List Value) (ok:Bool),e=.returned (.tuple #[.agg cs.toArray,.bool ok])/\cs.length=18/\(∀u∈cs,u.oneCell'=true)/\ok=(gD (cz n) (dz n) d).isSome/\∀u,gD (cz n) (dz n) d=some u->∃x y,cs=dC u x y/\bq M n x u.1/\bq M n y u.2:=by
 obtain⟨cs,c,b,a⟩:=h
 cases hc:gD (cz n) (dz n) d with
 |none=>rw[hc]at a;exact⟨cs,false,a,c,b,rfl,fun u g=>by cases g⟩
 |some u=>rw[hc]at a;exact⟨cs,true,a.1,c,b,rfl,fun v f=>by cases f;exact a.2⟩
theorem Lm.Po{n:Nat}{d e:Vd}(h:Lm n d)(k:gD (cz n) (dz n) d=some e):Aq n e:=⟨h.1.Po (A9 k).1,h.2.Po (A9 k).2.1⟩
theorem kQ.lF{n:Nat}{v:Vl}{x:Sl}{m:Mem}{w:zW}(h:kQ n v)(d:m.ay w)(a:dV m)(c:bq m n x v):
 zX 16 #[.agg (bu v x).toArray] w (.bool (ja v)):=by
 cases n with
 |zero=>exact c.elim
 |succ n=>
  have b:=h.fit.1;exact Gl v x m (n+1) w d a c ⟨by have:=b.i;omega,by have:=b.fr;omega,by have:=b.t;omega⟩ (by have:=b.l;omega) (by have:=b.s;omega)
theorem oJ{P:Program}{c:Func}{k i j:Nat}{t:TypeId}{a:Array Value}{w:zW}{v:zV}{b:Addr}(hf:c.results=#[.cell k t,.tmp i,.tmp j])(hk:a.getD k undef=.pointer (some b))(hr:(loadVar t b).run P w=.ok v w):(results c a).run P w=.ok (.tuple #[v,a.getD i undef,a.getD j undef]) w:=by
 exact qdB
def ZF(n:Nat)(c:Lc)(M:Mem)(e:Ending):Prop:=match mG (cz n) (dz n) c with
 |some y=>∃u a,e=.returned (.tuple #[.agg #[u,a],.bool y.2,.bool true])/\bG (bq M n) M u y.1.1/\bG (bq M n) M a y.1.2
 |none=>e=.returned (.tuple #[.agg #[.slice none 0 0,.slice none 0 0],.bool false,.bool false])
theorem Fq{n:Nat}(H:CnH n)(c:Lc)(u u2:zV)(m:Mem)(w:zW)(hm:m.ay w)(b':dV m)(h1:bG (bq m n) m u c.1)(h2:bG (bq m n) m u2 c.2)(k:∀d∈aY c,Lm n d)(u':(aY c).length<=1048576):
 zC 80 #[.agg #[u,u2]] w fun e w'=>zB w w'/\ZF n c (m.grow w w') e:=by
 obtain⟨a1,c1,rfl,p1,q1,Z⟩:=h1;obtain⟨a2,c2,rfl,p2,q2,k2⟩:=h2;unfold maxLen at q1 q2;have hl1:c.1.length+c.2.length<=1048576:=by rw[<-zL];exact u'
 have a:=((((Own.start hm).al #[.slice a1 c.1.length c1,.slice a2 c.2.length c2] 50).al #[.slice none 0 0,.slice none 0 0] 50).al #[.slice none 0 0,.slice none 0 0] 50).fC 35 18;simp only[bC]at a;have g0:=a.bR.obj.c 0;have gl:=a.bR.obj.lt;have I:=zh a;have HK:=zh (zi Z k2);have HH:=zh (zi b' k);have HCV:=zh (fun(M:Mem) (d:Vd) x y w' (h:M.ay w') (g:m.le M) (Z:bq M n x d.1) (k2:bq M n y d.2) (kd:Lm n d)=>qx H d x y M w' h (b'.le g) Z k2 kd);obtain⟨cf,Z'⟩:∃cf,cf=gD (cz n) (dz n):=⟨_,rfl⟩;have HCF:=zh Z';clear a Z k2 b' k H u' Z';refine au fun R hR=>?_
 go_enter func80,ntmps80
 go_wp2;refine aC [1,2,5,6,16,17,18] (fun q vs wr=>∃(i:Nat) (K:Mem) (rv:zV) (xs:List Value) (es:List Vd),i<=c.1.length/\q=c.1.length-i/\vs=[.pointer (some ⟨w.heap.size,0,none⟩),.pointer (some ⟨w.heap.size+1,0,none⟩),.pointer (some ⟨w.heap.size+1+1,0,none⟩),.bool (es.all fun d => !ja d.1),.slice a1 c.1.length c1,.int .i64 (c.1.length:Int),.int .i64 (i:Int)]/\gQ cf (c.1.take i)=some es/\kW (bq K n) xs es/\m.le K /\
  Own w m wr K [.row rv 35 18 es.length xs,.obj (w.heap.size+1+1) 50 #[rv,.slice none 0 0],.obj (w.heap.size+1) 50 #[.slice none 0 0,.slice none 0 0],.obj w.heap.size 50 #[.slice a1 c.1.length c1,.slice a2 c.2.length c2]]) ?_ ?_
 .exact⟨_,0,m,_,[],[],zG _,rfl,rfl,rfl,.nil _,Mem.le_refl _,I.o⟩
 clear I g0 gl;rintro X z q vs wr hX-⟨i,K,rv,xs,es,hi,rfl,rfl,he,hv,g,a⟩;simp[bB,lk];have p:=zh (zi he (zi hv g));have W:=iM he;rw[List.length_take,Nat.min_eq_left hi]at W;have hel2:es.length<=1048576:=zo;have HEL:=zh W;clear W;clear he hv g;by_cases hlt:i<c.1.length
 case neg=>
  obtain rfl:i=c.1.length:=zo;have HE1:=zh (show gQ cf c.1=some es from by have:=p.o.1;rwa [yG]at this);obtain⟨bl,I'⟩:∃b,b=es.all fun d => !ja d.1:=⟨_,rfl⟩;rw[<-I'];have r':=zh I';have g0:=a.bR.obj.c 1;have gl:=a.bR.obj.lt;have I:=zh ((a.fC 35 18).sub (.cons_cons _ (.cons_cons _ (.cons_cons _ (.cons_cons _ (List.nil_sublist _))))));have O':=zh p.o.2;clear a hX p HEL I' hlt hi;go_wp2;refine aC [2,5,6,45,46,47] (fun q vs wr=>∃(i:Nat) (K:Mem) (n':zV) (ys:List Value) (J:List Vd),i<=c.2.length/\q=c.2.length-i/\vs=[.pointer (some ⟨w.heap.size+1,0,none⟩),.pointer (some ⟨w.heap.size+1+1,0,none⟩),.bool bl,.slice a2 c.2.length c2,.int .i64 (c.2.length:Int),.int .i64 (i:Int)]/\gQ cf (c.2.take i)=some J/\kW (bq K n) ys (J.filter fun d => !ja d.1)/\kW (bq K n) xs es/\m.le K /\
   Own w m wr K [.row n' 35 18 (J.filter fun d => !ja d.1).length ys,.row rv 35 18 es.length xs,.obj (w.heap.size+1+1) 50 #[rv,n'],.obj (w.heap.size+1) 50 #[.slice none 0 0,.slice none 0 0]]) ?_ ?_
  .exact⟨_,0,K,_,[],[],zG _,rfl,rfl,rfl,.nil _,O'.o.1,O'.o.2,I.o⟩
  clear I g0 gl O';rintro X z q vs wr hX-⟨i,K,n',ys,J,hi,rfl,rfl,he,hv,W',g,a⟩;simp[bB,lk];have p:=zh (zi he (zi hv (zi W' g)));have W:=iM he;rw[List.length_take,Nat.min_eq_left hi]at W;have hfl:=vB (fun d:Vd => !ja d.1) J;have hfl2:(J.filter fun d => !ja d.1).length<=1048576:=zo;clear he hv W' g W hfl;by_cases hlt:i<c.2.length
  case neg=>
   obtain rfl:i=c.2.length:=zo;have HCN:=zh (show mG (cz n) (dz n) c=some ((es,J.filter fun d => !ja d.1),bl) from by
    have h2:=p.o.1;rw[yG]at h2;unfold mG;rw[<-HCF.o,HE1.o,h2,r'.o];rfl)
   obtain⟨C',A',rfl⟩:=bz a.row;obtain⟨D',B',rfl⟩:=bz a.av.row;have y0:=a.aP.obj.c 0;have y1:=a.aP.obj.c 1;have yl:=a.aP.obj.lt;have I:=zh a;clear a hX
   go_wp2_with (refine aB FQ rfl (.tmp 2) (.tmp 70) rfl (cs:=#[.slice D' es.length B',.slice C' (J.filter fun d => !ja d.1).length A']) rfl rfl rfl rfl qdS I.o.bR.obj ?_)
   intro w5 s L;have hr:=FQ.load (P:=prog) (cs:=[.slice D' es.length B',.slice C' (J.filter fun d => !ja d.1).length A']) rfl s.all;have E:=(I.o.bR.aW s L);have hA:=E.tail;have HF:=zh (zi E.az (zi (bG.Iy (m:=m.grow w w5) hA.av.row (p.o.2.2.1) hA.av.free hA.av.bO.done) (bG.Iy (m:=m.grow w w5) hA.row p.o.2.1 hA.free hA.bO.done)));clear I E hA s L y0 y1 yl;go_wp2;refine yV (v:=.tuple #[.agg #[.slice D' es.length B',.slice C' (J.filter fun d => !ja d.1).length A'],.bool bl,.bool true]) (oJ results80 rfl hr) rfl ?_;refine hR.o _ _ ⟨HF.o.1,?_⟩;unfold ZF;rw[HCN.o];exact⟨_,_,rfl,HF.o.2.1,HF.o.2.2⟩
  obtain⟨b,off,rfl,h4⟩:=HK.o.2 qdP;obtain⟨x,y,hc,hx,hy⟩:=(h4 i hlt).cells;have g:=p.o.2.2.2;have A:=Mem_inn_le g a.ay;have hcl:=Mem_cell_lt A (hc 0 _ rfl);have HC:=zh (fun j u hj=>Mem_cell_w A (hc j u hj));have h1:=fZ hx hy;have hl:(dC c.2[i] x y).length=18:=rfl;have HD:=zh (HH.o.2 _ (mE hlt));have S:=zh (fun w' (h:K.ay w')=>HCV.o K c.2[i] x y w' h g (hx.le g) (hy.le g) HD.o);have HT:=zh (show gQ cf (c.2.take (i+1))=(cf c.2[i]).map fun y=>J++[y] from by rw[qR hlt,p.o.1];rfl);have U:=zh (show cf c.2[i]=none->mG (cz n) (dz n) c=none from fun h=>by
   unfold mG;rw[<-HCF.o,HE1.o,oO (zF hlt) h];rfl)
  have I:=zh (a.al oz 35);unfold bP at S;generalize dC c.2[i] x y=D at*
  generalize c.2[i]=d at*
  clear a h4 hc hx hy A g
  go_wp2_with (first
   |refine aj dU rfl (.tmp 49) rfl rfl D hl HC.o ?_
   |(refine aB dU rfl (.tmp 12) (.tmp 50) rfl (cs:=D.toArray) rfl rfl rfl qdY (fun u hu=>h1 u qdQ) I.o.obj ?_;intro w2 a' g';have F:=I.o.aW a' g';have q1:=F.obj.all)
   |refine aj dU rfl (.tmp 12) rfl rfl D hl q1 ?_
   | fail)
  refine(S.o _ F.ay).mono ?_;rintro e w3 ⟨i',hr⟩;obtain⟨cs,ok,rfl,vJ,O,G,Q⟩:=hr.cells;rw[<-HCF.o]at G Q;have V:=zh (zi (Mem_le_grow (w:=w3) F.ay) Q);have l:=zh ((F.call i').tail.al oz 35);clear I F i' hr S q1 a' g' HC h1 Q
  cases hcd:cf d with
  |none=>
   obtain rfl:ok=false:=by rw[G,hcd];rfl
   have M':=zh (U.o hcd);clear U HT p V hcd G
   go_wp2_with (first
    |(refine aB dU rfl (.tmp 13) (.tmp 54) rfl (cs:=cs.toArray) rfl rfl rfl qid (fun u hu=>O u qdQ) l.o.obj ?_;intro w4 t B;have r:=l.o.aW t B)
    | refine aB FQ rfl (.tmp 2) (.tmp 58) rfl (cs:=#[.slice none 0 0,.slice none 0 0]) rfl rfl rfl rfl zD r.fifth.obj ?_)
   intro w5 s L;have hr:=FQ.load (P:=prog) (cs:=[.slice none 0 0,.slice none 0 0]) rfl s.all;have HB:=zh (r.fifth.aW s L).az;clear l r t B s L;go_wp2;refine yV (v:=.tuple #[.agg #[.slice none 0 0,.slice none 0 0],.bool false,.bool false]) (oJ results80 rfl hr) rfl ?_
   exact hR.o _ _ ⟨HB.o,by unfold ZF;rw[M'.o]⟩
  |some e=>
   obtain rfl:ok=true:=by rw[G,hcd];rfl
   obtain⟨x',y',j',Z,k2⟩:=V.o.2 e hcd;have v':=zh (HD.o.Po qeq);have HBT:=zh (fun w' (h:(K.grow w2 w3).ay w')=>v'.o.1.lF h (HH.o.1.le (Mem.le_trans p.o.2.2.2 V.o.1)) Z);have f:=zh (zi (show gQ cf (c.2.take (i+1))=some (J++[e]) from by rw[HT.o,hcd];rfl) (zi (p.o.2.1.mono fun _ _ h=>h.le V.o.1) (zi (p.o.2.2.1.mono fun _ _ h=>h.le V.o.1) (zi (Mem.le_trans p.o.2.2.2 V.o.1) ((p.o.2.1.mono fun _ _ h=>h.le V.o.1).push Z k2)))));have T:=zh (fun j u hj=>@lh e x' y' j u hj);have o':(bu e.1 x').length=9:=rfl;have q':=zh (show(J++[e]).filter (fun d => !ja d.1)=(J.filter fun d => !ja d.1)++if ja e.1 then[]else[e] from by
    rw[List.filter_append];cases h:ja e.1<;>simp[h])
   rw[<-j']at f T;generalize bu e.1 x'=N at*
   clear U HT p V hcd G j' Z k2 v';generalize ja e.1=be at*
   generalize K.grow w2 w3=k' at*
   go_wp2_with (first
    |(refine aB dU rfl (.tmp 13) (.tmp 54) rfl (cs:=cs.toArray) rfl rfl rfl qid (fun u hu=>O u qdQ) l.o.obj ?_;intro w4 t B;have r:=l.o.aW t B;have q1:=r.obj.sub (o:=0) (cs:=N) (fun j u hj=>by simpa using T.o j u hj))
    |refine aj kK rfl (.tmp 59) rfl rfl N o' q1 ?_
    | fail)
   refine(HBT.o _ r.ay).mono ?_;rintro e5 w5 ⟨rfl,hb5⟩;have E:=r.aS hb5;clear l r hb5 q1 t B HBT T
   cases be with
   |true=>
    have e6:(J++[e]).filter (fun d => !ja d.1)=J.filter fun d => !ja d.1:=by rw[q'.o];simp
    have HQ:=zh (zi e6 E.tail);clear E e6 q';go_wp2
    exact hX.o _ _ _ zo rfl ⟨i+1,k',_,_,J++[e],zo,rfl,rfl,f.o.1,by rw[HQ.o.1];exact f.o.2.1,f.o.2.2.1,f.o.2.2.2.1,by rw[HQ.o.1];exact HQ.o.2⟩
   |false=>
    have e6:(J++[e]).filter (fun d => !ja d.1)=(J.filter fun d => !ja d.1)++[e]:=by rw[q'.o];simp
    have HQ:=zh e6;have y0:=E.bR.obj.c 1;have yl:=E.bR.obj.lt;have q1:=E.obj.all;have I:=zh E;clear E e6 q';generalize Y':(J.filter fun d => !ja d.1)=RS at*
    have HRS:=zh Y';clear Y'
    go_wp2_with (first
     |refine aj dU rfl (.tmp 13) rfl rfl cs vJ q1 ?_
     |(refine gu jZ dU qD rfl zo rfl (.tmp 65) rfl (cs:=cs.toArray) rfl qid ?_;have HO7:=zh (I.o.al cs.toArray 35))
     | (at_builtin;refine aT jZ rfl (.tmp 64) (.tmp 66) rfl n' RS.length ys rfl HO7.o.aP.row ⟨w5.heap.size,0,none⟩ 1 1 cs rfl vJ qe7 O qdR zo ?_))
    intro va vc w8 e' f' c';have C:=(HO7.o.aP.app e' f' c' zS).bK.bK;have y0:=C.aP.obj.c 1;have yl:=C.aP.obj.lt;have yf:=C.aP.obj.frozen 1;have N':=zh (C.aP.set 1 (.slice va (RS.length+1) vc)).aP.aP;clear I HO7 C e' f' c' q1;go_wp2;exact hX.o _ _ _ zo rfl ⟨i+1,k',_,_,J++[e],zo,rfl,rfl,f.o.1,by rw[HQ.o];exact f.o.2.2.2.2,f.o.2.2.1,f.o.2.2.2.1,by rw[HQ.o];simpa using N'.o⟩
 obtain⟨b,off,rfl,h4⟩:=HK.o.1 qdP;obtain⟨x,y,hc,hx,hy⟩:=(h4 i hlt).cells;have A:=Mem_inn_le p.o.2.2 a.ay;have hcl:=Mem_cell_lt A (hc 0 _ rfl);have HC:=zh (fun j u hj=>Mem_cell_w A (hc j u hj));have h1:=fZ hx hy;have hl:(dC c.1[i] x y).length=18:=rfl;have HD:=zh (HH.o.2 _ (mU hlt));have S:=zh (fun w' (h:K.ay w')=>HCV.o K c.1[i] x y w' h p.o.2.2 (hx.le p.o.2.2) (hy.le p.o.2.2) HD.o);have HT:=zh (show gQ cf (c.1.take (i+1))=(cf c.1[i]).map fun y=>es++[y] from by rw[qR hlt,p.o.1];rfl);have U:=zh (show cf c.1[i]=none->mG (cz n) (dz n) c=none from fun h=>by
  unfold mG;rw[<-HCF.o,oO (zF hlt) h];rfl)
 have I:=zh (a.al oz 35);unfold bP at S;generalize dC c.1[i] x y=D at*
 generalize c.1[i]=d at*
 clear a h4 hc hx hy A
 go_wp2_with (first
  |refine aj dU rfl (.tmp 20) rfl rfl D hl HC.o ?_
  |(refine aB dU rfl (.tmp 8) (.tmp 21) rfl (cs:=D.toArray) rfl rfl rfl qdY (fun u hu=>h1 u qdQ) I.o.obj ?_;intro w2 a' g';have F:=I.o.aW a' g';have q1:=F.obj.all)
  |refine aj dU rfl (.tmp 8) rfl rfl D hl q1 ?_
  | fail)
 refine(S.o _ F.ay).mono ?_;rintro e w3 ⟨i',hr⟩;obtain⟨cs,ok,rfl,vJ,O,G,Q⟩:=hr.cells;rw[<-HCF.o]at G Q;have V:=zh (zi (Mem_le_grow (w:=w3) F.ay) Q);have l:=zh ((F.call i').tail.al oz 35);clear I F i' hr S q1 a' g' HC h1 Q
 cases hcd:cf d with
 |none=>
  obtain rfl:ok=false:=by rw[G,hcd];rfl
  have M':=zh (U.o hcd);clear U HT p V hcd G
  go_wp2_with (first
   |(refine aB dU rfl (.tmp 9) (.tmp 25) rfl (cs:=cs.toArray) rfl rfl rfl qid (fun u hu=>O u qdQ) l.o.obj ?_;intro w4 t B;have r:=l.o.aW t B)
   | refine aB FQ rfl (.tmp 2) (.tmp 29) rfl (cs:=#[.slice none 0 0,.slice none 0 0]) rfl rfl rfl rfl zD r.bR.obj ?_)
  intro w5 s L;have hr:=FQ.load (P:=prog) (cs:=[.slice none 0 0,.slice none 0 0]) rfl s.all;have HB:=zh (r.bR.aW s L).az;clear l r t B s L;go_wp2;refine yV (v:=.tuple #[.agg #[.slice none 0 0,.slice none 0 0],.bool false,.bool false]) (oJ results80 rfl hr) rfl ?_
  exact hR.o _ _ ⟨HB.o,by unfold ZF;rw[M'.o]⟩
 |some e=>
  obtain rfl:ok=true:=by rw[G,hcd];rfl
  obtain⟨x',y',j',Z,k2⟩:=V.o.2 e hcd;have r':=zh (HD.o.Po qeq);have f:=zh (zi (show gQ cf (c.1.take (i+1))=some (es++[e]) from by rw[HT.o,hcd];rfl) (zi ((p.o.2.1.mono fun _ _ h=>h.le V.o.1).push Z k2) (Mem.le_trans p.o.2.2 V.o.1)));have HBT:=zh (fun w' (h:(K.grow w2 w3).ay w')=>r'.o.1.lF h (HH.o.1.le (Mem.le_trans p.o.2.2 V.o.1)) Z);have T:=zh (fun j u hj=>@lh e x' y' j u hj);have o':(bu e.1 x').length=9:=rfl;rw[<-j']at f T;generalize bu e.1 x'=N at*
  obtain⟨p',h'⟩:∃b,b=((es++[e]).all fun d => !ja d.1):=⟨_,rfl⟩;have P':=zh (show p'=((es.all fun d => !ja d.1) && !ja e.1)by rw[h'];simp);have HB2:=zh h';clear U HT p V hcd G j' Z k2 r' h';generalize (es.all fun d => !ja d.1)=bl at*
  generalize ja e.1=be at*
  generalize K.grow w2 w3=k' at*
  go_upto_region 9 with(first
   | (refine aB dU rfl (.tmp 9) (.tmp 25) rfl (cs:=cs.toArray) rfl rfl rfl qid (fun u hu=>O u qdQ) l.o.obj ?_;intro w4 t B;have HO4:=zh (l.o.aW t B);clear l t B))
  refine aV [1,2,5,6,9,16,17,18] (fun vs w'=>vs=[.pointer (some ⟨w.heap.size,0,none⟩),.pointer (some ⟨w.heap.size+1,0,none⟩),.pointer (some ⟨w.heap.size+1+1,0,none⟩),.bool p',.pointer (some ⟨w3.heap.size,0,none⟩),.slice (some ⟨b,off,none⟩) c.1.length c1,.int .i64 (c.1.length:Int),.int .i64 (i:Int)] /\
   Own w m w' k' [.obj w3.heap.size 35 cs.toArray,.row rv 35 18 es.length xs,.obj (w.heap.size+1+1) 50 #[rv,.slice none 0 0],.obj (w.heap.size+1) 50 #[.slice none 0 0,.slice none 0 0],.obj w.heap.size 50 #[.slice (some ⟨b,off,none⟩) c.1.length c1,.slice a2 c.2.length c2]]) ?_ ?_
  .intro Y hY;have q1:=HO4.o.obj.sub (o:=0) (cs:=N) (fun j u hj=>by simpa using T.o j u hj)
   cases bl with
   |false=>
    have e2:p'=false:=by rw[P'.o];rfl
    rw[e2]at hY;clear e2;go_wp2
    exact hY.o _ _ rfl ⟨rfl,HO4.o⟩
   |true=>
    have e2:p' = !be:=by rw[P'.o];rfl
    rw[e2]at hY;clear e2
    go_wp2_with (first
     |refine aj kK rfl (.tmp 32) rfl rfl N o' q1 ?_
     | fail)
    exact qhd
  clear HO4 HBT T P' o';rintro z1 vs w6-⟨rfl,a⟩;simp[bB,lk];have y0:=a.aP.obj.c 0;have yl:=a.aP.obj.lt;have q1:=a.obj.all;have I:=zh a;clear a
  go_wp2_with (first
   |refine aj dU rfl (.tmp 9) rfl rfl cs vJ q1 ?_
   |(refine gu jZ dU qD rfl zo rfl (.tmp 39) rfl (cs:=cs.toArray) rfl qid ?_;have HO7:=zh (I.o.al cs.toArray 35))
   | (at_builtin;refine aT jZ rfl (.tmp 38) (.tmp 40) rfl rv es.length xs rfl HO7.o.aP.row ⟨w6.heap.size,0,none⟩ 1 1 cs rfl vJ qe7 O qdR zo ?_))
  intro va vc w8 e' f' c';have C:=(HO7.o.aP.app e' f' c' zS).bK.bK;have y0:=C.av.obj.c 0;have yl:=C.av.obj.lt;have yf:=C.av.obj.frozen 0;have N':=zh (C.av.set 0 (.slice va (es.length+1) vc)).av;clear I HO7 C e' f' c' q1;go_wp2;exact hX.o _ _ _ zo rfl ⟨i+1,k',_,_,es++[e],zo,rfl,by rw[<-HB2.o]<;>rfl,f.o.1,f.o.2.1,f.o.2.2,by simpa using N'.o⟩
def ZB(n:Nat)(m:Mem)(cs:List Value)(f:Fd):Prop:=f.1.1.size<=maxLen/\(-9223372036854775808<=f.1.2/\f.1.2<=9223372036854775807)/\∃x y,cs=qI f x y/\bq m n x f.2.1/\bq m n y f.2.2
def Sq(n:Nat)(m:Mem)(cs:List Value)(k:Kl):Prop:=∃c x y,cs=ow k c x y/\aU m c k.1/\bq m n x k.2.1/\bq m n y k.2.2
theorem ZB.le{n:Nat}{m M:Mem}(a:m.le M){cs:List Value}{f:Fd}(h:ZB n m cs f):ZB n M cs f:=by
 obtain⟨g,d,x,y,e,c,b⟩:=h;exact⟨g,d,x,y,e,c.le a,b.le a⟩
theorem Sq.le{n:Nat}{m M:Mem}(a:m.le M){cs:List Value}{k:Kl}(h:Sq n m cs k):Sq n M cs k:=by
 obtain⟨c,x,y,e,f,d,b⟩:=h;exact⟨c,x,y,e,aX a f,d.le a,b.le a⟩
theorem UV{n:Nat}{mk M:Mem}{w:zW}{t:TypeId}{v:zV}{l:List Fd}{xs:List Value}(a:w.ownsRow 0 t 20 v l.length xs)(k:lw 20 (ZB n mk) xs l)(d:mk.le M)(o:(mk.iH w v).le M):gN (bq M n) M v l:=
 fK a fun g m i h=>by
  obtain⟨cs,-,-,⟨f,e,x,y,rfl,q,p⟩,b⟩:=k.at' h;have b:=fun j u c=>Mem_cell_le o (dZ a m mk (b j u c));exact⟨b 0 _ rfl,f,b 1 _ rfl,e,.of (fun j u c=>by have:=b (2+j) u (qH c);rwa [<-Nat.add_assoc]at this) (q.le d) (p.le d)⟩
theorem Ux{n:Nat}{mk M:Mem}{w:zW}{t:TypeId}{v:zV}{l:List Kl}{xs:List Value}(a:w.ownsRow 0 t 19 v l.length xs)(f:lw 19 (Sq n mk) xs l)(d:mk.le M)(m:(mk.iH w v).le M):gP (bq M n) M v l:=
 fK a fun g k i h=>by
  obtain⟨cs,-,-,⟨c,x,y,rfl,q,p,o⟩,b⟩:=f.at' h;have b:=fun j u e=>Mem_cell_le m (dZ a k mk (b j u e));exact⟨⟨c,b 0 _ rfl,aX d q⟩,.of (fun j u e=>by have:=b (1+j) u (kZ e);rwa [<-Nat.add_assoc]at this) (p.le d) (o.le d)⟩
theorem Q3{k:Nat}:∀{css:List (List Value)},(∀c∈css,c.length=k)->∀(i:Nat) (h:i<css.length) (j:Nat),j<k->∀u,css.flatten.set (i*k+j) u=(css.set i (css[i].set j u)).flatten
 |[],_,i,h,_,_,_=>by simp at h
 |c::css,hk,0,h,j,hj,u=>by
  rw[List.flatten_cons,Nat.zero_mul,yZ,List.set_append_left _ _ (by rw[hk c zS];exact hj)];simp
 |c::css,hk,i+1,h,j,hj,u=>by
  have a:=hk c zS;rw[List.flatten_cons,List.set_append_right _ _ (by rw[a,Nat.add_mul];omega),a,show(i+1)*k+j-k=i*k+j by rw[Nat.add_mul];omega,Q3 (fun x hx=>hk x qd8) i qd9 j hj u];simp
theorem lw.set1{k:Nat}{α:Type}{Rp:List Value->α->Prop}{xs:List Value}{l:List α}(h:lw k Rp xs l){i j:Nat}(hi:i<l.length)(p:j<k){u:zV}(o:u.oneCell'=true){x:α}(r:∀cs,Rp cs l[i]->Rp (cs.set j u) x):lw k Rp (xs.set (i*k+j) u) (l.set i x):=by
 obtain⟨css,t,s,f⟩:=h.ex;refine⟨css.set i ((css[i]'zo).set j u),by rw[t,Q3 (fun c q=>by obtain⟨i,hi,rfl⟩:=yX q;exact(f i hi zo).1) i zo j p u],by simp[s],fun d a b=>?_⟩;have m:d<css.length:=by simpa using a
 have g:d<l.length:=by simpa using b
 by_cases e:d=i
 .subst e;have:=f d m g;rw[List.getElem_set_self,List.getElem_set_self];exact⟨by simpa using this.1,fun z n=>(List.mem_or_eq_of_mem_set n).elim (this.2.1 z) fun e=>by rw[e];exact o,r _ this.2.2⟩
 .rw[List.getElem_set_ne zo,List.getElem_set_ne zo];exact f d m g
theorem uj{P:Program}(g o k:Nat):∀(b:List Value) (i:Nat),(storeCells ⟨g,o+k,none⟩ b i).run P=(storeCells ⟨g,o,none⟩ b (k+i)).run P
 |[],i=>rfl
 |v::b,i=>by
  funext w;have c:=uj (P:=P) g o k b (i+1);simp only[storeCells,Sem.run_bind];rw[show(⟨g,o+k,none⟩:Addr).add i=(⟨g,o,none⟩:Addr).add (k+i)by by_cases e:i=0<;>by_cases d:k=0<;>simp[Addr.add,e,d,Nat.add_assoc]]
  cases (store ((⟨g,o,none⟩:Addr).add (k+i)) v).run P w with
  |ok a w'=>simp only[Result.andThen_ok];rw[c,Nat.add_assoc]
  |_=>rfl
theorem Nt{P:Program}{t:TypeId}{n:Nat}{w:zW}{ops:Array Oper}{rest:List Oper}{op:Oper}{a:Act}{Q:Exit->Act->World->Prop}(S:oG P t n)(m:Region.wanted op (yielded ops a.tmps)=true)(p v:Operand)(e:op.op=Op.store t p v){g o:Nat}{T:TypeId}{b cs:Array Value}(k:a.eval p=.pointer (some ⟨g,o,none⟩))(j:a.eval v=.agg cs)(i:o+n=b.size)(l:cs.size=n)(r:∀u∈cs.toList,u.oneCell'=true)(f:aZ w g T b)
(q:∀w',aZ w' g T (b.toList.take o++cs.toList).toArray->w.grownBy w' (some g)->wpList P ops Q rest (a.put op.dst undef) w'):wpList P ops Q (op::rest) a w:=by
 refine BigFrame.wpList_want m fun s h=>?_;have c:=run_storeCells_from (P:=P) g T cs.toList o b w f.get qdW r;have d:(storeCells ⟨g,o,none⟩ cs.toList 0).run P w=(storeCells ⟨g,0,none⟩ cs.toList o).run P w:=by
  have:=congrFun (uj (P:=P) g 0 o cs.toList 0) w
  rwa [yZ,Nat.add_zero]at this
 rw[<-d]at c;unfold Oper.wp;simp[execOp,e,k,j,Instr.storeAt,Instr.sureAddr,storeVar,S.size,Value.cells,l,c,Result.andThen];refine h _ _ (q _ ⟨setRow_heap w g b _ T (0,0) f.get⟩ ?_);exact grownBy_setRow' f.get
theorem Ti:fB prog 59 82 20 296:=⟨underlying59,zo,by
 obtain⟨i,d,c,b,a⟩:=info_parts (P:=prog) (e:=82) (z:=.agg SG) (size:=20) (bytes:=296) zk;exact⟨i,_,d,c,b,a,rfl⟩⟩
theorem VX:∀w,(zeroValue 82).run prog w=.ok (.agg SG) w:=Tryz.zeroValue82
theorem Tg:fB prog 60 68 19 296:=⟨underlying60,zo,by
 obtain⟨i,d,c,b,a⟩:=info_parts (P:=prog) (e:=68) (z:=.agg SB) (size:=19) (bytes:=296) zk;exact⟨i,_,d,c,b,a,rfl⟩⟩
theorem VW:∀w,(zeroValue 68).run prog w=.ok (.agg SB) w:=Tryz.zeroValue68
theorem dzY{out:List Kl}{k:Kl}(h:QU (fun x:Kl=>tf (x.2=k.2)) out<0):lW out k=out++[k]:=by
 unfold QU at h;unfold lW
 cases e:out.findIdx? (fun x:Kl=>tf (x.2=k.2))with
 |none=>rfl
 |some i=>rw[e]at h;simp at h;omega
theorem dzZ{out:List Kl}{k:Kl}(h:¬QU (fun x:Kl=>tf (x.2=k.2)) out<0):∃(i:Nat) (hi:i<out.length),QU (fun x:Kl=>tf (x.2=k.2)) out=i/\lW out k=out.set i (orT out[i].1 k.1,k.2)/\out[i].2=k.2:=by
 unfold QU at h⊢;unfold lW
 cases e:out.findIdx? (fun x:Kl=>tf (x.2=k.2))with
 |none=>rw[e]at h;simp at h
 |some i=>
  obtain⟨hi,a,_⟩:=List.findIdx?_eq_some_iff_getElem.1 e;exact⟨i,hi,rfl,by simp[hi],kF.1 a⟩
theorem hzo:∀args w,(callFunc 123 args).run prog w=.ok (.enter 123 args) w:=enters_of func123 zk rfl
theorem UZ:∀args w,(callFunc 126 args).run prog w=.ok (.enter 126 args) w:=enters_of func126 zk rfl
theorem VA(r a0 q p o n m l k j i h g f e d c b a:zV)(w:zW):(Instr.build 68 #[(0,.agg #[r]),(1,.agg #[a0,q,p,o,n,m,l,k,j,i,h,g,f,e,d,c,b,a])]).run prog w=.ok (.agg #[r,a0,q,p,o,n,m,l,k,j,i,h,g,f,e,d,c,b,a]) w:=by kernel_rfl
theorem R3(r:zV){D:List Value}(a:D.length=18)(w:zW):(Instr.build 68 #[(0,.agg #[r]),(1,.agg D.toArray)]).run prog w=.ok (.agg (r::D).toArray) w:=by
 match D,a with
 |[a0,a1,a2,a3,a4,a5,a6,a7,a8,b0,b1,b2,b3,b4,b5,b6,b7,b8],_=>exact VA r a0 a1 a2 a3 a4 a5 a6 a7 a8 b0 b1 b2 b3 b4 b5 b6 b7 b8 w
theorem BN{P:Program}{t e:TypeId}{n bytes:Nat}(S:fB P t e n bytes)(B:oG P e n){z:zV}(g:∀w,(zeroValue e).run P w=.ok z w)(f:z.cells.size=n)(j:n<=1000){w:zW}{op:Oper}{a:Act}{K:Act->World->Prop}{Q:Exit->Act->World->Prop}
(x:Operand)(b:op.op=Op.buildSlice t 1 #[(0,x)]){cs:Array Value}(h:a.eval x=.agg cs)(hl:cs.size=n)
(i:K (a.put op.dst (.slice (some ⟨w.heap.size,0,none⟩) 1 1)) (w.alloc (.cells cs e))):op.wp P a w K Q:=by
 have c:=S.pos;have d:cs.zipIdx.foldl (fun(a:Array Value) (x:Value×Nat)=>a.setIfInBounds (0+x.2) x.1) ((Array.range (1*n)).map (z.cells[·%z.cells.size]!))=cs:=Q0 cs _ qeo;unfold Oper.wp;simp[execOp,b,h,Instr.buildSlice,run_underlying S.ht,B.size,g,Instr.fill,Value.cells,hl,Result.andThen,newRow,show ¬(16777216<n)by omega,show n≠0 by omega]at d⊢;simp only[d];exact i
theorem bzH{n:Nat}(k:Kl)(e:Vd)(c:zV)(x y b a:Sl)(g:Nat)(m:Mem)(w:zW)(G:m.ay w)(A:∀j u,(dC e b a)[j]?=some u->m.cell g (0+j)=some u)(C:bq m n x k.2.1)(B:bq m n y k.2.2)(i:bq m n b e.1)(f:bq m n a e.2)(F:jw n k.2)(E:jw n e):
 zC 123 #[.agg (ow k c x y).toArray,.pointer (some ⟨g,0,none⟩)] w fun r w'=>r=.returned (.bool (tf (k.2=e)))/\zB w w':=by
 have l:=(Own.start G).al (ow k c x y).toArray 68;have s:=zh (fun w' (h:m.ay w')=>uT n k.2 e x y b a m w' h C B i f F E);unfold bP at s;have H:(dC k.2 x y).length=18:=rfl;have p:(dC e b a).length=18:=rfl;have z:=l.obj.sub (o:=1) (cs:=dC k.2 x y) (fun j u q=>by simpa using kZ q);have v:=fun j u q=>Mem_cell_w l.ay (A j u q);have t:=zh l;generalize dC k.2 x y=D at*
 generalize dC e b a=I at*
 generalize ow k c x y=K at*
 clear l C B i f A;refine au fun R hR=>?_
 go_enter func123,ntmps123
 go_wp2_with (first
  |refine aj dU rfl (.tmp 4) rfl rfl D H z ?_
  |refine aj dU rfl (.tmp 1) rfl rfl I p v ?_
  | fail)
 refine(s.o _ t.o.ay).mono ?_;rintro e J ⟨rfl,d⟩;have HB:=zh (t.o.aS d).az;clear t d z v s;exact qak
theorem bzG{n:Nat}(k d:Kl)(cs l:List Value)(m:Mem)(w:zW)(F:m.ay w)(g:dV m)(h:Sq n m cs k)(J:Sq n m l d)(G:k.1.length<=729)(u:d.1.length<=729):
 zC 126 #[.agg cs.toArray,.agg l.toArray] w fun r w'=>r=.returned (.int .i64 (MF k d))/\zB w w':=by
 obtain⟨c,x,y,rfl,p,-,-⟩:=h;obtain⟨q,t,s,rfl,j,-,-⟩:=J;have f:=((Own.start F).al (ow k c x y).toArray 68).al (ow d q t s).toArray 68;simp only[bC]at f;have A:=zh (fun w' (h:m.ay w')=>(qp c q k.1 d.1 m w' h g p j (yJ (xV (Nat.add_le_add_right G 2) (Nat.add_le_add_right u 2)) zD)).mono (R':=fun e z=>e=.returned (.int .i64 (MF k d))/\Below w'.heap.size w' z) fun e z ⟨c,p,I,H⟩=>⟨by rw[p,MF,DL H],I⟩);have M:(ow k c x y).toArray[0]?=some c:=rfl;have L:(ow d q t s).toArray[0]?=some q:=rfl;have E:=f.av.obj.cell M;have D:=f.av.obj.lt;have C:=f.obj.cell L;have B:=f.obj.lt;have v:=zh f;obtain⟨a,b,rfl,-⟩:=p;obtain⟨S,Q,rfl,-⟩:=j;generalize ow k _ x y=K at*
 generalize ow d _ t s=T at*
 generalize k.1.length=P at*
 generalize d.1.length=O at*
 clear f;refine au fun R hR=>?_
 go_enter func126,ntmps126
 go_wp2_with fail
 refine(A.o _ v.o.ay).mono ?_;rintro e N ⟨rfl,i⟩;have HB:=zh (v.o.aS i).az;clear v i E D C B A;exact qak
end Cl
