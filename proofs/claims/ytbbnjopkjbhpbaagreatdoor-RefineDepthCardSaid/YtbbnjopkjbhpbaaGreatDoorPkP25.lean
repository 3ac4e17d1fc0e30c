/- Lemmas for the proofs of chapter 11. -/
import Derived.Test.YtbbnjopkjbhpbaaGreatDoorPkP24
set_option maxRecDepth 100000
set_option maxHeartbeats 16000000
namespace Cl
open Go Go.RowKit Go.Proofs Tryz
def ZE(n:Nat)(c:St)(M:Mem)(e:Ending):Prop:=match mQ (cz n) (dz n) c with
 |some y=>∃u a,e=.returned (.tuple #[.agg #[u,a],.bool y.2,.bool true])/\gN (bq M n) M u y.1.1/\gP (bq M n) M a y.1.2
 |none=>e=.returned (.tuple #[.agg #[.slice none 0 0,.slice none 0 0],.bool false,.bool false])
theorem gzW{c:St}{i:Nat}(h:i<c.1.length):c.1[i].2∈bN c:=yP.2 (.inl (yD.2 ⟨_,zF h,rfl⟩))
theorem gzR{c:St}{i:Nat}(h:i<c.2.length):c.2[i].2∈bN c:=yP.2 (.inr (yD.2 ⟨_,zF h,rfl⟩))
theorem Vx{c:Vl->Option Vl}{le:Vl->Vl->Prop}{f:Fd}{d:Vd}(h:gD c le f.2=some d):uJ c le f=some (f.1,d):=by unfold uJ;rw[h];rfl
theorem Vv{c:Vl->Option Vl}{le:Vl->Vl->Prop}{f:Kl}{d:Vd}(h:gD c le f.2=some d):qf c le f=some (f.1,d):=by unfold qf;rw[h];rfl
theorem Vy{c:Vl->Option Vl}{le:Vl->Vl->Prop}{f:Fd}(h:gD c le f.2=none):uJ c le f=none:=by unfold uJ;rw[h];rfl
theorem Vw{c:Vl->Option Vl}{le:Vl->Vl->Prop}{f:Kl}(h:gD c le f.2=none):qf c le f=none:=by unfold qf;rw[h];rfl
theorem Cw{n:Nat}(H:CnH n)(c:St)(u u2:zV)(m:Mem)(w:zW)(hm:m.ay w)(O':dV m)(h1:gN (bq m n) m u c.1)(h2:gP (bq m n) m u2 c.2)(k:∀d∈bN c,Lm n d)(hco:bH c)(hsr:Ak c):
 zC 81 #[.agg #[u,u2]] w fun e w'=>zB w w'/\ZE n c (m.grow w w') e:=by
 obtain⟨a1,c1,rfl,p1,q1,k1⟩:=h1;obtain⟨a2,c2,rfl,p2,q2,k2⟩:=h2;unfold maxLen at q1 q2;have hl4:=hsr.f;have hl5:=hsr.k;have t:=((((Own.start hm).al #[.slice a1 c.1.length c1,.slice a2 c.2.length c2] 62).al #[.slice none 0 0,.slice none 0 0] 62).al #[.slice none 0 0,.slice none 0 0] 62).fC 82 20;simp only[bC]at t;have g0:=t.bR.obj.c 0;have gl:=t.bR.obj.lt;have O:=zh t;have HK:=zh (zi k1 k2);have HH:=zh (zi O' k);have HCO:=zh (zi hco hsr);have HCV:=zh (fun(M:Mem) (d:Vd) x y w' (h:M.ay w') (B:m.le M) (k1:bq M n x d.1) (k2:bq M n y d.2) (kd:Lm n d)=>qx H d x y M w' h (O'.le B) k1 k2 kd);obtain⟨cf,hcf⟩:∃cf,cf=gD (cz n) (dz n):=⟨_,rfl⟩;obtain⟨ff,hff⟩:∃ff,ff=uJ (cz n) (dz n):=⟨_,rfl⟩;obtain⟨kf,hkf⟩:∃kf,kf=qf (cz n) (dz n):=⟨_,rfl⟩;have HCF:=zh hcf;have HFF:=zh hff;have HKF:=zh hkf;clear t k1 k2 O' k H hcf hff hkf hco hsr;refine au fun R hR=>?_
 go_enter func81,ntmps81
 go_wp2;refine aC [1,2,5,6,17,18,19] (fun q vs wr=>∃(i:Nat) (MK:Mem) (rv:zV) (xs:List Value) (es:List Fd),i<=c.1.length/\q=c.1.length-i/\vs=[.pointer (some ⟨w.heap.size,0,none⟩),.pointer (some ⟨w.heap.size+1,0,none⟩),.pointer (some ⟨w.heap.size+1+1,0,none⟩),.bool (es.all fun f => !ja f.2.1),.slice a1 c.1.length c1,.int .i64 (c.1.length:Int),.int .i64 (i:Int)]/\gQ ff (c.1.take i)=some es/\lw 20 (ZB n MK) xs es/\m.le MK /\
  Own w m wr MK [.row rv 82 20 es.length xs,.obj (w.heap.size+1+1) 62 #[rv,.slice none 0 0],.obj (w.heap.size+1) 62 #[.slice none 0 0,.slice none 0 0],.obj w.heap.size 62 #[.slice a1 c.1.length c1,.slice a2 c.2.length c2]]) ?_ ?_
 .exact⟨_,0,m,_,[],[],zG _,rfl,rfl,rfl,.nil,Mem.le_refl _,O.o⟩
 clear O g0 gl;rintro X z q vs wr hX-⟨i,MK,rv,xs,es,hi,rfl,rfl,he,hv,B,t⟩;simp[bB,lk];have G:=zh (zi he (zi hv B));have hel:=iM he;rw[List.length_take,Nat.min_eq_left hi]at hel;have hel2:es.length<=4:=zo;have HEL:=zh hel;clear hel;clear he hv B;by_cases hlt:i<c.1.length
 case neg=>
  obtain rfl:i=c.1.length:=zo;have HE1:=zh (show gQ ff c.1=some es from by have:=G.o.1;rwa [yG]at this);obtain⟨bl,hbl⟩:∃b,b=es.all fun f => !ja f.2.1:=⟨_,rfl⟩;rw[<-hbl];have i':=zh hbl;have g0:=t.bR.obj.c 1;have gl:=t.bR.obj.lt;have O:=zh ((t.fC 68 19).sub (.cons_cons _ (.cons_cons _ (.cons_cons _ (.cons_cons _ (List.nil_sublist _))))));have HE0:=zh G.o.2;clear t hX G HEL hbl hlt hi;go_wp2;refine aC [2,5,6,49,50,51] (fun q vs wr=>∃(i:Nat) (MK:Mem) (rv2:zV) (ys:List Value) (ks:List Kl),i<=c.2.length/\q=c.2.length-i/\vs=[.pointer (some ⟨w.heap.size+1,0,none⟩),.pointer (some ⟨w.heap.size+1+1,0,none⟩),.bool bl,.slice a2 c.2.length c2,.int .i64 (c.2.length:Int),.int .i64 (i:Int)]/\gQ kf (c.2.take i)=some ks/\lw 19 (Sq n MK) ys (ks.foldl lW [])/\lw 20 (ZB n MK) xs es/\m.le MK /\
   Own w m wr MK [.row rv2 68 19 (ks.foldl lW []).length ys,.row rv 82 20 es.length xs,.obj (w.heap.size+1+1) 62 #[rv,rv2],.obj (w.heap.size+1) 62 #[.slice none 0 0,.slice none 0 0]]) ?_ ?_
  .exact⟨_,0,MK,_,[],[],zG _,rfl,rfl,rfl,.nil,HE0.o.1,HE0.o.2,O.o⟩
  clear O g0 gl HE0;rintro X z q vs wr hX-⟨i,MK,rv2,ys,ks,hi,rfl,rfl,he,hv,hv0,B,t⟩;simp[bB,lk];have HP:=zh (gzy (n:=n) HCO.o.1 HCO.o.2 (by rw[<-HKF.o];exact he));have HCT:=zh (show ∀x∈ks.foldl lW [],jw n x.2 from fun x hx=>by
   obtain⟨k',h1,h2⟩:=HP.o.SC.FW.vals x hx;obtain⟨z,h3,h4⟩:=iL he h1;rw[HKF.o]at h4;unfold qf at h4;obtain⟨d,h5,rfl⟩:=Option.map_eq_some_iff.1 h4;rw[<-h2];have hb:=Lm.Po (HH.o.2 z.2 (yP.2 (.inr (yD.2 ⟨z,xX h3,rfl⟩)))) h5;exact⟨hb.1.cnt,hb.2.cnt⟩)
  have G:=zh (zi he (zi hv (zi hv0 B)));have HFO:=zh (show ∀k,(ks++[k]).foldl lW []=lW (ks.foldl lW []) k from fun k=>by rw[List.foldl_append];rfl);obtain⟨out,R'⟩:∃out,out=ks.foldl lW []:=⟨_,rfl⟩;rw[<-R']at G HP t HCT HFO;have HOUT:=zh R';have hof:=HP.o.few;obtain⟨p',a',rfl⟩:=bz t.row;obtain⟨q',o',rfl⟩:=bz t.av.row;clear he hv hv0 B R';by_cases hlt:i<c.2.length
  case neg=>
   obtain rfl:i=c.2.length:=zo;have HCN:=zh (show mQ (cz n) (dz n) c=some ((es,gJ MF out),bl) from by
    have h2:=G.o.1;rw[yG]at h2;unfold mQ;rw[<-HFF.o,<-HKF.o,HE1.o,h2,i'.o,HOUT.o];rfl)
   have y1:=t.aP.obj.c 1;have yl:=t.aP.obj.lt;have HS:=zh (azk (dzp HP.o) t G.o.2.1 (fun x hx=>hx) (Yd HP.o) 126 #[] UZ (fun cs cs' x x' w' h' hx hx' r r'=>bzG x x' cs cs' MK w' h' (HH.o.1.le G.o.2.2.2) r r' (HP.o.len x hx) (HP.o.len x' hx')) zo);have B:=G.o.2.2.2;have HG:=zh G.o.2.2.1;clear t hX HCT HFO HP HOUT G
   go_wp2_with fail
   refine HS.o.mono ?_;rintro e w5 ⟨rfl,ys',hx',Y'⟩;have y0:=Y'.aP.obj.c 0;have y1:=Y'.aP.obj.c 1;have yl:=Y'.aP.obj.lt;have O:=zh Y';have HX:=zh hx';have HSL:=zh (show(gJ MF out).length=out.length from(jh MF out).length_eq);clear HS Y' hx'
   go_wp2_with (refine aB Et rfl (.tmp 2) (.tmp 99) rfl (cs:=#[.slice q' es.length o',.slice p' out.length a']) rfl rfl rfl rfl qdS O.o.bR.obj ?_)
   intro w6 ob6 hg6;have hr:=Et.load (P:=prog) (cs:=[.slice q' es.length o',.slice p' out.length a']) rfl ob6.all;have hA:=(O.o.bR.aW ob6 hg6).tail;have hB:=(O.o.bR.aW ob6 hg6).az;have k1:=UV (M:=m.grow w w6) hA.av.row HG.o hA.done hA.av.bO.done;have k2:=Ux (M:=m.grow w w6) (l:=gJ MF out) (by rw[HSL.o];exact hA.row) HX.o hA.done hA.bO.done;have HF:=zh (zi hB (zi k1 k2));clear O HX hA hB k1 k2 ob6 hg6 y0 y1 yl;go_wp2;refine yV (v:=.tuple #[.agg #[.slice q' es.length o',.slice p' out.length a'],.bool bl,.bool true]) (oJ results81 rfl hr) rfl ?_;refine hR.o _ _ ⟨HF.o.1,?_⟩;unfold ZE;rw[HCN.o];exact⟨_,_,rfl,HF.o.2.1,HF.o.2.2⟩
  obtain⟨b,off,rfl,h4⟩:=HK.o.2 qdP;obtain⟨kc,x,y,hks,hc,hx,hy⟩:=(h4 i hlt).cells;have B:=G.o.2.2.2;have T:=Mem_inn_le B t.ay;have hcl:=Mem_cell_lt T (hc 0 _ rfl);have HC:=zh (fun j u hj=>Mem_cell_w T (hc j u hj));have h1:=nU hks hx hy;have hl:(ow c.2[i] kc x y).length=19:=rfl;have hlD:(dC c.2[i].2 x y).length=18:=rfl;have HSU:=zh (fun j u=>@kZ c.2[i] kc x y j u);have H0:(ow c.2[i] kc x y).toArray[0]?=some kc:=rfl;have E':=zF hlt;have HQ:=zh (zi (HCO.o.1.sets _ E').1 (zi (HCO.o.2.set _ E') (aX B hks)));have HD:=zh (HH.o.2 _ (gzR hlt));have C':=zh (fun w' (h:MK.ay w')=>HCV.o MK c.2[i].2 x y w' h B (hx.le B) (hy.le B) HD.o);have HT:=zh (show ∀e,cf c.2[i].2=some e->gQ kf (c.2.take (i+1))=some (ks++[(c.2[i].1,e)]) from fun e he=>by rw[qR hlt,G.o.1];show((kf c.2[i]).map fun y=>ks++[y])=_;rw[HKF.o,Vv (by rw[<-HCF.o];exact he)];rfl);have D':=zh (show cf c.2[i].2=none->mQ (cz n) (dz n) c=none from fun h=>by
   unfold mQ;rw[<-HFF.o,HE1.o,oO E' (Vw (by rw[<-HCF.o];exact h))];rfl)
  obtain⟨ka,kb,rfl,-⟩:=id hks;have O:=zh (t.al SB 68);unfold bP at C';generalize ow c.2[i] _ x y=F at*
  generalize dC c.2[i].2 x y=D at*
  generalize c.2[i]=f at*
  clear t h4 hc hx hy T hks E'
  go_wp2_with (first
   |refine aj sw rfl (.tmp 53) rfl rfl F hl HC.o ?_
   |(refine aB sw rfl (.tmp 12) (.tmp 54) rfl (cs:=F.toArray) rfl rfl rfl qdY (fun u hu=>h1 u qdQ) O.o.obj ?_;intro w2 M' U';have V:=O.o.aW M' U';have q1:=V.obj.sub (o:=1) (cs:=D) (fun j u hj=>by simpa using HSU.o j u hj))
   |refine aj dU rfl (.tmp 56) rfl rfl D hlD q1 ?_
   | fail)
  refine(C'.o _ V.ay).mono ?_;rintro e w3 ⟨X',hr⟩;obtain⟨cs,ok,rfl,vJ,f',W,A'⟩:=hr.cells;rw[<-HCF.o]at W A';have HM:=zh (zi (Mem_le_grow (w:=w3) V.ay) A');have J:=zh ((V.call X').al oz 35);clear O V X' hr C' q1 M' U' HC A'
  cases hcd:cf f.2 with
  |none=>
   obtain rfl:ok=false:=by rw[W,hcd];rfl
   have HRN:=zh (D'.o hcd);clear D' HT G HM hcd W
   go_wp2_with (first
    |(refine aB dU rfl (.tmp 13) (.tmp 59) rfl (cs:=cs.toArray) rfl rfl rfl qid (fun u hu=>f' u qdQ) J.o.obj ?_;intro w4 Q U;have B':=(J.o.aW Q U).bK)
    | refine aB Et rfl (.tmp 2) (.tmp 63) rfl (cs:=#[.slice none 0 0,.slice none 0 0]) rfl rfl rfl rfl zD B'.fifth.obj ?_)
   intro w5 u' T';have hr:=Et.load (P:=prog) (cs:=[.slice none 0 0,.slice none 0 0]) rfl u'.all;have HB:=zh (B'.fifth.aW u' T').az;clear J B' Q U u' T';go_wp2;refine yV (v:=.tuple #[.agg #[.slice none 0 0,.slice none 0 0],.bool false,.bool false]) (oJ results81 rfl hr) rfl ?_
   exact hR.o _ _ ⟨HB.o,by unfold ZE;rw[HRN.o]⟩
  |some e=>
   obtain rfl:ok=true:=by rw[W,hcd];rfl
   obtain⟨x',y',ecs,k1,k2⟩:=HM.o.2 e hcd;have i':=zh (HD.o.Po qeq);have A:=zh (zi (HT.o e hcd) (zi (G.o.2.1.mono fun _ _ h=>h.le HM.o.1) (zi (G.o.2.2.1.mono fun _ _ h=>h.le HM.o.1) (zi (Mem.le_trans G.o.2.2.2 HM.o.1) (aX HM.o.1 HQ.o.2.2)))));have ECS:=zh ecs;have HV2:=zh (zi k1 k2);clear D' HT G HM hcd W k1 k2 ecs;generalize MK.grow w2 w3=Z at*
   go_wp2_with (first
    |(refine aB dU rfl (.tmp 13) (.tmp 59) rfl (cs:=cs.toArray) rfl rfl rfl qid (fun u hu=>f' u qdQ) J.o.obj ?_;intro w4 Q U;have HO4:=zh (J.o.aW Q U);have y1:=HO4.o.fifth.obj.c 1;have yl:=HO4.o.fifth.obj.lt;clear J Q U)
    | fail)
   obtain⟨M3,hi3,K,P',V'⟩:∃M3:Mem,M3.ay w4/\Z.le M3/\(∀g,(Value.slice p' out.length a').ownBlock=some g->∀j u,ys[j]?=some u->M3.cell g j=some u)/\∀j u,cs[j]?=some u->M3.cell w3.heap.size (0+j)=some u:=
    ⟨_,HO4.o.aP.bO.gU.ay,Mem.le_trans (Mem_le_addv HO4.o.aP.free) (Mem_le_add HO4.o.aP.bO.jG),fun g hg j u hj=>Mem_cell_le (Mem_le_add HO4.o.aP.bO.jG) (dZ HO4.o.aP.row hg Z hj),fun j u hj=>Mem_add_cell HO4.o.obj qdU⟩
   have HIX:=zh (dzs (fun x:Kl=>tf (x.2=e)) 123 #[.pointer (some ⟨w3.heap.size,0,none⟩)] (.slice p' out.length a') out M3 w4 hi3 hzo (fK HO4.o.aP.row fun g hg j hj=>by
    obtain⟨cs',l1,o1,⟨c',x1,y1,rfl,g1,g2,g3⟩,hc'⟩:=A.o.2.1.at' hj;exact⟨_,l1,fun j u hj=>P' g hg _ _ (hc' j u hj),fun w' hw'=>bzH out[j] e c' x1 y1 x' y' w3.heap.size M3 w' hw' (fun j u hj=>V' j u (by rw[ECS.o];exact hj)) (g2.le K) (g3.le K) (HV2.o.1.le K) (HV2.o.2.le K) (HCT.o _ (zF hj)) ⟨i'.o.1.cnt,i'.o.2.cnt⟩⟩))
   have HAK:=zh (zi (@dzY out (f.1,e)) (@dzZ out (f.1,e)));obtain⟨ix,hix⟩:∃ix,ix=QU (fun x:Kl=>tf (x.2=e)) out:=⟨_,rfl⟩;rw[<-hix]at HIX;have HIE:=zh hix;have HHL:=zh (zi HCO.o.2.set HP.o.len);clear hi3 K P' V' hix HCT i';refine(HIX.o).mono ?_;rintro r w5 ⟨rfl,hb5⟩;have HO5:=zh (HO4.o.aS hb5);clear HO4 HIX hb5 y1 yl
   go_upto_if 69 with(fail)
   refine aV [2,5,6,49,50,51] (fun vs w'=>∃(MK3:Mem) (rv3:zV) (ys3:List Value),vs=[.pointer (some ⟨w.heap.size+1,0,none⟩),.pointer (some ⟨w.heap.size+1+1,0,none⟩),.bool bl,.slice (some ⟨b,off,none⟩) c.2.length c2,.int .i64 (c.2.length:Int),.int .i64 (i:Int)]/\Z.le MK3/\lw 19 (Sq n MK3) ys3 (lW out (f.1,e)) /\
    Own w m w' MK3 [.row rv3 68 19 (lW out (f.1,e)).length ys3,.row (.slice q' es.length o') 82 20 es.length xs,.obj (w.heap.size+1+1) 62 #[.slice q' es.length o',rv3],.obj (w.heap.size+1) 62 #[.slice none 0 0,.slice none 0 0]]) ?_ ?_
   .intro Y hY;by_cases S':ix<0
    .have HN:=zh (HAK.o.1 (by rw[<-HIE.o];exact S'));have hdl:decide (ix<0)=true:=zN S';have HOR:=zh (fun w' (h:Z.ay w')=>Ck (.slice ka f.1.length kb) (.slice none 0 0) f.1 [] Z w' h (HH.o.1.le A.o.2.2.2.1) A.o.2.2.2.2 (fM _ _) (.of HQ.o.2.1 (zI _) zD));clear HAK HIE;go_wp2;refine kz (fun j w'=>j≠11->(aZ w' (w.heap.size+1+1) 62 #[.slice q' es.length o',.slice p' out.length a']/\aZ w' wr.heap.size 68 F.toArray/\aZ w' w3.heap.size 35 cs.toArray)) zk ?_;have E:=HO5.o.dr;have L:=zi E.fifth.obj (zi E.av.obj E.obj);refine aL 0 16 _ rfl zk (fun _ _ _ h=>h) (fun j w' hj p=>p qic) L (ax rfl fun w' a=>by have p1:=a.1.cell (i:=1) rfl;have p2:=a.1.lt;have p3:=a.2.1.cell H0;have p4:=a.2.1.lt;go_simp;first|done|rfl) ?_;go_simp;refine aL 1 16 _ rfl zk (fun _ _ _ h=>h) (fun j w' hj p=>p qic) L (ax rfl fun w' a=>by have p1:=a.1.cell (i:=1) rfl;have p2:=a.1.lt;have p3:=a.2.1.cell H0;have p4:=a.2.1.lt;go_simp;first|done|rfl) ?_;go_simp;refine aL 2 16 _ rfl zk (fun _ _ _ h=>h) (fun j w' hj p=>p qic) L (ax rfl fun w' a=>by have p1:=a.1.cell (i:=1) rfl;have p2:=a.1.lt;have p3:=a.2.1.cell H0;have p4:=a.2.1.lt;go_simp;first|done|rfl) ?_;go_simp;refine aL 3 16 _ rfl zk (fun _ _ _ h=>h) (fun j w' hj p=>p qic) L (ax rfl fun w' a=>by have p1:=a.1.cell (i:=1) rfl;have p2:=a.1.lt;have p3:=a.2.1.cell H0;have p4:=a.2.1.lt;go_simp;first|done|rfl) ?_;go_simp;refine aL 4 16 _ rfl zk (fun _ _ _ h=>h) (fun j w' hj p=>p qic) L (ax rfl fun w' a=>by have p1:=a.1.cell (i:=1) rfl;have p2:=a.1.lt;have p3:=a.2.1.cell H0;have p4:=a.2.1.lt;go_simp;first|done|rfl) ?_;go_simp;refine aL 6 16 _ rfl zk (fun _ _ _ h=>h) (fun j w' hj p=>p qic) L (ax rfl fun w' a=>dU.exec rfl zg vJ a.2.2.all) ?_;go_simp;refine bg 5 zk (aJ rfl rfl (dE zg (HOR.o _ E.ay) ?_));rintro e' w6 ⟨r,C,rfl,hb6,z',hC,-⟩;obtain rfl:C=f.1:=czW HQ.o.1 hC;obtain⟨ra,rc,rfl,-⟩:=id z';have s:=E.call hb6;have S:=Mem_le_grow (w:=w6) E.ay;have L:=zi s.fifth.obj (zi s.av.obj s.obj);have h2:=A.o;have HCR:=zh ((h2.2.1.mono fun _ _ h=>h.le S).push (x:=(f.1,e)) (cs:=.slice ra f.1.length rc::cs) (by simp[vJ]) (fun u hu=>(yA.1 hu).elim (fun h=>by rw[h];rfl) (f' u)) ⟨_,x',y',by rw[ECS.o];rfl,z',HV2.o.1.le S,HV2.o.2.le S⟩);clear h2 z' hC;refine⟨_,rfl,.inr fun _=>L,?_⟩;go_simp;refine aL 7 16 _ rfl zk (fun _ _ _ h=>h) (fun j w' hj p=>p qic) L (ax rfl fun w' a=>nL rfl zg zg (R3 _ vJ w')) ?_;go_simp;have I:=s.al (.slice ra f.1.length rc::cs).toArray 68;have hO8b:=I.bR.bK;refine bg 8 zk (aJ rfl rfl (BN Tg sw VW rfl zo (.tmp 77) rfl (cs:=(.slice ra f.1.length rc::cs).toArray) zg (by simp[vJ]) ⟨.inr fun _=>zi (I.tail.fifth.obj) (zi I.tail.av.obj I.tail.obj),?_⟩));go_simp;refine bg 9 zk (aJ rfl rfl (gq Tg (.tmp 71) (.tmp 78) rfl (.slice p' out.length a') out.length ys zg I.bR.row ⟨w6.heap.size,0,none⟩ 1 1 (.slice ra f.1.length rc::cs) zg (by simp[vJ]) (by intro j u hj;rw[Addr.add_lit,yZ];exact I.obj.cell qdU) (fun u hu=>(yA.1 hu).elim (fun h=>by rw[h];rfl) (f' u)) qdR zo (fun va vc w8 ho8 hg8 hr8=>?_)));have hO9:=(I.bR.app ho8 hg8 hr8 zS).bK;have g':=hO9.bK.bK;refine⟨.inr fun _=>zi g'.aP.obj (zi hO9.aP.obj hO9.av.obj),?_⟩;go_simp;refine bg 10 zk (aJ rfl rfl (aO qdT ⟨.inl rfl,?_⟩));go_simp;have y0:=g'.aP.obj.c 1;have yl:=g'.aP.obj.lt;have yf:=g'.aP.obj.frozen 1;refine bg 11 zk (aJ rfl rfl (bT zg ⟨.inr fun h=>absurd rfl h,?_⟩));refine gM zk ?_ _;have HO11:=zh (g'.aP.set 1 (.slice va (out.length+1) vc)).av.Z9;exact hY.o _ _ rfl ⟨_,.slice va (out.length+1) vc,ys++(.slice ra f.1.length rc::cs),rfl,S,by rw[HN.o];exact HCR.o,by rw[HN.o];simpa using HO11.o⟩
    .obtain⟨i2,hi2,e1,e2,e3⟩:=HAK.o.2 (by rw[<-HIE.o];omega);obtain rfl:ix=(i2:Int):=by rw[HIE.o,e1]
     have HN:=zh e2;have HI2:=zh e3;have hdl:decide ((i2:Int)<0)=false:=zM S';obtain⟨gr,rfl⟩:=rA HO5.o.aP.row zo;obtain⟨cs',l1,o1,⟨c',x1,y1,rfl,g1,g2,g3⟩,hc'⟩:=A.o.2.1.at' hi2;have HOR:=zh (fun w' (h:Z.ay w')=>Ck c' (.slice ka f.1.length kb) out[i2].1 f.1 Z w' h (HH.o.1.le A.o.2.2.2.1) g1 A.o.2.2.2.2 (.of (HHL.o.2 _ (zF hi2)) HQ.o.2.1 zD));have hcy:=hc' 0 c' rfl;rw[Nat.add_zero]at hcy;obtain⟨oa,oc,rfl,-⟩:=g1;generalize out[i2].1.length=ol at*
     clear HAK HIE e1 e2 e3 l1 o1 g2 g3 hc';go_wp2;refine kz (fun j w'=>j≠14->(aZ w' (w.heap.size+1+1) 62 #[.slice q' es.length o',.slice (some ⟨gr,0,none⟩) out.length a']/\aZ w' wr.heap.size 68 F.toArray/\(w'.cell? ⟨gr,i2*19,none⟩=some (.slice oa ol oc)/\gr<w'.heap.size))) zk ?_;have E:=HO5.o.dr;have L:=zi E.fifth.obj (zi E.av.obj (zi (bL E.aP.row hcy) (World.ownsRow.lt E.aP.row _ rfl).2));refine aL 0 16 _ rfl zk (fun _ _ _ h=>h) (fun j w' hj p=>p qic) L (ax rfl fun w' a=>by have p1:=a.1.cell (i:=1) rfl;have p2:=a.1.lt;have p3:=a.2.1.cell H0;have p4:=a.2.1.lt;have p5:=a.2.2.1;have p6:=a.2.2.2;go_simp;first|done|rfl) ?_;go_simp;refine aL 1 16 _ rfl zk (fun _ _ _ h=>h) (fun j w' hj p=>p qic) L (ax rfl fun w' a=>by have p1:=a.1.cell (i:=1) rfl;have p2:=a.1.lt;have p3:=a.2.1.cell H0;have p4:=a.2.1.lt;have p5:=a.2.2.1;have p6:=a.2.2.2;go_simp;first|done|rfl) ?_;go_simp;refine aL 2 16 _ rfl zk (fun _ _ _ h=>h) (fun j w' hj p=>p qic) L (ax rfl fun w' a=>by have p1:=a.1.cell (i:=1) rfl;have p2:=a.1.lt;have p3:=a.2.1.cell H0;have p4:=a.2.1.lt;have p5:=a.2.2.1;have p6:=a.2.2.2;go_simp;first|done|rfl) ?_;go_simp;refine aL 3 16 _ rfl zk (fun _ _ _ h=>h) (fun j w' hj p=>p qic) L (ax rfl fun w' a=>by have p1:=a.1.cell (i:=1) rfl;have p2:=a.1.lt;have p3:=a.2.1.cell H0;have p4:=a.2.1.lt;have p5:=a.2.2.1;have p6:=a.2.2.2;go_simp;first|done|rfl) ?_;go_simp;refine aL 4 16 _ rfl zk (fun _ _ _ h=>h) (fun j w' hj p=>p qic) L (ax rfl fun w' a=>by have p1:=a.1.cell (i:=1) rfl;have p2:=a.1.lt;have p3:=a.2.1.cell H0;have p4:=a.2.1.lt;have p5:=a.2.2.1;have p6:=a.2.2.2;go_simp;first|done|rfl) ?_;go_simp;refine aL 5 16 _ rfl zk (fun _ _ _ h=>h) (fun j w' hj p=>p qic) L (ax rfl fun w' a=>by have p1:=a.1.cell (i:=1) rfl;have p2:=a.1.lt;have p3:=a.2.1.cell H0;have p4:=a.2.1.lt;have p5:=a.2.2.1;have p6:=a.2.2.2;go_simp;first|done|rfl) ?_;go_simp;refine aL 6 16 _ rfl zk (fun _ _ _ h=>h) (fun j w' hj p=>p qic) L (ax rfl fun w' a=>by have p1:=a.1.cell (i:=1) rfl;have p2:=a.1.lt;have p3:=a.2.1.cell H0;have p4:=a.2.1.lt;have p5:=a.2.2.1;have p6:=a.2.2.2;go_simp;first|done|rfl) ?_;go_simp;refine aL 7 16 _ rfl zk (fun _ _ _ h=>h) (fun j w' hj p=>p qic) L (ax rfl fun w' a=>by have p1:=a.1.cell (i:=1) rfl;have p2:=a.1.lt;have p3:=a.2.1.cell H0;have p4:=a.2.1.lt;have p5:=a.2.2.1;have p6:=a.2.2.2;go_simp;first|done|rfl) ?_;go_simp;refine aL 8 16 _ rfl zk (fun _ _ _ h=>h) (fun j w' hj p=>p qic) L (ax rfl fun w' a=>by have p1:=a.1.cell (i:=1) rfl;have p2:=a.1.lt;have p3:=a.2.1.cell H0;have p4:=a.2.1.lt;have p5:=a.2.2.1;have p6:=a.2.2.2;go_simp;first|done|rfl) ?_;go_simp;refine aL 9 16 _ rfl zk (fun _ _ _ h=>h) (fun j w' hj p=>p qic) L (ax rfl fun w' a=>by have p1:=a.1.cell (i:=1) rfl;have p2:=a.1.lt;have p3:=a.2.1.cell H0;have p4:=a.2.1.lt;have p5:=a.2.2.1;have p6:=a.2.2.2;go_simp;first|done|rfl) ?_;go_simp;refine aL 10 16 _ rfl zk (fun _ _ _ h=>h) (fun j w' hj p=>p qic) L (ax rfl fun w' a=>by have p1:=a.1.cell (i:=1) rfl;have p2:=a.1.lt;have p3:=a.2.1.cell H0;have p4:=a.2.1.lt;have p5:=a.2.2.1;have p6:=a.2.2.2;go_simp;first|done|rfl) ?_;go_simp;refine bg 11 zk (aJ rfl rfl (dE zg (HOR.o _ E.ay) ?_));rintro e' w6 ⟨r,C,rfl,hb6,z',hC,-⟩;have eC:=fzi hC;obtain⟨ra,rc,rfl,-⟩:=id z';have s:=E.call hb6;have S:=Mem_le_grow (w:=w6) E.ay;have L:=zi s.fifth.obj (zi s.av.obj (zi (bL s.aP.row hcy) (World.ownsRow.lt s.aP.row _ rfl).2));have HCR:=zh ((A.o.2.1.mono fun _ _ h=>h.le S).set1 (x:=(C,e)) hi2 (j:=0) zo (u:=.slice ra C.length rc) rfl fun cs' h=>by obtain⟨c',x1,y1,rfl,g1,g2,g3⟩:=h;rw[HI2.o]at g2 g3;exact⟨_,x1,y1,by rw[ow,HI2.o];rfl,z',g2,g3⟩);clear z' hC;refine⟨_,rfl,.inr fun _=>L,?_⟩;go_simp;have y0:=L.2.2.1;have yl:=L.2.2.2;have yf:=fI s.aP.row (i2*19);refine bg 12 zk (aJ rfl rfl (aO qdT ⟨.inl rfl,?_⟩));go_simp;refine bg 13 zk (aJ rfl rfl (aO qdT ⟨.inl rfl,?_⟩));go_simp;refine bg 14 zk (aJ rfl rfl (bT zg ⟨.inr fun h=>absurd rfl h,?_⟩));refine gM zk ?_ _;have HO8:=zh (s.aP.setRow (i2*19) (.slice ra C.length rc)).bK.bK;exact hY.o _ _ rfl ⟨_,.slice (some ⟨gr,0,none⟩) out.length a',_,rfl,S,by rw[HN.o,eC];exact HCR.o,by rw[HN.o,List.length_set];exact HO8.o⟩
   clear HO5;rintro z1 vs w6-⟨MK3,rv3,ys3,rfl,K,hx3,t⟩;simp[bB,lk];have O:=zh t;clear t;go_wp2;exact hX.o _ _ _ zo rfl ⟨i+1,MK3,_,_,ks++[(f.1,e)],zo,rfl,rfl,A.o.1,by rw[HFO.o];exact hx3,A.o.2.2.1.mono fun _ _ h=>h.le K,Mem.le_trans A.o.2.2.2.1 K,by rw[HFO.o];exact O.o⟩
 obtain⟨b,off,rfl,h4⟩:=HK.o.1 qdP;have kf1:=(h4 i hlt).sz;have kf2:=(h4 i hlt).pr;obtain⟨x,y,hc,hx,hy⟩:=(h4 i hlt).cells;have T:=Mem_inn_le G.o.2.2 t.ay;have hcl:=Mem_cell_lt T (hc 0 _ rfl);have HC:=zh (fun j u hj=>Mem_cell_w T (hc j u hj));have h1:=mV hx hy;have hl:(qI c.1[i] x y).length=20:=rfl;have hlD:(dC c.1[i].2 x y).length=18:=rfl;have HSU:=zh (fun j u=>@qH c.1[i] x y j u);have HTK:=zh (show ∀e x' y',(qI c.1[i] x y).take 2++dC e x' y'=qI (c.1[i].1,e) x' y' from fun e x' y'=>rfl);have HD:=zh (HH.o.2 _ (gzW hlt));have C':=zh (fun w' (h:MK.ay w')=>HCV.o MK c.1[i].2 x y w' h G.o.2.2 (hx.le G.o.2.2) (hy.le G.o.2.2) HD.o);have HT:=zh (show ∀e,cf c.1[i].2=some e->gQ ff (c.1.take (i+1))=some (es++[(c.1[i].1,e)]) from fun e he=>by rw[qR hlt,G.o.1];show((ff c.1[i]).map fun y=>es++[y])=_;rw[HFF.o,Vx (by rw[<-HCF.o];exact he)];rfl);have D':=zh (show cf c.1[i].2=none->mQ (cz n) (dz n) c=none from fun h=>by
  unfold mQ;rw[oO (zF hlt) (Vy (by rw[<-HCF.o];exact h))];rfl)
 have HFS:=zh (zi kf1 kf2);have O:=zh (t.al SG 82);unfold bP at C';generalize qI c.1[i] x y=F at*
 generalize dC c.1[i].2 x y=D at*
 generalize c.1[i]=f at*
 clear t h4 hc hx hy T kf1 kf2
 go_wp2_with (first
  |refine aj uh rfl (.tmp 21) rfl rfl F hl HC.o ?_
  |(refine aB uh rfl (.tmp 8) (.tmp 22) rfl (cs:=F.toArray) rfl rfl rfl qdY (fun u hu=>h1 u qdQ) O.o.obj ?_;intro w2 M' U';have V:=O.o.aW M' U';have q1:=V.obj.sub (o:=2) (cs:=D) (fun j u hj=>by simpa using HSU.o j u hj))
  |refine aj dU rfl (.tmp 24) rfl rfl D hlD q1 ?_
  | fail)
 refine(C'.o _ V.ay).mono ?_;rintro e w3 ⟨X',hr⟩;obtain⟨cs,ok,rfl,vJ,f',W,A'⟩:=hr.cells;rw[<-HCF.o]at W A';have HM:=zh (zi (Mem_le_grow (w:=w3) V.ay) A');have J:=zh ((V.call X').al oz 35);clear O V X' hr C' q1 M' U' HC A'
 cases hcd:cf f.2 with
 |none=>
  obtain rfl:ok=false:=by rw[W,hcd];rfl
  have HRN:=zh (D'.o hcd);clear D' HT G HM hcd W
  go_wp2_with (first
   |(refine aB dU rfl (.tmp 9) (.tmp 27) rfl (cs:=cs.toArray) rfl rfl rfl qid (fun u hu=>f' u qdQ) J.o.obj ?_;intro w4 Q U;have B':=J.o.aW Q U)
   | refine aB Et rfl (.tmp 2) (.tmp 31) rfl (cs:=#[.slice none 0 0,.slice none 0 0]) rfl rfl rfl rfl zD B'.fifth.obj ?_)
  intro w5 u' T';have hr:=Et.load (P:=prog) (cs:=[.slice none 0 0,.slice none 0 0]) rfl u'.all;have HB:=zh (B'.fifth.aW u' T').az;clear J B' Q U u' T';go_wp2;refine yV (v:=.tuple #[.agg #[.slice none 0 0,.slice none 0 0],.bool false,.bool false]) (oJ results81 rfl hr) rfl ?_
  exact hR.o _ _ ⟨HB.o,by unfold ZE;rw[HRN.o]⟩
 |some e=>
  obtain rfl:ok=true:=by rw[W,hcd];rfl
  obtain⟨x',y',ecs,k1,k2⟩:=HM.o.2 e hcd;have i':=zh (HD.o.Po qeq);have A:=zh (zi (HT.o e hcd) (zi ((G.o.2.1.mono fun _ _ h=>h.le HM.o.1).push (x:=(f.1,e)) (cs:=qI (f.1,e) x' y') rfl (mV k1 k2) ⟨HFS.o.1,HFS.o.2,x',y',rfl,k1,k2⟩) (Mem.le_trans G.o.2.2 HM.o.1)));have HBT:=zh (fun w' (h:(MK.grow w2 w3).ay w')=>i'.o.1.lF h (HH.o.1.le (Mem.le_trans G.o.2.2 HM.o.1)) k1);have HSB:=zh (fun j u hj=>@lh e x' y' j u hj);have hlN:(bu e.1 x').length=9:=rfl;have HTK2:=zh (HTK.o e x' y');have lF':(qI (f.1,e) x' y').length=20:=rfl;have oF':=mV (f:=(f.1,e)) k1 k2;rw[<-ecs]at HSB HTK2;generalize bu e.1 x'=N at*
  generalize qI (f.1,e) x' y'=F' at*
  obtain⟨bl2,W'⟩:∃b,b=((es++[(f.1,e)]).all fun f => !ja f.2.1):=⟨_,rfl⟩;have HAL:=zh (show bl2=((es.all fun f => !ja f.2.1) && !ja e.1)by rw[W'];simp);have HB2:=zh W';clear D' HT G HM hcd W ecs k1 k2 i' W' HTK;generalize (es.all fun f => !ja f.2.1)=bl at*
  generalize ja e.1=be at*
  generalize MK.grow w2 w3=Z at*
  go_upto_region 9 with(first
   | (refine aB dU rfl (.tmp 9) (.tmp 27) rfl (cs:=cs.toArray) rfl rfl rfl qid (fun u hu=>f' u qdQ) J.o.obj ?_;intro w4 Q U;have HO4:=zh (J.o.aW Q U);clear J Q U))
  refine aV [1,2,5,6,8,9,17,18,19] (fun vs w'=>vs=[.pointer (some ⟨w.heap.size,0,none⟩),.pointer (some ⟨w.heap.size+1,0,none⟩),.pointer (some ⟨w.heap.size+1+1,0,none⟩),.bool bl2,.pointer (some ⟨wr.heap.size,0,none⟩),.pointer (some ⟨w3.heap.size,0,none⟩),.slice (some ⟨b,off,none⟩) c.1.length c1,.int .i64 (c.1.length:Int),.int .i64 (i:Int)] /\
   Own w m w' Z [.obj w3.heap.size 35 cs.toArray,.obj wr.heap.size 82 F.toArray,.row rv 82 20 es.length xs,.obj (w.heap.size+1+1) 62 #[rv,.slice none 0 0],.obj (w.heap.size+1) 62 #[.slice none 0 0,.slice none 0 0],.obj w.heap.size 62 #[.slice (some ⟨b,off,none⟩) c.1.length c1,.slice a2 c.2.length c2]]) ?_ ?_
  .intro Y hY;have q1:=HO4.o.obj.sub (o:=0) (cs:=N) (fun j u hj=>by simpa using HSB.o j u hj)
   cases bl with
   |false=>
    have e2:bl2=false:=by rw[HAL.o];rfl
    rw[e2]at hY;clear e2;go_wp2
    exact hY.o _ _ rfl ⟨rfl,HO4.o⟩
   |true=>
    have e2:bl2 = !be:=by rw[HAL.o];rfl
    rw[e2]at hY;clear e2
    go_wp2_with (first
     |refine aj kK rfl (.tmp 34) rfl rfl N hlN q1 ?_
     | fail)
    exact qhd
  clear HO4 HBT HSB HAL hlN;rintro z1 vs w6-⟨rfl,t⟩;simp[bB,lk];have q1:=t.obj.all;have O:=zh t;clear t
  go_wp2_with (first
   |refine aj dU rfl (.tmp 9) rfl rfl cs vJ q1 ?_
   |(refine Nt dU rfl (.tmp 40) (.tmp 39) rfl (o:=2) (cs:=cs.toArray) rfl rfl qeo qid (fun u hu=>f' u qdQ) O.o.av.obj ?_;intro w7 ob7 hg7;simp only[HTK2.o]at ob7;have s:=O.o.av.aW ob7 hg7;have HO7:=zh s;have y0:=s.bR.obj.c 0;have yl:=s.bR.obj.lt;have q2:=s.obj.all;clear s ob7 hg7)
   |refine aj uh rfl (.tmp 8) rfl rfl F' lF' q2 ?_
   |(refine gu Ti uh VX rfl zo rfl (.tmp 43) rfl (cs:=F'.toArray) rfl (by simpa using lF') ?_;have HO8:=zh (HO7.o.al F'.toArray 82))
   | (at_builtin;refine aT Ti rfl (.tmp 42) (.tmp 44) rfl rv es.length xs rfl HO8.o.bR.row ⟨w7.heap.size,0,none⟩ 1 1 F' rfl lF' qe5 oF' qdR zo ?_))
  intro va vc w8 ho8 hg8 hr8;have I:=(HO8.o.bR.app ho8 hg8 hr8 zS).bK.bK.bK;have y0:=I.av.obj.c 0;have yl:=I.av.obj.lt;have yf:=I.av.obj.frozen 0;have HO9:=zh (I.av.set 0 (.slice va (es.length+1) vc)).av;clear O HO7 HO8 I ho8 hg8 hr8 q1 q2;go_wp2;exact hX.o _ _ _ zo rfl ⟨i+1,Z,_,_,es++[(f.1,e)],zo,rfl,by rw[<-HB2.o]<;>rfl,A.o.1,A.o.2.1,A.o.2.2,by simpa using HO9.o⟩
theorem J4{n:Nat}{x:Lc}{y:Lc×Bool}(k:∀d∈aY x,Lm n d)(h:mG (cz n) (dz n) x=some y):∀d∈aY y.1,Aq n d:=by
 unfold mG at h;obtain⟨l,f,h⟩:=Option.bind_eq_some_iff.1 h;obtain⟨r,e,rfl⟩:=Option.map_eq_some_iff.1 h;intro d a;rcases yP.1 a with a|a
 .obtain⟨z,b,c⟩:=iL f a;exact Lm.Po (k z (yP.2 (.inl b))) c
 .obtain⟨z,b,c⟩:=iL e (xR.1 a).1;exact Lm.Po (k z (yP.2 (.inr b))) c
theorem Vt{n:Nat}{x:St}{y:St×Bool}(j:bH x)(e:Ak x)(k:∀d∈bN x,Lm n d)(h:mQ (cz n) (dz n) x=some y):(∀d∈bN y.1,Aq n d)/\∀k∈y.1.2,k.1.length<=729:=by
 unfold mQ at h;obtain⟨fs,q,h⟩:=Option.bind_eq_some_iff.1 h;obtain⟨r,m,rfl⟩:=Option.map_eq_some_iff.1 h;have P:=gzy (n:=n) (i:=x.2.length) j e (by rw[yG];exact m);refine⟨fun d a=>?_,fun k hk=>P.len k (gY.1 hk)⟩;rcases yP.1 a with a|a
 .obtain⟨f,g,rfl⟩:=yD.1 a;obtain⟨z,c,b⟩:=iL q g;unfold uJ at b;obtain⟨d,l,rfl⟩:=Option.map_eq_some_iff.1 b;exact Lm.Po (k _ (yP.2 (.inl (yD.2 ⟨z,c,rfl⟩)))) l
 .obtain⟨f,g,rfl⟩:=yD.1 a;obtain⟨s,p,o⟩:=P.SC.FW.vals f (gY.1 g);obtain⟨z,c,b⟩:=iL m p;unfold qf at b;obtain⟨d,l,rfl⟩:=Option.map_eq_some_iff.1 b;rw[<-o];exact Lm.Po (k _ (yP.2 (.inr (yD.2 ⟨z,c,rfl⟩)))) l
theorem Ji(c:Lc):(lZ c).kids=aY c:=by simp[lZ,Vl.kids,Vl.aN,Vl.aA]
theorem PQ(c:St):(uX c).kids=bN c:=by simp[uX,Vl.kids,Vl.aN,Vl.aA]
theorem WS(n:Nat)(c:Lc):dA (n+1) (lZ c)=1+fw (cv n) (aY c):=by
 rw[pM];simp[lZ,Vl.aN,Vl.aA,fw]
theorem WR(n:Nat)(c:St):dA (n+1) (uX c)=1+fw (cv n) (bN c):=by
 rw[pM];simp[uX,Vl.aN,Vl.aA,fw]
theorem bzM{n:Nat}{v:Vl}{x:Lc}(a:x∈v.aN):1+fw (cv n) (aY x)<=dA (n+1) v:=by
 rw[pM];have:=NI (f:=fun c=>fw (cv n) (aY c)) a;unfold fw at this⊢;omega
theorem fzD{n:Nat}{v:Vl}{x:St}(a:x∈v.aA):1+fw (cv n) (bN x)<=dA (n+1) v:=by
 rw[pM];have:=NI (f:=fun c=>fw (cv n) (bN c)) a;unfold fw at this⊢;omega
theorem az4{n:Nat}:∀{l:List Vd},(∀d∈l,Lm n d)->l.length<=fw (cv n) l
 |[],_=>zI _
 |d::l,h=>by
  have c:=az4 fun x a=>h x (zU _ a);have b:=Hz (h d zS).1.snd.ht;rw[fq,yO];unfold cv at*
  omega
theorem Xf.vJ{n:Nat}{v:Vl}(h:Xf (n+1) v){x:Lc}(a:x∈v.aN):(∀d∈aY x,Lm n d)/\(aY x).length<=1048576:=by
 have b:∀d∈aY x,Lm n d:=fun d c=>h.kids d (eB a c);have f:=az4 b;have e:=bzM (n:=n) a;have:=h.cnt;exact⟨b,zo⟩
theorem Xf.sts{n:Nat}{v:Vl}(h:Xf (n+1) v){x:St}(a:x∈v.aA):(∀d∈bN x,Lm n d)/\bH x/\Ak x:=⟨fun d b=>h.kids d (eQ a b),(h.snd.1.st x a).2,h.src.1.st x a⟩
theorem dzj{n:Nat}{v:Vl}(h:Xf (n+1) v){x:Lc}(g:x∈v.aN){y:Lc×Bool}(e:mG (cz n) (dz n) x=some y):kQ (n+1) (lZ y.1):=by
 have k:=h.vJ g;have f:=J4 k.1 e;have i:∀d∈aY x,iQ n d.1/\iQ n d.2:=fun d a=>⟨(k.1 d a).1.snd,(k.1 d a).2.snd⟩;have j:=RU (D9 n) (h.snd.1.rest x g) i e;have o:=(Nh (uI n) i e).1;have m:=bzM (n:=n) g;have l:=h.cnt;refine⟨⟨⟨fun h=>by simp[lZ,Vl.any]at h,fun c b=>?_,fun c b=>by simp[lZ,Vl.aA]at b,gI⟩,fun d a=>?_⟩,⟨⟨zG _,zG _,zG _,by simp[lZ,Vl.aN],zG _,fun c b=>by simp[lZ,Vl.aA]at b⟩,fun d a=>?_⟩,by rw[WS];omega⟩
 .simp only[lZ,Vl.aN,zZ]at b;rw[b];exact j.1
 .rw[Ji]at a;exact⟨(f d a).1.snd,(f d a).2.snd⟩
 .rw[Ji]at a;exact⟨(f d a).1.fit,(f d a).2.fit⟩
theorem Wd{n:Nat}{v:Vl}(h:Xf (n+1) v){x:St}(i:x∈v.aA){y:St×Bool}(e:mQ (cz n) (dz n) x=some y):kQ (n+1) (uX y.1)/\Zx n y.1:=by
 have k:=h.sts i;have f:=Vt k.2.1 k.2.2 k.1 e;have g:∀d∈bN x,iQ n d.1/\iQ n d.2:=fun d a=>⟨(k.1 d a).1.snd,(k.1 d a).2.snd⟩;have j:=RQ (D9 n) (h.snd.1.st x i).1 k.2.1 g e;have l:=Nf (uI n) k.2.1 g k.2.2 e;have p:=(Fs (uI n) g e).1;have o:=fzD (n:=n) i;have m:=h.cnt;refine⟨⟨⟨⟨fun h=>by simp[uX,Vl.any]at h,fun c b=>by simp[uX,Vl.aN]at b,fun c b=>?_,gI⟩,fun d a=>?_⟩,⟨⟨zG _,zG _,zG _,zG _,by simp[uX,Vl.aA],fun c b=>?_⟩,fun d a=>?_⟩,by rw[WR];omega⟩,j.co,f.2,f.1⟩
 .simp only[uX,Vl.aA,zZ]at b;rw[b];exact⟨j.fo,j.co⟩
 .rw[PQ]at a;exact⟨(f.1 d a).1.snd,(f.1 d a).2.snd⟩
 .simp only[uX,Vl.aA,zZ]at b;rw[b];exact l
 .rw[PQ]at a;exact⟨(f.1 d a).1.fit,(f.1 d a).2.fit⟩
theorem En.le{n:Nat}{m M:Mem}(hle:m.le M){cs:List Value}{c:Lc}(h:En n m cs c):En n M cs c:=by
 exact qbP
theorem Fz.le{n:Nat}{m M:Mem}(hle:m.le M){cs:List Value}{c:St}(h:Fz n m cs c):Fz n M cs c:=by
 exact qbP
theorem Jn{α:Type}(l:List (α×Bool))(y:α×Bool):bY (l++[y])=bY l++if y.2 then[y.1]else[]:=by
 unfold bY;cases h:y.2<;>simp[List.filter_append,h]
theorem MG{α:Type}(l:List (α×Bool)):(bY l).length<=l.length:=by
 unfold bY;rw[xC];exact vB _ _
theorem J8(a0 e d c b a:zV)(w:zW):(Instr.build 33 #[(1,.agg #[a0,e,d,c,b,a])]).run prog w=.ok (.agg #[.bool false,a0,e,d,c,b,a,.slice none 0 0,.slice none 0 0]) w:=by kernel_rfl
theorem RZ(w:zW):(Instr.build 33 #[(0,.bool true)]).run prog w=.ok (.agg #[.bool true,.bool false,.bool false,.bool false,.slice none 0 0,.slice none 0 0,.slice none 0 0,.slice none 0 0,.slice none 0 0]) w:=by kernel_rfl
theorem RX(w:zW):(Instr.build 33 #[]).run prog w=.ok (.agg Sz) w:=by kernel_rfl
theorem VAt_up_leaf{M:Mem}{n:Nat}{a:Bool}:bq M (n+1) dR (.mk a cK [] []):=⟨⟨fM _ _,fM _ _,fM _ _⟩,fM _ _,fM _ _⟩
theorem Own_called{w0 w w':zW}{m mk:Mem}{L:List bA}(h:Own w0 m w mk L)(b:zB w w'){P:Mem->Prop}(a:P (mk.grow w w')):∃M,Own w0 m w' M L/\mk.le M/\P M:=⟨_,h.call b,Mem_le_grow h.ay,a⟩
theorem O1{n:Nat}(hn:n+1<=16)(H:CnH n):CnH (n+1):=by
 intro v s m w hm L hv kv;obtain⟨hsc,hls,hss⟩:=id hv;obtain⟨la,lc,els,p1,q1,k1⟩:=id hls;obtain⟨sa,sc,ess,p2,q2,k2⟩:=id hss;obtain⟨aa,ab,ac,ad,ae,af,ei,ef,et⟩:=hsc.df;unfold maxLen at q1 q2;have hl8:=kv.src.1.l;have hs8:=kv.src.1.s;have h9:(bu v s).length=9:=rfl;have o9:=DF hv;have A:=((Own.start hm).al (bu v s).toArray 33).al Sz 33;simp only[bC]at A;have HK:=zh (zi k1 k2);have HH:=zh (zi L kv);have HVV:=zh hv;have HCL:=zh (fun(M:Mem) (c:Lc) u u2 w' (h:M.ay w') (C:m.le M) (h1:bG (bq M n) M u c.1) (h2:bG (bq M n) M u2 c.2) (hc:c∈v.aN)=>Fq H c u u2 M w' h (L.le C) h1 h2 (kv.vJ hc).1 (kv.vJ hc).2);have HCS:=zh (fun(M:Mem) (c:St) u u2 w' (h:M.ay w') (C:m.le M) (h1:gN (bq M n) M u c.1) (h2:gP (bq M n) M u2 c.2) (hc:c∈v.aA)=>Cw H c u u2 M w' h (L.le C) h1 h2 (kv.sts hc).1 (kv.sts hc).2.1 (kv.sts hc).2.2);have Z':=zh (NT s.i s.f s.t v.s m _ A.ay L hsc ⟨kv.src.1.i,kv.src.1.fr,kv.src.1.t⟩ kv.snd.1.sc);obtain⟨cl,hcl⟩:∃cl,cl=mG (cz n) (dz n):=⟨_,rfl⟩;obtain⟨cs,hcs⟩:∃cs,cs=mQ (cz n) (dz n):=⟨_,rfl⟩;have HLF:=zh hcl;have HSF:=zh hcs;have K:=zh A;have n0:(bu v s).toArray[0]?=some (.bool v.any):=rfl;have n7:(bu v s).toArray[7]?=some s.l:=rfl;have n8:(bu v s).toArray[8]?=some s.s:=rfl;have nsc:∀j u,([.bool v.s.dI,.bool v.s.dM,.bool v.s.dO,s.i,s.f,s.t]:List Value)[j]?=some u->(bu v s).toArray[1+j]?=some u:=fun j u hj=>by rw[Nat.add_comm];match j,hj with|0,hj=>exact hj|1,hj=>exact hj|2,hj=>exact hj|3,hj=>exact hj|4,hj=>exact hj|5,hj=>exact hj
 have Y':=zh (show cz (n+1) v=if v.any=true then some v else(gQ cl v.aN).bind fun ls=>(gQ cs v.aA).map fun r=>if tf (OG (lu n v (bY ls) (bY r)))=true then fE else lu n v (bY ls) (bY r) from by rw[cz,hcl,hcs]);unfold Vl.val;unfold RS.val at Z';have q0:=A.av.obj.all;have qs:=A.av.obj.sub (o:=1) nsc;have y0:=A.av.obj.cell n0;have yl:=A.av.obj.lt;rw[els]at n7;rw[ess]at n8;rw[ei,ef,et]at Z' qs;clear A k1 k2 L kv H hcl hcs hv els ess ei ef et hsc hls hss nsc;generalize hN:bu v s=N at*
 have HN:=zh hN.symm;clear hN;refine au fun R hR=>?_
 go_enter func55,ntmps55
 cases hany:v.any with
 |true=>
  have I:=zh (show cz (n+1) v=some v by rw[Y'.o,zK hany]);rw[hany]at y0 n0;clear Y' hany
  go_wp2_with (first
   |refine aj kK rfl (.tmp 1) rfl rfl N h9 q0 ?_
   | (refine aB kK rfl (.tmp 2) (.tmp 19) rfl (cs:=N.toArray) rfl rfl rfl (by simpa using h9) (fun u hu=>o9 u qdQ) K.o.obj ?_;intro w2 ob2 hg2;have F':=zh (K.o.aW ob2 hg2);have hr:=kK.load (P:=prog) (cs:=N) h9 ob2.all;clear ob2 hg2))
  refine yV (v:=.tuple #[.agg N.toArray,.bool true]) qiM rfl ?_;refine hR.o _ _ ⟨F'.o.az,?_⟩;unfold Mx;rw[I.o]
  exact⟨s,by rw[HN.o];rfl,HVV.o.le F'.o.done⟩
 |false=>
 have I:=zh (show cz (n+1) v=(gQ cl v.aN).bind fun ls=>(gQ cs v.aA).map fun r=>if tf (OG (lu n v (bY ls) (bY r)))=true then fE else lu n v (bY ls) (bY r)by rw[Y'.o,zJ (by rw[hany];simp)]);rw[hany]at y0 n0;clear Y' hany;have hbl:=fun a0 a1 a2 a3 a4 a5 w=>J8 a0 a1 a2 a3 a4 a5 w
 go_wp2_with (first
  |refine aj wQ rfl (.tmp 20) rfl rfl [.bool v.s.dI,.bool v.s.dM,.bool v.s.dO,.slice aa v.s.i.length ab,.slice ac v.s.f.length ad,.slice ae v.s.t.length af] rfl qs ?_
  | fail)
 refine Z'.o.mono ?_;rintro e w1 ⟨ui,uf,ut,rfl,hb1,z'⟩;obtain⟨za,zb,zc,zd,ze,zf,rfl,rfl,rfl⟩:=z'.df;obtain⟨MK0,hO1,Q,z'⟩:=Own_called (P:=fun M=>dD M _ _ _ v.s) K.o hb1 z';have Q:=zh Q;have HAT:=zh z';have b':=zh ((hO1.al #[.bool false,.bool v.s.dI,.bool v.s.dM,.bool v.s.dO,.slice za v.s.i.length zb,.slice zc v.s.f.length zd,.slice ze v.s.t.length zf,.slice none 0 0,.slice none 0 0] 33).fC 50 2);have y7:=b'.o.bR.obj.cell n7;have yl:=b'.o.bR.obj.lt;clear K Z' hb1 z' hO1 y0 q0 qs n0 n7 h9 o9;go_wp2;refine aC [1,2,4,5,25,26,27] (fun q vs wr=>∃(i:Nat) (T:Mem) (rv:zV) (xs:List Value) (ls:List (Lc×Bool)),i<=v.aN.length/\q=v.aN.length-i/\vs=[.pointer (some ⟨w.heap.size,0,none⟩),.pointer (some ⟨w.heap.size+1,0,none⟩),.pointer (some ⟨w1.heap.size,0,none⟩),rv,.slice la v.aN.length lc,.int .i64 (v.aN.length:Int),.int .i64 (i:Int)]/\gQ cl (v.aN.take i)=some ls/\lw 2 (En n T) xs (bY ls)/\MK0.le T/\Own w m wr T [.row rv 50 2 (bY ls).length xs,.obj w1.heap.size 33 #[.bool false,.bool v.s.dI,.bool v.s.dM,.bool v.s.dO,.slice za v.s.i.length zb,.slice zc v.s.f.length zd,.slice ze v.s.t.length zf,.slice none 0 0,.slice none 0 0],.obj (w.heap.size+1) 33 Sz,.obj w.heap.size 33 N.toArray]) ?_ ?_
 .exact⟨_,0,MK0,_,[],[],zG _,rfl,rfl,rfl,.nil,Mem.le_refl _,b'.o⟩
 clear b' y7 yl;rintro X z q vs wr hX-⟨i,T,rv,xs,ls,hi,rfl,rfl,he,hx,C,A⟩;simp[bB,lk];have v':=iM he;rw[List.length_take,Nat.min_eq_left hi]at v';have hkl:=MG ls;have G:(bY ls).length<=8:=zo;have F:=zh (zi he (zi hx (zi C trivial)));clear he hx C v' hkl;by_cases hlt:i<v.aN.length
 case neg=>
  obtain rfl:i=v.aN.length:=zo;have X':=zh (show gQ cl v.aN=some ls from by have:=F.o.1;rwa [yG]at this);obtain⟨la2,lb2,rfl⟩:=bz A.row;have y7:=A.bR.obj.cell n8;have yl:=A.bR.obj.lt;have b':=zh ((A.fC 62 2).sub (.cons_cons _ (.cons_cons _ (.cons_cons _ (.cons_cons _ (List.nil_sublist _))))));have H':=zh (zi F.o.2.1 F.o.2.2.1);have HL8:=zh G;clear A hX F hlt hi G;go_wp2;refine aC [2,4,5,11,47,48,49] (fun q vs wr=>∃(i:Nat) (MK:Mem) (M':zV) (ys:List Value) (r:List (St×Bool)),i<=v.aA.length/\q=v.aA.length-i/\vs=[.pointer (some ⟨w.heap.size+1,0,none⟩),.pointer (some ⟨w1.heap.size,0,none⟩),.slice la2 (bY ls).length lb2,M',.slice sa v.aA.length sc,.int .i64 (v.aA.length:Int),.int .i64 (i:Int)]/\gQ cs (v.aA.take i)=some r/\lw 2 (Fz n MK) ys (bY r)/\lw 2 (En n MK) xs (bY ls)/\T.le MK/\Own w m wr MK [.row M' 62 2 (bY r).length ys,.row (.slice la2 (bY ls).length lb2) 50 2 (bY ls).length xs,.obj w1.heap.size 33 #[.bool false,.bool v.s.dI,.bool v.s.dM,.bool v.s.dO,.slice za v.s.i.length zb,.slice zc v.s.f.length zd,.slice ze v.s.t.length zf,.slice none 0 0,.slice none 0 0],.obj (w.heap.size+1) 33 Sz]) ?_ ?_
  .exact⟨_,0,T,_,[],[],zG _,rfl,rfl,rfl,.nil,H'.o.1,Mem.le_refl _,b'.o⟩
  clear b' y7 yl;rintro X z q vs wr hX-⟨i,MK,M',ys,r,hi,rfl,rfl,he,hx,hx0,C,A⟩;simp[bB,lk];have v':=iM he;rw[List.length_take,Nat.min_eq_left hi]at v';have hkl:=MG r;have G:(bY r).length<=8:=zo;have F:=zh (zi he (zi hx (zi C hx0)));clear he hx C v' hkl hx0;by_cases hlt:i<v.aA.length
  case neg=>
   obtain rfl:i=v.aA.length:=zo;have HSS:=zh (show gQ cs v.aA=some r from by have:=F.o.1;rwa [yG]at this);have g':=zh (show cz (n+1) v=some (if tf (OG (lu n v (bY ls) (bY r)))=true then fE else lu n v (bY ls) (bY r)) from by rw[I.o,X'.o,HSS.o];rfl);obtain⟨sa2,sb2,rfl⟩:=bz A.row;have HBL:=zh (show ∀c∈bY ls,kQ (n+1) (lZ c) from fun c hc=>by
    obtain⟨x,hx,e⟩:=iL X'.o (qV hc);exact dzj HH.o.2 hx (y:=(c,true)) (by rw[<-HLF.o];exact e))
   have HBS:=zh (show ∀c∈bY r,kQ (n+1) (uX c) from fun c hc=>by
    obtain⟨x,hx,e⟩:=iL HSS.o (qV hc);exact(Wd HH.o.2 hx (y:=(c,true)) (by rw[<-HSF.o];exact e)).1)
   have A':=Mem_le_addv (w:=wr) A.free;have k':=Mem_le_addv (w:=wr) A.bO.free;have KS:=Ih A.row F.o.2.1 (Mem.le_trans A' k') k';have KL:=Jh A.av.row F.o.2.2.2 (Mem.le_trans A' k') (Mem.le_refl _);have hAT:=HAT.o.le (Mem.le_trans (Mem.le_trans H'.o.2 F.o.2.2.1) (Mem.le_trans A' k'));have f':=Mem.le_trans (Mem.le_trans Q.o (Mem.le_trans H'.o.2 F.o.2.2.1)) (Mem.le_trans A' k');have hO2:=A.bO.bO;generalize (MK.iH wr _).iH wr _=M2 at*
   have HX1:=zh (azW hn _ _ M2 wr hO2.ay (HH.o.1.le f') KL HBL.o HL8.o);have HX2:=zh (fun(M:Mem) w' (h:M.ay w') (C:M2.le M)=>azX hn _ (bY r) M w' h (HH.o.1.le (Mem.le_trans f' C)) (KS.le C fun _ _ h=>h.le C) HBS.o G);have F':=zh hO2;have HA2:=zh (zi hAT f');clear A hO2 A' k' KS KL hAT f' hX F HBL HBS HSS H' X' G hlt hi HAT;generalize hLk:bY ls=Lk at*
   generalize hSk:bY r=Sk at*
   clear hLk hSk
   go_wp2_with fail
   refine HX1.o.mono ?_;rintro e w5 ⟨r1,rfl,hb5,h1⟩;obtain⟨M3,E,D,h1⟩:=Own_called (P:=fun M=>Am (bq M n) M r1 _) F'.o hb5 h1;obtain⟨ra,rb,rfl,-⟩:=id h1;have a:=zh E;have J':=zh (zi D h1);clear F' HX1 hb5 h1 E D
   go_wp2_with fail
   refine(HX2.o M3 _ a.o.ay J'.o.1).mono ?_;rintro e w6 ⟨r2,rfl,hb6,h2⟩;obtain⟨M4,g,O,h2⟩:=Own_called (P:=fun M=>Aj (bq M n) M r2 _) a.o hb6 h2;obtain⟨rc,rd,rfl,-⟩:=id h2;have hV:bq M4 (n+1) ⟨.slice za v.s.i.length zb,.slice zc v.s.f.length zd,.slice ze v.s.t.length zf,.slice ra _ rb,.slice rc _ rd⟩ (lu n v Lk Sk):=⟨(HA2.o.1.le J'.o.1).le O,J'.o.2.le O fun _ _ h=>h.le O,h2⟩;have hM4:=Mem.le_trans HA2.o.2 (Mem.le_trans J'.o.1 O);have HEV:=zh (fun w' (h:M4.ay w')=>JH (lu n v Lk Sk) _ M4 w' h (HH.o.1.le hM4) hV ⟨HH.o.2.src.1.i,HH.o.2.src.1.fr,HH.o.2.src.1.t⟩ HH.o.2.snd.1.sc);have HVO:=zh hV;have hO5:=(g.set 7 (.slice ra (gJ (Pn (gW n)) (oN (AV (dz n)) Lk)).length rb)).set 8 (.slice rc (gJ (Pm (gW n)) (oN (AJ (dz n)) Sk)).length rd);have y7:=g.obj.c 7;have y8:=g.obj.c 8;have yl:=g.obj.lt;have f7:=g.obj.frozen 7;have f8:=g.obj.frozen 8;obtain⟨NN,j'⟩:∃NN:List Value,NN=[.bool false,.bool v.s.dI,.bool v.s.dM,.bool v.s.dO,.slice za v.s.i.length zb,.slice zc v.s.f.length zd,.slice ze v.s.t.length zf,.slice ra (gJ (Pn (gW n)) (oN (AV (dz n)) Lk)).length rb,.slice rc (gJ (Pm (gW n)) (oN (AJ (dz n)) Sk)).length rd]:=⟨_,rfl⟩;have HEV2:=zh (show ∀w',M4.ay w'->zC 86 #[.agg NN.toArray] w' fun e w''=>e=.returned (.bool (tf (OG (lu n v Lk Sk))))/\Below w'.heap.size w' w'' from fun w' h=>by rw[j'];exact HEV.o w' h);have HVO2:=zh (show lY (n+1) (lu n v Lk Sk) M4 (.agg NN.toArray) from⟨_,by rw[j'];rfl,HVO.o⟩);have oNN:∀u∈NN.toArray.toList,u.oneCell'=true:=by rw[j'];simp[Value.oneCell']
   have p':NN.length=9:=by rw[j'];rfl
   have W':=zh (show Own w m _ M4 [.obj w1.heap.size 33 NN.toArray,.obj (w.heap.size+1) 33 Sz] from by rw[j'];exact hO5);have q1:=W'.o.obj.all;clear a HX2 hb6 h2 g hO5 O hV HEV HVO hM4 HA2 J' j';generalize (gJ (Pn (gW n)) (oN (AV (dz n)) Lk)).length=ql at*
   generalize (gJ (Pm (gW n)) (oN (AJ (dz n)) Sk)).length=qs at*
   go_wp2_with (first
    |refine aj kK rfl (.tmp 4) rfl rfl NN p' q1 ?_
    | fail)
   refine(HEV2.o _ W'.o.ay).mono ?_;rintro e w7 ⟨rfl,hb7⟩;have E':=zh (W'.o.aS hb7);have q2:=E'.o.obj.all;clear W' HEV2 hb7 q1 y7 y8 yl f7 f8;by_cases i':OG (lu n v Lk Sk)
   .have I':=zh (show cz (n+1) v=some fE by rw[g'.o,zK (aM i')]);rw[aM i'];have hb0:=RZ;clear I g' i' q2
    go_wp2_with (first
     |(refine aB kK rfl (.tmp 4) (.tmp 76) rfl (cs:=(bu fE dR).toArray) rfl rfl (by simpa using p') rfl zD E'.o.obj ?_;intro w8 ob8 S;have l':=zh (E'.o.aW ob8 S);have q3:=ob8.all;clear ob8 S)
     |refine aj kK rfl (.tmp 4) rfl rfl (bu fE dR) rfl q3 ?_
     | (refine aB kK rfl (.tmp 2) (.tmp 77) rfl (cs:=(bu fE dR).toArray) rfl rfl rfl rfl zD l'.o.av.obj ?_;intro w9 U s';have V':=zh (l'.o.av.aW U s');have hr:=kK.load (P:=prog) (cs:=bu fE dR) rfl U.all;clear U s'))
    refine yV (v:=.tuple #[.agg (bu fE dR).toArray,.bool true]) qiM rfl ?_;refine hR.o _ _ ⟨V'.o.az,?_⟩;unfold Mx;rw[I'.o];exact⟨dR,rfl,VAt_up_leaf⟩
   .have I':=zh (show cz (n+1) v=some (lu n v Lk Sk)by rw[g'.o,zJ (by rw[aF i'];simp)]);rw[aF i'];clear I g' i'
    go_wp2_with (first
     |refine aj kK rfl (.tmp 4) rfl rfl NN p' q2 ?_
     | (refine aB kK rfl (.tmp 2) (.tmp 77) rfl (cs:=NN.toArray) rfl rfl rfl (by simpa using p') oNN E'.o.av.obj ?_;intro w9 U s';have V':=zh (E'.o.av.aW U s');have hr:=kK.load (P:=prog) (cs:=NN) p' U.all;clear U s'))
    refine yV (v:=.tuple #[.agg NN.toArray,.bool true]) qiM rfl ?_;refine hR.o _ _ ⟨V'.o.az,?_⟩;unfold Mx;rw[I'.o];obtain⟨sl,e1,e2⟩:=HVO2.o;exact⟨sl,by rw[e1],e2.le V'.o.done⟩
  obtain⟨b,off,rfl,h4⟩:=HK.o.2 qdP;obtain⟨u,u2,Z,x',Y,W⟩:=h4 i hlt;obtain⟨d1,e1,rfl,-⟩:=id Y;obtain⟨d2,e2,rfl,-⟩:=id W;have B:=Mem.le_trans (Mem.le_trans Q.o H'.o.2) F.o.2.2.1;have p:=Mem_inn_le B A.ay;have x1:=Mem_cell_w p Z;have x2:=Mem_cell_w p x';have xl:=Mem_cell_lt p Z;have k:=zF hlt;have C':=zh (fun w' (h:MK.ay w')=>HCS.o MK v.aA[i] _ _ w' h B (Y.le B fun _ _ h=>h.le B) (W.le B fun _ _ h=>h.le B) k);have HT:=zh (show ∀y,cs v.aA[i]=some y->gQ cs (v.aA.take (i+1))=some (r++[y]) from fun y hy=>by rw[qR hlt,F.o.1];show((cs v.aA[i]).map fun y=>r++[y])=_;rw[hy];rfl);have HB:=zh (show ∀y,cs v.aA[i]=some y->Zx n y.1 from fun y hy=>(Wd HH.o.2 k (by rw[<-HSF.o];exact hy)).2);have c':=zh (show cs v.aA[i]=none->cz (n+1) v=none from fun h=>by rw[I.o,X'.o,oO k h];rfl);have K:=zh (A.al #[.slice d1 v.aA[i].1.length e1,.slice d2 v.aA[i].2.length e2] 62);have y0:=K.o.obj.c 0;have y1:=K.o.obj.c 1;have yl:=K.o.obj.lt;generalize v.aA[i]=c0 at*
  generalize c0.1.length=l1 at*
  generalize c0.2.length=l2 at*
  clear A h4 Z x' Y W p k
  go_wp2_with fail
  refine(C'.o _ K.o.ay).mono ?_;rintro e w3 ⟨y',hr⟩;obtain⟨a',E,D,hr⟩:=Own_called (P:=fun M=>ZE n c0 M e) K.o y' hr;have m':=zh D;unfold ZE at hr;rw[<-HSF.o]at hr;clear K C' y0 y1 yl x1 x2 xl D y'
  cases hcd:cs c0 with
  |none=>
   rw[hcd]at hr;obtain rfl:e=_:=hr;have HRN:=zh (c'.o hcd);have HO4:=zh (E.tail.al #[.slice none 0 0,.slice none 0 0] 62);clear c' HT F HB hcd E;have hbz:=RX
   go_wp2_with (refine aB kK rfl (.tmp 2) (.tmp 61) rfl (cs:=Sz) rfl rfl rfl rfl qdS HO4.o.fifth.obj ?_)
   intro w5 V t';have hr:=kK.load (P:=prog) (cs:=Sz.toList) rfl V.all;have HBB:=zh (HO4.o.fifth.aW V t').az;clear HO4 V t';go_wp2;refine yV (v:=.tuple #[.agg Sz,.bool false]) qiM rfl ?_
   exact hR.o _ _ ⟨HBB.o,by unfold Mx;rw[HRN.o]⟩
  |some y=>
   rw[hcd]at hr;obtain⟨u',u2',rfl,k1,k2⟩:=hr;have HRP:=zh (show Fz n a' [u',u2'] y.1 from⟨_,_,rfl,k1,k2,HB.o y hcd⟩);obtain⟨f1,g1,rfl,-⟩:=k1;obtain⟨f2,g2,rfl,-⟩:=k2;have HM:=zh (zi (HT.o y hcd) (zi (F.o.2.1.mono fun _ _ h=>h.le m'.o) (zi (Mem.le_trans F.o.2.2.1 m'.o) (F.o.2.2.2.mono fun _ _ h=>h.le m'.o))));have J:=zh (Jn r y);have a:=zh (E.tail.al #[.slice f1 y.1.1.length g1,.slice f2 y.1.2.length g2] 62);have y0:=a.o.obj.c 0;have y1:=a.o.obj.c 1;have yl:=a.o.obj.lt;generalize y.1.1.length=l3 at*
   generalize y.1.2.length=l4 at*
   clear c' HT F HB hcd E
   cases hy2:y.2 with
   |false=>
    have HQ:=zh (show bY (r++[y])=bY r by rw[J.o,hy2];simp);clear J hy2;go_wp2
    exact hX.o _ _ _ zo rfl ⟨i+1,a',_,_,r++[y],zo,rfl,rfl,HM.o.1,by rw[HQ.o];exact HM.o.2.1,HM.o.2.2.2,HM.o.2.2.1,by rw[HQ.o];exact a.o.tail⟩
   |true=>
    have HQ:=zh (show bY (r++[y])=bY r++[y.1]by rw[J.o,hy2];simp);have g:=a.o.al #[.slice f1 l3 g1,.slice f2 l4 g2] 62;simp only[bC]at g;have HO4:=zh g;have HKL:=zh G;clear J hy2 g;generalize B':bY r=KK at*
    have HKK:=zh B';clear B'
    go_wp2_with (at_builtin;refine aT ezz rfl (.tmp 63) (.tmp 65) rfl M' KK.length ys rfl HO4.o.aP.row ⟨w3.heap.size+1,0,none⟩ 1 1 [.slice f1 l3 g1,.slice f2 l4 g2] rfl rfl qe8 qdS qdR zo ?_)
    intro va vc w8 r' S q';have l':=zh (HO4.o.aP.app r' S q' zS).bK.bK;have HCR:=zh (HM.o.2.1.push (x:=y.1) (cs:=[.slice f1 l3 g1,.slice f2 l4 g2]) rfl qdS HRP.o);clear a HO4 r' S q' y0 y1 yl;go_wp2;exact hX.o _ _ _ zo rfl ⟨i+1,a',_,_,r++[y],zo,rfl,rfl,HM.o.1,by rw[HQ.o];exact HCR.o,HM.o.2.2.2,HM.o.2.2.1,by rw[HQ.o];simpa using l'.o⟩
 obtain⟨b,off,rfl,h4⟩:=HK.o.1 qdP;obtain⟨u,u2,Z,x',Y,W⟩:=h4 i hlt;obtain⟨d1,e1,rfl,-⟩:=id Y;obtain⟨d2,e2,rfl,-⟩:=id W;have B:=Mem.le_trans Q.o F.o.2.2.1;have p:=Mem_inn_le B A.ay;have x1:=Mem_cell_w p Z;have x2:=Mem_cell_w p x';have xl:=Mem_cell_lt p Z;have k:=zF hlt;have C':=zh (fun w' (h:T.ay w')=>HCL.o T v.aN[i] _ _ w' h B (Y.le B fun _ _ h=>h.le B) (W.le B fun _ _ h=>h.le B) k);have HT:=zh (show ∀y,cl v.aN[i]=some y->gQ cl (v.aN.take (i+1))=some (ls++[y]) from fun y hy=>by rw[qR hlt,F.o.1];show((cl v.aN[i]).map fun y=>ls++[y])=_;rw[hy];rfl);have HB:=zh (show ∀y,cl v.aN[i]=some y->∀d∈aY y.1,Aq n d from fun y hy=>J4 (HH.o.2.vJ k).1 (by rw[<-HLF.o];exact hy));have c':=zh (show cl v.aN[i]=none->cz (n+1) v=none from fun h=>by rw[I.o,oO k h];rfl);have K:=zh (A.al #[.slice d1 v.aN[i].1.length e1,.slice d2 v.aN[i].2.length e2] 50);have y0:=K.o.obj.c 0;have y1:=K.o.obj.c 1;have yl:=K.o.obj.lt;generalize v.aN[i]=c0 at*
 generalize c0.1.length=l1 at*
 generalize c0.2.length=l2 at*
 clear A h4 Z x' Y W p k
 go_wp2_with fail
 refine(C'.o _ K.o.ay).mono ?_;rintro e w3 ⟨y',hr⟩;obtain⟨a',E,D,hr⟩:=Own_called (P:=fun M=>ZF n c0 M e) K.o y' hr;have m':=zh D;unfold ZF at hr;rw[<-HLF.o]at hr;clear K C' y0 y1 yl x1 x2 xl D y'
 cases hcd:cl c0 with
 |none=>
  rw[hcd]at hr;obtain rfl:e=_:=hr;have HRN:=zh (c'.o hcd);have HO4:=zh (E.tail.al #[.slice none 0 0,.slice none 0 0] 50);clear c' HT F HB hcd E;have hbz:=RX
  go_wp2_with (refine aB kK rfl (.tmp 2) (.tmp 39) rfl (cs:=Sz) rfl rfl rfl rfl qdS HO4.o.bR.obj ?_)
  intro w5 V t';have hr:=kK.load (P:=prog) (cs:=Sz.toList) rfl V.all;have HBB:=zh (HO4.o.bR.aW V t').az;clear HO4 V t';go_wp2;refine yV (v:=.tuple #[.agg Sz,.bool false]) qiM rfl ?_
  exact hR.o _ _ ⟨HBB.o,by unfold Mx;rw[HRN.o]⟩
 |some y=>
  rw[hcd]at hr;obtain⟨u',u2',rfl,k1,k2⟩:=hr;have HRP:=zh (show En n a' [u',u2'] y.1 from⟨_,_,rfl,k1,k2,HB.o y hcd⟩);obtain⟨f1,g1,rfl,-⟩:=k1;obtain⟨f2,g2,rfl,-⟩:=k2;have HM:=zh (zi (HT.o y hcd) (zi (F.o.2.1.mono fun _ _ h=>h.le m'.o) (zi (Mem.le_trans F.o.2.2.1 m'.o) trivial)));have J:=zh (Jn ls y);have a:=zh (E.tail.al #[.slice f1 y.1.1.length g1,.slice f2 y.1.2.length g2] 50);have y0:=a.o.obj.c 0;have y1:=a.o.obj.c 1;have yl:=a.o.obj.lt;generalize y.1.1.length=l3 at*
  generalize y.1.2.length=l4 at*
  clear c' HT F HB hcd E
  cases hy2:y.2 with
  |false=>
   have HQ:=zh (show bY (ls++[y])=bY ls by rw[J.o,hy2];simp);clear J hy2;go_wp2
   exact hX.o _ _ _ zo rfl ⟨i+1,a',_,_,ls++[y],zo,rfl,rfl,HM.o.1,by rw[HQ.o];exact HM.o.2.1,HM.o.2.2.1,by rw[HQ.o];exact a.o.tail⟩
  |true=>
   have HQ:=zh (show bY (ls++[y])=bY ls++[y.1]by rw[J.o,hy2];simp);have g:=a.o.al #[.slice f1 l3 g1,.slice f2 l4 g2] 50;simp only[bC]at g;have HO4:=zh g;have HKL:=zh G;clear J hy2 g;generalize B':bY ls=KK at*
   have HKK:=zh B';clear B'
   go_wp2_with (at_builtin;refine aT ezA rfl (.tmp 41) (.tmp 43) rfl rv KK.length xs rfl HO4.o.aP.row ⟨w3.heap.size+1,0,none⟩ 1 1 [.slice f1 l3 g1,.slice f2 l4 g2] rfl rfl qe8 qdS qdR zo ?_)
   intro va vc w8 r' S q';have l':=zh (HO4.o.aP.app r' S q' zS).bK.bK;have HCR:=zh (HM.o.2.1.push (x:=y.1) (cs:=[.slice f1 l3 g1,.slice f2 l4 g2]) rfl qdS HRP.o);clear a HO4 r' S q' y0 y1 yl;go_wp2;exact hX.o _ _ _ zo rfl ⟨i+1,a',_,_,ls++[y],zo,rfl,rfl,HM.o.1,by rw[HQ.o];exact HCR.o,HM.o.2.2.1,by rw[HQ.o];simpa using l'.o⟩
theorem vY:∀n,n<=16->CnH n
 |0,_=>fun _ _ _ _ _ _ a=>a.elim
 |n+1,h=>O1 h (vY n zo)
structure Pp (N:Nat) (v:Vl):Prop where
 src:tQ N v
 cnt:dA N v<=1048576
def oF(N:Nat)(d:Vd):Prop:=Pp N d.1/\Pp N d.2
theorem tQ.low:∀{n N:Nat} {v:Vl},tQ N v->Ht n v->tQ n v
 |0,_,_,_,h=>h.elim
 |_+1,0,_,h,_=>h.elim
 |_+1,_+1,_,h,k=>⟨h.1,fun x a=>⟨(h.2 x a).1.low (k x a).1,(h.2 x a).2.low (k x a).2⟩⟩
theorem Pp.cnp{N:Nat}{v:Vl}(h:Pp N v)(k:jR v):Xf 16 v:=⟨k,h.src.low k.ht,by rw[czx k.ht h.src.ht];exact h.cnt⟩
theorem oF.cnd{N:Nat}{d:Vd}(h:oF N d)(k:jR d.1/\jR d.2):Lm 16 d:=⟨h.1.cnp k.1,h.2.cnp k.2⟩
def C8(d:Vd)(M:Mem)(e:Ending):Prop:=match pX d with
 |some u=>∃x y,e=.returned (.tuple #[bP u x y,.int .i64 0])/\bq M 16 x u.1/\bq M 16 y u.2
 |none=>e=.returned (.tuple #[.agg oz,.int .i64 11])
theorem C8.cells{d:Vd}{M:Mem}{e:Ending}(h:C8 d M e):∃(cs:List Value) (k:Int),e=.returned (.tuple #[.agg cs.toArray,.int .i64 k])/\cs.length=18/\(∀u∈cs,u.oneCell'=true)/\(pX d=none->k=11)/\∀u,pX d=some u->k=0/\∃x y,cs=dC u x y/\bq M 16 x u.1/\bq M 16 y u.2:=by
 unfold C8 at h
 cases hc:pX d with
 |none=>
  rw[hc]at h
  exact⟨oz.toList,11,h,rfl,by simp[Value.oneCell'],fun _=>rfl,fun u f=>by cases f⟩
 |some u=>
  rw[hc]at h;obtain⟨x,y,rfl,b,a⟩:=h;exact⟨dC u x y,0,rfl,rfl,fZ b a,(fun h=>by cases h),fun v c=>by cases c;exact⟨rfl,x,y,rfl,b,a⟩⟩
theorem bz6(w:zW):(Instr.build 35 #[]).run prog w=.ok (.agg oz) w:=by kernel_rfl
theorem azY{N:Nat}(d:Vd)(x y:Sl)(m:Mem)(w:zW)(hm:m.ay w)(n:dV m)(Q:bq m N x d.1)(O:bq m N y d.2)(k:oF N d):
 zC 18 #[bP d x y] w fun e w'=>zB w w'/\C8 d (m.grow w w') e:=by
 have H:=((Own.start hm).al (dC d x y).toArray 35).al oz 35;simp only[bC]at H;have S:=zh (C9 d x y m N _ H.ay n Q O k.1.src.fit k.2.src.fit k.1.cnt k.2.cnt);have K:=zh (fun(s:jR d.1/\jR d.2) w' (h:m.ay w')=>qx (vY 16 (zI _)) d x y m w' h n (Q.low s.1.ht) (O.low s.2.ht) (k.cnd s));have W:(dC d x y).length=18:=rfl;have d':=bz6;have X:=zh H;have V:=H.av.obj.all;unfold bP at S K⊢;generalize dC d x y=D at*
 clear H Q O n k;refine au fun R M=>?_
 go_enter func18,ntmps18
 go_wp2_with (first
  |refine aj dU rfl (.tmp 1) rfl rfl D W V ?_
  | fail)
 refine S.o.mono ?_;rintro e w1 ⟨rfl,G⟩;have i:=zh (X.o.aS G);have L:=i.o.av.obj.all;clear X S G V;by_cases r:jR d.1/\jR d.2
 case neg=>
  have I:(tf (jR d.1)&&tf (jR d.2))=false:=by
   by_cases a:jR d.1
   .rw[aF (fun b=>r ⟨a,b⟩)];simp
   .rw[aF a];rfl
  have E:=zh (show pX d=none by unfold pX;rw[zJ (by rw[aF r];simp)]);rw[I];clear I K r
  go_wp2_with (refine aB dU rfl (.tmp 2) (.tmp 9) rfl (cs:=oz) rfl rfl rfl rfl qdS i.o.obj ?_)
  intro U c f;have t:=dU.load (P:=prog) (cs:=oz.toList) rfl c.all;have C:=zh (i.o.aW c f).az;clear i c f L;go_wp2;refine yV (v:=.tuple #[.agg oz,.int .i64 11]) (ek results18 rfl t) rfl ?_;exact M.o _ _ ⟨C.o,by unfold C8;rw[E.o]⟩
 have I:(tf (jR d.1)&&tf (jR d.2))=true:=by rw[aM r.1,aM r.2];rfl
 have HM:=zh (show pX d=gD (cz 16) (dz 16) d by unfold pX;rw[zK (aM r)]);have J:=zh (K.o r);rw[I];clear I K r
 go_wp2_with (first
  |refine aj dU rfl (.tmp 1) rfl rfl D W L ?_
  | fail)
 refine(J.o _ i.o.ay).mono ?_;rintro e w3 ⟨F,t⟩;obtain⟨cs,ok,rfl,vJ,z,q,A⟩:=t.cells;rw[<-HM.o]at q A;have T:=zh A;have l:=zh ((i.o.call F).al oz 35);clear i J F t L A
 cases hcd:pX d with
 |none=>
  obtain rfl:ok=false:=by rw[q,hcd];rfl
  have E:=zh hcd;clear q hcd
  go_wp2_with (first
   |(refine aB dU rfl (.tmp 4) (.tmp 13) rfl (cs:=cs.toArray) rfl rfl rfl qid (fun u hu=>z u qdQ) l.o.obj ?_;intro w4 j p;have g:=zh (l.o.aW j p);clear j p)
   | refine aB dU rfl (.tmp 2) (.tmp 17) rfl (cs:=oz) rfl rfl rfl rfl qdS g.o.av.obj ?_)
  intro U c f;have t:=dU.load (P:=prog) (cs:=oz.toList) rfl c.all;have C:=zh (g.o.av.aW c f).az;clear l g c f;go_wp2;refine yV (v:=.tuple #[.agg oz,.int .i64 11]) (ek results18 rfl t) rfl ?_
  exact M.o _ _ ⟨C.o,by unfold C8;rw[E.o]⟩
 |some u=>
  obtain rfl:ok=true:=by rw[q,hcd];rfl
  have E:=zh hcd;clear q hcd
  go_wp2_with (first
   |(refine aB dU rfl (.tmp 4) (.tmp 13) rfl (cs:=cs.toArray) rfl rfl rfl qid (fun u hu=>z u qdQ) l.o.obj ?_;intro w4 j p;have g:=zh (l.o.aW j p);have q4:=j.all;clear j p)
   |refine aj dU rfl (.tmp 4) rfl rfl cs vJ q4 ?_
   | refine aB dU rfl (.tmp 2) (.tmp 18) rfl (cs:=cs.toArray) rfl rfl rfl qid (fun u hu=>z u qdQ) g.o.av.obj ?_)
  intro U c f;have t:=dU.load (P:=prog) (cs:=cs) vJ c.all;have B:=g.o.av.aW c f;have C:=zh (zi B.az B.done);clear l g B c f;go_wp2;refine yV (v:=.tuple #[.agg cs.toArray,.int .i64 0]) (ek results18 rfl t) rfl ?_;refine M.o _ _ ⟨C.o.1,?_⟩;unfold C8;rw[E.o];obtain⟨Z,Y,e1,e2,e3⟩:=T.o u E.o;exact⟨Z,Y,by rw[e1];rfl,e2.le C.o.2,e3.le C.o.2⟩
theorem bD.gzM{d:Vd}(h:bD d):jR d.1/\jR d.2:=⟨h.s1,h.s2⟩
theorem nC{N:Nat}(d:Vd)(x y:Sl)(m:Mem)(w:zW)(hm:m.ay w)(n:dV m)(J:bq m N x d.1)(I:bq m N y d.2)(k:oF N d):
 zX 8 #[bP d x y] w (.bool (tf (bD d))):=by
 have G:=(Own.start hm).al (dC d x y).toArray 35;have s:=zh (azY d x y m _ G.ay n J I k);have r:=zh (fun(u:Vd) v t (M:Mem) w' (h:M.ay w') (f:m.le M) (e:pX d=some u) (F:bq M 16 v u.1) (E:bq M 16 t u.2)=>show zC 23 #[bP u v t,bP d x y] w' fun e H=>e=.returned (.bool (tf (u=d)))/\Below w'.heap.size w' H from by
  obtain⟨Q,P,s3⟩:=Qx e;have c:=k.cnd ⟨Q,P⟩;have b:=Lm.Po c s3;exact uT 16 u d v t x y M w' h F E ((J.low Q.ht).le f) ((I.low P.ht).le f) ⟨b.1.cnt,b.2.cnt⟩ ⟨c.1.cnt,c.2.cnt⟩)
 have W:(dC d x y).length=18:=rfl;have L:=zh G;have U:=G.obj.all;unfold bP at s r⊢;generalize dC d x y=D at*
 clear G J I n k;refine au fun R X=>?_
 go_enter func8,ntmps8
 go_wp2_with (first
  |refine aj dU rfl (.tmp 1) rfl rfl D W U ?_
  | fail)
 refine s.o.mono ?_;rintro e w3 ⟨B,V⟩;obtain⟨cs,kk,rfl,vJ,z,p,q⟩:=V.cells;have Y:=zh (Mem_le_grow (w:=w3) L.o.ay);have g:=zh ((L.o.call B).al oz 35);clear L s B V U
 cases hcd:pX d with
 |none=>
  obtain rfl:=p hcd;have K:=zh (show tf (bD d)=false from aF (az9 hcd));clear p q hcd
  go_wp2_with (first
   |(refine aB dU rfl (.tmp 3) (.tmp 8) rfl (cs:=cs.toArray) rfl rfl rfl qid (fun u hu=>z u qdQ) g.o.obj ?_;intro Z a i;have O:=zh (g.o.aW a i).az;clear g a i)
   | fail)
  exact X.o _ _ ⟨aR (by rw[K.o]),O.o⟩
 |some u=>
  obtain⟨rfl,v,t,C,F,E⟩:=q u hcd;have K:=zh (show tf (bD d)=tf (u=d) from dY ⟨fun h=>Yr hcd h,fun h=>by rw[h]at hcd;exact(ug d).2 hcd⟩);have j:=zh (fun(M:Mem) w' (h:M.ay w') (f)=>r.o u v t M w' h (Mem.le_trans Y.o f) hcd (F.le f) (E.le f));unfold bP at j;rw[<-C]at j;clear p q hcd C F E r Y
  go_wp2_with (first
   |(refine aB dU rfl (.tmp 3) (.tmp 8) rfl (cs:=cs.toArray) rfl rfl rfl qid (fun u hu=>z u qdQ) g.o.obj ?_;intro Z a i;have l:=zh (g.o.aW a i);have T:=a.all;have S:=l.o.av.obj.all;clear g a i)
   |refine aj dU rfl (.tmp 3) rfl rfl cs vJ T ?_
   |refine aj dU rfl (.tmp 1) rfl rfl D W S ?_
   | fail)
  refine(j.o _ _ l.o.ay (Mem.le_refl _)).mono ?_;rintro e w5 ⟨rfl,A⟩;have O:=zh (l.o.aS A).az;clear l A T S j;go_wp2;exact X.o _ _ ⟨aR (by rw[K.o]),O.o⟩
theorem Pp.lF(n:Nat):Pp (n+1) dB:=by
 refine⟨⟨⟨zG _,zG _,zG _,zG _,zG _,fun c h=>by simp[dB,Vl.aA]at h⟩,fun x a=>by simp[dB,Vl.kids,Vl.aN,Vl.aA]at a⟩,OW n⟩
theorem bq.pos{m:Mem}{N:Nat}{x:Sl}{v:Vl}(h:bq m N x v):∃n,N=n+1:=by
 cases N with
 |zero=>exact h.elim
 |succ n=>exact⟨n,rfl⟩
theorem bz5(a0 h g f e d c b a:zV)(w:zW):(Instr.build 35 #[(0,.agg #[a0,h,g,f,e,d,c,b,a])]).run prog w=.ok (.agg #[a0,h,g,f,e,d,c,b,a,.bool false,.bool false,.bool false,.bool false,.slice none 0 0,.slice none 0 0,.slice none 0 0,.slice none 0 0,.slice none 0 0]) w:=by kernel_rfl
theorem WY{A:List Value}(a:A.length=9)(w:zW):(Instr.build 35 #[(0,.agg A.toArray)]).run prog w=.ok (.agg (A++bu dB dR).toArray) w:=by
 match A,a with
 |[a0,a1,a2,a3,a4,a5,a6,a7,a8],_=>exact bz5 a0 a1 a2 a3 a4 a5 a6 a7 a8 w
theorem Bn{P:Program}{w:zW}{ops:Array Oper}{rest:List Oper}{op:Oper}{a:Act}{Q:Exit->Act->World->Prop}(x:Operand){t:TypeId}{a0 r:zV}(e:Region.wanted op (yielded ops a.tmps)=true)(b:op.op=Op.build t #[(0,x)])(d:a.eval x=a0)(f:(Instr.build t #[(0,a0)]).run P w=.ok r w)(g:wpList P ops Q rest (a.put op.dst r) w):wpList P ops Q (op::rest) a w:=by
 refine BigFrame.wpList_want e fun h c=>?_;unfold Oper.wp;simp[execOp,b,d,f,Result.andThen];exact c _ _ g
theorem Cb{N:Nat}(v:Vl)(x:Sl)(m:Mem)(w:zW)(j:m.ay w)(a:dV m)(c:bq m N x v)(k:Pp N v):
 zX 21 #[v.val x] w (.bool (tf (bD (v,dB)))):=by
 obtain⟨n,rfl⟩:=c.pos;have b:=(Own.start j).al (bu v x).toArray 33;have d:=zh (nC (v,dB) x dR m _ b.ay a c VAt_up_leaf ⟨k,.lF n⟩);have g:(bu v x).length=9:=rfl;have h:=fun w=>WY g w;have f:=zh h;clear h;have HO:=zh b;have i:=b.obj.all;unfold bP at d;unfold Vl.val;rw[show dC (v,dB) x dR=bu v x++bu dB dR from rfl]at d;generalize bu dB dR=B at*
 generalize bu v x=D at*
 clear b c a k;refine au fun R hR=>?_
 go_enter func21,ntmps21
 go_wp2_with (first
  |refine aj kK rfl (.tmp 1) rfl rfl D g i ?_
  |refine Bn (.tmp 3) (a0:=.agg D.toArray) (r:=.agg (D++B).toArray) rfl rfl rfl (f.o _) ?_
  | (go_at_call 8;refine d.o.mono ?_;rintro e l ⟨rfl,hb1⟩))
 exact qgI
theorem oF.Po{N:Nat}{d:Vd}(h:oF N d)(k:bD d):Aq 16 d:=by
 have c:=h.cnd k.gzM;exact⟨⟨k.s1,c.1.src.fit,c.1.cnt⟩,⟨k.s2,c.2.src.fit,c.2.cnt⟩⟩
theorem bD.ht2{d:Vd}(h:bD d):Ht 16 d.1/\Ht 16 d.2:=⟨h.s1.ht,h.s2.ht⟩
theorem j4{N N':Nat}(d a:Vd)(x y f c:Sl)(m:Mem)(w:zW)(F:m.ay w)(b:dV m)(u:bq m N x d.1)(t:bq m N y d.2)(k:oF N d)(i:bq m N' f a.1)(g:bq m N' c a.2)(s:oF N' a):
 zX 10 #[bP d x y,bP a f c] w (.bool (tf (bD d/\bD a/\Cj d a))):=by
 have r:=((Own.start F).al (dC d x y).toArray 35).al (dC a f c).toArray 35;simp only[bC]at r;have l:=zh (nC d x y m _ r.ay b u t k);have j:=zh (fun w' (h:m.ay w')=>nC a f c m w' h b i g s);have HL:=zh (fun(v:bD d) (v':bD a) w' (h:m.ay w')=>Um (qW 16) d a x y f c m w' h b (u.low v.ht2.1) (t.low v.ht2.2) (i.low v'.ht2.1) (g.low v'.ht2.2) (k.Po v) (s.Po v'));have B:(dC d x y).length=18:=rfl;have n:(dC a f c).length=18:=rfl;have C:=zh r;have A:=r.av.obj.all;unfold bP at l j HL⊢;generalize dC d x y=D at*
 generalize dC a f c=E at*
 clear r u t i g b k s;refine au fun R hR=>?_
 go_enter func10,ntmps10
 go_wp2_with (first
  |refine aj dU rfl (.tmp 2) rfl rfl D B A ?_
  | fail)
 refine l.o.mono ?_;rintro e H ⟨rfl,q⟩;have HO1:=zh (C.o.aS q);have q1:=HO1.o.obj.all;clear C l q A;by_cases v:bD d
 case neg=>
  have HF:=zh (show tf (bD d/\bD a/\Cj d a)=false from aF fun h=>v h.1);exact qhG
 have HL1:=zh (HL.o v);rw[aM v];have z:=zh v;clear v HL
 go_wp2_with (first
  |refine aj dU rfl (.tmp 3) rfl rfl E n q1 ?_
  | fail)
 refine(j.o _ HO1.o.ay).mono ?_;rintro e G ⟨rfl,p⟩;have HO2:=zh (HO1.o.aS p);clear HO1 j p q1;by_cases v':bD a
 case neg=>
  have HF:=zh (show tf (bD d/\bD a/\Cj d a)=false from aF fun h=>v' h.2.1);exact qhH
 have HL2:=zh (HL1.o v');have HF:=zh (show tf (bD d/\bD a/\Cj d a)=tf (qi (dz 16) d a) from dY ⟨fun h=>h.2.2,fun h=>⟨z.o,v',h⟩⟩);rw[aM v'];have q2:=HO2.o.av.obj.all;have q3:=HO2.o.obj.all;clear v' HL1
 go_wp2_with (first
  |refine aj dU rfl (.tmp 2) rfl rfl D B q2 ?_
  |refine aj dU rfl (.tmp 3) rfl rfl E n q3 ?_
  | fail)
 exact qha
theorem lI{N N':Nat}(d a:Vl)(x f:Sl)(m:Mem)(w:zW)(E:m.ay w)(b:dV m)(t:bq m N x d)(k:Pp N d)(g:bq m N' f a)(r:Pp N' a):
 zX 15 #[d.val x,a.val f] w (.bool (tf (bD (d,dB)/\bD (a,dB)/\dz 16 d a))):=by
 have q:=((Own.start E).al (bu d x).toArray 33).al (bu a f).toArray 33;simp only[bC]at q;have u:∀{N:Nat} {d:Vl},Pp N d->jR d->kQ 16 d:=fun k s=>by have c:=k.cnp s;exact⟨s,c.src.fit,c.cnt⟩
 have j:=zh (Cb d x m _ q.ay b t k);have i:=zh (fun w' (h:m.ay w')=>Cb a f m w' h b g r);have HL:=zh (fun(v:bD (d,dB)) (v':bD (a,dB)) w' (h:m.ay w')=>qW 16 d a x f m w' h b (t.low v.ht2.1) (g.low v'.ht2.1) (u k v.s1) (u r v'.s1));have A:(bu d x).length=9:=rfl;have l:(bu a f).length=9:=rfl;have B:=zh q;have z:=q.av.obj.all;unfold Vl.val at j i HL⊢;generalize bu d x=D at*
 generalize bu a f=C at*
 clear q t g b k r u;refine au fun R hR=>?_
 go_enter func15,ntmps15
 go_wp2_with (first
  |refine aj kK rfl (.tmp 2) rfl rfl D A z ?_
  | fail)
 refine j.o.mono ?_;rintro e G ⟨rfl,p⟩;have HO1:=zh (B.o.aS p);have q1:=HO1.o.obj.all;clear B j p z;by_cases v:bD (d,dB)
 case neg=>
  have HF:=zh (show tf (bD (d,dB)/\bD (a,dB)/\dz 16 d a)=false from aF fun h=>v h.1);exact qhG
 have HL1:=zh (HL.o v);rw[aM v];have y:=zh v;clear v HL
 go_wp2_with (first
  |refine aj kK rfl (.tmp 3) rfl rfl C l q1 ?_
  | fail)
 refine(i.o _ HO1.o.ay).mono ?_;rintro e F ⟨rfl,n⟩;have HO2:=zh (HO1.o.aS n);clear HO1 i n q1;by_cases v':bD (a,dB)
 case neg=>
  have HF:=zh (show tf (bD (d,dB)/\bD (a,dB)/\dz 16 d a)=false from aF fun h=>v' h.2.1);exact qhH
 have HL2:=zh (HL1.o v');have HF:=zh (show tf (bD (d,dB)/\bD (a,dB)/\dz 16 d a)=tf (dz 16 d a) from dY ⟨fun h=>h.2.2,fun h=>⟨y.o,v',h⟩⟩);rw[aM v'];have q2:=HO2.o.av.obj.all;have q3:=HO2.o.obj.all;clear v' HL1
 go_wp2_with (first
  |refine aj kK rfl (.tmp 2) rfl rfl D A q2 ?_
  |refine aj kK rfl (.tmp 3) rfl rfl C l q3 ?_
  | fail)
 exact qha
end Cl
namespace Cl
open Go Go.RowKit Go.Proofs
theorem CL.grow{lv:Nat}{l k:List Vd}{a n:Int}(h:CL lv l a n)(b:¬n<=a):CL lv k a n:=⟨h.lo,h.hi,fun e=>absurd e b⟩
def fQ(d:Vd):Prop:=VK 3 d.1/\VK 3 d.2/\cv 3 d<=60
end Cl
