/- The law's walk. -/
import Derived.Test.YtbbnjopkjbhpbaaGreatDoorPkP34
set_option maxRecDepth 100000
set_option maxHeartbeats 16000000
namespace Cl
theorem hz7:∀n,iQ n dB↔0<n
 |0=>⟨fun h=>h.elim,fun h=>zo⟩
 |n+1=>⟨fun _=>zo,fun _=>dzT n⟩
theorem hz9{s:RS}(d:s.iG):∀k n,iQ n (Wy s k)↔k<n
 |k,0=>⟨fun h=>h.elim,fun h=>zo⟩
 |0,n+1=>⟨fun _=>zo,fun _=>⟨⟨fun h=>by simp[Wy,Vl.any]at h,fun c h=>by simp[Wy,Vl.aN]at h,fun c h=>by simp[Wy,Vl.aA]at h,d⟩,fun x a=>by simp[Wy,Vl.kids,Vl.aN,Vl.aA]at a⟩⟩
 |k+1,n+1=>by
  have b:=hz9 d k n;have kid:(Wy s (k+1)).kids=[(Wy s k,dB)]:=rfl;constructor
  .intro h;have:=b.1 (h.2 (Wy s k,dB) (by rw[kid];simp)).1;omega
  .intro h;refine⟨⟨fun h=>by simp[Wy,Vl.any]at h,fun c h=>?_,fun c h=>by simp[Wy,Vl.aA]at h,gI⟩,fun x a=>?_⟩
   .simp only[Wy,Vl.aN,zZ]at h;rw[h];simp
   .rw[kid]at a;rw[zZ.1 a];exact⟨b.2 zo,(hz7 n).2 zo⟩
theorem izb{s:RS}(b:s.iG){e:El}(c:s.has e):∀k n,k<n->cz n (Wy s k)=some (Wy s k)
 |k,0,h=>zo
 |0,n+1,_=>by
  have ev:¬OG (lu n (Wy s 0) (bY []) (bY [])):=by
   exact qht
  rw[cz,zJ (by simp[Wy,Vl.any])];show some (if tf (OG (lu n (Wy s 0) (bY []) (bY [])))=true then fE else lu n (Wy s 0) (bY []) (bY []))=some (Wy s 0);rw[zJ qig]
  rfl
 |k+1,n+1,h=>by
  have f:=izb b c k n zo;obtain⟨j,rfl⟩:∃j,n=j+1:=⟨n-1,zo⟩;have o:gD (cz (j+1)) (dz (j+1)) (Wy s k,dB)=some (Wy s k,dB):=uH f (dzU j) (bz9 j _);have p:mG (cz (j+1)) (dz (j+1)) ([(Wy s k,dB)],[])=some (([(Wy s k,dB)],[]),true):=by
   unfold mG;rw[uB (l:=[(Wy s k,dB)]) (fun x a=>by rw[zZ.1 a];exact o)];show some (([(Wy s k,dB)],[]),[(Wy s k,dB)].all fun d => !ja d.1)=_;simp[azN b c k]
  have m:oN (AV (dz (j+1))) [([(Wy s k,dB)],[])]=[([(Wy s k,dB)],[])]:=Ml zS fun x a y i _=>by rw[zZ.1 a,zZ.1 i]
  have q:lu (j+1) (Wy s (k+1)) [([(Wy s k,dB)],[])] []=Wy s (k+1):=by
   unfold lu;rw[m]
   rfl
  have ev:¬OG (Wy s (k+1)):=by
   rintro⟨x,y,_,h,_⟩;simp[Wy,Vl.aA]at h
  rw[cz,zJ (by simp[Wy,Vl.any])];show(gQ (mG (cz (j+1)) (dz (j+1))) [([(Wy s k,dB)],[])]).bind _=_;rw[Om (g:=fun x=>(x,true)) (l:=[([(Wy s k,dB)],[])]) fun x a=>by rw[zZ.1 a];exact p];show some (if tf (OG (lu (j+1) (Wy s (k+1)) [([(Wy s k,dB)],[])] []))=true then fE else lu (j+1) (Wy s (k+1)) [([(Wy s k,dB)],[])] [])=some (Wy s (k+1));rw[q,zJ qig]
end Cl
namespace Cl
theorem izc{s:RS}(a:s.iG){e:El}(b:s.has e)(k:Nat):pX (Wy s k,dB)=if k<16 then some (Wy s k,dB)else none:=by
 unfold pX;have hk:=hz9 a k 16;by_cases h:k<16
 .rw[zK h,zK (aM ⟨hk.2 h,dzT 15⟩)];exact uH (izb a b k 16 h) (dzU 15) (bz9 15 _)
 .rw[zJ h,zJ (by rw[aF fun g=>h (hk.1 g.1)];simp)]
theorem hzT{s:RS}(a:s.iG){e:El}(b:s.has e)(k:Nat):bD (Wy s k,dB)↔k<16:=by
 rw[ug,izc a b];by_cases h:k<16
 .simp[h]
 .simp[h]
end Cl
namespace Cl
open Go Go.RowKit Go.Proofs
def LcQ(n:Nat)(m:Mem)(cs:List Value)(c:Lc):Prop:=∃u a,cs=[u,a]/\bG (bq m n) m u c.1/\bG (bq m n) m a c.2
def StQ(n:Nat)(m:Mem)(cs:List Value)(c:St):Prop:=∃u a,cs=[u,a]/\gN (bq m n) m u c.1/\gP (bq m n) m a c.2
theorem LcQ.le{n:Nat}{m M:Mem}(hle:m.le M){cs:List Value}{c:Lc}(h:LcQ n m cs c):LcQ n M cs c:=by
 exact qbW
theorem StQ.le{n:Nat}{m M:Mem}(hle:m.le M){cs:List Value}{c:St}(h:StQ n m cs c):StQ n M cs c:=by
 exact qbW
end Cl
namespace Cl
open Go Go.RowKit Go.Proofs Tryz
noncomputable def czv(d:Vd):Vd:=(pX d).getD (dB,dB)
noncomputable def hzw(d:Vd):Int:=match pX d with
 |some _=>0
 |none=>11
theorem C8.res{d:Vd}{M:Mem}{e:Ending}(h:C8 d M e):∃cs:List Value,e=.returned (.tuple #[.agg cs.toArray,.int .i64 (hzw d)])/\cs.length=18/\(∀u∈cs,u.oneCell'=true)/\∃x y,cs=dC (czv d) x y/\bq M 16 x (czv d).1/\bq M 16 y (czv d).2:=by
 unfold C8 at h;unfold hzw czv
 cases hc:pX d with
 |none=>
  rw[hc]at h
  exact⟨oz.toList,h,rfl,by simp[Value.oneCell'],dR,dR,rfl,VAt_up_leaf,VAt_up_leaf⟩
 |some u=>
  rw[hc]at h;obtain⟨x,y,rfl,b,a⟩:=h;exact⟨dC u x y,rfl,rfl,fZ b a,x,y,rfl,b,a⟩
theorem hzO{N:Nat}{d:Vd}(k:oF N d):Aq 16 (czv d):=by
 unfold czv
 cases hc:pX d with
 |none=>
  have b:kQ 16 dB:=⟨dzT 15,(Pp.lF 15).src.fit,(Pp.lF 15).cnt⟩
  exact⟨b,b⟩
 |some u=>
  obtain⟨c,a,h⟩:=Qx hc;exact(k.cnd ⟨c,a⟩).Po h
theorem hzk{N:Nat}(d:Vd)(x y:Sl)(m:Mem)(w:zW)(b:m.ay w)(a:dV m)(g:bq m N x d.1)(f:bq m N y d.2)(k:oF N d):
 zC 18 #[bP d x y] w fun e w'=>∃cs:List Value,e=.returned (.tuple #[.agg cs.toArray,.int .i64 (hzw d)])/\zB w w'/\cs.length=18/\(∀u∈cs,u.oneCell'=true)/\∃x y,cs=dC (czv d) x y/\bq (m.grow w w') 16 x (czv d).1/\bq (m.grow w w') 16 y (czv d).2:=by
 refine(azY d x y m w b a g f k).mono ?_;rintro e w' ⟨c,h⟩;obtain⟨cs,e,h⟩:=h.res;exact⟨cs,e,c,h⟩
theorem hz5{s:RS}(h:jS s 8 8):∀k,tQ (k+1) (Wy s k)
 |0=>⟨⟨h.i,h.f,h.t,zG _,zG _,fun c b=>by simp[Wy,Vl.aA]at b⟩,fun x a=>by simp[Wy,Vl.kids,Vl.aN,Vl.aA]at a⟩
 | k+1=>⟨⟨zG _,zG _,zG _,by simp[Wy,Vl.aN],zG _,fun c b=>by simp[Wy,Vl.aA]at b⟩,fun x a=>by
  have:x=(Wy s k,dB):=by simpa [Wy,Vl.kids,Vl.aN,Vl.aA,aY]using a
  rw[this];exact⟨hz5 h k,(Pp.lF k).src⟩⟩
theorem iza(s:RS):∀k,dA (k+1) (Wy s k)<=2*k+1
 |0=>CZ _
 |k+1=>by
  have h:=iza s k;have b:dA (k+1) dB<=1:=by rw[Aw (n:=1) (fun x a=>by simp[dB,Vl.kids,Vl.aN,Vl.aA]at a) zo];exact CZ _
  have e:dA (k+1+1) (Wy s (k+1))=1+(dA (k+1) (Wy s k)+dA (k+1) dB):=by
   show 1+(([(Wy s k,dB)]:List Vd).map fun x=>dA (k+1) x.1+dA (k+1) x.2).sum=_;simp
  omega
theorem izd{s:RS}(h:jS s 8 8){k:Nat}(hk:k<=100):Pp (k+1) (Wy s k):=⟨hz5 h k,by have:=iza s k;omega⟩
def hzY(s:RS)(k:Nat)(M:Mem)(T:List Value):Prop:=∃x,T=bu (Wy s k) x/\bq M (k+1) x (Wy s k)
theorem hzY.le{s:RS}{k:Nat}{m M:Mem}{T:List Value}(h:hzY s k m T)(a:m.le M):hzY s k M T:=by
 obtain⟨x,e,h⟩:=h;exact⟨x,e,h.le a⟩
theorem hzY.len{s:RS}{k:Nat}{m:Mem}{T:List Value}(h:hzY s k m T):T.length=9:=by
 obtain⟨x,rfl,-⟩:=h;rfl
theorem hzY.one{s:RS}{k:Nat}{m:Mem}{T:List Value}(h:hzY s k m T):∀u∈T,u.oneCell'=true:=by
 obtain⟨x,rfl,h⟩:=h;exact DF h
theorem hzX{s:RS}(a:s.iG){e:El}(b:s.has e)(k:Nat):hzw (Wy s k,dB)=(if k<16 then 0 else 11)/\(k<16->czv (Wy s k,dB)=(Wy s k,dB)):=by
 unfold hzw czv;rw[izc a b];by_cases h:k<16
 .rw[zK h,zK h];exact⟨rfl,fun _=>rfl⟩
 .rw[zJ h,zJ h];exact⟨rfl,fun k=>absurd k h⟩
theorem hzI{s:RS}(a:s.iG){e:El}(f:s.has e)(c:jS s 8 8){k:Nat}(h:k<16):jw 16 (Wy s k,dB)/\oq 16 (Wy s k)/\oq 16 dB:=by
 have b:=hzO (d:=(Wy s k,dB)) (N:=k+1) ⟨izd c zo,.lF k⟩;rw[(hzX a f k).2 h]at b;exact⟨⟨b.1.cnt,b.2.cnt⟩,b.1.fit,b.2.fit⟩
theorem izh:lV.has .dI:=by rw[dzX];rfl
theorem hz4(n:Int)(m:Mem)(w:zW)(hm:m.ay w)(k':dV m):
 zX 6 #[.int .i64 n] w (.bool true):=by
 have HT:=zh k';have HE:=zh (fun(M:Mem) w' (h:M.ay w') (v:m.le M)=>Q9 M w' h (HT.o.le v));have HA:=zh (fun w' (h:m.ay w')=>AO m w' h);have HO:=zh (Own.start hm);have b:=zh (zi sV.valid (zi izh (show jS lV 8 8 from Xa.mono zD zD)));clear k';refine au fun R hR=>?_
 go_enter func6,ntmps6
 by_cases hn:1<=n/\n<=40
 case neg=>
  have h1:decide (n<1)=true\/(decide (n<1)=false/\decide (40<n)=true):=by
   by_cases h:n<1
   .exact .inl (zN h)
   .exact .inr ⟨zM h,zN zo⟩
  rcases h1 with h1|⟨h1,h2⟩
  all_goals
   go_wp2_with fail
   refine(HE.o m _ HO.o.ay (Mem.le_refl _)).mono ?_;rintro e wz ⟨rfl,C'⟩;have HB:=zh (HO.o.aS C').az;clear HO C';exact qak
 have h1:decide (n<1)=false:=zM zo;have h2:decide (40<n)=false:=zM zo
 go_wp2_with fail
 refine(HA.o _ HO.o.ay).mono ?_;rintro e w1 ⟨ui,uf,ut,rfl,a,e'⟩;obtain⟨M1,E',l',e'⟩:=Own_called (P:=fun M=>dD M ui uf ut lV) HO.o a e';obtain⟨za,zb,zc,zd,ze,zf,rfl,rfl,rfl⟩:=e'.df;simp only[RS.val];have HN:=zh (show hzY lV 0 M1 _ from⟨⟨_,_,_,.slice none 0 0,.slice none 0 0⟩,rfl,e',fM _ _,fM _ _⟩);have K':=zh l';have C:=zh (E'.al Sz 33);have X':=fun a0 a1 a2 a3 a4 a5 w=>J8 a0 a1 a2 a3 a4 a5 w;clear HO HA a E' l' e'
 go_wp2_with (first
  | (refine aB kK rfl (.tmp 3) (.tmp 16) rfl (cs:=#[.bool false,.bool lV.dI,.bool lV.dM,.bool lV.dO,.slice za lV.i.length zb,.slice zc lV.f.length zd,.slice ze lV.t.length zf,.slice none 0 0,.slice none 0 0]) rfl rfl rfl rfl qdS C.o.obj ?_;intro w2 Z c';have J':=zh (C.o.aW Z c');clear C Z c'))
 clear X' h1 h2;generalize lV=s at*
 refine aC [0,3,4] (fun q vs wr=>∃(k:Nat) (MK:Mem) (T:List Value),((k:Int)+1<=n)/\q=(n-1-k).toNat/\vs=[.int .i64 n,.pointer (some ⟨w1.heap.size,0,none⟩),.int .i64 ((k:Int)+1)]/\m.le MK/\hzY s k MK T/\Own w m wr MK [.obj w1.heap.size 33 T.toArray]) ?_ ?_
 .exact⟨_,0,M1,_,zo,rfl,zS,K'.o,HN.o,J'.o⟩
 clear J' HN K';rintro X z q vs wr hX-⟨k,MK,T,hk,rfl,rfl,v,hT,hO⟩;simp[bB,lk];by_cases hlt:(k:Int)+1<n
 case neg=>
  have W:=hT.len;obtain⟨x,ex,B'⟩:=id hT;obtain⟨M2,F,Q,c2⟩:=hO.Dn;have hv:=B'.le Q;have HQ:=zh (Mem.le_trans v Q);have HT2:=zh (HT.o.le (Mem.le_trans v Q));have HC:=zh (fun j u (hj:T[j]?=some u)=>c2 j u qdU);have C:=zh F;have r:∀j u,T[j]?=some u->wr.cell? ⟨w1.heap.size,0+j,none⟩=some u:=fun j u hj=>by rw[yZ];exact Mem_cell_w F.ay (HC.o j u hj)
  have d':=fun w=>WY W w;have N:=zh d';obtain⟨B,hB⟩:∃B,B=bu dB dR:=⟨_,rfl⟩;rw[<-hB]at N;have HB:=zh hB;have hmk:Pp (k+1) (Wy s k):=izd b.o.2.2 zo;have hkn:(k:Int)+1=n:=zo;clear hB d' hO F v hT B' Q c2 hX;by_cases l:k<16
  ·
   have K:=hzI b.o.1 b.o.2.1 b.o.2.2 l;have HG:=zh (fun w' (h:M2.ay w')=>kI ((hzT b.o.1 b.o.2.1 k).2 l) (Cb (Wy s k) x M2 w' h HT2.o hv hmk));have U:=zh (fun w' (h:M2.ay w')=>kI ⟨(hzT b.o.1 b.o.2.1 k).2 l,(hzT b.o.1 b.o.2.1 k).2 l,jm ((hz5 b.o.2.2 k).ht.mono zo)⟩ (lI (Wy s k) (Wy s k) x x M2 w' h HT2.o hv hmk hv hmk));have J:=zh (fun w' (h:M2.ay w')=>hzk (Wy s k,dB) x dR M2 w' h HT2.o hv VAt_up_leaf ⟨hmk,.lF k⟩);rw[(hzX b.o.1 b.o.2.1 k).1,zK l,(hzX b.o.1 b.o.2.1 k).2 l]at J;have s':=zh (fun(M:Mem) (x' y':Sl) w' (h:M.ay w') (v:M2.le M) (g1:bq M 16 x' (Wy s k)) (g2:bq M 16 y' dB)=>kI (p:=(Wy s k,dB)=(Wy s k,dB)) rfl (R7 ((hzT b.o.1 b.o.2.1 k).2 l) ((hzT b.o.1 b.o.2.1 k).2 l) (hzW (Wy s k,dB) (Wy s k,dB) x' y' x dR M 16 w' h (HT2.o.le v) g1 g2 ((hv.mono zo).le v) VAt_up_leaf K.1 K.1 K.2.1 K.2.2)));have d1:decide (n<=16)=true:=zN zo;unfold bP Vl.val at*
   have eT:(dC (Wy s k,dB) x dR).toArray=(T++B).toArray:=by rw[ex,HB.o];rfl
   rw[eT]at J s';rw[<-ex]at HG U;clear ex eT hv hmk K
   go_wp2_with (first
    |refine aj kK rfl (.tmp 3) rfl rfl T W r ?_
    |refine Bn (.tmp 29) (a0:=.agg T.toArray) (r:=.agg (T++B).toArray) rfl rfl rfl (N.o _) ?_
    | fail)
   refine(J.o _ C.o.ay).mono ?_;rintro e w3 ⟨cs,rfl,a,vJ,o',E⟩;obtain⟨M3,L,D,E⟩:=Own_called (P:=fun M=>∃x y,cs=dC (Wy s k,dB) x y/\bq M 16 x (Wy s k)/\bq M 16 y dB) C.o a E;have S:=zh (L.al oz 35);have q':=zh D;have i':=zh E;clear C a L D E r J
   go_upto_region 9 with(first
    | (refine aB dU rfl (.tmp 5) (.tmp 32) rfl (cs:=cs.toArray) rfl rfl rfl qid (fun u hu=>o' u qdQ) S.o.obj ?_;intro w4 Y b';have f':=zh (S.o.aW Y b');clear S Y b'))
   obtain⟨M4,A,O,c4⟩:=f'.o.Dn;have HL4:=zh (Mem.le_trans q'.o O);have I:=zh A;have V:∀j u,T[j]?=some u->World.cell? _ ⟨w1.heap.size,0+j,none⟩=some u:=fun j u hj=>by rw[yZ];exact Mem_cell_w A.ay qfz
   obtain⟨x',y',e5,g1,g2⟩:=i'.o;have g':=zh (fun w' (h:M4.ay w')=>s'.o M4 x' y' w' h HL4.o (g1.le O) (g2.le O));rw[<-e5]at g';have L':=zh (fun(w':zW) (h:M4.ay w') j u (hj:cs[j]?=some u)=>Mem_cell_w h (c4 j u qdU));clear e5 g1 g2 s';clear f' A O c4 i'
   go_wp2_with (first
    |refine aj kK rfl (.tmp 3) rfl rfl T W V ?_
    | fail)
   refine(HG.o _ (Mem_inn_le HL4.o I.o.ay)).mono ?_;rintro e w6 ⟨rfl,a⟩;have H:=zh (I.o.aS a);clear I a V HG;have V:∀j u,T[j]?=some u->w6.cell? ⟨w1.heap.size,0+j,none⟩=some u:=fun j u hj=>by rw[yZ];exact Mem_cell_w H.o.ay qfz
   go_wp2_with (first
    |refine aj kK rfl (.tmp 3) rfl rfl T W V ?_
    | fail)
   refine(U.o _ (Mem_inn_le HL4.o H.o.ay)).mono ?_;rintro e w7 ⟨rfl,a⟩;have G:=zh (H.o.aS a);clear H a V U;have V:∀j u,T[j]?=some u->w7.cell? ⟨w1.heap.size,0+j,none⟩=some u:=fun j u hj=>by rw[yZ];exact Mem_cell_w G.o.ay qfz
   have q5:∀j u,cs[j]?=some u->w7.cell? ⟨w3.heap.size,0+j,none⟩=some u:=fun j u hj=>by rw[yZ];exact L'.o _ G.o.ay j u hj
   go_wp2_with (first
    |refine aj kK rfl (.tmp 3) rfl rfl T W V ?_
    |refine aj dU rfl (.tmp 5) rfl rfl cs vJ q5 ?_
    |refine Bn (.tmp 58) (a0:=.agg T.toArray) (r:=.agg (T++B).toArray) rfl rfl rfl (N.o _) ?_
    | fail)
   refine(g'.o _ G.o.ay).mono ?_;rintro e w8 ⟨rfl,a⟩;have p':=zh (G.o.aS a);clear G a V q5 g' L'
   go_wp2_with fail
   refine(HE.o _ _ p'.o.ay (Mem.le_trans HQ.o HL4.o)).mono ?_;rintro e w9 ⟨rfl,a⟩;have t':=zh (p'.o.aS a).az;clear p' a;go_wp2;exact hR.o _ _ ⟨rfl,t'.o⟩
  ·
   have HG:=zh (fun w' (h:M2.ay w')=>nM (fun g=>l ((hzT b.o.1 b.o.2.1 k).1 g)) (Cb (Wy s k) x M2 w' h HT2.o hv hmk));have U:=zh (fun w' (h:M2.ay w')=>nM (fun g=>l ((hzT b.o.1 b.o.2.1 k).1 g.1)) (lI (Wy s k) (Wy s k) x x M2 w' h HT2.o hv hmk hv hmk));have J:=zh (fun w' (h:M2.ay w')=>hzk (Wy s k,dB) x dR M2 w' h HT2.o hv VAt_up_leaf ⟨hmk,.lF k⟩);rw[(hzX b.o.1 b.o.2.1 k).1,zJ l]at J;have d1:decide (n<=16)=false:=zM zo;unfold bP Vl.val at*
   have eT:(dC (Wy s k,dB) x dR).toArray=(T++B).toArray:=by rw[ex,HB.o];rfl
   rw[eT]at J;rw[<-ex]at HG U;clear ex eT hv hmk
   go_wp2_with (first
    |refine aj kK rfl (.tmp 3) rfl rfl T W r ?_
    |refine Bn (.tmp 29) (a0:=.agg T.toArray) (r:=.agg (T++B).toArray) rfl rfl rfl (N.o _) ?_
    | fail)
   refine(J.o _ C.o.ay).mono ?_;rintro e w3 ⟨cs,rfl,a,vJ,o',E⟩;obtain⟨M3,L,D,E⟩:=Own_called (P:=fun M=>∃x y,cs=dC (czv (Wy s k,dB)) x y/\bq M 16 x (czv (Wy s k,dB)).1/\bq M 16 y (czv (Wy s k,dB)).2) C.o a E;have S:=zh (L.al oz 35);have q':=zh D;have i':=zh E;clear C a L D E r J
   go_upto_region 9 with(first
    | (refine aB dU rfl (.tmp 5) (.tmp 32) rfl (cs:=cs.toArray) rfl rfl rfl qid (fun u hu=>o' u qdQ) S.o.obj ?_;intro w4 Y b';have f':=zh (S.o.aW Y b');clear S Y b'))
   obtain⟨M4,A,O,c4⟩:=f'.o.Dn;have HL4:=zh (Mem.le_trans q'.o O);have I:=zh A;have V:∀j u,T[j]?=some u->World.cell? _ ⟨w1.heap.size,0+j,none⟩=some u:=fun j u hj=>by rw[yZ];exact Mem_cell_w A.ay qfz
   clear f' A O c4 i'
   go_wp2_with (first
    |refine aj kK rfl (.tmp 3) rfl rfl T W V ?_
    | fail)
   refine(HG.o _ (Mem_inn_le HL4.o I.o.ay)).mono ?_;rintro e w6 ⟨rfl,a⟩;have H:=zh (I.o.aS a);clear I a V HG;have V:∀j u,T[j]?=some u->w6.cell? ⟨w1.heap.size,0+j,none⟩=some u:=fun j u hj=>by rw[yZ];exact Mem_cell_w H.o.ay qfz
   go_wp2_with (first
    |refine aj kK rfl (.tmp 3) rfl rfl T W V ?_
    | fail)
   refine(U.o _ (Mem_inn_le HL4.o H.o.ay)).mono ?_;rintro e w7 ⟨rfl,a⟩;have G:=zh (H.o.aS a);clear H a V U
   go_wp2_with fail
   refine(HE.o _ _ G.o.ay (Mem.le_trans HQ.o HL4.o)).mono ?_;rintro e w9 ⟨rfl,a⟩;have t':=zh (G.o.aS a).az;clear G a;go_wp2;exact hR.o _ _ ⟨rfl,t'.o⟩
 have W:=hT.len;have HQ:=zh (zi v hT);have HO:=zh hO;have r:=hO.obj.all;have d':=fun w=>WY W w;have N:=zh d';have W':=bz4;have V':=bz1;have F:=(hO.al (T++bu dB dR).toArray 35).al #[.slice (some ⟨wr.heap.size,0,none⟩) 1 1,.slice none 0 0] 50;simp only[bC]at F;have hw1:IntKind.i64.wrap ((k:Int)+1+1)=(k:Int)+1+1:=IntWalk.i64_in _ zo;clear hO v hT d';obtain⟨B,hB⟩:∃B,B=bu dB dR:=⟨_,rfl⟩;rw[<-hB]at N F;have HB:=zh hB;have lB:B.length=9:=by rw[hB];rfl
 clear hB
 go_wp2_with (first
  |refine aj kK rfl (.tmp 3) rfl rfl T W r ?_
  |refine Bn (.tmp 22) (a0:=.agg T.toArray) (r:=.agg (T++B).toArray) rfl rfl rfl (N.o _) ?_
  |(refine gu jZ dU qD rfl zo rfl (.tmp 23) rfl (cs:=(T++B).toArray) rfl (by simp[W,lB]) ?_)
  | (refine aB kK rfl (.tmp 3) (.tmp 27) rfl (cs:=#[.bool false,.bool false,.bool false,.bool false,.slice none 0 0,.slice none 0 0,.slice none 0 0,.slice (some ⟨wr.heap.size+1,0,none⟩) 1 1,.slice none 0 0]) rfl rfl (by simpa using W) rfl qdS F.aP.obj ?_;intro w2 Z c';have L:=F.aP.aW Z c'))
 obtain⟨M2,D',Q,c2⟩:=L.aP.Dn;obtain⟨M3,A,D,c3⟩:=D'.av.Dn;obtain⟨x,ex,hx⟩:=HQ.o.2;have a':=Mem.le_trans Q D;have hv:bq M3 (k+1+1) (ES (wr.heap.size+1)) (Wy s (k+1)):=Ut (n:=k+1) (c:=([(Wy s k,dB)],[])) (c3 0 _ rfl) (c3 1 _ rfl) (fz0 (d:=(Wy s k,dB)) (fun j u hj=>Mem_cell_le D (c2 j u (by rw[ex,HB.o];simpa using(show(bu (Wy s k) x++bu dB dR)[j]?=some u from hj)))) (hx.le a') VAt_up_leaf) (fM _ _);have HF:=zh (zi (Mem.le_trans HQ.o.1 a') (show hzY s (k+1) M3 _ from⟨_,rfl,hv⟩));have I:=zh A;clear F L D' A Q D c2 c3 ex hx a' hv Z c' HO r N W' V' HQ;go_wp2;exact hX.o _ _ _ zo rfl ⟨k+1,M3,_,zo,rfl,zS,HF.o.1,HF.o.2,I.o⟩
end Cl
