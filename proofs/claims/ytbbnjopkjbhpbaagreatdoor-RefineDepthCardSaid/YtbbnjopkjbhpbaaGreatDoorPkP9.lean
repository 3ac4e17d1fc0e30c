/- Lemmas for the proofs of chapter 11. -/
import Derived.Test.YtbbnjopkjbhpbaaGreatDoorPkP8
import Derived.Test.YtbbnjopkjbhpbaaGreatDoorPkP7
set_option maxRecDepth 100000
set_option maxHeartbeats 16000000
namespace Cl
open Go Go.RowKit Go.Proofs Tryz
theorem OU{w w':zW}{m k mk:Mem}{g:Nat}{arr:Array Value}{j va:zV}{h i:List Value}{ls:List (List Int)}{l:aK}
(p:Own w m w' mk [.obj g 228 arr,.row va 4 1 (l.length+1) i,.row j 223 1 (l.length+1) h])
(c:i=(l.map (·.bU)++[false]).map Value.bool)
(n:qz mk h ls)(e:ls.length=l.length+1)(f:k.le mk):
 ∃jH,Own w m w' jH [.obj g 228 arr]/\k.le jH/\sS jH j ls/\jV jH va (l.map (·.bU)++[false]):=by
 have b:=p.av;have o:=nZ (l:=l.map (·.bU)++[false]) (m:=mk) (by rw[<-c];simpa using b.row);have a:=b.bO.av;have d:=n.mono (Mem_le_addv (w:=w') b.free);have hi:=Jo (l:=ls) (by rw[e];exact a.row) d a.free;exact⟨_,a.bO,Mem.le_trans (Mem.le_trans f (Mem_le_addv b.free)) (Mem_le_addv a.free),hi,nk (Mem_le_addv a.free) o⟩
theorem OV(v0:zV)(l:aK)(m:Mem)(w:zW)(hm:m.ay w)(hl:aU m v0 l)(I':WF l)(hlen:l.length<=1000000):
 zC 153 #[v0] w fun e w'=>∃g mk vc V va,e=.returned (.pointer (some ⟨g,0,none⟩))/\Own w m w' mk [.obj g 228 #[vc,V,va,.slice none 0 0]] /\
  jd mk vc (dN l 256)/\sS mk V (rU l (dN l 256)++[(dN l 256).map fun _=>(l.length:Int)])/\jV mk va (l.map (·.bU)++[false]):=by
 have L':=dzJ v0 l m w hm hl I';have hcle:=Fe l 256;have D':=DZ l 256;generalize dN l 256=d at*
 obtain⟨a,c,rfl,h1,h2,h3⟩:=hl;unfold maxLen at h2;refine au fun R hR=>?_
 go_enter func153,ntmps153
 go_wp2_with fail
 refine L'.mono ?_;rintro e Q ⟨r,rfl,V',r'⟩;have Z':=(Own.start hm).call V';obtain⟨ca,cc,rfl,c2,c3,c4⟩:=r';have r':jd (m.grow w Q) (.slice ca d.length cc) d:=⟨ca,cc,rfl,c2,c3,c4⟩;have Y':=((Z'.al #[.slice ca d.length cc,.slice none 0 0,.slice none 0 0,.slice none 0 0] 228));go_wp2;refine aC [0,3,4,20,21,22] (fun n vs F=>∃(k:Nat) (V va:zV) (xn:List Value) (mk:Mem),k<=l.length/\n=l.length-k/\vs=[.slice a l.length c,.pointer (some ⟨Q.heap.size,0,none⟩),.int .i64 l.length,.slice a l.length c,.int .i64 l.length,.int .i64 k] /\
  Own w m F mk [.obj Q.heap.size 228 #[.slice ca d.length cc,V,va,.slice none 0 0],.row V 223 1 k xn,.row va 4 1 k (((l.take k).map (·.bU)).map Value.bool)] /\
  qz mk xn ((l.take k).map fun s=>qK l.length d s.bv)/\(m.grow w Q).le mk) ?_ ?_
 .refine⟨_,0,.slice none 0 0,.slice none 0 0,[],_,zG _,rfl,rfl,?_,qz.nil _,Mem.le_refl _⟩;exact((Y'.fC 4 1).fC 223 1).aP
 rintro X z n vs F hX-⟨k,V,va,xn,mk,hk,rfl,rfl,hO,W,s'⟩;simp[bB,lk];have B':=Mem_inn_le hO.ext.le hO.ay;have hcr:=iU s' r';have q0:=hO.obj.c 0;have q1:=hO.obj.c 1;have q2:=hO.obj.c 2;have ql:=hO.obj.lt;by_cases hlt:k<l.length
 .obtain⟨b,off,rfl,h4⟩:=h3 qdP;obtain⟨g1,ve,g2,ea,ec,rfl,g4,g5,g6⟩:=h4 k hlt;have hc1:=Mem_cell_w B' g1;have hc2:=Mem_cell_w B' g2;have hb:=Mem_cell_lt B' g1;have H':=I' l[k] (zF hlt);have m':=zh (zH hlt);generalize l[k]=s at*
  unfold maxLen at g5 c3;have E':=hO.al #[.bool s.bU,.slice ea s.bv.length ec] 105
  go_wp2_with (refine wpList_make_row Oh rfl (.tmp 30) (.tmp 30) rfl d.length rfl rfl zo qdR ?_)
  intro w2 L D;have T:=E'.make (by simpa using L) D;rw[L6 (Bf l.length s.bv)]at T;clear L D;have hN:(F.alloc (.cells #[.bool s.bU,.slice ea s.bv.length ec] 105)).heap.size=F.heap.size+1:=by simp
  rw[hN]at T;clear hN;have p0:=T.aP.obj.c 0;have pl:=T.aP.obj.lt;go_wp2;refine aC [0,3,4,6,7,20,21,22,35,36,37] (fun n vs w3=>∃(i:Nat),i<=d.length/\n=d.length-i /\
   vs=[.slice (some ⟨b,off,none⟩) l.length c,.pointer (some ⟨Q.heap.size,0,none⟩),.int .i64 l.length,.pointer (some ⟨F.heap.size,0,none⟩),.slice (some ⟨F.heap.size+1,0,none⟩) d.length d.length,.slice (some ⟨b,off,none⟩) l.length c,.int .i64 l.length,.int .i64 k,.slice ca d.length cc,.int .i64 d.length,.int .i64 i] /\
   Own w m w3 mk [.row (.slice (some ⟨F.heap.size+1,0,none⟩) d.length d.length) 3 1 d.length (part (Bf l.length s.bv) d i),
    .obj F.heap.size 105 #[.bool s.bU,.slice ea s.bv.length ec],.obj Q.heap.size 228 #[.slice ca d.length cc,V,va,.slice none 0 0],.row V 223 1 k xn,.row va 4 1 k (((l.take k).map (·.bU)).map Value.bool)]) ?_ ?_
  .exact⟨_,0,zG _,rfl,rfl,T⟩
  rintro Y z2 n vs w3 hY-⟨i,hi,rfl,rfl,p⟩;simp[bB,lk];by_cases hlt2:i<d.length
  .obtain⟨cb,co,rfl,c5⟩:=c4 qeb;have U':=(c5 i hlt2).1;have hcw:=Mem_cell_w p.ay (Mem_cell_le s' U');have J':=D' d[i] (zF hlt2);obtain⟨cv,K'⟩:=zT J'.1;have k1:=bL (j:=i) (u:=.int .i64 0) p.row (P9 hlt2);have k2:=fI p.row i;have k3:=p.av.obj.c 1;have k4:=p.av.obj.lt;have S:=p.setRow i (.int .i64 l.length);rw[P8 hlt2]at S;have F':=zh S;clear S;go_wp2;refine aC [0,3,4,6,7,8,9,20,21,22,35,36,37,47,48,49] (fun n vs w4=>∃(j:Nat),j<=s.bv.length/\n=s.bv.length-j /\
    vs=[.slice (some ⟨b,off,none⟩) l.length c,.pointer (some ⟨Q.heap.size,0,none⟩),.int .i64 l.length,.pointer (some ⟨F.heap.size,0,none⟩),.slice (some ⟨F.heap.size+1,0,none⟩) d.length d.length,.int .i64 i,.int .i64 cv,.slice (some ⟨b,off,none⟩) l.length c,.int .i64 l.length,.int .i64 k,.slice (some ⟨cb,co,none⟩) d.length cc,.int .i64 d.length,.int .i64 i,
     .slice ea s.bv.length ec,.int .i64 s.bv.length,.int .i64 j] /\
    Own w m w4 mk [.row (.slice (some ⟨F.heap.size+1,0,none⟩) d.length d.length) 3 1 d.length (xh (Bf l.length s.bv) d i (Bf l.length (s.bv.take j) cv)),
     .obj F.heap.size 105 #[.bool s.bU,.slice ea s.bv.length ec],.obj Q.heap.size 228 #[.slice (some ⟨cb,co,none⟩) d.length cc,V,va,.slice none 0 0],.row V 223 1 k xn,.row va 4 1 k (((l.take k).map (·.bU)).map Value.bool)]) ?_ ?_
   .refine⟨_,0,zG _,rfl,rfl,?_⟩;have:Bf l.length (s.bv.take 0) cv=(l.length:Int):=by simp[Bf,bE]
    rw[this];exact F'.o
   rintro Z z3 n vs w4 hZ-⟨j,hj,rfl,rfl,hO6⟩;simp[bB,lk];by_cases i':j<s.bv.length
   .obtain⟨b',off',rfl,h10⟩:=g6 (by intro h;simp[h]at i');obtain⟨e1,e2,e3,e4,e5,-⟩:=h10 j i';have t':=Mem_inn_le hO6.ext.le hO6.ay;have d1:=Mem_cell_w t' e1;have d2:=Mem_cell_w t' e2;have d3:=Mem_cell_w t' e3;have hb4:=Mem_cell_lt t' e1;have Hgo:=zh (YE H' i' cv);have x1:=bL (j:=i) hO6.row (L9 hlt2 _);have x2:=fI hO6.row i;have x3:=hO6.av.obj.lt;have x4:F.heap.size+1<w4.heap.size:=(World.ownsRow.lt hO6.row _ rfl).2;go_wp2
    .refine hZ.o _ _ _ zo rfl ⟨j+1,zo,rfl,rfl,?_⟩;rw[Hgo.o,zK ⟨by rw[Int.toNat_natCast];assumption,by rw[Int.toNat_natCast];assumption⟩,<-L8 hlt2 (Bf l.length (s.bv.take j) cv)];exact(hO6.setRow i _).al' _
    .exact qbQ
    .exact qbQ
   .go_wp2;refine hY.o _ _ _ zo rfl ⟨i+1,zo,rfl,rfl,?_⟩;rw[xH (l:=s.bv) (i:=j) zo,<-K',IJ hlt2]at hO6;exact hO6
  .obtain rfl:i=d.length:=zo;rw[Qb]at p;have C':=jM (l:=qK l.length d s.bv) (m:=mk) (by simpa [qK]using p.row) (fun x hx=>by have:=BI H' d x hx;omega);have O:=(W.mono (Mem_le_addv (w:=w3) p.free)).push C';have a':=Mem.le_trans s' (Mem_le_addv (w:=w3) p.free);have P:=p.bO.al #[.slice (some ⟨F.heap.size+1,0,none⟩) d.length d.length] 223;generalize mk.iH w3 (.slice (some ⟨F.heap.size+1,0,none⟩) d.length d.length)=q' at*
   have y1:=p.aP.obj.c 1;have yl:=p.aP.obj.lt;clear p
   go_wp2_with (at_builtin;refine aT V6 rfl (.tmp 76) (.tmp 78) rfl V k xn rfl P.bR.row ⟨w3.heap.size,0,none⟩ 1 1 [.slice (some ⟨F.heap.size+1,0,none⟩) d.length d.length] rfl rfl (P.obj.dF rfl) qdS qdR zo ?_)
   intro na nc w5 K C I;have G:=P.bR.app K C I zS;clear K C I P;have U:=(G.bR.set 1 (.slice na (k+1) nc)).BD;have u1:=G.bR.obj.c 1;have u2:=G.bR.obj.frozen 1;have ul:=G.bR.obj.lt;have y':=zh U;clear U G;go_wp2;have N:Own w m (w5.setCell ⟨Q.heap.size,1,none⟩ (.slice na (k+1) nc)) q' [.obj Q.heap.size 228 #[.slice ca d.length cc,.slice na (k+1) nc,va,.slice none 0 0],.row (.slice na (k+1) nc) 223 1 (k+1) (xn++[.slice (some ⟨F.heap.size+1,0,none⟩) d.length d.length]),
    .obj F.heap.size 105 #[.bool s.bU,.slice ea s.bv.length ec],.row va 4 1 k (((l.take k).map (·.bU)).map Value.bool)]:=y'.o
   clear y';generalize w5.setCell ⟨Q.heap.size,1,none⟩ (.slice na (k+1) nc)=w6 at*
   have E:=(N.bR.al #[.bool s.bU] 4).dr;refine gL (fun w'=>aZ w' Q.heap.size 228 #[.slice ca d.length cc,.slice na (k+1) nc,va,.slice none 0 0]/\aZ w' F.heap.size 105 #[.bool s.bU,.slice ea s.bv.length ec]) 11 zk ?_;have hS:=zi (N.dr.obj) (N.dr.aP.obj);refine aD 0 rfl zk (fun _ _ _ h=>h) hS (ax rfl fun w' v=>by have q:=v.1.cell (i:=2) rfl;have q1:=v.2.cell (i:=0) rfl;go_simp;rfl) ?_;refine aD 1 rfl zk (fun _ _ _ h=>h) hS (ax rfl fun w' v=>by have q:=v.1.cell (i:=2) rfl;have q1:=v.2.cell (i:=0) rfl;go_simp;rfl) ?_;refine aD 2 rfl zk (fun _ _ _ h=>h) hS (ax rfl fun w' v=>by have q:=v.1.cell (i:=2) rfl;have q1:=v.2.cell (i:=0) rfl;go_simp;rfl) ?_;refine aD 3 rfl zk (fun _ _ _ h=>h) hS (ax rfl fun w' v=>by have q:=v.1.cell (i:=2) rfl;have q1:=v.2.cell (i:=0) rfl;go_simp;rfl) ?_;refine aD 4 rfl zk (fun _ _ _ h=>h) hS (ax rfl fun w' v=>by have q:=v.1.cell (i:=2) rfl;have q1:=v.2.cell (i:=0) rfl;go_simp;rfl) ?_;refine aD 5 rfl zk (fun _ _ _ h=>h) hS (ax rfl fun w' v=>by have q:=v.1.cell (i:=2) rfl;have q1:=v.2.cell (i:=0) rfl;go_simp;rfl) ?_;refine aD 6 rfl zk (fun _ _ _ h=>h) hS (ax rfl fun w' v=>by have q:=v.1.cell (i:=2) rfl;have q1:=v.2.cell (i:=0) rfl;go_simp;rfl) ?_;refine aQ 7 zk (aJ rfl rfl (aO (by go_simp;exact⟨rfl,rfl⟩) (iq (zi (hS.1.al _) (hS.2.al _)) fun X'=>?_)));go_simp;have T':(((l.take k).map (·.bU)).map Value.bool).length=k:=by simp;omega
   refine aQ 8 zk (aJ rfl rfl (gq NH (.tmp 86) (.tmp 89) rfl va k _ rfl E.av.row ⟨w6.heap.size,0,none⟩ 1 1 [.bool s.bU] rfl rfl (E.obj.dF rfl) qdS qdR zo (fun aa ac w7 J B H=>?_)));have A:=E.av.app J B H (zI _);refine iq (zi A.aP.obj (A.at (g:=F.heap.size) (t:=105) (arr:=#[.bool s.bU,.slice ea s.bv.length ec]) zS)) fun j'=>?_;refine aQ 9 zk (aJ rfl rfl (aO qdT (iq j' fun _=>?_)));refine aQ 10 zk (aJ rfl rfl (aO qdT (iq j' fun _=>?_)));have f3:=j'.1.frozen 2;have c3:=j'.1.cell (i:=2) rfl;refine aQ 11 zk (aJ rfl rfl (bT (by go_simp;rfl) (jJ rfl ?_)));refine eP zk ?_ _;have M:=((A.aP.set 2 (.slice aa (k+1) ac)).BD.ezR).Z9;have n':=zh (zi M (zi O a'));clear M O a' A E N hO J B H hS X' j' f3 c3 W;go_wp2;refine hX.o _ _ _ zo rfl ⟨k+1,.slice na (k+1) nc,.slice aa (k+1) ac,xn++[.slice (some ⟨F.heap.size+1,0,none⟩) d.length d.length],q',zo,rfl,rfl,?_,?_,n'.o.2.2⟩
   .have:=n'.o.1;rw[m'.o];exact qbi
   .rw[m'.o,yI];exact n'.o.2.1
 .obtain rfl:k=l.length:=zo;rw[yG]at hO W;have T':((l.map (·.bU)).map Value.bool).length=l.length:=by simp
  have E':=hO
  go_wp2_with (refine wpList_make_row Oh rfl (.tmp 98) (.tmp 98) rfl d.length rfl rfl zo qdR ?_)
  intro w2 L D;have T:=E'.make (by simpa using L) D;rw[L6 (fun _=>(l.length:Int))]at T;clear L D;go_wp2;refine aC [0,3,4,12,101,102] (fun n vs w3=>∃(i:Nat),i<=d.length/\n=d.length-i /\
   vs=[.slice a l.length c,.pointer (some ⟨Q.heap.size,0,none⟩),.int .i64 l.length,.slice (some ⟨F.heap.size,0,none⟩) d.length d.length,.int .i64 d.length,.int .i64 i] /\
   Own w m w3 mk [.row (.slice (some ⟨F.heap.size,0,none⟩) d.length d.length) 3 1 d.length (part (fun _=>(l.length:Int)) d i),
    .obj Q.heap.size 228 #[.slice ca d.length cc,V,va,.slice none 0 0],.row V 223 1 l.length xn,.row va 4 1 l.length ((l.map (·.bU)).map Value.bool)]) ?_ ?_
  .exact⟨_,0,zG _,rfl,rfl,T⟩
  rintro Y z2 n vs w3 hY-⟨i,hi,rfl,rfl,p⟩;simp[bB,lk];by_cases hlt2:i<d.length
  .have k1:=bL (j:=i) (u:=.int .i64 0) p.row (P9 hlt2);have k2:=fI p.row i;have S:=p.setRow i (.int .i64 l.length);rw[P8 hlt2]at S;have e5:=IJ (f:=fun _=>(l.length:Int)) hlt2;rw[e5]at S;have F':=zh S;clear S e5;go_wp2;exact hY.o _ _ _ zo rfl ⟨i+1,zo,rfl,rfl,F'.o⟩
  .obtain rfl:i=d.length:=zo;rw[Qb]at p;have C':=jM (l:=d.map fun _=>(l.length:Int)) (m:=mk) (by simpa using p.row) (fun x hx=>by
    obtain⟨y,-,rfl⟩:=yD.1 hx;omega)
   have O:=(W.mono (Mem_le_addv (w:=w3) p.free)).push C';have a':=Mem.le_trans s' (Mem_le_addv (w:=w3) p.free);have P:=p.bO.al #[.slice (some ⟨F.heap.size,0,none⟩) d.length d.length] 223;generalize mk.iH w3 (.slice (some ⟨F.heap.size,0,none⟩) d.length d.length)=q' at*
   have y1:=p.av.obj.c 1;have yl:=p.av.obj.lt;clear p
   go_wp2_with (at_builtin;refine aT V6 rfl (.tmp 114) (.tmp 116) rfl V l.length xn rfl P.aP.row ⟨w3.heap.size,0,none⟩ 1 1 [.slice (some ⟨F.heap.size,0,none⟩) d.length d.length] rfl rfl (P.obj.dF rfl) qdS qdR zo ?_)
   intro na nc w5 K C I;have G:=P.aP.app K C I zS;clear K C I P;have U:=(G.aP.set 1 (.slice na (l.length+1) nc)).BD;have u1:=G.aP.obj.c 1;have u2:=G.aP.obj.frozen 1;have u3:=G.aP.obj.c 2;have ul:=G.aP.obj.lt;have N:Own w m (w5.setCell ⟨Q.heap.size,1,none⟩ (.slice na (l.length+1) nc)) q' [.obj Q.heap.size 228 #[.slice ca d.length cc,.slice na (l.length+1) nc,va,.slice none 0 0],.row (.slice na (l.length+1) nc) 223 1 (l.length+1) (xn++[.slice (some ⟨F.heap.size,0,none⟩) d.length d.length]),
    .row va 4 1 l.length ((l.map (·.bU)).map Value.bool)]:=U
   have x':=zh N;clear U G N;have E:=x'.o.al #[.bool false] 4;have A':=E.obj.dF rfl;rw[World.size_setCell]at E A';have k':=zh E;clear E
   go_wp2_with (at_builtin;refine aT NH rfl (.tmp 124) (.tmp 125) rfl va l.length _ rfl k'.o.bR.row ⟨w5.heap.size,0,none⟩ 1 1 [.bool false] rfl rfl A' qdS qdR zo ?_)
   intro aa ac w7 J B H;have A:=k'.o.bR.app J B H zS;clear J B H A' x';have v1:=A.aP.obj.c 2;have v2:=A.aP.obj.frozen 2;have vl:=A.aP.obj.lt;have M:=(A.aP.set 2 (.slice aa (l.length+1) ac)).BD;have N':=zh M;clear M A k';go_wp2;have M:=N'.o;obtain⟨jH,z1,z2,z3,z4⟩:=OU (arr:=#[.slice ca d.length cc,.slice na (l.length+1) nc,.slice aa (l.length+1) ac,.slice none 0 0]) (l:=l) M zS O zS a';exact hR.o _ _ ⟨Q.heap.size,jH,_,_,_,rfl,z1,iU z2 r',z3,z4⟩
structure ezV (l C:aK):Prop where
 canon:cB C
 qw:∀x,aH C 0 x=aH l 0 x
theorem dJ(m:Mem):aU m (.slice none 0 0) []:=⟨none,0,rfl,zI _,by simp[maxLen],fun h=>absurd rfl h⟩
theorem tL(v0:zV)(l:aK)(m:Mem)(w:zW)(hm:m.ay w)(I:dV m)(hl:aU m v0 l)(n:l.length<=1000000):
 zC 103 #[v0] w fun e w'=>∃r C,e=.returned (.tuple #[.agg #[r],.int .i64 (if tf (WF l)=true then 0 else 11)])/\zB w w'/\aU (m.grow w w') r C/\C.length<=l.length+1 /\
  (WF l->ezV l C)/\(¬WF l->C=[]):=by
 have K:=hl;obtain⟨a,c,rfl,h1,h2,h3⟩:=hl;unfold maxLen at h2;have HW:=zh (fun w (hw:m.ay w)=>wK (.slice a l.length c) l m w hw K);refine au fun R Y=>?_;have hO:=(Own.start hm).al #[.slice none 0 0] 27;have U:=zh hO;clear hO
 go_enter func103,ntmps103
 go_wp2_with fail
 refine(HW.o _ (Mem_inn_le U.o.ext.le U.o.ay)).mono ?_;rintro e w1 ⟨rfl,M⟩;have b:=U.o.aS M;clear U M;by_cases d:WF l
 .rw[aM d];by_cases h0:l.length=0
  .have J:l=[]:=yM h0;have f:=b.set 0 (.slice none 0 0);have g1:=b.obj.c 0;have g2:=b.obj.frozen 0;have g3:=b.obj.lt;have g4:=f.obj.c 0;have q:=zh (zi f J);have L:((l.length:Int)==0)=true:=by simp[h0]
   clear b f J h0;go_wp2;refine yV (v:=.tuple #[.agg #[.slice none 0 0],.int .i64 0]) qeX rfl ?_;refine Y.o _ _ ⟨_,[],by rw[aM d];rfl,q.o.1.az,dJ _,zS,fun _=>⟨eD,fun x=>?_⟩,fun _=>rfl⟩;rw[q.o.2]
  .have L:((l.length:Int)==0)=false:=zO.2 zo;have HC:=zh (OV (.slice a l.length c) l m w1 (Mem_inn_le b.ext.le b.ay) K d n);have P:=zh b;clear b
   go_wp2_with fail
   refine HC.o.mono ?_;rintro e w2 ⟨g,mk,vc,vn,va,rfl,f,k1,k2,k3⟩;have N:=P.o.join f;have V:=f.ext.le;have Z:=JU d n;have HR:=zh (TE g vc vn va l (dN l 256) (iB l (dN l 256)) (l.map (·.bU)++[false]) _ _ Z m mk w w2 [.obj w.heap.size 27 #[.slice none 0 0]] (I.le V) N k2 k3);clear N f HC P
   go_wp2_with fail
   refine HR.o.mono ?_;rintro e Q ⟨H,vk,cZ,rfl,i,s,k4,u⟩;have q0:=i.obj.c 0;have G:=i.gU;have p:=Mem_le_add (w:=Q) i.jG;have k:TabAt (H.add Q g) g (dN l 256) (iB l (dN l 256)) (l.map (·.bU)++[false]) cZ:=by
    refine⟨vc,vn,va,vk,Mem_add_cell i.obj rfl,Mem_add_cell i.obj rfl,Mem_add_cell i.obj rfl,Mem_add_cell i.obj rfl,?_,?_,?_,?_⟩
    .exact iU (Mem.le_trans s p) k1
    .exact Cn (Mem.le_trans s p) k2
    .exact nk (Mem.le_trans s p) k3
    .exact iU p k4
   have HN:=zh (La g l (dN l 256) (iB l (dN l 256)) (l.map (·.bU)++[false]) cZ _ _ Z (M6 l) u
    (fun lv F W=>R6 d n u F W) (fun lv F W=>OQ d n u F W) (H.add Q g) Q G.ay k)
   have O:=zh G;clear G i HR k Z q0
   go_wp2_with fail
   refine HN.o.mono ?_;rintro e w4 ⟨r,C,rfl,X,E,D,t,j⟩;have z:=O.o.call X;obtain⟨T,S,rfl⟩:∃T S,r=.slice T C.length S:=by obtain⟨x,y,e,-⟩:=E;exact⟨x,y,e⟩
   have g1:=z.obj.c 0;have g2:=z.obj.frozen 0;have g3:=z.obj.lt;have A:=z.set 0 (.slice T C.length S);have g4:=A.obj.c 0;have B:=aX A.done E;rw[qJ]at j;have q:=zh (zi A.az (zi B (zi D (zi t j))));clear A z B D t E j O;go_wp2;refine yV (v:=.tuple #[.agg #[.slice T C.length S],.int .i64 0]) (by simp[results,results103,go_sem,g4]) rfl ?_;exact Y.o _ _ ⟨_,C,by rw[aM d];rfl,q.o.1,q.o.2.1,q.o.2.2.2.2,fun _=>⟨q.o.2.2.1,q.o.2.2.2.1⟩,fun h=>absurd d h⟩
 .rw[aF d];have f:=b.set 0 (.slice none 0 0);have g1:=b.obj.c 0;have g2:=b.obj.frozen 0;have g3:=b.obj.lt;have g4:=f.obj.c 0;have q:=zh (zi f d);clear b f d;go_wp2;refine yV (v:=.tuple #[.agg #[.slice none 0 0],.int .i64 11]) qeX rfl ?_;exact Y.o _ _ ⟨_,[],by rw[aF q.o.2];rfl,q.o.1.az,dJ _,zS,fun h=>absurd h q.o.2,fun _=>rfl⟩
noncomputable def cO(l:aK):aK:=if tf (cB l)=true then l else[]
theorem nK(l:aK):cB (cO l):=by
 unfold cO
 split
 .rename_i h;exact kF.1 h
 .exact eD
theorem bzq{l:aK}(h:cB l):cO l=l:=by simp[cO,aM h]
theorem kr(l:aK):(cO l).length<=l.length:=by
 unfold cO;split<;>simp
theorem Lb{l C:aK}(b:WF l->ezV l C)(a:WF l):cB l↔l=C:=
 ⟨fun h=>vU h (b a).canon fun x=>((b a).qw x).symm,fun h=>by rw[h];exact(b a).canon⟩
theorem Ah(G:zV)(l:aK)(m:Mem)(w:zW)(L:m.ay w)(j:dV m)(H:aU m G l)(n:l.length<=1000000):
 zX 148 #[.agg #[G]] w (.bool (tf (cB l))):=by
 have p:=H;obtain⟨a,c,rfl,S,Q,P⟩:=H;refine au fun R I=>?_;have D:=(Own.start L).al #[.slice a l.length c] 27;have K:=zh (tL (.slice a l.length c) l m _ D.ay j p n);have J:=zh D;clear D
 go_enter func148,ntmps148
 go_wp2_with fail
 refine K.o.mono ?_;rintro e O ⟨r,C,rfl,B,k,E,b,d⟩;have i:=J.o.call B;have v:=i.ext.le;obtain⟨u,t,rfl⟩:∃u t,r=.slice u C.length t:=by obtain⟨x,y,e,-⟩:=k;exact⟨x,y,e⟩
 have g:=i.al #[.slice u C.length t] 27;have U:=g.av.obj.c 0;have T:=g.av.obj.lt;have M:=zh (CB (.slice a l.length c) (.slice u C.length t) l C _ _ g.ay (aX v p) k);have s:=zh g;clear i g K J;by_cases f:WF l
 .rw[aM f];have q:=Lb b f;have F:=zh (zi q (zi b d));clear b d q
  go_wp2_with fail
  refine M.o.mono ?_;rintro e N ⟨rfl,A⟩;have z:=(s.o.aS A).az;go_wp2;exact I.o _ _ ⟨aR (by rw[dY F.o.1]),z⟩
 .rw[aF f];have F:=zh (zi f (zi b d));clear b d f;go_wp2;exact I.o _ _ ⟨aR (by rw[aF (fun h=>F.o.1 h.wf)]),s.o.az⟩
theorem nV(q:zV)(l:aK)(m:Mem)(w:zW)(z:m.ay w)(h:dV m)(s:aU m q l)(j:l.length<=1000000):
 zC 97 #[.agg #[q]] w fun e w'=>∃r,e=.returned (.agg #[r])/\zB w w'/\aU (m.grow w w') r (cO l):=by
 have k:=s;obtain⟨a,c,rfl,E,D,C⟩:=s;refine au fun R t=>?_;have p:=((Own.start z).al #[.slice a l.length c] 27).al #[.slice none 0 0] 27;have i:(w.alloc (.cells #[.slice a l.length c] 27)).heap.size=w.heap.size+1:=by simp
 rw[i]at p;have x:=zh (Ah (.slice a l.length c) l m _ p.ay h k j);have y:=zh p;clear p i
 go_enter func97,ntmps97
 go_wp2_with fail
 refine x.o.mono ?_;rintro e B ⟨rfl,n⟩;have b:=y.o.aS n;have H:=b.av.obj.c 0;have A:=b.obj.c 0;have G:=b.obj.frozen 0;have F:=b.obj.lt;clear y x n;by_cases f:cB l
 .have d:=b.set 0 (.slice a l.length c);have u:=d.obj.c 0;have g:=zh (zi d f);rw[aM f];clear b d f;go_wp2;refine yV (v:=.agg #[.slice a l.length c]) (by simp[results,results97,go_sem,u]) rfl ?_;exact t.o _ _ ⟨_,rfl,g.o.1.az,by rw[bzq g.o.2];exact aX g.o.1.done k⟩
 .have d:=b.set 0 (.slice none 0 0);have u:=d.obj.c 0;have g:=zh (zi d f);rw[aF f];clear b d f;go_wp2;refine yV (v:=.agg #[.slice none 0 0]) (by simp[results,results97,go_sem,A]) rfl ?_;exact t.o _ _ ⟨_,rfl,g.o.1.az,by rw[cO,aF g.o.2];exact dJ _⟩
end Cl
namespace Cl
open Go Go.RowKit Go.Proofs
theorem rA{w:zW}{t:TypeId}{size:Nat}{a:Option Addr}{n c:Nat}{xs:List Value}(h:w.ownsRow 0 t size (.slice a n c) n xs)(f:0<n):∃b,a=some ⟨b,0,none⟩:=by
 rcases h.2 with⟨h,-⟩|⟨g,e,d,h,-⟩
 .injection h with h1 h2 h3;omega
 .exact qbX
end Cl
namespace Cl
open Go Go.RowKit Go.Proofs Tryz
theorem UT : (prog.fieldsOf 144).toList = [⟨"a", 3, 0, false, "", "configlang/lang", 0⟩, ⟨"b", 3, 1, false, "", "configlang/lang", 8⟩] := by
 kernel_rfl
theorem XI:prog.stoodInHeld 144=false:=by kernel_rfl
theorem YB:prog.eqGuardType prog.depth 144=false:=by kernel_rfl
theorem czz:prog.underlying 144=some (.struct (prog.fieldsOf 144)):=by kernel_rfl
theorem Yb(a b a' b':Int)(w:zW):(Op.equalIn 10000 144 (.agg #[.int .i64 a,.int .i64 b]) (.agg #[.int .i64 a',.int .i64 b'])).run prog w=.ok (a==a'&&b==b') w:=by
 rw[run_equalIn_agg w 9999 144 _ _ czz XI,UT];have e2:=fun(d:Nat) (a b:Int) (w:zW)=>run_equalIn_int (P:=prog) w d 3 .i64 .i64 a b underlying3;exact qbZ
theorem Kv(v:zV)(l:List (Int×Int))(x:Int×Int)(m:Mem)(w:zW)(E:m.ay w)(F:dK m v l):
 zX 99 #[v,.agg #[.int .i64 x.1,.int .i64 x.2]] w (.int .i64 (firstIdx (fun y=>x=y) l 0)):=by
 obtain⟨a,c,rfl,S,L,K⟩:=F;unfold maxLen at L;refine au fun R A=>?_
 go_enter func99,ntmps99
 go_wp2;have j:zB w (w.alloc (.cells #[.int .i64 x.1,.int .i64 x.2] 144)):=cu (zR _ _) _;have P:(w.alloc (.cells #[.int .i64 x.1,.int .i64 x.2] 144)).cell? ⟨w.heap.size,0,none⟩=some (.int .i64 x.1):=by simp
 have O:(w.alloc (.cells #[.int .i64 x.1,.int .i64 x.2] 144)).cell? ⟨w.heap.size,1,none⟩=some (.int .i64 x.2):=by simp
 have C:w.heap.size<(w.alloc (.cells #[.int .i64 x.1,.int .i64 x.2] 144)).heap.size:=by simp
 have q:=Mem_inn_below E j;generalize w.alloc (.cells #[.int .i64 x.1,.int .i64 x.2] 144)=w0 at*
 refine aC [0,3,7,8] (fun n u t=>∃k:Nat,k<=l.length/\n=l.length-k/\u=[.slice a l.length c,.pointer (some ⟨w.heap.size,0,none⟩),.int .i64 l.length,.int .i64 k]/\firstIdx (fun y=>x=y) l 0=firstIdx (fun y=>x=y) (l.drop k) k/\Below w0.heap.size w0 t) ?_ ?_
 .exact qc8
 rintro X z n u t I-⟨k,hk,rfl,rfl,g,d⟩;have f:=zh g;clear g;simp[bB,lk];have p:=Mem_inn_below q d;have U:=mP d C P;have T:=mP d C O;by_cases hlt:k<l.length
 .obtain⟨b,off,rfl,J⟩:=K qdP;obtain⟨N,M,-⟩:=J k hlt;have W:=Mem_cell_w p N;have V:=Mem_cell_w p M;have D:=zh (tK (fun y=>x=y) l k hlt);have Q:=fun w=>Yb x.1 x.2 (l[k].1) (l[k].2) w;have G:=YB;by_cases i:x=l[k]
  .have r:(x.1==l[k].1)=true:=by simp[<-i]
   have H:(x.2==l[k].2)=true:=by simp[<-i]
   have s:=zh i;clear i;go_wp2
   go_quiet (fail)
   go_wp2;exact A.o _ _ ⟨jq (by rw[f.o,D.o,zK (aM s.o)]),iY j (below_drewN d _)⟩
  .have r:(x.1==l[k].1&&x.2==l[k].2)=false:=by
    by_cases h:x.1=l[k].1
    .by_cases B:x.2=l[k].2
     .exact absurd (Prod.ext h B) i
     .simp[B]
    .simp[h]
   have s:=zh i;clear i;go_wp2
   go_quiet (fail)
   go_wp2;exact I.o _ _ _ zo rfl ⟨k+1,zo,rfl,rfl,by rw[f.o,D.o,zJ (by rw[aF s.o];simp)],below_drewN d _⟩
 .go_wp2;exact A.o _ _ ⟨jq (by rw[f.o,zQ zo];rfl),iY j d⟩
end Cl
namespace Cl
open Go Go.RowKit Go.Proofs
def Kr(l:aK):Prop:=(∀s∈l,s.bv.length<=10)/\l.length<=8
end Cl
namespace Cl
open Go Go.RowKit Go.Proofs Tryz
theorem JS(Y:zV)(l:aK)(m:Mem)(w:zW)(hm:m.ay w)(hl:aU m Y l)(Z:l.length<=1000000)(H:∀s∈l,s.bv.length<=1000000):
 zC 138 #[.agg #[Y]] w fun e w'=>∃r,e=.returned (.agg #[r])/\zB w w'/\aU (m.grow w w') r l:=by
 obtain⟨a,c,rfl,h1,h2,h3⟩:=hl;unfold maxLen at h2;refine au fun R hR=>?_
 go_enter func138,ntmps138
 go_wp2;refine aC [2,3,7,8,9] (fun n W U=>∃(k:Nat) (v:zV) (xs:List Value) (mk:Mem),k<=l.length/\n=l.length-k/\W=[.pointer (some ⟨w.heap.size+1,0,none⟩),.pointer (some ⟨w.heap.size+2,0,none⟩),.slice a l.length c,.int .i64 l.length,.int .i64 k] /\
  Own w m U mk [.obj (w.heap.size+2) 27 #[v],.row v 105 2 k xs,.obj (w.heap.size+1) 27 #[.slice none 0 0]]/\og mk xs (l.take k)) ?_ ?_
 .refine⟨_,0,.slice none 0 0,[],m,zG _,rfl,rfl,?_,og.nil m⟩;have:=((((Own.start hm).al' (.cells #[.slice a l.length c] 27)).al #[.slice none 0 0] 27).al #[.slice none 0 0] 27).fC 105 2;simpa using this.av
 rintro X z n W U hX-⟨k,v,xs,mk,hk,rfl,rfl,t,f⟩;simp[bB,lk];have F:=t.obj;by_cases hlt:k<l.length
 .obtain⟨b,off,rfl,h4⟩:=h3 qdP;have G:=Mem_inn_le t.ext.le t.ay;obtain⟨g1,ve,g2,T⟩:=h4 k hlt;have i':=Mem_cell_w G g1;have h':=Mem_cell_w G g2;have hb:=Mem_cell_lt G g1;have hC:=fun O (h:mk.ay O)=>ZG ve l[k].bv mk O h (rQ t.ext.le T) (by have:=H l[k] (zF hlt);omega);have HC:=zh hC;clear hC;obtain⟨ea,ec,rfl,-⟩:=T;have l1:=F.lt;go_wp2;have p:=(t.al #[.bool l[k].bU,.slice ea l[k].bv.length ec] 105).dr;refine gL (fun w'=>aZ w' (w.heap.size+2) 27 #[v]/\aZ w' U.heap.size 105 #[.bool l[k].bU,.slice ea l[k].bv.length ec]) 11 zk ?_;have I:=zi p.av.obj p.obj;refine aD 0 rfl zk qfd I qir ?_;refine aD 1 rfl zk qfd I qir ?_;refine aD 2 rfl zk qfd I qir ?_;refine aD 3 rfl zk qfd I qir ?_;refine aD 4 rfl zk qfd I qir ?_;refine aD 5 rfl zk qfd I qir ?_;refine aQ 6 zk (aJ rfl rfl (dE qem (HC.o _ p.ay) ?_));rintro e O ⟨r,rfl,L,K⟩;have j:=p.call L;refine⟨r,rfl,iq (zi j.av.obj j.obj) fun M=>?_⟩;obtain⟨S,Q,rfl⟩:∃S Q,r=.slice S l[k].bv.length Q:=by obtain⟨x,y,e,-⟩:=K;exact⟨x,y,e⟩
  refine aD 7 rfl zk qfd M qiq ?_;refine aQ 8 zk (aJ rfl rfl (aO (by go_simp;exact⟨rfl,rfl⟩) (iq (zi (j.av.obj.al _) (j.obj.al _)) fun V=>?_)));go_simp;have D:=j.al #[.bool l[k].bU,.slice S l[k].bv.length Q] 105;refine aQ 9 zk (aJ rfl rfl (gq q9 (.tmp 14) (.tmp 21) rfl v k xs rfl D.bR.row ⟨O.heap.size,0,none⟩ 1 1 [.bool l[k].bU,.slice S l[k].bv.length Q] rfl rfl (D.obj.dF rfl) qdS qdR zo (fun va P w3 A B u=>?_)));have d:=D.bR.app A B u (zI _);refine iq (zi d.bR.obj d.aP.obj) fun C=>?_;refine aD 10 rfl zk qfd C qiq ?_;have f3:=C.1.frozen 0;have c3:=C.1.cell (i:=0) rfl;refine aQ 11 zk (aJ rfl rfl (bT (by go_simp;rfl) (jJ rfl ?_)));refine eP zk ?_ _;have N:=d.bR.set 0 (.slice va (k+1) P);have g:=(f.mono (Mem_le_grow p.ay)).push (s:=l[k]) K;rw[<-zH hlt]at g;have Hfin:=zh (zi N.BD.BD g);clear N g d D j p t A B u I M V C f3 c3 F f L;go_wp2;exact hX.o _ _ _ zo rfl ⟨k+1,_,_,_,zo,rfl,rfl,Hfin.o.1,Hfin.o.2⟩
 .obtain rfl:k=l.length:=zo;have c1:=t.obj.c 0;have T:=t.aP.obj.c 0;have g4:=t.aP.obj.frozen 0;obtain⟨va,P,rfl⟩:=bz t.av.row;have d:=t.aP.set 0 (.slice va l.length P);have J:=kM (l:=l) d.aP.row (by rw[yG]at f;exact f) d.aP.free;have E:=aX d.aP.bO.done J;have Hfin:=zh (zi d.az E);clear J E d t F f;go_wp2;refine yV (v:=.agg #[.slice va l.length P]) (by simp[results,results138,go_sem,T]) rfl ?_;exact qa7
def hzS(l:List (Int×Int)):List Value:=l.flatMap fun p=>[.int .i64 p.1,.int .i64 p.2]
def NY(p:Int×Int):Prop := -9223372036854775808<=p.1/\p.1<=9223372036854775807 /\ -9223372036854775808<=p.2/\p.2<=9223372036854775807
theorem EH(l:List (Int×Int))(p:Int×Int):hzS (l++[p])=hzS l++[.int .i64 p.1,.int .i64 p.2]:=by simp[hzS]
theorem tq:∀(l:List (Int×Int)) (i:Nat) (h:i<l.length),(hzS l)[i*2]?=some (.int .i64 l[i].1)/\(hzS l)[i*2+1]?=some (.int .i64 l[i].2)
 |[],i,h=>by simp at h
 |p::l,0,_=>by simp[hzS]
 |p::l,i+1,h=>by
  have:=tq l i qd9;simp only[hzS,xO,List.getElem_cons_succ]at this⊢;rw[show(i+1)*2=i*2+2 by omega];exact this
theorem IL{w:zW}{t:TypeId}{v:zV}{l:List (Int×Int)}{m:Mem}(a:w.ownsRow 0 t 2 v l.length (hzS l))(hk:∀p∈l,NY p):dK (m.iH w v) v l:=
 fK a fun g b i h=>by
  obtain⟨d,c⟩:=tq l i h;exact⟨dZ a b m d,dZ a b m c,hk _ (zF h)⟩
theorem czB:fB prog 145 144 2 16:=⟨underlying145,zo,by
 obtain⟨i,d,c,b,a⟩:=info_parts (P:=prog) (e:=144) (z:=.agg #[.int .i64 0,.int .i64 0]) (size:=2) (bytes:=16) zk;exact⟨i,_,d,c,b,a,rfl⟩⟩
def mI(l:List (Int×Int))(p:Int×Int):Nat:=l.findIdx (fun q=>p=q)
def jF(l:List (Int×Int))(p:Int×Int):List (Int×Int):=if mI l p<l.length then l else l++[p]
theorem K3(l:List (Int×Int))(x:Int×Int):firstIdx (fun y=>x=y) l 0=if mI l x<l.length then((mI l x:Nat):Int)else -1:=by
 rcases BC (fun y=>x=y) l 0 with⟨h1,h2⟩|⟨i,h1,h2,h3,h4⟩
 .rw[h1,zJ];intro h;obtain⟨y,a,b⟩:=List.findIdx_lt_length.1 h;exact h2 y a (by simpa using b)
 .have:mI l x=i:=by
   unfold mI;rw[List.findIdx_eq h1];exact⟨by simpa using h3,fun j c=>by simpa using h4 j zo c⟩
  rw[h2,this,zK h1];simp
theorem EG(l:List (Int×Int))(p:Int×Int):mI l p<=l.length:=List.findIdx_le_length
theorem Qc(l:List (Int×Int))(p:Int×Int):l <+: jF l p:=by
 unfold jF;split
 .exact List.prefix_refl _
 .exact qde
theorem Qd(l:List (Int×Int))(p:Int×Int):(jF l p)[mI l p]?=some p:=by
 unfold jF
 split
 .rename_i h;have:=List.findIdx_getElem (p:=fun q=>decide (p=q)) (xs:=l) (w:=h);rw[yH h];exact congrArg some (of_decide_eq_true this).symm
 .rename_i h;have:mI l p=l.length:=by have:=EG l p;omega
  rw[this];simp
theorem TL{l:List (Int×Int)}{p:Int×Int}(h:¬mI l p<l.length):p ∉ l:=fun a=>h (List.findIdx_lt_length.2 ⟨p,a,zS⟩)
theorem TV(g:Nat)(v:zV)(l:List (Int×Int))(p:Int×Int)(w0 w:zW)(m mk:Mem)(L:List bA)(B:Own w0 m w mk (.row v 144 2 l.length (hzS l)::.obj g 145 #[v]::L))
(_:NY p)(hk:∀q∈l,NY q)(J:l.length<=100000000):
 zC 98 #[.agg #[.int .i64 p.1,.int .i64 p.2],.pointer (some ⟨g,0,none⟩)] w fun e w'=>∃v',e=.returned (.int .i64 (mI l p)) /\
  Own w0 m w' mk (.row v' 144 2 (jF l p).length (hzS (jF l p))::.obj g 145 #[v']::L):=by
 refine au fun R K=>?_;obtain⟨va,I,rfl⟩:=bz B.row;have a:=B.al' (.cells #[.int .i64 p.1,.int .i64 p.2] 144);have E:=a.bO;have t:=Kv _ l p _ _ E.ay (IL a.row hk);rw[K3]at t;have O:=EG l p;have x:(w.alloc (.cells #[.int .i64 p.1,.int .i64 p.2] 144)).heap.size=w.heap.size+1:=by simp
 have z:(w.alloc (.cells #[.int .i64 p.1,.int .i64 p.2] 144)).heap[w.heap.size]?=some (.cells #[.int .i64 p.1,.int .i64 p.2] 144 (0,0)):=(aZ.new _ _ _).get;have V:=a.av.obj.c 0;have U:=a.av.obj.lt;have P:=B.av.obj.lt;by_cases C:mI l p<l.length
 .rw[zK C]at t;have i:jF l p=l:=by unfold jF;rw[zK C]
  generalize mI l p=D at*
  have s:=zh (zi t (zi a i));clear t a E z i x B
  go_enter func98,ntmps98
  go_wp2_with fail
  refine s.o.1.mono ?_;rintro e u ⟨rfl,b⟩;have d:=s.o.2.1.aS b;go_wp2;refine K.o _ _ ⟨.slice va l.length I,rfl,?_⟩;rw[s.o.2.2];exact d
 .rw[zJ C]at t;have i:jF l p=l++[p]:=by unfold jF;rw[zJ C]
  have y:mI l p=l.length:=zo;generalize N:mI l p=D at*
  have s:=zh (zi t (zi a (zi i y)));clear t a E i x y N B
  go_enter func98,ntmps98
  go_wp2_with fail
  refine s.o.1.mono ?_;rintro e u ⟨rfl,b⟩;have d:=s.o.2.1.aS b;have Y:u.cell? ⟨w.heap.size,0,none⟩=some (.int .i64 p.1):=mP b zS zS;have X:u.cell? ⟨w.heap.size,1,none⟩=some (.int .i64 p.2):=mP b zS zS;have M:w.heap.size<u.heap.size:=by have:=b.size;simp at this;omega
  have T:=d.av.obj.c 0;have S:=d.av.obj.frozen 0;have Q:=d.av.obj.lt;clear b V U;have r:=d.al #[.int .i64 p.1,.int .i64 p.2] 144;have k:=r.obj.dF rfl;clear d
  go_wp2_with (at_builtin;refine aT czB rfl (.tmp 12) (.tmp 14) rfl (.slice va l.length I) l.length (hzS l) rfl r.av.row ⟨u.heap.size,0,none⟩ 1 1 [.int .i64 p.1,.int .i64 p.2] rfl rfl k qdS qdR zo ?_)
  intro H G W j f h;have n:=(r.av.app j f h zS).bK.av;have T:=n.obj.c 0;have S:=n.obj.frozen 0;have Q:=n.obj.lt;have A:=(n.set 0 (.slice H (l.length+1) G)).av;have F:=zh A;clear A n r k j f h;go_wp2;refine K.o _ _ ⟨.slice H (l.length+1) G,jq (by rw[s.o.2.2.2]),?_⟩;rw[s.o.2.2.1,EH,show(l++[p]).length=l.length+1 by simp];exact F.o
def jr(es:List Ed)(b:Nat):Prop:=∃e∈es,ng e b
theorem OJ{es:List Ed}{j:Nat}(h:j<es.length)(b:Nat):jr (es.take (j+1)) b↔jr (es.take j) b\/ng es[j] b:=z8 h b
def Ct(l:aK)(s:Int):List Ed:=if s<0 then[]else match l[s.toNat]? with
 |some st=>st.bv
 |none=>[]
theorem uV(l:aK)(s:Int)(b:Nat):bX l s b=bE (Ct l s) b:=by
 unfold bX Ct
 split
 .rfl
 .cases l[s.toNat]?<;>rfl
theorem Rw(W:zV)(l:aK)(s:Int)(g:Nat)(P:Nat->Prop)(w0 w:zW)(m mk:Mem)(L:List bA)(d:Own w0 m w mk (.obj g 149 (lL P 256)::L))(hl:aU mk W l)
(j' : -1<=s)(i':s<=l.length)(_:l.length<=1000000):
 zC 101 #[.agg #[W],.int .i64 s,.pointer (some ⟨g,0,none⟩)] w fun e w'=>e=.returned (.tuple #[]) /\
  Own w0 m w' mk (.obj g 149 (lL (fun b=>P b\/jr (Ct l s) b) 256)::L):=by
 obtain⟨a,c,rfl,h1,h2,Q⟩:=hl;unfold maxLen at h2;by_cases h0:s<0
 .have r:Ct l s=[]:=by simp[Ct,h0]
  have y:lL (fun b=>P b\/jr (Ct l s) b) 256=lL P 256:=eu fun b _=>by rw[r];simp[jr]
  rw[y];refine au fun R hR=>?_;have HO:=zh (d.al' (.cells #[.slice a l.length c] 27));clear d r y
  go_enter func101,ntmps101
  exact qaX
 obtain⟨s,rfl⟩:=zT (by omega:0<=s);by_cases hs:s<l.length
 .obtain⟨b,off,rfl,h4⟩:=Q qel;obtain⟨-,ve,g2,ea,T,rfl,g4,g5,g6⟩:=h4 s hs;have r:Ct l (s:Int)=(l[s]).bv:=by
   have C:¬((s:Int)<0):=zo;simp[Ct,C,hs]
  rw[r];generalize l[s].bv=es at*
  refine au fun R hR=>?_;unfold maxLen at g5;have N:=Mem_cell_w d.ay g2;have m':=Mem_cell_lt d.ay g2;have HO:=zh (d.al' (.cells #[.slice (some ⟨b,off,none⟩) l.length c] 27));clear d Q h4 r
  go_enter func101,ntmps101
  go_wp2;refine aC [2,22,23,24] (fun n p F=>∃(j:Nat),j<=es.length/\n=es.length-j/\p=[.pointer (some ⟨g,0,none⟩),.slice ea es.length T,.int .i64 es.length,.int .i64 j] /\
   Own w0 m F mk (.obj g 149 (lL (fun b=>P b\/jr (es.take j) b) 256)::L)) ?_ ?_
  .refine⟨_,0,zG _,rfl,rfl,?_⟩;rw[eu (P':=P) (by intro b _;simp[jr])];exact HO.o
  clear HO N;rintro X z n p F Z-⟨j,hj,rfl,rfl,d⟩;simp[bB,lk];by_cases hlt:j<es.length
  .obtain⟨b',q,rfl,S⟩:=g6 qdP;obtain⟨e1,e2,e3,e4,e5,-⟩:=S j hlt;have d1:=Mem_cell_w d.ay e1;have d2:=Mem_cell_w d.ay e2;have d3:=Mem_cell_w d.ay e3;have O:=Mem_cell_lt d.ay e1;have D:=zh (fun b=>OJ hlt b);generalize es[j]=e at*
   have B:=(d.al #[.int .u8 e.lo,.int .u8 e.hi,.int .i64 e.to] 102);have k:=zh B;clear d B;go_wp2;generalize F.heap.size=E at*
   generalize F.alloc (.cells #[.int .u8 e.lo,.int .u8 e.hi,.int .i64 e.to] 102)=V at*
   have K:=k.o.obj.c 0;have J:=k.o.obj.lt;have I:=k.o.av.obj.lt;have H:=k.o.av.obj.frozen e.lo;have G:=k.o.av.obj.cell (jI (i:=e.lo) zo);refine aV [2,7,22,23,24] (fun p w'=>p=[.pointer (some ⟨g,0,none⟩),.pointer (some ⟨E,0,none⟩),.slice (some ⟨b',q,none⟩) es.length T,.int .i64 es.length,.int .i64 j]/\w'=(V.setCell ⟨g,e.lo,none⟩ (.bool true)).drew) ?_ ?_
   .intro Y hY
    go_region
    exact qcF
   rintro z1 p M-⟨rfl,rfl⟩;simp[bB,lk];have u:=(k.o.av.set e.lo (.bool true)).dr;rw[j5]at u;have f:=zh u;clear u k d1 d2 d3 O K J I H G;generalize (V.setCell ⟨g,e.lo,none⟩ (.bool true)).drew=w4 at*
   have K:=f.o.av.obj.c 1;have J:=f.o.av.obj.lt;by_cases l':e.hi<255
   .have A:decide ((e.hi:Int)<255)=true:=zN zo;go_wp2;have h':IntKind.u8.wrap ((e.hi:Int)+1)=(e.hi:Int)+1:=IntWalk.u8_in _ zo;have I:=f.o.obj.lt;have H:=f.o.obj.frozen (e.hi+1);have G:=f.o.obj.cell (jI (i:=e.hi+1) zo);refine aV [2,22,23,24] (fun p w'=>p=[.pointer (some ⟨g,0,none⟩),.slice (some ⟨b',q,none⟩) es.length T,.int .i64 es.length,.int .i64 j]/\w'=(w4.setCell ⟨g,e.hi+1,none⟩ (.bool true)).drew) ?_ ?_
    .intro Y hY
     go_region
     exact qcF
    rintro z1 p M-⟨rfl,rfl⟩;simp[bB,lk];have t:=((f.o.set (e.hi+1) (.bool true)).dr).bK;rw[j5]at t;have U:=zh t;clear t K J I H G f;go_wp2;refine Z.o _ _ _ zo rfl ⟨j+1,zo,rfl,rfl,?_⟩;rw[eu (P:=fun b=>P b\/jr (es.take (j+1)) b) (P':=fun b=>((P b\/jr (es.take j) b)\/b=e.lo)\/b=e.hi+1) (by
     intro b _;rw[D.o];unfold ng;constructor
     .rintro(h|h|h|h)
      .exact qds
      .exact qdr
      .exact .inl (.inr h.symm)
      .exact .inr h.symm
     .rintro(((h|h)|h)|h)
      .exact .inl h
      .exact qcY
      .exact .inr (.inr (.inl h.symm))
      .exact .inr (.inr (.inr h.symm)))]
    exact U.o
   .have A:decide ((e.hi:Int)<255)=false:=zM zo;go_wp2;refine Z.o _ _ _ zo rfl ⟨j+1,zo,rfl,rfl,?_⟩;rw[eu (P:=fun b=>P b\/jr (es.take (j+1)) b) (P':=fun b=>(P b\/jr (es.take j) b)\/b=e.lo) (by
     intro b hb;rw[D.o];unfold ng;constructor
     .rintro(h|h|h|h)
      .exact qcZ
      .exact .inl (.inr h)
      .exact .inr h.symm
      .omega
     .rintro((h|h)|h)
      .exact .inl h
      .exact qcY
      .exact .inr (.inr (.inl h.symm)))]
    exact f.o.bK
  .obtain rfl:j=es.length:=zo;rw[yG]at d;have HO:=zh d;clear d;exact qaX
 .have x:s=l.length:=zo;have r:Ct l (s:Int)=[]:=by
   have C:¬((s:Int)<0):=zo;simp[Ct,x]
  have y:lL (fun b=>P b\/jr (Ct l (s:Int)) b) 256=lL P 256:=eu fun b _=>by rw[r];simp[jr]
  rw[y];refine au fun R hR=>?_;have HO:=zh (d.al' (.cells #[.slice a l.length c] 27));clear d r y Q;subst x
  go_enter func101,ntmps101
  exact qaX
theorem Zv(l:aK)(s:Int)(h:(l.length:Int)<=s):bI l s=false:=by
 have:=kE l s [] h;exact this
theorem lM(v:zV)(l:aK)(s:Int)(m:Mem)(w:zW)(g:m.ay w)(d:aU m v l)(b : -9223372036854775808<=s)(f:s<=9223372036854775807):
 zX 100 #[.agg #[v],.int .i64 s] w (.bool (bI l s)):=by
 by_cases h:s<l.length
 .exact ET v l s m w g d b h
 .rw[Zv l s zo];obtain⟨a,c,rfl,n,k,j⟩:=d;unfold maxLen at k;clear j;refine au fun R i=>?_
  go_enter func100,ntmps100
  go_wp2
  all_goals exact i.o _ _ ⟨rfl,cu (zR _ _) _⟩
theorem vM:∀(es:List Ed) (c:Nat),0<c->¬jr es c->bE es c=bE es (c-1)
 |[],_,_,_=>rfl
 |e::es,c,hc,h=>by
  have f:¬(e.lo=c\/e.hi+1=c):=fun a=>h ⟨e,zS,a⟩;have b:=vM es c hc (fun⟨x,a,d⟩=>h ⟨x,by simp[a],d⟩);simp only[bE];by_cases g:e.lo<=c/\c<=e.hi
  .rw[zK g,zK ⟨zo,zo⟩]
  .rw[zJ g,zJ zo,b]
theorem NU{A B:aK}{p:Int×Int}{c:Nat}(a:0<c)(h:¬((c=0\/jr (Ct A p.1) c)\/jr (Ct B p.2) c)):lK A B p c=lK A B p (c-1):=by
 unfold lK;rw[uV,uV,uV,uV,vM _ c a (fun x=>h (.inl (.inr x))),vM _ c a (fun x=>h (.inr x))]
theorem VV:(zeroCells149).setIfInBounds 0 (.bool true)=lL (fun b=>b=0) 256:=by
 have:zeroCells149=Array.replicate 256 (Value.bool false):=by kernel_rfl
 rw[this,rG,j5];exact eu fun b _=>by simp
theorem Own.fzI{w0 w:zW}{m mk:Mem}{L:List Cl.bA}{g:Nat}{t:TypeId}{x y:zV}(h:Own w0 m w mk (.obj g t #[x,y]::L)):Own w0 m w mk (.row (.slice (some ⟨g,0,none⟩) 1 1) t 2 1 [x,y]::L):=by
 have a:=yS.1 h.apart;refine⟨h.m0,h.az,h.ext,h.ay,?_,?_,.cons (fun b c k e d=>a.1 b c k e d) a.2⟩
 .simp only[yA,forall_eq_or_imp];refine⟨⟨rfl,.inr ⟨g,1,#[x,y],rfl,zG _,h.obj.get,zI _,by simp[maxLen],rfl,rfl⟩⟩,fun it hi=>h.ok it (zU _ hi)⟩
 .exact qhs
theorem Own.ez8{w0 w:zW}{m mk:Mem}{L:List Cl.bA}{g:Nat}{t:TypeId}{arr:Array Value}(h:Own w0 m w mk (.obj g t arr::L))(cs:Array Value):Own w0 m (w.setRow g cs) mk (.obj g t cs::L):=by
 have d:w.grownBy (w.setRow g cs) (some g):=⟨rfl,rfl,rfl,zS,fun k _ c=>setRow_other w g k cs (fun e=>c (by rw[e]))⟩;have hf:=h.iA _ (yF ..) g rfl;have a:=yS.1 h.apart;refine⟨h.m0,h.az.grown d h.az.size (fun k hk=>by cases hk;exact hf.1),h.ext,Mem_inn_grown h.ay d (fun k hk=>by cases hk;exact hf.2),?_,?_,.cons (fun b f k j i=>a.1 b f k j i) a.2⟩
 .simp only[yA,forall_eq_or_imp];exact⟨⟨setRow_heap w g arr cs t (0,0) h.obj.get⟩,fun it hi=>bA.oK (h.ok it (zU _ hi)) fun k hk=>d.block k (bA.lt (h.ok it (zU _ hi)) hk) (fun e=>a.1 it hi g rfl (by cases e;exact hk))⟩
 .exact qgB
theorem kJ.add{A B:aK}{op:Bool->Bool->Bool}{st:Int×Int}{l:List (Int×Int)}{out:aK}(h:kJ A B op st l out){q:Int×Int}
(b:(-1<=q.1/\q.1<=A.length)/\(-1<=q.2/\q.2<=B.length)):kJ A B op st (jF l q) out:=by
 by_cases a:mI l q<l.length
 .have:jF l q=l:=by unfold jF;rw[zK a]
  rw[this];exact h
 .have:jF l q=l++[q]:=by unfold jF;rw[zJ a]
  rw[this];exact h.grow (TL a) b
theorem dz6.ok{A B:aK}{p:Int×Int}{l:List (Int×Int)}{es:List Ed}{c:Nat}(h:dz6 A B p l es c)(i:l.length<=100000000):(∀e∈es,YV e)/\es.length<=256:=by
 have b:=l7 h.wf;have d:=h.le;refine⟨fun e a=>?_,?_⟩
 .have g:=h.hi e a;have f:=b e a;exact⟨zo,zo,zo,zo⟩
 .have:=ZT h.wf (fun e a=>by have g:=h.hi e a;have f:=b e a;exact⟨zo,zo⟩) zo zo;omega
theorem xg(fi:Nat)(f:Bool->Bool->Bool)(hf:∀x y w,zX fi #[.bool x,.bool y] w (.bool (f x y)))(hff:f false false=false)
(hcf:Hid (∀x y w,Sem.run prog (callFunc fi #[.bool x,.bool y]) w=.ok (.enter fi #[.bool x,.bool y]) w))
(v0 v1:zV)(A B:aK)(m:Mem)(w:zW)(hm:m.ay w)(H':dV m)(hA:aU m v0 A)(hB:aU m v1 B)(hlen:(A.length+2)*(B.length+2)<=1000000)(hlA:A.length<=1000000)(hlB:B.length<=1000000):
 zC 64 #[.agg #[v0],.agg #[v1],.func (.func fi) #[] #[]] w fun e w'=>∃r C,e=.returned (.agg #[r])/\zB w w'/\aU (m.grow w w') r C /\
  dw (fun x=>f (Sem A x) (Sem B x)) C/\C.length<=(A.length+2)*(B.length+2)+1:=by
 have F:=(((Own.start hm).al #[v0] 27).al #[v1] 27).al #[.slice none 0 0] 27;have hsz1:(w.alloc (.cells #[v0] 27)).heap.size=w.heap.size+1:=by simp
 have hsz2:((w.alloc (.cells #[v0] 27)).alloc (.cells #[v1] 27)).heap.size=w.heap.size+2:=by simp
 rw[hsz2,hsz1]at F;have HO:=zh F;have HA:=zh (fun w (hw:m.ay w)=>nV v0 A m w hw H' hA hlA);have HB:=zh (fun mk w (hw:mk.ay w) (hle:m.le mk)=>nV v1 B mk w hw (H'.le hle) (aX hle hB) hlB);clear F hsz1 hsz2;refine au fun R hR=>?_;obtain⟨va,vc,rfl,-⟩:=hA;obtain⟨vb,vd,rfl,-⟩:=hB
 go_enter func64,ntmps64
 go_wp2;refine aV [2,3,4,6] (fun vs w'=>∃(r1 r2:zV) (mk:Mem),vs=[.func (.func fi) #[] #[],.pointer (some ⟨w.heap.size,0,none⟩),.pointer (some ⟨w.heap.size+1,0,none⟩),.pointer (some ⟨w.heap.size+2,0,none⟩)] /\
  Own w m w' mk [.obj (w.heap.size+2) 27 #[.slice none 0 0],.obj (w.heap.size+1) 27 #[r2],.obj w.heap.size 27 #[r1]]/\aU mk r1 (cO A)/\aU mk r2 (cO B)) ?_ ?_
 .intro X hX;refine kz (fun j w'=>(j≠4->j≠5->aZ w' w.heap.size 27 #[.slice va A.length vc])/\(j≠5->aZ w' (w.heap.size+1) 27 #[.slice vb B.length vd])) zk ?_;have F:=HO.o.dr;refine pJ 0 (fun w'=>aZ w' w.heap.size 27 #[.slice va A.length vc]) rfl zk (fun _ _ _ h=>h) (fun j w' hj hd=>hd.1 qie qie) F.aP.obj (ax rfl fun w' u=>by have q:=u.cell (i:=0) rfl;go_simp;rfl) ?_;refine pJ 2 (fun w'=>aZ w' (w.heap.size+1) 27 #[.slice vb B.length vd]) rfl zk (fun _ _ _ h=>h) (fun j w' hj hd=>hd.2 qie) F.av.obj (ax rfl fun w' u=>by have q:=u.cell (i:=0) rfl;go_simp;rfl) ?_;refine bg 1 zk (aJ rfl rfl (dE qem (HA.o _ F.ay) ?_));rintro e w1 ⟨r1,rfl,hb1,N'⟩;have G:=F.call hb1;have hle:=Mem_le_grow (w:=w1) F.ay;refine⟨_,rfl,.inr ⟨fun _ _=>G.aP.obj,fun _=>G.av.obj⟩,?_⟩;go_simp;refine bg 3 zk (aJ rfl rfl (dE qem (HB.o _ _ G.ay hle) ?_));rintro e w2 ⟨r2,rfl,hb2,M'⟩;have M:=G.call hb2;have hle2:=Mem_le_grow (w:=w2) G.ay;refine⟨_,rfl,.inr ⟨fun _ _=>M.aP.obj,fun _=>M.av.obj⟩,?_⟩;obtain⟨xa,xc,rfl⟩:∃xa xc,r1=.slice xa (cO A).length xc:=by obtain⟨x,y,e,-⟩:=N';exact⟨x,y,e⟩
  obtain⟨ya,yc,rfl⟩:∃xa xc,r2=.slice xa (cO B).length xc:=by obtain⟨x,y,e,-⟩:=M';exact⟨x,y,e⟩
  go_simp;have f1:=M.aP.obj.frozen 0;have c1:=M.aP.obj.c 0;have O:=M.aP.set 0 (.slice xa (cO A).length xc);have f3:=O.aP.obj.frozen 0;have c3:=O.aP.obj.c 0;have b':=(O.aP.set 0 (.slice ya (cO B).length yc)).aP;refine bg 4 zk (aJ rfl rfl (bT zg ⟨.inr ⟨fun h=>absurd rfl h,fun _=>O.aP.obj⟩,?_⟩));refine bg 5 zk (aJ rfl rfl (bT zg ⟨.inr ⟨fun _ h=>absurd rfl h,fun h=>absurd rfl h⟩,?_⟩));refine gM zk ?_ _;exact hX.o _ _ rfl ⟨_,_,_,rfl,b',aX hle2 N',M'⟩
 rintro z vs w1-⟨r1,r2,mk,rfl,F,N',M'⟩;simp[bB,lk];clear HO HA HB;have hgA:=nK A;have hgB:=nK B;have hgAl:=kr A;have hgBl:=kr B;have J':∀x,aH (cO A) 0 x=Sem A x:=fun x=>by
  unfold cO Sem;by_cases h:cB A
  .simp[aM h]
  .simp[aF h];exact hzR x
 have I':∀x,aH (cO B) 0 x=Sem B x:=fun x=>by
  unfold cO Sem;by_cases h:cB B
  .simp[aM h]
  .simp[aF h];exact hzR x
 have HG:=zh (zi hgA (zi hgB (zi J' I')));clear hgA hgB J' I';have hmul:((cO A).length+2)*((cO B).length+2)<=(A.length+2)*(B.length+2):=xV zo zo;generalize cO A=K at*
 generalize cO B=J at*
 have G:=(((F.al #[.int .i64 0,.int .i64 0] 144).fzI).al #[.slice (some ⟨w1.heap.size,0,none⟩) 1 1] 145).av.fC 105 2;have hsz:(w1.alloc (.cells #[.int .i64 0,.int .i64 0] 144)).heap.size=w1.heap.size+1:=by simp
 rw[hsz]at G;have W:=zh (zi G (TJ (A:=K) (B:=J) (op:=f) (st:=(0,0)) (by simp only;omega)));have D':=zh (zi N' M');obtain⟨xa,xc,rfl,-⟩:=N';obtain⟨ya,yc,rfl,-⟩:=M';clear G F hsz;go_wp2;generalize w1.heap.size=N at*
 refine aC [2,3,4,6,7,8,9,10] (fun n vs wr=>∃(k:Nat) (l:List (Int×Int)) (out:aK) (vl vo:zV) (xs:List Value) (mk':Mem),n=1000001-k /\
  vs=[.func (.func fi) #[] #[],.pointer (some ⟨w.heap.size,0,none⟩),.pointer (some ⟨w.heap.size+1,0,none⟩),.pointer (some ⟨w.heap.size+2,0,none⟩),.pointer (some ⟨N+1,0,none⟩),.func (.func 98) #[] #[.pointer (some ⟨N+1,0,none⟩)],vo,.int .i64 k] /\
  Own w m wr mk' [.row vo 105 2 k xs,.row vl 144 2 l.length (hzS l),.obj (N+1) 145 #[vl],.obj (w.heap.size+2) 27 #[.slice none 0 0],.obj (w.heap.size+1) 27 #[.slice ya J.length yc],.obj w.heap.size 27 #[.slice xa K.length xc]] /\
  og mk' xs out/\mk.le mk'/\kJ K J f (0,0) l out/\out.length=k) ?_ ?_
 .refine⟨_,0,[(0,0)],[],.slice (some ⟨N,0,none⟩) 1 1,.slice none 0 0,[],mk,rfl,?_,W.o.1,og.nil _,Mem.le_refl _,W.o.2,rfl⟩
  rfl
 clear W;rintro X z n vs wr hX-⟨k,l,out,vl,vo,xs,mk',rfl,rfl,F,L',q',U,O'⟩;simp[bB,lk];obtain⟨vla,vlc,rfl⟩:=bz F.av.row;have hob:=F.aP.obj;have b1:=hob.cell (i:=0) rfl;have b2:=hob.lt;have hpl:=vg U.nodup U.iZ;have hkl:=U.le;by_cases hlt:k<l.length
 .obtain⟨vlb,rfl⟩:=rA F.av.row zo;have hpc:=tq l k hlt;have r1:=bL F.av.row hpc.1;have r2:=bL F.av.row hpc.2;have rl:=(World.ownsRow.lt F.av.row _ rfl).2;have S':l[k]?=some l[k]:=by simp[hlt]
  have hrng:=U.iZ l[k] (zF hlt);have HP:=zh (zi U (zi O' S'));generalize l[k]=p at*
  obtain⟨I,H⟩:=p;simp only at r1 r2 hrng;have G:=F.al #[.int .i64 I,.int .i64 H] 144;have W:=zh G;clear G F U O' S' hpc hob;go_wp2;generalize hW2:wr.alloc (.cells #[.int .i64 I,.int .i64 H] 144)=w2 at*
  generalize wr.heap.size=P at*
  refine aV [2,3,4,6,7,8,9,10,11,12] (fun vs w'=>∃S:Nat,
   vs=[.func (.func fi) #[] #[],.pointer (some ⟨w.heap.size,0,none⟩),.pointer (some ⟨w.heap.size+1,0,none⟩),.pointer (some ⟨w.heap.size+2,0,none⟩),.pointer (some ⟨N+1,0,none⟩),.func (.func 98) #[] #[.pointer (some ⟨N+1,0,none⟩)],vo,.int .i64 k,.pointer (some ⟨P,0,none⟩),.pointer (some ⟨S,0,none⟩)] /\
   Own w m w' mk' [.obj S 105 #[.bool (f (bI K I) (bI J H)),.slice none 0 0],.obj P 144 #[.int .i64 I,.int .i64 H],.row vo 105 2 k xs,.row (.slice (some ⟨vlb,0,none⟩) l.length vlc) 144 2 l.length (hzS l),.obj (N+1) 145 #[.slice (some ⟨vlb,0,none⟩) l.length vlc],.obj (w.heap.size+2) 27 #[.slice none 0 0],.obj (w.heap.size+1) 27 #[.slice ya J.length yc],.obj w.heap.size 27 #[.slice xa K.length xc]]) ?_ ?_
  .intro Y hY;refine bF 12 8 (fun j=>[aI.is (·=.func (.func fi) #[] #[]),aI.is (·=.agg #[.slice xa K.length xc]),aI.is (·=.pointer (some ⟨P,0,none⟩)),aI.is (·=.int .i64 I),aI.is (·=.bool (bI K I)),aI.is (·=.agg #[.slice ya J.length yc]),aI.is (·=.pointer (some ⟨P,1,none⟩)),aI.is (·=.int .i64 H),aI.is (·=.bool (bI J H)),aI.is (·=.bool (f (bI K I) (bI J H))),aI.is (·=.agg #[.bool (f (bI K I) (bI J H)),.slice none 0 0]),aI.obj 11 105 #[.bool false,.slice none 0 0]].getD j aI.any) zk zk ?_ ?_
   .intro i hi o win a wr ho RA;have W':=W.o.dr.aS RA.az;have kA:=W'.jP (g:=w.heap.size) (t:=27) (arr:=#[.slice xa K.length xc]) zS;have kB:=W'.jP (g:=w.heap.size+1) (t:=27) (arr:=#[.slice ya J.length yc]) zS;have kP:=W'.jP (g:=P) (t:=144) (arr:=#[.int .i64 I,.int .i64 H]) zS;have ka:=kA.cell (i:=0) rfl;have kb:=kB.cell (i:=0) rfl;have kp:=kP.cell (i:=0) rfl;have kq:=kP.cell (i:=1) rfl;have kl:=kP.lt;rcases(show i=0\/i=1\/i=2\/i=3\/i=4\/i=5\/i=6\/i=7\/i=8\/i=9\/i=10\/i=11 by omega)with rfl|rfl|rfl|rfl|rfl|rfl|rfl|rfl|rfl|rfl|rfl|rfl
    .have e2:=RA.k 2;exact qaa
    .have e3:=RA.k 3;exact qaa
    .have e11:=RA.k 11;exact qaa
    .have e36:zt a 36 _:=RA.d 2 rfl;exact qaa
    .have e35:zt a 35 _:=RA.d 1 rfl;have e37:zt a 37 _:=RA.d 3 rfl;cases ho;refine we rfl rfl (lM (.slice xa K.length xc) K I mk _ (Mem_inn_le q' W'.ay) D'.o.1 zo zo) ?_;exact qab
    .have e4:=RA.k 4;exact qaa
    .have e11:=RA.k 11;exact qaa
    .have e40:zt a 40 _:=RA.d 6 rfl;exact qaa
    .have e39:zt a 39 _:=RA.d 5 rfl;have e41:zt a 41 _:=RA.d 7 rfl;cases ho;refine we rfl rfl (lM (.slice ya J.length yc) J H mk _ (Mem_inn_le q' W'.ay) D'.o.2 zo zo) ?_;exact qab
    .have e34:zt a 34 _:=RA.d 0 rfl;have e38:zt a 38 _:=RA.d 4 rfl;have e42:zt a 42 _:=RA.d 8 rfl;cases ho;refine aJ rfl rfl (dE (by have hc:=fun w'=>hcf.o (bI K I) (bI J H) w';go_simp;first|done|rfl) (hf (bI K I) (bI J H) _) ?_);exact qab
    .have e43:zt a 43 _:=RA.d 9 rfl;have f43:=(zY (xs:=a.tmps) (i:=43) (d:=undef)).symm.trans e43;exact qaa
    .exact qhT
   .intro win a wr E;have e2:=E.keep 2 zk;have e3:=E.keep 3 zk;have e4:=E.keep 4 zk;have e6:=E.keep 6 zk;have e7:=E.keep 7 zk;have e8:=E.keep 8 zk;have e9:=E.keep 9 zk;have e10:=E.keep 10 zk;have e11:=E.keep 11 zk;have e12:(aI.obj 11 105 #[.bool false,.slice none 0 0]).holds (a.tmps.getD 12 undef) win wr:=E.fact 11 _ zo rfl;have e44:a.tmps.getD 44 undef=.agg #[.bool (f (bI K I) (bI J H)),.slice none 0 0]:=E.fact 10 _ zo rfl;obtain⟨p11,n11,o11⟩:_/\_/\_:=e12;have g11:=E.iZ 11 zo;have hO1:=W.o.dr.aS E.az;have hge:=W.o.dr.az.size;have C':=hO1.newObj o11 zo (Mem_none_of_ge W.o.dr.ay g11.1) (W.o.dr.VE g11.1);generalize (win 11).1=S at*
    have hE0:=C'.obj.frozen 0;have hE1:=C'.obj.frozen 1;have hE2:=C'.obj.c 0;have hE3:=C'.obj.c 1;have hE4:=C'.obj.lt;have hZ:=(C'.set 0 (.bool (f (bI K I) (bI J H)))).set 1 (.slice none 0 0);have hsz:=E.size;obtain⟨t1,dd⟩:=a;obtain rfl:dd=[]:=E.defers;refine dX 12 zk (aJ rfl rfl (bT zg ?_));refine dx zk (hY.o _ _ (by simpa using hsz) ⟨S,?_,hZ⟩) _;simp only[yL,xB];rw[e2,e3,e4,e6,e7,e8,e9,e10,e11,p11]
    rfl
  rintro z1 vs w3-⟨S,rfl,F⟩;simp[bB,lk];have G:=F.al zeroCells149 149;have hg2:=G.obj.get;have M:=G.ez8 (zeroCells149.setIfInBounds 0 (.bool true));have O:=M;rw[VV]at O;have HC1:=zh (Rw (.slice xa K.length xc) K I w3.heap.size (fun b=>b=0) w _ m mk' _ O (aX q' D'.o.1) zo zo zo);rw[<-VV]at HC1;have HC2:=zh (fun L P w' (h:Own w m w' mk' (.obj w3.heap.size 149 (lL P 256)::L))=>Rw (.slice ya J.length yc) J H w3.heap.size P w w' m mk' L h (aX q' D'.o.2) zo zo zo);have HO3:=zh M;have q1:=(M.jP (g:=w.heap.size) (t:=27) (arr:=#[.slice xa K.length xc]) zS).cell (i:=0) rfl;have q1l:=(M.jP (g:=w.heap.size) (t:=27) (arr:=#[.slice xa K.length xc]) zS).lt;have q3:=(M.jP (g:=P) (t:=144) (arr:=#[.int .i64 I,.int .i64 H]) zS).cell (i:=0) rfl;have q3l:=(M.jP (g:=P) (t:=144) (arr:=#[.int .i64 I,.int .i64 H]) zS).lt;clear F M O W G
  go_wp2_with (refine wpList_store_row rfl 149 (.tmp 13) (.tmp 45) rfl w3.heap.size (zeroCells149.setIfInBounds 0 (.bool true)) rfl rfl 149 zeroCells149 hg2 zk zS zk ?_)
  clear hg2;refine HC1.o.mono ?_;rintro e w4 ⟨rfl,F⟩;have q1:=(F.jP (g:=w.heap.size+1) (t:=27) (arr:=#[.slice ya J.length yc]) zS).cell (i:=0) rfl;have q1l:=(F.jP (g:=w.heap.size+1) (t:=27) (arr:=#[.slice ya J.length yc]) zS).lt;have q3:=(F.jP (g:=P) (t:=144) (arr:=#[.int .i64 I,.int .i64 H]) zS).cell (i:=1) rfl;have q3l:=(F.jP (g:=P) (t:=144) (arr:=#[.int .i64 I,.int .i64 H]) zS).lt;have HC3:=zh (HC2.o _ _ w4 F);clear HO3 HC1 HC2 F
  go_wp2_with fail
  refine HC3.o.mono ?_;rintro e w5 ⟨rfl,F⟩;clear HC3 q1 q1l q3 q3l;generalize w3.heap.size=D at*
  obtain⟨PM,hPM⟩:∃PM:Nat->Prop,PM=fun b=>(b=0\/jr (Ct K I) b)\/jr (Ct J H) b:=⟨_,rfl⟩;rw[<-hPM]at F;have HPM:=zh hPM;have HO:=zh ((F.perm (List.Perm.refl _)).fC 102 3);clear hPM F;go_wp2;refine aC [2,3,4,6,7,8,9,10,11,12,13,54] (fun n vs w'=>∃(c:Nat) (l':List (Int×Int)) (vl' ve:zV) (es:List Ed),c<=256/\n=256-c /\
   vs=[.func (.func fi) #[] #[],.pointer (some ⟨w.heap.size,0,none⟩),.pointer (some ⟨w.heap.size+1,0,none⟩),.pointer (some ⟨w.heap.size+2,0,none⟩),.pointer (some ⟨N+1,0,none⟩),.func (.func 98) #[] #[.pointer (some ⟨N+1,0,none⟩)],vo,.int .i64 k,.pointer (some ⟨P,0,none⟩),.pointer (some ⟨S,0,none⟩),.pointer (some ⟨D,0,none⟩),.int .i64 c] /\
   Own w m w' mk' [.row ve 102 3 es.length (fG es),.obj D 149 (lL PM 256),.obj S 105 #[.bool (f (bI K I) (bI J H)),ve],.obj P 144 #[.int .i64 I,.int .i64 H],.row vo 105 2 k xs,.row vl' 144 2 l'.length (hzS l'),.obj (N+1) 145 #[vl'],.obj (w.heap.size+2) 27 #[.slice none 0 0],.obj (w.heap.size+1) 27 #[.slice ya J.length yc],.obj w.heap.size 27 #[.slice xa K.length xc]] /\
   dz6 K J (I,H) l' es c/\kJ K J f (0,0) l' out/\l'[k]?=some (I,H)) ?_ ?_
  .exact⟨_,0,l,.slice (some ⟨vlb,0,none⟩) l.length vlc,.slice none 0 0,[],zo,rfl,rfl,HO.o,dz6.start _ _ _ _,HP.o.1,HP.o.2.2⟩
  clear HO;rintro Y z2 n vs w6 hY-⟨c,l',vl',ve,es,hc,rfl,rfl,F,U',U,S'⟩;simp[bB,lk];obtain⟨G',F',rfl⟩:=bz (F.CE (v:=vl') (t:=144) (size:=2) (n:=l'.length) (xs:=hzS l') zS);obtain⟨h',g',rfl⟩:=bz F.row;have hpl2:=vg U.nodup U.iZ;have hok:=U'.ok zo;have hel:=hok.2;have HC:=zh (zi U' (zi U (zi S' hok.1)));clear U' S' hok U;by_cases R':c<256
  .have m1:=(F.jP (g:=D) (t:=149) (arr:=lL PM 256) zS).cell (jI R');have m2:=(F.jP (g:=D) (t:=149) (arr:=lL PM 256) zS).lt;obtain⟨bm,hbm⟩:∃b,tf (PM c)=b:=⟨_,rfl⟩;rw[hbm]at m1;have Hbm:=zh hbm;clear hbm
   go_upto_if 59 with(fail)
   refine aV [2,3,4,6,7,8,9,10,11,12,13,54,14] (fun vs w'=>∃(l2:List (Int×Int)) (y' ve2:zV) (fs:List Ed) (e:Ed),vs=[.func (.func fi) #[] #[],.pointer (some ⟨w.heap.size,0,none⟩),.pointer (some ⟨w.heap.size+1,0,none⟩),.pointer (some ⟨w.heap.size+2,0,none⟩),.pointer (some ⟨N+1,0,none⟩),.func (.func 98) #[] #[.pointer (some ⟨N+1,0,none⟩)],vo,.int .i64 k,.pointer (some ⟨P,0,none⟩),.pointer (some ⟨S,0,none⟩),.pointer (some ⟨D,0,none⟩),.int .i64 c,.int .i64 c] /\
    Own w m w' mk' [.row ve2 102 3 (fs.length+1) (fG (fs++[e])),.obj D 149 (lL PM 256),.obj S 105 #[.bool (f (bI K I) (bI J H)),ve2],.obj P 144 #[.int .i64 I,.int .i64 H],.row vo 105 2 k xs,.row y' 144 2 l2.length (hzS l2),.obj (N+1) 145 #[y'],.obj (w.heap.size+2) 27 #[.slice none 0 0],.obj (w.heap.size+1) 27 #[.slice ya J.length yc],.obj w.heap.size 27 #[.slice xa K.length xc]] /\
    dz6 K J (I,H) l2 (fs++[⟨e.lo,c,e.to⟩]) (c+1)/\kJ K J f (0,0) l2 out/\l2[k]?=some (I,H)) ?_ ?_
   .intro V hV
    cases bm with
    |false=>
     have hnm:¬PM c:=fun h=>by have:=Hbm.o;rw[aM h]at this;cases this
     have hun:0<c/\lK K J (I,H) c=lK K J (I,H) (c-1):=by
      rw[HPM.o]at hnm;have h0:0<c:=by
       apply zP;intro h;exact hnm (.inl (.inl zo))
      exact⟨h0,NU (p:=(I,H)) h0 hnm⟩
     have hes:∃fs e,es=fs++[e]/\e.hi+1=c:=by
      rcases HC.o.1.last with⟨h,-⟩|h
      .omega
      .exact h
     obtain⟨fs,e,rfl,he⟩:=hes;have hcw:=HC.o.1.widen he R' hun.2;have Q:=zh (zi hcw F);clear hcw F hnm hun he;go_wp2;refine hV.o _ _ rfl ⟨l',.slice G' l'.length F',.slice h' (fs++[e]).length g',fs,e,rfl,?_,Q.o.1,HC.o.2.1,HC.o.2.2.1⟩;have:=Q.o.2
     exact qbi
    |true=>
     have hwu:IntKind.u8.wrap (c:Int)=(c:Int):=IntWalk.u8_in _ zo;have F:=F.dr;have HO:=zh F;go_wp2;have k':∀{w':zW} {L:List Cl.bA},Own w m w' mk' L->bA.obj w.heap.size 27 #[.slice xa K.length xc]∈L->bA.obj (w.heap.size+1) 27 #[.slice ya J.length yc]∈L->bA.obj P 144 #[.int .i64 I,.int .i64 H]∈L->bA.obj S 105 #[.bool (f (bI K I) (bI J H)),.slice h' es.length g']∈L ->
      (aZ w' w.heap.size 27 #[.slice xa K.length xc]/\aZ w' (w.heap.size+1) 27 #[.slice ya J.length yc]/\aZ w' P 144 #[.int .i64 I,.int .i64 H]/\aZ w' S 105 #[.bool (f (bI K I) (bI J H)),.slice h' es.length g']):=
      fun h h1 h2 h3 h4=>⟨h.jP h1,h.jP h2,h.jP h3,h.jP h4⟩
     refine gL (fun w'=>aZ w' w.heap.size 27 #[.slice xa K.length xc]/\aZ w' (w.heap.size+1) 27 #[.slice ya J.length yc]/\aZ w' P 144 #[.int .i64 I,.int .i64 H]/\aZ w' S 105 #[.bool (f (bI K I) (bI J H)),.slice h' es.length g']) 23 zk ?_;have hS:=k' F zS zS zS zS;refine aD 0 rfl zk (fun _ _ _ h=>h) hS (ax rfl fun w' u=>by have q:=u.1.cell (i:=0) rfl;have q1:=u.2.1.cell (i:=0) rfl;have q2:=u.2.2.1.cell (i:=0) rfl;have q3:=u.2.2.1.cell (i:=1) rfl;have q4:=u.2.2.2.cell (i:=1) rfl;go_simp;rfl) ?_;refine aD 1 rfl zk (fun _ _ _ h=>h) hS (ax rfl fun w' u=>by have q:=u.1.cell (i:=0) rfl;have q1:=u.2.1.cell (i:=0) rfl;have q2:=u.2.2.1.cell (i:=0) rfl;have q3:=u.2.2.1.cell (i:=1) rfl;have q4:=u.2.2.2.cell (i:=1) rfl;go_simp;rfl) ?_;refine aD 2 rfl zk (fun _ _ _ h=>h) hS (ax rfl fun w' u=>by have q:=u.1.cell (i:=0) rfl;have q1:=u.2.1.cell (i:=0) rfl;have q2:=u.2.2.1.cell (i:=0) rfl;have q3:=u.2.2.1.cell (i:=1) rfl;have q4:=u.2.2.2.cell (i:=1) rfl;go_simp;rfl) ?_;refine aD 3 rfl zk (fun _ _ _ h=>h) hS (ax rfl fun w' u=>by have q:=u.1.cell (i:=0) rfl;have q1:=u.2.1.cell (i:=0) rfl;have q2:=u.2.2.1.cell (i:=0) rfl;have q3:=u.2.2.1.cell (i:=1) rfl;have q4:=u.2.2.2.cell (i:=1) rfl;go_simp;rfl) ?_;refine aD 4 rfl zk (fun _ _ _ h=>h) hS (ax rfl fun w' u=>by have q:=u.1.cell (i:=0) rfl;have q1:=u.2.1.cell (i:=0) rfl;have q2:=u.2.2.1.cell (i:=0) rfl;have q3:=u.2.2.1.cell (i:=1) rfl;have q4:=u.2.2.2.cell (i:=1) rfl;go_simp;rfl) ?_;refine aD 5 rfl zk (fun _ _ _ h=>h) hS (ax rfl fun w' u=>by have q:=u.1.cell (i:=0) rfl;have q1:=u.2.1.cell (i:=0) rfl;have q2:=u.2.2.1.cell (i:=0) rfl;have q3:=u.2.2.1.cell (i:=1) rfl;have q4:=u.2.2.2.cell (i:=1) rfl;go_simp;rfl) ?_;refine aD 6 rfl zk (fun _ _ _ h=>h) hS (ax rfl fun w' u=>by have q:=u.1.cell (i:=0) rfl;have q1:=u.2.1.cell (i:=0) rfl;have q2:=u.2.2.1.cell (i:=0) rfl;have q3:=u.2.2.1.cell (i:=1) rfl;have q4:=u.2.2.2.cell (i:=1) rfl;go_simp;rfl) ?_;refine aD 7 rfl zk (fun _ _ _ h=>h) hS (ax rfl fun w' u=>by have q:=u.1.cell (i:=0) rfl;have q1:=u.2.1.cell (i:=0) rfl;have q2:=u.2.2.1.cell (i:=0) rfl;have q3:=u.2.2.1.cell (i:=1) rfl;have q4:=u.2.2.2.cell (i:=1) rfl;go_simp;rfl) ?_;refine aD 8 rfl zk (fun _ _ _ h=>h) hS (ax rfl fun w' u=>by have q:=u.1.cell (i:=0) rfl;have q1:=u.2.1.cell (i:=0) rfl;have q2:=u.2.2.1.cell (i:=0) rfl;have q3:=u.2.2.1.cell (i:=1) rfl;have q4:=u.2.2.2.cell (i:=1) rfl;go_simp;rfl) ?_;refine aD 9 rfl zk (fun _ _ _ h=>h) hS (ax rfl fun w' u=>by have q:=u.1.cell (i:=0) rfl;have q1:=u.2.1.cell (i:=0) rfl;have q2:=u.2.2.1.cell (i:=0) rfl;have q3:=u.2.2.1.cell (i:=1) rfl;have q4:=u.2.2.2.cell (i:=1) rfl;go_simp;rfl) ?_;refine aD 11 rfl zk (fun _ _ _ h=>h) hS (ax rfl fun w' u=>by have q:=u.1.cell (i:=0) rfl;have q1:=u.2.1.cell (i:=0) rfl;have q2:=u.2.2.1.cell (i:=0) rfl;have q3:=u.2.2.1.cell (i:=1) rfl;have q4:=u.2.2.2.cell (i:=1) rfl;go_simp;rfl) ?_;refine aD 12 rfl zk (fun _ _ _ h=>h) hS (ax rfl fun w' u=>by have q:=u.1.cell (i:=0) rfl;have q1:=u.2.1.cell (i:=0) rfl;have q2:=u.2.2.1.cell (i:=0) rfl;have q3:=u.2.2.1.cell (i:=1) rfl;have q4:=u.2.2.2.cell (i:=1) rfl;go_simp;rfl) ?_;refine aD 13 rfl zk (fun _ _ _ h=>h) hS (ax rfl fun w' u=>by have q:=u.1.cell (i:=0) rfl;have q1:=u.2.1.cell (i:=0) rfl;have q2:=u.2.2.1.cell (i:=0) rfl;have q3:=u.2.2.1.cell (i:=1) rfl;have q4:=u.2.2.2.cell (i:=1) rfl;go_simp;rfl) ?_;refine aD 14 rfl zk (fun _ _ _ h=>h) hS (ax rfl fun w' u=>by have q:=u.1.cell (i:=0) rfl;have q1:=u.2.1.cell (i:=0) rfl;have q2:=u.2.2.1.cell (i:=0) rfl;have q3:=u.2.2.1.cell (i:=1) rfl;have q4:=u.2.2.2.cell (i:=1) rfl;go_simp;rfl) ?_;refine aD 15 rfl zk (fun _ _ _ h=>h) hS (ax rfl fun w' u=>by have q:=u.1.cell (i:=0) rfl;have q1:=u.2.1.cell (i:=0) rfl;have q2:=u.2.2.1.cell (i:=0) rfl;have q3:=u.2.2.1.cell (i:=1) rfl;have q4:=u.2.2.2.cell (i:=1) rfl;go_simp;rfl) ?_;refine aQ 10 zk (aJ rfl rfl (dE qem (PP (.slice xa K.length xc) K I c mk _ (Mem_inn_le q' F.ay) D'.o.1 zo zo) ?_));rintro e w7 ⟨rfl,hb7⟩;have G:=F.aS hb7;refine⟨_,rfl,iq (k' G zS zS zS zS) fun _=>?_⟩;go_simp;refine aQ 16 zk (aJ rfl rfl (dE qem (PP (.slice ya J.length yc) J H c mk _ (Mem_inn_le q' G.ay) D'.o.2 zo zo) ?_));rintro e w8 ⟨rfl,hb8⟩;have M:=G.aS hb8;refine⟨_,rfl,iq (k' M zS zS zS zS) fun _=>?_⟩;go_simp;have hrA:=nz HG.o.1.wf I c;have hrB:=nz HG.o.2.1.wf H c;have hps:lK K J (I,H) c=(bX K I c,bX J H c):=rfl;have hpr:(-1<=(lK K J (I,H) c).1/\(lK K J (I,H) c).1<=K.length)/\(-1<=(lK K J (I,H) c).2/\(lK K J (I,H) c).2<=J.length):=by
      rw[hps];exact qdA
     have f':=HC.o.2.1.add hpr;have hpk:∀q∈l',NY q:=fun q hq=>by
      have:=HC.o.2.1.iZ q hq;exact⟨zo,zo,zo,zo⟩
     have hgt:=Qd l' (lK K J (I,H) c);have hpre:=Qc l' (lK K J (I,H) c);have hcs:=(HC.o.1.mono hpre).seg (h:=c) (zI _) R' hgt (fun b h1 h2=>by rw[show b=c by omega]);have x':(jF l' (lK K J (I,H) c))[k]?=some (I,H):=by
      obtain⟨x,hx⟩:=hpre;rw[<-hx,yK (yB.1 HC.o.2.2.1).1];exact HC.o.2.2.1
     have hpno:=EG l' (lK K J (I,H) c);refine aQ 17 zk (aJ rfl rfl (aO qdT (iq (k' M zS zS zS zS) fun _=>?_)));go_simp;have hq:=(M.TI (l₁:=[_,_,_,_,_,_])).TI (l₁:=[_,_,_,_,_,_]);refine aQ 18 zk (aJ rfl rfl (dE qem (TV (N+1) (.slice G' l'.length F') l' (lK K J (I,H) c) w w8 m mk' _ hq ⟨zo,zo,zo,zo⟩ hpk zo) ?_));rintro e w9 ⟨y',rfl,hq2⟩;have O:=(hq2.NE (l₁:=[_,_,_,_,_,_])).NE (l₁:=[_,_,_,_,_,_]);simp only[xK,xN]at O;refine⟨_,rfl,iq (k' O zS zS zS zS) fun _=>?_⟩;generalize mI l' (lK K J (I,H) c)=t at*
     generalize jF l' (lK K J (I,H) c)=l2 at*
     clear hq hq2 M G hb7 hb8;go_simp;refine aQ 19 zk (aJ rfl rfl (aO qdT (iq (k' O zS zS zS zS) fun _=>?_)));go_simp;have b':=O.al #[.int .u8 c,.int .u8 0,.int .i64 t] 102;refine aQ 20 zk (aJ rfl rfl (aO qdT (iq (k' b' zS zS zS zS) fun _=>?_)));go_simp;refine aQ 21 zk (aJ rfl rfl (gq Dc (.tmp 61) (.tmp 80) rfl (.slice h' es.length g') es.length (fG es) rfl b'.av.row ⟨w9.heap.size,0,none⟩ 1 1 [.int .u8 c,.int .u8 0,.int .i64 t] rfl rfl (b'.obj.dF rfl) qdS qdR zo (fun na' nc' w10 a' T Z=>?_)));have hO7:=(b'.av.app a' T Z (zI _)).bK;refine iq (k' hO7 zS zS zS zS) fun hS3=>?_;go_simp;refine aQ 22 zk (aJ rfl rfl (aO qdT (iq hS3 fun _=>?_)));go_simp;have f3:=hS3.2.2.2.frozen 1;have c3:=hS3.2.2.2.cell (i:=1) rfl;have hO8:=((hO7.aP.set 1 (.slice na' (es.length+1) nc')).av).aP.av;refine aQ 23 zk (aJ rfl rfl (bT zg (jJ rfl ?_)));refine eP zk ?_ _;have Q:=zh (zi hO8 hcs);clear hO8 hO7 b' O F hS hS3 f3 c3 a' T Z hcs;refine hV.o _ _ rfl ⟨l2,y',.slice na' (es.length+1) nc',es,⟨c,0,t⟩,rfl,?_,Q.o.2,f',x'⟩;have:=Q.o.1;simpa [lS]using this
   rintro z3 vs w7-⟨l2,y',ve2,fs,e,rfl,F,r',f',x'⟩;simp[bB,lk];obtain⟨vea2,vec2,rfl⟩:=bz F.row;obtain⟨eb,rfl⟩:=rA F.row zo;have hwu:IntKind.u8.wrap (c:Int)=(c:Int):=IntWalk.u8_in _ zo;have s1:=F.aP.obj.c 1;have s2:=F.aP.obj.lt;have y1:=bL F.row (ezH (fs++[e]) fs.length zS).2.1;have y2:=fI F.row (fs.length*3+1);have y3:=(World.ownsRow.lt F.row _ rfl).2;have hlt5:fs.length<fs.length+1:=zo;have hfl:fs.length+1<=256:=by have:=(r'.ok (by have:=vg f'.nodup f'.iZ;omega)).2;simpa using this
   have b':=F.setRow (fs.length*3+1) (.int .u8 c);rw[Gc]at b';have Q:=zh (zi b' (zi r' (zi f' x')));clear b' F r' f' x';go_wp2;refine hY.o _ _ _ zo rfl ⟨c+1,l2,y',.slice (some ⟨eb,0,none⟩) (fs.length+1) vec2,fs++[⟨e.lo,c,e.to⟩],zo,rfl,rfl,?_,Q.o.2.1,Q.o.2.2.1,Q.o.2.2.2⟩;have:=Q.o.1;exact qbi
  .obtain rfl:c=256:=zo;have hPIn:=HC.o.2.1.push (p:=(I,H)) (by rw[HP.o.2.1];exact HC.o.2.2.1) HC.o.1;have hes:=nW (l:=es) (m:=mk') F.row HC.o.2.2.2;have Q':=Mem_le_addv (w:=w6) F.free;have K':=(L'.mono Q').push (s:=⟨f (bI K I) (bI J H),es⟩) hes;have G:=F.bO;have s0:=G.av.obj.c 0;have s1:=G.av.obj.c 1;have sl:=G.av.obj.lt;obtain⟨voa,voc,rfl⟩:=bz (G.CE (v:=vo) (t:=105) (size:=2) (n:=k) (xs:=xs) zS);have M:=G.al #[.bool (f (bI K I) (bI J H)),.slice h' es.length g'] 105;have O:=M.TI (l₁:=[_,_,_,_]);have hvr:=O.row;have P':=M.obj.dF rfl;have Hk:=zh (zi K' (zi (Mem.le_trans q' Q') hPIn));clear K' hes Q' G F hPIn M;generalize mk'.iH w6 (.slice h' es.length g')=mk2 at*
   go_wp2_with (at_builtin;refine aT q9 rfl (.tmp 94) (.tmp 96) rfl (.slice voa k voc) k xs rfl hvr ⟨w6.heap.size,0,none⟩ 1 1 [.bool (f (bI K I) (bI J H)),.slice h' es.length g'] rfl rfl P' qdS qdR zo ?_)
   intro xa' xc' w7 a' T Z;have s':=(O.app a' T Z zS).bK.bK.bK.bK;have HO5:=zh s';clear a' T Z O s' hvr P';go_wp2;refine hX.o _ _ _ zo rfl ⟨k+1,l',out++[⟨f (bI K I) (bI J H),es⟩],.slice G' l'.length F',.slice xa' (k+1) xc',_,mk2,rfl,rfl,HO5.o,Hk.o.1,Hk.o.2.1,Hk.o.2.2,?_⟩;rw[zL,HP.o.2.1];rfl
 .have hkl2:k=l.length:=zo;have T':=U.done hff zo;obtain⟨voa,voc,rfl⟩:=bz F.row;have z':=kM (l:=out) (m:=mk') (by rw[O'];exact F.row) L' F.free;have G:=F.bO;have hml:m.le (mk'.iH wr (.slice voa k voc)):=Mem.le_trans F.ext.le (Mem_le_addv F.free);have HM:=zh (tL (.slice voa k voc) out _ wr G.ay (H'.le hml) z' zo);have W:=zh G;have HD:=zh (zi T' O');clear G z' hml F T' O' hob U L' hkl2
  go_wp2_with fail
  refine HM.o.mono ?_;rintro e w2 ⟨r,C,rfl,hb2,z',V',hmin,hnot⟩;have hwf:=HD.o.1.1;rw[aM hwf];obtain⟨ra,rc,rfl⟩:∃ra rc,r=.slice ra C.length rc:=by obtain⟨x,y,e,-⟩:=z';exact⟨x,y,e⟩
  have M:=W.o.call hb2;have O:=(M.TI (l₁:=[_,_])).al #[.slice ra C.length rc] 27;have g1:=O.av.obj.c 0;have g2:=O.av.obj.frozen 0;have g3:=O.av.obj.lt;have s':=O.av.set 0 (.slice ra C.length rc);have g4:=s'.obj.c 0;have hfin:=aX s'.done z';have Hk:=zh (zi s'.az (zi hfin (zi (hmin hwf) V')));clear s' O M hfin hmin hnot z' V' W hwf;go_wp2;refine yV (v:=.agg #[.slice ra C.length rc]) (by simp[results,results64,go_sem,g4]) rfl ?_;refine hR.o _ _ ⟨_,C,rfl,Hk.o.1,Hk.o.2.1,⟨Hk.o.2.2.1.canon,fun x=>?_⟩,?_⟩
  .rw[Hk.o.2.2.1.qw,HD.o.1.2.2.2.2,HG.o.2.2.1,HG.o.2.2.2]
  .have h1:=Hk.o.2.2.2;have h2:=HD.o.2;omega
theorem yw(l:aK):dw (Sem l) (cO l):=by
 refine⟨nK l,fun x=>?_⟩;unfold cO Sem;by_cases h:cB l
 .simp[aM h]
 .simp[aF h];exact hzR x
theorem AL(x:List UInt8):Sem [] x=false:=by rw[dn eD];exact hzR x
theorem F5(l:aK):∀s∈cO l,s.bv.length<=1000000:=fun s a=>by
 have:=Xk (nK l).wf (nK l).bytes s a;omega
structure Fits (A B:aK):Prop where
 mul:(A.length+2)*(B.length+2)<=1000000
 a:A.length<=1000000
 b:B.length<=1000000
theorem Fits.of{A B:aK}{x y:Nat}(b:A.length<=x)(a:B.length<=y)(h:(x+2)*(y+2)<=1000000):Fits A B:=by
 have e:(A.length+2)*(B.length+2)<=(x+2)*(y+2):=xV zo zo;have d:A.length+2<=(A.length+2)*(B.length+2):=Nat.le_mul_of_pos_right _ zo;have c:B.length+2<=(A.length+2)*(B.length+2):=Nat.le_mul_of_pos_left _ zo;exact⟨zo,zo,zo⟩
theorem F4(l n:zV)(A B:aK)(m:Mem)(w:zW)(J:m.ay w)(p:dV m)(G:aU m l A)(F:aU m n B)(D:Fits A B):
 zC 45 #[.agg #[l],.agg #[n]] w fun e w'=>∃r C,e=.returned (.agg #[r])/\zB w w'/\aU (m.grow w w') r C /\
  dw (fun x=>Sem A x&&Sem B x) C/\C.length<=(A.length+2)*(B.length+2)+1:=by
 have u:=(((Own.start J).al #[l] 27).al #[n] 27).al #[.slice none 0 0] 27;have i:(w.alloc (.cells #[l] 27)).heap.size=w.heap.size+1:=by simp
 have g:((w.alloc (.cells #[l] 27)).alloc (.cells #[n] 27)).heap.size=w.heap.size+2:=by simp
 rw[g,i]at u;have I:=zh (xg 65 (fun x y=>x&&y) czs rfl (zh fun x y w=>by go_simp) l n A B m _ u.ay p G F D.mul D.a D.b);have HO:=zh u;obtain⟨va,T,rfl,Y,P,O⟩:=G;obtain⟨U,S,rfl,X,N,M⟩:=F;unfold maxLen at P N;clear u i g O M;refine au fun R hR=>?_;by_cases f:A.length=0\/B.length=0
 .have z:dw (fun x=>Sem A x&&Sem B x) []:=Jk.congr fun x=>by
   rcases f with h|h
   .rw[yM h,AL];rfl
   .rw[yM h,AL];cases Sem A x<;>rfl
  have Hl:=zh z;by_cases E:A.length=0
  .have j:((A.length:Int)==0)=true:=by simp[E]
   have L:=HO.o.obj.c 0;clear z f E
   go_enter func45,ntmps45
   exact qhi
  .have H:B.length=0:=zo;have j:((A.length:Int)==0)=false:=zO.2 zo;have k:((B.length:Int)==0)=true:=by simp[H]
   clear z f E H
   go_enter func45,ntmps45
   exact qhi
 .have j:((A.length:Int)==0)=false:=zO.2 zo;have k:((B.length:Int)==0)=false:=zO.2 zo;clear f
  go_enter func45,ntmps45
  go_wp2_with fail
  refine I.o.mono ?_;rintro e Q ⟨r,C,rfl,q,hst,hlang,hClen⟩;have d:=HO.o.call q;obtain⟨t,s,rfl⟩:∃t s,r=.slice t C.length s:=by obtain⟨x,y,e,-⟩:=hst;exact⟨x,y,e⟩
  have L:=d.obj.c 0;have W:=d.obj.frozen 0;have V:=d.obj.lt;have hO2:=d.set 0 (.slice t C.length s);have K:=hO2.obj.c 0;have Hk:=zh qiF;clear hO2 d hst hlang hClen I HO q;go_wp2;refine yV (v:=.agg #[.slice t C.length s]) (by simp[results,results45,go_sem,K]) rfl ?_;exact qbJ
theorem Ck(E H:zV)(A B:aK)(m:Mem)(w:zW)(Z:m.ay w)(j:dV m)(P:aU m E A)(O:aU m H B)(q:Fits A B):
 zC 124 #[.agg #[E],.agg #[H]] w fun e w'=>∃r C,e=.returned (.agg #[r])/\zB w w'/\aU (m.grow w w') r C /\
  dw (fun x=>(Sem A x||Sem B x)) C/\C.length<=(A.length+2)*(B.length+2)+1:=by
 have J:=(((Own.start Z).al #[E] 27).al #[H] 27).al #[.slice none 0 0] 27;have D:(w.alloc (.cells #[E] 27)).heap.size=w.heap.size+1:=by simp
 have z:((w.alloc (.cells #[E] 27)).alloc (.cells #[H] 27)).heap.size=w.heap.size+2:=by simp
 rw[z,D]at J;have N:=zh (xg 165 (fun x y=>(x||y)) dz1 rfl (zh fun x y w=>by go_simp) E H A B m _ J.ay j P O q.mul q.a q.b);have u:=zh (nV E A m _ J.ay j P q.a);have t:=zh (nV H B m _ J.ay j O q.b);have M:=zh (fun l r mk w (h:mk.ay w) (I:l.length<=1000000) (hst:aU mk r (cO l))=>JS r (cO l) mk w h hst (by have:=kr l;omega) (F5 l));have K:=zh J;have c':=q.mul;have e':=q.a;have d':=q.b;have b':=kr A;have a':=kr B;have Y:A.length+2<=(A.length+2)*(B.length+2):=Nat.le_mul_of_pos_right _ zo;have X:B.length+2<=(A.length+2)*(B.length+2):=Nat.le_mul_of_pos_left _ zo;obtain⟨va,vc,rfl,a1,a2,a3⟩:=P;obtain⟨vb,vd,rfl,b1,b2,b3⟩:=O;unfold maxLen at a2 b2;clear J D z a3 b3 q;refine au fun R hR=>?_;by_cases n:A.length=0
 .have I:dw (fun x=>(Sem A x||Sem B x)) (cO B):=(yw B).congr fun x=>by
   rw[yM n,AL];cases Sem B x<;>rfl
  have Q:=zh I;have L:((A.length:Int)==0)=true:=by simp[n]
  clear I n
  go_enter func124,ntmps124
  go_wp2_with fail
  refine t.o.mono ?_;rintro e S ⟨r,rfl,i,hst⟩;have d:=K.o.call i;obtain⟨g,f,rfl⟩:∃g f,r=.slice g (cO B).length f:=by obtain⟨x,y,e,-⟩:=hst;exact⟨x,y,e⟩
  have G:=zh (M.o B _ _ _ d.ay zo hst);have p:=zh d;clear d M u t K i hst
  go_wp2_with fail
  refine G.o.mono ?_;rintro e W ⟨r,rfl,k,hst⟩;have d:=p.o.call k;obtain⟨g,f,rfl⟩:∃g f,r=.slice g (cO B).length f:=by obtain⟨x,y,e,-⟩:=hst;exact⟨x,y,e⟩
  have V:=d.obj.c 0;have U:=d.obj.frozen 0;have T:=d.obj.lt;have hO2:=d.set 0 (.slice g (cO B).length f);have g4:=hO2.obj.c 0;have Hk:=zh qiX;clear hO2 d hst N p k;go_wp2;refine yV (v:=.agg #[.slice g (cO B).length f]) qer rfl ?_;exact hR.o _ _ ⟨_,cO B,rfl,Hk.o.1,Hk.o.2,Q.o,zo⟩
 .have L:((A.length:Int)==0)=false:=zO.2 zo;by_cases s:B.length=0
  .have I:dw (fun x=>(Sem A x||Sem B x)) (cO A):=(yw A).congr fun x=>by
    rw[yM s,AL];cases Sem A x<;>rfl
   have Q:=zh I;have F:((B.length:Int)==0)=true:=by simp[s]
   clear I n s
   go_enter func124,ntmps124
   go_wp2_with fail
   refine u.o.mono ?_;rintro e S ⟨r,rfl,i,hst⟩;have d:=K.o.call i;obtain⟨g,f,rfl⟩:∃g f,r=.slice g (cO A).length f:=by obtain⟨x,y,e,-⟩:=hst;exact⟨x,y,e⟩
   have G:=zh (M.o A _ _ _ d.ay zo hst);have p:=zh d;clear d M u t K i hst
   go_wp2_with fail
   refine G.o.mono ?_;rintro e W ⟨r,rfl,k,hst⟩;have d:=p.o.call k;obtain⟨g,f,rfl⟩:∃g f,r=.slice g (cO A).length f:=by obtain⟨x,y,e,-⟩:=hst;exact⟨x,y,e⟩
   have V:=d.obj.c 0;have U:=d.obj.frozen 0;have T:=d.obj.lt;have hO2:=d.set 0 (.slice g (cO A).length f);have g4:=hO2.obj.c 0;have Hk:=zh qiX;clear hO2 d hst N p k;go_wp2;refine yV (v:=.agg #[.slice g (cO A).length f]) qer rfl ?_;exact hR.o _ _ ⟨_,cO A,rfl,Hk.o.1,Hk.o.2,Q.o,zo⟩
  .have F:((B.length:Int)==0)=false:=zO.2 zo;clear n s M u t
   go_enter func124,ntmps124
   go_wp2_with fail
   refine N.o.mono ?_;rintro e S ⟨r,C,rfl,i,hst,hlang,hClen⟩;have d:=K.o.call i;obtain⟨g,f,rfl⟩:∃g f,r=.slice g C.length f:=by obtain⟨x,y,e,-⟩:=hst;exact⟨x,y,e⟩
   have V:=d.obj.c 0;have U:=d.obj.frozen 0;have T:=d.obj.lt;have hO2:=d.set 0 (.slice g C.length f);have g4:=hO2.obj.c 0;have Hk:=zh qiF;clear hO2 d hst hlang hClen N K i;go_wp2;refine yV (v:=.agg #[.slice g C.length f]) qer rfl ?_;exact qbJ
theorem pF(t D:zV)(A B:aK)(m:Mem)(w:zW)(W:m.ay w)(i:dV m)(M:aU m t A)(L:aU m D B)(n:Fits A B):
 zC 90 #[.agg #[t],.agg #[D]] w fun e w'=>∃r C,e=.returned (.agg #[r])/\zB w w'/\aU (m.grow w w') r C /\
  dw (fun x=>(Sem A x && !Sem B x)) C/\C.length<=(A.length+2)*(B.length+2)+1:=by
 have F:=(((Own.start W).al #[t] 27).al #[D] 27).al #[.slice none 0 0] 27;have s:(w.alloc (.cells #[t] 27)).heap.size=w.heap.size+1:=by simp
 have q:((w.alloc (.cells #[t] 27)).alloc (.cells #[D] 27)).heap.size=w.heap.size+2:=by simp
 rw[q,s]at F;have O:=zh (xg 139 (fun x y=>(x && !y)) VN rfl (zh fun x y w=>by go_simp) t D A B m _ F.ay i M L n.mul n.a n.b);have z:=zh (nV t A m _ F.ay i M n.a);have K:=zh (nV D B m _ F.ay i L n.b);have Q:=zh (fun l r mk w (h:mk.ay w) (E:l.length<=1000000) (hst:aU mk r (cO l))=>JS r (cO l) mk w h hst (by have:=kr l;omega) (F5 l));have G:=zh F;have Z:=n.mul;have b':=n.a;have a':=n.b;have Y:=kr A;have X:=kr B;have V:A.length+2<=(A.length+2)*(B.length+2):=Nat.le_mul_of_pos_right _ zo;have U:B.length+2<=(A.length+2)*(B.length+2):=Nat.le_mul_of_pos_left _ zo;obtain⟨va,vc,rfl,a1,a2,a3⟩:=M;obtain⟨vb,vd,rfl,b1,b2,b3⟩:=L;unfold maxLen at a2 b2;clear F s q a3 b3 n;refine au fun R hR=>?_;by_cases k:A.length=0
 .have E:dw (fun x=>(Sem A x && !Sem B x)) []:=Jk.congr fun x=>by
   rw[yM k,AL];rfl
  have N:=zh E;have H:((A.length:Int)==0)=true:=by simp[k]
  have S:=G.o.obj.c 0;clear E k
  go_enter func90,ntmps90
  go_wp2;refine yV (v:=.agg #[.slice none 0 0]) (by simp[results,results90,go_sem]) rfl ?_;exact hR.o _ _ ⟨_,[],rfl,G.o.az,dJ _,N.o,zS⟩
 .have H:((A.length:Int)==0)=false:=zO.2 zo;by_cases p:B.length=0
  .have E:dw (fun x=>(Sem A x && !Sem B x)) (cO A):=(yw A).congr fun x=>by
    rw[yM p,AL];cases Sem A x<;>rfl
   have N:=zh E;have u:((B.length:Int)==0)=true:=by simp[p]
   clear E k p
   go_enter func90,ntmps90
   go_wp2_with fail
   refine z.o.mono ?_;rintro e T ⟨r,rfl,j,hst⟩;have d:=G.o.call j;obtain⟨g,f,rfl⟩:∃g f,r=.slice g (cO A).length f:=by obtain⟨x,y,e,-⟩:=hst;exact⟨x,y,e⟩
   have P:=zh (Q.o A _ _ _ d.ay zo hst);have J:=zh d;clear d Q z K G j hst
   go_wp2_with fail
   refine P.o.mono ?_;rintro e w2 ⟨r,rfl,I,hst⟩;have d:=J.o.call I;obtain⟨g,f,rfl⟩:∃g f,r=.slice g (cO A).length f:=by obtain⟨x,y,e,-⟩:=hst;exact⟨x,y,e⟩
   have S:=d.obj.c 0;have g2:=d.obj.frozen 0;have g3:=d.obj.lt;have hO2:=d.set 0 (.slice g (cO A).length f);have g4:=hO2.obj.c 0;have Hk:=zh qiX;clear hO2 d hst O J I;go_wp2;refine yV (v:=.agg #[.slice g (cO A).length f]) qe0 rfl ?_;exact hR.o _ _ ⟨_,cO A,rfl,Hk.o.1,Hk.o.2,N.o,zo⟩
  .have u:((B.length:Int)==0)=false:=zO.2 zo;clear k p Q z K
   go_enter func90,ntmps90
   go_wp2_with fail
   refine O.o.mono ?_;rintro e T ⟨r,C,rfl,j,hst,hlang,hClen⟩;have d:=G.o.call j;obtain⟨g,f,rfl⟩:∃g f,r=.slice g C.length f:=by obtain⟨x,y,e,-⟩:=hst;exact⟨x,y,e⟩
   have S:=d.obj.c 0;have g2:=d.obj.frozen 0;have g3:=d.obj.lt;have hO2:=d.set 0 (.slice g C.length f);have g4:=hO2.obj.c 0;have Hk:=zh qiF;clear hO2 d hst hlang hClen O G j;go_wp2;refine yV (v:=.agg #[.slice g C.length f]) qe0 rfl ?_;exact qbJ
theorem W9:dw (fun _=>true) allT:=by
 have g:∀w,aH allT 0 w=true:=by
  intro w
  induction w with
  |nil=>rfl
  |cons b w ih=>
   have n:=b.toNat_lt;have:bX allT 0 b.toNat=0:=by
    show bE [(⟨0,255,0⟩:Ed)] b.toNat=0;simp only[bE];rw[zK ⟨zG _,zo⟩]
   simp only[aH,this,ih]
 have ht:∀(k b t:Nat),bX allT k b=t->t=0:=by
  intro k b t h;by_cases hk:k<1
  .obtain rfl:k=0:=zo;have c:bE [(⟨0,255,0⟩:Ed)] b=t:=h;simp only[bE]at c
   split at c<;>omega
  .rw[gX allT k b (by simp[allT];omega)]at h;omega
 refine⟨⟨?_,?_,?_,?_,?_,?_,?_⟩,g⟩
 .intro s a;simp only[allT,zZ]at a;subst a;exact⟨zG _,zS,by simp[allT],zS,trivial⟩
 .intro s a e d;simp only[allT,zZ]at a;subst a;simp only[zZ]at d;subst d;exact⟨zS,zS⟩
 .intro s a;simp only[allT,zZ]at a;subst a;trivial
 .intro k hk;obtain rfl:k=0:=by simp[allT]at hk;exact hk
  exact⟨[],g []⟩
 .intro i j hi l _;simp[allT]at hi l;omega
 .intro k b t _ h m c f;have:=ht k b t h;omega
 .intro t c f;simp[allT]at f;omega
theorem Sc(x:List UInt8):Sem allT x=true:=W9.Ir x
theorem kK:oG prog 33 9:=⟨Tryz.isAgg33,Tryz.sizeOf33⟩
theorem dU:oG prog 35 18:=⟨Tryz.isAgg35,Tryz.sizeOf35⟩
theorem uh:oG prog 82 20:=⟨Tryz.isAgg82,Tryz.sizeOf82⟩
theorem sw:oG prog 68 19:=⟨Tryz.isAgg68,Tryz.sizeOf68⟩
theorem wQ:oG prog 29 6:=⟨Tryz.isAgg29,Tryz.sizeOf29⟩
theorem uU(v:Vl)(s:Sl)(m:Mem)(n:Nat)(w:zW)(D:m.ay w)(x:bq m n s v):
 zX 25 #[v.val s] w (bP (v,v) s s):=by
 have q:=(Own.start D).al (bu v s).toArray 33;have t:=fZ (d:=(v,v)) x x;unfold Vl.val bP;rw[show dC (v,v) s s=bu v s++bu v s from rfl]at*
 have r:∃k j i h g f c b a,bu v s=[k,j,i,h,g,f,c,b,a]:=⟨_,_,_,_,_,_,_,_,_,rfl⟩;obtain⟨k,j,i,h,g,f,c,b,a,r⟩:=r;rw[r]at q t⊢;have A:=zh (fun o=>((q.al' o).jP (yF ..)).all);have p:=q.al oz 35;simp only[bC]at p;have l:=zh (zi p t);clear q t r p;refine au fun R E=>?_
 go_enter func25,ntmps25
 go_wp2_with (first
  |refine aj kK rfl (.tmp 1) rfl rfl [k,j,i,h,g,f,c,b,a] rfl (A.o _) ?_
  | refine aB dU rfl (.tmp 2) (.tmp 5) rfl (cs:=#[k,j,i,h,g,f,c,b,a,k,j,i,h,g,f,c,b,a]) rfl rfl rfl rfl (fun u B=>l.o.2 u B) l.o.1.obj ?_)
 intro w' y z;have F:=zh (l.o.1.aW y z);have C:=dU.load (cs:=[k,j,i,h,g,f,c,b,a,k,j,i,h,g,f,c,b,a]) rfl y.all;clear l z A;go_wp2;refine yV (v:=.agg #[k,j,i,h,g,f,c,b,a,k,j,i,h,g,f,c,b,a]) (kC results25 rfl C) rfl ?_;exact E.o _ _ ⟨rfl,F.o.az⟩
theorem Td(w:zW):
 zX 12 #[] w (bP (fE,fE) dR dR):=by
 have f:=(Own.start qfF).al oz 35;have h:=zh (uU fE dR (Mem.of w) 1 _ f.ay (bq.leaf _ true));have m:=fZ (d:=(fE,fE)) (bq.leaf (Mem.of w) true) (bq.leaf (Mem.of w) true);have i:=zh f;clear f;unfold bP at*
 have hl:(dC (fE,fE) dR dR).length=18:=rfl;generalize dC (fE,fE) dR dR=N at*
 refine au fun R l=>?_
 go_enter func12,ntmps12
 go_wp2_with fail
 refine h.o.mono ?_;rintro e p ⟨rfl,b⟩;have a:=zh (i.o.aS b);clear i h b
 go_wp2_with (refine aB dU rfl (.tmp 0) (.tmp 2) rfl (cs:=N.toArray) rfl rfl rfl qdY (fun u j=>m u j) a.o.obj ?_)
 intro w' c g;have n:=zh (a.o.aW c g);have k:=dU.load hl c.all;clear a g c;go_wp2;exact yV (v:=.agg N.toArray) (kC results12 rfl k) rfl (l.o _ _ ⟨rfl,n.o.az⟩)
theorem FQ:oG prog 50 2:=⟨Tryz.isAgg50,Tryz.sizeOf50⟩
theorem Et:oG prog 62 2:=⟨Tryz.isAgg62,Tryz.sizeOf62⟩
theorem ezf{α:Type}(C:α->α->Int)(A:Nat->Nat->α->Prop)(Rp:List Value->α->Prop)(v v':zV)(l l':List α)(m:Mem)(w:zW)(hm:m.ay w)
(hA:∀b o x,A b o x->∃cs:List Value,cs.length=2/\(∀j u,cs[j]?=some u->m.cell b (o+j)=some u)/\(∀u∈cs,u.oneCell'=true)/\Rp cs x)
(hc:∀cs d x x' w',m.ay w'->Rp cs x->Rp d x'->zC 225 #[.agg cs.toArray,.agg d.toArray] w' fun e Z=>e=.returned (.int .i64 (C x x'))/\Below w'.heap.size w' Z)
(hl:Mem.slice A 2 v l)(d':Mem.slice A 2 v' l'):
 zX 224 #[v,v',.func (.func 225) #[] #[]] w (.int .i64 (eO C l l')):=by
 obtain⟨a,c,rfl,h1,h2,h3⟩:=hl;obtain⟨a',c',rfl,D',f',Q⟩:=d';unfold maxLen at h2 f';have HK:=zh (zi h3 Q);have HA:=zh (zi hA hc);have HO:=zh (Own.start hm);clear h3 Q hA hc;refine au fun R hR=>?_
 go_enter func224,ntmps224
 go_wp2;refine aC [0,1,2,11,12,13] (fun n vs wr=>∃k:Nat,k<=l.length/\n=l.length-k/\vs=[.slice a l.length c,.slice a' l'.length c',.func (.func 225) #[] #[],.slice a l.length c,.int .i64 l.length,.int .i64 k]/\eO C l l'=eO C (l.drop k) (l'.drop k)/\Own w m wr m []) ?_ ?_
 .exact qbx
 clear HO;rintro X z n vs wr hX-⟨k,hk,rfl,rfl,y,B⟩;have f:=zh y;clear y;simp[bB,lk];by_cases hlt:k<l.length
 case neg=>
  obtain rfl:k=l.length:=zo;have HL:=zh (f.o.trans qiP);have HB:=zh B.az;clear B hX f;by_cases hs:l.length<l'.length
  .have HL2:=zh (show eO C l l' = -1 by rw[HL.o,zK hs]);exact qan
  .have HL2:=zh (show eO C l l'=0 by rw[HL.o,zJ hs]);exact qan
 obtain⟨b,off,rfl,h4⟩:=HK.o.1 qdP;obtain⟨cs,hl1,s,q,F⟩:=HA.o.1 _ _ _ (h4 k hlt);have t:=B.al #[.slice none 0 0,.slice none 0 0] 50;have J:=zh (fun(w':zW) (h:m.ay w') j u hj=>Mem_cell_w h (s j u hj));have E:=s 0 (cs[0]'zo) (yH _);have u':=Mem_cell_lt B.ay E;have G:=B.ay;by_cases hlt':k<l'.length
 case neg=>
  have HL2:=zh (show eO C l l'=1 from f.o.trans qiQ);have HO:=zh t;have K:=zh q;clear B t h4 s q F E f hX;generalize l[k]=x at*
  go_wp2_with (first
   |refine aj FQ rfl (.tmp 16) rfl rfl cs hl1 (J.o _ G) ?_
   | (refine aB FQ rfl (.tmp 8) (.tmp 17) rfl (cs:=cs.toArray) rfl rfl rfl qd0 (fun u hu=>K.o u qdQ) HO.o.obj ?_;intro w1 i p;have HO2:=zh (HO.o.aW i p)))
  exact qg8
 obtain⟨b',m',rfl,P⟩:=HK.o.2 qd1;obtain⟨d,hl2,I,N,M⟩:=HA.o.1 _ _ _ (P k hlt');have U:=zh (f.o.trans qiJ);have HC:=zh (fun w' (h:m.ay w')=>HA.o.2 cs d l[k] l'[k] w' h F M);have S:=zh (fun(w':zW) (h:m.ay w') j u hj=>Mem_cell_w h (I j u hj));have L:=I 0 (d[0]'zo) (yH _);have t':=Mem_cell_lt B.ay L;have K:=zh (zi q N);have HO:=zh t;clear B t h4 P s I q N F M E L f;generalize C l[k] l'[k]=r at*
 by_cases T:r=0
 .subst T;have HL:=zh (show eO C l l'=eO C (l.drop (k+1)) (l'.drop (k+1)) from U.o);clear U
  go_wp2_with (first
   |refine aj FQ rfl (.tmp 16) rfl rfl cs hl1 (J.o _ G) ?_
   |(refine aB FQ rfl (.tmp 8) (.tmp 17) rfl (cs:=cs.toArray) rfl rfl rfl qd0 (fun u hu=>K.o.1 u qdQ) HO.o.obj ?_;intro w1 i p;have g:=(HO.o.aW i p).al #[.slice none 0 0,.slice none 0 0] 50;have Y:=g.av.obj.lt;have O:=g.tail.ay)
   |refine aj FQ rfl (.tmp 24) rfl rfl d hl2 (S.o _ (HO.o.aW i p).ay) ?_
   |(refine aB FQ rfl (.tmp 9) (.tmp 25) rfl (cs:=d.toArray) rfl rfl rfl qdZ (fun u hu=>K.o.2 u qdQ) g.obj ?_;intro w2 D H;have hO3:=g.aW D H;have W:=hO3.av.obj.all;have V:=hO3.obj.all)
   |refine aj FQ rfl (.tmp 8) rfl rfl cs hl1 W ?_
   |refine aj FQ rfl (.tmp 9) rfl rfl d hl2 V ?_
   | (go_at_call 225;refine(HC.o _ hO3.ay).mono ?_;rintro e w3 ⟨rfl,hb3⟩))
  exact qgQ
 .have hd:(r != 0)=true:=bne_iff_ne.2 T;have HL:=zh (show eO C l l'=r by rw[U.o,sI,zJ T]);clear U T hX
  go_wp2_with (first
   |refine aj FQ rfl (.tmp 16) rfl rfl cs hl1 (J.o _ G) ?_
   |(refine aB FQ rfl (.tmp 8) (.tmp 17) rfl (cs:=cs.toArray) rfl rfl rfl qd0 (fun u hu=>K.o.1 u qdQ) HO.o.obj ?_;intro w1 i p;have g:=(HO.o.aW i p).al #[.slice none 0 0,.slice none 0 0] 50;have Y:=g.av.obj.lt;have O:=g.tail.ay)
   |refine aj FQ rfl (.tmp 24) rfl rfl d hl2 (S.o _ (HO.o.aW i p).ay) ?_
   |(refine aB FQ rfl (.tmp 9) (.tmp 25) rfl (cs:=d.toArray) rfl rfl rfl qdZ (fun u hu=>K.o.2 u qdQ) g.obj ?_;intro w2 D H;have hO3:=g.aW D H;have W:=hO3.av.obj.all;have V:=hO3.obj.all)
   |refine aj FQ rfl (.tmp 8) rfl rfl cs hl1 W ?_
   |refine aj FQ rfl (.tmp 9) rfl rfl d hl2 V ?_
   | (go_at_call 225;refine(HC.o _ hO3.ay).mono ?_;rintro e w3 ⟨rfl,hb3⟩))
  exact qh6
theorem ezk{α:Type}(C:α->α->Int)(A:Nat->Nat->α->Prop)(Rp:List Value->α->Prop)(v v':zV)(l l':List α)(m:Mem)(w:zW)(hm:m.ay w)
(hA:∀b o x,A b o x->∃cs:List Value,cs.length=2/\(∀j u,cs[j]?=some u->m.cell b (o+j)=some u)/\(∀u∈cs,u.oneCell'=true)/\Rp cs x)
(hc:∀cs d x x' w',m.ay w'->Rp cs x->Rp d x'->zC 228 #[.agg cs.toArray,.agg d.toArray] w' fun e Z=>e=.returned (.int .i64 (C x x'))/\Below w'.heap.size w' Z)
(hl:Mem.slice A 2 v l)(d':Mem.slice A 2 v' l'):
 zX 227 #[v,v',.func (.func 228) #[] #[]] w (.int .i64 (eO C l l')):=by
 obtain⟨a,c,rfl,h1,h2,h3⟩:=hl;obtain⟨a',c',rfl,D',f',Q⟩:=d';unfold maxLen at h2 f';have HK:=zh (zi h3 Q);have HA:=zh (zi hA hc);have HO:=zh (Own.start hm);clear h3 Q hA hc;refine au fun R hR=>?_
 go_enter func227,ntmps227
 go_wp2;refine aC [0,1,2,11,12,13] (fun n vs wr=>∃k:Nat,k<=l.length/\n=l.length-k/\vs=[.slice a l.length c,.slice a' l'.length c',.func (.func 228) #[] #[],.slice a l.length c,.int .i64 l.length,.int .i64 k]/\eO C l l'=eO C (l.drop k) (l'.drop k)/\Own w m wr m []) ?_ ?_
 .exact qbx
 clear HO;rintro X z n vs wr hX-⟨k,hk,rfl,rfl,y,B⟩;have f:=zh y;clear y;simp[bB,lk];by_cases hlt:k<l.length
 case neg=>
  obtain rfl:k=l.length:=zo;have HL:=zh (f.o.trans qiP);have HB:=zh B.az;clear B hX f;by_cases hs:l.length<l'.length
  .have HL2:=zh (show eO C l l' = -1 by rw[HL.o,zK hs]);exact qan
  .have HL2:=zh (show eO C l l'=0 by rw[HL.o,zJ hs]);exact qan
 obtain⟨b,off,rfl,h4⟩:=HK.o.1 qdP;obtain⟨cs,hl1,s,q,F⟩:=HA.o.1 _ _ _ (h4 k hlt);have t:=B.al #[.slice none 0 0,.slice none 0 0] 62;have J:=zh (fun(w':zW) (h:m.ay w') j u hj=>Mem_cell_w h (s j u hj));have E:=s 0 (cs[0]'zo) (yH _);have u':=Mem_cell_lt B.ay E;have G:=B.ay;by_cases hlt':k<l'.length
 case neg=>
  have HL2:=zh (show eO C l l'=1 from f.o.trans qiQ);have HO:=zh t;have K:=zh q;clear B t h4 s q F E f hX;generalize l[k]=x at*
  go_wp2_with (first
   |refine aj Et rfl (.tmp 16) rfl rfl cs hl1 (J.o _ G) ?_
   | (refine aB Et rfl (.tmp 8) (.tmp 17) rfl (cs:=cs.toArray) rfl rfl rfl qd0 (fun u hu=>K.o u qdQ) HO.o.obj ?_;intro w1 i p;have HO2:=zh (HO.o.aW i p)))
  exact qg8
 obtain⟨b',m',rfl,P⟩:=HK.o.2 qd1;obtain⟨d,hl2,I,N,M⟩:=HA.o.1 _ _ _ (P k hlt');have U:=zh (f.o.trans qiJ);have HC:=zh (fun w' (h:m.ay w')=>HA.o.2 cs d l[k] l'[k] w' h F M);have S:=zh (fun(w':zW) (h:m.ay w') j u hj=>Mem_cell_w h (I j u hj));have L:=I 0 (d[0]'zo) (yH _);have t':=Mem_cell_lt B.ay L;have K:=zh (zi q N);have HO:=zh t;clear B t h4 P s I q N F M E L f;generalize C l[k] l'[k]=r at*
 by_cases T:r=0
 .subst T;have HL:=zh (show eO C l l'=eO C (l.drop (k+1)) (l'.drop (k+1)) from U.o);clear U
  go_wp2_with (first
   |refine aj Et rfl (.tmp 16) rfl rfl cs hl1 (J.o _ G) ?_
   |(refine aB Et rfl (.tmp 8) (.tmp 17) rfl (cs:=cs.toArray) rfl rfl rfl qd0 (fun u hu=>K.o.1 u qdQ) HO.o.obj ?_;intro w1 i p;have g:=(HO.o.aW i p).al #[.slice none 0 0,.slice none 0 0] 62;have Y:=g.av.obj.lt;have O:=g.tail.ay)
   |refine aj Et rfl (.tmp 24) rfl rfl d hl2 (S.o _ (HO.o.aW i p).ay) ?_
   |(refine aB Et rfl (.tmp 9) (.tmp 25) rfl (cs:=d.toArray) rfl rfl rfl qdZ (fun u hu=>K.o.2 u qdQ) g.obj ?_;intro w2 D H;have hO3:=g.aW D H;have W:=hO3.av.obj.all;have V:=hO3.obj.all)
   |refine aj Et rfl (.tmp 8) rfl rfl cs hl1 W ?_
   |refine aj Et rfl (.tmp 9) rfl rfl d hl2 V ?_
   | (go_at_call 228;refine(HC.o _ hO3.ay).mono ?_;rintro e w3 ⟨rfl,hb3⟩))
  exact qgQ
 .have hd:(r != 0)=true:=bne_iff_ne.2 T;have HL:=zh (show eO C l l'=r by rw[U.o,sI,zJ T]);clear U T hX
  go_wp2_with (first
   |refine aj Et rfl (.tmp 16) rfl rfl cs hl1 (J.o _ G) ?_
   |(refine aB Et rfl (.tmp 8) (.tmp 17) rfl (cs:=cs.toArray) rfl rfl rfl qd0 (fun u hu=>K.o.1 u qdQ) HO.o.obj ?_;intro w1 i p;have g:=(HO.o.aW i p).al #[.slice none 0 0,.slice none 0 0] 62;have Y:=g.av.obj.lt;have O:=g.tail.ay)
   |refine aj Et rfl (.tmp 24) rfl rfl d hl2 (S.o _ (HO.o.aW i p).ay) ?_
   |(refine aB Et rfl (.tmp 9) (.tmp 25) rfl (cs:=d.toArray) rfl rfl rfl qdZ (fun u hu=>K.o.2 u qdQ) g.obj ?_;intro w2 D H;have hO3:=g.aW D H;have W:=hO3.av.obj.all;have V:=hO3.obj.all)
   |refine aj Et rfl (.tmp 8) rfl rfl cs hl1 W ?_
   |refine aj Et rfl (.tmp 9) rfl rfl d hl2 V ?_
   | (go_at_call 228;refine(HC.o _ hO3.ay).mono ?_;rintro e w3 ⟨rfl,hb3⟩))
  exact qh6
end Cl
