/- Lemmas. -/
import Derived.Test.YtbbnjopkjbhpbaaGreatDoorPkT8
set_option maxRecDepth 99999
set_option maxHeartbeats 9999999
namespace Cl
open Go Go.RowKit Go.Proofs Tryz
theorem Oj{w w':zW}{m k mk:Mem}{g:Nat}{arr:Array Value}{j va:zV}{h i:List Value}{ls:List (List Int)}{l:aK}
(p:Own w m w' mk [.obj g 228 arr,.row va 4 1 (l.length+1) i,.row j 223 1 (l.length+1) h])
(c:i=(l.map (·.bW)++[false]).map Value.bool)
(n:qc mk h ls)(e:ls.length=l.length+1)(f:k.le mk):
 ∃lH,Own w m w' lH [.obj g 228 arr]/\k.le lH/\rY lH j ls/\jK lH va (l.map (·.bW)++[false]):=by
 have b:=p.av;have o:=nR (l:=l.map (·.bW)++[false]) (m:=mk) (by rw[<-c];simpa using b.row);have a:=b.bP.av;have d:=n.mono (czS (w:=w') b.free);have hi:=IE (l:=ls) (by rw[e];exact a.row) d a.free;exact⟨_,a.bP,Mem.le_trans (Mem.le_trans f (czS b.free)) (czS a.free),hi,mV (czS a.free) o⟩
theorem Ol(v0:zV)(l:aK)(m:Mem)(w:zW)(hm:m.az w)(hl:aV m v0 l)(H':WF l)(hlen:l.length<=1000000):
 zC 153 #[v0] w fun e w'=>∃g mk vc V va,e=.returned (.p g)/\Own w m w' mk [.obj g 228 #[vc,V,va,.slice none 0 0]] /\
  iT mk vc (dJ l 256)/\rY mk V (uu l (dJ l 256)++[(dJ l 256).map fun _=>(l.length:Int)])/\jK mk va (l.map (·.bW)++[false]):=by
 have K':=czI v0 l m w hm hl H';have hcle:=Ew l 256;have C':=De l 256;generalize dJ l 256=d at*
 obtain⟨a,c,rfl,h1,h2,h3⟩:=hl;unfold maxLen at h2;refine au fun R hR=>?_
 go_enter func153,ntmps153
 go_wp2_with fail
 refine K'.mono ?_;rintro e Q ⟨r,rfl,U',q'⟩;have Y':=(Own.start hm).call U';obtain⟨ca,cc,rfl,c2,c3,c4⟩:=q';have q':iT (m.grow w Q) (.slice ca d.length cc) d:=⟨ca,cc,rfl,c2,c3,c4⟩;have X':=((Y'.al #[.slice ca d.length cc,.slice none 0 0,.slice none 0 0,.slice none 0 0] 228));go_wp2;refine aB [0,3,4,20,21,22] (fun n vs F=>∃(k:Nat) (V va:zV) (xn:List Value) (mk:Mem),k<=l.length/\n=l.length-k/\vs=[.slice a l.length c,.p Q.heap.size,.j l.length,.slice a l.length c,.j l.length,.j k] /\
  Own w m F mk [.obj Q.heap.size 228 #[.slice ca d.length cc,V,va,.slice none 0 0],.row V 223 1 k xn,.row va 4 1 k (((l.take k).map (·.bW)).map Value.bool)] /\
  qc mk xn ((l.take k).map fun s=>qz l.length d s.bu)/\(m.grow w Q).le mk) ?_ ?_
 .refine⟨_,0,.n,.n,[],_,zG _,rfl,rfl,?_,qc.nil _,Mem.le_refl _⟩;exact((X'.fE 4 1).fE 223 1).aR
 rintro X z n vs F hX-⟨k,V,va,xn,mk,hk,rfl,rfl,hO,W,r'⟩;simp[bz,lk];have A':=bzw hO.ext.le hO.az;have hcr:=iK r' q';have q0:=hO.obj.c 0;have q1:=hO.obj.c 1;have q2:=hO.obj.c 2;have ql:=hO.obj.lt;by_cases hlt:k<l.length
 .obtain⟨b,off,rfl,h4⟩:=h3 qdJ;obtain⟨g1,ve,g2,ea,ec,rfl,g4,g5,g6⟩:=h4 k hlt;have hc1:=azk A' g1;have hc2:=azk A' g2;have hb:=bzu A' g1;have G':=H' l[k] (zF hlt);have l':=zh (zH hlt);generalize l[k]=s at*
  unfold maxLen at g5 c3;have D':=hO.al #[.bool s.bW,.slice ea s.bu.length ec] 105
  go_wp2_with (refine wpList_make_row ND rfl (.tmp 30) (.tmp 30) rfl d.length rfl rfl zo qdM ?_)
  intro w2 L D;have T:=D'.make (by simpa using L) D;rw[KU (AB l.length s.bu)]at T;clear L D;have hN:(F.alloc (.cells #[.bool s.bW,.slice ea s.bu.length ec] 105)).heap.size=F.heap.size+1:=by simp
  rw[hN]at T;clear hN;have p0:=T.aR.obj.c 0;have pl:=T.aR.obj.lt;go_wp2;refine aB [0,3,4,6,7,20,21,22,35,36,37] (fun n vs w3=>∃(i:Nat),i<=d.length/\n=d.length-i /\
   vs=[.slice (some ⟨b,off,none⟩) l.length c,.p Q.heap.size,.j l.length,.p F.heap.size,.slice (some ⟨F.heap.size+1,0,none⟩) d.length d.length,.slice (some ⟨b,off,none⟩) l.length c,.j l.length,.j k,.slice ca d.length cc,.j d.length,.j i] /\
   Own w m w3 mk [.row (.slice (some ⟨F.heap.size+1,0,none⟩) d.length d.length) 3 1 d.length (part (AB l.length s.bu) d i),
    .obj F.heap.size 105 #[.bool s.bW,.slice ea s.bu.length ec],.obj Q.heap.size 228 #[.slice ca d.length cc,V,va,.slice none 0 0],.row V 223 1 k xn,.row va 4 1 k (((l.take k).map (·.bW)).map Value.bool)]) ?_ ?_
  .exact⟨_,0,zG _,rfl,rfl,T⟩
  rintro Y z2 n vs w3 hY-⟨i,hi,rfl,rfl,p⟩;simp[bz,lk];by_cases hlt2:i<d.length
  .obtain⟨cb,co,rfl,c5⟩:=c4 qd7;have T':=(c5 i hlt2).1;have hcw:=azk p.az (bzv r' T');have I':=C' d[i] (zF hlt2);obtain⟨cv,J'⟩:=zT I'.1;have k1:=bO (j:=i) (u:=.j 0) p.row (PG hlt2);have k2:=fD p.row i;have k3:=p.av.obj.c 1;have k4:=p.av.obj.lt;have S:=p.setRow i (.j l.length);rw[PE hlt2]at S;have E':=zh S;clear S;go_wp2;refine aB [0,3,4,6,7,8,9,20,21,22,35,36,37,47,48,49] (fun n vs w4=>∃(j:Nat),j<=s.bu.length/\n=s.bu.length-j /\
    vs=[.slice (some ⟨b,off,none⟩) l.length c,.p Q.heap.size,.j l.length,.p F.heap.size,.slice (some ⟨F.heap.size+1,0,none⟩) d.length d.length,.j i,.j cv,.slice (some ⟨b,off,none⟩) l.length c,.j l.length,.j k,.slice (some ⟨cb,co,none⟩) d.length cc,.j d.length,.j i,
     .slice ea s.bu.length ec,.j s.bu.length,.j j] /\
    Own w m w4 mk [.row (.slice (some ⟨F.heap.size+1,0,none⟩) d.length d.length) 3 1 d.length (wN (AB l.length s.bu) d i (AB l.length (s.bu.take j) cv)),
     .obj F.heap.size 105 #[.bool s.bW,.slice ea s.bu.length ec],.obj Q.heap.size 228 #[.slice (some ⟨cb,co,none⟩) d.length cc,V,va,.slice none 0 0],.row V 223 1 k xn,.row va 4 1 k (((l.take k).map (·.bW)).map Value.bool)]) ?_ ?_
   .refine⟨_,0,zG _,rfl,rfl,?_⟩;have:AB l.length (s.bu.take 0) cv=(l.length:Int):=by simp[AB,bH]
    rw[this];exact E'.o
   rintro Z z3 n vs w4 hZ-⟨j,hj,rfl,rfl,hO6⟩;simp[bz,lk];by_cases hlt3:j<s.bu.length
   .obtain⟨b',off',rfl,Z'⟩:=g6 qey;obtain⟨e1,e2,e3,e4,e5,-⟩:=Z' j hlt3;have s':=bzw hO6.ext.le hO6.az;have d1:=azk s' e1;have d2:=azk s' e2;have d3:=azk s' e3;have hb4:=bzu s' e1;have Hgo:=zh (XK G' hlt3 cv);have x1:=bO (j:=i) hO6.row (KW hlt2 _);have x2:=fD hO6.row i;have x3:=hO6.av.obj.lt;have x4:F.heap.size+1<w4.heap.size:=(World.ownsRow.lt hO6.row _ rfl).2;go_wp2
    .refine hZ.o _ _ _ zo rfl ⟨j+1,zo,rfl,rfl,?_⟩;rw[Hgo.o,zK ⟨by rw[Int.toNat_natCast];assumption,by rw[Int.toNat_natCast];assumption⟩,<-KV hlt2 (AB l.length (s.bu.take j) cv)];exact(hO6.setRow i _).al' _
    .exact qbM
    .exact qbM
   .go_wp2;refine hY.o _ _ _ zo rfl ⟨i+1,zo,rfl,rfl,?_⟩;rw[xH (l:=s.bu) (i:=j) zo,<-J',GZ hlt2]at hO6;exact hO6
  .obtain rfl:i=d.length:=zo;rw[PI]at p;have B':=jE (l:=qz l.length d s.bu) (m:=mk) (by simpa [qz]using p.row) (fun x hx=>by have:=Bf G' d x hx;omega);have O:=(W.mono (czS (w:=w3) p.free)).push B';have a':=Mem.le_trans r' (czS (w:=w3) p.free);have P:=p.bP.al #[.slice (some ⟨F.heap.size+1,0,none⟩) d.length d.length] 223;generalize mk.iA w3 (.slice (some ⟨F.heap.size+1,0,none⟩) d.length d.length)=p' at*
   have y1:=p.aR.obj.c 1;have yl:=p.aR.obj.lt;clear p
   go_wp2_with (at_builtin;refine aU Vh rfl (.tmp 76) (.tmp 78) rfl V k xn rfl P.bV.row ⟨w3.heap.size,0,none⟩ 1 1 [.slice (some ⟨F.heap.size+1,0,none⟩) d.length d.length] rfl rfl (P.obj.dQ rfl) qdN qdM zo ?_)
   intro na nc w5 K C I;have G:=P.bV.app K C I zS;clear K C I P;have U:=(G.bV.set 1 (.slice na (k+1) nc)).Bd;have u1:=G.bV.obj.c 1;have u2:=G.bV.obj.frozen 1;have ul:=G.bV.obj.lt;have x':=zh U;clear U G;go_wp2;have N:Own w m (w5.setCell ⟨Q.heap.size,1,none⟩ (.slice na (k+1) nc)) p' [.obj Q.heap.size 228 #[.slice ca d.length cc,.slice na (k+1) nc,va,.slice none 0 0],.row (.slice na (k+1) nc) 223 1 (k+1) (xn++[.slice (some ⟨F.heap.size+1,0,none⟩) d.length d.length]),
    .obj F.heap.size 105 #[.bool s.bW,.slice ea s.bu.length ec],.row va 4 1 k (((l.take k).map (·.bW)).map Value.bool)]:=x'.o
   clear x';generalize w5.setCell ⟨Q.heap.size,1,none⟩ (.slice na (k+1) nc)=w6 at*
   have E:=(N.bV.al #[.bool s.bW] 4).dr;refine jX (fun w'=>bg w' Q.heap.size 228 #[.slice ca d.length cc,.slice na (k+1) nc,va,.slice none 0 0]/\bg w' F.heap.size 105 #[.bool s.bW,.slice ea s.bu.length ec]) 11 zk ?_;have hS:=zi (N.dr.obj) (N.dr.aR.obj);refine aL 0 rfl zk (fun _ _ _ h=>h) hS (ax rfl fun w' v=>by have q:=v.1.cell (i:=2) rfl;have q1:=v.2.cell (i:=0) rfl;go_simp;rfl) ?_;refine aL 1 rfl zk (fun _ _ _ h=>h) hS (ax rfl fun w' v=>by have q:=v.1.cell (i:=2) rfl;have q1:=v.2.cell (i:=0) rfl;go_simp;rfl) ?_;refine aL 2 rfl zk (fun _ _ _ h=>h) hS (ax rfl fun w' v=>by have q:=v.1.cell (i:=2) rfl;have q1:=v.2.cell (i:=0) rfl;go_simp;rfl) ?_;refine aL 3 rfl zk (fun _ _ _ h=>h) hS (ax rfl fun w' v=>by have q:=v.1.cell (i:=2) rfl;have q1:=v.2.cell (i:=0) rfl;go_simp;rfl) ?_;refine aL 4 rfl zk (fun _ _ _ h=>h) hS (ax rfl fun w' v=>by have q:=v.1.cell (i:=2) rfl;have q1:=v.2.cell (i:=0) rfl;go_simp;rfl) ?_;refine aL 5 rfl zk (fun _ _ _ h=>h) hS (ax rfl fun w' v=>by have q:=v.1.cell (i:=2) rfl;have q1:=v.2.cell (i:=0) rfl;go_simp;rfl) ?_;refine aL 6 rfl zk (fun _ _ _ h=>h) hS (ax rfl fun w' v=>by have q:=v.1.cell (i:=2) rfl;have q1:=v.2.cell (i:=0) rfl;go_simp;rfl) ?_;refine bG 7 zk (aM rfl rfl (aS (by go_simp;exact⟨rfl,rfl⟩) (pX (zi (hS.1.al _) (hS.2.al _)) fun W'=>?_)));go_simp;have S':(((l.take k).map (·.bW)).map Value.bool).length=k:=by simp;omega
   refine bG 8 zk (aM rfl rfl (fQ M6 (.tmp 86) (.tmp 89) rfl va k _ rfl E.av.row ⟨w6.heap.size,0,none⟩ 1 1 [.bool s.bW] rfl rfl (E.obj.dQ rfl) qdN qdM zo (fun aa ac w7 J B H=>?_)));have A:=E.av.app J B H (zI _);refine pX (zi A.aR.obj (A.at (g:=F.heap.size) (t:=105) (arr:=#[.bool s.bW,.slice ea s.bu.length ec]) zS)) fun i'=>?_;refine bG 9 zk (aM rfl rfl (aS qdK (pX i' fun _=>?_)));refine bG 10 zk (aM rfl rfl (aS qdK (pX i' fun _=>?_)));have f3:=i'.1.frozen 2;have c3:=i'.1.cell (i:=2) rfl;refine bG 11 zk (aM rfl rfl (dx (by go_simp;rfl) (sw rfl ?_)));refine jY zk ?_ _;have M:=((A.aR.set 2 (.slice aa (k+1) ac)).Bd.dzO).R8;have m':=zh (zi M (zi O a'));clear M O a' A E N hO J B H hS W' i' f3 c3 W;go_wp2;refine hX.o _ _ _ zo rfl ⟨k+1,.slice na (k+1) nc,.slice aa (k+1) ac,xn++[.slice (some ⟨F.heap.size+1,0,none⟩) d.length d.length],p',zo,rfl,rfl,?_,?_,m'.o.2.2⟩
   .have:=m'.o.1;rw[l'.o];exact qbe
   .rw[l'.o,yI];exact m'.o.2.1
 .obtain rfl:k=l.length:=zo;rw[yG]at hO W;have S':((l.map (·.bW)).map Value.bool).length=l.length:=by simp
  have D':=hO
  go_wp2_with (refine wpList_make_row ND rfl (.tmp 98) (.tmp 98) rfl d.length rfl rfl zo qdM ?_)
  intro w2 L D;have T:=D'.make (by simpa using L) D;rw[KU (fun _=>(l.length:Int))]at T;clear L D;go_wp2;refine aB [0,3,4,12,101,102] (fun n vs w3=>∃(i:Nat),i<=d.length/\n=d.length-i /\
   vs=[.slice a l.length c,.p Q.heap.size,.j l.length,.slice (some ⟨F.heap.size,0,none⟩) d.length d.length,.j d.length,.j i] /\
   Own w m w3 mk [.row (.slice (some ⟨F.heap.size,0,none⟩) d.length d.length) 3 1 d.length (part (fun _=>(l.length:Int)) d i),
    .obj Q.heap.size 228 #[.slice ca d.length cc,V,va,.slice none 0 0],.row V 223 1 l.length xn,.row va 4 1 l.length ((l.map (·.bW)).map Value.bool)]) ?_ ?_
  .exact⟨_,0,zG _,rfl,rfl,T⟩
  rintro Y z2 n vs w3 hY-⟨i,hi,rfl,rfl,p⟩;simp[bz,lk];by_cases hlt2:i<d.length
  .have k1:=bO (j:=i) (u:=.j 0) p.row (PG hlt2);have k2:=fD p.row i;have S:=p.setRow i (.j l.length);rw[PE hlt2]at S;have e5:=GZ (f:=fun _=>(l.length:Int)) hlt2;rw[e5]at S;have E':=zh S;clear S e5;go_wp2;exact hY.o _ _ _ zo rfl ⟨i+1,zo,rfl,rfl,E'.o⟩
  .obtain rfl:i=d.length:=zo;rw[PI]at p;have B':=jE (l:=d.map fun _=>(l.length:Int)) (m:=mk) (by simpa using p.row) (fun x hx=>by
    obtain⟨y,-,rfl⟩:=yD.1 hx;omega)
   have O:=(W.mono (czS (w:=w3) p.free)).push B';have a':=Mem.le_trans r' (czS (w:=w3) p.free);have P:=p.bP.al #[.slice (some ⟨F.heap.size,0,none⟩) d.length d.length] 223;generalize mk.iA w3 (.slice (some ⟨F.heap.size,0,none⟩) d.length d.length)=p' at*
   have y1:=p.av.obj.c 1;have yl:=p.av.obj.lt;clear p
   go_wp2_with (at_builtin;refine aU Vh rfl (.tmp 114) (.tmp 116) rfl V l.length xn rfl P.aR.row ⟨w3.heap.size,0,none⟩ 1 1 [.slice (some ⟨F.heap.size,0,none⟩) d.length d.length] rfl rfl (P.obj.dQ rfl) qdN qdM zo ?_)
   intro na nc w5 K C I;have G:=P.aR.app K C I zS;clear K C I P;have U:=(G.aR.set 1 (.slice na (l.length+1) nc)).Bd;have u1:=G.aR.obj.c 1;have u2:=G.aR.obj.frozen 1;have u3:=G.aR.obj.c 2;have ul:=G.aR.obj.lt;have N:Own w m (w5.setCell ⟨Q.heap.size,1,none⟩ (.slice na (l.length+1) nc)) p' [.obj Q.heap.size 228 #[.slice ca d.length cc,.slice na (l.length+1) nc,va,.slice none 0 0],.row (.slice na (l.length+1) nc) 223 1 (l.length+1) (xn++[.slice (some ⟨F.heap.size,0,none⟩) d.length d.length]),
    .row va 4 1 l.length ((l.map (·.bW)).map Value.bool)]:=U
   have v':=zh N;clear U G N;have E:=v'.o.al #[.bool false] 4;have z':=E.obj.dQ rfl;rw[World.size_setCell]at E z';have j':=zh E;clear E
   go_wp2_with (at_builtin;refine aU M6 rfl (.tmp 124) (.tmp 125) rfl va l.length _ rfl j'.o.bV.row ⟨w5.heap.size,0,none⟩ 1 1 [.bool false] rfl rfl z' qdN qdM zo ?_)
   intro aa ac w7 J B H;have A:=j'.o.bV.app J B H zS;clear J B H z' v';have v1:=A.aR.obj.c 2;have v2:=A.aR.obj.frozen 2;have vl:=A.aR.obj.lt;have M:=(A.aR.set 2 (.slice aa (l.length+1) ac)).Bd;have M':=zh M;clear M A j';go_wp2;have M:=M'.o;obtain⟨lH,z1,z2,z3,z4⟩:=Oj (arr:=#[.slice ca d.length cc,.slice na (l.length+1) nc,.slice aa (l.length+1) ac,.slice none 0 0]) (l:=l) M zS O zS a';exact hR.o _ _ ⟨Q.heap.size,lH,_,_,_,rfl,z1,iK z2 q',z3,z4⟩
structure dzR (l C:aK):Prop where
 canon:bZ C
 qp:∀x,aH C 0 x=aH l 0 x
theorem jo(m:Mem):aV m (.n) []:=⟨none,0,rfl,zI _,by simp[maxLen],fun h=>absurd rfl h⟩
theorem Bh(v0:zV)(l:aK)(m:Mem)(w:zW)(hm:m.az w)(I:eD m)(hl:aV m v0 l)(n:l.length<=1000000):
 zC 103 #[v0] w fun e w'=>∃r C,e=.returned (.tuple #[.agg #[r],.int .i64 (if tf (WF l)=true then 0 else 11)])/\zB w w'/\aV (m.grow w w') r C/\C.length<=l.length+1 /\
  (WF l->dzR l C)/\(¬WF l->C=[]):=by
 have K:=hl;obtain⟨a,c,rfl,h1,h2,h3⟩:=hl;unfold maxLen at h2;have HW:=zh (fun w (hw:m.az w)=>wh (.slice a l.length c) l m w hw K);refine au fun R Y=>?_;have hO:=(Own.start hm).al #[.slice none 0 0] 27;have U:=zh hO;clear hO
 go_enter func103,ntmps103
 go_wp2_with fail
 refine(HW.o _ (bzw U.o.ext.le U.o.az)).mono ?_;rintro e w1 ⟨rfl,M⟩;have b:=U.o.aT M;clear U M;by_cases d:WF l
 .rw[aN d];by_cases h0:l.length=0
  .have J:l=[]:=yM h0;have f:=b.set 0 (.n);have g1:=b.obj.c 0;have g2:=b.obj.frozen 0;have g3:=b.obj.lt;have g4:=f.obj.c 0;have q:=zh (zi f J);have L:((l.length:Int)==0)=true:=by simp[h0]
   clear b f J h0;go_wp2;refine yV (v:=.tuple #[.agg #[.slice none 0 0],.int .i64 0]) qeS rfl ?_;refine Y.o _ _ ⟨_,[],by rw[aN d];rfl,q.o.1.aF,jo _,zS,fun _=>⟨iy,fun x=>?_⟩,fun _=>rfl⟩;rw[q.o.2]
  .have L:((l.length:Int)==0)=false:=zO.2 zo;have HC:=zh (Ol (.slice a l.length c) l m w1 (bzw b.ext.le b.az) K d n);have P:=zh b;clear b
   go_wp2_with fail
   refine HC.o.mono ?_;rintro e w2 ⟨g,mk,vc,vn,va,rfl,f,k1,k2,k3⟩;have N:=P.o.join f;have V:=f.ext.le;have Z:=Jg d n;have HR:=zh (Sy g vc vn va l (dJ l 256) (il l (dJ l 256)) (l.map (·.bW)++[false]) _ _ Z m mk w w2 [.obj w.heap.size 27 #[.slice none 0 0]] (I.le V) N k2 k3);clear N f HC P
   go_wp2_with fail
   refine HR.o.mono ?_;rintro e Q ⟨H,vk,cB,rfl,i,s,k4,u⟩;have q0:=i.obj.c 0;have G:=i.iC;have p:=dz9 (w:=Q) i.j6;have k:TabAt (H.add Q g) g (dJ l 256) (il l (dJ l 256)) (l.map (·.bW)++[false]) cB:=by
    refine⟨vc,vn,va,vk,bzy i.obj rfl,bzy i.obj rfl,bzy i.obj rfl,bzy i.obj rfl,?_,?_,?_,?_⟩
    .exact iK (Mem.le_trans s p) k1
    .exact BJ (Mem.le_trans s p) k2
    .exact mV (Mem.le_trans s p) k3
    .exact iK p k4
   have HN:=zh (Ke g l (dJ l 256) (il l (dJ l 256)) (l.map (·.bW)++[false]) cB _ _ Z (Me l) u
    (fun lv F W=>Rn d n u F W) (fun lv F W=>Oh d n u F W) (H.add Q g) Q G.az k)
   have O:=zh G;clear G i HR k Z q0
   go_wp2_with fail
   refine HN.o.mono ?_;rintro e w4 ⟨r,C,rfl,X,E,D,t,j⟩;have z:=O.o.call X;obtain⟨T,S,rfl⟩:∃T S,r=.slice T C.length S:=by obtain⟨x,y,e,-⟩:=E;exact⟨x,y,e⟩
   have g1:=z.obj.c 0;have g2:=z.obj.frozen 0;have g3:=z.obj.lt;have A:=z.set 0 (.slice T C.length S);have g4:=A.obj.c 0;have B:=bq A.done E;rw[qy]at j;have q:=zh (zi A.aF (zi B (zi D (zi t j))));clear A z B D t E j O;go_wp2;refine yV (v:=.tuple #[.agg #[.slice T C.length S],.int .i64 0]) (by simp[results,results103,go_sem,g4]) rfl ?_;exact Y.o _ _ ⟨_,C,by rw[aN d];rfl,q.o.1,q.o.2.1,q.o.2.2.2.2,fun _=>⟨q.o.2.2.1,q.o.2.2.2.1⟩,fun h=>absurd d h⟩
 .rw[aG d];have f:=b.set 0 (.n);have g1:=b.obj.c 0;have g2:=b.obj.frozen 0;have g3:=b.obj.lt;have g4:=f.obj.c 0;have q:=zh (zi f d);clear b f d;go_wp2;refine yV (v:=.tuple #[.agg #[.slice none 0 0],.int .i64 11]) qeS rfl ?_;exact Y.o _ _ ⟨_,[],by rw[aG q.o.2];rfl,q.o.1.aF,jo _,zS,fun h=>absurd h q.o.2,fun _=>rfl⟩
noncomputable def cz(l:aK):aK:=if tf (bZ l)=true then l else[]
theorem nC(l:aK):bZ (cz l):=by
 unfold cz
 split
 .rename_i h;exact j4.1 h
 .exact iy
theorem azu{l:aK}(h:bZ l):cz l=l:=by simp[cz,aN h]
theorem jT(l:aK):(cz l).length<=l.length:=by
 unfold cz;split<;>simp
theorem Kg{l C:aK}(b:WF l->dzR l C)(a:WF l):bZ l↔l=C:=
 ⟨fun h=>vg h (b a).canon fun x=>((b a).qp x).symm,fun h=>by rw[h];exact(b a).canon⟩
theorem yz(G:zV)(l:aK)(m:Mem)(w:zW)(L:m.az w)(j:eD m)(H:aV m G l)(n:l.length<=1000000):
 zX 148 #[.agg #[G]] w (.bool (tf (bZ l))):=by
 have p:=H;obtain⟨a,c,rfl,S,Q,P⟩:=H;refine au fun R I=>?_;have D:=(Own.start L).al #[.slice a l.length c] 27;have K:=zh (Bh (.slice a l.length c) l m _ D.az j p n);have J:=zh D;clear D
 go_enter func148,ntmps148
 go_wp2_with fail
 refine K.o.mono ?_;rintro e O ⟨r,C,rfl,B,k,E,b,d⟩;have i:=J.o.call B;have v:=i.ext.le;obtain⟨u,t,rfl⟩:∃u t,r=.slice u C.length t:=by obtain⟨x,y,e,-⟩:=k;exact⟨x,y,e⟩
 have g:=i.al #[.slice u C.length t] 27;have U:=g.av.obj.c 0;have T:=g.av.obj.lt;have M:=zh (BV (.slice a l.length c) (.slice u C.length t) l C _ _ g.az (bq v p) k);have s:=zh g;clear i g K J;by_cases f:WF l
 .rw[aN f];have q:=Kg b f;have F:=zh (zi q (zi b d));clear b d q
  go_wp2_with fail
  refine M.o.mono ?_;rintro e N ⟨rfl,A⟩;have z:=(s.o.aT A).aF;go_wp2;exact I.o _ _ ⟨aP (by rw[dY F.o.1]),z⟩
 .rw[aG f];have F:=zh (zi f (zi b d));clear b d f;go_wp2;exact I.o _ _ ⟨aP (by rw[aG (fun h=>F.o.1 h.wf)]),s.o.aF⟩
theorem nM(q:zV)(l:aK)(m:Mem)(w:zW)(z:m.az w)(h:eD m)(s:aV m q l)(j:l.length<=1000000):
 zC 97 #[.agg #[q]] w fun e w'=>∃r,e=.returned (.agg #[r])/\zB w w'/\aV (m.grow w w') r (cz l):=by
 have k:=s;obtain⟨a,c,rfl,E,D,C⟩:=s;refine au fun R t=>?_;have p:=((Own.start z).al #[.slice a l.length c] 27).al #[.slice none 0 0] 27;have i:(w.alloc (.cells #[.slice a l.length c] 27)).heap.size=w.heap.size+1:=by simp
 rw[i]at p;have x:=zh (yz (.slice a l.length c) l m _ p.az h k j);have y:=zh p;clear p i
 go_enter func97,ntmps97
 go_wp2_with fail
 refine x.o.mono ?_;rintro e B ⟨rfl,n⟩;have b:=y.o.aT n;have H:=b.av.obj.c 0;have A:=b.obj.c 0;have G:=b.obj.frozen 0;have F:=b.obj.lt;clear y x n;by_cases f:bZ l
 .have d:=b.set 0 (.slice a l.length c);have u:=d.obj.c 0;have g:=zh (zi d f);rw[aN f];clear b d f;go_wp2;refine yV (v:=.agg #[.slice a l.length c]) (by simp[results,results97,go_sem,u]) rfl ?_;exact t.o _ _ ⟨_,rfl,g.o.1.aF,by rw[azu g.o.2];exact bq g.o.1.done k⟩
 .have d:=b.set 0 (.n);have u:=d.obj.c 0;have g:=zh (zi d f);rw[aG f];clear b d f;go_wp2;refine yV (v:=.agg #[.slice none 0 0]) (by simp[results,results97,go_sem,A]) rfl ?_;exact t.o _ _ ⟨_,rfl,g.o.1.aF,by rw[cz,aG g.o.2];exact jo _⟩
end Cl
namespace Cl
open Go Go.RowKit Go.Proofs
theorem tO{w:zW}{t:TypeId}{size:Nat}{a:Option Addr}{n c:Nat}{xs:List Value}(h:w.ownsRow 0 t size (.slice a n c) n xs)(f:0<n):∃b,a=some ⟨b,0,none⟩:=by
 rcases h.2 with⟨h,-⟩|⟨g,e,d,h,-⟩
 .injection h with h1 h2 h3;omega
 .exact qbT
end Cl
namespace Cl
open Go Go.RowKit Go.Proofs Tryz
theorem TZ : (prog.fieldsOf 144).toList = [⟨"a", 3, 0, false, "", "configlang/lang", 0⟩, ⟨"b", 3, 1, false, "", "configlang/lang", 8⟩] := by
 kernel_rfl
theorem WJ:prog.stoodInHeld 144=false:=by kernel_rfl
theorem XH:prog.eqGuardType prog.depth 144=false:=by kernel_rfl
theorem bzC:prog.underlying 144=some (.struct (prog.fieldsOf 144)):=by kernel_rfl
theorem Xh(a b a' b':Int)(w:zW):(Op.equalIn 10000 144 (.agg #[.int .i64 a,.int .i64 b]) (.agg #[.int .i64 a',.int .i64 b'])).run prog w=.ok (a==a'&&b==b') w:=by
 rw[run_equalIn_agg w 9999 144 _ _ bzC WJ,TZ];have e2:=fun(d:Nat) (a b:Int) (w:zW)=>run_equalIn_int (P:=prog) w d 3 .i64 .i64 a b underlying3;exact qbV
theorem JH(v:zV)(l:List (Int×Int))(x:Int×Int)(m:Mem)(w:zW)(E:m.az w)(F:dD m v l):
 zX 99 #[v,.agg #[.int .i64 x.1,.int .i64 x.2]] w (.j (firstIdx (fun y=>x=y) l 0)):=by
 obtain⟨a,c,rfl,S,L,K⟩:=F;unfold maxLen at L;refine au fun R A=>?_
 go_enter func99,ntmps99
 go_wp2;have j:zB w (w.alloc (.cells #[.int .i64 x.1,.int .i64 x.2] 144)):=bY (zR _ _) _;have P:(w.alloc (.cells #[.int .i64 x.1,.int .i64 x.2] 144)).cell? ⟨w.heap.size,0,none⟩=some (.j x.1):=by simp
 have O:(w.alloc (.cells #[.int .i64 x.1,.int .i64 x.2] 144)).cell? ⟨w.heap.size,1,none⟩=some (.j x.2):=by simp
 have C:w.heap.size<(w.alloc (.cells #[.int .i64 x.1,.int .i64 x.2] 144)).heap.size:=by simp
 have q:=dzE E j;generalize w.alloc (.cells #[.int .i64 x.1,.int .i64 x.2] 144)=w0 at*
 refine aB [0,3,7,8] (fun n u t=>∃k:Nat,k<=l.length/\n=l.length-k/\u=[.slice a l.length c,.p w.heap.size,.j l.length,.j k]/\firstIdx (fun y=>x=y) l 0=firstIdx (fun y=>x=y) (l.drop k) k/\Below w0.heap.size w0 t) ?_ ?_
 .exact qcW
 rintro X z n u t I-⟨k,hk,rfl,rfl,g,d⟩;have f:=zh g;clear g;simp[bz,lk];have p:=dzE q d;have U:=mH d C P;have T:=mH d C O;by_cases hlt:k<l.length
 .obtain⟨b,off,rfl,J⟩:=K qdJ;obtain⟨N,M,-⟩:=J k hlt;have W:=azk p N;have V:=azk p M;have D:=zh (sP (fun y=>x=y) l k hlt);have Q:=fun w=>Xh x.1 x.2 (l[k].1) (l[k].2) w;have G:=XH;by_cases i:x=l[k]
  .have r:(x.1==l[k].1)=true:=by simp[<-i]
   have H:(x.2==l[k].2)=true:=by simp[<-i]
   have s:=zh i;clear i;go_wp2
   go_quiet (fail)
   go_wp2;exact A.o _ _ ⟨je (by rw[f.o,D.o,zK (aN s.o)]),iO j (below_drewN d _)⟩
  .have r:(x.1==l[k].1&&x.2==l[k].2)=false:=by
    by_cases h:x.1=l[k].1
    .by_cases B:x.2=l[k].2
     .exact absurd (Prod.ext h B) i
     .simp[B]
    .simp[h]
   have s:=zh i;clear i;go_wp2
   go_quiet (fail)
   go_wp2;exact I.o _ _ _ zo rfl ⟨k+1,zo,rfl,rfl,by rw[f.o,D.o,zJ (by rw[aG s.o];simp)],below_drewN d _⟩
 .go_wp2;exact A.o _ _ ⟨je (by rw[f.o,zQ zo];rfl),iO j d⟩
end Cl
namespace Cl
open Go Go.RowKit Go.Proofs
def JD(l:aK):Prop:=(∀s∈l,s.bu.length<=10)/\l.length<=8
end Cl
