/- Lemmas for the proofs of chapter 11. -/
import Derived.Laws.EntriesVeiled
import Derived.Test.YtdgjplfcpcphoaaGreatDoorPkE8
set_option maxRecDepth 100000
set_option maxHeartbeats 16000000
namespace Cl
open Go Go.RowKit Go.Proofs Tryz
theorem Mq{w w':zW}{m o mk:Mem}{g:Nat}{arr:Array Value}{n va:zV}{j k:List Value}{c:List (List Int)}{l:aC}
(r:Own w m w' mk [.obj g 238 arr,.row va 4 1 (l.length+1) k,.row n 135 1 (l.length+1) j])
(e:k=(l.map (·.aZ)++[false]).map Value.bool)
(p:nE mk j c)(h:c.length=l.length+1)(i:o.le mk):
 ∃a,Own w m w' a [.obj g 238 arr]/\o.le a/\pq a n c/\jw a va (l.map (·.aZ)++[false]):=by
 have d:=r.au;have q:=lg (l:=l.map (·.aZ)++[false]) (m:=mk) (by rw[<-e];simpa using d.row);have b:=d.bJ.au;have f:=p.mono (Mem_le_addv (w:=w') d.free);have hi:=wF (l:=c) (by rw[h];exact b.row) f b.free;exact⟨_,b.bJ,Mem.le_trans (Mem.le_trans i (Mem_le_addv d.free)) (Mem_le_addv b.free),hi,lh (Mem_le_addv b.free) q⟩
theorem Mr(v0:zV)(l:aC)(m:Mem)(w:zW)(hm:m.ay w)(hl:aQ m v0 l)(H':WF l)(hlen:l.length<=1000000):
 zC 224 #[v0] w fun e w'=>∃g mk vc V va,e=.returned (.pointer (some ⟨g,0,none⟩))/\Own w m w' mk [.obj g 238 #[vc,V,va,.slice none 0 0]] /\
  eU mk vc (di l 256)/\pq mk V (sD l (di l 256)++[(di l 256).map fun _=>(l.length:Int)])/\jw mk va (l.map (·.aZ)++[false]):=by
 have K':=Zw v0 l m w hm hl H';have hcle:=pX l 256;have C':=uz l 256;generalize di l 256=d at*
 obtain⟨a,c,rfl,h1,h2,h3⟩:=hl;unfold maxLen at h2;refine aj fun R hR=>?_
 go_enter func224,ntmps224
 go_wp2_with fail
 refine K'.mono ?_;rintro e Q ⟨r,rfl,W',q'⟩;have hO0:=(Own.start hm).call W';obtain⟨ca,cc,rfl,c2,c3,c4⟩:=q';have q':eU (m.grow w Q) (.slice ca d.length cc) d:=⟨ca,cc,rfl,c2,c3,c4⟩;have Z':=((hO0.al #[.slice ca d.length cc,.slice none 0 0,.slice none 0 0,.slice none 0 0] 238));go_wp2;refine av [0,3,4,20,21,22] (fun n vs F=>∃(k:Nat) (V va:zV) (xn:List Value) (mk:Mem),k<=l.length/\n=l.length-k/\vs=[.slice a l.length c,.pointer (some ⟨Q.heap.size,0,none⟩),.int .i64 l.length,.slice a l.length c,.int .i64 l.length,.int .i64 k] /\
  Own w m F mk [.obj Q.heap.size 238 #[.slice ca d.length cc,V,va,.slice none 0 0],.row V 135 1 k xn,.row va 4 1 k (((l.take k).map (·.aZ)).map Value.bool)] /\
  nE mk xn ((l.take k).map fun s=>pI l.length d s.aH)/\(m.grow w Q).le mk) ?_ ?_
 .refine⟨_,0,.slice none 0 0,.slice none 0 0,[],_,zG _,rfl,rfl,?_,nE.nil _,Mem.le_refl _⟩;exact((Z'.dL 4 1).dL 135 1).bA
 rintro X z n vs F hX-⟨k,V,va,xn,mk,hk,rfl,rfl,hO,W,r'⟩;simp[aX,lk];have A':=Mem_inn_le hO.ext.le hO.ay;have hcr:=fH r' q';have q0:=hO.obj.c 0;have q1:=hO.obj.c 1;have q2:=hO.obj.c 2;have ql:=hO.obj.lt;by_cases hlt:k<l.length
 .obtain⟨b,off,rfl,h4⟩:=h3 qdX;obtain⟨g1,ve,g2,ea,ec,rfl,g4,g5,g6⟩:=h4 k hlt;have hc1:=Mem_cell_w A' g1;have hc2:=Mem_cell_w A' g2;have hb:=Mem_cell_lt A' g1;have G':=H' l[k] (zF hlt);have l':=zh (zH hlt);generalize l[k]=s at*
  unfold maxLen at g5 c3;have D':=hO.al #[.bool s.aZ,.slice ea s.aH.length ec] 80
  go_wp2_with (refine wpList_make_row Db rfl (.tmp 30) (.tmp 30) rfl d.length rfl rfl zo qdY ?_)
  intro w2 L D;have T:=D'.make (by simpa using L) D;rw[JP (ym l.length s.aH)]at T;clear L D;have hN:(F.alloc (.cells #[.bool s.aZ,.slice ea s.aH.length ec] 80)).heap.size=F.heap.size+1:=by simp
  rw[hN]at T;clear hN;have p0:=T.bA.obj.c 0;have pl:=T.bA.obj.lt;go_wp2;refine av [0,3,4,6,7,20,21,22,35,36,37] (fun n vs w3=>∃(i:Nat),i<=d.length/\n=d.length-i /\
   vs=[.slice (some ⟨b,off,none⟩) l.length c,.pointer (some ⟨Q.heap.size,0,none⟩),.int .i64 l.length,.pointer (some ⟨F.heap.size,0,none⟩),.slice (some ⟨F.heap.size+1,0,none⟩) d.length d.length,.slice (some ⟨b,off,none⟩) l.length c,.int .i64 l.length,.int .i64 k,.slice ca d.length cc,.int .i64 d.length,.int .i64 i] /\
   Own w m w3 mk [.row (.slice (some ⟨F.heap.size+1,0,none⟩) d.length d.length) 3 1 d.length (part (ym l.length s.aH) d i),
    .obj F.heap.size 80 #[.bool s.aZ,.slice ea s.aH.length ec],.obj Q.heap.size 238 #[.slice ca d.length cc,V,va,.slice none 0 0],.row V 135 1 k xn,.row va 4 1 k (((l.take k).map (·.aZ)).map Value.bool)]) ?_ ?_
  .exact⟨_,0,zG _,rfl,rfl,T⟩
  rintro Y z2 n vs w3 hY-⟨i,hi,rfl,rfl,p⟩;simp[aX,lk];by_cases hlt2:i<d.length
  .obtain⟨cb,co,rfl,c5⟩:=c4 qd6;have V':=(c5 i hlt2).1;have hcw:=Mem_cell_w p.ay (Mem_cell_le r' V');have I':=C' d[i] (zF hlt2);obtain⟨cv,J'⟩:=zT I'.1;have k1:=bg (j:=i) (u:=.int .i64 0) p.row (NH hlt2);have k2:=dK p.row i;have k3:=p.au.obj.c 1;have k4:=p.au.obj.lt;have S:=p.setRow i (.int .i64 l.length);rw[NG hlt2]at S;have E':=zh S;clear S;go_wp2;refine av [0,3,4,6,7,8,9,20,21,22,35,36,37,47,48,49] (fun n vs w4=>∃(j:Nat),j<=s.aH.length/\n=s.aH.length-j /\
    vs=[.slice (some ⟨b,off,none⟩) l.length c,.pointer (some ⟨Q.heap.size,0,none⟩),.int .i64 l.length,.pointer (some ⟨F.heap.size,0,none⟩),.slice (some ⟨F.heap.size+1,0,none⟩) d.length d.length,.int .i64 i,.int .i64 cv,.slice (some ⟨b,off,none⟩) l.length c,.int .i64 l.length,.int .i64 k,.slice (some ⟨cb,co,none⟩) d.length cc,.int .i64 d.length,.int .i64 i,
     .slice ea s.aH.length ec,.int .i64 s.aH.length,.int .i64 j] /\
    Own w m w4 mk [.row (.slice (some ⟨F.heap.size+1,0,none⟩) d.length d.length) 3 1 d.length (vX (ym l.length s.aH) d i (ym l.length (s.aH.take j) cv)),
     .obj F.heap.size 80 #[.bool s.aZ,.slice ea s.aH.length ec],.obj Q.heap.size 238 #[.slice (some ⟨cb,co,none⟩) d.length cc,V,va,.slice none 0 0],.row V 135 1 k xn,.row va 4 1 k (((l.take k).map (·.aZ)).map Value.bool)]) ?_ ?_
   .refine⟨_,0,zG _,rfl,rfl,?_⟩;have:ym l.length (s.aH.take 0) cv=(l.length:Int):=by simp[ym,bv]
    rw[this];exact E'.o
   rintro Z z3 n vs w4 hZ-⟨j,hj,rfl,rfl,hO6⟩;simp[aX,lk];by_cases hlt3:j<s.aH.length
   .obtain⟨b',off',rfl,h10⟩:=g6 qeq;obtain⟨e1,e2,e3,e4,e5,-⟩:=h10 j hlt3;have s':=Mem_inn_le hO6.ext.le hO6.ay;have d1:=Mem_cell_w s' e1;have d2:=Mem_cell_w s' e2;have d3:=Mem_cell_w s' e3;have hb4:=Mem_cell_lt s' e1;have Hgo:=zh (Vn G' hlt3 cv);have x1:=bg (j:=i) hO6.row (JR hlt2 _);have x2:=dK hO6.row i;have x3:=hO6.au.obj.lt;have x4:F.heap.size+1<w4.heap.size:=(World.ownsRow.lt hO6.row _ rfl).2;go_wp2
    .refine hZ.o _ _ _ zo rfl ⟨j+1,zo,rfl,rfl,?_⟩;rw[Hgo.o,zK ⟨by rw[Int.toNat_natCast];assumption,by rw[Int.toNat_natCast];assumption⟩,<-JQ hlt2 (ym l.length (s.aH.take j) cv)];exact(hO6.setRow i _).al' _
    .exact qb0
    .exact qb0
   .go_wp2;refine hY.o _ _ _ zo rfl ⟨i+1,zo,rfl,rfl,?_⟩;rw[xH (l:=s.aH) (i:=j) zo,<-J',F4 hlt2]at hO6;exact hO6
  .obtain rfl:i=d.length:=zo;rw[NJ]at p;have B':=dS (l:=pI l.length d s.aH) (m:=mk) (by simpa [pI]using p.row) (fun x hx=>by have:=Ab G' d x hx;omega);have O:=(W.mono (Mem_le_addv (w:=w3) p.free)).push B';have a':=Mem.le_trans r' (Mem_le_addv (w:=w3) p.free);have P:=p.bJ.al #[.slice (some ⟨F.heap.size+1,0,none⟩) d.length d.length] 135;generalize mk.iw w3 (.slice (some ⟨F.heap.size+1,0,none⟩) d.length d.length)=p' at*
   have y1:=p.bA.obj.c 1;have yl:=p.bA.obj.lt;clear p
   go_wp2_with (at_builtin;refine aG ES rfl (.tmp 76) (.tmp 78) rfl V k xn rfl P.dZ.row ⟨w3.heap.size,0,none⟩ 1 1 [.slice (some ⟨F.heap.size+1,0,none⟩) d.length d.length] rfl rfl (P.obj.cZ rfl) qdZ qdY zo ?_)
   intro na nc w5 K C I;have G:=P.dZ.app K C I zS;clear K C I P;have U:=(G.dZ.set 1 (.slice na (k+1) nc)).kY;have u1:=G.dZ.obj.c 1;have u2:=G.dZ.obj.frozen 1;have ul:=G.dZ.obj.lt;have x':=zh U;clear U G;go_wp2;have N:Own w m (w5.setCell ⟨Q.heap.size,1,none⟩ (.slice na (k+1) nc)) p' [.obj Q.heap.size 238 #[.slice ca d.length cc,.slice na (k+1) nc,va,.slice none 0 0],.row (.slice na (k+1) nc) 135 1 (k+1) (xn++[.slice (some ⟨F.heap.size+1,0,none⟩) d.length d.length]),
    .obj F.heap.size 80 #[.bool s.aZ,.slice ea s.aH.length ec],.row va 4 1 k (((l.take k).map (·.aZ)).map Value.bool)]:=x'.o
   clear x';generalize w5.setCell ⟨Q.heap.size,1,none⟩ (.slice na (k+1) nc)=w6 at*
   have E:=(N.dZ.al #[.bool s.aZ] 4).dr;refine jC (fun w'=>bH w' Q.heap.size 238 #[.slice ca d.length cc,.slice na (k+1) nc,va,.slice none 0 0]/\bH w' F.heap.size 80 #[.bool s.aZ,.slice ea s.aH.length ec]) 11 zk ?_;have hS:=zi (N.dr.obj) (N.dr.bA.obj);refine aI 0 rfl zk (fun _ _ _ h=>h) hS (aB rfl fun w' v=>by have q:=v.1.cell (i:=2) rfl;have q1:=v.2.cell (i:=0) rfl;go_simp;rfl) ?_;refine aI 1 rfl zk (fun _ _ _ h=>h) hS (aB rfl fun w' v=>by have q:=v.1.cell (i:=2) rfl;have q1:=v.2.cell (i:=0) rfl;go_simp;rfl) ?_;refine aI 2 rfl zk (fun _ _ _ h=>h) hS (aB rfl fun w' v=>by have q:=v.1.cell (i:=2) rfl;have q1:=v.2.cell (i:=0) rfl;go_simp;rfl) ?_;refine aI 3 rfl zk (fun _ _ _ h=>h) hS (aB rfl fun w' v=>by have q:=v.1.cell (i:=2) rfl;have q1:=v.2.cell (i:=0) rfl;go_simp;rfl) ?_;refine aI 4 rfl zk (fun _ _ _ h=>h) hS (aB rfl fun w' v=>by have q:=v.1.cell (i:=2) rfl;have q1:=v.2.cell (i:=0) rfl;go_simp;rfl) ?_;refine aI 5 rfl zk (fun _ _ _ h=>h) hS (aB rfl fun w' v=>by have q:=v.1.cell (i:=2) rfl;have q1:=v.2.cell (i:=0) rfl;go_simp;rfl) ?_;refine aI 6 rfl zk (fun _ _ _ h=>h) hS (aB rfl fun w' v=>by have q:=v.1.cell (i:=2) rfl;have q1:=v.2.cell (i:=0) rfl;go_simp;rfl) ?_;refine aV 7 zk (aJ rfl rfl (aN qem (jb (zi (hS.1.al _) (hS.2.al _)) fun Y'=>?_)));go_simp;have U':(((l.take k).map (·.aZ)).map Value.bool).length=k:=by simp;omega
   refine aV 8 zk (aJ rfl rfl (iG K5 (.tmp 86) (.tmp 89) rfl va k _ rfl E.au.row ⟨w6.heap.size,0,none⟩ 1 1 [.bool s.aZ] rfl rfl (E.obj.cZ rfl) qdZ qdY zo (fun aa ac w7 J B H=>?_)));have A:=E.au.app J B H (zI _);refine jb (zi A.bA.obj (A.at (g:=F.heap.size) (t:=80) (arr:=#[.bool s.aZ,.slice ea s.aH.length ec]) zS)) fun i'=>?_;refine aV 9 zk (aJ rfl rfl (aN qd0 (jb i' fun _=>?_)));refine aV 10 zk (aJ rfl rfl (aN qd0 (jb i' fun _=>?_)));have f3:=i'.1.frozen 2;have c3:=i'.1.cell (i:=2) rfl;refine aV 11 zk (aJ rfl rfl (cO qeI (lD rfl ?_)));refine gG zk ?_ _;have M:=((A.bA.set 2 (.slice aa (k+1) ac)).kY.azu).azD;have m':=zh (zi M (zi O a'));clear M O a' A E N hO J B H hS Y' i' f3 c3 W;go_wp2;refine hX.o _ _ _ zo rfl ⟨k+1,.slice na (k+1) nc,.slice aa (k+1) ac,xn++[.slice (some ⟨F.heap.size+1,0,none⟩) d.length d.length],p',zo,rfl,rfl,?_,?_,m'.o.2.2⟩
   .have:=m'.o.1;rw[l'.o];exact qa5
   .rw[l'.o,yI];exact m'.o.2.1
 .obtain rfl:k=l.length:=zo;rw[yG]at hO W;have U':((l.map (·.aZ)).map Value.bool).length=l.length:=by simp
  have D':=hO
  go_wp2_with (refine wpList_make_row Db rfl (.tmp 98) (.tmp 98) rfl d.length rfl rfl zo qdY ?_)
  intro w2 L D;have T:=D'.make (by simpa using L) D;rw[JP (fun _=>(l.length:Int))]at T;clear L D;go_wp2;refine av [0,3,4,12,101,102] (fun n vs w3=>∃(i:Nat),i<=d.length/\n=d.length-i /\
   vs=[.slice a l.length c,.pointer (some ⟨Q.heap.size,0,none⟩),.int .i64 l.length,.slice (some ⟨F.heap.size,0,none⟩) d.length d.length,.int .i64 d.length,.int .i64 i] /\
   Own w m w3 mk [.row (.slice (some ⟨F.heap.size,0,none⟩) d.length d.length) 3 1 d.length (part (fun _=>(l.length:Int)) d i),
    .obj Q.heap.size 238 #[.slice ca d.length cc,V,va,.slice none 0 0],.row V 135 1 l.length xn,.row va 4 1 l.length ((l.map (·.aZ)).map Value.bool)]) ?_ ?_
  .exact⟨_,0,zG _,rfl,rfl,T⟩
  rintro Y z2 n vs w3 hY-⟨i,hi,rfl,rfl,p⟩;simp[aX,lk];by_cases hlt2:i<d.length
  .have k1:=bg (j:=i) (u:=.int .i64 0) p.row (NH hlt2);have k2:=dK p.row i;have S:=p.setRow i (.int .i64 l.length);rw[NG hlt2]at S;have e5:=F4 (f:=fun _=>(l.length:Int)) hlt2;rw[e5]at S;have E':=zh S;clear S e5;go_wp2;exact hY.o _ _ _ zo rfl ⟨i+1,zo,rfl,rfl,E'.o⟩
  .obtain rfl:i=d.length:=zo;rw[NJ]at p;have B':=dS (l:=d.map fun _=>(l.length:Int)) (m:=mk) (by simpa using p.row) (fun x hx=>by
    obtain⟨y,-,rfl⟩:=yD.1 hx;omega)
   have O:=(W.mono (Mem_le_addv (w:=w3) p.free)).push B';have a':=Mem.le_trans r' (Mem_le_addv (w:=w3) p.free);have P:=p.bJ.al #[.slice (some ⟨F.heap.size,0,none⟩) d.length d.length] 135;generalize mk.iw w3 (.slice (some ⟨F.heap.size,0,none⟩) d.length d.length)=p' at*
   have y1:=p.au.obj.c 1;have yl:=p.au.obj.lt;clear p
   go_wp2_with (at_builtin;refine aG ES rfl (.tmp 114) (.tmp 116) rfl V l.length xn rfl P.bA.row ⟨w3.heap.size,0,none⟩ 1 1 [.slice (some ⟨F.heap.size,0,none⟩) d.length d.length] rfl rfl (P.obj.cZ rfl) qdZ qdY zo ?_)
   intro na nc w5 K C I;have G:=P.bA.app K C I zS;clear K C I P;have U:=(G.bA.set 1 (.slice na (l.length+1) nc)).kY;have u1:=G.bA.obj.c 1;have u2:=G.bA.obj.frozen 1;have u3:=G.bA.obj.c 2;have ul:=G.bA.obj.lt;have N:Own w m (w5.setCell ⟨Q.heap.size,1,none⟩ (.slice na (l.length+1) nc)) p' [.obj Q.heap.size 238 #[.slice ca d.length cc,.slice na (l.length+1) nc,va,.slice none 0 0],.row (.slice na (l.length+1) nc) 135 1 (l.length+1) (xn++[.slice (some ⟨F.heap.size,0,none⟩) d.length d.length]),
    .row va 4 1 l.length ((l.map (·.aZ)).map Value.bool)]:=U
   have v':=zh N;clear U G N;have E:=v'.o.al #[.bool false] 4;have z':=E.obj.cZ rfl;rw[World.size_setCell]at E z';have j':=zh E;clear E
   go_wp2_with (at_builtin;refine aG K5 rfl (.tmp 124) (.tmp 125) rfl va l.length _ rfl j'.o.dZ.row ⟨w5.heap.size,0,none⟩ 1 1 [.bool false] rfl rfl z' qdZ qdY zo ?_)
   intro aa ac w7 J B H;have A:=j'.o.dZ.app J B H zS;clear J B H z' v';have v1:=A.bA.obj.c 2;have v2:=A.bA.obj.frozen 2;have vl:=A.bA.obj.lt;have M:=(A.bA.set 2 (.slice aa (l.length+1) ac)).kY;have N':=zh M;clear M A j';go_wp2;have M:=N'.o;obtain⟨S',z1,z2,z3,z4⟩:=Mq (arr:=#[.slice ca d.length cc,.slice na (l.length+1) nc,.slice aa (l.length+1) ac,.slice none 0 0]) (l:=l) M zS O zS a';exact hR.o _ _ ⟨Q.heap.size,S',_,_,_,rfl,z1,fH z2 q',z3,z4⟩
structure Yy (l C:aC):Prop where
 canon:dG C
 rC:∀x,aK C 0 x=aK l 0 x
theorem jd(m:Mem):aQ m (.slice none 0 0) []:=⟨none,0,rfl,zI _,by simp[maxLen],fun h=>absurd rfl h⟩
theorem Ae(v0:zV)(l:aC)(m:Mem)(w:zW)(hm:m.ay w)(G:gD m)(hl:aQ m v0 l)(k:l.length<=1000000):
 zC 197 #[v0] w fun e w'=>∃r C,e=.returned (.tuple #[.agg #[r],.int .i64 (if tf (WF l)=true then 0 else 11)])/\zB w w'/\aQ (m.grow w w') r C/\C.length<=l.length+1 /\
  (WF l->Yy l C)/\(¬WF l->C=[]):=by
 have I:=hl;obtain⟨a,c,rfl,h1,h2,h3⟩:=hl;unfold maxLen at h2;have HW:=zh (fun w (hw:m.ay w)=>vI (.slice a l.length c) l m w hw I);refine aj fun R hR=>?_;have hO:=(Own.start hm).al #[.slice none 0 0] 27;have S:=zh hO;clear hO
 go_enter func197,ntmps197
 go_wp2_with fail
 refine(HW.o _ (Mem_inn_le S.o.ext.le S.o.ay)).mono ?_;rintro e w1 ⟨rfl,K⟩;have b:=S.o.aP K;clear S K;by_cases hwf:WF l
 .rw[aO hwf];by_cases X:l.length=0
  .have H:l=[]:=yM X;have d:=b.set 0 (.slice none 0 0);have g1:=b.obj.c 0;have g2:=b.obj.frozen 0;have g3:=b.obj.lt;have Y:=d.obj.c 0;have Hk:=zh (zi d H);have J:((l.length:Int)==0)=true:=by simp[X]
   clear b d H X;go_wp2;refine yV (v:=.tuple #[.agg #[.slice none 0 0],.int .i64 0]) qeY rfl ?_;exact qb1
  .have J:((l.length:Int)==0)=false:=zO.2 zo;have HC:=zh (Mr (.slice a l.length c) l m w1 (Mem_inn_le b.ext.le b.ay) I hwf k);have N:=zh b;clear b
   go_wp2_with fail
   refine HC.o.mono ?_;rintro e w2 ⟨g,mk,vc,Z,va,rfl,d,k1,k2,k3⟩;have L:=N.o.join d;have T:=d.ext.le;have W:=Hr hwf k;have HR:=zh (Qp g vc Z va l (di l 256) (iq l (di l 256)) (l.map (·.aZ)++[false]) _ _ W m mk w w2 [.obj w.heap.size 27 #[.slice none 0 0]] (G.le T) L k2 k3);clear L d HC N
   go_wp2_with fail
   refine HR.o.mono ?_;rintro e O ⟨F,vk,bK,rfl,f,p,k4,s⟩;have q0:=f.obj.c 0;have E:=f.lU;have n:=Mem_le_add (w:=O) f.lV;have j:TabAt (F.add O g) g (di l 256) (iq l (di l 256)) (l.map (·.aZ)++[false]) bK:=by
    refine⟨vc,Z,va,vk,Mem_add_cell f.obj rfl,Mem_add_cell f.obj rfl,Mem_add_cell f.obj rfl,Mem_add_cell f.obj rfl,?_,?_,?_,?_⟩
    .exact fH (Mem.le_trans p n) k1
    .exact uj (Mem.le_trans p n) k2
    .exact lh (Mem.le_trans p n) k3
    .exact fH n k4
   have HN:=zh (Jk g l (di l 256) (iq l (di l 256)) (l.map (·.aZ)++[false]) bK _ _ W (x8 l) s
    (fun lv D U=>Pv hwf k s D U) (fun lv D U=>Mm hwf k s D U) (F.add O g) O E.ay j)
   have M:=zh E;clear E f HR j W q0
   go_wp2_with fail
   refine HN.o.mono ?_;rintro e w4 ⟨r,C,rfl,V,B,A,q,i⟩;have t:=M.o.call V;obtain⟨Q,P,rfl⟩:∃Q P,r=.slice Q C.length P:=by obtain⟨x,y,e,-⟩:=B;exact⟨x,y,e⟩
   have g1:=t.obj.c 0;have g2:=t.obj.frozen 0;have g3:=t.obj.lt;have u:=t.set 0 (.slice Q C.length P);have Y:=u.obj.c 0;have z:=aW u.done B;rw[pG]at i;have Hk:=zh (zi u.az (zi z (zi A (zi q i))));clear u t z A q B i M;go_wp2;refine yV (v:=.tuple #[.agg #[.slice Q C.length P],.int .i64 0]) (by simp[results,results197,go_sem,Y]) rfl ?_;exact hR.o _ _ ⟨_,C,by rw[aO hwf];rfl,Hk.o.1,Hk.o.2.1,Hk.o.2.2.2.2,fun _=>⟨Hk.o.2.2.1,Hk.o.2.2.2.1⟩,fun h=>absurd hwf h⟩
 .rw[aA hwf];have d:=b.set 0 (.slice none 0 0);have g1:=b.obj.c 0;have g2:=b.obj.frozen 0;have g3:=b.obj.lt;have Y:=d.obj.c 0;have Hk:=zh (zi d hwf);clear b d hwf;go_wp2;refine yV (v:=.tuple #[.agg #[.slice none 0 0],.int .i64 11]) qeY rfl ?_;exact qcl
noncomputable def bX(l:aC):aC:=if tf (dG l)=true then l else[]
theorem jG(l:aC):dG (bX l):=by
 unfold bX
 split
 .rename_i h;exact Ap.1 h
 .exact mM
theorem OI{l:aC}(h:dG l):bX l=l:=by simp[bX,aO h]
theorem jY(l:aC):(bX l).length<=l.length:=by
 unfold bX;split<;>simp
theorem Ac{l C:aC}(b:WF l->Yy l C)(a:WF l):dG l↔l=C:=
 ⟨fun h=>uC h (b a).canon fun x=>((b a).rC x).symm,fun h=>by rw[h];exact(b a).canon⟩
theorem wR(v:zV)(l:aC)(m:Mem)(w:zW)(D:m.ay w)(f:gD m)(z:aQ m v l)(i:l.length<=1000000):
 zX 157 #[.agg #[v]] w (.bool (tf (dG l))):=by
 have j:=z;obtain⟨a,c,rfl,H,G,F⟩:=z;refine aj fun R hR=>?_;have t:=(Own.start D).al #[.slice a l.length c] 27;have B:=zh (Ae (.slice a l.length c) l m _ t.ay f j i);have A:=zh t;clear t
 go_enter func157,ntmps157
 go_wp2_with fail
 refine B.o.mono ?_;rintro e E ⟨r,C,rfl,s,g,u,hmin,hnot⟩;have d:=A.o.call s;have q:=d.ext.le;obtain⟨p,n,rfl⟩:∃p n,r=.slice p C.length n:=by obtain⟨x,y,e,-⟩:=g;exact⟨x,y,e⟩
 have b:=d.al #[.slice p C.length n] 27;have J:=b.au.obj.c 0;have I:=b.au.obj.lt;have HS:=zh (Ba (.slice a l.length c) (.slice p C.length n) l C _ _ b.ay (aW q j) g);have HO2:=zh b;clear d b B A;by_cases hwf:WF l
 .rw[aO hwf];have k:=Ac hmin hwf;have Hk:=zh (zi k (zi hmin hnot));clear hmin hnot k
  go_wp2_with fail
  exact qbO
 .exact qbI
theorem qm(n:zV)(l:aC)(m:Mem)(w:zW)(u:m.ay w)(g:gD m)(p:aQ m n l)(i:l.length<=1000000):
 zC 159 #[.agg #[n]] w fun e w'=>∃r,e=.returned (.agg #[r])/\zB w w'/\aQ (m.grow w w') r (bX l):=by
 have hl0:=p;obtain⟨a,c,rfl,B,A,z⟩:=p;refine aj fun R hR=>?_;have k:=((Own.start u).al #[.slice a l.length c] 27).al #[.slice none 0 0] 27;have h:(w.alloc (.cells #[.slice a l.length c] 27)).heap.size=w.heap.size+1:=by simp
 rw[h]at k;have s:=zh (wR (.slice a l.length c) l m _ k.ay g hl0 i);have t:=zh k;clear k h
 go_enter func159,ntmps159
 go_wp2_with fail
 refine s.o.mono ?_;rintro e y ⟨rfl,j⟩;have b:=t.o.aP j;have E:=b.au.obj.c 0;have x:=b.obj.c 0;have D:=b.obj.frozen 0;have C:=b.obj.lt;clear t s j;by_cases f:dG l
 .have d:=b.set 0 (.slice a l.length c);have q:=d.obj.c 0;have Hk:=zh (zi d f);rw[aO f];clear b d f;go_wp2;refine yV (v:=.agg #[.slice a l.length c]) (by simp[results,results159,go_sem,q]) rfl ?_;exact qcM
 .have d:=b.set 0 (.slice none 0 0);have q:=d.obj.c 0;have Hk:=zh (zi d f);rw[aA f];clear b d f;go_wp2;refine yV (v:=.agg #[.slice none 0 0]) (by simp[results,results159,go_sem,x]) rfl ?_;exact qdl
end Cl
namespace Cl
open Go Go.RowKit Go.Proofs
theorem kH{w:zW}{t:TypeId}{size:Nat}{a:Option Addr}{n c:Nat}{xs:List Value}(h:w.ownsRow 0 t size (.slice a n c) n xs)(e:0<n):∃b,a=some ⟨b,0,none⟩:=by
 rcases h.2 with⟨h,-⟩|⟨f,cap,d,h,-⟩
 .injection h with h1 h2 h3;omega
 .exact qb8
end Cl
namespace Cl
open Go Go.RowKit Go.Proofs Tryz
theorem Rv : (prog.fieldsOf 214).toList = [⟨"a", 3, 0, false, "", "configlang/lang", 0⟩, ⟨"b", 3, 1, false, "", "configlang/lang", 8⟩] := by
 kernel_rfl
theorem TV:prog.stoodInHeld 214=false:=by kernel_rfl
theorem Vh:prog.eqGuardType prog.depth 214=false:=by kernel_rfl
theorem YI:prog.underlying 214=some (.struct (prog.fieldsOf 214)):=by kernel_rfl
theorem Uv(a b a' b':Int)(w:zW):(Op.equalIn 10000 214 (.agg #[.int .i64 a,.int .i64 b]) (.agg #[.int .i64 a',.int .i64 b'])).run prog w=.ok (a==a'&&b==b') w:=by
 rw[run_equalIn_agg w 9999 214 _ _ YI TV,Rv];have e2:=fun(d:Nat) (a b:Int) (w:zW)=>run_equalIn_int (P:=prog) w d 3 .i64 .i64 a b underlying3;exact qcb
theorem IJ(v:zV)(l:List (Int×Int))(x:Int×Int)(m:Mem)(w:zW)(s:m.ay w)(t:df m v l):
 zX 235 #[v,.agg #[.int .i64 x.1,.int .i64 x.2]] w (.int .i64 (firstIdx (fun y=>x=y) l 0)):=by
 obtain⟨a,c,rfl,K,D,C⟩:=t;unfold maxLen at D;refine aj fun R hR=>?_
 go_enter func235,ntmps235
 go_wp2;have hb0:zB w (w.alloc (.cells #[.int .i64 x.1,.int .i64 x.2] 214)):=bE (zR _ _) _;have H:(w.alloc (.cells #[.int .i64 x.1,.int .i64 x.2] 214)).cell? ⟨w.heap.size,0,none⟩=some (.int .i64 x.1):=by simp
 have G:(w.alloc (.cells #[.int .i64 x.1,.int .i64 x.2] 214)).cell? ⟨w.heap.size,1,none⟩=some (.int .i64 x.2):=by simp
 have r:w.heap.size<(w.alloc (.cells #[.int .i64 x.1,.int .i64 x.2] 214)).heap.size:=by simp
 have i:=Mem_inn_below s hb0;generalize w.alloc (.cells #[.int .i64 x.1,.int .i64 x.2] 214)=w0 at*
 refine av [0,3,7,8] (fun n p o=>∃k:Nat,k<=l.length/\n=l.length-k/\p=[.slice a l.length c,.pointer (some ⟨w.heap.size,0,none⟩),.int .i64 l.length,.int .i64 k]/\firstIdx (fun y=>x=y) l 0=firstIdx (fun y=>x=y) (l.drop k) k/\Below w0.heap.size w0 o) ?_ ?_
 .exact qa8
 rintro X z n p o hX-⟨k,J,rfl,rfl,d,hbel⟩;have Hrel:=zh d;clear d;simp[aX,lk];have g:=Mem_inn_below i hbel;have M:=iI hbel r H;have L:=iI hbel r G;by_cases hlt:k<l.length
 .obtain⟨b,off,rfl,B⟩:=C qdX;obtain⟨F,E,-⟩:=B k hlt;have O:=Mem_cell_w g F;have N:=Mem_cell_w g E;have HD:=zh (lN (fun y=>x=y) l k hlt);have I:=fun w=>Uv x.1 x.2 (l[k].1) (l[k].2) w;have u:=Vh;by_cases f:x=l[k]
  .have j:(x.1==l[k].1)=true:=by simp[<-f]
   have A:(x.2==l[k].2)=true:=by simp[<-f]
   have Hx:=zh f;clear f;go_wp2
   go_quiet (fail)
   exact qcq
  .have j:(x.1==l[k].1&&x.2==l[k].2)=false:=by
    by_cases h:x.1=l[k].1
    .by_cases q:x.2=l[k].2
     .exact absurd (Prod.ext h q) f
     .simp[q]
    .simp[h]
   have Hx:=zh f;clear f;go_wp2
   go_quiet (fail)
   exact qbX
 .exact qdj
def jM(l:aC):Prop:=(∀s∈l,s.aH.length<=10)/\l.length<=8
theorem KG(y:zV)(l:aC)(m:Mem)(w:zW)(G:m.ay w)(H:aQ m y l):
 zX 69 #[.agg #[y]] w (.bool (tf (jM l))):=by
 obtain⟨a,c,rfl,S,J,D⟩:=H;unfold maxLen at J;refine aj fun R A=>?_
 go_enter func69,ntmps69
 go_wp2;refine av [1,6,7,8] (fun n x v=>∃k:Nat,k<=l.length/\n=l.length-k/\x=[.pointer (some ⟨w.heap.size,0,none⟩),.slice a l.length c,.int .i64 l.length,.int .i64 k] /\
  Own w m v m [.obj w.heap.size 27 #[.slice a l.length c]]/\∀j,(h:j<k)->(T:j<l.length)->(l[j]).aH.length<=10) ?_ ?_
 .exact⟨_,0,zG _,rfl,rfl,(Own.start G).al _ _,fun j h=>zo⟩
 rintro X z n x v I-⟨k,P,rfl,rfl,d,g⟩;simp[aX,lk];have F:=zh g;clear g;by_cases hlt:k<l.length
 .obtain⟨b,off,rfl,C⟩:=D qdX;obtain⟨u,O,E,M,L,rfl,V,K,U⟩:=C k hlt;have Z:=Mem_cell_w d.ay u;have Y:=Mem_cell_w d.ay E;have W:=Mem_cell_lt d.ay u;unfold maxLen at K;have q:=zh (d.al' (.cells #[.bool l[k].aZ,.slice M l[k].aH.length L] 80));clear d D C;by_cases f:10<l[k].aH.length
  .have p:decide ((10:Int)<(l[k].aH.length:Int))=true:=zN zo;have N:=zh f;clear f;go_wp2;refine A.o _ _ ⟨aS ?_,q.o.az⟩;rw[aA];intro r;have:=r.1 l[k] (zF hlt);have:=N.o;omega
  .have p:decide ((10:Int)<(l[k].aH.length:Int))=false:=zM zo;go_wp2;refine I.o _ _ _ zo rfl ⟨k+1,zo,rfl,rfl,q.o,fun j Q t=>?_⟩;by_cases e:j=k
   .subst e;omega
   .exact F.o j zo t
 .obtain rfl:k=l.length:=zo;have u:=d.obj.c 0;have E:=d.obj.lt;have q:=zh d;clear d;go_wp2;refine A.o _ _ ⟨aS ?_,q.o.az⟩;by_cases B:l.length<=8
  .rw[zN zo,aO];exact⟨fun s r=>by obtain⟨i,hi,rfl⟩:=yT.1 r;exact F.o i hi hi,B⟩
  .rw[zM zo,aA];exact fun h=>B h.2
theorem bG.eG{m:Mem}{n:Nat}{x:Sl}{v:Vl}(k:bG m n x v):∃o e l d j c h b g a,x=⟨.slice o v.s.i.length e,.slice l v.s.f.length d,.slice j v.s.t.length c,.slice h v.aU.length b,.slice g v.aF.length a⟩ /\
 v.s.i.length<=maxLen/\v.s.f.length<=maxLen/\v.s.t.length<=maxLen/\v.aU.length<=maxLen/\v.aF.length<=maxLen:=by
 cases n with
 |zero=>exact k.elim
 |succ n=>
  obtain⟨⟨⟨o,e,w,M,H,-⟩,⟨l,d,u,L,G,-⟩,⟨j,c,r,K,F,-⟩⟩,⟨h,b,q,J,E,-⟩,⟨g,a,p,I,D,-⟩⟩:=k;obtain⟨C,B,A,z,y⟩:=x;simp only at w u r q p;subst w u r q p;exact⟨o,e,l,d,j,c,h,b,g,a,rfl,zo,zo,zo,zo,zo⟩
theorem bG.sc{m:Mem}{n:Nat}{x:Sl}{v:Vl}(k:bG m n x v):nU m x.i x.f x.t v.s:=by
 cases n with
 |zero=>exact k.elim
 |succ n=>exact k.1
theorem DR(a b:Bool)(w:zW):zX 73 #[.bool a,.bool b] w (.int .i64 (ng a b)):=by
 refine aj fun R hR=>?_;cases a<;>cases b
 all_goals
  go_enter func73,ntmps73
  go_wp2;exact qcm
theorem NW(s:RS):tf (s=fI)=(!s.gY && !s.iF && !s.iZ&&decide ((s.i.length:Int)+s.f.length+s.t.length=0)):=by
 rw[Bool.eq_iff_iff];simp only[xG,Bool.not_eq_true',decide_eq_true_eq,Ap];constructor
 .rintro rfl;exact⟨⟨⟨rfl,rfl⟩,rfl⟩,rfl⟩
 .rintro⟨⟨⟨g,e⟩,d⟩,h⟩;obtain⟨a,b,c,i,f,t⟩:=s;simp only at g e d h;subst g e d;rw[yM (show i.length=0 by omega),yM (show f.length=0 by omega),yM (show t.length=0 by omega)]
  rfl
theorem DL(b c a:zV)(s:RS)(m:Mem)(w:zW)(h:nU m b c a s)(z:s.i.length<=1000000/\s.f.length<=1000000/\s.t.length<=1000000):
 zX 43 #[s.val b c a] w (.bool (tf (s=fI))):=by
 rw[NW];obtain⟨⟨F,C,rfl,y,q,-⟩,⟨E,B,rfl,x,p,-⟩,⟨D,A,rfl,v,n,-⟩⟩:=h;unfold maxLen at q p n;unfold RS.val;generalize s.gY=l;generalize s.iF=k;generalize s.iZ=j;generalize s.i.length=g at*
 generalize s.f.length=d at*
 generalize s.t.length=r at*
 refine aj fun R u=>?_;cases l<;>cases k<;>cases j
 all_goals
  go_enter func43,ntmps43
  go_wp2;exact u.o _ _ ⟨aS (by first|rfl|(simp[wrap64_id (show -9223372036854775808<=(g:Int)+d by omega) zo,wrap64_id (show -9223372036854775808<=(g:Int)+d+r by omega) zo,beq_eq_decide])),bE (zR _ _) _⟩
end Cl
