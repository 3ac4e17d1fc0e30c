/- Lemmas for the proofs of chapter 11. -/
import Derived.Test.YtjhipmdamaocmaaGreatDoorPkN8
set_option maxRecDepth 100000
set_option maxHeartbeats 16000000
namespace Cl
open Go Go.RowKit Go.Proofs
theorem E8 {w w':World} {m m1 mk:Mem} {g:Nat} {arr:Array Value} {vn va:Value} {xn xb:List Value} {ls:List (List Int)} {l:Table}
 (hO:Own w m w' mk [.obj g 263 arr,.row va 4 1 (l.length+1) xb,.row vn 118 1 (l.length+1) xn])
 (hxb:xb=(l.map (·.accept) ++ [false]).map Value.bool)
 (hr:lI mk xn ls) (hls:ls.length=l.length+1) (hle:m1.le mk) :
 ∃mk3,Own w m w' mk3 [.obj g 263 arr]∧m1.le mk3∧mU mk3 vn ls∧iq mk3 va (l.map (·.accept) ++ [false]):=by
 have h1:=hO.swap;have hb:=iV (l:=l.map (·.accept) ++ [false]) (m:=mk) (by rw[← hxb];simpa using h1.row);have h2:=h1.bv.swap;have hr2:=hr.mono (Mem.dG (w:=w') h1.free);have hi:=pU (l:=ls) (by rw[hls];exact h2.row) hr2 h2.free;exact⟨_,h2.bv,Mem.le_trans (Mem.le_trans hle (Mem.dG h1.free)) (Mem.dG h2.free),hi,ji (Mem.dG h2.free) hb⟩
theorem E9 (v0:Value) (l:Table) (m:Mem) (w:World) (hm:m.inn w) (hl:aG m v0 l) (hwf:WF l) (hlen:l.length≤1000000) :
 Calls Tryz.prog 264 #[v0] w fun e w'=>∃g mk vc vn va,e=.returned (.pointer (some ⟨g,0,none⟩))∧Own w m w' mk [.obj g 263 #[vc,vn,va,.slice none 0 0]] ∧
  iy mk vc (bV l 256)∧mU mk vn (nu l (bV l 256) ++ [(bV l 256).map fun _=>(l.length:Int)])∧iq mk va (l.map (·.accept) ++ [false]):=by
 have hcut:=Ri v0 l m w hm hl hwf;have hcle:=mq l 256;have hcrng:=oo l 256;generalize bV l 256=cuts at *
 obtain⟨a,c,rfl,h1,h2,h3⟩:=hl;unfold maxLen at h2;refine aj fun R hR=>?_
 go_enter Tryz.func264,Tryz.ntmps264
 go_wp2_with fail
 refine hcut.mono ?_;rintro e w1 ⟨r,rfl,hb1,hr1⟩;have hO0:=(Own.start hm).call hb1;obtain⟨ca,cc,rfl,c2,c3,c4⟩:=hr1;have hr1:iy (m.grow w w1) (.slice ca cuts.length cc) cuts:=⟨ca,cc,rfl,c2,c3,c4⟩;have hO1:=((hO0.al #[.slice ca cuts.length cc,.slice none 0 0,.slice none 0 0,.slice none 0 0] 263));go_wp2;refine au [0,3,4,20,21,22] (fun n vs wr=>∃(k:Nat) (vn va:Value) (xn:List Value) (mk:Mem),k≤l.length∧n=l.length - k∧vs=[.slice a l.length c,.pointer (some ⟨w1.heap.size,0,none⟩),.int .i64 l.length,.slice a l.length c,.int .i64 l.length,.int .i64 k] ∧
  Own w m wr mk [.obj w1.heap.size 263 #[.slice ca cuts.length cc,vn,va,.slice none 0 0],.row vn 118 1 k xn,.row va 4 1 k (((l.take k).map (·.accept)).map Value.bool)] ∧
  lI mk xn ((l.take k).map fun s=>nk l.length cuts s.edges)∧(m.grow w w1).le mk) ?_ ?_
 ·refine ⟨_,0,.slice none 0 0,.slice none 0 0,[],_,zC _,rfl,rfl,?_,lI.nil _,Mem.le_refl _⟩;exact ((hO1.dI 4 1).dI 118 1).third
 rintro X z n vs wr hX - ⟨k,vn,va,xn,mk,hk,rfl,rfl,hO,hrow,hmk⟩;simp[litL,lk];have hmr:=Mem.cK hO.ext.le hO.inn;have hcr:=fH hmk hr1;have q0:=hO.obj.c 0;have q1:=hO.obj.c 1;have q2:=hO.obj.c 2;have ql:=hO.obj.lt;by_cases hlt:k<l.length
 ·obtain⟨b,off,rfl,h4⟩:=h3 (by intro h;simp[h] at hlt);obtain⟨g1,ve,g2,ea,ec,rfl,g4,g5,g6⟩:=h4 k hlt;have hc1:=Mem.ak hmr g1;have hc2:=Mem.ak hmr g2;have hb:=Mem.ay hmr g1;have hws:=hwf l[k] (zB hlt);have Htake:=zh (zF hlt);generalize l[k]=s at *
  unfold maxLen at g5 c3;have hO2:=hO.al #[.bool s.accept,.slice ea s.edges.length ec] 92
  go_wp2_with (refine wpList_make_row AZ rfl (.tmp 30) (.tmp 30) rfl cuts.length rfl rfl zo (by unfold maxLen;omega) ?_)
  intro w2 hown2 hgrow2;have hO3:=hO2.make (by simpa using hown2) hgrow2;rw[D8 (goTo l.length s.edges)] at hO3;clear hown2 hgrow2;have hN:(wr.alloc (.cells #[.bool s.accept,.slice ea s.edges.length ec] 92)).heap.size=wr.heap.size+1:=by simp
  rw[hN] at hO3;clear hN;have p0:=hO3.third.obj.c 0;have pl:=hO3.third.obj.lt;go_wp2;refine au [0,3,4,6,7,20,21,22,35,36,37] (fun n vs w3=>∃(i:Nat),i≤cuts.length∧n=cuts.length - i ∧
   vs=[.slice (some ⟨b,off,none⟩) l.length c,.pointer (some ⟨w1.heap.size,0,none⟩),.int .i64 l.length,.pointer (some ⟨wr.heap.size,0,none⟩),.slice (some ⟨wr.heap.size+1,0,none⟩) cuts.length cuts.length,.slice (some ⟨b,off,none⟩) l.length c,.int .i64 l.length,.int .i64 k,.slice ca cuts.length cc,.int .i64 cuts.length,.int .i64 i] ∧
   Own w m w3 mk [.row (.slice (some ⟨wr.heap.size+1,0,none⟩) cuts.length cuts.length) 3 1 cuts.length (part (goTo l.length s.edges) cuts i),
    .obj wr.heap.size 92 #[.bool s.accept,.slice ea s.edges.length ec],.obj w1.heap.size 263 #[.slice ca cuts.length cc,vn,va,.slice none 0 0],.row vn 118 1 k xn,.row va 4 1 k (((l.take k).map (·.accept)).map Value.bool)]) ?_ ?_
  ·exact⟨_,0,zC _,rfl,rfl,hO3⟩
  rintro Y z2 n vs w3 hY - ⟨i,hi,rfl,rfl,hO4⟩;simp[litL,lk];by_cases hlt2:i<cuts.length
  ·obtain⟨cb,co,rfl,c5⟩:=c4 (by intro h;simp[h] at hlt2);have hcv:=(c5 i hlt2).1;have hcw:=Mem.ak hO4.inn (Mem.aB hmk hcv);have hrng:=hcrng cuts[i] (zB hlt2);obtain⟨cv,hcve⟩:=zQ hrng.1;have k1:=aT (j:=i) (u:=.int .i64 0) hO4.row (IG hlt2);have k2:=dh hO4.row i;have k3:=hO4.swap.obj.c 1;have k4:=hO4.swap.obj.lt;have hO5:=hO4.setRow i (.int .i64 l.length);rw[IE hlt2] at hO5;have HO5:=zh hO5;clear hO5;go_wp2;refine au [0,3,4,6,7,8,9,20,21,22,35,36,37,47,48,49] (fun n vs w4=>∃(j:Nat),j≤s.edges.length∧n=s.edges.length - j ∧
    vs=[.slice (some ⟨b,off,none⟩) l.length c,.pointer (some ⟨w1.heap.size,0,none⟩),.int .i64 l.length,.pointer (some ⟨wr.heap.size,0,none⟩),.slice (some ⟨wr.heap.size+1,0,none⟩) cuts.length cuts.length,.int .i64 i,.int .i64 cv,.slice (some ⟨b,off,none⟩) l.length c,.int .i64 l.length,.int .i64 k,.slice (some ⟨cb,co,none⟩) cuts.length cc,.int .i64 cuts.length,.int .i64 i,
     .slice ea s.edges.length ec,.int .i64 s.edges.length,.int .i64 j] ∧
    Own w m w4 mk [.row (.slice (some ⟨wr.heap.size+1,0,none⟩) cuts.length cuts.length) 3 1 cuts.length (wQ (goTo l.length s.edges) cuts i (goTo l.length (s.edges.take j) cv)),
     .obj wr.heap.size 92 #[.bool s.accept,.slice ea s.edges.length ec],.obj w1.heap.size 263 #[.slice (some ⟨cb,co,none⟩) cuts.length cc,vn,va,.slice none 0 0],.row vn 118 1 k xn,.row va 4 1 k (((l.take k).map (·.accept)).map Value.bool)]) ?_ ?_
   ·refine ⟨_,0,zC _,rfl,rfl,?_⟩;have:goTo l.length (s.edges.take 0) cv=(l.length:Int):=by simp[goTo,aY]
    rw[this];exact HO5.out
   rintro Z z3 n vs w4 hZ - ⟨j,hj,rfl,rfl,hO6⟩;simp[litL,lk];by_cases hlt3:j<s.edges.length
   ·obtain⟨b',off',rfl,h10⟩:=g6 (by intro h;simp[h] at hlt3);obtain⟨e1,e2,e3,e4,e5,-⟩:=h10 j hlt3;have hm4:=Mem.cK hO6.ext.le hO6.inn;have d1:=Mem.ak hm4 e1;have d2:=Mem.ak hm4 e2;have d3:=Mem.ak hm4 e3;have hb4:=Mem.ay hm4 e1;have Hgo:=zh (Ns hws hlt3 cv);have x1:=aT (j:=i) hO6.row (Ea hlt2 _);have x2:=dh hO6.row i;have x3:=hO6.swap.obj.lt;have x4:wr.heap.size+1<w4.heap.size:=(World.ownsRow.lt hO6.row _ rfl).2;go_wp2
    ·refine hZ.out _ _ _ zo rfl ⟨j+1,zo,rfl,rfl,?_⟩;rw[Hgo.out,zI ⟨by rw[Int.toNat_natCast];assumption,by rw[Int.toNat_natCast];assumption⟩,← D9 hlt2 (goTo l.length (s.edges.take j) cv)];exact (hO6.setRow i _).al' _
    ·refine hZ.out _ _ _ zo rfl ⟨j+1,zo,rfl,rfl,?_⟩;rw[Hgo.out,zH (by rw[Int.toNat_natCast];omega)];exact hO6.al' _
    ·refine hZ.out _ _ _ zo rfl ⟨j+1,zo,rfl,rfl,?_⟩;rw[Hgo.out,zH (by rw[Int.toNat_natCast];omega)];exact hO6.al' _
   ·go_wp2;refine hY.out _ _ _ zo rfl ⟨i+1,zo,rfl,rfl,?_⟩;rw[List.take_of_length_le (l:=s.edges) (i:=j) zo,← hcve,AC hlt2] at hO6;exact hO6
  ·obtain rfl:i=cuts.length:=zo;rw[IJ] at hO4;have hin:=dO (l:=nk l.length cuts s.edges) (m:=mk) (by simpa [nk] using hO4.row) (fun x hx=>by have:=r9 hws cuts x hx;omega);have hrow2:=(hrow.mono (Mem.dG (w:=w3) hO4.free)).push hin;have hmk2:=Mem.le_trans hmk (Mem.dG (w:=w3) hO4.free);have hO8:=hO4.bv.al #[.slice (some ⟨wr.heap.size+1,0,none⟩) cuts.length cuts.length] 118;generalize mk.addv w3 (.slice (some ⟨wr.heap.size+1,0,none⟩) cuts.length cuts.length)=mk2 at *
   have y1:=hO4.third.obj.c 1;have yl:=hO4.third.obj.lt;clear hO4
   go_wp2_with (at_builtin;refine aA FB rfl (.tmp 76) (.tmp 78) rfl vn k xn rfl hO8.fourth.row ⟨w3.heap.size,0,none⟩ 1 1 [.slice (some ⟨wr.heap.size+1,0,none⟩) cuts.length cuts.length] rfl rfl (hO8.obj.news rfl) (by simp[Value.oneCell']) (by unfold maxLen;omega) zo ?_)
   intro na nc w5 hown5 hgrow5 hrow5;have hO9:=hO8.fourth.app hown5 hgrow5 hrow5 zS;clear hown5 hgrow5 hrow5 hO8;have hO10:=(hO9.fourth.set 1 (.slice na (k+1) nc)).kV;have u1:=hO9.fourth.obj.c 1;have u2:=hO9.fourth.obj.frozen 1;have ul:=hO9.fourth.obj.lt;have HO10:=zh hO10;clear hO10 hO9;go_wp2;have hO11:Own w m (w5.setCell ⟨w1.heap.size,1,none⟩ (.slice na (k+1) nc)) mk2 [.obj w1.heap.size 263 #[.slice ca cuts.length cc,.slice na (k+1) nc,va,.slice none 0 0],.row (.slice na (k+1) nc) 118 1 (k+1) (xn ++ [.slice (some ⟨wr.heap.size+1,0,none⟩) cuts.length cuts.length]),
    .obj wr.heap.size 92 #[.bool s.accept,.slice ea s.edges.length ec],.row va 4 1 k (((l.take k).map (·.accept)).map Value.bool)]:=HO10.out
   clear HO10;generalize w5.setCell ⟨w1.heap.size,1,none⟩ (.slice na (k+1) nc)=w6 at *
   have hO12:=(hO11.fourth.al #[.bool s.accept] 4).dr;refine fo (fun w'=>bE w' w1.heap.size 263 #[.slice ca cuts.length cc,.slice na (k+1) nc,va,.slice none 0 0]∧bE w' wr.heap.size 92 #[.bool s.accept,.slice ea s.edges.length ec]) 11 zk ?_;have hS:=zi (hO11.dr.obj) (hO11.dr.third.obj);refine az 0 rfl zk (fun _ _ _ h=>h) hS (av rfl fun w' hS'=>by have q:=hS'.1.cell (i:=2) rfl;have q1:=hS'.2.cell (i:=0) rfl;go_simp;rfl) ?_;refine az 1 rfl zk (fun _ _ _ h=>h) hS (av rfl fun w' hS'=>by have q:=hS'.1.cell (i:=2) rfl;have q1:=hS'.2.cell (i:=0) rfl;go_simp;rfl) ?_;refine az 2 rfl zk (fun _ _ _ h=>h) hS (av rfl fun w' hS'=>by have q:=hS'.1.cell (i:=2) rfl;have q1:=hS'.2.cell (i:=0) rfl;go_simp;rfl) ?_;refine az 3 rfl zk (fun _ _ _ h=>h) hS (av rfl fun w' hS'=>by have q:=hS'.1.cell (i:=2) rfl;have q1:=hS'.2.cell (i:=0) rfl;go_simp;rfl) ?_;refine az 4 rfl zk (fun _ _ _ h=>h) hS (av rfl fun w' hS'=>by have q:=hS'.1.cell (i:=2) rfl;have q1:=hS'.2.cell (i:=0) rfl;go_simp;rfl) ?_;refine az 5 rfl zk (fun _ _ _ h=>h) hS (av rfl fun w' hS'=>by have q:=hS'.1.cell (i:=2) rfl;have q1:=hS'.2.cell (i:=0) rfl;go_simp;rfl) ?_;refine az 6 rfl zk (fun _ _ _ h=>h) hS (av rfl fun w' hS'=>by have q:=hS'.1.cell (i:=2) rfl;have q1:=hS'.2.cell (i:=0) rfl;go_simp;rfl) ?_;refine aH 7 zk (aF rfl rfl (aP (by go_simp;exact⟨rfl,rfl⟩) (andS (zi (hS.1.al _) (hS.2.al _)) fun hS1=>?_)));go_simp;have hla:(((l.take k).map (·.accept)).map Value.bool).length=k:=by simp;omega
   refine aH 8 zk (aF rfl rfl (dR FC (.tmp 86) (.tmp 89) rfl va k _ rfl hO12.swap.row ⟨w6.heap.size,0,none⟩ 1 1 [.bool s.accept] rfl rfl (hO12.obj.news rfl) (by simp[Value.oneCell']) (by unfold maxLen;omega) zo (fun aa ac w7 hown7 hgrow7 hrow7=>?_)));have hO14:=hO12.swap.app hown7 hgrow7 hrow7 (zG _);refine andS (zi hO14.third.obj (hO14.at (g:=wr.heap.size) (t:=92) (arr:=#[.bool s.accept,.slice ea s.edges.length ec]) zS)) fun hS3=>?_;refine aH 9 zk (aF rfl rfl (aP (by go_simp;first | exact⟨rfl,rfl⟩ | rfl) (andS hS3 fun _=>?_)));refine aH 10 zk (aF rfl rfl (aP (by go_simp;first | exact⟨rfl,rfl⟩ | rfl) (andS hS3 fun _=>?_)));have f3:=hS3.1.frozen 2;have c3:=hS3.1.cell (i:=2) rfl;refine aH 11 zk (aF rfl rfl (aZ (by go_simp;rfl) (iP rfl ?_)));refine dE zk ?_ _;have hO15:=((hO14.third.set 2 (.slice aa (k+1) ac)).kV.Sb).RL;have Hfin:=zh (zi hO15 (zi hrow2 hmk2));clear hO15 hrow2 hmk2 hO14 hO12 hO11 hO hown7 hgrow7 hrow7 hS hS1 hS3 f3 c3 hrow;go_wp2;refine hX.out _ _ _ zo rfl ⟨k+1,.slice na (k+1) nc,.slice aa (k+1) ac,xn ++ [.slice (some ⟨wr.heap.size+1,0,none⟩) cuts.length cuts.length],mk2,zo,rfl,rfl,?_,?_,Hfin.out.2.2⟩
   ·have:=Hfin.out.1;rw[Htake.out];simpa using this
   ·rw[Htake.out,yD];exact Hfin.out.2.1
 ·obtain rfl:k=l.length:=zo;rw[yB] at hO hrow;have hla:((l.map (·.accept)).map Value.bool).length=l.length:=by simp
  have hO2:=hO
  go_wp2_with (refine wpList_make_row AZ rfl (.tmp 98) (.tmp 98) rfl cuts.length rfl rfl zo (by unfold maxLen;omega) ?_)
  intro w2 hown2 hgrow2;have hO3:=hO2.make (by simpa using hown2) hgrow2;rw[D8 (fun _=>(l.length:Int))] at hO3;clear hown2 hgrow2;go_wp2;refine au [0,3,4,12,101,102] (fun n vs w3=>∃(i:Nat),i≤cuts.length∧n=cuts.length - i ∧
   vs=[.slice a l.length c,.pointer (some ⟨w1.heap.size,0,none⟩),.int .i64 l.length,.slice (some ⟨wr.heap.size,0,none⟩) cuts.length cuts.length,.int .i64 cuts.length,.int .i64 i] ∧
   Own w m w3 mk [.row (.slice (some ⟨wr.heap.size,0,none⟩) cuts.length cuts.length) 3 1 cuts.length (part (fun _=>(l.length:Int)) cuts i),
    .obj w1.heap.size 263 #[.slice ca cuts.length cc,vn,va,.slice none 0 0],.row vn 118 1 l.length xn,.row va 4 1 l.length ((l.map (·.accept)).map Value.bool)]) ?_ ?_
  ·exact⟨_,0,zC _,rfl,rfl,hO3⟩
  rintro Y z2 n vs w3 hY - ⟨i,hi,rfl,rfl,hO4⟩;simp[litL,lk];by_cases hlt2:i<cuts.length
  ·have k1:=aT (j:=i) (u:=.int .i64 0) hO4.row (IG hlt2);have k2:=dh hO4.row i;have hO5:=hO4.setRow i (.int .i64 l.length);rw[IE hlt2] at hO5;have e5:=AC (f:=fun _=>(l.length:Int)) hlt2;rw[e5] at hO5;have HO5:=zh hO5;clear hO5 e5;go_wp2;exact hY.out _ _ _ zo rfl ⟨i+1,zo,rfl,rfl,HO5.out⟩
  ·obtain rfl:i=cuts.length:=zo;rw[IJ] at hO4;have hin:=dO (l:=cuts.map fun _=>(l.length:Int)) (m:=mk) (by simpa using hO4.row) (fun x hx=>by
    obtain⟨y,-,rfl⟩:=List.mem_map.1 hx;omega)
   have hrow2:=(hrow.mono (Mem.dG (w:=w3) hO4.free)).push hin;have hmk2:=Mem.le_trans hmk (Mem.dG (w:=w3) hO4.free);have hO8:=hO4.bv.al #[.slice (some ⟨wr.heap.size,0,none⟩) cuts.length cuts.length] 118;generalize mk.addv w3 (.slice (some ⟨wr.heap.size,0,none⟩) cuts.length cuts.length)=mk2 at *
   have y1:=hO4.swap.obj.c 1;have yl:=hO4.swap.obj.lt;clear hO4
   go_wp2_with (at_builtin;refine aA FB rfl (.tmp 114) (.tmp 116) rfl vn l.length xn rfl hO8.third.row ⟨w3.heap.size,0,none⟩ 1 1 [.slice (some ⟨wr.heap.size,0,none⟩) cuts.length cuts.length] rfl rfl (hO8.obj.news rfl) (by simp[Value.oneCell']) (by unfold maxLen;omega) zo ?_)
   intro na nc w5 hown5 hgrow5 hrow5;have hO9:=hO8.third.app hown5 hgrow5 hrow5 zS;clear hown5 hgrow5 hrow5 hO8;have hO10:=(hO9.third.set 1 (.slice na (l.length+1) nc)).kV;have u1:=hO9.third.obj.c 1;have u2:=hO9.third.obj.frozen 1;have u3:=hO9.third.obj.c 2;have ul:=hO9.third.obj.lt;have hO11:Own w m (w5.setCell ⟨w1.heap.size,1,none⟩ (.slice na (l.length+1) nc)) mk2 [.obj w1.heap.size 263 #[.slice ca cuts.length cc,.slice na (l.length+1) nc,va,.slice none 0 0],.row (.slice na (l.length+1) nc) 118 1 (l.length+1) (xn ++ [.slice (some ⟨wr.heap.size,0,none⟩) cuts.length cuts.length]),
    .row va 4 1 l.length ((l.map (·.accept)).map Value.bool)]:=hO10
   have HO11:=zh hO11;clear hO10 hO9 hO11;have hO12:=HO11.out.al #[.bool false] 4;have hsz:=hO12.obj.news rfl;rw[World.size_setCell] at hO12 hsz;have hO13:=zh hO12;clear hO12
   go_wp2_with (at_builtin;refine aA FC rfl (.tmp 124) (.tmp 125) rfl va l.length _ rfl hO13.out.fourth.row ⟨w5.heap.size,0,none⟩ 1 1 [.bool false] rfl rfl hsz (by simp[Value.oneCell']) (by unfold maxLen;omega) zo ?_)
   intro aa ac w7 hown7 hgrow7 hrow7;have hO14:=hO13.out.fourth.app hown7 hgrow7 hrow7 zS;clear hown7 hgrow7 hrow7 hsz HO11;have v1:=hO14.third.obj.c 2;have v2:=hO14.third.obj.frozen 2;have vl:=hO14.third.obj.lt;have hO15:=(hO14.third.set 2 (.slice aa (l.length+1) ac)).kV;have HO15:=zh hO15;clear hO15 hO14 hO13;go_wp2;have hO15:=HO15.out;obtain⟨mk3,z1,z2,z3,z4⟩:=E8 (arr:=#[.slice ca cuts.length cc,.slice na (l.length+1) nc,.slice aa (l.length+1) ac,.slice none 0 0]) (l:=l) hO15 zS hrow2 (by simp) hmk2;exact hR.out _ _ ⟨w1.heap.size,mk3,_,_,_,rfl,z1,fH z2 hr1,z3,z4⟩
structure Rx (l C:Table):Prop where
 canon:Canon C
 lang:∀x,aC C 0 x=aC l 0 x
theorem bC (m:Mem):aG m (.slice none 0 0) []:=⟨none,0,rfl,zG _,by simp[maxLen],fun h=>absurd rfl h⟩
theorem nA (v0:Value) (l:Table) (m:Mem) (w:World) (hm:m.inn w) (htab:TabM m) (hl:aG m v0 l) (hlen:l.length≤1000000) :
 Calls Tryz.prog 208 #[v0] w fun e w'=>∃r C,e=.returned (.tuple #[.agg #[r],.int .i64 (if tf (WF l)=true then 0 else 11)])∧Below w.heap.size w w'∧aG (m.grow w w') r C∧C.length≤l.length+1 ∧
  (WF l→Rx l C)∧(¬ WF l→C=[]):=by
 have hl0:=hl;obtain⟨a,c,rfl,h1,h2,h3⟩:=hl;unfold maxLen at h2;have HW:=zh (fun w (hw:m.inn w)=>yX (.slice a l.length c) l m w hw hl0);refine aj fun R hR=>?_;have hO:=(Own.start hm).al #[.slice none 0 0] 27;have HO:=zh hO;clear hO
 go_enter Tryz.func208,Tryz.ntmps208
 go_wp2_with fail
 refine (HW.out _ (Mem.cK HO.out.ext.le HO.out.inn)).mono ?_;rintro e w1 ⟨rfl,hb1⟩;have hO1:=HO.out.move hb1;clear HO hb1;by_cases hwf:WF l
 ·rw[aN hwf];by_cases h0:l.length=0
  ·have hln:l=[]:=yH h0;have hO2:=hO1.set 0 (.slice none 0 0);have g1:=hO1.obj.c 0;have g2:=hO1.obj.frozen 0;have g3:=hO1.obj.lt;have g4:=hO2.obj.c 0;have Hk:=zh (zi hO2 hln);have hdec:((l.length:Int)==0)=true:=by simp[h0]
   clear hO1 hO2 hln h0;go_wp2;refine yQ (v:=.tuple #[.agg #[.slice none 0 0],.int .i64 0]) (by simp[results,Tryz.results208,go_sem,g1]) rfl ?_;refine hR.out _ _ ⟨_,[],by rw[aN hwf];rfl,Hk.out.1.below,bC _,zS,fun _=>⟨dM,fun x=>?_⟩,fun _=>rfl⟩;rw[Hk.out.2]
  ·have hdec:((l.length:Int)==0)=false:=beq_eq_false_iff_ne.2 zo;have HC:=zh (E9 (.slice a l.length c) l m w1 (Mem.cK hO1.ext.le hO1.inn) hl0 hwf hlen);have HO1:=zh hO1;clear hO1
   go_wp2_with fail
   refine HC.out.mono ?_;rintro e w2 ⟨g,mk,vc,vn,va,rfl,hO2,k1,k2,k3⟩;have hO3:=HO1.out.join hO2;have hle:=hO2.ext.le;have hH:=Cz hwf hlen;have HR:=zh (J2 g vc vn va l (bV l 256) (fM l (bV l 256)) (l.map (·.accept) ++ [false]) _ _ hH m mk w w2 [.obj w.heap.size 27 #[.slice none 0 0]] (htab.le hle) hO3 k2 k3);clear hO3 hO2 HC HO1
   go_wp2_with fail
   refine HR.out.mono ?_;rintro e w3 ⟨mk2,vk,cls,rfl,hO4,hle2,k4,hcls⟩;have q0:=hO4.obj.c 0;have hO5:=hO4.iY;have hle3:=Mem.jE (w:=w3) hO4.iO;have htabAt:TabAt (mk2.add w3 g) g (bV l 256) (fM l (bV l 256)) (l.map (·.accept) ++ [false]) cls:=by
    refine ⟨vc,vn,va,vk,Mem.bW hO4.obj rfl,Mem.bW hO4.obj rfl,Mem.bW hO4.obj rfl,Mem.bW hO4.obj rfl,?_,?_,?_,?_⟩
    ·exact fH (Mem.le_trans hle2 hle3) k1
    ·exact o6 (Mem.le_trans hle2 hle3) k2
    ·exact ji (Mem.le_trans hle2 hle3) k3
    ·exact fH hle3 k4
   have HN:=zh (CE g l (bV l 256) (fM l (bV l 256)) (l.map (·.accept) ++ [false]) cls _ _ hH (rZ l) hcls
    (fun lv hlv hh=>H5 hwf hlen hcls hlv hh) (fun lv hlv hh=>EY hwf hlen hcls hlv hh) (mk2.add w3 g) w3 hO5.inn htabAt)
   have HO5:=zh hO5;clear hO5 hO4 HR htabAt hH q0
   go_wp2_with fail
   refine HN.out.mono ?_;rintro e w4 ⟨r,C,rfl,hb4,hst,hcan,hlang,hClen⟩;have hO6:=HO5.out.call hb4;obtain⟨ra,rc,rfl⟩:∃ra rc,r=.slice ra C.length rc:=by obtain⟨x,y,e,-⟩:=hst;exact⟨x,y,e⟩
   have g1:=hO6.obj.c 0;have g2:=hO6.obj.frozen 0;have g3:=hO6.obj.lt;have hO7:=hO6.set 0 (.slice ra C.length rc);have g4:=hO7.obj.c 0;have hfin:=aJ hO7.done hst;rw[lG] at hClen;have Hk:=zh (zi hO7.below (zi hfin (zi hcan (zi hlang hClen))));clear hO7 hO6 hfin hcan hlang hst hClen HO5;go_wp2;refine yQ (v:=.tuple #[.agg #[.slice ra C.length rc],.int .i64 0]) (by simp[results,Tryz.results208,go_sem,g4]) rfl ?_;exact hR.out _ _ ⟨_,C,by rw[aN hwf];rfl,Hk.out.1,Hk.out.2.1,Hk.out.2.2.2.2,fun _=>⟨Hk.out.2.2.1,Hk.out.2.2.2.1⟩,fun h=>absurd hwf h⟩
 ·rw[aK hwf];have hO2:=hO1.set 0 (.slice none 0 0);have g1:=hO1.obj.c 0;have g2:=hO1.obj.frozen 0;have g3:=hO1.obj.lt;have g4:=hO2.obj.c 0;have Hk:=zh (zi hO2 hwf);clear hO1 hO2 hwf;go_wp2;refine yQ (v:=.tuple #[.agg #[.slice none 0 0],.int .i64 11]) (by simp[results,Tryz.results208,go_sem,g1]) rfl ?_;exact hR.out _ _ ⟨_,[],by rw[aK Hk.out.2];rfl,Hk.out.1.below,bC _,zS,fun h=>absurd h Hk.out.2,fun _=>rfl⟩
noncomputable def bT (l:Table):Table:=if tf (Canon l)=true then l else []
theorem gU (l:Table):Canon (bT l):=by
 unfold bT
 split
 ·rename_i h;exact Di.1 h
 ·exact dM
theorem I9 {l:Table} (h:Canon l):bT l=l:=by simp[bT,aN h]
theorem iE (l:Table):(bT l).length≤l.length:=by
 unfold bT;split <;> simp
theorem sD {l C:Table} (h1:WF l→Rx l C) (hw:WF l):Canon l↔l=C:=
 ⟨fun h=>lH h (h1 hw).canon fun x=>((h1 hw).lang x).symm,fun h=>by rw[h];exact (h1 hw).canon⟩
theorem ym (v0:Value) (l:Table) (m:Mem) (w:World) (hm:m.inn w) (htab:TabM m) (hl:aG m v0 l) (hlen:l.length≤1000000) :
 Calls Tryz.prog 141 #[.agg #[v0]] w fun e w'=>e=.returned (.bool (tf (Canon l)))∧Below w.heap.size w w':=by
 have hl0:=hl;obtain⟨a,c,rfl,h1,h2,h3⟩:=hl;refine aj fun R hR=>?_;have hO:=(Own.start hm).al #[.slice a l.length c] 27;have HM:=zh (nA (.slice a l.length c) l m _ hO.inn htab hl0 hlen);have HO:=zh hO;clear hO
 go_enter Tryz.func141,Tryz.ntmps141
 go_wp2_with fail
 refine HM.out.mono ?_;rintro e w1 ⟨r,C,rfl,hb1,hst,hClen,hmin,hnot⟩;have hO1:=HO.out.call hb1;have hle:=hO1.ext.le;obtain⟨ra,rc,rfl⟩:∃ra rc,r=.slice ra C.length rc:=by obtain⟨x,y,e,-⟩:=hst;exact⟨x,y,e⟩
 have hO2:=hO1.al #[.slice ra C.length rc] 27;have g1:=hO2.swap.obj.c 0;have g2:=hO2.swap.obj.lt;have HS:=zh (Lc (.slice a l.length c) (.slice ra C.length rc) l C _ _ hO2.inn (aJ hle hl0) hst);have HO2:=zh hO2;clear hO1 hO2 HM HO;by_cases hwf:WF l
 ·rw[aN hwf];have hci:=sD hmin hwf;have Hk:=zh (zi hci (zi hmin hnot));clear hmin hnot hci
  go_wp2_with fail
  refine HS.out.mono ?_;rintro e w3 ⟨rfl,hb3⟩;have hb4:=(HO2.out.move hb3).below;go_wp2;exact hR.out _ _ ⟨aL (by rw[fK Hk.out.1]),hb4⟩
 ·rw[aK hwf];have Hk:=zh (zi hwf (zi hmin hnot));clear hmin hnot hwf;go_wp2;exact hR.out _ _ ⟨aL (by rw[aK (fun h=>Hk.out.1 h.wf)]),HO2.out.below⟩
theorem mW (v0:Value) (l:Table) (m:Mem) (w:World) (hm:m.inn w) (htab:TabM m) (hl:aG m v0 l) (hlen:l.length≤1000000) :
 Calls Tryz.prog 160 #[.agg #[v0]] w fun e w'=>∃r,e=.returned (.agg #[r])∧Below w.heap.size w w'∧aG (m.grow w w') r (bT l):=by
 have hl0:=hl;obtain⟨a,c,rfl,h1,h2,h3⟩:=hl;refine aj fun R hR=>?_;have hO:=((Own.start hm).al #[.slice a l.length c] 27).al #[.slice none 0 0] 27;have hsz:(w.alloc (.cells #[.slice a l.length c] 27)).heap.size=w.heap.size+1:=by simp
 rw[hsz] at hO;have HV:=zh (ym (.slice a l.length c) l m _ hO.inn htab hl0 hlen);have HO:=zh hO;clear hO hsz
 go_enter Tryz.func160,Tryz.ntmps160
 go_wp2_with fail
 refine HV.out.mono ?_;rintro e w1 ⟨rfl,hb1⟩;have hO1:=HO.out.move hb1;have g1:=hO1.swap.obj.c 0;have g2:=hO1.obj.c 0;have g3:=hO1.obj.frozen 0;have g4:=hO1.obj.lt;clear HO HV hb1;by_cases hc:Canon l
 ·have hO2:=hO1.set 0 (.slice a l.length c);have g5:=hO2.obj.c 0;have Hk:=zh (zi hO2 hc);rw[aN hc];clear hO1 hO2 hc;go_wp2;refine yQ (v:=.agg #[.slice a l.length c]) (by simp[results,Tryz.results160,go_sem,g5]) rfl ?_;exact hR.out _ _ ⟨_,rfl,Hk.out.1.below,by rw[I9 Hk.out.2];exact aJ Hk.out.1.done hl0⟩
 ·have hO2:=hO1.set 0 (.slice none 0 0);have g5:=hO2.obj.c 0;have Hk:=zh (zi hO2 hc);rw[aK hc];clear hO1 hO2 hc;go_wp2;refine yQ (v:=.agg #[.slice none 0 0]) (by simp[results,Tryz.results160,go_sem,g2]) rfl ?_;exact hR.out _ _ ⟨_,rfl,Hk.out.1.below,by rw[bT,aK Hk.out.2];exact bC _⟩
theorem vN {m:Mem} {v:Value} {l:Table} (h:aG m v l):Bytes l:=by
 obtain⟨a,c,-,-,-,h4⟩:=h;intro s hs;obtain⟨b,off,-,h5⟩:=h4 (List.ne_nil_of_mem hs);obtain⟨i,hi,rfl⟩:=List.mem_iff_getElem.1 hs;obtain⟨-,ve,-,h6⟩:=h5 i hi;obtain⟨a',c',-,-,-,h7⟩:=h6;intro e he;obtain⟨b',off',-,h8⟩:=h7 (List.ne_nil_of_mem he);obtain⟨j,hj,rfl⟩:=List.mem_iff_getElem.1 he;exact⟨(h8 j hj).2.2.2.1,(h8 j hj).2.2.2.2.1⟩
theorem Fs (v0:Value) (l:Table) (m:Mem) (w:World) (hm:m.inn w) (hl:aG m v0 l) (hwf:WF l) (hlen:l.length≤1000000) :
 Calls Tryz.prog 232 #[v0] w fun e w'=>∃r out,e=.returned r∧Below w.heap.size w w'∧iq (m.grow w w') r out∧out.length=l.length∧∀s:Nat,s<l.length→(bt out s=true↔Lv l s):=by
 have hby:=vN hl;obtain⟨a,c,rfl,h1,h2,h3⟩:=hl;unfold maxLen at h2;refine aj fun R hR=>?_
 go_enter Tryz.func232,Tryz.ntmps232
 go_wp2_with (refine wpList_make_row Cf rfl (.tmp 9) (.tmp 9) rfl l.length rfl rfl zo (by unfold maxLen;omega) ?_)
 intro w5 hown hgrow;have hO:=(Own.start hm).make hown hgrow;clear hown hgrow;have hrep:List.replicate l.length (Value.bool false)=(List.replicate l.length false).map Value.bool:=by simp
 rw[hrep] at hO;clear hrep;have hR0:=Qa l;generalize hB:w.heap.size=B at *
 generalize List.replicate l.length false=out0 at *
 go_wp2;refine au [0,3,12,13] (fun n vs wr=>∃(r:Nat) (out:List Bool),r≤l.length∧n=l.length - r∧vs=[.slice a l.length c,.slice (some ⟨B,0,none⟩) l.length l.length,.int .i64 l.length,.int .i64 r] ∧
  Own w m wr m [.row (.slice (some ⟨B,0,none⟩) l.length l.length) 4 1 l.length (out.map Value.bool)]∧sM l out r) ?_ ?_
 ·exact⟨_,0,out0,zC _,rfl,rfl,hO,hR0⟩
 clear hO hR0;rintro X z n vs wr hX - ⟨r,out,hr,rfl,rfl,hO,hAR⟩;simp[litL,lk];by_cases hlt:r<l.length
 ·have hst:=Oy hAR.len hAR.sound;have HAR:=zh hAR;clear hAR;go_wp2;refine au [0,3,12,13,15,16,17] (fun n vs wr=>∃(i:Nat) (o:List Bool),i≤l.length∧n=l.length - i∧vs=[.slice a l.length c,.slice (some ⟨B,0,none⟩) l.length l.length,.int .i64 l.length,.int .i64 r,.slice a l.length c,.int .i64 l.length,.int .i64 i] ∧
   Own w m wr m [.row (.slice (some ⟨B,0,none⟩) l.length l.length) 4 1 l.length (o.map Value.bool)]∧uX l out o i (fun _=>False)) ?_ ?_
  ·exact⟨_,0,out,zC _,rfl,rfl,hO,hst⟩
  clear hO hst;rintro Y z2 n vs wr2 hY - ⟨i,o,hi,rfl,rfl,hO,hI⟩;simp[litL,lk];by_cases hlt2:i<l.length
  ·obtain⟨b,off,rfl,h4⟩:=h3 (by intro h;simp[h] at hlt2);obtain⟨g1,ve,g2,ea,ec,rfl,g4,g5,g6⟩:=h4 i hlt2;have hgl:=Mem.ay hO.inn g1;have g1w:=Mem.ak hO.inn g1;have g2w:=Mem.ak hO.inn g2;have hol:=hI.len;have hil:i<o.length:=zo;have d3:=aT (j:=i) (u:=.bool o[i]) hO.row (by simp[hil]);rw[← nH hil] at d3;have d4:=dh hO.row i;have hrl:=(World.ownsRow.lt hO.row _ rfl).2;have hwfl:=hwf l[i] (zB hlt2);have hbyl:=hby l[i] (zB hlt2);have hgl2:l[i]?=some l[i]:=by simp[hlt2]
   have hacc:=eZ l i hlt2;generalize l[i]=st at *
   have hs1:=Jr (C':=fun o'=>bz l i=true∨∃e∈st.edges.take 0,bt o' e.to.toNat=true) hI hlt2 st.accept (fun h=>.inl (hacc.trans h)) (fun h=>⟨[],by simp only[aC];exact hacc.trans h⟩) (fun h=>by
    rcases h with h | ⟨e,he,-⟩
    ·exact .inr (hacc.symm.trans h)
    ·simp at he)
   have hO1:=(hO.setRow i (.bool (bt o i || st.accept))).al #[.bool st.accept,.slice ea st.edges.length ec] 92;have hset:(o.map Value.bool).set i (.bool (bt o i || st.accept))=(o.set i (bt o i || st.accept)).map Value.bool:=by rw[List.map_set]
   rw[hset,World.size_setCell] at hO1;have Hk:=zh (zi hs1 (zi hO1 (zi hwfl (zi hbyl (zi hgl2 hacc)))));clear hs1 hO1 hset hwfl hbyl hgl2 hacc hI hO;generalize hbo:bt o i=bo at *
   unfold maxLen at g5;have Hbo:=zh hbo;clear hbo;generalize hS:wr2.heap.size=S at *
   cases bo
   all_goals
    go_wp2;refine au [0,3,4,5,12,13,15,16,17,34,35,36] (fun n vs wr=>∃(j:Nat) (o':List Bool),j≤st.edges.length∧n=st.edges.length - j ∧
     vs=[.slice (some ⟨b,off,none⟩) l.length c,.slice (some ⟨B,0,none⟩) l.length l.length,.int .i64 i,.pointer (some ⟨S,0,none⟩),.int .i64 l.length,.int .i64 r,.slice (some ⟨b,off,none⟩) l.length c,.int .i64 l.length,.int .i64 i,.slice ea st.edges.length ec,.int .i64 st.edges.length,.int .i64 j] ∧
     Own w m wr m [.row (.slice (some ⟨B,0,none⟩) l.length l.length) 4 1 l.length (o'.map Value.bool)]∧uX l out o' i (fun o''=>bz l i=true∨∃e∈st.edges.take j,bt o'' e.to.toNat=true)) ?_ ?_
    ·exact⟨_,0,_,zC _,rfl,rfl,Hk.out.2.1.tail,Hk.out.1⟩
    clear g1w g2w hgl d3 d4 hrl;rintro Z z3 n vs wr3 hZ - ⟨j,o',hj,rfl,rfl,hO,hI⟩;simp[litL,lk];by_cases hlt3:j<st.edges.length
    ·obtain⟨b',off',rfl,h10⟩:=g6 (by intro h;simp[h] at hlt3);obtain⟨e1,e2,e3,e4,e5,-⟩:=h10 j hlt3;have e1w:=Mem.ak hO.inn e1;have e2w:=Mem.ak hO.inn e2;have e3w:=Mem.ak hO.inn e3;have ebl:=Mem.ay hO.inn e1;have hte:=eU Hk.out.2.2.1 st.edges[j] (zB hlt3);obtain⟨en,hen⟩:=zQ hte.2.1;have hol2:=hI.len;have hst2:=Jr (C':=fun o''=>bz l i=true∨∃e∈st.edges.take (j+1),bt o'' e.to.toNat=true) hI hlt2 (bt o' en) (fun h=>.inr ⟨st,Hk.out.2.2.2.2.1,st.edges[j],zB hlt3,by rw[hen];exact h⟩)
      (fun h=>QV hwf hby Hk.out.2.2.2.2.1 (zB hlt3) (by rw[hen];exact hI.sound en h)) (fun h=>by
       rcases h with h | ⟨e,he,h⟩
       ·exact .inl (.inl h)
       ·rw[zF hlt3] at he;rcases List.mem_append.1 he with h1 | h1
        ·exact .inl (.inr ⟨e,h1,h⟩)
        ·simp only[zU] at h1;subst h1;rw[hen] at h;exact .inr h)
     have hil2:i<o'.length:=zo;have hte2:=hte.2.2;rw[hen] at e3w hte2;have henl:en<o'.length:=zo;have d5:=aT (j:=i) (u:=.bool o'[i]) hO.row (by simp[hil2]);have d6:=aT (j:=en) (u:=.bool o'[en]) hO.row (by simp[henl]);rw[← nH hil2] at d5;rw[← nH henl] at d6;have d7:=dh hO.row i;have drl:=(World.ownsRow.lt hO.row _ rfl).2;have hO1:=(hO.setRow i (.bool (bt o' i || bt o' en)));have hset:(o'.map Value.bool).set i (.bool (bt o' i || bt o' en))=(o'.set i (bt o' i || bt o' en)).map Value.bool:=by rw[List.map_set]
     rw[hset] at hO1;have Hk2:=zh (zi hst2 hO1);clear hst2 hO1 hset hI hO hen;generalize bt o' en=be at *
     generalize hbo2:bt o' i=bo2 at *
     have Hbo2:=zh hbo2;clear hbo2;cases bo2
     all_goals
      go_wp2;exact hZ.out _ _ _ zo rfl ⟨j+1,_,zo,rfl,rfl,Hk2.out.2.al' _,Hk2.out.1⟩
    ·obtain rfl:j=st.edges.length:=zo;have hnx:=Qb hI hlt2 (fun h=>by
      rw[yB];rcases h with h | ⟨st',h1,h2⟩
      ·exact .inl h
      ·rw[Hk.out.2.2.2.2.1] at h1;cases h1;exact .inr h2)
     have Hk2:=zh hnx;clear hnx hI;go_wp2;exact hY.out _ _ _ zo rfl ⟨i+1,o',zo,rfl,rfl,hO,Hk2.out⟩
  ·obtain rfl:i=l.length:=zo;have h1:=zh (Oz HAR.out hI);go_wp2;exact hX.out _ _ _ zo rfl ⟨r+1,o,zo,rfl,rfl,hO,h1.out⟩
 ·obtain rfl:r=l.length:=zo;have h1:=Rt hwf hAR;have hb:=iV (l:=out) (m:=m) (w:=wr) (v:=.slice (some ⟨B,0,none⟩) l.length l.length) (by rw[hAR.len];exact hO.row);have Hk:=zh (zi h1 (zi (ji hO.bv.done hb) (zi hO.below hAR.len)));clear h1 hb hO hAR;go_wp2;exact hR.out _ _ ⟨_,out,rfl,hB ▸ Hk.out.2.2.1,Hk.out.2.1,Hk.out.2.2.2,Hk.out.1⟩
theorem iL {w:World} {t:TypeId} {size:Nat} {a:Option Addr} {n c:Nat} {xs:List Value} (h:w.ownsRow 0 t size (.slice a n c) n xs) (hn:0<n):∃b,a=some ⟨b,0,none⟩:=by
 rcases h.2 with ⟨h,-⟩ | ⟨gg,cap,cur,h,-⟩
 ·injection h with h1 h2 h3;omega
 ·injection h with h1 h2 h3;exact⟨_,h1⟩
theorem nV {o:List Nat} {k:Nat} (h:k<o.length):(cZ o)[k]?=some (.int .i64 (o[k]:Nat)):=by simp[cZ,h]
theorem vw (o:List Nat) (es:List Ed) (e:Ed) (q:Nat):bQ (renE o es ++ [⟨e.lo,e.hi,(q:Int)⟩])=bQ (renE o es) ++ [.int .u8 e.lo,.int .u8 e.hi,.int .i64 q]:=by rw[eT]
theorem FY (v0:Value) (l:Table) (m:Mem) (w:World) (hm:m.inn w) (hl:aG m v0 l) (hwf:WF l) (hlen:l.length≤1000000) (hpos:0<l.length) (hel:∀s∈l,s.edges.length≤1000000) :
 Calls Tryz.prog 234 #[v0] w fun e w'=>∃r o,e=.returned r∧Below w.heap.size w w'∧aG (m.grow w w') r (iC l o o.length)∧nD l o o.length:=by
 have hby:=vN hl;obtain⟨a,c,rfl,h1,h2,h3⟩:=hl;unfold maxLen at h2;obtain⟨b,off,rfl,h4⟩:=h3 (by intro h;simp[h] at hpos);clear h3;refine aj fun R hR=>?_;have hO:=(((Own.start hm).al #[.int .i64 0] 3).P9).dI 92 2;have HO:=zh (zi hO (FZ hpos));clear hO
 go_enter Tryz.func234,Tryz.ntmps234
 go_wp2;refine au [0,3,4,5] (fun n vs wr=>∃(k:Nat) (o:List Nat) (vo vst:Value) (xs:List Value) (mk:Mem),n=l.length - k∧vs=[.slice (some ⟨b,off,none⟩) l.length c,vo,vst,.int .i64 k] ∧
  Own w m wr mk [.row vst 92 2 k xs,.row vo 3 1 o.length (cZ o)]∧jA mk xs (iC l o k)∧nD l o k) ?_ ?_
 ·exact⟨_,0,[0],.slice (some ⟨w.heap.size,0,none⟩) 1 1,.slice none 0 0,[],_,rfl,rfl,HO.out.1,jA.nil _,HO.out.2⟩
 clear HO;rintro X z n vs wr hX - ⟨k,o,vo,vst,xs,mk,rfl,rfl,hO,hrow,hRI⟩;simp[litL,lk];obtain⟨vsta,vstc,rfl⟩:=aM hO.row;obtain⟨voa,voc,rfl⟩:=aM hO.swap.row;have hoN:=wY hRI.nodup hRI.lt;have hkle:=hRI.le;by_cases hlt:k<o.length
 ·obtain⟨vob,rfl⟩:=iL hO.swap.row zo;have hsN:=hRI.lt _ (zB hlt);have r1:=aT hO.swap.row (nV hlt);obtain⟨g1,ve,g2,ea,ec,rfl,g4,g5,g6⟩:=h4 o[k] hsN;have hmr:=Mem.cK hO.ext.le hO.inn;have g1w:=Mem.ak hmr g1;have g2w:=Mem.ak hmr g2;have hgl:=Mem.ay hmr g1;have rl:=(World.ownsRow.lt hO.swap.row _ rfl).2;have hwfl:=hwf l[o[k]] (zB hsN);have hell:=hel l[o[k]] (zB hsN);have hbyl:=hby l[o[k]] (zB hsN);have hgs:l[o[k]]?=some l[o[k]]:=by simp[hsN]
  have hst0:=Ng hRI (l[o[k]]).edges;have hnext:=fun o'=>J3 hRI hlt hgs (o':=o');have HX:=zh (zi hnext (zi hst0 (zi hwfl hbyl)));clear hnext hst0 hgs hwfl hbyl;generalize l[o[k]]=st at *
  generalize o[k]=s at *
  unfold maxLen at g5;have hO2:=(hO.al #[.bool st.accept,.slice none 0 0] 92).dI 133 3;have HO2:=zh hO2;clear hO2 hO;generalize hS:wr.heap.size=S at *
  go_wp2;refine au [0,4,5,6,3,33,34,35] (fun n vs w2=>∃(j:Nat) (o':List Nat) (vo' vx:Value),j≤st.edges.length∧n=st.edges.length - j ∧
   vs=[.slice (some ⟨b,off,none⟩) l.length c,.slice vsta k vstc,.int .i64 k,.pointer (some ⟨S,0,none⟩),vo',.slice ea st.edges.length ec,.int .i64 st.edges.length,.int .i64 j] ∧
   Own w m w2 mk [.row vx 133 3 j (bQ (renE o' (st.edges.take j))),.obj S 92 #[.bool st.accept,vx],.row (.slice vsta k vstc) 92 2 k xs,.row vo' 3 1 o'.length (cZ o')] ∧
   InR l o st.edges j o') ?_ ?_
  ·exact⟨_,0,o,.slice (some ⟨vob,0,none⟩) o.length voc,.slice none 0 0,zC _,rfl,rfl,HO2.out,HX.out.2.1⟩
  clear HO2 g1w g2w hgl hmr r1 rl;rintro Y z2 n vs w2 hY - ⟨j,o',vo',vx,hj,rfl,rfl,hO,hI⟩;simp[litL,lk];obtain⟨vxa,vxc,rfl⟩:=aM hO.row;obtain⟨voa',voc',rfl⟩:=aM hO.fourth.row;have hoN':=wY hI.nodup hI.lt;have hol':=hI.pre.length_le;by_cases hlt2:j<st.edges.length
  ·obtain⟨b',off',rfl,h10⟩:=g6 (by intro h;simp[h] at hlt2);obtain⟨e1,e2,e3,e4,e5,e6⟩:=h10 j hlt2;have hmr:=Mem.cK hO.ext.le hO.inn;have e1w:=Mem.ak hmr e1;have e2w:=Mem.ak hmr e2;have e3w:=Mem.ak hmr e3;have ebl:=Mem.ay hmr e1;have hte:=eU HX.out.2.2.1 st.edges[j] (zB hlt2);have hstep:=Pz hI hlt2 zo;obtain⟨en,hen⟩:=zQ hte.2.1;have hte2:=hte.2.2;rw[hen] at e3w hte2 hstep;rw[Int.toNat_natCast] at hstep;obtain⟨vob',rfl⟩:=iL hO.fourth.row zo;have HST:=zh hstep;clear hstep hte hen;generalize st.edges[j]=e at *
   have hO2:=hO.al #[.int .u8 e.lo,.int .u8 e.hi,.int .i64 en] 133;have HO2:=zh hO2;have hne:S<w2.heap.size:=hO.swap.obj.lt;clear hO2 hO;generalize hE:w2.heap.size=E at *
   go_wp2;refine au [0,4,5,6,3,33,34,35,8,9] (fun n vs w3=>∃(q:Nat),q≤gH o' en∧n=o'.length - q ∧
    vs=[.slice (some ⟨b,off,none⟩) l.length c,.slice vsta k vstc,.int .i64 k,.pointer (some ⟨S,0,none⟩),.slice (some ⟨vob',0,none⟩) o'.length voc',.slice (some ⟨b',off',none⟩) st.edges.length ec,.int .i64 st.edges.length,.int .i64 j,.pointer (some ⟨E,0,none⟩),.int .i64 q] ∧
    Own w m w3 mk [.obj E 133 #[.int .u8 e.lo,.int .u8 e.hi,.int .i64 en],.row (.slice vxa j vxc) 133 3 j (bQ (renE o' (st.edges.take j))),.obj S 92 #[.bool st.accept,.slice vxa j vxc],.row (.slice vsta k vstc) 92 2 k xs,.row (.slice (some ⟨vob',0,none⟩) o'.length voc') 3 1 o'.length (cZ o')]) ?_ ?_
   ·exact⟨_,0,zC _,rfl,rfl,HO2.out⟩
   clear HO2 e1w e2w e3w ebl hmr;rintro Z z3 n vs w3 hZ - ⟨q,hq,rfl,rfl,hO⟩;simp[litL,lk];have hip:=I7 o' en;have f2:=hO.obj.c 2;have fl:=hO.obj.lt;go_wp2;refine aI [0,4,5,6,3,33,34,35,8,9,51] (fun vs w'=>∃(bb:Bool) (nq:Nat),vs=[.slice (some ⟨b,off,none⟩) l.length c,.slice vsta k vstc,.int .i64 k,.pointer (some ⟨S,0,none⟩),.slice (some ⟨vob',0,none⟩) o'.length voc',.slice (some ⟨b',off',none⟩) st.edges.length ec,.int .i64 st.edges.length,.int .i64 j,.pointer (some ⟨E,0,none⟩),.int .i64 q,.bool bb] ∧
    w'=w3.drewN nq∧(bb=true→q<o'.length∧q+1≤gH o' en)∧(bb=false→q=gH o' en)) ?_ ?_
   ·intro V hV;by_cases hq2:q<o'.length
    ·have hnx:=KE hq hq2;have r2:=aT hO.fifth.row (nV hq2);have HN:=zh hnx;clear hnx;generalize o'[q]=y at *
     by_cases hy:y=en
     ·have hne2:((y:Int) != (en:Int))=false:=by simp[hy]
      have HY:=zh hy;clear hy;refine wp_region_quiet_lit zk zk ?_
      repeat (any_goals (first | go_big_quiet_step (fail) | quiet_step (fail) | (refine wpQuiet_step (fun K hK=>?_);go_simp;split <;> (refine hK _ ?_;clear hK K))))
      all_goals (refine wpQuiet_nil ?_;intro _ hw';obtain⟨nq,hw''⟩:=hw';subst hw'')
      all_goals go_wp2
      all_goals refine hV.out _ _ rfl ⟨false,nq,rfl,rfl,(fun h=>by cases h),fun _=>?_⟩
      all_goals
       have:=HN.out;rw[zI HY.out] at this;exact this
     ·have hne2:((y:Int) != (en:Int))=true:=by simp;omega
      have HY:=zh hy;clear hy;refine wp_region_quiet_lit zk zk ?_
      repeat (any_goals (first | go_big_quiet_step (fail) | quiet_step (fail) | (refine wpQuiet_step (fun K hK=>?_);go_simp;split <;> (refine hK _ ?_;clear hK K))))
      all_goals (refine wpQuiet_nil ?_;intro _ hw';obtain⟨nq,hw''⟩:=hw';subst hw'')
      all_goals go_wp2
      all_goals refine hV.out _ _ rfl ⟨true,nq,rfl,rfl,(fun _=>⟨hq2,?_⟩),(fun h=>by cases h)⟩
      all_goals
       have:=HN.out;rw[zH HY.out] at this;exact this
    ·refine wp_region_quiet_lit zk zk ?_
     repeat (any_goals (first | go_big_quiet_step (fail) | quiet_step (fail) | (refine wpQuiet_step (fun K hK=>?_);go_simp;split <;> (refine hK _ ?_;clear hK K))))
     all_goals (refine wpQuiet_nil ?_;intro _ hw';obtain⟨nq,hw''⟩:=hw';subst hw'')
     all_goals go_wp2
     all_goals exact hV.out _ _ rfl ⟨false,nq,rfl,rfl,(fun h=>by cases h),fun _=>zo⟩
   rintro z4 vs w4 - ⟨bb,nq,rfl,rfl,hb1,hb2⟩;simp[litL,lk];have hO2:=hO.drN nq;clear hO f2 fl
   cases bb with
   | true=>
    obtain⟨hq3,hq4⟩:=hb1 rfl;clear hb1 hb2;go_wp2
    exact hZ.out _ _ _ zo rfl ⟨q+1,hq4,rfl,rfl,hO2⟩
   | false=>
    obtain rfl:=hb2 rfl;clear hb1 hb2;have f2:=hO2.obj.c 2;have fl:=hO2.obj.lt
    go_upto_if 57 with (fail)
    refine aI [0,4,5,6,3,33,34,35,8,9] (fun vs w5=>∃vo2:Value,vs=[.slice (some ⟨b,off,none⟩) l.length c,.slice vsta k vstc,.int .i64 k,.pointer (some ⟨S,0,none⟩),vo2,.slice (some ⟨b',off',none⟩) st.edges.length ec,.int .i64 st.edges.length,.int .i64 j,.pointer (some ⟨E,0,none⟩),.int .i64 (gH o' en)] ∧
     Own w m w5 mk [.obj E 133 #[.int .u8 e.lo,.int .u8 e.hi,.int .i64 en],.row (.slice vxa j vxc) 133 3 j (bQ (renE o' (st.edges.take j))),.obj S 92 #[.bool st.accept,.slice vxa j vxc],.row (.slice vsta k vstc) 92 2 k xs,.row vo2 3 1 (nI o' en).length (cZ (nI o' en))]) ?_ ?_
    ·intro V hV;by_cases hfull:gH o' en<o'.length
     ·have hdec:(((gH o' en:Nat):Int)==(o'.length:Int))=false:=beq_eq_false_iff_ne.2 zo;have hia:nI o' en=o':=by unfold nI;rw[zI hfull]
      have Hia:=zh hia;clear hia;go_wp2;refine hV.out _ _ rfl ⟨.slice (some ⟨vob',0,none⟩) o'.length voc',rfl,?_⟩;rw[Hia.out];exact hO2
     ·have hdec:(((gH o' en:Nat):Int)==(o'.length:Int))=true:=beq_iff_eq.2 zo;have hia:nI o' en=o' ++ [en]:=by unfold nI;rw[zH hfull]
      have Hia:=zh hia;have hO3:=hO2.al #[.int .i64 en] 3;clear hia;have hwsz:(w3.drewN nq).heap.size=w3.heap.size:=rfl;rw[hwsz] at hO3;have hnews:=hO3.obj.news rfl
      go_wp2_with (at_builtin;refine aA vV rfl (.tmp 58) (.tmp 61) rfl (.slice (some ⟨vob',0,none⟩) o'.length voc') o'.length (cZ o') rfl (hO3.jY zS) ⟨w3.heap.size,0,none⟩ 1 1 [.int .i64 en] rfl rfl hnews (by simp[Value.oneCell']) (by unfold maxLen;omega) zo ?_)
      intro va vc w7 hown7 hgrow7 hrow7;have hO4:=(hO3.pull (l₁:=[_,_,_,_,_])).app hown7 hgrow7 hrow7 zS;have hO5:=(hO4.vU (l₁:=[_,_,_,_,_])).tail;have HO5:=zh hO5;clear hO5 hO4 hO3 hown7 hgrow7 hrow7 hnews;go_wp2;refine hV.out _ _ rfl ⟨.slice va (o'.length+1) vc,rfl,?_⟩;rw[Hia.out];have:=HO5.out;simpa [cZ] using this
    rintro z5 vs w5 - ⟨vo2,rfl,hO3⟩;simp[litL,lk];have f0:=hO3.obj.c 0;have f1:=hO3.obj.c 1;have fl:=hO3.obj.lt;have x1:=hO3.third.obj.c 1;have xl:=hO3.third.obj.lt;obtain⟨vo2a,vo2c,rfl⟩:=aM (hO3.jY (v:=vo2) (t:=3) (size:=1) (n:=(nI o' en).length) (xs:=cZ (nI o' en)) zS);have hO4:=hO3.tail.al #[.int .u8 e.lo,.int .u8 e.hi,.int .i64 (gH o' en)] 133;have hnews:=hO4.obj.news rfl;clear hO3 hO2
    go_wp2_with (at_builtin;refine aA mF rfl (.tmp 64) (.tmp 71) rfl (.slice vxa j vxc) j (bQ (renE o' (st.edges.take j))) rfl hO4.swap.row ⟨w5.heap.size,0,none⟩ 1 1 [.int .u8 e.lo,.int .u8 e.hi,.int .i64 (gH o' en)] rfl rfl hnews (by simp[Value.oneCell']) (by unfold maxLen;omega) zo ?_)
    intro va vc w7 hown7 hgrow7 hrow7;have hO5:=(hO4.swap.app hown7 hgrow7 hrow7 zS).third;clear hown7 hgrow7 hrow7 hO4 hnews;have u2:=hO5.obj.c 1;have u3:=hO5.obj.frozen 1;have u4:=hO5.obj.lt;have hO6:=((hO5.set 1 (.slice va (j+1) vc)).swap).kV;have HO6:=zh hO6;clear hO6 hO5;go_wp2;refine hY.out _ _ _ zo rfl ⟨j+1,nI o' en,.slice vo2a (nI o' en).length vo2c,.slice va (j+1) vc,zo,rfl,rfl,?_,HST.out.1⟩;rw[HST.out.2,vw];exact HO6.out
  ·obtain rfl:j=st.edges.length:=zo;rw[yB] at hO;have hn:=HX.out.1 o' hI;have hok:∀e∈renE o' st.edges,edOk e:=fun e he=>by
    obtain⟨e0,he0,rfl⟩:=List.mem_map.1 he;have q1:=HX.out.2.2.2 e0 he0;have q2:=I7 o' e0.to.toNat;exact⟨q1.1,q1.2,by show _≤((gH o' e0.to.toNat:Nat):Int);omega,by show ((gH o' e0.to.toNat:Nat):Int)≤_;omega⟩
   have hrl:(renE o' st.edges).length=st.edges.length:=by simp[renE]
   have hes:=fC (m:=mk) (l:=renE o' st.edges) (by rw[hrl];exact hO.row) hok;have hmk2:=Mem.dG (w:=w2) hO.free;have hrow2:=(hrow.mono hmk2).push (s:=⟨st.accept,renE o' st.edges⟩) hes;have hO2:=hO.bv;have x0:=hO2.obj.c 0;have x1:=hO2.obj.c 1;have xl:=hO2.obj.lt;have hO3:=hO2.al #[.bool st.accept,.slice vxa st.edges.length vxc] 92;have Hk2:=zh (zi hrow2 hn);clear hrow2 hes hmk2 hok hrl hn hI;generalize mk.addv w2 (.slice vxa st.edges.length vxc)=mk2 at *
   have hnews:=hO3.obj.news rfl;clear hO hO2
   go_wp2_with (at_builtin;refine aA iJ rfl (.tmp 75) (.tmp 77) rfl (.slice vsta k vstc) k xs rfl hO3.third.row ⟨w2.heap.size,0,none⟩ 1 1 [.bool st.accept,.slice vxa st.edges.length vxc] rfl rfl hnews (by simp[Value.oneCell']) (by unfold maxLen;omega) zo ?_)
   intro va vc w7 hown7 hgrow7 hrow7;have hO4:=((hO3.third.app hown7 hgrow7 hrow7 zS)).drop2.drop2;clear hown7 hgrow7 hrow7 hO3 hnews;go_wp2;refine hX.out _ _ _ zo rfl ⟨k+1,o',.slice voa' o'.length voc',.slice va (k+1) vc,_,mk2,rfl,rfl,hO4,?_,Hk2.out.2.1⟩;rw[Hk2.out.2.2];exact Hk2.out.1
 ·obtain rfl:k=o.length:=zo;have htl:(iC l o o.length).length=o.length:=by simp[iC]
  have hst:=dK (l:=iC l o o.length) (m:=mk) (by rw[htl];exact hO.row) hrow hO.free;have hst2:=aJ hO.bv.done hst;have Hk:=zh (zi hst2 (zi hO.below hRI));clear hst hst2 hO hrow htl hRI;go_wp2;exact hR.out _ _ ⟨_,o,rfl,Hk.out.2.1,Hk.out.1,Hk.out.2.2⟩
theorem KO : (Tryz.prog.fieldsOf 212).toList = [⟨"a", 3, 0, false, "", "configlang/lang", 0⟩, ⟨"b", 3, 1, false, "", "configlang/lang", 8⟩] := by
 kernel_rfl
theorem LX:Tryz.prog.stoodInHeld 212=false:=by kernel_rfl
theorem Nn:Tryz.prog.eqGuardType Tryz.prog.depth 212=false:=by kernel_rfl
theorem Qv:Tryz.prog.underlying 212=some (.struct (Tryz.prog.fieldsOf 212)):=by kernel_rfl
theorem Mw (a b a' b':Int) (w:World):(Op.equalIn 10000 212 (.agg #[.int .i64 a,.int .i64 b]) (.agg #[.int .i64 a',.int .i64 b'])).run Tryz.prog w=.ok (a==a'&&b==b') w:=by
 rw[run_equalIn_agg w 9999 212 _ _ Qv LX,KO];have e2:=fun (d:Nat) (a b:Int) (w:World)=>run_equalIn_int (P:=Tryz.prog) w d 3 .i64 .i64 a b Tryz.underlying3;simp only[Op.eqFields];simp[isAgg,go_sem,e2];by_cases h1:a=a' <;> by_cases h2:b=b' <;> simp[h1,h2]
theorem Ac (v:Value) (l:List (Int × Int)) (x:Int × Int) (m:Mem) (w:World) (hm:m.inn w) (hl:bM m v l) :
 Calls Tryz.prog 258 #[v,.agg #[.int .i64 x.1,.int .i64 x.2]] w fun e w'=>e=.returned (.int .i64 (firstIdx (fun y=>x=y) l 0))∧Below w.heap.size w w':=by
 obtain⟨a,c,rfl,h1,h2,h3⟩:=hl;unfold maxLen at h2;refine aj fun R hR=>?_
 go_enter Tryz.func258,Tryz.ntmps258
 go_wp2;have hb0:Below w.heap.size w (w.alloc (.cells #[.int .i64 x.1,.int .i64 x.2] 212)):=aR (zP _ _) _;have d1:(w.alloc (.cells #[.int .i64 x.1,.int .i64 x.2] 212)).cell? ⟨w.heap.size,0,none⟩=some (.int .i64 x.1):=by simp
 have d2:(w.alloc (.cells #[.int .i64 x.1,.int .i64 x.2] 212)).cell? ⟨w.heap.size,1,none⟩=some (.int .i64 x.2):=by simp
 have d3:w.heap.size<(w.alloc (.cells #[.int .i64 x.1,.int .i64 x.2] 212)).heap.size:=by simp
 have hm0:=Mem.bJ hm hb0;generalize w.alloc (.cells #[.int .i64 x.1,.int .i64 x.2] 212)=w0 at *
 refine au [0,3,7,8] (fun n vs wr=>∃k:Nat,k≤l.length∧n=l.length - k∧vs=[.slice a l.length c,.pointer (some ⟨w.heap.size,0,none⟩),.int .i64 l.length,.int .i64 k]∧firstIdx (fun y=>x=y) l 0=firstIdx (fun y=>x=y) (l.drop k) k∧Below w0.heap.size w0 wr) ?_ ?_
 ·exact⟨_,0,zC _,rfl,rfl,rfl,zP _ _⟩
 rintro X z n vs wr hX - ⟨k,hk,rfl,rfl,hrel,hbel⟩;have Hrel:=zh hrel;clear hrel;simp[litL,lk];have hmr:=Mem.bJ hm0 hbel;have e1:=gu hbel d3 d1;have e2:=gu hbel d3 d2;by_cases hlt:k<l.length
 ·obtain⟨b,off,rfl,h4⟩:=h3 (by intro h;simp[h] at hlt);obtain⟨g1,g2,-⟩:=h4 k hlt;have c1:=Mem.ak hmr g1;have c2:=Mem.ak hmr g2;have HD:=zh (iM (fun y=>x=y) l k hlt);have hq:=fun w=>Mw x.1 x.2 (l[k].1) (l[k].2) w;have hgd:=Nn;by_cases hx:x=l[k]
  ·have hb1:(x.1==l[k].1)=true:=by simp[← hx]
   have hb2:(x.2==l[k].2)=true:=by simp[← hx]
   have Hx:=zh hx;clear hx;go_wp2
   go_quiet (fail)
   go_wp2;exact hR.out _ _ ⟨dB (by rw[Hrel.out,HD.out,zI (aN Hx.out)]),bU hb0 (below_drewN hbel _)⟩
  ·have hb1:(x.1==l[k].1&&x.2==l[k].2)=false:=by
    by_cases h:x.1=l[k].1
    ·by_cases h':x.2=l[k].2
     ·exact absurd (Prod.ext h h') hx
     ·simp[h']
    ·simp[h]
   have Hx:=zh hx;clear hx;go_wp2
   go_quiet (fail)
   go_wp2;exact hX.out _ _ _ zo rfl ⟨k+1,zo,rfl,rfl,by rw[Hrel.out,HD.out,zH (by rw[aK Hx.out];simp)],below_drewN hbel _⟩
 ·go_wp2;exact hR.out _ _ ⟨dB (by rw[Hrel.out,zO zo];rfl),bU hb0 hbel⟩
theorem Qx:Tryz.prog.underlying 240=some (.array 2 3):=by kernel_rfl
theorem Np:Tryz.prog.eqGuardType Tryz.prog.depth 240=false:=by kernel_rfl
theorem Ow (a b a' b':Int) (w:World):(Op.equalIn 10000 240 (.agg #[.int .i64 a,.int .i64 b]) (.agg #[.int .i64 a',.int .i64 b'])).run Tryz.prog w=.ok (a==a'&&b==b') w:=by
 have e2:=fun (d:Nat) (a b:Int) (w:World)=>run_equalIn_int (P:=Tryz.prog) w d 3 .i64 .i64 a b Tryz.underlying3;have e3:(Tryz.t3).size=1:=by kernel_rfl
 show (Op.equalIn (9999+1) 240 _ _).run _ _=_;rw[Op.equalIn];simp only[Sem.run_bind,run_underlying Qx,Result.andThen_ok];simp only[Std.Legacy.Range.forIn_eq_forIn_range',Std.Legacy.Range.size];simp[isAgg,Go.sizeOf,go_sem,e2,e3,List.range'];by_cases h1:a=a' <;> by_cases h2:b=b' <;> simp[h1,h2]
theorem Mv (v:Value) (l:List (Int × Int)) (x:Int × Int) (m:Mem) (w:World) (hm:m.inn w) (hl:bM m v l) :
 Calls Tryz.prog 291 #[v,.agg #[.int .i64 x.1,.int .i64 x.2]] w fun e w'=>e=.returned (.int .i64 (firstIdx (fun y=>y=x) l 0))∧Below w.heap.size w w':=by
 obtain⟨a,c,rfl,h1,h2,h3⟩:=hl;unfold maxLen at h2;refine aj fun R hR=>?_
 go_enter Tryz.func291,Tryz.ntmps291
 go_wp2;have hb0:Below w.heap.size w (w.alloc (.cells #[.int .i64 x.1,.int .i64 x.2] 240)):=aR (zP _ _) _;have d1:(w.alloc (.cells #[.int .i64 x.1,.int .i64 x.2] 240)).cell? ⟨w.heap.size,0,none⟩=some (.int .i64 x.1):=by simp
 have d2:(w.alloc (.cells #[.int .i64 x.1,.int .i64 x.2] 240)).cell? ⟨w.heap.size,1,none⟩=some (.int .i64 x.2):=by simp
 have d3:w.heap.size<(w.alloc (.cells #[.int .i64 x.1,.int .i64 x.2] 240)).heap.size:=by simp
 have hm0:=Mem.bJ hm hb0;generalize w.alloc (.cells #[.int .i64 x.1,.int .i64 x.2] 240)=w0 at *
 refine au [0,3,5] (fun n vs wr=>∃k:Nat,k≤l.length∧n=l.length - k∧vs=[.slice a l.length c,.pointer (some ⟨w.heap.size,0,none⟩),.int .i64 k]∧firstIdx (fun y=>y=x) l 0=firstIdx (fun y=>y=x) (l.drop k) k∧Below w0.heap.size w0 wr) ?_ ?_
 ·exact⟨_,0,zC _,rfl,rfl,rfl,zP _ _⟩
 rintro X z n vs wr hX - ⟨k,hk,rfl,rfl,hrel,hbel⟩;have Hrel:=zh hrel;clear hrel;simp[litL,lk];have hmr:=Mem.bJ hm0 hbel;have e1:=gu hbel d3 d1;have e2:=gu hbel d3 d2;by_cases hlt:k<l.length
 ·obtain⟨b,off,rfl,h4⟩:=h3 (by intro h;simp[h] at hlt);obtain⟨g1,g2,-⟩:=h4 k hlt;have c1:=Mem.ak hmr g1;have c2:=Mem.ak hmr g2;have HD:=zh (iM (fun y=>y=x) l k hlt);have hq:=fun w=>Ow (l[k].1) (l[k].2) x.1 x.2 w;have hgd:=Np;by_cases hx:l[k]=x
  ·have hb1:(l[k].1==x.1)=true:=by simp[← hx]
   have hb2:(l[k].2==x.2)=true:=by simp[← hx]
   have Hx:=zh hx;clear hx;go_wp2
   go_quiet (fail)
   go_wp2;exact hR.out _ _ ⟨dB (by rw[Hrel.out,HD.out,zI (aN Hx.out)]),bU hb0 (below_drewN hbel _)⟩
  ·have hb1:(l[k].1==x.1&&l[k].2==x.2)=false:=by
    by_cases h:l[k].1=x.1
    ·by_cases h':l[k].2=x.2
     ·exact absurd (Prod.ext h h') hx
     ·simp[h']
    ·simp[h]
   have Hx:=zh hx;clear hx;go_wp2
   go_quiet (fail)
   go_wp2;exact hX.out _ _ _ zo rfl ⟨k+1,zo,rfl,rfl,by rw[Hrel.out,HD.out,zH (by rw[aK Hx.out];simp)],below_drewN hbel _⟩
 ·go_wp2;exact hR.out _ _ ⟨dB (by rw[Hrel.out,zO zo];rfl),bU hb0 hbel⟩
theorem DC (v v':Value) (l l':List Int) (m:Mem) (w:World) (hm:m.inn w) (hl:iy m v l) (hl':iy m v' l') :
 Calls Tryz.prog 314 #[v,v'] w fun e w'=>e=.returned (.bool (tf (l=l')))∧Below w.heap.size w w':=by
 obtain⟨a,c,rfl,h1,h2,h3⟩:=hl;obtain⟨a',c',rfl,h1',h2',h3'⟩:=hl';unfold maxLen at h2 h2';refine aj fun R hR=>?_;by_cases hlen:l.length=l'.length
 ·have hne:((l.length:Int) != (l'.length:Int))=false:=by simp[hlen]
  have Hlen:=zh hlen;clear hlen
  go_enter Tryz.func314,Tryz.ntmps314
  go_wp2;refine au [0,1,12,13] (fun n vs wr=>∃k:Nat,k≤l.length∧n=l.length - k∧vs=[.slice a l.length c,.slice a' l'.length c',.int .i64 l.length,.int .i64 k]∧(l=l'↔l.drop k=l'.drop k)∧Below w.heap.size w wr) ?_ ?_
  ·exact⟨_,0,zC _,rfl,rfl,Iff.rfl,zP _ _⟩
  rintro X z n vs wr hX - ⟨k,hk,rfl,rfl,hrel,hbel⟩;have Hrel:=zh hrel;clear hrel;simp[litL,lk];have hmr:=Mem.bJ hm hbel;by_cases hlt:k<l.length
  ·have hlt':k<l'.length:=by rw[← Hlen.out];exact hlt
   obtain⟨b,off,rfl,h4⟩:=h3 (by intro h;simp[h] at hlt);obtain⟨b',off',rfl,h4'⟩:=h3' (by intro h;simp[h] at hlt');have c1:=Mem.ak hmr (h4 k hlt).1;have c1':=Mem.ak hmr (h4' k hlt').1;have HD:=zh (kS l l' k hlt hlt');by_cases heq:l[k]=l'[k]
   ·have hb1:(l[k] != l'[k])=false:=by simp[heq]
    have Heq:=zh heq;clear heq;go_wp2
    go_quiet (fail)
    go_wp2;exact hX.out _ _ _ zo rfl ⟨k+1,zo,rfl,rfl,Hrel.out.trans (HD.out.trans ⟨fun h=>h.2,fun h=>⟨Heq.out,h⟩⟩),below_drewN hbel _⟩
   ·have hb1:(l[k] != l'[k])=true:=by simp[heq]
    have Heq:=zh heq;clear heq;go_wp2
    go_quiet (fail)
    go_wp2;exact hR.out _ _ ⟨aL (by rw[aK];intro h;exact Heq.out (HD.out.1 (Hrel.out.1 h)).1),below_drewN hbel _⟩
  ·go_wp2;refine hR.out _ _ ⟨aL ?_,hbel⟩;rw[aN (Hrel.out.2 ?_)];rw[zO zo,zO (by rw[← Hlen.out];omega)]
 ·have hne:((l.length:Int) != (l'.length:Int))=true:=by simp;omega
  go_enter Tryz.func314,Tryz.ntmps314
  go_wp2;exact hR.out _ _ ⟨aL (by rw[aK (fun h=>hlen (by rw[h]))]),zP _ _⟩
theorem PK (v v':Value) (l:List (List Int)) (x:List Int) (m:Mem) (w:World) (hm:m.inn w) (hl:mU m v l) (hx:iy m v' x) :
 Calls Tryz.prog 292 #[v,v'] w fun e w'=>e=.returned (.int .i64 (firstIdx (fun y=>y=x) l 0))∧Below w.heap.size w w':=by
 have hcall:=fun u y hu w1 hm1=>DC u v' y x m w1 hm1 hu hx;have Hc:=zh hcall;clear hcall;obtain⟨a,c,rfl,h1,h2,h3⟩:=hl;obtain⟨ax,cx,rfl,-⟩:=hx;unfold maxLen at h2;refine aj fun R hR=>?_
 go_enter Tryz.func292,Tryz.ntmps292
 go_wp2;refine au [0,1,7,8] (fun n vs wr=>∃k:Nat,k≤l.length∧n=l.length - k∧vs=[.slice a l.length c,.slice ax x.length cx,.int .i64 l.length,.int .i64 k]∧firstIdx (fun y=>y=x) l 0=firstIdx (fun y=>y=x) (l.drop k) k∧Below w.heap.size w wr) ?_ ?_
 ·exact⟨_,0,zC _,rfl,rfl,rfl,zP _ _⟩
 rintro X z n vs wr hX - ⟨k,hk,rfl,rfl,hrel,hbel⟩;have Hrel:=zh hrel;clear hrel;simp[litL,lk];have hmr:=Mem.bJ hm hbel;by_cases hlt:k<l.length
 ·obtain⟨b,off,rfl,h4⟩:=h3 (by intro h;simp[h] at hlt);obtain⟨u,hu1,hu2⟩:=h4 k hlt;have hc:=Hc.out u l[k] hu2 _ hmr;obtain⟨ua,uc,rfl,-⟩:=hu2;have c1:=Mem.ak hmr hu1;have HD:=zh (iM (fun y=>y=x) l k hlt);have Hcc:=zh hc;clear hc
  go_wp2_with fail
  refine Hcc.out.mono ?_;rintro e w' ⟨rfl,hbel2⟩;by_cases hx:l[k]=x
  ·rw[aN hx];have Hx:=zh hx;clear hx;go_wp2;exact hR.out _ _ ⟨dB (by rw[Hrel.out,HD.out,zI (aN Hx.out)]),bU hbel hbel2⟩
  ·rw[aK hx];go_wp2;exact hX.out _ _ _ zo rfl ⟨k+1,zo,rfl,rfl,by rw[Hrel.out,HD.out,zH (by rw[aK hx];simp)],bU hbel hbel2⟩
 ·go_wp2;exact hR.out _ _ ⟨dB (by rw[Hrel.out,zO zo];rfl),hbel⟩
theorem Eh (v v':Value) (l cl:List Int) (x:Nat) (m:Mem) (w:World) (hm:m.inn w) (hl:iy m v l) (hc:iy m v' cl) (hx:x<cl.length) (hlc:∀y∈l,0≤y∧y<cl.length) :
 Calls Tryz.prog 237 #[v,v',.int .i64 x] w fun e w'=>e=.returned (.int .i64 (let r:=firstIdx (fun y=>cl.getD y.toNat 0=cl[x]) l 0;if r<0 then l.length else r))∧Below w.heap.size w w':=by
 obtain⟨a,c,rfl,h1,h2,h3⟩:=hl;obtain⟨a',c',rfl,h1',h2',h3'⟩:=hc;obtain⟨b',off',rfl,h4'⟩:=h3' (by intro h;simp[h] at hx);unfold maxLen at h2 h2';refine aj fun R hR=>?_
 go_enter Tryz.func237,Tryz.ntmps237
 go_wp2;refine au [0,1,2,9,10,11] (fun n vs wr=>∃k:Nat,k≤l.length∧n=l.length - k∧vs=[.slice a l.length c,.slice (some ⟨b',off',none⟩) cl.length c',.int .i64 x,.slice a l.length c,.int .i64 l.length,.int .i64 k]∧firstIdx (fun y=>cl.getD y.toNat 0=cl[x]) l 0=firstIdx (fun y=>cl.getD y.toNat 0=cl[x]) (l.drop k) k∧Below w.heap.size w wr) ?_ ?_
 ·exact⟨_,0,zC _,rfl,rfl,rfl,zP _ _⟩
 rintro X z n vs wr hX - ⟨k,hk,rfl,rfl,hrel,hbel⟩;have Hrel:=zh hrel;clear hrel;simp[litL,lk];have hmr:=Mem.bJ hm hbel;by_cases hlt:k<l.length
 ·obtain⟨b,off,rfl,h4⟩:=h3 (by intro h;simp[h] at hlt);have c1:=Mem.ak hmr (h4 k hlt).1;obtain⟨y,hy⟩:=zQ (hlc l[k] (zB hlt)).1;have hy2:y<cl.length:=by have:=(hlc l[k] (zB hlt)).2;omega
  have hgd:cl.getD (l[k]).toNat 0=cl[y]:=by rw[hy];simp[hy2]
  rw[hy] at c1;have Hgd:=zh hgd;clear hgd hy;have c2:=Mem.ak hmr (h4' y hy2).1;have c3:=Mem.ak hmr (h4' x hx).1;have HD:=zh (iM (fun y=>cl.getD y.toNat 0=cl[x]) l k hlt);by_cases heq:cl[y]=cl[x]
  ·have hb1:(cl[y]==cl[x])=true:=by simp[heq]
   have Heq:=zh heq;clear heq;go_wp2
   go_quiet (fail)
   go_wp2;refine hR.out _ _ ⟨dB ?_,below_drewN hbel _⟩;rw[Hrel.out,HD.out,zI (aN (by rw[Hgd.out];exact Heq.out))];rw[zH zo]
  ·have hb1:(cl[y]==cl[x])=false:=by simp[heq]
   have Heq:=zh heq;clear heq;go_wp2
   go_quiet (fail)
   go_wp2;exact hX.out _ _ _ zo rfl ⟨k+1,zo,rfl,rfl,by rw[Hrel.out,HD.out,zH (by rw[aK (by rw[Hgd.out];exact Heq.out)];simp)],below_drewN hbel _⟩
 ·go_wp2;exact hR.out _ _ ⟨dB (by rw[Hrel.out,zO zo];rfl),hbel⟩
def dA (l:List (Int × Int)):List Value:=l.flatMap fun p=>[.int .i64 p.1,.int .i64 p.2]
def Eb (p:Int × Int):Prop := -9223372036854775808≤p.1∧p.1≤9223372036854775807 ∧ -9223372036854775808≤p.2∧p.2≤9223372036854775807
theorem nG (l:List (Int × Int)) (p:Int × Int):dA (l ++ [p])=dA l ++ [.int .i64 p.1,.int .i64 p.2]:=by simp[dA]
theorem j5:∀(l:List (Int × Int)) (i:Nat) (h:i<l.length),(dA l)[i*2]?=some (.int .i64 l[i].1)∧(dA l)[i*2+1]?=some (.int .i64 l[i].2)
 | [],i,h=>by simp at h
 | p::l,0,_=>by simp[dA]
 | p::l,i+1,h=>by
  have:=j5 l i (by simpa using h);simp only[dA,List.flatMap_cons,List.getElem_cons_succ] at this ⊢;rw[show (i+1)*2=i*2+2 by omega];exact this
theorem pM {w:World} {t:TypeId} {v:Value} {l:List (Int × Int)} {m:Mem} (hown:w.ownsRow 0 t 2 v l.length (dA l)) (hk:∀p∈l,Eb p):bM (m.addv w v) v l:=
 jc hown fun g hg i h=>by
  obtain⟨h1,h2⟩:=j5 l i h;exact⟨fw hown hg m h1,fw hown hg m h2,hk _ (zB h)⟩
theorem Qz:gL Tryz.prog 213 212 2 16:=⟨Tryz.underlying213,zo,by
 obtain⟨i,h1,h2,h3,h4⟩:=info_parts (P:=Tryz.prog) (e:=212) (z:=.agg #[.int .i64 0,.int .i64 0]) (size:=2) (bytes:=16) zk;exact⟨i,_,h1,h2,h3,h4,rfl⟩⟩
def fO (l:List (Int × Int)) (p:Int × Int):Nat:=l.findIdx (fun q=>p=q)
def dW (l:List (Int × Int)) (p:Int × Int):List (Int × Int):=if fO l p<l.length then l else l ++ [p]
theorem rV (l:List (Int × Int)) (x:Int × Int):firstIdx (fun y=>x=y) l 0=if fO l x<l.length then ((fO l x:Nat):Int) else -1:=by
 rcases kw (fun y=>x=y) l 0 with ⟨h1,h2⟩ | ⟨i,h1,h2,h3,h4⟩
 ·rw[h1,zH];intro h;obtain⟨y,hy,hp⟩:=List.findIdx_lt_length.1 h;exact h2 y hy (by simpa using hp)
 ·have:fO l x=i:=by
   unfold fO;rw[List.findIdx_eq h1];exact⟨by simpa using h3,fun j hj=>by simpa using h4 j zo hj⟩
  rw[h2,this,zI h1];simp
theorem rC (l:List (Int × Int)) (p:Int × Int):fO l p≤l.length:=List.findIdx_le_length
theorem wR (l:List (Int × Int)) (p:Int × Int):l <+: dW l p:=by
 unfold dW;split
 ·exact List.prefix_refl _
 ·exact List.prefix_append _ _
theorem wS (l:List (Int × Int)) (p:Int × Int):(dW l p)[fO l p]?=some p:=by
 unfold dW
 split
 ·rename_i h;have:=List.findIdx_getElem (p:=fun q=>decide (p=q)) (xs:=l) (w:=h);rw[yC h];exact congrArg some (of_decide_eq_true this).symm
 ·rename_i h;have:fO l p=l.length:=by have:=rC l p;omega
  rw[this];simp
theorem Ke {l:List (Int × Int)} {p:Int × Int} (h:¬ fO l p<l.length):p ∉ l:=fun hm=>h (List.findIdx_lt_length.2 ⟨p,hm,zS⟩)
theorem Kh (g:Nat) (v:Value) (l:List (Int × Int)) (p:Int × Int) (w0 w:World) (m mk:Mem) (L:List Item) (hO:Own w0 m w mk (.row v 212 2 l.length (dA l)::.obj g 213 #[v]::L))
 (_:Eb p) (hk:∀q∈l,Eb q) (hlen:l.length≤100000000) :
 Calls Tryz.prog 257 #[.agg #[.int .i64 p.1,.int .i64 p.2],.pointer (some ⟨g,0,none⟩)] w fun e w'=>∃v',e=.returned (.int .i64 (fO l p)) ∧
  Own w0 m w' mk (.row v' 212 2 (dW l p).length (dA (dW l p))::.obj g 213 #[v']::L):=by
 refine aj fun R hR=>?_;obtain⟨va,vc,rfl⟩:=aM hO.row;have hO1:=hO.al' (.cells #[.int .i64 p.1,.int .i64 p.2] 212);have hs:=hO1.bv;have hI:=Ac _ l p _ _ hs.inn (pM hO1.row hk);rw[rV] at hI;have hle:=rC l p;have hsz:(w.alloc (.cells #[.int .i64 p.1,.int .i64 p.2] 212)).heap.size=w.heap.size+1:=by simp
 have hpc0:(w.alloc (.cells #[.int .i64 p.1,.int .i64 p.2] 212)).heap[w.heap.size]?=some (.cells #[.int .i64 p.1,.int .i64 p.2] 212 (0,0)):=(bE.new _ _ _).get;have c1:=hO1.swap.obj.c 0;have c2:=hO1.swap.obj.lt;have hgw:=hO.swap.obj.lt;by_cases hf:fO l p<l.length
 ·rw[zI hf] at hI;have hpa:dW l p=l:=by unfold dW;rw[zI hf]
  generalize fO l p=idx at *
  have HI:=zh (zi hI (zi hO1 hpa));clear hI hO1 hs hpc0 hpa hsz hO
  go_enter Tryz.func257,Tryz.ntmps257
  go_wp2_with fail
  refine HI.out.1.mono ?_;rintro e w1 ⟨rfl,hb1⟩;have hO2:=HI.out.2.1.move hb1;go_wp2;refine hR.out _ _ ⟨.slice va l.length vc,rfl,?_⟩;rw[HI.out.2.2];exact hO2
 ·rw[zH hf] at hI;have hpa:dW l p=l ++ [p]:=by unfold dW;rw[zH hf]
  have hpn:fO l p=l.length:=zo;generalize hq:fO l p=idx at *
  have HI:=zh (zi hI (zi hO1 (zi hpa hpn)));clear hI hO1 hs hpa hsz hpn hq hO
  go_enter Tryz.func257,Tryz.ntmps257
  go_wp2_with fail
  refine HI.out.1.mono ?_;rintro e w1 ⟨rfl,hb1⟩;have hO2:=HI.out.2.1.move hb1;have p1:w1.cell? ⟨w.heap.size,0,none⟩=some (.int .i64 p.1):=gu hb1 zS zS;have p2:w1.cell? ⟨w.heap.size,1,none⟩=some (.int .i64 p.2):=gu hb1 zS zS;have psz:w.heap.size<w1.heap.size:=by have:=hb1.size;simp at this;omega
  have d1:=hO2.swap.obj.c 0;have d2:=hO2.swap.obj.frozen 0;have d3:=hO2.swap.obj.lt;clear hb1 c1 c2;have hO3:=hO2.al #[.int .i64 p.1,.int .i64 p.2] 212;have hnews:=hO3.obj.news rfl;clear hO2
  go_wp2_with (at_builtin;refine aA Qz rfl (.tmp 12) (.tmp 14) rfl (.slice va l.length vc) l.length (dA l) rfl hO3.swap.row ⟨w1.heap.size,0,none⟩ 1 1 [.int .i64 p.1,.int .i64 p.2] rfl rfl hnews (by simp[Value.oneCell']) (by unfold maxLen;omega) zo ?_)
  intro xa xc w7 hown7 hgrow7 hrow7;have hO4:=(hO3.swap.app hown7 hgrow7 hrow7 zS).drop2.swap;have d1:=hO4.obj.c 0;have d2:=hO4.obj.frozen 0;have d3:=hO4.obj.lt;have hO5:=(hO4.set 0 (.slice xa (l.length+1) xc)).swap;have HO5:=zh hO5;clear hO5 hO4 hO3 hnews hown7 hgrow7 hrow7;go_wp2;refine hR.out _ _ ⟨.slice xa (l.length+1) xc,dB (by rw[HI.out.2.2.2]),?_⟩;rw[HI.out.2.2.1,nG,show (l ++ [p]).length=l.length+1 by simp];exact HO5.out
def il (es:List Ed) (b:Nat):Prop:=∃e∈es,jU e b
theorem ET {es:List Ed} {j:Nat} (h:j<es.length) (b:Nat):il (es.take (j+1)) b↔il (es.take j) b∨jU es[j] b:=qJ h b
def esOf (l:Table) (s:Int):List Ed:=if s<0 then [] else match l[s.toNat]? with
 | some st=>st.edges
 | none=>[]
theorem oG (l:Table) (s:Int) (b:Nat):bD l s b=aY (esOf l s) b:=by
 unfold bD esOf
 split
 ·rfl
 ·cases l[s.toNat]? <;> rfl
theorem Jh (v0:Value) (l:Table) (s:Int) (g:Nat) (P:Nat→Prop) (w0 w:World) (m mk:Mem) (L:List Item) (hO:Own w0 m w mk (.obj g 217 (marr P 256)::L)) (hl:aG mk v0 l)
 (hs1 : -1≤s) (hs2:s≤l.length) (_:l.length≤1000000) :
 Calls Tryz.prog 260 #[.agg #[v0],.int .i64 s,.pointer (some ⟨g,0,none⟩)] w fun e w'=>e=.returned (.tuple #[]) ∧
  Own w0 m w' mk (.obj g 217 (marr (fun b=>P b∨il (esOf l s) b) 256)::L):=by
 obtain⟨a,c,rfl,h1,h2,h3⟩:=hl;unfold maxLen at h2;by_cases h0:s<0
 ·have he:esOf l s=[]:=by simp[esOf,h0]
  have hm:marr (fun b=>P b∨il (esOf l s) b) 256=marr P 256:=ek fun b _=>by rw[he];simp[il]
  rw[hm];refine aj fun R hR=>?_;have HO:=zh (hO.al' (.cells #[.slice a l.length c] 27));clear hO he hm
  go_enter Tryz.func260,Tryz.ntmps260
  go_wp2;refine yQ (v:=.tuple #[]) (by simp[results,Tryz.results260,go_sem]) rfl ?_;exact hR.out _ _ ⟨rfl,HO.out⟩
 obtain⟨s,rfl⟩:=zQ (by omega:0≤s);by_cases hs:s<l.length
 ·obtain⟨b,off,rfl,h4⟩:=h3 (by intro h;simp[h] at hs);obtain⟨-,ve,g2,ea,ec,rfl,g4,g5,g6⟩:=h4 s hs;have he:esOf l (s:Int)=(l[s]).edges:=by
   have h0':¬ ((s:Int)<0):=zo;simp[esOf,h0',hs]
  rw[he];generalize l[s].edges=es at *
  refine aj fun R hR=>?_;unfold maxLen at g5;have hcm:=Mem.ak hO.inn g2;have hcl:=Mem.ay hO.inn g2;have HO:=zh (hO.al' (.cells #[.slice (some ⟨b,off,none⟩) l.length c] 27));clear hO h3 h4 he
  go_enter Tryz.func260,Tryz.ntmps260
  go_wp2;refine au [2,22,23,24] (fun n vs w2=>∃(j:Nat),j≤es.length∧n=es.length - j∧vs=[.pointer (some ⟨g,0,none⟩),.slice ea es.length ec,.int .i64 es.length,.int .i64 j] ∧
   Own w0 m w2 mk (.obj g 217 (marr (fun b=>P b∨il (es.take j) b) 256)::L)) ?_ ?_
  ·refine ⟨_,0,zC _,rfl,rfl,?_⟩;rw[ek (P':=P) (by intro b _;simp[il])];exact HO.out
  clear HO hcm;rintro X z n vs w2 hX - ⟨j,hj,rfl,rfl,hO⟩;simp[litL,lk];by_cases hlt:j<es.length
  ·obtain⟨b',off',rfl,h10⟩:=g6 (by intro h;simp[h] at hlt);obtain⟨e1,e2,e3,e4,e5,-⟩:=h10 j hlt;have d1:=Mem.ak hO.inn e1;have d2:=Mem.ak hO.inn e2;have d3:=Mem.ak hO.inn e3;have hb1:=Mem.ay hO.inn e1;have Htk:=zh (fun b=>ET hlt b);generalize es[j]=e at *
   have hO2:=(hO.al #[.int .u8 e.lo,.int .u8 e.hi,.int .i64 e.to] 133);have HO2:=zh hO2;clear hO hO2;go_wp2;generalize w2.heap.size=E at *
   generalize w2.alloc (.cells #[.int .u8 e.lo,.int .u8 e.hi,.int .i64 e.to] 133)=w3 at *
   have x0:=HO2.out.obj.c 0;have x1:=HO2.out.obj.lt;have x2:=HO2.out.swap.obj.lt;have x3:=HO2.out.swap.obj.frozen e.lo;have x4:=HO2.out.swap.obj.cell (iW (i:=e.lo) zo);refine aI [2,7,22,23,24] (fun vs w'=>vs=[.pointer (some ⟨g,0,none⟩),.pointer (some ⟨E,0,none⟩),.slice (some ⟨b',off',none⟩) es.length ec,.int .i64 es.length,.int .i64 j]∧w'=(w3.setCell ⟨g,e.lo,none⟩ (.bool true)).drew) ?_ ?_
   ·intro Y hY
    go_region
    all_goals exact hY.out _ _ rfl ⟨rfl,rfl⟩
   rintro z1 vs w1' - ⟨rfl,rfl⟩;simp[litL,lk];have hO3:=(HO2.out.swap.set e.lo (.bool true)).dr;rw[jo] at hO3;have HO3:=zh hO3;clear hO3 HO2 d1 d2 d3 hb1 x0 x1 x2 x3 x4;generalize (w3.setCell ⟨g,e.lo,none⟩ (.bool true)).drew=w4 at *
   have x0:=HO3.out.swap.obj.c 1;have x1:=HO3.out.swap.obj.lt;by_cases hhi:e.hi<255
   ·have hdec:decide ((e.hi:Int)<255)=true:=zL zo;go_wp2;have hwr:IntKind.u8.wrap ((e.hi:Int)+1)=(e.hi:Int)+1:=IntWalk.u8_in _ zo;have x2:=HO3.out.obj.lt;have x3:=HO3.out.obj.frozen (e.hi+1);have x4:=HO3.out.obj.cell (iW (i:=e.hi+1) zo);refine aI [2,22,23,24] (fun vs w'=>vs=[.pointer (some ⟨g,0,none⟩),.slice (some ⟨b',off',none⟩) es.length ec,.int .i64 es.length,.int .i64 j]∧w'=(w4.setCell ⟨g,e.hi+1,none⟩ (.bool true)).drew) ?_ ?_
    ·intro Y hY
     go_region
     all_goals exact hY.out _ _ rfl ⟨rfl,rfl⟩
    rintro z1 vs w1' - ⟨rfl,rfl⟩;simp[litL,lk];have hO4:=((HO3.out.set (e.hi+1) (.bool true)).dr).drop2;rw[jo] at hO4;have HO4:=zh hO4;clear hO4 x0 x1 x2 x3 x4 HO3;go_wp2;refine hX.out _ _ _ zo rfl ⟨j+1,zo,rfl,rfl,?_⟩;rw[ek (P:=fun b=>P b∨il (es.take (j+1)) b) (P':=fun b=>((P b∨il (es.take j) b)∨b=e.lo)∨b=e.hi+1) (by
     intro b _;rw[Htk.out];unfold jU;constructor
     ·rintro (h | h | h | h)
      ·exact .inl (.inl (.inl h))
      ·exact .inl (.inl (.inr h))
      ·exact .inl (.inr h.symm)
      ·exact .inr h.symm
     ·rintro (((h | h) | h) | h)
      ·exact .inl h
      ·exact .inr (.inl h)
      ·exact .inr (.inr (.inl h.symm))
      ·exact .inr (.inr (.inr h.symm)))]
    exact HO4.out
   ·have hdec:decide ((e.hi:Int)<255)=false:=zK zo;go_wp2;refine hX.out _ _ _ zo rfl ⟨j+1,zo,rfl,rfl,?_⟩;rw[ek (P:=fun b=>P b∨il (es.take (j+1)) b) (P':=fun b=>(P b∨il (es.take j) b)∨b=e.lo) (by
     intro b hb;rw[Htk.out];unfold jU;constructor
     ·rintro (h | h | h | h)
      ·exact .inl (.inl h)
      ·exact .inl (.inr h)
      ·exact .inr h.symm
      ·omega
     ·rintro ((h | h) | h)
      ·exact .inl h
      ·exact .inr (.inl h)
      ·exact .inr (.inr (.inl h.symm)))]
    exact HO3.out.drop2
  ·obtain rfl:j=es.length:=zo;rw[yB] at hO;have HO:=zh hO;clear hO;go_wp2;refine yQ (v:=.tuple #[]) (by simp[results,Tryz.results260,go_sem]) rfl ?_;exact hR.out _ _ ⟨rfl,HO.out⟩
 ·have hsl:s=l.length:=zo;have he:esOf l (s:Int)=[]:=by
   have h0':¬ ((s:Int)<0):=zo;simp[esOf,hsl]
  have hm:marr (fun b=>P b∨il (esOf l (s:Int)) b) 256=marr P 256:=ek fun b _=>by rw[he];simp[il]
  rw[hm];refine aj fun R hR=>?_;have HO:=zh (hO.al' (.cells #[.slice a l.length c] 27));clear hO he hm h3;subst hsl
  go_enter Tryz.func260,Tryz.ntmps260
  go_wp2;refine yQ (v:=.tuple #[]) (by simp[results,Tryz.results260,go_sem]) rfl ?_;exact hR.out _ _ ⟨rfl,HO.out⟩
end Cl
