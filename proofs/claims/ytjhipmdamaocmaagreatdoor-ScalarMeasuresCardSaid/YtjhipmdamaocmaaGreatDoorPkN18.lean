/- Lemmas for the proofs of chapter 11. -/
import Derived.Test.YtjhipmdamaocmaaGreatDoorPkN17
import Derived.Test.YtjhipmdamaocmaaGreatDoorPkN10
set_option maxRecDepth 100000
set_option maxHeartbeats 16000000
namespace Cl
open Go Go.RowKit Go.Proofs
def RJ (m:Mem) (v:Value) (l:List Table):Prop:=Mem.qZ (fun b o T=>∃u,m.cell b o=some u∧aG m u T) v l
theorem Ry (v v2:Value) (Ls:List Table) (ps:List Int) (b:Nat) (m:Mem) (w:World) (hm:m.inn w) (hv:RJ m v Ls) (hp:iy m v2 ps) (hl:Ls.length=ps.length)
 (hr:∀i,i<ps.length → -1≤ps.getD i (-1)∧ps.getD i (-1)<(Ls.getD i []).length) (hb:b<256) :
 Calls Tryz.prog 289 #[v,v2,.int .i64 b] w fun e w'=>e=.returned (.int .i64 (tT Ls ps b Ls.length))∧Below w.heap.size w w':=by
 obtain⟨la,lc,rfl,h1,h2,h3⟩:=hv;obtain⟨pa,pc,rfl,p1,p2,p3⟩:=hp;unfold maxLen at h2 p2;have HL:=zh (zi hl (zi hr hm));have hl':Ls.length≤ps.length:=zo;have H3:=zh h3;have P3:=zh p3;clear hl hr hm h3 p3;refine aj fun R hR=>?_
 go_enter Tryz.func289,Tryz.ntmps289
 go_wp2;refine au [0,1,2,7,8] (fun n vs w2=>∃(k:Nat),k≤Ls.length∧n=Ls.length - k∧vs=[.slice la Ls.length lc,.slice pa ps.length pc,.int .i64 b,.int .i64 (tT Ls ps b k),.int .i64 k]∧Below w.heap.size w w2) ?_ ?_
 ·exact⟨_,0,zC _,rfl,rfl,zP _ _⟩
 rintro X z n vs w2 hX - ⟨k,hk,rfl,rfl,hbw⟩;simp[litL,lk];have hmw:=Mem.bJ HL.out.2.2 hbw;have HB:=zh hbw;clear hbw;have hge:=Cw Ls ps b k;by_cases hlt:k<Ls.length
 ·obtain⟨gb,go,rfl,hg⟩:=H3.out (by intro h;simp[h] at hlt);obtain⟨qb,qo,rfl,hq⟩:=P3.out (by intro h;rw[h] at hl';simp at hl';simp[hl'] at hlt);obtain⟨u,g1,ua,uc,rfl,g2,g3,g4⟩:=hg k hlt;obtain⟨q1,q2,q3⟩:=hq k zo;have hrk:=HL.out.2.1 k zo;have eL:Ls.getD k []=Ls[k]:=by simp[hlt]
  have hkp:k<ps.length:=zo;have eP:ps.getD k (-1)=ps[k]:=by simp[hkp]
  have hnx:tT Ls ps b (k+1)=cutE b (zw Ls[k] ps[k]) (tT Ls ps b k):=by rw[← eL,← eP];rfl
  rw[eL,eP] at hrk;have HN:=zh hnx;have hgt:=Cx (Ls:=Ls) (ps:=ps) hb k;clear hnx eL eP hg hq;have c1:=Mem.ak hmw g1;have c2:=Mem.ak hmw q1;have c3:=Mem.ay hmw g1;have c4:=Mem.ay hmw q1;generalize Ls[k]=T at *
  generalize ps[k]=p at *
  generalize tT Ls ps b k=o at *
  by_cases hneg:p<0
  ·have hd:decide (p<0)=true:=zL hneg;have he:tT Ls ps b (k+1)=o:=by rw[HN.out,zw,zI hneg,PP]
   have HE:=zh he;clear he g4;go_wp2;refine hX.out _ _ _ zo rfl ⟨k+1,zo,rfl,by rw[HE.out];rfl,HB.out⟩
  ·obtain⟨p,rfl⟩:=zQ (by omega:0≤p);have hpt:p<T.length:=zo;obtain⟨b',off',rfl,h10⟩:=g4 (by intro h;simp[h] at hpt);obtain⟨-,ve,e2,ea,ec,rfl,e4,e5,e6⟩:=h10 p hpt;have hee:zw T (p:Int)=(T[p]).edges:=by
    have h0':¬ ((p:Int)<0):=zo;simp[zw,h0',hpt]
   rw[hee] at HN;have HN:=zh HN.out;clear hee h10;generalize T[p].edges=es at *
   unfold maxLen at e5 g3;have c5:=Mem.ak hmw e2;have c6:=Mem.ay hmw e2;have E6:=zh e6;clear e6 g4;go_wp2
   go_quiet (fail)
   go_wp2;refine au [0,1,2,7,8,9,10] (fun n vs w3=>∃(j:Nat),j≤es.length∧n=es.length - j∧vs=[.slice (some ⟨gb,go,none⟩) Ls.length lc,.slice (some ⟨qb,qo,none⟩) ps.length pc,.int .i64 b,.int .i64 (cutE b (es.take j) o),.int .i64 k,.slice ea es.length ec,.int .i64 j]∧Below w.heap.size w w3) ?_ ?_
   ·exact⟨_,0,zC _,rfl,rfl,below_drewN HB.out _⟩
   clear c1 c2 c3 c4 c5 c6 hmw HB;rintro Y z1 n1 vs1 w3 hY - ⟨j,hj,rfl,rfl,hb3⟩;simp[litL,lk];have hmw:=Mem.bJ HL.out.2.2 hb3;have HB:=zh hb3;clear hb3;by_cases hltj:j<es.length
   ·obtain⟨eb,eo,rfl,h10⟩:=E6.out (by intro h;simp[h] at hltj);obtain⟨x1,x2,-,x4,x5,-⟩:=h10 j hltj;have d1:=Mem.ak hmw x1;have d2:=Mem.ak hmw x2;have d3:=Mem.ay hmw x1;have hs:=NM b o hltj;have ho1:=xW b (es.take j) o;have ho2:=GY (es.take j) o hgt;generalize es[j]=e at *
    generalize cutE b (es.take j) o=o1 at *
    have HSn:=zh hs;clear hs h10;by_cases q1:b<e.lo <;> by_cases q2:b≤e.hi
    all_goals
     have y1:decide ((b:Int)<(e.lo:Int))=decide (b<e.lo):=by simp
     simp only[q1,decide_true,decide_false] at y1;go_wp2;refine hY.out _ _ _ zo rfl ⟨j+1,zo,rfl,?_,HB.out⟩;rw[HSn.out];simp[cutS,q1,q2]
     try omega
   ·obtain rfl:j=es.length:=zo;clear hj;go_wp2;refine hX.out _ _ _ zo rfl ⟨k+1,zo,rfl,by rw[HN.out,yB];rfl,HB.out⟩
 ·obtain rfl:k=Ls.length:=zo;clear hk;go_wp2;exact hR.out _ _ ⟨rfl,HB.out⟩
theorem O0:gL Tryz.prog 241 240 2 16:=⟨Tryz.underlying241,zo,by
 obtain⟨i,h1,h2,h3,h4⟩:=info_parts (P:=Tryz.prog) (e:=240) (z:=.agg #[.int .i64 0,.int .i64 0]) (size:=2) (bytes:=16) zk;exact⟨i,_,h1,h2,h3,h4,rfl⟩⟩
def st0 (l:Table):Int:=if l.length=0 then -1 else 0
theorem Iy {l:Table} (x:List UInt8):aC l (st0 l) x=aC l 0 x:=by
 unfold st0
 split
 ·rename_i h;rw[yH h,cu,bP zo]
 ·rfl
theorem BK (l:Table) : -1≤st0 l∧st0 l<l.length:=by
 unfold st0
 split <;> omega
theorem Qt {op:Nat} {f:Bool→Bool→Bool} (h:op=38∧f=(fun x y=>x&&y)∨op=124∧f=(fun x y=>x || y)∨op=45∧f=(fun x y=>x && !y)):f false false=false:=by
 rcases h with ⟨-,rfl⟩ | ⟨-,rfl⟩ | ⟨-,rfl⟩ <;> rfl
theorem zt (l:List (Int × Int)) (x:Int × Int):firstIdx (fun y=>y=x) l 0=if fO l x<l.length then ((fO l x:Nat):Int) else -1:=by
 rw[← rV]
 congr 1
 funext y;exact propext eq_comm
theorem PO {w0 w:World} {m mk:Mem} {L:List Cl.Item} {g1 g2:Nat} {v v':Value} {A B:Table} {pa pb:Int} {c:Nat}
 (hO:Own w0 m w mk (.obj g2 3 #[.int .i64 pa,.int .i64 pb]::.obj g1 27 #[v,v']::L)) (hA:aG mk v A) (hB:aG mk v' B)
 (h1 : -1≤pa) (h2:pa<A.length) (h3 : -1≤pb) (h4:pb<B.length) (hc:c<256) (hlA:A.length≤1000000) (hlB:B.length≤1000000) :
 Calls Tryz.prog 289 #[.slice (some ⟨g1,0,none⟩) 2 2,.slice (some ⟨g2,0,none⟩) 2 2,.int .i64 c] w fun e w'=>e=.returned (.int .i64 (tT [A,B] [pa,pb] c 2))∧Below w.heap.size w w':=by
 have l1:=Mem.jE (w:=w) hO.swap.iO;have hS1:=hO.swap.iY;have l2:=Mem.jE (w:=w) hS1.iO;have hS2:=hS1.iY;have cA:((mk.add w g1).add w g2).cell g1 0=some v:=Mem.aB l2 (Mem.bW hO.swap.obj rfl);have cB:((mk.add w g1).add w g2).cell g1 1=some v':=Mem.aB l2 (Mem.bW hO.swap.obj rfl);have cp:((mk.add w g1).add w g2).cell g2 0=some (.int .i64 pa):=Mem.bW hO.obj rfl;have cq:((mk.add w g1).add w g2).cell g2 1=some (.int .i64 pb):=Mem.bW hO.obj rfl;have ll:=Mem.le_trans l1 l2;refine Ry (.slice (some ⟨g1,0,none⟩) 2 2) (.slice (some ⟨g2,0,none⟩) 2 2) [A,B] [pa,pb] c _ w hS2.inn ?_ ?_ rfl ?_ hc
 ·refine ⟨_,2,rfl,zG _,by simp[maxLen],fun _=>⟨g1,0,rfl,fun i hi=>?_⟩⟩;have:i=0∨i=1:=by simp at hi;omega
  rcases this with rfl | rfl
  ·exact⟨v,cA,aJ ll hA⟩
  ·exact⟨v',cB,aJ ll hB⟩
 ·refine ⟨_,2,rfl,zG _,by simp[maxLen],fun _=>⟨g2,0,rfl,fun i hi=>?_⟩⟩;have:i=0∨i=1:=by simp at hi;omega
  rcases this with rfl | rfl
  ·exact⟨cp,by simp only[List.getElem_cons_zero];omega,by simp only[List.getElem_cons_zero];omega⟩
  ·exact⟨cq,by simp only[List.getElem_cons_succ,List.getElem_cons_zero];omega,by simp only[List.getElem_cons_succ,List.getElem_cons_zero];omega⟩
 ·intro i hi;have:i=0∨i=1:=by simp at hi;omega
  rcases this with rfl | rfl
  ·exact⟨h1,h2⟩
  ·exact⟨h3,h4⟩
theorem G5 (op:Nat) (f:Bool→Bool→Bool) (hw:op=38∧f=(fun x y=>x&&y)∨op=124∧f=(fun x y=>x || y)∨op=45∧f=(fun x y=>x && !y))
 (v0 v1:Value) (A B:Table) (m:Mem) (w:World) (hm:m.inn w) (hA:aG m v0 A) (hB:aG m v1 B) (hlen:(A.length+2)*(B.length+2)≤1000000) (hlA:A.length≤1000000) (hlB:B.length≤1000000) :
 Calls Tryz.prog 231 #[.agg #[v0],.agg #[v1],.int .u8 op] w fun e w'=>∃r C,e=.returned (.agg #[r])∧Below w.heap.size w w'∧aG (m.grow w w') r C ∧
  eQ (fun x=>f (Sem A x) (Sem B x)) C∧C.length≤(A.length+2)*(B.length+2)+1:=by
 have hO:=(((Own.start hm).al #[v0] 27).al #[v1] 27).al #[.slice none 0 0] 27;have hsz1:(w.alloc (.cells #[v0] 27)).heap.size=w.heap.size+1:=by simp
 have hsz2:((w.alloc (.cells #[v0] 27)).alloc (.cells #[v1] 27)).heap.size=w.heap.size+1+1:=by simp
 rw[hsz2,hsz1] at hO;have HO:=zh hO;have HA:=zh hA;have HB:=zh hB;have HW:=zh hw;clear hO hsz1 hsz2 hw hm;refine aj fun R hR=>?_;obtain⟨va,vc,rfl,-⟩:=hA;obtain⟨vb,vd,rfl,-⟩:=hB
 go_enter Tryz.func231,Tryz.ntmps231
 go_wp2;refine aI [2,6,7,8] (fun vs w'=>∃(g1 g2:Nat) (mk:Mem) (xa ya:Option Addr) (xc yc:Nat),vs=[.int .u8 op,.pointer (some ⟨w.heap.size+1+1,0,none⟩),.pointer (some ⟨g1,0,none⟩),.pointer (some ⟨g2,0,none⟩)] ∧
  Own w m w' mk [.obj g2 27 #[.slice ya (bT B).length yc],.obj g1 27 #[.slice xa (bT A).length xc],.obj (w.heap.size+1+1) 27 #[.slice none 0 0]]∧m.le mk ∧
  aG mk (.slice xa (bT A).length xc) (bT A)∧aG mk (.slice ya (bT B).length yc) (bT B)) ?_ ?_
 ·intro X hX;refine aU 6 6 (fun j=>[Fact.is (·=.agg #[.slice va A.length vc]),Fact.mem m [1] (TabV (bT A)),Fact.is (·=.agg #[.slice vb B.length vd]),Fact.mem m [3] (TabV (bT B)),Fact.obj 4 27 #[.slice none 0 0],Fact.obj 5 27 #[.slice none 0 0]].getD j Fact.any) zk zk ?_ ?_
  ·intro i hi o win a wr ho RA;have HO2:=HO.out.dr.move RA.below;have q1:=HO2.swap.obj.c 0;have q2:=HO2.third.obj.c 0;rcases (show i=0∨i=1∨i=2∨i=3∨i=4∨i=5 by omega) with rfl | rfl | rfl | rfl | rfl | rfl
   ·have e3:=RA.k 3;cases ho;exact wv rfl rfl rfl
   ·have e20:a.tmps.getD 20 undef=_:=RA.d 0 rfl;cases ho;refine we rfl rfl (wh (.slice va A.length vc) A m wr HO2.inn HA.out hlA) ?_;rintro e w' ⟨r,rfl,hb,hst⟩;exact⟨_,rfl,_,rfl,hb,LP HO2.inn hb hst⟩
   ·have e4:=RA.k 4;cases ho;exact wv rfl rfl rfl
   ·have e22:a.tmps.getD 22 undef=_:=RA.d 2 rfl;cases ho;refine we rfl rfl (wh (.slice vb B.length vd) B m wr HO2.inn HB.out hlB) ?_;rintro e w' ⟨r,rfl,hb,hst⟩;exact⟨_,rfl,_,rfl,hb,LP HO2.inn hb hst⟩
   ·cases ho;exact aF rfl rfl (aP zg ⟨_,rfl,aR (zP _ _) _,AQ win⟩)
   ·cases ho;exact aF rfl rfl (aP zg ⟨_,rfl,aR (zP _ _) _,AQ win⟩)
  ·intro win a wr E;have e2:=E.keep 2 zk;have e6:=E.keep 6 zk;have e7:(Fact.obj 4 27 #[.slice none 0 0]).holds (a.tmps.getD 7 undef) win wr:=E.fact 4 _ zo rfl;have e8:(Fact.obj 5 27 #[.slice none 0 0]).holds (a.tmps.getD 8 undef) win wr:=E.fact 5 _ zo rfl;have e21:(Fact.mem m [1] (TabV (bT A))).holds (a.tmps.getD 21 undef) win wr:=E.fact 1 _ zo rfl;have e23:(Fact.mem m [3] (TabV (bT B))).holds (a.tmps.getD 23 undef) win wr:=E.fact 3 _ zo rfl;obtain⟨xa,xc,f1,st1⟩:TabV _ _ _:=e21;obtain⟨ya,yc,f2,st2⟩:TabV _ _ _:=e23;obtain⟨p1,n1,o1⟩:_∧_∧_:=e7;obtain⟨p2,n2,o2⟩:_∧_∧_:=e8;have g1:=E.rng 4 zo;have g2:=E.rng 5 zo;have far:∀j,j=4∨j=5→∀d∈[1,3],¬ ((win d).1≤(win j).1∧(win j).1<(win d).2):=by
    intro j hj d hd;have hd':d=1∨d=3:=by simpa using hd
    have:=E.apart j d zo zo zo;have:(win j).2=(win j).1+1:=by rcases hj with rfl | rfl <;> assumption
    omega
   have hO1:=(HO.out.dr.drop2.drop2).region E.below win [1,3] (fun d hd=>(E.rng d (by simp at hd;omega)).1);have no:∀j,j=4∨j=5→m.wins wr win [1,3] (win j).1=none:=fun j hj=>
    Mem.vR (Mem.fU HO.out.dr.inn (E.rng j zo).1) (far j hj)
   have hL1:=(HO.out.dr.drop2.drop2).yj g1.1;have hL2:=(HO.out.dr.drop2.drop2).yj g2.1;have a12:=E.apart 4 5 zo zo zo;have hge:=HO.out.dr.below.size;have hO2:=hO1.newObj o1 zo (no 4 zo) hL1;have hO2:=hO2.newObj o2 zo (no 5 zo) (Jq zo hL2);have st1:=aJ (Mem.fE (es:=[1,3]) hO1.inn0 win zS) st1;have st2:=aJ (Mem.fE (es:=[1,3]) hO1.inn0 win zS) st2;have hle:=Mem.jq hO1.inn0 win [1,3];have HK:=zh (zi hle (zi st1 st2));generalize m.wins wr win [1,3]=mk at *
   generalize (win 4).1=q1 at *
   generalize (win 5).1=q2 at *
   have HE:=zh E;clear st1 st2 hle hL1 hL2 no far hO1 a12 g1 g2 o1 o2 n1 n2 hge E;have b1:=hO2.swap.obj.frozen 0;have b2:=hO2.swap.obj.c 0;have b3:=hO2.swap.obj.lt;have hO3:=hO2.swap.set 0 (.slice xa (bT A).length xc);refine dQ 6 zk (aF rfl rfl (aZ zg ?_));clear b1 b2 b3;have b1:=hO3.swap.obj.frozen 0;have b2:=hO3.swap.obj.c 0;have b3:=hO3.swap.obj.lt;have hO4:=hO3.swap.set 0 (.slice ya (bT B).length yc);refine dQ 7 zk (aF rfl rfl (aZ zg ?_));obtain⟨t,d⟩:=a;obtain rfl:d=[]:=HE.out.defers;refine bS zk (hX.out _ _ HE.out.size ⟨q1,q2,mk,xa,ya,xc,yc,?_,hO4,HK.out.1,HK.out.2⟩) _;simp only[yG,List.map_nil,e2,e6,p1,p2]
   rfl
 rintro z vs w1 - ⟨G1,G2,mk,xa,ya,xc,yc,rfl,hO,hmk,hr1,hr2⟩;simp[litL,lk];clear HO HA HB;have hgA:=gU A;have hgB:=gU B;have hgAl:=iE A;have hgBl:=iE B;have hsemA:∀x,aC (bT A) 0 x=Sem A x:=fun x=>by
  unfold bT Sem;by_cases h:Canon A
  ·simp[aN h]
  ·simp[aK h];exact cu x
 have hsemB:∀x,aC (bT B) 0 x=Sem B x:=fun x=>by
  unfold bT Sem;by_cases h:Canon B
  ·simp[aN h]
  ·simp[aK h];exact cu x
 have HG:=zh (zi hgA (zi hgB (zi hsemA hsemB)));clear hgA hgB hsemA hsemB;have hmul:((bT A).length+2)*((bT B).length+2)≤(A.length+2)*(B.length+2):=Nat.mul_le_mul zo zo;generalize bT A=A' at *
 generalize bT B=B' at *
 have HO:=zh hO;have HR1:=zh (zi hr1 hr2);clear hO hr1 hr2;go_wp2;refine aI [2,6,7,8,9] (fun vs w'=>∃(g3:Nat),vs=[.int .u8 op,.pointer (some ⟨w.heap.size+1+1,0,none⟩),.pointer (some ⟨G1,0,none⟩),.pointer (some ⟨G2,0,none⟩),.slice (some ⟨g3,0,none⟩) 1 1] ∧
  Own w m w' mk [.obj g3 240 #[.int .i64 (st0 A'),.int .i64 (st0 B')],.obj G2 27 #[.slice ya B'.length yc],.obj G1 27 #[.slice xa A'.length xc],.obj (w.heap.size+1+1) 27 #[.slice none 0 0]]) ?_ ?_
 ·intro X hX;refine aU 7 6 (fun j=>[Fact.is (·=.agg #[.slice xa A'.length xc]),Fact.is (·=.int .i64 (st0 A')),Fact.is (·=.agg #[.slice ya B'.length yc]),Fact.is (·=.int .i64 (st0 B')),Fact.is (·=.agg #[.int .i64 (st0 A'),.int .i64 (st0 B')]),Fact.sl 5 240 #[.int .i64 (st0 A'),.int .i64 (st0 B')] 1,Fact.sl 5 240 #[.int .i64 (st0 A'),.int .i64 (st0 B')] 1].getD j Fact.any) zk zk ?_ ?_
  ·intro i hi o win a wr ho RA;have HO2:=HO.out.dr.move RA.below;have q1:=HO2.obj.c 0;have q2:=HO2.swap.obj.c 0;rcases (show i=0∨i=1∨i=2∨i=3∨i=4∨i=5∨i=6 by omega) with rfl | rfl | rfl | rfl | rfl | rfl | rfl
   ·have e7:=RA.k 7;cases ho;exact wv rfl rfl rfl
   ·have e24:a.tmps.getD 24 undef=_:=RA.d 0 rfl;cases ho;refine we rfl rfl (Dm (.slice xa A'.length xc) A' mk wr HR1.out.1) ?_;rintro e w' ⟨rfl,hb⟩;exact⟨_,rfl,_,rfl,hb,rfl⟩
   ·have e8:=RA.k 8;cases ho;exact wv rfl rfl rfl
   ·have e26:a.tmps.getD 26 undef=_:=RA.d 2 rfl;cases ho;refine we rfl rfl (Dm (.slice ya B'.length yc) B' mk wr HR1.out.2) ?_;rintro e w' ⟨rfl,hb⟩;exact⟨_,rfl,_,rfl,hb,rfl⟩
   ·have e25:a.tmps.getD 25 undef=_:=RA.d 1 rfl;have e27:a.tmps.getD 27 undef=_:=RA.d 3 rfl;have f25:=(zT (xs:=a.tmps) (i:=25) (d:=undef)).symm.trans e25;have f27:=(zT (xs:=a.tmps) (i:=27) (d:=undef)).symm.trans e27;cases ho;exact wv rfl rfl rfl
   ·have e28:a.tmps.getD 28 undef=_:=RA.d 4 rfl;have f28:=(zT (xs:=a.tmps) (i:=28) (d:=undef)).symm.trans e28;cases ho;exact aF rfl rfl (aP zg ⟨_,rfl,aR (zP _ _) _,O4 win⟩)
   ·have e29:(Fact.sl 5 240 #[.int .i64 (st0 A'),.int .i64 (st0 B')] 1).holds (a.tmps.getD 29 undef) win wr:=RA.d 5 rfl;cases ho;obtain⟨f1,f2,f3⟩:_∧_∧_:=e29;exact aF rfl rfl (aP zg ⟨_,rfl,zP _ _,(Fact.sl 5 240 #[.int .i64 (st0 A'),.int .i64 (st0 B')] 1).mono _ win _ wr wr (fun d hd=>⟨(Win.rA win _ (by simp[Fact.sl] at hd;omega)).symm,(RA.rng d (by simp[Fact.sl] at hd;subst hd;kernel_rfl)).2.2⟩) (zP _ _) ⟨rfl,f2,f3⟩⟩)
  ·intro win a wr E;have e2:=E.keep 2 zk;have e6:=E.keep 6 zk;have e7:=E.keep 7 zk;have e8:=E.keep 8 zk;have e9:(Fact.sl 5 240 #[.int .i64 (st0 A'),.int .i64 (st0 B')] 1).holds (a.tmps.getD 9 undef) win wr:=E.fact 6 _ zo rfl;obtain⟨p1,n1,o1⟩:_∧_∧_:=e9;have g1:=E.rng 5 zo;have hO1:=HO.out.dr.move E.below;have hge:=HO.out.dr.below.size;have hO2:=hO1.newObj o1 zo (Mem.fU HO.out.dr.inn g1.1) (HO.out.dr.yj g1.1);obtain⟨t,d⟩:=a;obtain rfl:d=[]:=E.defers;refine bS zk (hX.out _ _ E.size ⟨(win 5).1,?_,hO2⟩) _;simp only[yG,List.map_nil,e2,e6,e7,e8,p1]
   rfl
 rintro z2 vs w2 - ⟨g3,rfl,hO⟩;simp[litL,lk];clear HO;have hO2:=(hO.Qo).dI 92 2;have HO2:=zh (zi hO2 (zi (AB (A:=A') (B:=B') (op:=f) (st:=(st0 A',st0 B')) (by have:=BK A';have:=BK B';simp only;omega)) (zi (BK A') (BK B'))));clear hO hO2;go_wp2;refine au [2,6,7,8,9,10,11] (fun n vs wr=>∃(k:Nat) (l:List (Int × Int)) (out:Table) (vl vo:Value) (xs:List Value) (mk':Mem),n=1000001 - k ∧
  vs=[.int .u8 op,.pointer (some ⟨w.heap.size+1+1,0,none⟩),.pointer (some ⟨G1,0,none⟩),.pointer (some ⟨G2,0,none⟩),vl,vo,.int .i64 k] ∧
  Own w m wr mk' [.row vo 92 2 k xs,.row vl 240 2 l.length (dA l),.obj G2 27 #[.slice ya B'.length yc],.obj G1 27 #[.slice xa A'.length xc],.obj (w.heap.size+1+1) 27 #[.slice none 0 0]] ∧
  jA mk' xs out∧mk.le mk'∧iI A' B' f (st0 A',st0 B') l out∧out.length=k∧(∀q∈l,q.1<A'.length∧q.2<B'.length)) ?_ ?_
 ·refine ⟨_,0,[(st0 A',st0 B')],[],.slice (some ⟨g3,0,none⟩) 1 1,.slice none 0 0,[],mk,rfl,rfl,HO2.out.1,jA.nil _,Mem.le_refl _,HO2.out.2.1,rfl,fun q hq=>?_⟩;simp only[zU] at hq;subst hq;exact⟨HO2.out.2.2.1.2,HO2.out.2.2.2.2⟩
 clear HO2;rintro X z3 n vs wr hX - ⟨k,l,out,vl,vo,xs,mk',rfl,rfl,hO,hrow,hmk',hPI,hol,hlr⟩;simp[litL,lk];obtain⟨vla,vlc,rfl⟩:=aM hO.swap.row;have hpl:=kC hPI.nodup hPI.rng;have hkl:=hPI.le;by_cases hlt:k<l.length
 ·obtain⟨vlb,rfl⟩:=iL hO.swap.row zo;have hpc:=j5 l k hlt;have r1:=aT hO.swap.row hpc.1;have r2:=aT hO.swap.row hpc.2;have rl:=(World.ownsRow.lt hO.swap.row _ rfl).2;have hlk:l[k]?=some l[k]:=by simp[hlt]
  have hrng:=hPI.rng l[k] (zB hlt);have hrn2:=hlr l[k] (zB hlt);have HP:=zh (zi hPI (zi hol (zi hlk hlr)));generalize l[k]=p at *
  obtain⟨pa,pb⟩:=p;simp only at r1 r2 hrng hrn2;have hO2:=hO.al #[.int .i64 pa,.int .i64 pb] 240;have HO2:=zh hO2;clear hO2 hO hPI hol hlk hpc hlr;go_wp2;generalize hW2:wr.alloc (.cells #[.int .i64 pa,.int .i64 pb] 240)=w2 at *
  generalize wr.heap.size=P at *
  refine aI [2,6,7,8,9,10,11,12,13] (fun vs w'=>∃S:Nat,
   vs=[.int .u8 op,.pointer (some ⟨w.heap.size+1+1,0,none⟩),.pointer (some ⟨G1,0,none⟩),.pointer (some ⟨G2,0,none⟩),.slice (some ⟨vlb,0,none⟩) l.length vlc,vo,.int .i64 k,.pointer (some ⟨P,0,none⟩),.pointer (some ⟨S,0,none⟩)] ∧
   Own w m w' mk' [.obj S 92 #[.bool (f (bz A' pa) (bz B' pb)),.slice none 0 0],.obj P 240 #[.int .i64 pa,.int .i64 pb],.row vo 92 2 k xs,.row (.slice (some ⟨vlb,0,none⟩) l.length vlc) 240 2 l.length (dA l),.obj G2 27 #[.slice ya B'.length yc],.obj G1 27 #[.slice xa A'.length xc],.obj (w.heap.size+1+1) 27 #[.slice none 0 0]]) ?_ ?_
  ·intro Y hY;refine aU 12 6 (fun j=>[Fact.is (·=.int .u8 op),Fact.is (·=.agg #[.slice xa A'.length xc]),Fact.is (·=.pointer (some ⟨P,0,none⟩)),Fact.is (·=.int .i64 pa),Fact.is (·=.bool (bz A' pa)),Fact.is (·=.agg #[.slice ya B'.length yc]),Fact.is (·=.pointer (some ⟨P,1,none⟩)),Fact.is (·=.int .i64 pb),Fact.is (·=.bool (bz B' pb)),Fact.is (·=.bool (f (bz A' pa) (bz B' pb))),Fact.is (·=.agg #[.bool (f (bz A' pa) (bz B' pb)),.slice none 0 0]),Fact.obj 11 92 #[.bool false,.slice none 0 0]].getD j Fact.any) zk zk ?_ ?_
   ·intro i hi o win a wr ho RA;have HO3:=HO2.out.dr.move RA.below;have q1:=(HO3.d9 (g:=G1) (t:=27) (arr:=#[.slice xa A'.length xc]) zS).cell (i:=0) rfl;have q2:=(HO3.d9 (g:=G2) (t:=27) (arr:=#[.slice ya B'.length yc]) zS).cell (i:=0) rfl;have q3:=HO3.obj.c 0;have q4:=HO3.obj.c 1;have hin:=Mem.cK hmk' HO3.inn;rcases (show i=0∨i=1∨i=2∨i=3∨i=4∨i=5∨i=6∨i=7∨i=8∨i=9∨i=10∨i=11 by omega) with rfl | rfl | rfl | rfl | rfl | rfl | rfl | rfl | rfl | rfl | rfl | rfl
    ·have e2:=RA.k 2;cases ho;exact wv rfl rfl rfl
    ·have e7:=RA.k 7;cases ho;exact wv rfl rfl rfl
    ·have e12:=RA.k 12;cases ho;exact wv rfl rfl rfl
    ·have e42:a.tmps.getD 42 undef=_:=RA.d 2 rfl;cases ho;exact wv rfl rfl rfl
    ·have e41:a.tmps.getD 41 undef=_:=RA.d 1 rfl;have e43:a.tmps.getD 43 undef=_:=RA.d 3 rfl;cases ho;refine we rfl rfl (nS (.slice xa A'.length xc) A' pa mk wr hin HR1.out.1 zo zo) ?_;rintro e w' ⟨rfl,hb⟩;exact⟨_,rfl,_,rfl,hb,rfl⟩
    ·have e8:=RA.k 8;cases ho;exact wv rfl rfl rfl
    ·have e12:=RA.k 12;cases ho;exact wv rfl rfl rfl
    ·have e46:a.tmps.getD 46 undef=_:=RA.d 6 rfl;cases ho;exact wv rfl rfl rfl
    ·have e45:a.tmps.getD 45 undef=_:=RA.d 5 rfl;have e47:a.tmps.getD 47 undef=_:=RA.d 7 rfl;cases ho;refine we rfl rfl (nS (.slice ya B'.length yc) B' pb mk wr hin HR1.out.2 zo zo) ?_;rintro e w' ⟨rfl,hb⟩;exact⟨_,rfl,_,rfl,hb,rfl⟩
    ·have e40:a.tmps.getD 40 undef=_:=RA.d 0 rfl;have e44:a.tmps.getD 44 undef=_:=RA.d 4 rfl;have e48:a.tmps.getD 48 undef=_:=RA.d 8 rfl;cases ho;refine we rfl rfl (OY op (bz A' pa) (bz B' pb) wr f HW.out) ?_;rintro e w' ⟨rfl,hb⟩;exact⟨_,rfl,_,rfl,hb,rfl⟩
    ·have e49:a.tmps.getD 49 undef=_:=RA.d 9 rfl;have f49:=(zT (xs:=a.tmps) (i:=49) (d:=undef)).symm.trans e49;cases ho;exact wv rfl rfl rfl
    ·cases ho;exact aF rfl rfl (aP zg ⟨_,rfl,aR (zP _ _) _,AQ win⟩)
   ·intro win a wr E;have e2:=E.keep 2 zk;have e6:=E.keep 6 zk;have e7:=E.keep 7 zk;have e8:=E.keep 8 zk;have e9:=E.keep 9 zk;have e10:=E.keep 10 zk;have e11:=E.keep 11 zk;have e12:=E.keep 12 zk;have e13:(Fact.obj 11 92 #[.bool false,.slice none 0 0]).holds (a.tmps.getD 13 undef) win wr:=E.fact 11 _ zo rfl;have e50:a.tmps.getD 50 undef=.agg #[.bool (f (bz A' pa) (bz B' pb)),.slice none 0 0]:=E.fact 10 _ zo rfl;obtain⟨p1,n1,o1⟩:_∧_∧_:=e13;have g1:=E.rng 11 zo;have hO1:=HO2.out.dr.move E.below;have hge:=HO2.out.dr.below.size;have hF:=hO1.newObj o1 zo (Mem.fU HO2.out.dr.inn g1.1) (HO2.out.dr.yj g1.1);generalize (win 11).1=S at *
    have HE:=zh E;clear E g1 hge o1 n1 hO1;have b0:=hF.obj.frozen 0;have b1:=hF.obj.frozen 1;have b2:=hF.obj.c 0;have b3:=hF.obj.c 1;have b4:=hF.obj.lt;have hZ:=(hF.set 0 (.bool (f (bz A' pa) (bz B' pb)))).set 1 (.slice none 0 0);refine dQ 12 zk (aF rfl rfl (aZ zg ?_));obtain⟨t,d⟩:=a;obtain rfl:d=[]:=HE.out.defers;refine bS zk (hY.out _ _ HE.out.size ⟨S,?_,hZ⟩) _;simp only[yG,List.map_nil,e2,e6,e7,e8,e9,e10,e11,e12,p1]
    rfl
  rintro z4 vs w3 - ⟨S,rfl,hO⟩;simp[litL,lk];have HO:=zh (hO.dI 133 3);clear hO HO2 hW2;go_wp2;refine au [2,6,7,8,9,10,11,12,13,14] (fun n vs w'=>∃(c:Nat) (l':List (Int × Int)) (vl' ve:Value) (es:List Ed),c≤256∧n=256 - c ∧
   vs=[.int .u8 op,.pointer (some ⟨w.heap.size+1+1,0,none⟩),.pointer (some ⟨G1,0,none⟩),.pointer (some ⟨G2,0,none⟩),vl',vo,.int .i64 k,.pointer (some ⟨P,0,none⟩),.pointer (some ⟨S,0,none⟩),.int .i64 c] ∧
   Own w m w' mk' [.row ve 133 3 es.length (bQ es),.obj S 92 #[.bool (f (bz A' pa) (bz B' pb)),ve],.obj P 240 #[.int .i64 pa,.int .i64 pb],.row vo 92 2 k xs,.row vl' 240 2 l'.length (dA l'),.obj G2 27 #[.slice ya B'.length yc],.obj G1 27 #[.slice xa A'.length xc],.obj (w.heap.size+1+1) 27 #[.slice none 0 0]] ∧
   mD A' B' (pa,pb) l' es c∧iI A' B' f (st0 A',st0 B') l' out∧l'[k]?=some (pa,pb)∧(∀q∈l',q.1<A'.length∧q.2<B'.length)) ?_ ?_
  ·exact⟨_,0,l,.slice (some ⟨vlb,0,none⟩) l.length vlc,.slice none 0 0,[],zo,rfl,rfl,HO.out,mD.start _ _ _ _,HP.out.1,HP.out.2.2.1,HP.out.2.2.2⟩
  clear HO;rintro Y z5 n vs w6 hY - ⟨c,l',vl',ve,es,hc,rfl,rfl,hO,hcov,hPI,hlk,hlr⟩;simp[litL,lk];obtain⟨vla2,vlc2,rfl⟩:=aM (hO.jY (v:=vl') (t:=240) (size:=2) (n:=l'.length) (xs:=dA l') zS);obtain⟨vea,vec,rfl⟩:=aM hO.row;have hpl2:=kC hPI.nodup hPI.rng;have hok:=hcov.ok zo;have hel:=hok.2;have HC:=zh (zi hcov (zi hPI (zi hlk (zi hok.1 hlr))));clear hcov hlk hok hPI hlr;by_cases hlt2:c<256
  ·have hgt:=Cx (Ls:=[A',B']) (ps:=[pa,pb]) hlt2 2;have hle:=Cw [A',B'] [pa,pb] c 2;have HQ:=zh (fun b (h1:c≤b) (h2:b<tT [A',B'] [pa,pb] c 2)=>KV (A:=A') (B:=B') (p:=(pa,pb)) h1 h2);have q1:=(hO.d9 (g:=G1) (t:=27) (arr:=#[.slice xa A'.length xc]) zS).cell (i:=0) rfl;have q1l:=(hO.d9 (g:=G1) (t:=27) (arr:=#[.slice xa A'.length xc]) zS).lt;have q2:=(hO.d9 (g:=G2) (t:=27) (arr:=#[.slice ya B'.length yc]) zS).cell (i:=0) rfl;have q2l:=(hO.d9 (g:=G2) (t:=27) (arr:=#[.slice ya B'.length yc]) zS).lt;have q3:=(hO.d9 (g:=P) (t:=240) (arr:=#[.int .i64 pa,.int .i64 pb]) zS).cell (i:=0) rfl;have q4:=(hO.d9 (g:=P) (t:=240) (arr:=#[.int .i64 pa,.int .i64 pb]) zS).cell (i:=1) rfl;have q3l:=(hO.d9 (g:=P) (t:=240) (arr:=#[.int .i64 pa,.int .i64 pb]) zS).lt;have hO3:=(hO.al #[.slice xa A'.length xc,.slice ya B'.length yc] 27).al #[.int .i64 pa,.int .i64 pb] 3;have hsz:(w6.alloc (.cells #[.slice xa A'.length xc,.slice ya B'.length yc] 27)).heap.size=w6.heap.size+1:=by simp
   rw[hsz] at hO3;have hOm:=hO.move (aR (aR (zP _ _) (.cells #[.slice xa A'.length xc,.slice ya B'.length yc] 27)) (.cells #[.int .i64 pa,.int .i64 pb] 3));have HCut:=zh (PO (v:=.slice xa A'.length xc) (v':=.slice ya B'.length yc) hO3 (aJ hmk' HR1.out.1) (aJ hmk' HR1.out.2) zo zo zo zo hlt2 zo zo);have HO:=zh hOm;clear hO hO3 hsz hOm
   go_wp2_with fail
   refine HCut.out.mono ?_;rintro e w7 ⟨rfl,hb7⟩;have HO:=zh (HO.out.move hb7);clear HCut hb7 q1 q1l q2 q2l q3 q4 q3l;generalize tT [A',B'] [pa,pb] c 2=ed at *
   go_wp2;refine aI [2,6,7,8,9,10,11,12,13,14,15,16] (fun vs w'=>∃Z:Nat,vs=[.int .u8 op,.pointer (some ⟨w.heap.size+1+1,0,none⟩),.pointer (some ⟨G1,0,none⟩),.pointer (some ⟨G2,0,none⟩),.slice vla2 l'.length vlc2,vo,.int .i64 k,.pointer (some ⟨P,0,none⟩),.pointer (some ⟨S,0,none⟩),.int .i64 c,.int .i64 ed,.pointer (some ⟨Z,0,none⟩)] ∧
    Own w m w' mk' [.obj Z 240 #[.int .i64 (bD A' pa c),.int .i64 (bD B' pb c)],.row (.slice vea es.length vec) 133 3 es.length (bQ es),.obj S 92 #[.bool (f (bz A' pa) (bz B' pb)),.slice vea es.length vec],.obj P 240 #[.int .i64 pa,.int .i64 pb],.row vo 92 2 k xs,.row (.slice vla2 l'.length vlc2) 240 2 l'.length (dA l'),.obj G2 27 #[.slice ya B'.length yc],.obj G1 27 #[.slice xa A'.length xc],.obj (w.heap.size+1+1) 27 #[.slice none 0 0]]) ?_ ?_
   ·intro V hV;refine aU 12 6 (fun j=>[Fact.is (·=.agg #[.slice xa A'.length xc]),Fact.is (·=.pointer (some ⟨P,0,none⟩)),Fact.is (·=.int .i64 pa),Fact.is (·=.int .i64 c),Fact.is (·=.int .i64 (bD A' pa c)),Fact.is (·=.agg #[.slice ya B'.length yc]),Fact.is (·=.pointer (some ⟨P,1,none⟩)),Fact.is (·=.int .i64 pb),Fact.is (·=.int .i64 c),Fact.is (·=.int .i64 (bD B' pb c)),Fact.is (·=.agg #[.int .i64 (bD A' pa c),.int .i64 (bD B' pb c)]),Fact.obj 11 240 #[.int .i64 0,.int .i64 0]].getD j Fact.any) zk zk ?_ ?_
    ·intro i hi o win a wr ho RA;have HO3:=HO.out.dr.move RA.below;have q1:=(HO3.d9 (g:=G1) (t:=27) (arr:=#[.slice xa A'.length xc]) zS).cell (i:=0) rfl;have q2:=(HO3.d9 (g:=G2) (t:=27) (arr:=#[.slice ya B'.length yc]) zS).cell (i:=0) rfl;have q3:=(HO3.d9 (g:=P) (t:=240) (arr:=#[.int .i64 pa,.int .i64 pb]) zS).cell (i:=0) rfl;have q4:=(HO3.d9 (g:=P) (t:=240) (arr:=#[.int .i64 pa,.int .i64 pb]) zS).cell (i:=1) rfl;have hin:=Mem.cK hmk' HO3.inn;rcases (show i=0∨i=1∨i=2∨i=3∨i=4∨i=5∨i=6∨i=7∨i=8∨i=9∨i=10∨i=11 by omega) with rfl | rfl | rfl | rfl | rfl | rfl | rfl | rfl | rfl | rfl | rfl | rfl
     ·have e7:=RA.k 7;cases ho;exact wv rfl rfl rfl
     ·have e12:=RA.k 12;cases ho;exact wv rfl rfl rfl
     ·have e64:a.tmps.getD 64 undef=_:=RA.d 1 rfl;cases ho;exact wv rfl rfl rfl
     ·have e14:=RA.k 14;cases ho;exact wv rfl rfl rfl
     ·have e63:a.tmps.getD 63 undef=_:=RA.d 0 rfl;have e65:a.tmps.getD 65 undef=_:=RA.d 2 rfl;have e66:a.tmps.getD 66 undef=_:=RA.d 3 rfl;cases ho;refine we rfl rfl (IQ (.slice xa A'.length xc) A' pa c mk wr hin HR1.out.1 zo zo) ?_;rintro e w' ⟨rfl,hb⟩;exact⟨_,rfl,_,rfl,hb,rfl⟩
     ·have e8:=RA.k 8;cases ho;exact wv rfl rfl rfl
     ·have e12:=RA.k 12;cases ho;exact wv rfl rfl rfl
     ·have e69:a.tmps.getD 69 undef=_:=RA.d 6 rfl;cases ho;exact wv rfl rfl rfl
     ·have e14:=RA.k 14;cases ho;exact wv rfl rfl rfl
     ·have e68:a.tmps.getD 68 undef=_:=RA.d 5 rfl;have e70:a.tmps.getD 70 undef=_:=RA.d 7 rfl;have e71:a.tmps.getD 71 undef=_:=RA.d 8 rfl;cases ho;refine we rfl rfl (IQ (.slice ya B'.length yc) B' pb c mk wr hin HR1.out.2 zo zo) ?_;rintro e w' ⟨rfl,hb⟩;exact⟨_,rfl,_,rfl,hb,rfl⟩
     ·have e67:a.tmps.getD 67 undef=_:=RA.d 4 rfl;have e72:a.tmps.getD 72 undef=_:=RA.d 9 rfl;have f72:=(zT (xs:=a.tmps) (i:=72) (d:=undef)).symm.trans e72;have f67:=(zT (xs:=a.tmps) (i:=67) (d:=undef)).symm.trans e67;cases ho;exact wv rfl rfl rfl
     ·cases ho;exact aF rfl rfl (aP zg ⟨_,rfl,aR (zP _ _) _,AQ win⟩)
    ·intro win a wr E;have e2:=E.keep 2 zk;have e6:=E.keep 6 zk;have e7:=E.keep 7 zk;have e8:=E.keep 8 zk;have e9:=E.keep 9 zk;have e10:=E.keep 10 zk;have e11:=E.keep 11 zk;have e12:=E.keep 12 zk;have e13:=E.keep 13 zk;have e14:=E.keep 14 zk;have e15:=E.keep 15 zk;have e16:(Fact.obj 11 240 #[.int .i64 0,.int .i64 0]).holds (a.tmps.getD 16 undef) win wr:=E.fact 11 _ zo rfl;have e73:a.tmps.getD 73 undef=.agg #[.int .i64 (bD A' pa c),.int .i64 (bD B' pb c)]:=E.fact 10 _ zo rfl;obtain⟨p1,n1,o1⟩:_∧_∧_:=e16;have g1:=E.rng 11 zo;have hO1:=HO.out.dr.move E.below;have hge:=HO.out.dr.below.size;have hF:=hO1.newObj o1 zo (Mem.fU HO.out.dr.inn g1.1) (HO.out.dr.yj g1.1);generalize (win 11).1=Z at *
     have HE:=zh E;clear E g1 hge o1 n1 hO1;have b0:=hF.obj.frozen 0;have b1:=hF.obj.frozen 1;have b2:=hF.obj.c 0;have b3:=hF.obj.c 1;have b4:=hF.obj.lt;have hZ:=(hF.set 0 (.int .i64 (bD A' pa c))).set 1 (.int .i64 (bD B' pb c));refine dQ 12 zk (aF rfl rfl (aZ zg ?_));obtain⟨t,d⟩:=a;obtain rfl:d=[]:=HE.out.defers;refine bS zk (hV.out _ _ HE.out.size ⟨Z,?_,hZ⟩) _;simp only[yG,List.map_nil,e2,e6,e7,e8,e9,e10,e11,e12,e13,e14,e15,p1]
     rfl
   rintro z6 vs w8 - ⟨Z,rfl,hO⟩;simp[litL,lk];clear HO;have hrA:=dU HG.out.1.wf pa c;have hrB:=dU HG.out.2.1.wf pb c;have hps:jJ A' B' (pa,pb) c=(bD A' pa c,bD B' pb c):=rfl;obtain⟨qa,hqa⟩:∃x,bD A' pa c=x:=⟨_,rfl⟩;obtain⟨qb,hqb⟩:∃x,bD B' pb c=x:=⟨_,rfl⟩;rw[hqa,hqb] at hps;rw[hqa] at hrA;rw[hqb] at hrB;rw[hqa,hqb] at hO;have hPI2:=HC.out.2.1.add (q:=(qa,qb)) (by simp only;omega);have hpk:∀q∈l',Eb q:=fun q hq=>by
    have:=HC.out.2.1.rng q hq;exact⟨zo,zo,zo,zo⟩
   have hgt2:=wS l' (qa,qb);have hpre:=wR l' (qa,qb);have hcs:=(HC.out.1.mono hpre).seg (h:=ed - 1) (t:=fO l' (qa,qb)) zo zo (by rw[hps];exact hgt2) (fun b h1 h2=>HQ.out b h1 zo);have hlk2:(dW l' (qa,qb))[k]?=some (pa,pb):=by
    obtain⟨x,hx⟩:=hpre;rw[← hx,yF (List.getElem?_eq_some_iff.1 HC.out.2.2.1).1];exact HC.out.2.2.1
   have hlr2:∀q∈dW l' (qa,qb),q.1<A'.length∧q.2<B'.length:=fun q hq=>by
    unfold dW at hq
    split at hq
    ·exact HC.out.2.2.2.2 q hq
    ·rcases List.mem_append.1 hq with h | h
     ·exact HC.out.2.2.2.2 q h
     ·simp only[zU] at h;subst h;simp only;omega
   have hpno:=rC l' (qa,qb);have HK2:=zh (zi hcs (zi hPI2 (zi hlk2 hlr2)));have hq:=hO.pull (l₁:=[_,_,_,_,_]);have HPl:=zh (Mv (.slice vla2 l'.length vlc2) l' (qa,qb) _ w8 hq.bv.inn (pM hq.row hpk));have b0:=hO.obj.c 0;have b1:=hO.obj.c 1;have b2:=hO.obj.lt;have HO:=zh hO;clear hO hq hpk hcs hPI2 hlk2 hlr2 hgt2 hpre hrA hrB hps HQ
   go_wp2_with fail
   refine HPl.out.mono ?_;rintro e w9 ⟨rfl,hb9⟩;rw[zt];have HO:=zh (HO.out.move hb9);clear HPl hb9 b0 b1 b2;obtain⟨bq,hbq⟩:∃b,decide (fO l' (qa,qb)<l'.length)=b:=⟨_,rfl⟩;have hto:(if fO l' (qa,qb)<l'.length then ((fO l' (qa,qb):Nat):Int) else -1)=if bq=true then ((fO l' (qa,qb):Nat):Int) else -1:=by rw[← hbq];simp
   rw[hto];have HBQ:=zh hbq;clear hto hbq;obtain⟨vv,hvv⟩:∃v:Int,(if bq=true then ((fO l' (qa,qb):Nat):Int) else -1)=v:=⟨_,rfl⟩;rw[hvv];have HVV:=zh hvv;clear hvv
   go_upto_if 78 with (fail)
   refine aI [2,6,7,8,9,10,11,12,13,14,15,17] (fun vs w'=>∃vl2:Value,vs=[.int .u8 op,.pointer (some ⟨w.heap.size+1+1,0,none⟩),.pointer (some ⟨G1,0,none⟩),.pointer (some ⟨G2,0,none⟩),vl2,vo,.int .i64 k,.pointer (some ⟨P,0,none⟩),.pointer (some ⟨S,0,none⟩),.int .i64 c,.int .i64 ed,.int .i64 (fO l' (qa,qb))] ∧
    Own w m w' mk' [.row (.slice vea es.length vec) 133 3 es.length (bQ es),.obj S 92 #[.bool (f (bz A' pa) (bz B' pb)),.slice vea es.length vec],.obj P 240 #[.int .i64 pa,.int .i64 pb],.row vo 92 2 k xs,.row vl2 240 2 (dW l' (qa,qb)).length (dA (dW l' (qa,qb))),.obj G2 27 #[.slice ya B'.length yc],.obj G1 27 #[.slice xa A'.length xc],.obj (w.heap.size+1+1) 27 #[.slice none 0 0]]) ?_ ?_
   ·intro V hV
    cases bq with
    | true=>
     have hvv:((fO l' (qa,qb):Nat):Int)=vv:=HVV.out;have hlt3:fO l' (qa,qb)<l'.length:=of_decide_eq_true HBQ.out;have he:dW l' (qa,qb)=l':=by unfold dW;rw[zI hlt3]
     have hng:¬ vv<0:=zo;have hd:decide (vv<0)=false:=zK hng;have HE:=zh (zi he hvv);clear he hvv;go_wp2;refine hV.out _ _ rfl ⟨.slice vla2 l'.length vlc2,?_,?_⟩
     ·rw[HE.out.2];rfl
     ·rw[HE.out.1];exact HO.out.tail
    | false=>
     have hvv : -1=vv:=HVV.out;have hlt3:¬ fO l' (qa,qb)<l'.length:=of_decide_eq_false HBQ.out;have he:dW l' (qa,qb)=l' ++ [(qa,qb)]:=by unfold dW;rw[zH hlt3]
     have hn:fO l' (qa,qb)=l'.length:=zo;have hng:vv<0:=zo;have hd:decide (vv<0)=true:=zL hng;have HE:=zh (zi he hn);have hO2:=HO.out.al #[.int .i64 qa,.int .i64 qb] 240;have hnews:=hO2.obj.news rfl;have b0:=HO.out.obj.c 0;have b1:=HO.out.obj.c 1;have b2:=HO.out.obj.lt;have hO3:=hO2.pull (l₁:=[_,_,_,_,_,_]);have hvr:=hO3.row;have HO3:=zh hO3;clear he hn hvv hlt3 hO2 hO3
     go_wp2_with (at_builtin;refine aA O0 rfl (.tmp 81) (.tmp 83) rfl (.slice vla2 l'.length vlc2) l'.length (dA l') rfl hvr ⟨w9.heap.size,0,none⟩ 1 1 [.int .i64 qa,.int .i64 qb] rfl rfl hnews (by simp[Value.oneCell']) (by unfold maxLen;omega) zo ?_)
     intro xa' xc' w10 hown7 hgrow7 hrow7;have hO5:=((HO3.out.app hown7 hgrow7 hrow7 zS).vU (l₁:=[_,_,_,_,_,_])).tail.tail;have HO5:=zh hO5;clear hown7 hgrow7 hrow7 hO5 hvr hnews b0 b1 b2 HO3;go_wp2;refine hV.out _ _ rfl ⟨.slice xa' (l'.length+1) xc',?_,?_⟩
     ·rw[HE.out.2];rfl
     ·rw[HE.out.1];have:=HO5.out;simpa [nG] using this
   rintro z7 vs w10 - ⟨vl2,rfl,hO⟩;simp[litL,lk];clear HO HVV HBQ;obtain⟨vla3,vlc3,rfl⟩:=aM (hO.jY (v:=vl2) (t:=240) (size:=2) (n:=(dW l' (qa,qb)).length) (xs:=dA (dW l' (qa,qb))) zS);generalize fO l' (qa,qb)=t at *
   generalize dW l' (qa,qb)=l2 at *
   have hwu:IntKind.u8.wrap (c:Int)=(c:Int):=IntWalk.u8_in _ zo;have hwv:IntKind.u8.wrap ((ed:Int) - 1)=(ed:Int) - 1:=IntWalk.u8_in _ zo;have s1:=hO.swap.obj.c 1;have s2:=hO.swap.obj.lt;have s3:=hO.swap.obj.frozen 1;have hO2:=hO.al #[.int .u8 c,.int .u8 ((ed:Int) - 1),.int .i64 t] 133;have hnews:=hO2.obj.news rfl;have hvr:=hO2.swap.row;have HO2:=zh hO2.swap;clear hO hO2
   go_wp2_with (at_builtin;refine aA mF rfl (.tmp 86) (.tmp 94) rfl (.slice vea es.length vec) es.length (bQ es) rfl hvr ⟨w10.heap.size,0,none⟩ 1 1 [.int .u8 c,.int .u8 ((ed:Int) - 1),.int .i64 t] rfl rfl hnews (by simp[Value.oneCell']) (by unfold maxLen;omega) zo ?_)
   intro na' nc' w11 hown7 hgrow7 hrow7;have hO3:=(HO2.out.app hown7 hgrow7 hrow7 zS).drop2;have s1:=hO3.swap.obj.c 1;have s2:=hO3.swap.obj.lt;have s3:=hO3.swap.obj.frozen 1;have hO4:=(hO3.swap.set 1 (.slice na' (es.length+1) nc')).swap;have HO4:=zh hO4;clear hown7 hgrow7 hrow7 hO3 hO4 hvr hnews HO2;go_wp2;have hed:(((ed - 1:Nat):Int))=(ed:Int) - 1:=zo;refine hY.out _ _ _ zo rfl ⟨ed,l2,.slice vla3 l2.length vlc3,.slice na' (es.length+1) nc',es ++ [⟨c,ed - 1,t⟩],zo,rfl,?_,?_,?_,HK2.out.2.1,HK2.out.2.2.1,HK2.out.2.2.2⟩
   ·rfl
   ·have:=HO4.out;rw[← hed] at this;simpa [eT] using this
   ·have:=HK2.out.1
    rwa [show ed - 1+1=ed by omega] at this
  ·obtain rfl:c=256:=zo;have hPIn:=HC.out.2.1.push (p:=(pa,pb)) (by rw[HP.out.2.1];exact HC.out.2.2.1) HC.out.1;have hes:=fC (l:=es) (m:=mk') hO.row HC.out.2.2.2.1;have hmk2:=Mem.dG (w:=w6) hO.free;have hrow2:=(hrow.mono hmk2).push (s:=⟨(f (bz A' pa) (bz B' pb)),es⟩) hes;have hO2:=hO.bv;have s0:=hO2.obj.c 0;have s1:=hO2.obj.c 1;have sl:=hO2.obj.lt;obtain⟨voa,voc,rfl⟩:=aM (hO2.jY (v:=vo) (t:=92) (size:=2) (n:=k) (xs:=xs) zS);have hO3:=hO2.al #[.bool (f (bz A' pa) (bz B' pb)),.slice vea es.length vec] 92;have hO4:=hO3.pull (l₁:=[_,_,_]);have hvr:=hO4.row;have hnews:=hO3.obj.news rfl;have Hk:=zh (zi hrow2 (zi (Mem.le_trans hmk' hmk2) (zi hPIn HC.out.2.2.2.2)));clear hrow2 hes hmk2 hO2 hO hPIn hO3;generalize mk'.addv w6 (.slice vea es.length vec)=mk2 at *
   go_wp2_with (at_builtin;refine aA iJ rfl (.tmp 98) (.tmp 100) rfl (.slice voa k voc) k xs rfl hvr ⟨w6.heap.size,0,none⟩ 1 1 [.bool (f (bz A' pa) (bz B' pb)),.slice vea es.length vec] rfl rfl hnews (by simp[Value.oneCell']) (by unfold maxLen;omega) zo ?_)
   intro xa' xc' w7 hown7 hgrow7 hrow7;have hO5:=(hO4.app hown7 hgrow7 hrow7 zS).drop2.drop2.drop2;have HO5:=zh hO5;clear hown7 hgrow7 hrow7 hO4 hO5 hvr hnews;go_wp2;refine hX.out _ _ _ zo rfl ⟨k+1,l',out ++ [⟨(f (bz A' pa) (bz B' pb)),es⟩],.slice vla2 l'.length vlc2,.slice xa' (k+1) xc',_,mk2,rfl,rfl,HO5.out,Hk.out.1,Hk.out.2.1,Hk.out.2.2.1,?_,Hk.out.2.2.2⟩;rw[zJ,HP.out.2.1];rfl
 ·have hkl2:k=l.length:=zo;have hdone:=hPI.done (Qt HW.out) zo;obtain⟨voa,voc,rfl⟩:=aM hO.row;have hst:=dK (l:=out) (m:=mk') (by rw[hol];exact hO.row) hrow hO.free;have hO2:=hO.bv;have HM:=zh (pK (.slice voa k voc) out _ wr hO2.inn hst zo);have HO2:=zh hO2;have HD:=zh (zi hdone hol);clear hO2 hst hO hdone hol hPI hrow hkl2 hlr
  go_wp2_with fail
  refine HM.out.mono ?_;rintro e w2 ⟨r,C,rfl,hb2,hst,hClen,hmin,hnot⟩;have hwf:=HD.out.1.1;rw[aN hwf];obtain⟨ra,rc,rfl⟩:∃ra rc,r=.slice ra C.length rc:=by obtain⟨x,y,e,-⟩:=hst;exact⟨x,y,e⟩
  have hO3:=HO2.out.call hb2;have hO4:=(hO3.pull (l₁:=[_,_,_])).al #[.slice ra C.length rc] 27;have g1:=hO4.swap.obj.c 0;have g2:=hO4.swap.obj.frozen 0;have g3:=hO4.swap.obj.lt;have hO5:=hO4.swap.set 0 (.slice ra C.length rc);have g4:=hO5.obj.c 0;have hfin:=aJ hO5.done hst;have Hk:=zh (zi hO5.below (zi hfin (zi (hmin hwf) hClen)));clear hO5 hO4 hO3 hfin hmin hnot hst hClen HO2 hwf;go_wp2;refine yQ (v:=.agg #[.slice ra C.length rc]) (by simp[results,Tryz.results231,go_sem,g4]) rfl ?_;refine hR.out _ _ ⟨_,C,rfl,Hk.out.1,Hk.out.2.1,⟨Hk.out.2.2.1.canon,fun x=>?_⟩,?_⟩
  ·rw[Hk.out.2.2.1.lang,HD.out.1.2.2.2.2];rw[Iy,Iy,HG.out.2.2.1,HG.out.2.2.2]
  ·have h1:=Hk.out.2.2.2;have h2:=HD.out.2;omega
theorem uH (v0 v1:Value) (A B:Table) (m:Mem) (w:World) (hm:m.inn w) (hA:aG m v0 A) (hB:aG m v1 B) (hF:Fits A B) :
 Calls Tryz.prog 167 #[.agg #[v0],.agg #[v1]] w fun e w'=>∃r C,e=.returned (.agg #[r])∧Below w.heap.size w w'∧aG (m.grow w w') r C ∧
  eQ (fun x=>Sem A x && !Sem B x) C∧C.length≤(A.length+2)*(B.length+2)+1:=by
 have hO:=(((Own.start hm).al #[v0] 27).al #[v1] 27).al #[.slice none 0 0] 27;have hsz1:(w.alloc (.cells #[v0] 27)).heap.size=w.heap.size+1:=by simp
 have hsz2:((w.alloc (.cells #[v0] 27)).alloc (.cells #[v1] 27)).heap.size=w.heap.size+2:=by simp
 rw[hsz2,hsz1] at hO;have HP:=zh (G5 45 (fun x y=>x && !y) zS v0 v1 A B m _ hO.inn hA hB hF.mul hF.a hF.b);have HO:=zh hO;obtain⟨va,vc,rfl,-⟩:=hA;obtain⟨vb,vd,rfl,-⟩:=hB;clear hO hsz1 hsz2;refine aj fun R hR=>?_
 go_enter Tryz.func167,Tryz.ntmps167
 go_wp2_with fail
 refine HP.out.mono ?_;rintro e w1 ⟨r,C,rfl,hb1,hst,hlang,hClen⟩;have hO1:=HO.out.call hb1;obtain⟨ra,rc,rfl⟩:∃ra rc,r=.slice ra C.length rc:=by obtain⟨x,y,e,-⟩:=hst;exact⟨x,y,e⟩
 have g1:=hO1.obj.c 0;have g2:=hO1.obj.frozen 0;have g3:=hO1.obj.lt;have hO2:=hO1.set 0 (.slice ra C.length rc);have g4:=hO2.obj.c 0;have Hk:=zh (zi hO2.below (zi (aJ hO2.done hst) (zi hlang hClen)));clear hO2 hO1 hst hlang hClen HP HO hb1;go_wp2;refine yQ (v:=.agg #[.slice ra C.length rc]) (by simp[results,Tryz.results167,go_sem,g4]) rfl ?_;exact hR.out _ _ ⟨_,C,rfl,Hk.out.1,Hk.out.2.1,Hk.out.2.2.1,Hk.out.2.2.2⟩
theorem Pi:Jz Tryz.prog 189 195 24 (.slice none 0 0):=⟨Tryz.underlying189,zk,rfl⟩
def jw (A:Table) (M:Nat):List (List Bool):=(List.range A.length).map fun s=>(List.range (M+1)).map fun n=>cb A s n
theorem J9 (v:Value) (A:Table) (M:Nat) (m:Mem) (w:World) (hm:m.inn w) (hA:aG m v A) (hw:WF A) (hb:Bytes A) (hM:M≤1000000) (hl:A.length≤100000) :
 Calls Tryz.prog 221 #[.agg #[v],.int .i64 M] w fun e w'=>∃r,e=.returned r∧Below w.heap.size w w'∧Jo (m.grow w w') r (jw A M):=by
 have hO:=(Own.start hm).al #[v] 27;have HO:=zh hO;obtain⟨va,vc,rfl,a1,a2,a3⟩:=hA;unfold maxLen at a2;have HA:=zh a3;have HW:=zh (zi hw hb);clear hO a3 hw hb;refine aj fun R hR=>?_;have b0:=HO.out.obj.c 0
 go_enter Tryz.func221,Tryz.ntmps221
 go_wp2_with (refine wpList_make_row Pi rfl (.tmp 12) (.tmp 12) rfl A.length rfl rfl zo (by unfold maxLen;omega) ?_)
 intro w1 hown hgr;have hO1:=HO.out.make (by simpa using hown) hgr;have hsz:(w.alloc (.cells #[.slice va A.length vc] 27)).heap.size=w.heap.size+1:=by simp
 rw[hsz] at hO1;have ho0:List.replicate A.length (Value.slice none 0 0)=outer (fun _=>0) M 0 A.length:=by
  apply List.ext_getElem <;> simp[outer]
 rw[ho0] at hO1;have HO1:=zh hO1;clear hown hgr hO1 hsz ho0 b0 HO;generalize w.heap.size+1=OB at *
 have hb0:=HO1.out.swap.obj.c 0;have hb1:=HO1.out.swap.obj.lt;go_wp2;refine au [1,2,5,6] (fun n vs w2=>∃(k:Nat) (g:Nat→Nat),k≤A.length∧n=A.length - k∧vs=[.int .i64 M,.pointer (some ⟨w.heap.size,0,none⟩),.slice (some ⟨OB,0,none⟩) A.length A.length,.int .i64 k] ∧
  Own w m w2 m (dD 4 g (f1 A) M k ++ [.row (.slice (some ⟨OB,0,none⟩) A.length A.length) 195 1 A.length (outer g M k A.length),.obj w.heap.size 27 #[.slice va A.length vc]])) ?_ ?_
 ·exact⟨_,0,fun _=>0,zC _,rfl,rfl,HO1.out⟩
 clear HO1 hb0 hb1;rintro X z n vs w2 hX - ⟨k,g,hk,rfl,rfl,hO⟩;simp[litL,lk];have hbox:=hO.d9 (g:=w.heap.size) (t:=27) (arr:=#[.slice va A.length vc]) zS;have c1:=hbox.cell (i:=0) rfl;have c2:=hbox.lt;by_cases hlt:k<A.length
 ·obtain⟨tb,toff,rfl,h4⟩:=HA.out (by intro h;simp[h] at hlt);obtain⟨e1,-⟩:=h4 k hlt;have hc0:=Ro hlt;rw[← hc0] at e1;obtain⟨ac,hac⟩:∃x,cb A k 0=x:=⟨_,rfl⟩;rw[hac] at e1;have HAC:=zh hac;have d1:=Mem.ak hO.inn e1;have d2:=Mem.ay hO.inn e1;have HO:=zh hO;clear hO hc0 hac h4 hbox
  go_wp2_with (refine wpList_make_row Cf rfl (.tmp 24) (.tmp 24) rfl (M+1) rfl rfl zo (by unfold maxLen;omega) ?_)
  intro w3 hown hgr;have hO2:=HO.out.make hown hgr;generalize w2.heap.size=G at *
  have hP:=hO2.fore (l₁:=.row (.slice (some ⟨G,0,none⟩) (M+1) (M+1)) 4 1 (M+1) (List.replicate (M+1) (.bool false))::dD 4 g (f1 A) M k) (a:=.row (.slice (some ⟨OB,0,none⟩) A.length A.length) 195 1 A.length (outer g M k A.length));have x1:=aT hP.row (kM (g:=g) (M:=M) (k:=k) hlt);have x2:=dh hP.row k;have x3:=(World.ownsRow.lt hP.row _ rfl).2;have hQ:=(hP.setRow k (.slice (some ⟨G,0,none⟩) (M+1) (M+1))).RB (l₁:=.row (.slice (some ⟨G,0,none⟩) (M+1) (M+1)) 4 1 (M+1) (List.replicate (M+1) (.bool false))::dD 4 g (f1 A) M k);rw[MB] at hQ;have hnk:¬ k<k:=Nat.lt_irrefl k;simp only[hnk,if_false] at x1;have HQ:=zh hQ;clear hown hgr hO2 hP hQ HO c1 c2 d1 d2;go_wp2;generalize w3.setCell ⟨OB,k,none⟩ (.slice (some ⟨G,0,none⟩) (M+1) (M+1))=w4 at *
  clear x1 x2 x3;have hR2:=HQ.out.fore (l₁:=.row (.slice (some ⟨G,0,none⟩) (M+1) (M+1)) 4 1 (M+1) (List.replicate (M+1) (.bool false))::dD 4 g (f1 A) M k);have x1:=aT hR2.row (kM (g:=fun s=>if s=k then G else g s) (M:=M) (k:=k+1) hlt);have hkk:k<k+1:=Nat.lt_succ_self k;simp only[hkk,if_true,rsl] at x1;have x2:=HQ.out.row;have x3:=aT x2 (j:=0) (u:=.bool false) zS;have x4:=dh x2 0;have x5:=(World.ownsRow.lt x2 _ rfl).2;have hbox:=HQ.out.d9 (g:=w.heap.size) (t:=27) (arr:=#[.slice (some ⟨tb,toff,none⟩) A.length vc]) zS;have c1:=hbox.cell (i:=0) rfl;have d1:=Mem.ak HQ.out.inn e1;clear hR2 x2 hbox;refine aI [1,2,5,6] (fun vs w'=>vs=[.int .i64 M,.pointer (some ⟨w.heap.size,0,none⟩),.slice (some ⟨OB,0,none⟩) A.length A.length,.int .i64 k]∧w'=(w4.setCell ⟨G,0,none⟩ (.bool ac)).drew) ?_ ?_
  ·intro Y hY
   go_region
   all_goals exact hY.out _ _ rfl ⟨rfl,rfl⟩
  rintro z1 vs w5 - ⟨rfl,rfl⟩;simp[litL,lk];have hF:=(HQ.out.setRow 0 (.bool ac)).dr;have hrow:(List.replicate (M+1) (Value.bool false)).set 0 (.bool ac)=brow (f1 A) M k:=by
   apply List.ext_getElem?;intro i;rw[List.getElem?_set];by_cases h:0=i
   ·subst h;rw[zI rfl,CG _ (zC _),zI zS];simp[f1,HAC.out]
   ·rw[zH h];by_cases h2:i≤M
    ·rw[CG _ h2];have h0:¬ i=0:=fun x=>h x.symm;have h3:i<M+1:=zo;simp[f1,h0,h3]
    ·rw[List.getElem?_eq_none (by simp;omega),List.getElem?_eq_none (by simp[brow];omega)]
  rw[hrow] at hF;have hcg:dD 4 g (f1 A) M k=dD 4 (fun s=>if s=k then G else g s) (f1 A) M k:=gQ (fun s hs=>by show g s=if s=k then G else g s;rw[zH zo]) (fun _ _ _ _=>rfl);rw[hcg] at hF;have hF2:Own w m (w4.setCell ⟨G,0,none⟩ (.bool ac)).drew m (yZ 4 (fun s=>if s=k then G else g s) (f1 A) M k::(dD 4 (fun s=>if s=k then G else g s) (f1 A) M k ++ [.row (.slice (some ⟨OB,0,none⟩) A.length A.length) 195 1 A.length (outer (fun s=>if s=k then G else g s) M (k+1) A.length),.obj w.heap.size 27 #[.slice (some ⟨tb,toff,none⟩) A.length vc]])):=by
   have e:yZ 4 (fun s=>if s=k then G else g s) (f1 A) M k=.row (.slice (some ⟨G,0,none⟩) (M+1) (M+1)) 4 1 (M+1) (brow (f1 A) M k):=by simp[yZ,rsl]
   rw[e];exact hF
  have HF:=zh hF2.QU;clear hF hF2 hrow hcg HQ x1 x3 x4 x5 c1 d1 HAC;go_wp2;exact hX.out _ _ _ zo rfl ⟨k+1,fun s=>if s=k then G else g s,zo,rfl,rfl,HF.out⟩
 ·obtain rfl:k=A.length:=zo;have hO2:Own w m w2 m (dD 4 g (f2 A 1) M A.length ++ [.row (.slice (some ⟨OB,0,none⟩) A.length A.length) 195 1 A.length (outer g M A.length A.length),.obj w.heap.size 27 #[.slice va A.length vc]]):=by
   rw[← gQ (fun _ _=>rfl) (fun s n _ _=>SG A s n)];exact hO
  have HO:=zh hO2;clear hO hO2 hk;go_wp2;refine au [1,2,5,7] (fun n vs w3=>∃j:Nat,j≤M∧n=M - j∧vs=[.int .i64 M,.pointer (some ⟨w.heap.size,0,none⟩),.slice (some ⟨OB,0,none⟩) A.length A.length,.int .i64 ((j+1:Nat):Int)] ∧
   Own w m w3 m (dD 4 g (f2 A (j+1)) M A.length ++ [.row (.slice (some ⟨OB,0,none⟩) A.length A.length) 195 1 A.length (outer g M A.length A.length),.obj w.heap.size 27 #[.slice va A.length vc]])) ?_ ?_
  ·exact⟨_,0,zC _,rfl,rfl,HO.out⟩
  clear HO c1 c2 hbox;rintro X1 z1 n1 vs1 w3 hX1 - ⟨j,hj,rfl,rfl,hO⟩;simp[litL,lk];by_cases hltj:j<M
  ·have hd:decide ((j:Int)+1≤(M:Int))=true:=zL zo;have hO2:Own w m w3 m (dD 4 g (f3 A (j+1) 0) M A.length ++ [.row (.slice (some ⟨OB,0,none⟩) A.length A.length) 195 1 A.length (outer g M A.length A.length),.obj w.heap.size 27 #[.slice va A.length vc]]):=by
    rw[← gQ (fun _ _=>rfl) (fun s n _ _=>SE A (j+1) s n)];exact hO
   have HO:=zh hO2;clear hO hO2;go_wp2;refine au [1,2,5,7,8] (fun n vs w4=>∃t:Nat,t≤A.length∧n=A.length - t∧vs=[.int .i64 M,.pointer (some ⟨w.heap.size,0,none⟩),.slice (some ⟨OB,0,none⟩) A.length A.length,.int .i64 ((j+1:Nat):Int),.int .i64 t] ∧
    Own w m w4 m (dD 4 g (f3 A (j+1) t) M A.length ++ [.row (.slice (some ⟨OB,0,none⟩) A.length A.length) 195 1 A.length (outer g M A.length A.length),.obj w.heap.size 27 #[.slice va A.length vc]])) ?_ ?_
   ·exact⟨_,0,zC _,rfl,rfl,HO.out⟩
   clear HO;rintro X2 z2 n2 vs2 w4 hX2 - ⟨t,ht,rfl,rfl,hO⟩;simp[litL,lk];have hbox:=hO.d9 (g:=w.heap.size) (t:=27) (arr:=#[.slice va A.length vc]) zS;have c1:=hbox.cell (i:=0) rfl;have c2:=hbox.lt;clear hbox;by_cases hltt:t<A.length
   ·obtain⟨tb,toff,rfl,h4⟩:=HA.out (by intro h;simp[h] at hltt);obtain⟨-,ve,g2,ea,ec,rfl,g4,g5,g6⟩:=h4 t hltt;unfold maxLen at g5;have hf3:=fun s n=>SA HW.out.1 HW.out.2 (k:=j+1) zo hltt s n;have hwe:=eG (HW.out.1 _ (zB hltt));have hO2:Own w m w4 m (dD 4 g (f4 A (j+1) t ((A[t]).edges.take 0)) M A.length ++ [.row (.slice (some ⟨OB,0,none⟩) A.length A.length) 195 1 A.length (outer g M A.length A.length),.obj w.heap.size 27 #[.slice (some ⟨tb,toff,none⟩) A.length vc]]):=by
     rw[← gQ (fun _ _=>rfl) (fun s n _ _=>(show f3 A (j+1) t s n=f4 A (j+1) t ((A[t]).edges.take 0) s n from SB A (j+1) t s n))];exact hO
    have HO:=zh (zi hO2 (zi hf3 hwe));have HG6:=zh g6;clear hO hO2 hf3 hwe h4 g6;generalize (A[t]).edges=es at *
    go_wp2;refine au [1,2,5,7,8,9] (fun n vs w5=>∃i:Nat,i≤es.length∧n=es.length - i∧vs=[.int .i64 M,.pointer (some ⟨w.heap.size,0,none⟩),.slice (some ⟨OB,0,none⟩) A.length A.length,.int .i64 ((j+1:Nat):Int),.int .i64 t,.int .i64 i] ∧
     Own w m w5 m (dD 4 g (f4 A (j+1) t (es.take i)) M A.length ++ [.row (.slice (some ⟨OB,0,none⟩) A.length A.length) 195 1 A.length (outer g M A.length A.length),.obj w.heap.size 27 #[.slice (some ⟨tb,toff,none⟩) A.length vc]])) ?_ ?_
    ·exact⟨_,0,zC _,rfl,rfl,HO.out.1⟩
    have HF3:=zh HO.out.2;clear HO c1 c2;rintro X3 z3 n3 vs3 w5 hX3 - ⟨i,hi,rfl,rfl,hO⟩;simp[litL,lk];have hbox:=hO.d9 (g:=w.heap.size) (t:=27) (arr:=#[.slice (some ⟨tb,toff,none⟩) A.length vc]) zS;have c1:=hbox.cell (i:=0) rfl;have c2:=hbox.lt;have d1:=Mem.ak hO.inn g2;have d2:=Mem.ay hO.inn g2;clear hbox;by_cases hlti:i<es.length
    ·obtain⟨eb,eo,rfl,h10⟩:=HG6.out (by intro h;simp[h] at hlti);obtain⟨-,-,e3,-⟩:=h10 i hlti;have hsep:=HF3.out.2 es[i] (zB hlti);have hstep:=fun s n=>Q8 A (j+1) t (es.take i) es[i] s n;rw[← zF hlti] at hstep;obtain⟨to,hto⟩:=zQ hsep.2.2.1;have htl:to<A.length:=by have:=hsep.2.2.2;omega
     have hton:(es[i]).to.toNat=to:=by rw[hto];rfl
     rw[hton] at hstep;rw[hto] at e3;have d3:=Mem.ak hO.inn e3;have d4:=Mem.ay hO.inn e3;have hP:=hO.fore (l₁:=dD 4 g (f4 A (j+1) t (es.take i)) M A.length);have x1:=aT hP.row (kM (g:=g) (M:=M) (k:=A.length) htl);have x2:=aT hP.row (kM (g:=g) (M:=M) (k:=A.length) hltt);simp only[htl,hltt,if_true,rsl] at x1 x2;have x3:=(World.ownsRow.lt hP.row _ rfl).2;have y1:=hO.Gs htl (n:=j) zo;rw[Sa (Nat.lt_succ_self j)] at y1;have y2:=hO.R4 htl;have y3:=hO.Gs hltt (n:=j+1) zo;have y4:=hO.R4 hltt;have y5:=hO.M0 hltt (j+1);obtain⟨bc,hbc⟩:∃x,cb A to j=x:=⟨_,rfl⟩;rw[hbc] at y1;have HS:=zh (zi hstep (zi hbc hO));clear hstep hbc hsep hto hton hP h10 hO
     cases bc with
     | false=>
      have hO2:Own w m w5 m (dD 4 g (f4 A (j+1) t (es.take (i+1))) M A.length ++ [.row (.slice (some ⟨OB,0,none⟩) A.length A.length) 195 1 A.length (outer g M A.length A.length),.obj w.heap.size 27 #[.slice (some ⟨tb,toff,none⟩) A.length vc]]):=by
       rw[← gQ (fun _ _=>rfl) (fun s n _ _=>(show f4 A (j+1) t (es.take i) s n=f4 A (j+1) t (es.take (i+1)) s n by
        rw[HS.out.1 s n,Nat.add_sub_cancel,HS.out.2.1,Bool.or_false]
        split <;> rfl))]
       exact HS.out.2.2
      have HO2:=zh hO2;clear hO2;go_wp2
      exact hX3.out _ _ _ zo rfl ⟨i+1,zo,rfl,rfl,HO2.out⟩
     | true=>
      have hO2:Own w m (w5.setCell ⟨g t,j+1,none⟩ (.bool true)) m (dD 4 g (f4 A (j+1) t (es.take (i+1))) M A.length ++ [.row (.slice (some ⟨OB,0,none⟩) A.length A.length) 195 1 A.length (outer g M A.length A.length),.obj w.heap.size 27 #[.slice (some ⟨tb,toff,none⟩) A.length vc]]):=by
       rw[← gQ (g:=g) (b:=bset (f4 A (j+1) t (es.take i)) t (j+1) true) (fun _ _=>rfl) (fun s n _ _=>(show _=f4 A (j+1) t (es.take (i+1)) s n by
        rw[HS.out.1 s n,Nat.add_sub_cancel,HS.out.2.1,Bool.or_true]
        rfl))]
       exact HS.out.2.2.RZ hltt true
      have HO2:=zh hO2;clear hO2;go_wp2;exact hX3.out _ _ _ zo rfl ⟨i+1,zo,rfl,rfl,HO2.out⟩
    ·obtain rfl:i=es.length:=zo;have hO2:Own w m w5 m (dD 4 g (f3 A (j+1) (t+1)) M A.length ++ [.row (.slice (some ⟨OB,0,none⟩) A.length A.length) 195 1 A.length (outer g M A.length A.length),.obj w.heap.size 27 #[.slice (some ⟨tb,toff,none⟩) A.length vc]]):=by
      rw[← gQ (fun _ _=>rfl) (fun s n _ _=>(show f4 A (j+1) t (es.take es.length) s n=f3 A (j+1) (t+1) s n by
       rw[yB];exact HF3.out.1 s n))]
      exact hO
     have HO2:=zh hO2;clear hO2 hO hi;go_wp2;exact hX2.out _ _ _ zo rfl ⟨t+1,zo,rfl,rfl,HO2.out⟩
   ·obtain rfl:t=A.length:=zo;have hO2:Own w m w4 m (dD 4 g (f2 A (j+1+1)) M A.length ++ [.row (.slice (some ⟨OB,0,none⟩) A.length A.length) 195 1 A.length (outer g M A.length A.length),.obj w.heap.size 27 #[.slice va A.length vc]]):=by
     rw[← gQ (fun _ _=>rfl) (fun s n hs _=>SC A (j+1) s n hs)];exact hO
    have HO2:=zh hO2;clear hO2 hO ht;go_wp2;refine hX1.out _ _ _ zo rfl ⟨j+1,zo,rfl,rfl,HO2.out⟩
  ·obtain rfl:j=M:=zo;have hd:decide ((j:Int)+1≤(j:Int))=false:=zK zo;have HO:=zh hO;clear hO hj;go_wp2;refine hR.out _ _ ⟨_,rfl,HO.out.below,?_⟩;have hP:=HO.out.fore (l₁:=dD 4 g (f2 A (j+1)) j A.length);have hOB:=(hP.fresh _ (yA ..) OB rfl).1;have hlen:(jw A j).length=A.length:=by simp[jw]
   rw[← hlen];refine ⟨_,_,rfl,zG _,by rw[hlen];unfold maxLen;omega,fun _=>⟨OB,0,rfl,fun s hs=>?_⟩⟩;rw[hlen] at hs;rw[Nat.zero_add];have h1:=aT hP.row (kM (g:=g) (M:=j) (k:=A.length) hs);rw[zI hs] at h1;refine ⟨rsl g j s,xH hOB h1,?_⟩;have e:(jw A j)[s]'(by rw[hlen];exact hs)=(List.range (j+1)).map fun n=>cb A s n:=by simp[jw]
   rw[e];have hl2:((List.range (j+1)).map fun n=>cb A s n).length=j+1:=by simp
   have hgs:=HO.out.R3 hs;refine ⟨some ⟨g s,0,none⟩,j+1,by rw[hl2];rfl,zo,by unfold maxLen;omega,fun _=>⟨g s,0,rfl,fun n hn=>?_⟩⟩;rw[hl2] at hn;rw[Nat.zero_add];have h2:=HO.out.Gs hs (n:=n) zo;rw[SF hn] at h2;have e2:((List.range (j+1)).map fun n=>cb A s n)[n]'(by rw[hl2];exact hn)=cb A s n:=by simp
   rw[e2];exact xH hgs h2
def preS (p:List UInt8) (l:List (List UInt8)):List ByteArray:=l.map fun x=>bstr (p ++ x)
theorem oM (p:List UInt8) (l:List (List UInt8)):(preS p l).length=l.length:=by simp[preS]
theorem P6 (a b:List UInt8):bstr a ++ bstr b=bstr (a ++ b):=by
 unfold bstr;apply ByteArray.ext;simp
theorem NP (w:World) (x:Int) (b:UInt8) (hb:x=b.toNat) :
 (convert 234 9 (.slice (some ⟨w.heap.size,0,none⟩) 1 1)).run Tryz.prog (w.alloc (.cells #[.int .u8 x] 5))=.ok (.string (bstr [b])) (w.alloc (.cells #[.int .u8 x] 5)):=by
 subst hb;have:=run_convert_bytes_arg (w.alloc (.cells #[.int .u8 (b.toNat:Int)] 5)) 234 5 Tryz.underlying234 Tryz.underlying5 w.heap.size 0 1 1 [(b.toNat:Int)] rfl (fun i hi=>by
  obtain rfl:i=0:=zo;simp) _ Tryz.underlying9
 rw[this];have:=strOfNums_bytes [b];simp only[yG,List.map_nil] at this;rw[this]
 rfl
theorem DZ (v vt:Value) (A:Table) (M:Nat) (m:Mem) (hA:aG m v A) (ht:Jo m vt (jw A M)) (hw:WF A) (hb:Bytes A) (hM:M≤1000000) (_:A.length≤100000) :
 ∀(len:Nat),len≤M→∀(s:Nat) (n:Int) (p:List UInt8) (mm:Mem) (w:World),s<A.length → -9223372036854775808≤n→n≤1000→p.length+len≤2000000→m.le mm→mm.inn w →
  Calls Tryz.prog 222 #[.agg #[v],vt,.int .i64 s,.int .i64 len,.int .i64 n,.string (bstr p)] w fun e w'=>∃r,e=.returned r∧Below w.heap.size w w'∧pG (mm.grow w w') r (preS p ((wex A len s).take n.toNat)):=by
 have hA':=hA;have ht':=ht;obtain⟨va,vc,rfl,a1,a2,a3⟩:=hA;obtain⟨ta,tc,rfl,t1,t2,t3⟩:=ht;unfold maxLen at a2 t2;have hct:(jw A M).length=A.length:=by simp[jw]
 rw[hct] at t1 ht' ⊢;have HA:=zh (zi a3 (zi t3 (zi hw hb)));clear a3 t3 hw hb hct;intro len
 induction len with
 | zero=>
  intro hlen s n p mm w hs hn1 hn2 hp hmm hm;refine aj fun R hR=>?_;obtain⟨tb,toff,rfl,ht3⟩:=HA.out.2.1 (by intro h;have:=congrArg List.length h;simp[jw] at this;rw[this] at hs;simp at hs);obtain⟨u,u1,ua,uc,rfl,u2,u3,u4⟩:=ht3 s (by simpa [jw] using hs);have e1:(jw A M)[s]'(by simpa [jw] using hs)=(List.range (M+1)).map fun n=>cb A s n:=by simp[jw]
  rw[e1] at u1 u2 u4;simp only[List.length_map,List.length_range] at u1 u2 u4;obtain⟨ub,uoff,rfl,u5⟩:=u4 zS;have u6:=u5 0 zo;simp at u6;unfold Om at u6;have d1:=Mem.ak hm (Mem.aB hmm u1);have d2:=Mem.ay hm (Mem.aB hmm u1);have d3:=Mem.ak hm (Mem.aB hmm u6);have d4:=Mem.ay hm (Mem.aB hmm u6);unfold maxLen at u3;obtain⟨bb,hbb⟩:∃x,cb A s 0=x:=⟨_,rfl⟩;rw[hbb] at d3 u6;have hO:=(Own.start hm).al #[.slice va A.length vc] 27;have HO:=zh hO;have HBB:=zh hbb;clear hO hbb ht3 u4 u5 e1
  cases bb with
  | false=>
   have hnil:wex A 0 s=[]:=by
    have:=HBB.out;unfold cb at this;simpa using this
   have HN:=zh hnil;clear hnil
   go_enter Tryz.func222,Tryz.ntmps222
   go_wp2;refine hR.out _ _ ⟨_,rfl,HO.out.below,?_⟩;rw[HN.out]
   exact⟨none,0,by simp[preS],by simp[preS],zC _,fun h=>absurd (by simp[preS]) h⟩
  | true=>
   by_cases hn:n≤0
   ·have hd:decide (n≤0)=true:=zL hn
    go_enter Tryz.func222,Tryz.ntmps222
    go_wp2;refine hR.out _ _ ⟨_,rfl,HO.out.below,?_⟩;have:n.toNat=0:=zo;rw[this];exact⟨none,0,by simp[preS],by simp[preS],zC _,fun h=>absurd (by simp[preS]) h⟩
   ·have hd:decide (n≤0)=false:=zK hn;have hw0:wex A 0 s=[[]]:=by
     have h1:=HBB.out;unfold cb at h1;have h2:∀x∈wex A 0 s,x=[]:=fun x hx=>yH ((jL A 0 s x).1 hx).1;have h3:=(sQ A 0 s)
     match hq:wex A 0 s,h1,h2,h3 with
     | [],h1,_,_=>simp at h1
     | [x],_,h2,_=>rw[h2 x zS]
     | x::y::r,_,h2,h3=>
      have e1:=h2 x zS;have e2:=h2 y zS;rw[e1,e2] at h3;simp at h3;exact absurd h3.1.1 (jb [])
    have HN:=zh hw0;have hO2:=HO.out.al #[.string (bstr p)] 9;have hsz:(w.alloc (.cells #[.slice va A.length vc] 27)).heap.size=w.heap.size+1:=by simp
    rw[hsz] at hO2;have HO2:=zh hO2;clear hw0 hO2 hsz
    go_enter Tryz.func222,Tryz.ntmps222
    go_wp2;refine hR.out _ _ ⟨_,rfl,HO2.out.below,?_⟩;have hge:=(HO2.out.fresh _ (yA ..) _ rfl).1;have e:preS p ((wex A 0 s).take n.toNat)=[bstr p]:=by
     rw[HN.out];have:1≤n.toNat:=zo;rw[List.take_of_length_le (by simpa using this)];simp[preS]
    rw[e];refine ⟨_,_,rfl,zG _,by simp[maxLen],fun _=>⟨_,0,rfl,fun i hi=>?_⟩⟩;obtain rfl:i=0:=by simpa using hi
    exact⟨xH hge (HO2.out.obj.c 0),by simp[bstr,ByteArray.size,maxLen];omega⟩
 | succ len ih=>
  intro hlen s n p mm w hs hn1 hn2 hp hmm hm;have IH:=zh ih;clear ih;refine aj fun R hR=>?_;obtain⟨tb,toff,rfl,ht3⟩:=HA.out.2.1 (by intro h;have:=congrArg List.length h;simp[jw] at this;rw[this] at hs;simp at hs);obtain⟨u,u1,ua,uc,rfl,u2,u3,u4⟩:=ht3 s (by simpa [jw] using hs);have e1:(jw A M)[s]'(by simpa [jw] using hs)=(List.range (M+1)).map fun n=>cb A s n:=by simp[jw]
  rw[e1] at u1 u2 u4;simp only[List.length_map,List.length_range] at u1 u2 u4;obtain⟨ub,uoff,rfl,u5⟩:=u4 zS;have u6:=u5 (len+1) zo;simp at u6;unfold Om at u6;have d1:=Mem.ak hm (Mem.aB hmm u1);have d2:=Mem.ay hm (Mem.aB hmm u1);have d3:=Mem.ak hm (Mem.aB hmm u6);have d4:=Mem.ay hm (Mem.aB hmm u6);unfold maxLen at u3;obtain⟨bb,hbb⟩:∃x,cb A s (len+1)=x:=⟨_,rfl⟩;rw[hbb] at d3 u6;have hO:=(Own.start hm).al #[.slice va A.length vc] 27;have HO:=zh hO;have HBB:=zh hbb;clear hO hbb ht3 u4 u5 e1
  cases bb with
  | false=>
   have hnil:wex A (len+1) s=[]:=by
    have:=HBB.out;unfold cb at this;simpa using this
   have HN:=zh hnil;clear hnil
   go_enter Tryz.func222,Tryz.ntmps222
   go_wp2;refine hR.out _ _ ⟨_,rfl,HO.out.below,?_⟩;rw[HN.out]
   exact⟨none,0,by simp[preS],by simp[preS],zC _,fun h=>absurd (by simp[preS]) h⟩
  | true=>
   by_cases hn:n≤0
   ·have hd:decide (n≤0)=true:=zL hn
    go_enter Tryz.func222,Tryz.ntmps222
    go_wp2;refine hR.out _ _ ⟨_,rfl,HO.out.below,?_⟩;have:n.toNat=0:=zo;rw[this];exact⟨none,0,by simp[preS],by simp[preS],zC _,fun h=>absurd (by simp[preS]) h⟩
   ·have hd:decide (n≤0)=false:=zK hn;have hd2:(((len+1:Nat):Int)==0)=false:=beq_eq_false_iff_ne.2 zo;obtain⟨sb,soff,rfl,h4⟩:=HA.out.1 (by intro h;simp[h] at hs);obtain⟨-,ve,g2,ea,ec,rfl,g4,g5,g6⟩:=h4 s hs;have hwx:=Fz HA.out.2.2.1 HA.out.2.2.2 hs len;have hsep:=eG (HA.out.2.2.1 _ (zB hs));have hby:=HA.out.2.2.2 _ (zB hs);generalize (A[s]).edges=es at *
    have HX:=zh (zi hwx (zi hsep hby));have G6:=zh g6;have g2':=Mem.aB hmm g2;have hb0:=HO.out.obj.c 0;unfold maxLen at g5;obtain⟨k,rfl⟩:∃k:Nat,n=k:=⟨n.toNat,zo⟩;have hO2:=HO.out.dI 9 1;have HO2:=zh hO2;clear hwx hsep hby g6 h4 hO2 HO
    go_enter Tryz.func222,Tryz.ntmps222
    go_wp2;refine au [1,2,3,4,5,6,13,14] (fun n vs w2=>∃(i:Nat) (vo:Value) (out:List (List UInt8)) (mk:Mem),i≤es.length∧n=es.length - i∧vs=[.slice (some ⟨tb,toff,none⟩) A.length tc,.int .i64 s,.int .i64 ((len+1:Nat):Int),.int .i64 k,.string (bstr p),.pointer (some ⟨w.heap.size,0,none⟩),vo,.int .i64 i] ∧
     out=(esW A len (es.take i)).take k∧Own w mm w2 mk [.row vo 9 1 out.length ((preS p out).map Value.string),.obj w.heap.size 27 #[.slice (some ⟨sb,soff,none⟩) A.length vc]]∧mm.le mk) ?_ ?_
    ·exact⟨_,0,.slice none 0 0,[],mm,zC _,rfl,rfl,by simp[esW],HO2.out,Mem.le_refl _⟩
    clear HO2 d1 d2 d3 d4 hb0;rintro X z n vs w2 hX - ⟨i,vo,out,mk,hi,rfl,rfl,hout,hO,hmk⟩;simp[litL,lk];obtain⟨voa,voc,rfl⟩:=aM hO.row;have hb0:=hO.swap.obj.c 0;have hb1:=hO.swap.obj.lt;have d1:=Mem.ak hO.inn (Mem.aB hmk g2');have d2:=Mem.ay hO.inn (Mem.aB hmk g2');have hok:out.length≤k:=by rw[hout];exact List.length_take_le _ _
    by_cases hlt:i<es.length
    ·by_cases hk2:out.length<k
     ·obtain⟨eb,eo,rfl,h10⟩:=G6.out (by intro h;simp[h] at hlt);obtain⟨x1,x2,x3,x4,x5,-⟩:=h10 i hlt;have f1:=Mem.ak hO.inn (Mem.aB hmk (Mem.aB hmm x1));have f2:=Mem.ak hO.inn (Mem.aB hmk (Mem.aB hmm x2));have f3:=Mem.ak hO.inn (Mem.aB hmk (Mem.aB hmm x3));have f4:=Mem.ay hO.inn (Mem.aB hmk (Mem.aB hmm x1));have hse:=HX.out.2.1 es[i] (zB hlt);have hcp:=fun c (hc:c≤(es[i]).hi+1 - (es[i]).lo)=>PW A len es hlt hc;have hca:=PX A len es hlt;have hc0:=N8 A len es i es[i];generalize es[i]=e at *
      obtain⟨to,hto⟩:=zQ hse.2.2.1;have htl:to<A.length:=by have:=hse.2.2.2;omega
      have hlh:=hse.2.1;have hO3:=(hO.al #[.int .u8 e.lo,.int .u8 e.hi,.int .i64 e.to] 133).swap;have HO3:=zh hO3;have HC0:=zh (zi hcp (zi hca (zi (show out=(catW A len es i e 0).take k by rw[hc0];exact hout) hto)));clear hcp hca hc0 hto hO hO3 hout h10 hse;go_wp2;generalize w2.alloc (.cells #[.int .u8 e.lo,.int .u8 e.hi,.int .i64 e.to] 133)=w3 at *
      generalize w2.heap.size=E at *
      refine au [1,2,3,4,5,6,13,14,15,16] (fun n vs w4=>∃(c:Nat) (vo:Value) (out:List (List UInt8)) (mk:Mem),c≤e.hi+1 - e.lo∧n=e.hi+1 - e.lo - c∧vs=[.slice (some ⟨tb,toff,none⟩) A.length tc,.int .i64 s,.int .i64 ((len+1:Nat):Int),.int .i64 k,.string (bstr p),.pointer (some ⟨w.heap.size,0,none⟩),vo,.int .i64 i,.pointer (some ⟨E,0,none⟩),.int .i64 ((e.lo+c:Nat):Int)] ∧
       out=(catW A len es i e c).take k∧Own w mm w4 mk [.row vo 9 1 out.length ((preS p out).map Value.string),.obj E 133 #[.int .u8 e.lo,.int .u8 e.hi,.int .i64 e.to],.obj w.heap.size 27 #[.slice (some ⟨sb,soff,none⟩) A.length vc]]∧mm.le mk) ?_ ?_
      ·exact⟨_,0,_,out,mk,zC _,rfl,rfl,HC0.out.2.2.1,HO3.out,hmk⟩
      have HC:=zh (zi HC0.out.1 (zi HC0.out.2.1 HC0.out.2.2.2));clear HC0 HO3 f1 f2 f3 f4 hb0 hb1 d1 d2 hk2 hok hmk;rintro Y z1 n1 vs1 w4 hY - ⟨c,vo,out,mk,hc,rfl,rfl,hout,hO,hmk⟩;simp[litL,lk];obtain⟨voa,voc,rfl⟩:=aM hO.row;have hb0:=hO.third.obj.c 0;have hb1:=hO.third.obj.lt;have q0:=hO.swap.obj.c 0;have q1:=hO.swap.obj.c 1;have q2:=hO.swap.obj.c 2;have q3:=hO.swap.obj.lt;have hok:out.length≤k:=by rw[hout];exact List.length_take_le _ _
      by_cases hcl:c<e.hi+1 - e.lo
      ·by_cases hk2:out.length<k
       ·have hd1:decide ((e.lo:Int)+(c:Int)≤(e.hi:Int))=true:=zL zo;have hd2:decide ((out.length:Int)<(k:Int))=true:=zL zo;have HO:=zh hO;have HOUT:=zh hout;have hto:=HC.out.2.2;rw[hto] at q2;clear hO hout hto;obtain⟨bt,hbt⟩:=byteOf (e.lo+c) zo;have hcv:=NP w4 ((e.lo:Int)+(c:Int)) bt zo;have hcat:=P6 p [bt];have hwu:IntKind.u8.wrap ((e.lo:Int)+(c:Int))=(e.lo:Int)+(c:Int):=IntWalk.u8_in _ zo;have hOa:=HO.out.al' (.cells #[.int .u8 ((e.lo:Int)+(c:Int))] 5);have HI:=zh (IH.out zo to ((k - out.length:Nat):Int) (p ++ [bt]) mk _ htl zo zo (by simp;omega) (Mem.le_trans hmm hmk) hOa.inn);have hsub:((k - out.length:Nat):Int)=(k:Int) - (out.length:Int):=zo;rw[hsub] at HI;have HOa:=zh hOa;have HBT:=zh (zi hbt hsub);clear hbt hsub hOa HO;have hns:¬ 9223372036854775807<(bstr p).size+(bstr [bt]).size:=by
         have h1:(bstr p).size=p.length:=by simp[bstr,ByteArray.size]
         have h2:(bstr [bt]).size=1:=rfl;omega
        go_wp2_with fail
        refine HI.out.mono ?_;rintro e' w5 ⟨r,rfl,hb5,hst⟩;have hO5:=HOa.out.call hb5;have hle5:=Mem.dF (w:=w5) HOa.out.inn;have hkn:((k:Int) - (out.length:Int)).toNat=k - out.length:=zo;rw[hkn] at hst;obtain⟨q,hq⟩:∃q,(wex A len to).take (k - out.length)=q:=⟨_,rfl⟩;rw[hq] at hst;have hql:q.length≤k - out.length:=by rw[← hq];exact List.length_take_le _ _
        obtain⟨ra,rc,rfl⟩:∃ra rc,r=.slice ra (preS (p ++ [bt]) q).length rc:=by obtain⟨x,y,e,-⟩:=hst;exact⟨x,y,e⟩
        have hnews:=Dl hO5.inn hst;have hvr:=hO5.row;have hpl:(preS (p ++ [bt]) q).length=q.length:=oM _ _;rw[hpl] at hnews ⊢;have HO5:=zh hO5;have HQ:=zh (zi hq (zi hpl hle5));clear HI HOa hst hO5 hb5 hcv hcat hns hq hpl hkn hle5
        go_wp2_with (at_builtin;refine dS LF rfl (.tmp 75) (.tmp 92) rfl (.slice voa out.length voc) out.length ((preS p out).map Value.string) rfl hvr ra q.length rc ((preS (p ++ [bt]) q).map Value.string) rfl (by rw[List.length_map,HQ.out.2.1,Nat.mul_one]) hnews (by simp[Value.oneCell']) (by unfold maxLen;omega) zo ?_)
        intro na nc w6 hown hgrow hrow;have hO6:=HO5.out.app hown hgrow hrow (zG _);have hnew:(preS p out).map Value.string ++ (preS (p ++ [bt]) q).map Value.string=(preS p (out ++ q.map (bt::·))).map Value.string:=by
         simp[preS]
        rw[hnew] at hO6;have hlen2:(out ++ q.map (bt::·)).length=out.length+q.length:=by simp
        have hsucc:=N9 A len es i e c;have hbW:vC A len e.to (e.lo+c)=(wex A len to).map (bt::·):=by
         unfold vC;rw[HC.out.2.2,← HBT.out.1,RF]
        have hout2:out ++ q.map (bt::·)=(catW A len es i e (c+1)).take k:=by
         rw[hsucc,hbW,← HQ.out.1,HOUT.out,List.map_take];refine Dj ?_;rw[← HOUT.out];exact hk2
        have HO6:=zh (zi hO6 (zi hout2 (Mem.le_trans hmk HQ.out.2.2)));clear hown hgrow hrow hO6 hnew hsucc hbW hout2 hvr hnews HO5;go_wp2;refine hY.out _ _ _ zo rfl ⟨c+1,.slice na (out.length+q.length) nc,out ++ q.map (bt::·),_,zo,rfl,?_,HO6.out.2.1,?_,HO6.out.2.2⟩
        ·rfl
        ·rw[hlen2];exact HO6.out.1
       ·have hd1:decide ((e.lo:Int)+(c:Int)≤(e.hi:Int))=true:=zL zo;have hd2:decide ((out.length:Int)<(k:Int))=false:=zK zo;have hkl:k≤(catW A len es i e c).length:=by
         have:=congrArg List.length hout;rw[List.length_take] at this;omega
        have hout2:out=(esW A len (es.take (i+1))).take k:=by rw[hout];exact Ir (HC.out.1 c hc) hkl
        have HO:=zh (zi hO.drop2 (zi hout2 hmk));clear hO hout hout2 hkl;go_wp2;exact hX.out _ _ _ zo rfl ⟨i+1,_,out,mk,zo,rfl,rfl,HO.out.2.1,HO.out.1,HO.out.2.2⟩
      ·have hd1:decide ((e.lo:Int)+(c:Int)≤(e.hi:Int))=false:=zK zo;have hout2:out=(esW A len (es.take (i+1))).take k:=by
        rw[hout,← HC.out.2.1,show c=e.hi+1 - e.lo by omega]
       have HO:=zh (zi hO.drop2 (zi hout2 hmk));clear hO hout hout2;go_wp2;exact hX.out _ _ _ zo rfl ⟨i+1,_,out,mk,zo,rfl,rfl,HO.out.2.1,HO.out.1,HO.out.2.2⟩
     ·have hd2:decide ((out.length:Int)<(k:Int))=false:=zK zo;have hkl:k≤(esW A len (es.take i)).length:=by
       have:=congrArg List.length hout;rw[List.length_take] at this;omega
      have hout2:out=(esW A len es).take k:=by
       have:=Ir (Q9 A len es (i:=i) (j:=es.length) zo (zG _)) hkl;rw[yB] at this;rw[hout];exact this
      have HOUT:=zh hout2;clear hout hkl hout2;have hall:(wex A (len+1) s).take k=out:=by rw[HX.out.1];exact HOUT.out.symm
      have hmem:∀x∈preS p out,x.size≤maxLen:=fun x hx=>by
       obtain⟨y,hy,rfl⟩:=List.mem_map.1 hx;rw[← hall] at hy;have:=((jL A (len+1) s y).1 (List.mem_of_mem_take hy)).1;have h1:(bstr (p ++ y)).size=p.length+y.length:=by simp[bstr,ByteArray.size]
       rw[h1];unfold maxLen;omega
      have hpl:(preS p out).length=out.length:=oM _ _;have hst:=iK (m:=mk) (l:=preS p out) (by rw[hpl];exact hO.row) hmem;have hst:=lS hO.bv.done hst;have Hk:=zh (zi hO.below (zi hst hall));clear hst hmem hall hpl hO;go_wp2;refine hR.out _ _ ⟨_,rfl,Hk.out.1,?_⟩;rw[show ((k:Int)).toNat=k from rfl,Hk.out.2.2];exact Hk.out.2.1
    ·obtain rfl:i=es.length:=zo;have hout2:out=(esW A len es).take k:=by rw[hout,yB]
     have HOUT:=zh hout2;clear hout hout2 hi;have hall:(wex A (len+1) s).take k=out:=by rw[HX.out.1];exact HOUT.out.symm
     have hmem:∀x∈preS p out,x.size≤maxLen:=fun x hx=>by
      obtain⟨y,hy,rfl⟩:=List.mem_map.1 hx;rw[← hall] at hy;have:=((jL A (len+1) s y).1 (List.mem_of_mem_take hy)).1;have h1:(bstr (p ++ y)).size=p.length+y.length:=by simp[bstr,ByteArray.size]
      rw[h1];unfold maxLen;omega
     have hpl:(preS p out).length=out.length:=oM _ _;have hst:=iK (m:=mk) (l:=preS p out) (by rw[hpl];exact hO.row) hmem;have hst:=lS hO.bv.done hst;have Hk:=zh (zi hO.below (zi hst hall));clear hst hmem hall hpl hO;go_wp2;refine hR.out _ _ ⟨_,rfl,Hk.out.1,?_⟩;rw[show ((k:Int)).toNat=k from rfl,Hk.out.2.2];exact Hk.out.2.1
theorem NA {f:List UInt8→Bool} {k:Nat} (h:k=0∨∀x,f x=false):gM f k []:=by
 refine ⟨.nil,(fun x hx=>by cases hx),zC _,fun y hy _=>?_⟩;rcases h with h | h
 ·exact⟨(by rw[h];rfl),fun x hx=>by cases hx⟩
 ·rw[h y] at hy;cases hy
theorem Nr (A:Table) (x:List UInt8):aC (bT A) 0 x=Sem A x:=by
 unfold bT Sem;by_cases h:Canon A
 ·simp[aN h]
 ·simp[aK h];exact cu x
theorem D5 (v0:Value) (A:Table) (n':Int) (m:Mem) (w:World) (hm:m.inn w) (hA:aG m v0 A) (hn1 : -9223372036854775808≤n') (hn2:n'≤9223372036854775807) (hlA:A.length≤100000) (hlen:(A.length+1)*(gN n'+1)≤1000000) :
 Calls Tryz.prog 152 #[.agg #[v0],.int .i64 n'] w fun e w'=>∃r ws,e=.returned r∧Below w.heap.size w w'∧pG (m.grow w w') r (ws.map bstr)∧gM (Sem A) (gN n') ws:=by
 have hO:=(Own.start hm).al #[v0] 27;have HM:=zh (wh v0 A m _ hO.inn hA zo);have HO:=zh hO;obtain⟨va,vc,rfl,-⟩:=hA;have hgc:=gU A;have hgl:=iE A;have hsem:aC (bT A) 0=Sem A:=funext (Nr A);have hmul:((bT A).length+1)*(gN n'+1)≤(A.length+1)*(gN n'+1):=Nat.mul_le_mul zo (zG _);generalize bT A=T at *
 clear hO;refine aj fun R hR=>?_
 go_enter Tryz.func152,Tryz.ntmps152
 go_wp2_with fail
 refine HM.out.mono ?_;rintro e w1 ⟨r,rfl,hb1,hst⟩;obtain⟨ra,rc,rfl⟩:∃ra rc,r=.slice ra T.length rc:=by obtain⟨x,y,e,-⟩:=hst;exact⟨x,y,e⟩
 have hO1:=(HO.out.call hb1).al #[.slice ra T.length rc] 27;have hle1:=Mem.dF (w:=w1) HO.out.inn;have HO1:=zh hO1;have HS:=zh (zi hst (zi hgc hsem));clear hO1 HM HO hb1 hst hgc hsem hle1;generalize m.grow _ w1=mk at *
 have c1:=HO1.out.obj.c 0;have c2:=HO1.out.obj.lt;have c3:=HO1.out.obj.frozen 0;by_cases h0:T.length=0
 ·have hd:((T.length:Int)==0)=true:=by simp[h0]
  have H0:=zh h0;clear h0;go_wp2;refine hR.out _ _ ⟨_,[],rfl,HO1.out.below,⟨none,0,rfl,zG _,zC _,fun h=>absurd rfl h⟩,NA (.inr fun x=>?_)⟩;rw[← HS.out.2.2,yH H0.out];exact cu x
 ·have hd:((T.length:Int)==0)=false:=beq_eq_false_iff_ne.2 zo;obtain⟨wv,hwv⟩:∃x:Int,min n' 1000=x:=⟨_,rfl⟩;have hwk:max wv 0=((gN n':Nat):Int):=by unfold gN;omega
  obtain⟨M,hM⟩:∃x:Nat,(T.length+1)*(gN n'+1)=x:=⟨_,rfl⟩;have hMi:((T.length:Int)+1)*(((gN n':Nat):Int)+1)=(M:Int):=by
   rw[← hM,Int.natCast_mul];rfl
  have hMb:M≤1000000:=zo;have hTl:T.length≤100000:=zo;have hwr:wrap64 (M:Int)=(M:Int):=by unfold wrap64;omega
  have hbig:gN n'*T.length≤M:=by
   rw[← hM,Nat.mul_comm];exact Nat.mul_le_mul zo zo
  have hwv1:wv≤1000:=zo;have hwv2 : -9223372036854775808≤wv:=zo;have HK:=zh (zi hbig hwk);have hkw:gN n'≤1000:=by unfold gN;omega
  have hkv:wv≤0∨wv=((gN n':Nat):Int):=zo;have HKV:=zh hkv;have HCan:=zh (fun w (hw:mk.inn w)=>J9 (.slice ra T.length rc) T M mk w hw HS.out.1 HS.out.2.1.wf HS.out.2.1.bytes zo zo);have H0:=zh (show 0<T.length by omega);clear hM hbig hmul hgl h0 hkv
  go_wp2_with fail
  refine (HCan.out _ HO1.out.inn).mono ?_;rintro e w2 ⟨vt,rfl,hb2,hct⟩;obtain⟨tb,tc,rfl⟩:∃x y,vt=.slice x T.length y:=by obtain⟨x,y,e,-⟩:=hct;exact⟨x,y,by rw[e];simp[jw]⟩
  have hO2:=(HO1.out.call hb2).dI 9 1;have hle2:=Mem.dF (w:=w2) HO1.out.inn;have HWd:=zh (DZ (.slice ra T.length rc) (.slice tb T.length tc) T M _ (aJ hle2 HS.out.1) hct HS.out.2.1.wf HS.out.2.1.bytes zo zo);have HO2:=zh hO2;have HS2:=zh HS.out.2;clear hO2 hct HCan HO1 hb2 c1 c2 c3 hle2 HS hwv;generalize mk.grow _ w2=mk2 at *
  generalize w1.heap.size=G at *
  go_wp2;refine au [5,6,7,8,9,10] (fun n vs w3=>∃(L:Nat) (vo:Value) (out:List (List UInt8)) (mk':Mem),L≤M+1∧n=M+1 - L∧vs=[.pointer (some ⟨G,0,none⟩),.int .i64 wv,.int .i64 M,.slice tb T.length tc,vo,.int .i64 L] ∧
   out=(enum T 0 L).take (gN n')∧Own w m w3 mk' [.row vo 9 1 out.length ((preS [] out).map Value.string),.obj G 27 #[.slice ra T.length rc],.obj w.heap.size 27 #[.slice va A.length vc]]∧mk2.le mk') ?_ ?_
  ·exact⟨_,0,.slice none 0 0,[],mk2,zC _,rfl,rfl,by simp[enum],HO2.out,Mem.le_refl _⟩
  clear HO2;rintro X z n vs w3 hX - ⟨L,vo,out,mk',hL,rfl,rfl,hout,hO,hmk⟩;simp[litL,lk];obtain⟨voa,voc,rfl⟩:=aM hO.row;have b0:=hO.swap.obj.c 0;have b1:=hO.swap.obj.lt;have hok:out.length≤gN n':=by rw[hout];exact List.length_take_le _ _
  by_cases hlt:L≤M
  ·by_cases hk2:out.length<gN n'
   ·have hwk2:wv=((gN n':Nat):Int):=by have:=HKV.out;omega
    have hd1:decide ((L:Int)≤(M:Int))=true:=zL zo;have hd2:decide ((out.length:Int)<wv)=true:=zL zo;have HI:=zh (HWd.out L zo 0 (wv - (out.length:Int)) [] mk' w3 H0.out zo zo (by simp;omega) hmk hO.inn);have hkn:(wv - (out.length:Int)).toNat=gN n' - out.length:=zo;have HO:=zh (zi hO (zi hout hkn));clear hO hout hkn hwk2
    go_wp2_with fail
    refine HI.out.mono ?_;rintro e' w5 ⟨r,rfl,hb5,hst⟩;have hO5:=HO.out.1.call hb5;have hle5:=Mem.dF (w:=w5) HO.out.1.inn;rw[HO.out.2.2] at hst;obtain⟨q,hq⟩:∃q,(wex T L ((0:Nat):Int)).take (gN n' - out.length)=q:=⟨_,rfl⟩;rw[hq] at hst;have hql:q.length≤gN n' - out.length:=by rw[← hq];exact List.length_take_le _ _
    obtain⟨ra2,rc2,rfl⟩:∃ra rc,r=.slice ra (preS [] q).length rc:=by obtain⟨x,y,e,-⟩:=hst;exact⟨x,y,e⟩
    have hnews:=Dl hO5.inn hst;have hvr:=hO5.row;have hpl:(preS [] q).length=q.length:=oM _ _;rw[hpl] at hnews ⊢;have HO5:=zh hO5;have HQ:=zh (zi hq (zi hpl (zi hle5 HO.out.2.1)));clear HI HO hst hO5 hb5 hq hpl hle5
    go_wp2_with (at_builtin;refine dS LF rfl (.tmp 41) (.tmp 49) rfl (.slice voa out.length voc) out.length ((preS [] out).map Value.string) rfl hvr ra2 q.length rc2 ((preS [] q).map Value.string) rfl (by rw[List.length_map,HQ.out.2.1,Nat.mul_one]) hnews (by simp[Value.oneCell']) (by unfold maxLen;omega) zo ?_)
    intro na nc w6 hown hgrow hrow;have hO6:=HO5.out.app hown hgrow hrow (zG _);have hnew:(preS [] out).map Value.string ++ (preS [] q).map Value.string=(preS [] (out ++ q)).map Value.string:=by simp[preS]
    rw[hnew] at hO6;have hlen2:(out ++ q).length=out.length+q.length:=by simp
    have hout2:out ++ q=(enum T 0 (L+1)).take (gN n'):=by
     rw[xN,← HQ.out.1,HQ.out.2.2.2];refine Dj ?_;rw[← HQ.out.2.2.2];exact hk2
    have HO6:=zh (zi hO6 (zi hout2 (Mem.le_trans hmk HQ.out.2.2.1)));clear hown hgrow hrow hO6 hnew hout2 hvr hnews HO5;go_wp2;refine hX.out _ _ _ zo rfl ⟨L+1,.slice na (out.length+q.length) nc,out ++ q,_,zo,rfl,rfl,HO6.out.2.1,?_,HO6.out.2.2⟩;rw[hlen2];exact HO6.out.1
   ·have hd1:decide ((L:Int)≤(M:Int))=true:=zL zo;have hd2:decide ((out.length:Int)<wv)=false:=zK (by have:=HKV.out;omega);have hkl:gN n'≤(enum T 0 L).length:=by
     have:=congrArg List.length hout;rw[List.length_take] at this;omega
    have hmem:∀x∈preS [] out,x.size≤maxLen:=fun x hx=>by
     obtain⟨y,hy,rfl⟩:=List.mem_map.1 hx;rw[hout] at hy;have:=((jP T 0 L y).1 (List.mem_of_mem_take hy)).1;have h1:(bstr ([] ++ y)).size=y.length:=by simp[bstr,ByteArray.size]
     rw[h1];unfold maxLen;omega
    have hpl:(preS [] out).length=out.length:=oM _ _;have hst:=iK (m:=mk') (l:=preS [] out) (by rw[hpl];exact hO.row) hmem;have hst:=lS hO.bv.done hst;have hpe:preS [] out=out.map bstr:=by simp[preS]
    rw[hpe] at hst;have hfi:gM (Sem A) (gN n') out:=by
     rw[hout,← HS2.out.2];exact o8 (.inl hkl)
    have Hk:=zh (zi hO.below (zi hst hfi));clear hst hmem hpl hO hpe hfi hout;go_wp2;exact hR.out _ _ ⟨_,out,rfl,Hk.out.1,Hk.out.2.1,Hk.out.2.2⟩
  ·obtain rfl:L=M+1:=zo;have hd1:decide (((M+1:Nat):Int)≤(M:Int))=false:=zK zo;have hmem:∀x∈preS [] out,x.size≤maxLen:=fun x hx=>by
    obtain⟨y,hy,rfl⟩:=List.mem_map.1 hx;rw[hout] at hy;have:=((jP T 0 (M+1) y).1 (List.mem_of_mem_take hy)).1;have h1:(bstr ([] ++ y)).size=y.length:=by simp[bstr,ByteArray.size]
    rw[h1];unfold maxLen;omega
   have hpl:(preS [] out).length=out.length:=oM _ _;have hst:=iK (m:=mk') (l:=preS [] out) (by rw[hpl];exact hO.row) hmem;have hst:=lS hO.bv.done hst;have hpe:preS [] out=out.map bstr:=by simp[preS]
   rw[hpe] at hst;have hfi:gM (Sem A) (gN n') out:=by
    rw[hout,← HS2.out.2];exact Bh (by have:=HK.out.1;omega)
   have Hk:=zh (zi hO.below (zi hst hfi));clear hst hmem hpl hO hpe hfi hout;go_wp2;exact hR.out _ _ ⟨_,out,rfl,Hk.out.1,Hk.out.2.1,Hk.out.2.2⟩
end Cl
