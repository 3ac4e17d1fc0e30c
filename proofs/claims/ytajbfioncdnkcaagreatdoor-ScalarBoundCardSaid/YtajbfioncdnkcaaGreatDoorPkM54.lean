/- Lemmas for the proofs of chapter 11. -/
import Derived.Test.YtajbfioncdnkcaaGreatDoorProg
import Derived.BigQuiet
import Derived.Deep.Cut
import Derived.Deep.QuietTactic
import Derived.Laws.StructEq
import Derived.Lib.AppendStr
import Derived.Lib.Builder
import Derived.Lib.Hide
import Derived.Lib.ItoaLen
import Derived.Maps.OwnOps
import Derived.Maps.OwnSet
import Derived.OrdersHeld
import Derived.Outline
import Derived.StillTailTactics
import Derived.StringKeys
import Derived.WalkKit
import Derived.WalkLawsBesides
import Derived.WalkSpells
import Derived.Deep.RegionHeld
import Derived.Shelf.Strings.Builder1
import Derived.Shelf.Small.Wraps
import Derived.Shelf.LaysM
import Derived.Shelf.Strconv.Itoa3
import Derived.RegionTactic
import Derived.ChangeAlike
import Derived.Test.YtajbfioncdnkcaaGreatDoorZz
import Derived.Test.YtajbfioncdnkcaaGreatDoorPkM3
import Derived.Test.YtajbfioncdnkcaaGreatDoorPkM32
import Derived.Test.YtajbfioncdnkcaaGreatDoorPkM1
import Derived.Test.YtajbfioncdnkcaaGreatDoorPkM34
import Derived.Test.YtajbfioncdnkcaaGreatDoorPkM8
import Derived.Test.YtajbfioncdnkcaaGreatDoorPkM53
import Derived.Test.YtajbfioncdnkcaaGreatDoorPkM4
import Derived.Test.YtajbfioncdnkcaaGreatDoorPkM51
import Derived.Test.YtajbfioncdnkcaaGreatDoorPkM2
import Derived.Test.YtajbfioncdnkcaaGreatDoorPkM7
import Derived.Test.YtajbfioncdnkcaaGreatDoorPkM33
import Derived.Test.YtajbfioncdnkcaaGreatDoorPkM52
import Derived.Test.YtajbfioncdnkcaaGreatDoorPkM12
import Derived.Test.YtajbfioncdnkcaaGreatDoorPkM6
import Derived.Test.YtajbfioncdnkcaaGreatDoorPkM20
import Derived.Test.YtajbfioncdnkcaaGreatDoorPkM9
import Derived.Test.YtajbfioncdnkcaaGreatDoorPkM35
import Derived.Test.YtajbfioncdnkcaaGreatDoorPkM45
set_option maxRecDepth 100000
set_option maxHeartbeats 16000000
namespace Cl
open Go Go.RowKit Go.Proofs
def Sl (m:Mem) (v:Value) (l:List Table):Prop:=Mem.uj (fun b o T=>∃u,m.cell b o=some u∧aI m u T) v l
theorem R9 (v v2:Value) (Ls:List Table) (ps:List Int) (b:Nat) (m:Mem) (w:World) (hm:m.inn w) (hv:Sl m v Ls) (hp:jl m v2 ps) (hl:Ls.length=ps.length)
 (hr:∀i,i<ps.length → -1≤ps.getD i (-1)∧ps.getD i (-1)<(Ls.getD i []).length) (hb:b<256) :
 Calls Tryz.prog 200 #[v,v2,.int .i64 b] w fun e w'=>e=.returned (.int .i64 (wo Ls ps b Ls.length))∧Below w.heap.size w w':=by
 obtain⟨la,lc,rfl,h1,h2,h3⟩:=hv;obtain⟨pa,pc,rfl,p1,p2,p3⟩:=hp;unfold maxLen at h2 p2;have HL:=zh (zi hl (zi hr hm));have hl':Ls.length≤ps.length:=zo;have H3:=zh h3;have P3:=zh p3;clear hl hr hm h3 p3;refine aj fun R hR=>?_
 go_enter Tryz.func200,Tryz.ntmps200
 go_wp2;refine ay [0,1,2,7,8] (fun n vs w2=>∃(k:Nat),k≤Ls.length∧n=Ls.length - k∧vs=[.slice la Ls.length lc,.slice pa ps.length pc,.int .i64 b,.int .i64 (wo Ls ps b k),.int .i64 k]∧Below w.heap.size w w2) ?_ ?_
 ·exact⟨_,0,Nat.zero_le _,rfl,rfl,Below.refl _ _⟩
 rintro X z n vs w2 hX - ⟨k,hk,rfl,rfl,hbw⟩;simp[litL,lk];have hmw:=Mem.bX HL.out.2.2 hbw;have HB:=zh hbw;clear hbw;have hge:=Dl Ls ps b k;by_cases hlt:k<Ls.length
 ·obtain⟨gb,go,rfl,hg⟩:=H3.out (by intro h;simp[h] at hlt);obtain⟨qb,qo,rfl,hq⟩:=P3.out (by intro h;rw[h] at hl';simp at hl';simp[hl'] at hlt);obtain⟨u,g1,ua,uc,rfl,g2,g3,g4⟩:=hg k hlt;obtain⟨q1,q2,q3⟩:=hq k zo;have hrk:=HL.out.2.1 k zo;have eL:Ls.getD k []=Ls[k]:=by simp[hlt]
  have hkp:k<ps.length:=zo;have eP:ps.getD k (-1)=ps[k]:=by simp[hkp]
  have hnx:wo Ls ps b (k+1)=cutE b (AY Ls[k] ps[k]) (wo Ls ps b k):=by rw[← eL,← eP];rfl
  rw[eL,eP] at hrk;have HN:=zh hnx;have hgt:=Dm (Ls:=Ls) (ps:=ps) hb k;clear hnx eL eP hg hq;have c1:=Mem.av hmw g1;have c2:=Mem.av hmw q1;have c3:=Mem.ak hmw g1;have c4:=Mem.ak hmw q1;generalize Ls[k]=T at *
  generalize ps[k]=p at *
  generalize wo Ls ps b k=o at *
  by_cases hneg:p<0
  ·have hd:decide (p<0)=true:=decide_eq_true hneg;have he:wo Ls ps b (k+1)=o:=by rw[HN.out,AY,if_pos hneg,Qb]
   have HE:=zh he;clear he g4;go_wp2;refine hX.out _ _ _ zo rfl ⟨k+1,zo,rfl,by rw[HE.out];rfl,HB.out⟩
  ·obtain⟨p,rfl⟩:=Int.eq_ofNat_of_zero_le (by omega:0≤p);have hpt:p<T.length:=zo;obtain⟨b',off',rfl,h10⟩:=g4 (by intro h;simp[h] at hpt);obtain⟨-,ve,e2,ea,ec,rfl,e4,e5,e6⟩:=h10 p hpt;have hee:AY T (p:Int)=(T[p]).edges:=by
    have h0':¬ ((p:Int)<0):=zo;simp[AY,h0',hpt]
   rw[hee] at HN;have HN:=zh HN.out;clear hee h10;generalize T[p].edges=es at *
   unfold maxLen at e5 g3;have c5:=Mem.av hmw e2;have c6:=Mem.ak hmw e2;have E6:=zh e6;clear e6 g4;go_wp2
   go_quiet (fail)
   go_wp2;refine ay [0,1,2,7,8,9,10] (fun n vs w3=>∃(j:Nat),j≤es.length∧n=es.length - j∧vs=[.slice (some ⟨gb,go,none⟩) Ls.length lc,.slice (some ⟨qb,qo,none⟩) ps.length pc,.int .i64 b,.int .i64 (cutE b (es.take j) o),.int .i64 k,.slice ea es.length ec,.int .i64 j]∧Below w.heap.size w w3) ?_ ?_
   ·exact⟨_,0,Nat.zero_le _,rfl,rfl,below_drewN HB.out _⟩
   clear c1 c2 c3 c4 c5 c6 hmw HB;rintro Y z1 n1 vs1 w3 hY - ⟨j,hj,rfl,rfl,hb3⟩;simp[litL,lk];have hmw:=Mem.bX HL.out.2.2 hb3;have HB:=zh hb3;clear hb3;by_cases hltj:j<es.length
   ·obtain⟨eb,eo,rfl,h10⟩:=E6.out (by intro h;simp[h] at hltj);obtain⟨x1,x2,-,x4,x5,-⟩:=h10 j hltj;have d1:=Mem.av hmw x1;have d2:=Mem.av hmw x2;have d3:=Mem.ak hmw x1;have hs:=Oy b o hltj;have ho1:=Ab b (es.take j) o;have ho2:=Iq (es.take j) o hgt;generalize es[j]=e at *
    generalize cutE b (es.take j) o=o1 at *
    have HSn:=zh hs;clear hs h10;by_cases q1:b<e.lo <;> by_cases q2:b≤e.hi
    all_goals
     have y1:decide ((b:Int)<(e.lo:Int))=decide (b<e.lo):=by simp
     simp only[q1,decide_true,decide_false] at y1;go_wp2;refine hY.out _ _ _ zo rfl ⟨j+1,zo,rfl,?_,HB.out⟩;rw[HSn.out];simp[cutS,q1,q2]
     try omega
   ·obtain rfl:j=es.length:=zo;clear hj;go_wp2;refine hX.out _ _ _ zo rfl ⟨k+1,zo,rfl,by rw[HN.out,List.take_length];rfl,HB.out⟩
 ·obtain rfl:k=Ls.length:=zo;clear hk;go_wp2;exact hR.out _ _ ⟨rfl,HB.out⟩
theorem Pt:iX Tryz.prog 167 166 2 16:=⟨Tryz.underlying167,zo,by
 obtain⟨i,h1,h2,h3,h4⟩:=info_parts (P:=Tryz.prog) (e:=166) (z:=.agg #[.int .i64 0,.int .i64 0]) (size:=2) (bytes:=16) zk;exact⟨i,_,h1,h2,h3,h4,rfl⟩⟩
def st0 (l:Table):Int:=if l.length=0 then -1 else 0
theorem IY {l:Table} (x:List UInt8):aJ l (st0 l) x=aJ l 0 x:=by
 unfold st0
 split
 ·rename_i h;rw[List.eq_nil_of_length_eq_zero h,dC,dD zo]
 ·rfl
theorem Cz (l:Table) : -1≤st0 l∧st0 l<l.length:=by
 unfold st0
 split <;> omega
theorem QW {op:Nat} {f:Bool→Bool→Bool} (h:op=38∧f=(fun x y=>x&&y)∨op=124∧f=(fun x y=>x || y)∨op=45∧f=(fun x y=>x && !y)):f false false=false:=by
 rcases h with ⟨-,rfl⟩ | ⟨-,rfl⟩ | ⟨-,rfl⟩ <;> rfl
theorem AV (l:List (Int × Int)) (x:Int × Int):firstIdx (fun y=>y=x) l 0=if gY l x<l.length then ((gY l x:Nat):Int) else -1:=by
 rw[← uQ]
 congr 1
 funext y;exact propext eq_comm
theorem Qa {w0 w:World} {m mk:Mem} {L:List Cl.Item} {g1 g2:Nat} {v v':Value} {A B:Table} {pa pb:Int} {c:Nat}
 (hO:Own w0 m w mk (.obj g2 3 #[.int .i64 pa,.int .i64 pb]::.obj g1 27 #[v,v']::L)) (hA:aI mk v A) (hB:aI mk v' B)
 (h1 : -1≤pa) (h2:pa<A.length) (h3 : -1≤pb) (h4:pb<B.length) (hc:c<256) (hlA:A.length≤1000000) (hlB:B.length≤1000000) :
 Calls Tryz.prog 200 #[.slice (some ⟨g1,0,none⟩) 2 2,.slice (some ⟨g2,0,none⟩) 2 2,.int .i64 c] w fun e w'=>e=.returned (.int .i64 (wo [A,B] [pa,pb] c 2))∧Below w.heap.size w w':=by
 have l1:=Mem.jw (w:=w) hO.swap.iC;have hS1:=hO.swap.ib;have l2:=Mem.jw (w:=w) hS1.iC;have hS2:=hS1.ib;have cA:((mk.add w g1).add w g2).cell g1 0=some v:=Mem.aF l2 (Mem.cz hO.swap.obj rfl);have cB:((mk.add w g1).add w g2).cell g1 1=some v':=Mem.aF l2 (Mem.cz hO.swap.obj rfl);have cp:((mk.add w g1).add w g2).cell g2 0=some (.int .i64 pa):=Mem.cz hO.obj rfl;have cq:((mk.add w g1).add w g2).cell g2 1=some (.int .i64 pb):=Mem.cz hO.obj rfl;have ll:=Mem.le_trans l1 l2;refine R9 (.slice (some ⟨g1,0,none⟩) 2 2) (.slice (some ⟨g2,0,none⟩) 2 2) [A,B] [pa,pb] c _ w hS2.inn ?_ ?_ rfl ?_ hc
 ·refine ⟨_,2,rfl,Nat.le_refl _,by simp[maxLen],fun _=>⟨g1,0,rfl,fun i hi=>?_⟩⟩;have:i=0∨i=1:=by simp at hi;omega
  rcases this with rfl | rfl
  ·exact⟨v,cA,aK ll hA⟩
  ·exact⟨v',cB,aK ll hB⟩
 ·refine ⟨_,2,rfl,Nat.le_refl _,by simp[maxLen],fun _=>⟨g2,0,rfl,fun i hi=>?_⟩⟩;have:i=0∨i=1:=by simp at hi;omega
  rcases this with rfl | rfl
  ·exact⟨cp,by simp only[List.getElem_cons_zero];omega,by simp only[List.getElem_cons_zero];omega⟩
  ·exact⟨cq,by simp only[List.getElem_cons_succ,List.getElem_cons_zero];omega,by simp only[List.getElem_cons_succ,List.getElem_cons_zero];omega⟩
 ·intro i hi;have:i=0∨i=1:=by simp at hi;omega
  rcases this with rfl | rfl
  ·exact⟨h1,h2⟩
  ·exact⟨h3,h4⟩
theorem tF (op:Nat) (f:Bool→Bool→Bool) (hw:op=38∧f=(fun x y=>x&&y)∨op=124∧f=(fun x y=>x || y)∨op=45∧f=(fun x y=>x && !y))
 (v0 v1:Value) (A B:Table) (m:Mem) (w:World) (hm:m.inn w) (hA:aI m v0 A) (hB:aI m v1 B) (hlen:(A.length+2)*(B.length+2)≤1000000) (hlA:A.length≤1000000) (hlB:B.length≤1000000) :
 Calls Tryz.prog 133 #[.agg #[v0],.agg #[v1],.int .u8 op] w fun e w'=>∃r C,e=.returned (.agg #[r])∧Below w.heap.size w w'∧aI (m.grow w w') r C ∧
  dX (fun x=>f (Sem A x) (Sem B x)) C∧C.length≤(A.length+2)*(B.length+2)+1:=by
 have hO:=(((Own.start hm).al #[v0] 27).al #[v1] 27).al #[.slice none 0 0] 27;have hsz1:(w.alloc (.cells #[v0] 27)).heap.size=w.heap.size+1:=by simp
 have hsz2:((w.alloc (.cells #[v0] 27)).alloc (.cells #[v1] 27)).heap.size=w.heap.size+1+1:=by simp
 rw[hsz2,hsz1] at hO;have HO:=zh hO;have HA:=zh hA;have HB:=zh hB;have HW:=zh hw;clear hO hsz1 hsz2 hw hm;refine aj fun R hR=>?_;obtain⟨va,vc,rfl,-⟩:=hA;obtain⟨vb,vd,rfl,-⟩:=hB
 go_enter Tryz.func133,Tryz.ntmps133
 go_wp2;refine aA [2,6,7,8] (fun vs w'=>∃(g1 g2:Nat) (mk:Mem) (xa ya:Option Addr) (xc yc:Nat),vs=[.int .u8 op,.pointer (some ⟨w.heap.size+1+1,0,none⟩),.pointer (some ⟨g1,0,none⟩),.pointer (some ⟨g2,0,none⟩)] ∧
  Own w m w' mk [.obj g2 27 #[.slice ya (cZ B).length yc],.obj g1 27 #[.slice xa (cZ A).length xc],.obj (w.heap.size+1+1) 27 #[.slice none 0 0]]∧m.le mk ∧
  aI mk (.slice xa (cZ A).length xc) (cZ A)∧aI mk (.slice ya (cZ B).length yc) (cZ B)) ?_ ?_
 ·intro X hX;refine aM 6 6 (fun j=>[Fact.is (·=.agg #[.slice va A.length vc]),Fact.mem m [1] (TabV (cZ A)),Fact.is (·=.agg #[.slice vb B.length vd]),Fact.mem m [3] (TabV (cZ B)),Fact.obj 4 27 #[.slice none 0 0],Fact.obj 5 27 #[.slice none 0 0]].getD j Fact.any) zk zk ?_ ?_
  ·intro i hi o win a wr ho RA;have HO2:=HO.out.dr.move RA.below;have q1:=HO2.swap.obj.cell (i:=0) rfl;have q2:=HO2.third.obj.cell (i:=0) rfl;rcases (show i=0∨i=1∨i=2∨i=3∨i=4∨i=5 by omega) with rfl | rfl | rfl | rfl | rfl | rfl
   ·have e3:=RA.k 3;cases ho;exact wv rfl rfl rfl
   ·have e20:a.tmps.getD 20 undef=_:=RA.d 0 rfl;cases ho;refine we rfl rfl (yB (.slice va A.length vc) A m wr HO2.inn HA.out hlA) ?_;rintro e w' ⟨r,rfl,hb,hst⟩;exact⟨_,rfl,_,rfl,hb,Mq HO2.inn hb hst⟩
   ·have e4:=RA.k 4;cases ho;exact wv rfl rfl rfl
   ·have e22:a.tmps.getD 22 undef=_:=RA.d 2 rfl;cases ho;refine we rfl rfl (yB (.slice vb B.length vd) B m wr HO2.inn HB.out hlB) ?_;rintro e w' ⟨r,rfl,hb,hst⟩;exact⟨_,rfl,_,rfl,hb,Mq HO2.inn hb hst⟩
   ·cases ho;exact aB rfl rfl (aD zg ⟨_,rfl,aP (Below.refl _ _) _,lI win⟩)
   ·cases ho;exact aB rfl rfl (aD zg ⟨_,rfl,aP (Below.refl _ _) _,lI win⟩)
  ·intro win a wr E;have e2:=E.keep 2 zk;have e6:=E.keep 6 zk;have e7:(Fact.obj 4 27 #[.slice none 0 0]).holds (a.tmps.getD 7 undef) win wr:=E.fact 4 _ zo rfl;have e8:(Fact.obj 5 27 #[.slice none 0 0]).holds (a.tmps.getD 8 undef) win wr:=E.fact 5 _ zo rfl;have e21:(Fact.mem m [1] (TabV (cZ A))).holds (a.tmps.getD 21 undef) win wr:=E.fact 1 _ zo rfl;have e23:(Fact.mem m [3] (TabV (cZ B))).holds (a.tmps.getD 23 undef) win wr:=E.fact 3 _ zo rfl;obtain⟨xa,xc,f1,st1⟩:TabV _ _ _:=e21;obtain⟨ya,yc,f2,st2⟩:TabV _ _ _:=e23;obtain⟨p1,n1,o1⟩:_∧_∧_:=e7;obtain⟨p2,n2,o2⟩:_∧_∧_:=e8;have g1:=E.rng 4 zo;have g2:=E.rng 5 zo;have far:∀j,j=4∨j=5→∀d∈[1,3],¬ ((win d).1≤(win j).1∧(win j).1<(win d).2):=by
    intro j hj d hd;have hd':d=1∨d=3:=by simpa using hd
    have:=E.apart j d zo zo zo;have:(win j).2=(win j).1+1:=by rcases hj with rfl | rfl <;> assumption
    omega
   have hO1:=(HO.out.dr.drop2.drop2).region E.below win [1,3] (fun d hd=>(E.rng d (by simp at hd;omega)).1);have no:∀j,j=4∨j=5→m.wins wr win [1,3] (win j).1=none:=fun j hj=>
    Mem.lD (Mem.fe HO.out.dr.inn (E.rng j zo).1) (far j hj)
   have hL1:=(HO.out.dr.drop2.drop2).kP g1.1;have hL2:=(HO.out.dr.drop2.drop2).kP g2.1;have a12:=E.apart 4 5 zo zo zo;have hge:=HO.out.dr.below.size;have hO2:=hO1.newObj o1 zo (no 4 zo) hL1;have hO2:=hO2.newObj o2 zo (no 5 zo) (mE zo hL2);have st1:=aK (Mem.cO (es:=[1,3]) hO1.inn0 win zS) st1;have st2:=aK (Mem.cO (es:=[1,3]) hO1.inn0 win zS) st2;have hle:=Mem.dw hO1.inn0 win [1,3];have HK:=zh (zi hle (zi st1 st2));generalize m.wins wr win [1,3]=mk at *
   generalize (win 4).1=q1 at *
   generalize (win 5).1=q2 at *
   have HE:=zh E;clear st1 st2 hle hL1 hL2 no far hO1 a12 g1 g2 o1 o2 n1 n2 hge E;have b1:=hO2.swap.obj.frozen 0;have b2:=hO2.swap.obj.cell (i:=0) rfl;have b3:=hO2.swap.obj.lt;have hO3:=hO2.swap.set 0 (.slice xa (cZ A).length xc);refine bR 6 zk (aB rfl rfl (aS zg ?_));clear b1 b2 b3;have b1:=hO3.swap.obj.frozen 0;have b2:=hO3.swap.obj.cell (i:=0) rfl;have b3:=hO3.swap.obj.lt;have hO4:=hO3.swap.set 0 (.slice ya (cZ B).length yc);refine bR 7 zk (aB rfl rfl (aS zg ?_));obtain⟨t,d⟩:=a;obtain rfl:d=[]:=HE.out.defers;refine aV zk (hX.out _ _ HE.out.size ⟨q1,q2,mk,xa,ya,xc,yc,?_,hO4,HK.out.1,HK.out.2⟩) _;simp only[List.map_cons,List.map_nil,e2,e6,p1,p2]
   rfl
 rintro z vs w1 - ⟨G1,G2,mk,xa,ya,xc,yc,rfl,hO,hmk,hr1,hr2⟩;simp[litL,lk];clear HO HA HB;have hgA:=iV A;have hgB:=iV B;have hgAl:=iq A;have hgBl:=iq B;have hsemA:∀x,aJ (cZ A) 0 x=Sem A x:=fun x=>by
  unfold cZ Sem;by_cases h:Canon A
  ·simp[aN h]
  ·simp[aL h];exact dC x
 have hsemB:∀x,aJ (cZ B) 0 x=Sem B x:=fun x=>by
  unfold cZ Sem;by_cases h:Canon B
  ·simp[aN h]
  ·simp[aL h];exact dC x
 have HG:=zh (zi hgA (zi hgB (zi hsemA hsemB)));clear hgA hgB hsemA hsemB;have hmul:((cZ A).length+2)*((cZ B).length+2)≤(A.length+2)*(B.length+2):=Nat.mul_le_mul zo zo;generalize cZ A=A' at *
 generalize cZ B=B' at *
 have HO:=zh hO;have HR1:=zh (zi hr1 hr2);clear hO hr1 hr2;go_wp2;refine aA [2,6,7,8,9] (fun vs w'=>∃(g3:Nat),vs=[.int .u8 op,.pointer (some ⟨w.heap.size+1+1,0,none⟩),.pointer (some ⟨G1,0,none⟩),.pointer (some ⟨G2,0,none⟩),.slice (some ⟨g3,0,none⟩) 1 1] ∧
  Own w m w' mk [.obj g3 166 #[.int .i64 (st0 A'),.int .i64 (st0 B')],.obj G2 27 #[.slice ya B'.length yc],.obj G1 27 #[.slice xa A'.length xc],.obj (w.heap.size+1+1) 27 #[.slice none 0 0]]) ?_ ?_
 ·intro X hX;refine aM 7 6 (fun j=>[Fact.is (·=.agg #[.slice xa A'.length xc]),Fact.is (·=.int .i64 (st0 A')),Fact.is (·=.agg #[.slice ya B'.length yc]),Fact.is (·=.int .i64 (st0 B')),Fact.is (·=.agg #[.int .i64 (st0 A'),.int .i64 (st0 B')]),Fact.sl 5 166 #[.int .i64 (st0 A'),.int .i64 (st0 B')] 1,Fact.sl 5 166 #[.int .i64 (st0 A'),.int .i64 (st0 B')] 1].getD j Fact.any) zk zk ?_ ?_
  ·intro i hi o win a wr ho RA;have HO2:=HO.out.dr.move RA.below;have q1:=HO2.obj.cell (i:=0) rfl;have q2:=HO2.swap.obj.cell (i:=0) rfl;rcases (show i=0∨i=1∨i=2∨i=3∨i=4∨i=5∨i=6 by omega) with rfl | rfl | rfl | rfl | rfl | rfl | rfl
   ·have e7:=RA.k 7;cases ho;exact wv rfl rfl rfl
   ·have e24:a.tmps.getD 24 undef=_:=RA.d 0 rfl;cases ho;refine we rfl rfl (Ec (.slice xa A'.length xc) A' mk wr HR1.out.1) ?_;rintro e w' ⟨rfl,hb⟩;exact⟨_,rfl,_,rfl,hb,rfl⟩
   ·have e8:=RA.k 8;cases ho;exact wv rfl rfl rfl
   ·have e26:a.tmps.getD 26 undef=_:=RA.d 2 rfl;cases ho;refine we rfl rfl (Ec (.slice ya B'.length yc) B' mk wr HR1.out.2) ?_;rintro e w' ⟨rfl,hb⟩;exact⟨_,rfl,_,rfl,hb,rfl⟩
   ·have e25:a.tmps.getD 25 undef=_:=RA.d 1 rfl;have e27:a.tmps.getD 27 undef=_:=RA.d 3 rfl;have f25:=(Array.getD_eq_getD_getElem? (xs:=a.tmps) (i:=25) (d:=undef)).symm.trans e25;have f27:=(Array.getD_eq_getD_getElem? (xs:=a.tmps) (i:=27) (d:=undef)).symm.trans e27;cases ho;exact wv rfl rfl rfl
   ·have e28:a.tmps.getD 28 undef=_:=RA.d 4 rfl;have f28:=(Array.getD_eq_getD_getElem? (xs:=a.tmps) (i:=28) (d:=undef)).symm.trans e28;cases ho;exact aB rfl rfl (aD zg ⟨_,rfl,aP (Below.refl _ _) _,MG win⟩)
   ·have e29:(Fact.sl 5 166 #[.int .i64 (st0 A'),.int .i64 (st0 B')] 1).holds (a.tmps.getD 29 undef) win wr:=RA.d 5 rfl;cases ho;obtain⟨f1,f2,f3⟩:_∧_∧_:=e29;exact aB rfl rfl (aD zg ⟨_,rfl,Below.refl _ _,(Fact.sl 5 166 #[.int .i64 (st0 A'),.int .i64 (st0 B')] 1).mono _ win _ wr wr (fun d hd=>⟨(Win.uA win _ (by simp[Fact.sl] at hd;omega)).symm,(RA.rng d (by simp[Fact.sl] at hd;subst hd;kernel_rfl)).2.2⟩) (Below.refl _ _) ⟨rfl,f2,f3⟩⟩)
  ·intro win a wr E;have e2:=E.keep 2 zk;have e6:=E.keep 6 zk;have e7:=E.keep 7 zk;have e8:=E.keep 8 zk;have e9:(Fact.sl 5 166 #[.int .i64 (st0 A'),.int .i64 (st0 B')] 1).holds (a.tmps.getD 9 undef) win wr:=E.fact 6 _ zo rfl;obtain⟨p1,n1,o1⟩:_∧_∧_:=e9;have g1:=E.rng 5 zo;have hO1:=HO.out.dr.move E.below;have hge:=HO.out.dr.below.size;have hO2:=hO1.newObj o1 zo (Mem.fe HO.out.dr.inn g1.1) (HO.out.dr.kP g1.1);obtain⟨t,d⟩:=a;obtain rfl:d=[]:=E.defers;refine aV zk (hX.out _ _ E.size ⟨(win 5).1,?_,hO2⟩) _;simp only[List.map_cons,List.map_nil,e2,e6,e7,e8,p1]
   rfl
 rintro z2 vs w2 - ⟨g3,rfl,hO⟩;simp[litL,lk];clear HO;have hO2:=(hO.QL).eH 66 2;have HO2:=zh (zi hO2 (zi (BC (A:=A') (B:=B') (op:=f) (st:=(st0 A',st0 B')) (by have:=Cz A';have:=Cz B';simp only;omega)) (zi (Cz A') (Cz B'))));clear hO hO2;go_wp2;refine ay [2,6,7,8,9,10,11] (fun n vs wr=>∃(k:Nat) (l:List (Int × Int)) (out:Table) (vl vo:Value) (xs:List Value) (mk':Mem),n=1000001 - k ∧
  vs=[.int .u8 op,.pointer (some ⟨w.heap.size+1+1,0,none⟩),.pointer (some ⟨G1,0,none⟩),.pointer (some ⟨G2,0,none⟩),vl,vo,.int .i64 k] ∧
  Own w m wr mk' [.row vo 66 2 k xs,.row vl 166 2 l.length (dV l),.obj G2 27 #[.slice ya B'.length yc],.obj G1 27 #[.slice xa A'.length xc],.obj (w.heap.size+1+1) 27 #[.slice none 0 0]] ∧
  jX mk' xs out∧mk.le mk'∧jE A' B' f (st0 A',st0 B') l out∧out.length=k∧(∀q∈l,q.1<A'.length∧q.2<B'.length)) ?_ ?_
 ·refine ⟨_,0,[(st0 A',st0 B')],[],.slice (some ⟨g3,0,none⟩) 1 1,.slice none 0 0,[],mk,rfl,rfl,HO2.out.1,jX.nil _,Mem.le_refl _,HO2.out.2.1,rfl,fun q hq=>?_⟩;simp only[List.mem_singleton] at hq;subst hq;exact⟨HO2.out.2.2.1.2,HO2.out.2.2.2.2⟩
 clear HO2;rintro X z3 n vs wr hX - ⟨k,l,out,vl,vo,xs,mk',rfl,rfl,hO,hrow,hmk',hPI,hol,hlr⟩;simp[litL,lk];obtain⟨vla,vlc,rfl⟩:=aO hO.swap.row;have hpl:=mG hPI.nodup hPI.rng;have hkl:=hPI.le;by_cases hlt:k<l.length
 ·obtain⟨vlb,rfl⟩:=jH hO.swap.row zo;have hpc:=lZ l k hlt;have r1:=aX hO.swap.row hpc.1;have r2:=aX hO.swap.row hpc.2;have rl:=(World.ownsRow.lt hO.swap.row _ rfl).2;have hlk:l[k]?=some l[k]:=by simp[hlt]
  have hrng:=hPI.rng l[k] (List.getElem_mem hlt);have hrn2:=hlr l[k] (List.getElem_mem hlt);have HP:=zh (zi hPI (zi hol (zi hlk hlr)));generalize l[k]=p at *
  obtain⟨pa,pb⟩:=p;simp only at r1 r2 hrng hrn2;have hO2:=hO.al #[.int .i64 pa,.int .i64 pb] 166;have HO2:=zh hO2;clear hO2 hO hPI hol hlk hpc hlr;go_wp2;generalize hW2:wr.alloc (.cells #[.int .i64 pa,.int .i64 pb] 166)=w2 at *
  generalize wr.heap.size=P at *
  refine aA [2,6,7,8,9,10,11,12,13] (fun vs w'=>∃S:Nat,
   vs=[.int .u8 op,.pointer (some ⟨w.heap.size+1+1,0,none⟩),.pointer (some ⟨G1,0,none⟩),.pointer (some ⟨G2,0,none⟩),.slice (some ⟨vlb,0,none⟩) l.length vlc,vo,.int .i64 k,.pointer (some ⟨P,0,none⟩),.pointer (some ⟨S,0,none⟩)] ∧
   Own w m w' mk' [.obj S 66 #[.bool (f (bG A' pa) (bG B' pb)),.slice none 0 0],.obj P 166 #[.int .i64 pa,.int .i64 pb],.row vo 66 2 k xs,.row (.slice (some ⟨vlb,0,none⟩) l.length vlc) 166 2 l.length (dV l),.obj G2 27 #[.slice ya B'.length yc],.obj G1 27 #[.slice xa A'.length xc],.obj (w.heap.size+1+1) 27 #[.slice none 0 0]]) ?_ ?_
  ·intro Y hY;refine aM 12 6 (fun j=>[Fact.is (·=.int .u8 op),Fact.is (·=.agg #[.slice xa A'.length xc]),Fact.is (·=.pointer (some ⟨P,0,none⟩)),Fact.is (·=.int .i64 pa),Fact.is (·=.bool (bG A' pa)),Fact.is (·=.agg #[.slice ya B'.length yc]),Fact.is (·=.pointer (some ⟨P,1,none⟩)),Fact.is (·=.int .i64 pb),Fact.is (·=.bool (bG B' pb)),Fact.is (·=.bool (f (bG A' pa) (bG B' pb))),Fact.is (·=.agg #[.bool (f (bG A' pa) (bG B' pb)),.slice none 0 0]),Fact.obj 11 66 #[.bool false,.slice none 0 0]].getD j Fact.any) zk zk ?_ ?_
   ·intro i hi o win a wr ho RA;have HO3:=HO2.out.dr.move RA.below;have q1:=(HO3.fI (g:=G1) (t:=27) (arr:=#[.slice xa A'.length xc]) zS).cell (i:=0) rfl;have q2:=(HO3.fI (g:=G2) (t:=27) (arr:=#[.slice ya B'.length yc]) zS).cell (i:=0) rfl;have q3:=HO3.obj.cell (i:=0) rfl;have q4:=HO3.obj.cell (i:=1) rfl;have hin:=Mem.dK hmk' HO3.inn;rcases (show i=0∨i=1∨i=2∨i=3∨i=4∨i=5∨i=6∨i=7∨i=8∨i=9∨i=10∨i=11 by omega) with rfl | rfl | rfl | rfl | rfl | rfl | rfl | rfl | rfl | rfl | rfl | rfl
    ·have e2:=RA.k 2;cases ho;exact wv rfl rfl rfl
    ·have e7:=RA.k 7;cases ho;exact wv rfl rfl rfl
    ·have e12:=RA.k 12;cases ho;exact wv rfl rfl rfl
    ·have e42:a.tmps.getD 42 undef=_:=RA.d 2 rfl;cases ho;exact wv rfl rfl rfl
    ·have e41:a.tmps.getD 41 undef=_:=RA.d 1 rfl;have e43:a.tmps.getD 43 undef=_:=RA.d 3 rfl;cases ho;refine we rfl rfl (qw (.slice xa A'.length xc) A' pa mk wr hin HR1.out.1 zo zo) ?_;rintro e w' ⟨rfl,hb⟩;exact⟨_,rfl,_,rfl,hb,rfl⟩
    ·have e8:=RA.k 8;cases ho;exact wv rfl rfl rfl
    ·have e12:=RA.k 12;cases ho;exact wv rfl rfl rfl
    ·have e46:a.tmps.getD 46 undef=_:=RA.d 6 rfl;cases ho;exact wv rfl rfl rfl
    ·have e45:a.tmps.getD 45 undef=_:=RA.d 5 rfl;have e47:a.tmps.getD 47 undef=_:=RA.d 7 rfl;cases ho;refine we rfl rfl (qw (.slice ya B'.length yc) B' pb mk wr hin HR1.out.2 zo zo) ?_;rintro e w' ⟨rfl,hb⟩;exact⟨_,rfl,_,rfl,hb,rfl⟩
    ·have e40:a.tmps.getD 40 undef=_:=RA.d 0 rfl;have e44:a.tmps.getD 44 undef=_:=RA.d 4 rfl;have e48:a.tmps.getD 48 undef=_:=RA.d 8 rfl;cases ho;refine we rfl rfl (Pq op (bG A' pa) (bG B' pb) wr f HW.out) ?_;rintro e w' ⟨rfl,hb⟩;exact⟨_,rfl,_,rfl,hb,rfl⟩
    ·have e49:a.tmps.getD 49 undef=_:=RA.d 9 rfl;have f49:=(Array.getD_eq_getD_getElem? (xs:=a.tmps) (i:=49) (d:=undef)).symm.trans e49;cases ho;exact wv rfl rfl rfl
    ·cases ho;exact aB rfl rfl (aD zg ⟨_,rfl,aP (Below.refl _ _) _,lI win⟩)
   ·intro win a wr E;have e2:=E.keep 2 zk;have e6:=E.keep 6 zk;have e7:=E.keep 7 zk;have e8:=E.keep 8 zk;have e9:=E.keep 9 zk;have e10:=E.keep 10 zk;have e11:=E.keep 11 zk;have e12:=E.keep 12 zk;have e13:(Fact.obj 11 66 #[.bool false,.slice none 0 0]).holds (a.tmps.getD 13 undef) win wr:=E.fact 11 _ zo rfl;have e50:a.tmps.getD 50 undef=.agg #[.bool (f (bG A' pa) (bG B' pb)),.slice none 0 0]:=E.fact 10 _ zo rfl;obtain⟨p1,n1,o1⟩:_∧_∧_:=e13;have g1:=E.rng 11 zo;have hO1:=HO2.out.dr.move E.below;have hge:=HO2.out.dr.below.size;have hF:=hO1.newObj o1 zo (Mem.fe HO2.out.dr.inn g1.1) (HO2.out.dr.kP g1.1);generalize (win 11).1=S at *
    have HE:=zh E;clear E g1 hge o1 n1 hO1;have b0:=hF.obj.frozen 0;have b1:=hF.obj.frozen 1;have b2:=hF.obj.cell (i:=0) rfl;have b3:=hF.obj.cell (i:=1) rfl;have b4:=hF.obj.lt;have hZ:=(hF.set 0 (.bool (f (bG A' pa) (bG B' pb)))).set 1 (.slice none 0 0);refine bR 12 zk (aB rfl rfl (aS zg ?_));obtain⟨t,d⟩:=a;obtain rfl:d=[]:=HE.out.defers;refine aV zk (hY.out _ _ HE.out.size ⟨S,?_,hZ⟩) _;simp only[List.map_cons,List.map_nil,e2,e6,e7,e8,e9,e10,e11,e12,p1]
    rfl
  rintro z4 vs w3 - ⟨S,rfl,hO⟩;simp[litL,lk];have HO:=zh (hO.eH 106 3);clear hO HO2 hW2;go_wp2;refine ay [2,6,7,8,9,10,11,12,13,14] (fun n vs w'=>∃(c:Nat) (l':List (Int × Int)) (vl' ve:Value) (es:List Ed),c≤256∧n=256 - c ∧
   vs=[.int .u8 op,.pointer (some ⟨w.heap.size+1+1,0,none⟩),.pointer (some ⟨G1,0,none⟩),.pointer (some ⟨G2,0,none⟩),vl',vo,.int .i64 k,.pointer (some ⟨P,0,none⟩),.pointer (some ⟨S,0,none⟩),.int .i64 c] ∧
   Own w m w' mk' [.row ve 106 3 es.length (dh es),.obj S 66 #[.bool (f (bG A' pa) (bG B' pb)),ve],.obj P 166 #[.int .i64 pa,.int .i64 pb],.row vo 66 2 k xs,.row vl' 166 2 l'.length (dV l'),.obj G2 27 #[.slice ya B'.length yc],.obj G1 27 #[.slice xa A'.length xc],.obj (w.heap.size+1+1) 27 #[.slice none 0 0]] ∧
   oL A' B' (pa,pb) l' es c∧jE A' B' f (st0 A',st0 B') l' out∧l'[k]?=some (pa,pb)∧(∀q∈l',q.1<A'.length∧q.2<B'.length)) ?_ ?_
  ·exact⟨_,0,l,.slice (some ⟨vlb,0,none⟩) l.length vlc,.slice none 0 0,[],zo,rfl,rfl,HO.out,oL.start _ _ _ _,HP.out.1,HP.out.2.2.1,HP.out.2.2.2⟩
  clear HO;rintro Y z5 n vs w6 hY - ⟨c,l',vl',ve,es,hc,rfl,rfl,hO,hcov,hPI,hlk,hlr⟩;simp[litL,lk];obtain⟨vla2,vlc2,rfl⟩:=aO (hO.lW (v:=vl') (t:=166) (size:=2) (n:=l'.length) (xs:=dV l') zS);obtain⟨vea,vec,rfl⟩:=aO hO.row;have hpl2:=mG hPI.nodup hPI.rng;have hok:=hcov.ok zo;have hel:=hok.2;have HC:=zh (zi hcov (zi hPI (zi hlk (zi hok.1 hlr))));clear hcov hlk hok hPI hlr;by_cases hlt2:c<256
  ·have hgt:=Dm (Ls:=[A',B']) (ps:=[pa,pb]) hlt2 2;have hle:=Dl [A',B'] [pa,pb] c 2;have HQ:=zh (fun b (h1:c≤b) (h2:b<wo [A',B'] [pa,pb] c 2)=>Ll (A:=A') (B:=B') (p:=(pa,pb)) h1 h2);have q1:=(hO.fI (g:=G1) (t:=27) (arr:=#[.slice xa A'.length xc]) zS).cell (i:=0) rfl;have q1l:=(hO.fI (g:=G1) (t:=27) (arr:=#[.slice xa A'.length xc]) zS).lt;have q2:=(hO.fI (g:=G2) (t:=27) (arr:=#[.slice ya B'.length yc]) zS).cell (i:=0) rfl;have q2l:=(hO.fI (g:=G2) (t:=27) (arr:=#[.slice ya B'.length yc]) zS).lt;have q3:=(hO.fI (g:=P) (t:=166) (arr:=#[.int .i64 pa,.int .i64 pb]) zS).cell (i:=0) rfl;have q4:=(hO.fI (g:=P) (t:=166) (arr:=#[.int .i64 pa,.int .i64 pb]) zS).cell (i:=1) rfl;have q3l:=(hO.fI (g:=P) (t:=166) (arr:=#[.int .i64 pa,.int .i64 pb]) zS).lt;have hO3:=(hO.al #[.slice xa A'.length xc,.slice ya B'.length yc] 27).al #[.int .i64 pa,.int .i64 pb] 3;have hsz:(w6.alloc (.cells #[.slice xa A'.length xc,.slice ya B'.length yc] 27)).heap.size=w6.heap.size+1:=by simp
   rw[hsz] at hO3;have hOm:=hO.move (aP (aP (Below.refl _ _) (.cells #[.slice xa A'.length xc,.slice ya B'.length yc] 27)) (.cells #[.int .i64 pa,.int .i64 pb] 3));have HCut:=zh (Qa (v:=.slice xa A'.length xc) (v':=.slice ya B'.length yc) hO3 (aK hmk' HR1.out.1) (aK hmk' HR1.out.2) zo zo zo zo hlt2 zo zo);have HO:=zh hOm;clear hO hO3 hsz hOm
   go_wp2_with fail
   refine HCut.out.mono ?_;rintro e w7 ⟨rfl,hb7⟩;have HO:=zh (HO.out.move hb7);clear HCut hb7 q1 q1l q2 q2l q3 q4 q3l;generalize wo [A',B'] [pa,pb] c 2=ed at *
   go_wp2;refine aA [2,6,7,8,9,10,11,12,13,14,15,16] (fun vs w'=>∃Z:Nat,vs=[.int .u8 op,.pointer (some ⟨w.heap.size+1+1,0,none⟩),.pointer (some ⟨G1,0,none⟩),.pointer (some ⟨G2,0,none⟩),.slice vla2 l'.length vlc2,vo,.int .i64 k,.pointer (some ⟨P,0,none⟩),.pointer (some ⟨S,0,none⟩),.int .i64 c,.int .i64 ed,.pointer (some ⟨Z,0,none⟩)] ∧
    Own w m w' mk' [.obj Z 166 #[.int .i64 (bL A' pa c),.int .i64 (bL B' pb c)],.row (.slice vea es.length vec) 106 3 es.length (dh es),.obj S 66 #[.bool (f (bG A' pa) (bG B' pb)),.slice vea es.length vec],.obj P 166 #[.int .i64 pa,.int .i64 pb],.row vo 66 2 k xs,.row (.slice vla2 l'.length vlc2) 166 2 l'.length (dV l'),.obj G2 27 #[.slice ya B'.length yc],.obj G1 27 #[.slice xa A'.length xc],.obj (w.heap.size+1+1) 27 #[.slice none 0 0]]) ?_ ?_
   ·intro V hV;refine aM 12 6 (fun j=>[Fact.is (·=.agg #[.slice xa A'.length xc]),Fact.is (·=.pointer (some ⟨P,0,none⟩)),Fact.is (·=.int .i64 pa),Fact.is (·=.int .i64 c),Fact.is (·=.int .i64 (bL A' pa c)),Fact.is (·=.agg #[.slice ya B'.length yc]),Fact.is (·=.pointer (some ⟨P,1,none⟩)),Fact.is (·=.int .i64 pb),Fact.is (·=.int .i64 c),Fact.is (·=.int .i64 (bL B' pb c)),Fact.is (·=.agg #[.int .i64 (bL A' pa c),.int .i64 (bL B' pb c)]),Fact.obj 11 166 #[.int .i64 0,.int .i64 0]].getD j Fact.any) zk zk ?_ ?_
    ·intro i hi o win a wr ho RA;have HO3:=HO.out.dr.move RA.below;have q1:=(HO3.fI (g:=G1) (t:=27) (arr:=#[.slice xa A'.length xc]) zS).cell (i:=0) rfl;have q2:=(HO3.fI (g:=G2) (t:=27) (arr:=#[.slice ya B'.length yc]) zS).cell (i:=0) rfl;have q3:=(HO3.fI (g:=P) (t:=166) (arr:=#[.int .i64 pa,.int .i64 pb]) zS).cell (i:=0) rfl;have q4:=(HO3.fI (g:=P) (t:=166) (arr:=#[.int .i64 pa,.int .i64 pb]) zS).cell (i:=1) rfl;have hin:=Mem.dK hmk' HO3.inn;rcases (show i=0∨i=1∨i=2∨i=3∨i=4∨i=5∨i=6∨i=7∨i=8∨i=9∨i=10∨i=11 by omega) with rfl | rfl | rfl | rfl | rfl | rfl | rfl | rfl | rfl | rfl | rfl | rfl
     ·have e7:=RA.k 7;cases ho;exact wv rfl rfl rfl
     ·have e12:=RA.k 12;cases ho;exact wv rfl rfl rfl
     ·have e64:a.tmps.getD 64 undef=_:=RA.d 1 rfl;cases ho;exact wv rfl rfl rfl
     ·have e14:=RA.k 14;cases ho;exact wv rfl rfl rfl
     ·have e63:a.tmps.getD 63 undef=_:=RA.d 0 rfl;have e65:a.tmps.getD 65 undef=_:=RA.d 2 rfl;have e66:a.tmps.getD 66 undef=_:=RA.d 3 rfl;cases ho;refine we rfl rfl (Jc (.slice xa A'.length xc) A' pa c mk wr hin HR1.out.1 zo zo) ?_;rintro e w' ⟨rfl,hb⟩;exact⟨_,rfl,_,rfl,hb,rfl⟩
     ·have e8:=RA.k 8;cases ho;exact wv rfl rfl rfl
     ·have e12:=RA.k 12;cases ho;exact wv rfl rfl rfl
     ·have e69:a.tmps.getD 69 undef=_:=RA.d 6 rfl;cases ho;exact wv rfl rfl rfl
     ·have e14:=RA.k 14;cases ho;exact wv rfl rfl rfl
     ·have e68:a.tmps.getD 68 undef=_:=RA.d 5 rfl;have e70:a.tmps.getD 70 undef=_:=RA.d 7 rfl;have e71:a.tmps.getD 71 undef=_:=RA.d 8 rfl;cases ho;refine we rfl rfl (Jc (.slice ya B'.length yc) B' pb c mk wr hin HR1.out.2 zo zo) ?_;rintro e w' ⟨rfl,hb⟩;exact⟨_,rfl,_,rfl,hb,rfl⟩
     ·have e67:a.tmps.getD 67 undef=_:=RA.d 4 rfl;have e72:a.tmps.getD 72 undef=_:=RA.d 9 rfl;have f72:=(Array.getD_eq_getD_getElem? (xs:=a.tmps) (i:=72) (d:=undef)).symm.trans e72;have f67:=(Array.getD_eq_getD_getElem? (xs:=a.tmps) (i:=67) (d:=undef)).symm.trans e67;cases ho;exact wv rfl rfl rfl
     ·cases ho;exact aB rfl rfl (aD zg ⟨_,rfl,aP (Below.refl _ _) _,lI win⟩)
    ·intro win a wr E;have e2:=E.keep 2 zk;have e6:=E.keep 6 zk;have e7:=E.keep 7 zk;have e8:=E.keep 8 zk;have e9:=E.keep 9 zk;have e10:=E.keep 10 zk;have e11:=E.keep 11 zk;have e12:=E.keep 12 zk;have e13:=E.keep 13 zk;have e14:=E.keep 14 zk;have e15:=E.keep 15 zk;have e16:(Fact.obj 11 166 #[.int .i64 0,.int .i64 0]).holds (a.tmps.getD 16 undef) win wr:=E.fact 11 _ zo rfl;have e73:a.tmps.getD 73 undef=.agg #[.int .i64 (bL A' pa c),.int .i64 (bL B' pb c)]:=E.fact 10 _ zo rfl;obtain⟨p1,n1,o1⟩:_∧_∧_:=e16;have g1:=E.rng 11 zo;have hO1:=HO.out.dr.move E.below;have hge:=HO.out.dr.below.size;have hF:=hO1.newObj o1 zo (Mem.fe HO.out.dr.inn g1.1) (HO.out.dr.kP g1.1);generalize (win 11).1=Z at *
     have HE:=zh E;clear E g1 hge o1 n1 hO1;have b0:=hF.obj.frozen 0;have b1:=hF.obj.frozen 1;have b2:=hF.obj.cell (i:=0) rfl;have b3:=hF.obj.cell (i:=1) rfl;have b4:=hF.obj.lt;have hZ:=(hF.set 0 (.int .i64 (bL A' pa c))).set 1 (.int .i64 (bL B' pb c));refine bR 12 zk (aB rfl rfl (aS zg ?_));obtain⟨t,d⟩:=a;obtain rfl:d=[]:=HE.out.defers;refine aV zk (hV.out _ _ HE.out.size ⟨Z,?_,hZ⟩) _;simp only[List.map_cons,List.map_nil,e2,e6,e7,e8,e9,e10,e11,e12,e13,e14,e15,p1]
     rfl
   rintro z6 vs w8 - ⟨Z,rfl,hO⟩;simp[litL,lk];clear HO;have hrA:=fQ HG.out.1.wf pa c;have hrB:=fQ HG.out.2.1.wf pb c;have hps:kV A' B' (pa,pb) c=(bL A' pa c,bL B' pb c):=rfl;obtain⟨qa,hqa⟩:∃x,bL A' pa c=x:=⟨_,rfl⟩;obtain⟨qb,hqb⟩:∃x,bL B' pb c=x:=⟨_,rfl⟩;rw[hqa,hqb] at hps;rw[hqa] at hrA;rw[hqb] at hrB;rw[hqa,hqb] at hO;have hPI2:=HC.out.2.1.add (q:=(qa,qb)) (by simp only;omega);have hpk:∀q∈l',EM q:=fun q hq=>by
    have:=HC.out.2.1.rng q hq;exact⟨zo,zo,zo,zo⟩
   have hgt2:=yX l' (qa,qb);have hpre:=yV l' (qa,qb);have hcs:=(HC.out.1.mono hpre).seg (h:=ed - 1) (t:=gY l' (qa,qb)) zo zo (by rw[hps];exact hgt2) (fun b h1 h2=>HQ.out b h1 zo);have hlk2:(fE l' (qa,qb))[k]?=some (pa,pb):=by
    obtain⟨x,hx⟩:=hpre;rw[← hx,List.getElem?_append_left (List.getElem?_eq_some_iff.1 HC.out.2.2.1).1];exact HC.out.2.2.1
   have hlr2:∀q∈fE l' (qa,qb),q.1<A'.length∧q.2<B'.length:=fun q hq=>by
    unfold fE at hq
    split at hq
    ·exact HC.out.2.2.2.2 q hq
    ·rcases List.mem_append.1 hq with h | h
     ·exact HC.out.2.2.2.2 q h
     ·simp only[List.mem_singleton] at h;subst h;simp only;omega
   have hpno:=uB l' (qa,qb);have HK2:=zh (zi hcs (zi hPI2 (zi hlk2 hlr2)));have hq:=hO.pull (l₁:=[_,_,_,_,_]);have HPl:=zh (M7 (.slice vla2 l'.length vlc2) l' (qa,qb) _ w8 hq.bD.inn (rM hq.row hpk));have b0:=hO.obj.cell (i:=0) rfl;have b1:=hO.obj.cell (i:=1) rfl;have b2:=hO.obj.lt;have HO:=zh hO;clear hO hq hpk hcs hPI2 hlk2 hlr2 hgt2 hpre hrA hrB hps HQ
   go_wp2_with fail
   refine HPl.out.mono ?_;rintro e w9 ⟨rfl,hb9⟩;rw[AV];have HO:=zh (HO.out.move hb9);clear HPl hb9 b0 b1 b2;obtain⟨bq,hbq⟩:∃b,decide (gY l' (qa,qb)<l'.length)=b:=⟨_,rfl⟩;have hto:(if gY l' (qa,qb)<l'.length then ((gY l' (qa,qb):Nat):Int) else -1)=if bq=true then ((gY l' (qa,qb):Nat):Int) else -1:=by rw[← hbq];simp
   rw[hto];have HBQ:=zh hbq;clear hto hbq;obtain⟨vv,hvv⟩:∃v:Int,(if bq=true then ((gY l' (qa,qb):Nat):Int) else -1)=v:=⟨_,rfl⟩;rw[hvv];have HVV:=zh hvv;clear hvv
   go_upto_if 78 with (fail)
   refine aA [2,6,7,8,9,10,11,12,13,14,15,17] (fun vs w'=>∃vl2:Value,vs=[.int .u8 op,.pointer (some ⟨w.heap.size+1+1,0,none⟩),.pointer (some ⟨G1,0,none⟩),.pointer (some ⟨G2,0,none⟩),vl2,vo,.int .i64 k,.pointer (some ⟨P,0,none⟩),.pointer (some ⟨S,0,none⟩),.int .i64 c,.int .i64 ed,.int .i64 (gY l' (qa,qb))] ∧
    Own w m w' mk' [.row (.slice vea es.length vec) 106 3 es.length (dh es),.obj S 66 #[.bool (f (bG A' pa) (bG B' pb)),.slice vea es.length vec],.obj P 166 #[.int .i64 pa,.int .i64 pb],.row vo 66 2 k xs,.row vl2 166 2 (fE l' (qa,qb)).length (dV (fE l' (qa,qb))),.obj G2 27 #[.slice ya B'.length yc],.obj G1 27 #[.slice xa A'.length xc],.obj (w.heap.size+1+1) 27 #[.slice none 0 0]]) ?_ ?_
   ·intro V hV
    cases bq with
    | true=>
     have hvv:((gY l' (qa,qb):Nat):Int)=vv:=HVV.out;have hlt3:gY l' (qa,qb)<l'.length:=of_decide_eq_true HBQ.out;have he:fE l' (qa,qb)=l':=by unfold fE;rw[if_pos hlt3]
     have hng:¬ vv<0:=zo;have hd:decide (vv<0)=false:=decide_eq_false hng;have HE:=zh (zi he hvv);clear he hvv;go_wp2;refine hV.out _ _ rfl ⟨.slice vla2 l'.length vlc2,?_,?_⟩
     ·rw[HE.out.2];rfl
     ·rw[HE.out.1];exact HO.out.tail
    | false=>
     have hvv : -1=vv:=HVV.out;have hlt3:¬ gY l' (qa,qb)<l'.length:=of_decide_eq_false HBQ.out;have he:fE l' (qa,qb)=l' ++ [(qa,qb)]:=by unfold fE;rw[if_neg hlt3]
     have hn:gY l' (qa,qb)=l'.length:=zo;have hng:vv<0:=zo;have hd:decide (vv<0)=true:=decide_eq_true hng;have HE:=zh (zi he hn);have hO2:=HO.out.al #[.int .i64 qa,.int .i64 qb] 166;have hnews:=hO2.obj.news rfl;have b0:=HO.out.obj.cell (i:=0) rfl;have b1:=HO.out.obj.cell (i:=1) rfl;have b2:=HO.out.obj.lt;have hO3:=hO2.pull (l₁:=[_,_,_,_,_,_]);have hvr:=hO3.row;have HO3:=zh hO3;clear he hn hvv hlt3 hO2 hO3
     go_wp2_with (at_builtin;refine aC Pt rfl (.tmp 81) (.tmp 83) rfl (.slice vla2 l'.length vlc2) l'.length (dV l') rfl hvr ⟨w9.heap.size,0,none⟩ 1 1 [.int .i64 qa,.int .i64 qb] rfl rfl hnews (by simp[Value.oneCell']) (by unfold maxLen;omega) zo ?_)
     intro xa' xc' w10 hown7 hgrow7 hrow7;have hO5:=((HO3.out.app hown7 hgrow7 hrow7 zS).ym (l₁:=[_,_,_,_,_,_])).tail.tail;have HO5:=zh hO5;clear hown7 hgrow7 hrow7 hO5 hvr hnews b0 b1 b2 HO3;go_wp2;refine hV.out _ _ rfl ⟨.slice xa' (l'.length+1) xc',?_,?_⟩
     ·rw[HE.out.2];rfl
     ·rw[HE.out.1];have:=HO5.out;simpa [pO] using this
   rintro z7 vs w10 - ⟨vl2,rfl,hO⟩;simp[litL,lk];clear HO HVV HBQ;obtain⟨vla3,vlc3,rfl⟩:=aO (hO.lW (v:=vl2) (t:=166) (size:=2) (n:=(fE l' (qa,qb)).length) (xs:=dV (fE l' (qa,qb))) zS);generalize gY l' (qa,qb)=t at *
   generalize fE l' (qa,qb)=l2 at *
   have hwu:IntKind.u8.wrap (c:Int)=(c:Int):=IntWalk.u8_in _ zo;have hwv:IntKind.u8.wrap ((ed:Int) - 1)=(ed:Int) - 1:=IntWalk.u8_in _ zo;have s1:=hO.swap.obj.cell (i:=1) rfl;have s2:=hO.swap.obj.lt;have s3:=hO.swap.obj.frozen 1;have hO2:=hO.al #[.int .u8 c,.int .u8 ((ed:Int) - 1),.int .i64 t] 106;have hnews:=hO2.obj.news rfl;have hvr:=hO2.swap.row;have HO2:=zh hO2.swap;clear hO hO2
   go_wp2_with (at_builtin;refine aC mO rfl (.tmp 86) (.tmp 94) rfl (.slice vea es.length vec) es.length (dh es) rfl hvr ⟨w10.heap.size,0,none⟩ 1 1 [.int .u8 c,.int .u8 ((ed:Int) - 1),.int .i64 t] rfl rfl hnews (by simp[Value.oneCell']) (by unfold maxLen;omega) zo ?_)
   intro na' nc' w11 hown7 hgrow7 hrow7;have hO3:=(HO2.out.app hown7 hgrow7 hrow7 zS).drop2;have s1:=hO3.swap.obj.cell (i:=1) rfl;have s2:=hO3.swap.obj.lt;have s3:=hO3.swap.obj.frozen 1;have hO4:=(hO3.swap.set 1 (.slice na' (es.length+1) nc')).swap;have HO4:=zh hO4;clear hown7 hgrow7 hrow7 hO3 hO4 hvr hnews HO2;go_wp2;have hed:(((ed - 1:Nat):Int))=(ed:Int) - 1:=zo;refine hY.out _ _ _ zo rfl ⟨ed,l2,.slice vla3 l2.length vlc3,.slice na' (es.length+1) nc',es ++ [⟨c,ed - 1,t⟩],zo,rfl,?_,?_,?_,HK2.out.2.1,HK2.out.2.2.1,HK2.out.2.2.2⟩
   ·rfl
   ·have:=HO4.out;rw[← hed] at this;simpa [fq] using this
   ·have:=HK2.out.1
    rwa [show ed - 1+1=ed by omega] at this
  ·obtain rfl:c=256:=zo;have hPIn:=HC.out.2.1.push (p:=(pa,pb)) (by rw[HP.out.2.1];exact HC.out.2.2.1) HC.out.1;have hes:=fU (l:=es) (m:=mk') hO.row HC.out.2.2.2.1;have hmk2:=Mem.eD (w:=w6) hO.free;have hrow2:=(hrow.mono hmk2).push (s:=⟨(f (bG A' pa) (bG B' pb)),es⟩) hes;have hO2:=hO.bD;have s0:=hO2.obj.cell (i:=0) rfl;have s1:=hO2.obj.cell (i:=1) rfl;have sl:=hO2.obj.lt;obtain⟨voa,voc,rfl⟩:=aO (hO2.lW (v:=vo) (t:=66) (size:=2) (n:=k) (xs:=xs) zS);have hO3:=hO2.al #[.bool (f (bG A' pa) (bG B' pb)),.slice vea es.length vec] 66;have hO4:=hO3.pull (l₁:=[_,_,_]);have hvr:=hO4.row;have hnews:=hO3.obj.news rfl;have Hk:=zh (zi hrow2 (zi (Mem.le_trans hmk' hmk2) (zi hPIn HC.out.2.2.2.2)));clear hrow2 hes hmk2 hO2 hO hPIn hO3;generalize mk'.addv w6 (.slice vea es.length vec)=mk2 at *
   go_wp2_with (at_builtin;refine aC iH rfl (.tmp 98) (.tmp 100) rfl (.slice voa k voc) k xs rfl hvr ⟨w6.heap.size,0,none⟩ 1 1 [.bool (f (bG A' pa) (bG B' pb)),.slice vea es.length vec] rfl rfl hnews (by simp[Value.oneCell']) (by unfold maxLen;omega) zo ?_)
   intro xa' xc' w7 hown7 hgrow7 hrow7;have hO5:=(hO4.app hown7 hgrow7 hrow7 zS).drop2.drop2.drop2;have HO5:=zh hO5;clear hown7 hgrow7 hrow7 hO4 hO5 hvr hnews;go_wp2;refine hX.out _ _ _ zo rfl ⟨k+1,l',out ++ [⟨(f (bG A' pa) (bG B' pb)),es⟩],.slice vla2 l'.length vlc2,.slice xa' (k+1) xc',_,mk2,rfl,rfl,HO5.out,Hk.out.1,Hk.out.2.1,Hk.out.2.2.1,?_,Hk.out.2.2.2⟩;rw[List.length_append,HP.out.2.1];rfl
 ·have hkl2:k=l.length:=zo;have hdone:=hPI.done (QW HW.out) zo;obtain⟨voa,voc,rfl⟩:=aO hO.row;have hst:=dZ (l:=out) (m:=mk') (by rw[hol];exact hO.row) hrow hO.free;have hO2:=hO.bD;have HM:=zh (nS (.slice voa k voc) out _ wr hO2.inn hst zo);have HO2:=zh hO2;have HD:=zh (zi hdone hol);clear hO2 hst hO hdone hol hPI hrow hkl2 hlr
  go_wp2_with fail
  refine HM.out.mono ?_;rintro e w2 ⟨r,C,rfl,hb2,hst,hClen,hmin,hnot⟩;have hwf:=HD.out.1.1;rw[aN hwf];obtain⟨ra,rc,rfl⟩:∃ra rc,r=.slice ra C.length rc:=by obtain⟨x,y,e,-⟩:=hst;exact⟨x,y,e⟩
  have hO3:=HO2.out.call hb2;have hO4:=(hO3.pull (l₁:=[_,_,_])).al #[.slice ra C.length rc] 27;have g1:=hO4.swap.obj.cell (i:=0) rfl;have g2:=hO4.swap.obj.frozen 0;have g3:=hO4.swap.obj.lt;have hO5:=hO4.swap.set 0 (.slice ra C.length rc);have g4:=hO5.obj.cell (i:=0) rfl;have hfin:=aK hO5.done hst;have Hk:=zh (zi hO5.below (zi hfin (zi (hmin hwf) hClen)));clear hO5 hO4 hO3 hfin hmin hnot hst hClen HO2 hwf;go_wp2;refine bodyPost_ret (v:=.agg #[.slice ra C.length rc]) (by simp[results,Tryz.results133,go_sem,g4]) rfl ?_;refine hR.out _ _ ⟨_,C,rfl,Hk.out.1,Hk.out.2.1,⟨Hk.out.2.2.1.canon,fun x=>?_⟩,?_⟩
  ·rw[Hk.out.2.2.1.lang,HD.out.1.2.2.2.2];rw[IY,IY,HG.out.2.2.1,HG.out.2.2.2]
  ·have h1:=Hk.out.2.2.2;have h2:=HD.out.2;omega
theorem xg (v0 v1:Value) (A B:Table) (m:Mem) (w:World) (hm:m.inn w) (hA:aI m v0 A) (hB:aI m v1 B) (hF:Fits A B) :
 Calls Tryz.prog 88 #[.agg #[v0],.agg #[v1]] w fun e w'=>∃r C,e=.returned (.agg #[r])∧Below w.heap.size w w'∧aI (m.grow w w') r C ∧
  dX (fun x=>Sem A x && !Sem B x) C∧C.length≤(A.length+2)*(B.length+2)+1:=by
 have hO:=(((Own.start hm).al #[v0] 27).al #[v1] 27).al #[.slice none 0 0] 27;have hsz1:(w.alloc (.cells #[v0] 27)).heap.size=w.heap.size+1:=by simp
 have hsz2:((w.alloc (.cells #[v0] 27)).alloc (.cells #[v1] 27)).heap.size=w.heap.size+2:=by simp
 rw[hsz2,hsz1] at hO;have HP:=zh (tF 45 (fun x y=>x && !y) zS v0 v1 A B m _ hO.inn hA hB hF.mul hF.a hF.b);have HO:=zh hO;obtain⟨va,vc,rfl,-⟩:=hA;obtain⟨vb,vd,rfl,-⟩:=hB;clear hO hsz1 hsz2;refine aj fun R hR=>?_
 go_enter Tryz.func88,Tryz.ntmps88
 go_wp2_with fail
 refine HP.out.mono ?_;rintro e w1 ⟨r,C,rfl,hb1,hst,hlang,hClen⟩;have hO1:=HO.out.call hb1;obtain⟨ra,rc,rfl⟩:∃ra rc,r=.slice ra C.length rc:=by obtain⟨x,y,e,-⟩:=hst;exact⟨x,y,e⟩
 have g1:=hO1.obj.cell (i:=0) rfl;have g2:=hO1.obj.frozen 0;have g3:=hO1.obj.lt;have hO2:=hO1.set 0 (.slice ra C.length rc);have g4:=hO2.obj.cell (i:=0) rfl;have Hk:=zh (zi hO2.below (zi (aK hO2.done hst) (zi hlang hClen)));clear hO2 hO1 hst hlang hClen HP HO hb1;go_wp2;refine bodyPost_ret (v:=.agg #[.slice ra C.length rc]) (by simp[results,Tryz.results88,go_sem,g4]) rfl ?_;exact hR.out _ _ ⟨_,C,rfl,Hk.out.1,Hk.out.2.1,Hk.out.2.2.1,Hk.out.2.2.2⟩
end Cl
