/- Lemmas for the proofs of chapter 11. -/
import Derived.Test.YtdgjplfcpcphoaaGreatDoorProg
import Derived.BigQuiet
import Derived.Deep.Cut
import Derived.Deep.QuietTactic
import Derived.Laws.StructEq
import Derived.Lib.AppendStr
import Derived.Lib.Builder
import Derived.Lib.Hide
import Derived.Lib.ItoaLen
import Derived.Maps.OwnOps
import Derived.Maps.OwnSet
import Derived.OrdersHeld
import Derived.Outline
import Derived.StillTailTactics
import Derived.StringKeys
import Derived.WalkKit
import Derived.WalkLawsBesides
import Derived.WalkSpells
import Derived.Deep.RegionHeld
import Derived.Shelf.Strings.Builder1
import Derived.Shelf.Small.Wraps
import Derived.Shelf.LaysM
import Derived.Shelf.Strconv.Itoa3
import Derived.RegionTactic
import Derived.ChangeAlike
import Derived.Test.YtdgjplfcpcphoaaGreatDoorZz
import Derived.Test.YtdgjplfcpcphoaaGreatDoorPkV3
import Derived.Test.YtdgjplfcpcphoaaGreatDoorPkV1
import Derived.Test.YtdgjplfcpcphoaaGreatDoorPkV2
import Derived.Test.YtdgjplfcpcphoaaGreatDoorPkV24
set_option maxRecDepth 100000
set_option maxHeartbeats 16000000
namespace Cl
open Go Go.RowKit Go.Proofs
def rU (m:Mem) (v:Value) (l:List Table):Prop:=Mem.mF (fun b o T=>∃u,m.cell b o=some u∧aQ m u T) v l
theorem NB (v v2:Value) (Ls:List Table) (ps:List Int) (b:Nat) (m:Mem) (w:World) (hm:m.inn w) (hv:rU m v Ls) (hp:cO m v2 ps) (hl:Ls.length=ps.length)
 (hr:∀i,i<ps.length → -1≤ps.getD i (-1)∧ps.getD i (-1)<(Ls.getD i []).length) (hb:b<256) :
 Calls Tryz.prog 190 #[v,v2,.int .i64 b] w fun e w'=>e=.returned (.int .i64 (nK Ls ps b Ls.length))∧Below w.heap.size w w':=by
 obtain⟨la,lc,rfl,h1,h2,h3⟩:=hv;obtain⟨pa,pc,rfl,p1,p2,p3⟩:=hp;unfold maxLen at h2 p2;have HL:=zh (zi hl (zi hr hm));have hl':Ls.length≤ps.length:=zo;have H3:=zh h3;have P3:=zh p3;clear hl hr hm h3 p3;refine av fun R hR=>?_
 go_enter Tryz.func190,Tryz.ntmps190
 go_wp2;refine au [0,1,2,7,8] (fun n vs w2=>∃(k:Nat),k≤Ls.length∧n=Ls.length - k∧vs=[.slice la Ls.length lc,.slice pa ps.length pc,.int .i64 b,.int .i64 (nK Ls ps b k),.int .i64 k]∧Below w.heap.size w w2) ?_ ?_
 ·exact⟨_,0,Nat.zero_le _,rfl,rfl,Below.refl _ _⟩
 rintro X z n vs w2 hX - ⟨k,hk,rfl,rfl,hbw⟩;simp[litL,lk];have hmw:=Mem.bB HL.out.2.2 hbw;have HB:=zh hbw;clear hbw;have hge:=xQ Ls ps b k;by_cases hlt:k<Ls.length
 ·obtain⟨gb,go,rfl,hg⟩:=H3.out (by intro h;simp[h] at hlt);obtain⟨qb,qo,rfl,hq⟩:=P3.out (by intro h;rw[h] at hl';simp at hl';simp[hl'] at hlt);obtain⟨u,g1,ua,uc,rfl,g2,g3,g4⟩:=hg k hlt;obtain⟨q1,q2,q3⟩:=hq k zo;have hrk:=HL.out.2.1 k zo;have eL:Ls.getD k []=Ls[k]:=by simp[hlt]
  have hkp:k<ps.length:=zo;have eP:ps.getD k (-1)=ps[k]:=by simp[hkp]
  have hnx:nK Ls ps b (k+1)=cutE b (lq Ls[k] ps[k]) (nK Ls ps b k):=by rw[← eL,← eP];rfl
  rw[eL,eP] at hrk;have HN:=zh hnx;have hgt:=xR (Ls:=Ls) (ps:=ps) hb k;clear hnx eL eP hg hq;have c1:=Mem.aj hmw g1;have c2:=Mem.aj hmw q1;have c3:=Mem.ay hmw g1;have c4:=Mem.ay hmw q1;generalize Ls[k]=T at *
  generalize ps[k]=p at *
  generalize nK Ls ps b k=o at *
  by_cases hneg:p<0
  ·have hd:decide (p<0)=true:=decide_eq_true hneg;have he:nK Ls ps b (k+1)=o:=by rw[HN.out,lq,if_pos hneg,LG]
   have HE:=zh he;clear he g4;go_wp2;refine hX.out _ _ _ zo rfl ⟨k+1,zo,rfl,by rw[HE.out];rfl,HB.out⟩
  ·obtain⟨p,rfl⟩:=Int.eq_ofNat_of_zero_le (by omega:0≤p);have hpt:p<T.length:=zo;obtain⟨b',off',rfl,h10⟩:=g4 (by intro h;simp[h] at hpt);obtain⟨-,ve,e2,ea,ec,rfl,e4,e5,e6⟩:=h10 p hpt;have hee:lq T (p:Int)=(T[p]).edges:=by
    have h0':¬ ((p:Int)<0):=zo;simp[lq,h0',hpt]
   rw[hee] at HN;have HN:=zh HN.out;clear hee h10;generalize T[p].edges=es at *
   unfold maxLen at e5 g3;have c5:=Mem.aj hmw e2;have c6:=Mem.ay hmw e2;have E6:=zh e6;clear e6 g4;go_wp2
   go_quiet (fail)
   go_wp2;refine au [0,1,2,7,8,9,10] (fun n vs w3=>∃(j:Nat),j≤es.length∧n=es.length - j∧vs=[.slice (some ⟨gb,go,none⟩) Ls.length lc,.slice (some ⟨qb,qo,none⟩) ps.length pc,.int .i64 b,.int .i64 (cutE b (es.take j) o),.int .i64 k,.slice ea es.length ec,.int .i64 j]∧Below w.heap.size w w3) ?_ ?_
   ·exact⟨_,0,Nat.zero_le _,rfl,rfl,below_drewN HB.out _⟩
   clear c1 c2 c3 c4 c5 c6 hmw HB;rintro Y z1 n1 vs1 w3 hY - ⟨j,hj,rfl,rfl,hb3⟩;simp[litL,lk];have hmw:=Mem.bB HL.out.2.2 hb3;have HB:=zh hb3;clear hb3;by_cases hltj:j<es.length
   ·obtain⟨eb,eo,rfl,h10⟩:=E6.out (by intro h;simp[h] at hltj);obtain⟨x1,x2,-,x4,x5,-⟩:=h10 j hltj;have d1:=Mem.aj hmw x1;have d2:=Mem.aj hmw x2;have d3:=Mem.ay hmw x1;have hs:=JS b o hltj;have ho1:=uq b (es.take j) o;have ho2:=C8 (es.take j) o hgt;generalize es[j]=e at *
    generalize cutE b (es.take j) o=o1 at *
    have HSn:=zh hs;clear hs h10;by_cases q1:b<e.lo <;> by_cases q2:b≤e.hi
    all_goals
     have y1:decide ((b:Int)<(e.lo:Int))=decide (b<e.lo):=by simp
     simp only[q1,decide_true,decide_false] at y1;go_wp2;refine hY.out _ _ _ zo rfl ⟨j+1,zo,rfl,?_,HB.out⟩;rw[HSn.out];simp[cutS,q1,q2]
     try omega
   ·obtain rfl:j=es.length:=zo;clear hj;go_wp2;refine hX.out _ _ _ zo rfl ⟨k+1,zo,rfl,by rw[HN.out,List.take_length];rfl,HB.out⟩
 ·obtain rfl:k=Ls.length:=zo;clear hk;go_wp2;exact hR.out _ _ ⟨rfl,HB.out⟩
end Cl
