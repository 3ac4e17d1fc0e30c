/- The law's walk. -/
import Derived.WalkKit
import Derived.Test.YtdgjplfcpcphoaaGreatDoorProg
import Derived.BigQuiet
import Derived.Deep.Cut
import Derived.Deep.QuietTactic
import Derived.Laws.StructEq
import Derived.Lib.AppendStr
import Derived.Lib.Builder
import Derived.Lib.Hide
import Derived.Lib.ItoaLen
import Derived.Maps.OwnOps
import Derived.Maps.OwnSet
import Derived.OrdersHeld
import Derived.Outline
import Derived.StillTailTactics
import Derived.StringKeys
import Derived.WalkLawsBesides
import Derived.WalkSpells
import Derived.Deep.RegionHeld
import Derived.Laws.CopyRow
import Derived.Laws.Tables
import Derived.BigFrame
import Derived.Laws.EntriesVeiled
import Derived.RegionTactic
import Derived.WalkMore
import Derived.Deep.Slices
import Derived.Lib.SmallJoins
import Derived.ChangeMaps5
import Derived.Carry
import Derived.KernelRfl
import Derived.ChangeArms
import Derived.RangeFuncNested
import Derived.RangeFuncBound
import Derived.RangeFuncCalls
import Derived.RangeFuncLeaves
import Derived.OwnWalkIn
import Derived.TacticsInMore
import Derived.LoopNIn
import Derived.LoopIn
import Derived.Shelf.Strings.Builder1
import Derived.Shelf.Small.Wraps
import Derived.Shelf.LaysM
import Derived.Shelf.Strconv.Itoa3
import Derived.Shelf.Strconv.AppendIntPublic10
import Derived.Shelf.Spec.SlicesGrow
import Derived.Shelf.SlSortCmp.WholeK
import Derived.ChangeAlike
import Derived.Laws.BytesArg
import Derived.Laws.CopyOwn
import Derived.Test.YtdgjplfcpcphoaaGreatDoorRows
import Derived.Test.YtdgjplfcpcphoaaGreatDoorCards
import Derived.Test.YtdgjplfcpcphoaaGreatDoorTie
import Derived.ProofKit
import Derived.OpenShut
import Derived.Deep.DeepHandedRow
import Derived.Lib.LaidTab
import Derived.Stop.LaidErr
import Derived.Test.YtdgjplfcpcphoaaGreatDoorZz
import Derived.Test.YtdgjplfcpcphoaaGreatDoorPkX1
import Derived.Test.YtdgjplfcpcphoaaGreatDoorPkX2
import Derived.Test.YtdgjplfcpcphoaaGreatDoorPkX27
import Derived.Test.YtdgjplfcpcphoaaGreatDoorPkX18
import Derived.Test.YtdgjplfcpcphoaaGreatDoorPkX14
import Derived.Test.YtdgjplfcpcphoaaGreatDoorPkX3
import Derived.Test.YtdgjplfcpcphoaaGreatDoorPkX4
import Derived.Test.YtdgjplfcpcphoaaGreatDoorPkX5
import Derived.Test.YtdgjplfcpcphoaaGreatDoorPkX28
import Derived.Test.YtdgjplfcpcphoaaGreatDoorPkX23
import Derived.Test.YtdgjplfcpcphoaaGreatDoorPkX10
import Derived.Test.YtdgjplfcpcphoaaGreatDoorPkX13
import Derived.Test.YtdgjplfcpcphoaaGreatDoorPkX9
import Derived.Test.YtdgjplfcpcphoaaGreatDoorPkX25
import Derived.Test.YtdgjplfcpcphoaaGreatDoorPkX16
import Derived.Test.YtdgjplfcpcphoaaGreatDoorPkX6
import Derived.Test.YtdgjplfcpcphoaaGreatDoorPkX15
import Derived.Test.YtdgjplfcpcphoaaGreatDoorPkX7
import Derived.Test.YtdgjplfcpcphoaaGreatDoorPkX11
import Derived.Test.YtdgjplfcpcphoaaGreatDoorPkX8
import Derived.Test.YtdgjplfcpcphoaaGreatDoorPkX12
import Derived.Test.YtdgjplfcpcphoaaGreatDoorPkX17
import Derived.Test.YtdgjplfcpcphoaaGreatDoorPkX21
import Derived.Test.YtdgjplfcpcphoaaGreatDoorPkX19
import Derived.Test.YtdgjplfcpcphoaaGreatDoorPkX24
import Derived.Test.YtdgjplfcpcphoaaGreatDoorPkX20
import Derived.Test.YtdgjplfcpcphoaaGreatDoorPkX22
import Derived.Test.YtdgjplfcpcphoaaGreatDoorPkX26
import Derived.Test.YtdgjplfcpcphoaaGreatDoorPkX29
set_option maxRecDepth 100000
set_option maxHeartbeats 16000000
namespace Cl
def pF {α:Type} (p:α→Bool) (v:α→Vd):List α→Vd→Vd
 | [],d=>d
 | x::l,d=>pF p v l (if p x then v x else d)
theorem qG {α:Type} (p:α→Bool) (v:α→Vd):∀(l:List α) (x:α) (d:Vd),pF p v (l ++ [x]) d=if p x then v x else pF p v l d
 | [],x,d=>rfl
 | y::l,x,d=>by simp only[List.cons_append,pF,qG p v l x]
theorem l9 {α:Type} {p:α→Bool} {v:α→Vd}:∀{l:List α} {d:Vd},l.countP p=0→pF p v l d=d
 | [],_,_=>rfl
 | x::l,d,h=>by
  have h1:=List.countP_eq_zero.1 h x zS;rw[List.countP_cons] at h;rw[pF,if_neg h1];exact l9 zo
theorem uq {α:Type} {p:α→Bool} {v:α→Vd}:∀{l:List α} {d:Vd},l.countP p=1→∃x,l.find? p=some x∧pF p v l d=v x
 | [],_,h=>by simp at h
 | x::l,d,h=>by
  cases hx:p x with
  | true=>
   rw[List.countP_cons,hx] at h
   exact⟨x,by rw[List.find?_cons,hx],by rw[pF,hx,if_pos rfl];exact l9 (by simpa using h)⟩
  | false=>
   rw[List.countP_cons,hx] at h;obtain⟨y,h1,h2⟩:=uq (v:=v) (l:=l) (d:=d) (by simpa using h);exact⟨y,by rw[List.find?_cons,hx];exact h1,by rw[pF,hx];exact h2⟩
theorem GI {acc:Table→Bool} {c:St} {s:ByteArray} (h:c.2.countP (fun k=>acc k.1)+c.1.countP (fun f=>f.1.1=s)=1) :
 pF (fun k:Kl=>acc k.1) (·.2) c.2 (pF (fun f:Fd=>decide (f.1.1=s)) (·.2) c.1 (botV,botV))=(eU acc c s).1:=by
 unfold eU;by_cases h0:c.1.countP (fun f=>f.1.1=s)=0
 ·have h1:c.2.countP (fun k=>acc k.1)=1:=zo;rw[l9 h0];obtain⟨k,h2,h3⟩:=uq (v:=fun k:Kl=>k.2) (d:=(botV,botV)) h1;rw[h3];have h4:c.1.find? (fun f=>decide (f.1.1=s))=none:=by
   rw[List.find?_eq_none];exact List.countP_eq_zero.1 h0
  rw[h4,h2]
 ·have h1:c.1.countP (fun f=>f.1.1=s)=1:=zo;have h2:c.2.countP (fun k=>acc k.1)=0:=zo;rw[l9 h2];obtain⟨f,h3,h4⟩:=uq (v:=fun f:Fd=>f.2) (d:=(botV,botV)) h1;rw[h4,h3]
end Cl
namespace Cl
open Go Go.RowKit Go.Proofs
theorem ME {s:ByteArray} {t:Table} (h:Canon t):accB s t=Sem t s.data.toList:=by
 rw[oO h];unfold accB;rw[aI h.wf];rfl
theorem oq {α:Type} {p q:α→Bool}:∀{l:List α},(∀x∈l,p x=q x)→l.countP p=l.countP q
 | [],_=>rfl
 | x::l,h=>by rw[List.countP_cons,List.countP_cons,oq fun y hy=>h y (by simp[hy]),h x zS]
theorem Ig {a b:ByteArray}:decide (a=b)=(a.data.toList==b.data.toList):=by
 by_cases h:a=b
 ·subst h;simp
 ·have h2:¬ a.data.toList=b.data.toList:=fun e=>h (MW e);rw[decide_eq_false h];exact (beq_eq_false_iff_ne.2 h2).symm
theorem GH {c:St} {s:ByteArray} (h:tf (SndV (stV c))=true):c.2.countP (fun k=>accB s k.1)+c.1.countP (fun f:Fd=>decide (f.1.1=s))=1:=by
 have h1:Snd 16 (stV c):=zB.1 h;have h2:=(h1.1.st c (by simp[stV,Vl.structs])).2;have h3:=h2.once s.data.toList;unfold hitN at h3;rw[oq (q:=fun k:Kl=>Sem k.1 s.data.toList) fun k hk=>ME (h2.sets k hk).1,oq (q:=fun f:Fd=>f.1.1.data.toList==s.data.toList) fun f _=>Ig];exact h3
theorem oM {α:Type} {l:List α} {i:Nat} (h:i<l.length):l.take (i+1)=l.take i ++ [l[i]]:=by simp
structure Fnd {α:Type} (p:α→Bool) (v:α→Vd) (l:List α) (i k0 k:Nat) (d0 d:Vd):Prop where
 k:k=k0+(l.take i).countP p
 d:d=pF p v (l.take i) d0
section
variable {α:Type} {p:α→Bool} {v:α→Vd} {l:List α} {i k0 k:Nat} {d0 d:Vd}
theorem Fnd.start:Fnd p v l 0 k0 k0 d0 d0:=⟨zS,by simp[pF]⟩
theorem Fnd.yes (h:Fnd p v l i k0 k d0 d) (hi:i<l.length) (e:p l[i]=true):Fnd p v l (i+1) k0 (k+1) d0 (v l[i]):=
 ⟨by rw[oM hi,List.countP_append,h.k];simp[e];omega,by rw[oM hi,qG,e];simp⟩
theorem Fnd.no (h:Fnd p v l i k0 k d0 d) (hi:i<l.length) (e:p l[i]=false):Fnd p v l (i+1) k0 k d0 d:=
 ⟨by rw[oM hi,List.countP_append,h.k];simp[e],by rw[oM hi,qG,e,h.d];simp⟩
theorem Fnd.all (h:Fnd p v l l.length k0 k d0 d):k=k0+l.countP p∧d=pF p v l d0:=by
 obtain⟨h1,h2⟩:=h;rw[List.take_length] at h1 h2;exact⟨h1,h2⟩
end
theorem uW (u u2:Value) (c:St) (s:ByteArray) (m:Mem) (n:Nat) (w:World) (hm:m.inn w) (htab:TabM m) (h1:gI (VAt m n) m u c.1) (h2:fV (VAt m n) m u2 c.2) (t1:vJ n c+1≤1048576) (hs:s.size≤maxLen) :
 Calls Tryz.prog 11 #[.agg #[u,u2],.string s] w fun e w'=>e=.returned (.bool true)∧Below w.heap.size w w':=by
 obtain⟨m1,l1,c1,hO1⟩:=gu 45 #[u,u2] (Own.start hm);obtain⟨m2,l2,c2,hO2⟩:=gu 45 #[u,u2] hO1;simp only[bB] at c2;have l12:=Mem.le_trans l1 l2;have f1:=gI.le l12 (fun _ _=>VAt.le l12) h1;have f2:=fV.le l12 (fun _ _=>VAt.le l12) h2;have HSZ:=zh hs;have HFK:=zh (zi f1 f2);have HT2:=zh (htab.le l12);have C0:=Mem.aA l2 (c1 0 u rfl);have C1:=Mem.aA l2 (c1 1 u2 rfl);have HVS:=zh (ML (c2 0 _ rfl) (c2 1 _ rfl) f1 f2);have hcnt:vcnt (n+1) (stV c)≤1048576:=by rw[IW];exact t1
 have HVw:=zh (fun w' (h:m2.inn w')=>nN u u2 c s m2 n w' h f1 f2 hs);obtain⟨a1,e1,rfl,p1,q1,k1⟩:=f1;obtain⟨a2,e2,rfl,p2,q2,k2⟩:=f2;unfold maxLen at q1 q2;have HK:=zh (zi k1 k2);have HC:=zh (zi C0 C1);have hO3:=hO2.al zcV 33;simp only[bB] at hO3;have HO:=zh hO3;clear l1 l2 l12 c1 c2 hO1 hO2 hO3 k1 k2 h1 h2 htab C0 C1 hs;refine ay fun R hR=>?_
 go_enter Tryz.func11,Tryz.ntmps11
 go_wp2_with (refine aH tyV rfl (.tmp 5) (.tmp 14) rfl (cs:=#[.bool false,.bool false,.bool false,.bool false,.slice none 0 0,.slice none 0 0,.slice none 0 0,.slice none 0 0,.slice (some ⟨w.heap.size+1,0,none⟩) 1 1]) rfl rfl rfl rfl (by simp[Value.oneCell']) HO.out.obj ?_)
 intro w3 ob3 hg3;have hO4:=HO.out.setObj ob3 hg3;have l3:=Mem.gZ (w:=w3) hO4.gq;obtain⟨D9,hD9⟩:∃D9,D9=nine (stV c) (stSl (w.heap.size+1)):=⟨_,rfl⟩;have c9:∀j u,D9[j]?=some u→(m2.add w3 (w.heap.size+1+1)).cell (w.heap.size+1+1) j=some u:=fun j u hj=>Mem.dw hO4.obj (by rw[hD9] at hj;have hj2:([.bool false,.bool false,.bool false,.bool false,.slice none 0 0,.slice none 0 0,.slice none 0 0,.slice none 0 0,.slice (some ⟨w.heap.size+1,0,none⟩) 1 1]:List Value)[j]?=some u:=hj;simpa using hj2);have HO4:=zh hO4.fZ;have HL3:=zh l3;generalize m2.add w3 _=m3 at *
 have HC9:=zh c9;have HV:=zh (HVS.out.le HL3.out);have HT:=zh (HT2.out.le HL3.out);have HN9:=zh hD9;have hl9:D9.length=9:=by rw[hD9];rfl
 have HS:=zh (fun (w':World) (h:m3.inn w')=>fH (n+1) (stV c) (stSl (w.heap.size+1)) m3 w' h HV.out hcnt);have HP:=zh (fun (w':World) (h:m3.inn w')=>fB (stV c) (stSl (w.heap.size+1)) m3 (n+1) w' h HV.out);have hSd:=fun (w':World) (h:m3.inn w') (f:FewV (n+1) (stV c))=>kX (stV c,stV c) (stSl (w.heap.size+1)) (stSl (w.heap.size+1)) m3 (n+1) w' h HT.out HV.out HV.out f f hcnt hcnt;simp only[Bool.and_self] at hSd;have HSd:=zh hSd;have HCN:=zh hcnt;unfold Vl.val at HS HP;rw[← hD9] at HS HP;clear HO hO4 l3 c9 hD9 ob3 hg3 hSd hcnt HVS HT2
 go_wp2_with (refine ae tyV rfl (.tmp 5) rfl rfl D9 hl9 (fun j u hj=>by rw[Nat.zero_add];exact Mem.aj HO4.out.inn (HC9.out j u hj)) ?_)
 refine (HS.out _ HO4.out.inn).mono ?_;rintro e w4 ⟨rfl,hb4⟩;have HO5:=zh (HO4.out.move hb4);clear HO4 hb4 HS;by_cases hsm:gD (n+1) (stV c)=true
 case neg=>
  rw[Bool.eq_false_iff.2 hsm];clear hsm
  go_wp2_with fail
  refine (bv m3 _ HO5.out.inn HT.out).mono ?_;rintro e w2 ⟨rfl,hb2⟩;have HB:=zh (HO5.out.move hb2).below;clear HO5 hb2;go_wp2;exact hR.out _ _ ⟨rfl,HB.out⟩
 rw[hsm];have HCK:=zh (show dG (n+1) (eU (accB s) c s).1 from DV hsm);have HF:=zh (iV hsm).few;have HB6:=zh (zi (HF.out.1.f c (by simp[stV,Vl.structs])) (HF.out.1.k c (by simp[stV,Vl.structs])));clear hsm;by_cases hz:s.size≤60
 case neg=>
  have hd:decide (60<(s.size:Int))=true:=decide_eq_true zo
  go_wp2_with fail
  refine (bv m3 _ HO5.out.inn HT.out).mono ?_;rintro e w2 ⟨rfl,hb2⟩;have HB:=zh (HO5.out.move hb2).below;clear HO5 hb2;go_wp2;exact hR.out _ _ ⟨rfl,HB.out⟩
 have hd:decide (60<(s.size:Int))=false:=decide_eq_false zo
 go_wp2_with (refine ae tyV rfl (.tmp 5) rfl rfl D9 hl9 (fun j u hj=>by rw[Nat.zero_add];exact Mem.aj HO5.out.inn (HC9.out j u hj)) ?_)
 refine (HP.out _ HO5.out.inn).mono ?_;rintro e w5 ⟨rfl,hb5⟩;have HO6:=zh (HO5.out.move hb5);clear HO5 hb5 HP hd
 go_wp2_with fail
 refine (HSd.out _ HO6.out.inn HF.out).mono ?_;rintro e w6 ⟨rfl,hb6⟩;have HO7:=zh (HO6.out.move hb6);clear HO6 hb6 HSd;cases hq:tf (SndV (stV c))
 case false=>
  clear hq
  go_wp2_with fail
  refine (bv m3 _ HO7.out.inn HT.out).mono ?_;rintro e w2 ⟨rfl,hb2⟩;have HB:=zh (HO7.out.move hb2).below;clear HO7 hb2;go_wp2;exact hR.out _ _ ⟨rfl,HB.out⟩
 have HLAB:=zh (GH (s:=s) hq);clear hq;have HO8:=zh (HO7.out.al zcD 35);clear HO7;have x0:=Mem.aj HO8.out.tail.inn (Mem.aA HL3.out HC.out.1);have x1:=Mem.aj HO8.out.tail.inn (Mem.aA HL3.out HC.out.2);have y0:=Mem.av HO8.out.tail.inn (Mem.aA HL3.out HC.out.1);go_wp2;refine au [1,2,6,7,8] (fun q vs wr=>∃(i k:Nat) (d:Vd) (x y:Sl),i≤c.1.length∧k≤i∧q=c.1.length - i∧vs=[.string s,.pointer (some ⟨w.heap.size,0,none⟩),.int .i64 (k:Int),.pointer (some ⟨w6.heap.size,0,none⟩),.int .i64 (i:Int)] ∧
  Fnd (fun f:Fd=>decide (f.1.1=s)) (·.2) c.1 i 0 k (botV,botV) d∧VAt m3 (n+1) x d.1∧VAt m3 (n+1) y d.2∧Own w m wr m3 [.obj w6.heap.size 35 (dcs d x y).toArray]) ?_ ?_
 ·exact⟨_,0,0,(botV,botV),bq,bq,Nat.zero_le _,Nat.zero_le _,rfl,rfl,.start,(VAt.leaf m3 false).mono zo,(VAt.leaf m3 false).mono zo,HO8.out⟩
 clear HO8 x0 x1 y0;rintro X z q vs wr hX - ⟨i,k,d,x,y,hi,hk,rfl,rfl,hP,hx,hy,hO⟩;simp[litL,lk];have g0:=Mem.aj hO.inn (Mem.aA HL3.out HC.out.1);have g1:=Mem.aj hO.inn (Mem.aA HL3.out HC.out.2);have gl:=Mem.av hO.inn (Mem.aA HL3.out HC.out.1);have HPP:=zh hP;have HXY:=zh (zi hx hy);clear hP hx hy;by_cases hlt:i<c.1.length
 ·obtain⟨b,off,rfl,h4⟩:=HK.out.1 (by intro h;simp[h] at hlt);have hi2:=Mem.cz HL3.out hO.inn;have hfs:=(h4 i hlt).s;obtain⟨x',y',hc,hx',hy'⟩:=(h4 i hlt).v.cells;have hl2:(dcs (c.1[i]).2 x' y').length=18:=rfl;have h1d:=cK hx' hy';have HCC:=zh (fun (w':World) (h:m2.inn w') j u hj=>Mem.aj h (hc j u hj));have z1:=Mem.aj hi2 hfs;have zl:=Mem.av hi2 hfs;have HOK:=zh (zi (hx'.le HL3.out).succ (hy'.le HL3.out).succ);have HY:=zh (show c.1[i].1.1=s→_ from fun e=>HPP.out.yes hlt (decide_eq_true e));have HN:=zh (show ¬ c.1[i].1.1=s→_ from fun e=>HPP.out.no hlt (decide_eq_false e));have HO:=zh hO;have HI2:=zh hi2;clear hO h4 hc hx' hy' hi2;by_cases he:c.1[i].1.1=s
  ·have hd:(c.1[i].1.1.toList==s.toList)=true:=pX he;have HY2:=zh (HY.out he);clear HY HN he;generalize c.1[i].1.1=lab at *
   generalize hDD:dcs (c.1[i]).2 x' y'=D at *
   have HDD:=zh hDD;clear hDD
   go_wp2_with (first
    | refine ae tyD rfl (.tmp 51) rfl rfl D hl2 (HCC.out _ HI2.out) ?_
    | refine aH tyD rfl (.tmp 7) (.tmp 52) rfl (cs:=D.toArray) rfl rfl rfl (by simpa using hl2) (fun u hu=>h1d u (by simpa using hu)) HO.out.obj ?_)
   intro w' ho hg;have HF2:=zh (HO.out.setObj ho hg);clear HO HI2 hg ho g0 g1 gl z1 zl;have g0:=Mem.aj HF2.out.tail.inn (Mem.aA HL3.out HC.out.1);have gl:=Mem.av HF2.out.tail.inn (Mem.aA HL3.out HC.out.1);go_wp2;exact hX.out _ _ _ zo rfl ⟨i+1,k+1,(c.1[i]).2,x',y',zo,zo,rfl,rfl,HY2.out,HOK.out.1,HOK.out.2,by rw[HDD.out];exact HF2.out⟩
  ·have hd:(c.1[i].1.1.toList==s.toList)=false:=pY he;have HN2:=zh (HN.out he);clear HY HN he;generalize c.1[i].1.1=lab at *
   go_wp2;exact hX.out _ _ _ zo rfl ⟨i+1,k,d,x,y,zo,zo,rfl,rfl,HN2.out,HXY.out.1,HXY.out.2,HO.out⟩
 obtain rfl:i=c.1.length:=zo;have HP1:=zh HPP.out.all;have HO:=zh hO;clear hO hX HPP;go_wp2;refine au [1,2,6,7,9] (fun q vs wr=>∃(i k':Nat) (d':Vd) (x y:Sl),i≤c.2.length∧k'≤k+i∧q=c.2.length - i∧vs=[.string s,.pointer (some ⟨w.heap.size,0,none⟩),.int .i64 (k':Int),.pointer (some ⟨w6.heap.size,0,none⟩),.int .i64 (i:Int)] ∧
  Fnd (fun f:Kl=>accB s f.1) (·.2) c.2 i k k' d d'∧VAt m3 (n+1) x d'.1∧VAt m3 (n+1) y d'.2∧Own w m wr m3 [.obj w6.heap.size 35 (dcs d' x y).toArray]) ?_ ?_
 ·exact⟨_,0,k,d,x,y,Nat.zero_le _,Nat.le_refl _,rfl,rfl,.start,HXY.out.1,HXY.out.2,HO.out⟩
 clear HO HXY g0 g1 gl;rintro X z q vs wr hX - ⟨i,k',d',x,y,hi,hk',rfl,rfl,hP,hx,hy,hO⟩;simp[litL,lk];have g0:=Mem.aj hO.inn (Mem.aA HL3.out HC.out.1);have g1:=Mem.aj hO.inn (Mem.aA HL3.out HC.out.2);have gl:=Mem.av hO.inn (Mem.aA HL3.out HC.out.1);have HPP:=zh hP;have HXY:=zh (zi hx hy);clear hP hx hy;by_cases hlt:i<c.2.length
 ·obtain⟨b,off,rfl,h4⟩:=HK.out.2 (by intro h;simp[h] at hlt);have hi2:=Mem.cz HL3.out hO.inn;obtain⟨kc,hkc,hks⟩:=(h4 i hlt).s;obtain⟨x',y',hc,hx',hy'⟩:=(h4 i hlt).v.cells;have hl2:(dcs (c.2[i]).2 x' y').length=18:=rfl;have h1d:=cK hx' hy';have HCC:=zh (fun (w':World) (h:m2.inn w') j u hj=>Mem.aj h (hc j u hj));have z1:=Mem.aj hi2 hkc;have zl:=Mem.av hi2 hkc;have HOK:=zh (zi (hx'.le HL3.out).succ (hy'.le HL3.out).succ);have HY:=zh (show accB s c.2[i].1=true→_ from fun e=>HPP.out.yes hlt e);have HN:=zh (show accB s c.2[i].1=false→_ from fun e=>HPP.out.no hlt e);have HAC:=zh (mV kc c.2[i].1 s m2 wr hi2 hks HSZ.out);rw[show (tf (WF c.2[i].1)&&aF c.2[i].1 0 s.data.toList)=accB s c.2[i].1 from rfl] at HAC;obtain⟨ta,tc,rfl,-⟩:=hks;have HO:=zh hO;clear hO h4 hc hx' hy' hi2 hkc;cases hab:accB s c.2[i].1
  ·have HN2:=zh (HN.out hab);rw[hab] at HAC;clear HY HN hab
   go_wp2_with (go_at_call 35;refine HAC.out.mono ?_;rintro e w2 ⟨rfl,hb2⟩)
   exact hX.out _ _ _ zo rfl ⟨i+1,k',d',x,y,zo,zo,rfl,rfl,HN2.out,HXY.out.1,HXY.out.2,HO.out.move hb2⟩
  ·have hk4:k'≤1000000000000000:=by have h6:=HB6.out;omega
   have HY2:=zh (HY.out hab);rw[hab] at HAC;clear HY HN hab;generalize hDD:dcs (c.2[i]).2 x' y'=D at *
   have HDD:=zh hDD;clear hDD
   go_wp2_with (first
    | (go_at_call 35;refine HAC.out.mono ?_;rintro e w2 ⟨rfl,hb2⟩;have HO3:=zh (HO.out.move hb2);have y1:=Mem.aj HO3.out.inn (Mem.aA HL3.out HC.out.2);have y2:=Mem.av HO3.out.inn (Mem.aA HL3.out HC.out.2);have xl2:=Nat.lt_of_lt_of_le zl hb2.size;have HI3:=zh (Mem.cz HL3.out HO3.out.inn))
    | refine ae tyD rfl (.tmp 74) rfl rfl D hl2 (HCC.out _ HI3.out) ?_
    | (refine aH tyD rfl (.tmp 7) (.tmp 75) rfl (cs:=D.toArray) rfl rfl rfl (by simpa using hl2) (fun u hu=>h1d u (by simpa using hu)) HO3.out.obj ?_;intro w' ho hg;have HF2:=zh (HO3.out.setObj ho hg)))
   exact hX.out _ _ _ zo rfl ⟨i+1,k'+1,(c.2[i]).2,x',y',zo,zo,rfl,rfl,HY2.out,HOK.out.1,HOK.out.2,by rw[HDD.out];exact HF2.out⟩
 obtain rfl:i=c.2.length:=zo;have hk1:=HP1.out;have hk2:=HPP.out.all;obtain rfl:k'=1:=by have:=HLAB.out;omega
 have hdd:d'=(eU (accB s) c s).1:=by rw[hk2.2,hk1.2];exact GI HLAB.out
 subst hdd;have HO:=zh hO.fZ;have hle:=Mem.gZ (w:=wr) hO.gq;have hcD:∀j u,(dcs (eU (accB s) c s).1 x y)[j]?=some u→(m3.add wr w6.heap.size).cell w6.heap.size j=some u:=fun j u hj=>Mem.dw hO.obj (by simpa using hj);generalize m3.add wr _=m4 at *
 have HL4:=zh hle;have HCD:=zh hcD;have HVw2:=zh (HVw.out wr (Mem.cz HL3.out (Mem.cz HL4.out HO.out.inn)));clear hO hX HPP HP1 hk1 hk2 hle hcD hk hk' hi HVw
 go_wp2_with fail
 refine HVw2.out.mono ?_;rintro e w8 ⟨⟨x',y',rfl,hx',hy'⟩,hb8⟩;have hO9:=(HO.out.move hb8).al zcD 35;have h1d:=cK hx' hy';have l34:=Mem.le_trans HL3.out HL4.out;have HSM:=zh (fun (w':World) (M:Mem) (hM:m4.le M) (h:M.inn w')=>@fI (n+1) (eU (accB s) c s).1 (eU (accB s) c s).1 x y x' y' M w' h (HXY.out.1.le (Mem.le_trans HL4.out hM)) (HXY.out.2.le (Mem.le_trans HL4.out hM)) (hx'.le (Mem.le_trans l34 hM)) (hy'.le (Mem.le_trans l34 hM)) HCK.out HCK.out);have hl1:(dcs (eU (accB s) c s).1 x y).length=18:=rfl;have hl2:(dcs (eU (accB s) c s).1 x' y').length=18:=rfl;unfold bz at *
 clear hx' hy' HXY hb8 HO HVw2 g0 g1 gl;generalize dcs (eU (accB s) c s).1 x y=D at *
 generalize dcs (eU (accB s) c s).1 x' y'=E at *
 have HO9:=zh hO9;clear hO9
 go_wp2_with (refine aH tyD rfl (.tmp 10) (.tmp 80) rfl (cs:=E.toArray) rfl rfl rfl (by simpa using hl2) (fun u hu=>h1d u (by simpa using hu)) HO9.out.obj ?_)
 intro w9 ho hg;have hO10:=HO9.out.setObj ho hg;have q1:∀j u,D[j]?=some u→w9.cell? ⟨w6.heap.size,0+j,none⟩=some u:=fun j u hj=>by rw[Nat.zero_add];exact Mem.aj hO10.tail.inn (HCD.out j u hj)
 have q2:∀j u,E[j]?=some u→w9.cell? ⟨w8.heap.size,0+j,none⟩=some u:=fun j u hj=>ho.all j u hj;have HQ:=zh (zi q1 q2);have HO10:=zh hO10.tail;have HS2:=zh (HSM.out w9 m4 (Mem.le_refl _) HO10.out.inn);clear HO9 hO10 q1 q2 ho hg HSM;generalize (eU (accB s) c s)=rr at *
 go_wp2_with (first | refine ae tyD rfl (.tmp 7) rfl rfl D hl1 HQ.out.1 ?_ | refine ae tyD rfl (.tmp 10) rfl rfl E hl2 HQ.out.2 ?_)
 refine HS2.out.mono ?_;rintro e w10 ⟨rfl,hb10⟩;rw[aI trivial];have HO11:=zh (HO10.out.move hb10);clear HO10 hb10 HS2 HQ
 go_wp2_with fail
 refine (bv m4 _ HO11.out.inn (HT.out.le HL4.out)).mono ?_;rintro e w11 ⟨rfl,hb11⟩;have HB:=zh (HO11.out.move hb11).below;clear HO11 hb11;go_wp2;exact hR.out _ _ ⟨rfl,HB.out⟩
end Cl
