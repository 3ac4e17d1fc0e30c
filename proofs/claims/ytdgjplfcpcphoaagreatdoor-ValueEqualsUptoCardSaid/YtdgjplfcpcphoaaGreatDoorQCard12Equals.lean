/- ValueEquals. For every input of bulk at most 1048576 the law returns true, and each argument reads afterwards as it did before. Conditions: those of the row, none of ours. -/
import Derived.WalkKit
import Derived.Deep.QuietTactic
import Derived.Test.YtdgjplfcpcphoaaGreatDoorProg
import Derived.Deep.Slices
import Derived.Lib.SmallJoins
import Derived.ChangeMaps5
import Derived.Carry
import Derived.KernelRfl
import Derived.ChangeArms
import Derived.BigQuiet
import Derived.Deep.Cut
import Derived.Laws.StructEq
import Derived.Lib.AppendStr
import Derived.Lib.Builder
import Derived.Lib.Hide
import Derived.Lib.ItoaLen
import Derived.Maps.OwnOps
import Derived.Maps.OwnSet
import Derived.OrdersHeld
import Derived.Outline
import Derived.StillTailTactics
import Derived.StringKeys
import Derived.WalkLawsBesides
import Derived.WalkSpells
import Derived.Deep.RegionHeld
import Derived.Shelf.SlSortCmp.WholeK
import Derived.Laws.EntriesVeiled
import Derived.Laws.CopyOwn
import Derived.RegionTactic
import Derived.RangeFuncNested
import Derived.RangeFuncBound
import Derived.RangeFuncCalls
import Derived.RangeFuncLeaves
import Derived.OwnWalkIn
import Derived.TacticsInMore
import Derived.LoopNIn
import Derived.LoopIn
import Derived.Shelf.Strings.Builder1
import Derived.Shelf.Small.Wraps
import Derived.Shelf.LaysM
import Derived.Shelf.Strconv.Itoa3
import Derived.Test.YtdgjplfcpcphoaaGreatDoorRows
import Derived.Laws.CopyRow
import Derived.Laws.Tables
import Derived.BigFrame
import Derived.ChangeAlike
import Derived.Shelf.Spec.SlicesGrow
import Derived.Laws.BytesArg
import Derived.Shelf.Strconv.AppendIntPublic10
import Derived.WalkMore
import Derived.Test.YtdgjplfcpcphoaaGreatDoorCards
import Derived.Test.YtdgjplfcpcphoaaGreatDoorTie
import Derived.ProofKit
import Derived.OpenShut
import Derived.Deep.DeepHandedRow
import Derived.Lib.LaidTab
import Derived.Stop.LaidErr
import Derived.Test.YtdgjplfcpcphoaaGreatDoorZz
import Derived.Test.YtdgjplfcpcphoaaGreatDoorPkX3
import Derived.Test.YtdgjplfcpcphoaaGreatDoorPkX1
import Derived.Test.YtdgjplfcpcphoaaGreatDoorPkX2
import Derived.Test.YtdgjplfcpcphoaaGreatDoorPkX4
import Derived.Test.YtdgjplfcpcphoaaGreatDoorPkX23
import Derived.Test.YtdgjplfcpcphoaaGreatDoorPkX7
import Derived.Test.YtdgjplfcpcphoaaGreatDoorPkX5
import Derived.Test.YtdgjplfcpcphoaaGreatDoorPkX8
import Derived.Test.YtdgjplfcpcphoaaGreatDoorPkX6
import Derived.Test.YtdgjplfcpcphoaaGreatDoorPkX10
import Derived.Test.YtdgjplfcpcphoaaGreatDoorPkX9
import Derived.Test.YtdgjplfcpcphoaaGreatDoorPkX11
import Derived.Test.YtdgjplfcpcphoaaGreatDoorPkX25
import Derived.Test.YtdgjplfcpcphoaaGreatDoorPkX12
import Derived.Test.YtdgjplfcpcphoaaGreatDoorPkX14
import Derived.Test.YtdgjplfcpcphoaaGreatDoorPkX13
import Derived.Test.YtdgjplfcpcphoaaGreatDoorPkX15
import Derived.Test.YtdgjplfcpcphoaaGreatDoorPkX24
import Derived.Test.YtdgjplfcpcphoaaGreatDoorPkX16
import Derived.Test.YtdgjplfcpcphoaaGreatDoorPkX17
import Derived.Test.YtdgjplfcpcphoaaGreatDoorPkX19
import Derived.Test.YtdgjplfcpcphoaaGreatDoorPkX18
import Derived.Test.YtdgjplfcpcphoaaGreatDoorPkX21
import Derived.Test.YtdgjplfcpcphoaaGreatDoorPkX20
import Derived.Test.YtdgjplfcpcphoaaGreatDoorPkX22
import Derived.Test.YtdgjplfcpcphoaaGreatDoorPQCard12Equals
set_option maxRecDepth 100000
set_option maxHeartbeats 16000000
namespace Go.Proofs.YtdgjplfcpcphoaaGreatDoor
open Go Go.RowKit Go.Proofs Cl
theorem EY {H:Type} {n:Nat} {A:Vd} {d:DataW H} (h:cntD n A≤Rows.uptoBulk d) (k:Rows.uptoBulk d≤1048576):vcnt n A.1≤1048576∧vcnt n A.2≤1048576:=by
 unfold cntD at h;omega
end Go.Proofs.YtdgjplfcpcphoaaGreatDoor
namespace Cl
open Go Go.RowKit Go.Proofs
theorem ll (n:Nat) (d:Vd) (x y:Sl) (m:Mem) (w:World) (hm:m.inn w) (h1:VAt m n x d.1) (h2:VAt m n y d.2) (hc:vcnt n d.1≤1048576) (hc2:vcnt n d.2≤1048576) :
 Calls Tryz.prog 13 #[bz d x y] w fun e w'=>e=.returned (.bool (gD n d.1&&gD n d.2))∧Below w.heap.size w w':=by
 have hO:=(Own.start hm).al (dcs d x y).toArray 35;have HC:=zh (fH n d.1 x m _ hO.inn h1 hc);have HF:=zh (fun w' (h:m.inn w')=>fH n d.2 y m w' h h2 hc2);have hN:(nine d.1 x).length=9:=rfl;have hN2:(nine d.2 y).length=9:=rfl;have HD:=zh (zi (fun j u=>@lK d x y j u) (fun j u=>@lJ d x y j u));have HO:=zh hO;unfold Vl.val bz at *
 generalize nine d.1 x=N at *
 generalize nine d.2 y=N2 at *
 generalize dcs d x y=D at *
 clear hO h1 h2;have q0:=HO.out.obj.sub (o:=0) (cs:=N) fun j u hj=>by simpa using HD.out.1 j u hj
 generalize gD n d.1=s1 at *
 generalize gD n d.2=s2 at *
 refine ay fun R hR=>?_
 go_enter Tryz.func13,Tryz.ntmps13
 go_wp2_with (refine ae tyV rfl (.tmp 3) rfl rfl N hN q0 ?_)
 refine HC.out.mono ?_;rintro e w1 ⟨rfl,hb1⟩;have HO1:=zh (HO.out.move hb1);have HF1:=zh (HF.out w1 HO1.out.inn);have q1:=HO1.out.obj.sub (o:=9) (cs:=N2) fun j u hj=>by simpa using HD.out.2 j u hj
 clear HO HC HF hb1 q0;cases s1
 ·have HB:=zh HO1.out.below;clear HO1 HF1 q1;go_wp2;exact hR.out _ _ ⟨rfl,HB.out⟩
 ·go_wp2_with (refine ae tyV rfl (.tmp 7) rfl rfl N2 hN2 q1 ?_)
  refine HF1.out.mono ?_;rintro e w2 ⟨rfl,hb2⟩;have HB:=zh (HO1.out.move hb2).below;clear HO1 HF1 hb2 q1;go_wp2;exact hR.out _ _ ⟨rfl,HB.out⟩
theorem xW (u:Value) (l:List Fd) (m:Mem) (n:Nat) (w:World) (hm:m.inn w) (h:gI (VAt m n) m u l) :
 Calls Tryz.prog 99 #[u] w fun e w'=>e=.returned (.bool (tf (dE l)))∧Below w.heap.size w w':=by
 obtain⟨a,c,rfl,p1,q1,k1⟩:=h;unfold maxLen at q1;have HK:=zh k1;have HO:=zh (Own.start hm);clear k1;refine ay fun R hR=>?_
 go_enter Tryz.func99,Tryz.ntmps99
 go_wp2;refine au [0,3] (fun q vs wr=>∃(i:Nat),i≤l.length∧q=l.length - i∧vs=[.slice a l.length c,.int .i64 (i:Int)]∧(∀j (hj:j<l.length),j<i→l[j].1.2=1∨l[j].1.2=2)∧(∀j (hj:j+1<l.length),j+1<i→bLt l[j].1.1 (l[j+1]).1.1=true) ∧
  Own w m wr m []) ?_ ?_
 ·exact⟨_,0,Nat.zero_le _,rfl,rfl,fun j hj h=>absurd h (Nat.not_lt_zero _),fun j hj h=>absurd h (Nat.not_lt_zero _),HO.out⟩
 clear HO;rintro X z q vs wr hX - ⟨i,hi,rfl,rfl,hA,hB,hO⟩;simp[litL,lk];by_cases hlt:i<l.length
 case neg=>
  obtain rfl:i=l.length:=zo;have HR:=zh (show dE l from ⟨fun f hf=>by obtain⟨j,hj,rfl⟩:=List.getElem_of_mem hf;exact hA j hj hj,fun j hj=>hB j hj hj⟩);have HB:=zh hO.below;clear hA hB hO hX;go_wp2;exact hR.out _ _ ⟨by rw[aI HR.out] <;> rfl,HB.out⟩
 obtain⟨b,off,rfl,h4⟩:=HK.out (by intro h;simp[h] at hlt);have g0:=Mem.aj hO.inn (h4 i hlt).s;have g1:=Mem.aj hO.inn (h4 i hlt).p;have gl:=Mem.av hO.inn (h4 i hlt).s;have HPW:=zh (fun j (hj:j<l.length)=>Mem.aj hO.inn (h4 j hj).s);have HAB:=zh (zi hA hB);have HO:=zh (hO.drN 1);have HN1:=zh (show (¬ (l[i].1.2=1∨l[i].1.2=2))→¬ dE l from fun h k=>h (k.pres _ (List.getElem_mem hlt)));generalize hpr:l[i].1.2=pr at *
 generalize hlab:l[i].1.1=lab at *
 have HPR:=zh (zi hpr hlab);clear hO h4 hA hB hpr hlab;by_cases hok:pr=1∨pr=2
 case neg=>
  have hd1:(pr != 1)=true:=bne_iff_ne.2 fun e=>hok (.inl e);have hd2:(pr != 2)=true:=bne_iff_ne.2 fun e=>hok (.inr e);have HR:=zh (HN1.out hok);have HB:=zh HO.out.below;clear HO HPW HN1 hok hX HAB;go_wp2
  go_region
  all_goals go_wp2
  all_goals exact hR.out _ _ ⟨by rw[az HR.out] <;> rfl,HB.out⟩
 have hpres:∀j (hj:j<l.length),j<i+1→l[j].1.2=1∨l[j].1.2=2:=fun j hj h=>by
  by_cases e:j=i
  ·subst e;rw[HPR.out.1];exact hok
  ·exact HAB.out.1 j hj zo
 have HPS:=zh hpres;clear hpres HN1;rcases Nat.eq_zero_or_pos i with rfl | hip
 ·have HAS:=zh (show ∀j (hj:j+1<l.length),j+1<0+1→bLt l[j].1.1 (l[j+1]).1.1=true from fun j hj h=>zo);clear HAB HPR HPW;rcases hok with rfl | rfl
  all_goals
   go_wp2
   go_region
   all_goals go_wp2
   all_goals exact hX.out _ _ _ zo rfl ⟨0+1,zo,rfl,rfl,HPS.out,HAS.out,HO.out⟩
 obtain⟨p,rfl⟩:∃p,i=p+1:=⟨i - 1,zo⟩;have y1:=HPW.out p zo;cases hb:bLt l[p].1.1 lab
 ·have HR:=zh (show ¬ dE l from fun k=>by
   have:=k.asc p zo;rw[HPR.out.2,hb] at this;cases this)
  have HB:=zh HO.out.below;unfold bLt at hb;rw[← ByteArray.toList_eq,← ByteArray.toList_eq] at hb;generalize l[p].1.1=lab2 at *
  clear HAB HPR HPW HO HPS hX;rcases hok with rfl | rfl
  all_goals
   go_wp2
   go_region
   all_goals go_wp2
   all_goals exact hR.out _ _ ⟨by rw[az HR.out] <;> rfl,HB.out⟩
 ·have HAS:=zh (show ∀j (hj:j+1<l.length),j+1<p+1+1→bLt l[j].1.1 (l[j+1]).1.1=true from fun j hj h=>by
   by_cases e:j=p
   ·subst e;rw[HPR.out.2];exact hb
   ·exact HAB.out.2 j hj zo)
  unfold bLt at hb;rw[← ByteArray.toList_eq,← ByteArray.toList_eq] at hb;generalize l[p].1.1=lab2 at *
  clear HAB HPR HPW;rcases hok with rfl | rfl
  all_goals
   go_wp2
   go_region
   all_goals go_wp2
   all_goals exact hX.out _ _ _ zo rfl ⟨p+1+1,zo,rfl,rfl,HPS.out,HAS.out,HO.out⟩
def rH (s:List UInt8) (k:Nat):Table:=(List.range k).map fun i=>⟨false,[⟨(s.getD i 0).toNat,(s.getD i 0).toNat,(i+1:Nat)⟩]⟩
theorem Fq (s:List UInt8) (k:Nat):rH s (k+1)=rH s k ++ [⟨false,[⟨(s.getD k 0).toNat,(s.getD k 0).toNat,(k+1:Nat)⟩]⟩]:=by
 simp[rH,List.range_succ]
theorem kR (s:List UInt8) (k:Nat):(rH s k).length=k:=by simp[rH]
theorem Nt {mk:Mem} {w:World} {g:Nat} {t:TypeId} {lo hi:Nat} {to:Int} (h:bD w g t #[.int .u8 lo,.int .u8 hi,.int .i64 to]) (hk:edOk ⟨lo,hi,to⟩):iG (mk.add w g) (.slice (some ⟨g,0,none⟩) 1 1) [⟨lo,hi,to⟩]:=by
 refine ⟨some ⟨g,0,none⟩,1,rfl,zS,by simp[maxLen],fun _=>⟨g,0,rfl,fun i hi=>?_⟩⟩;have:i=0:=by simpa using hi
 subst this;exact⟨Mem.dw h rfl,Mem.dw h rfl,Mem.dw h rfl,hk⟩
theorem Nv (mk:Mem):iG mk (.slice none 0 0) []:=⟨none,0,rfl,zS,by simp[maxLen],fun h=>absurd rfl h⟩
theorem Cx (s:ByteArray) (m:Mem) (w:World) (hm:m.inn w) (hs:s.size≤1000) :
 Calls Tryz.prog 151 #[.string s] w fun e w'=>∃r,e=.returned (.agg #[r])∧Below w.heap.size w w'∧aR (m.grow w w') r (rH s.data.toList s.size ++ [⟨true,[]⟩]):=by
 refine ay fun R hR=>?_
 go_enter Tryz.func151,Tryz.ntmps151
 go_wp2;refine au [0,2,3,4] (fun n vs wr=>∃(k:Nat) (v:Value) (xs:List Value) (mk:Mem),k≤s.size∧n=s.size - k∧vs=[.string s,.pointer (some ⟨w.heap.size,0,none⟩),.pointer (some ⟨w.heap.size+1,0,none⟩),.int .i64 k] ∧
  Own w m wr mk [.obj (w.heap.size+1) 27 #[v],.row v 80 2 k xs,.obj w.heap.size 27 #[.slice none 0 0]]∧kI mk xs (rH s.data.toList k)) ?_ ?_
 ·refine ⟨_,0,.slice none 0 0,[],m,Nat.zero_le _,rfl,rfl,?_,kI.nil m⟩;have:=(((Own.start hm).al #[.slice none 0 0] 27).al #[.slice none 0 0] 27).dI 80 2;simpa using this.swap
 rintro X z n vs wr hX - ⟨k,v,xs,mk,hk,rfl,rfl,hO,hrow⟩;simp[litL,lk];have ho2:=hO.obj;have c1:=ho2.cell (i:=0) (v:=v) rfl;have f1:=ho2.frozen 0;have l1:=ho2.lt;by_cases hlt:k<s.size
 ·go_wp2;have hw1:IntKind.i64.wrap ((k:Int)+1)=(k:Int)+1:=IntWalk.i64_in _ zo;refine fq (fun w'=>bD w' (w.heap.size+1) 27 #[v]) 16 zk ?_;have hS:bD wr.drew (w.heap.size+1) 27 #[v]:=ho2.dr;refine aD 0 rfl zk (fun _ _ _ h=>h) hS (aB rfl fun w' hS'=>by have q:=hS'.cell (i:=0) rfl;go_simp;rfl) ?_;refine aD 1 rfl zk (fun _ _ _ h=>h) hS (aB rfl fun w' hS'=>by have q:=hS'.cell (i:=0) rfl;go_simp;rfl) ?_;refine aD 2 rfl zk (fun _ _ _ h=>h) hS (aB rfl fun w' hS'=>by have q:=hS'.cell (i:=0) rfl;go_simp;rfl) ?_;refine aD 3 rfl zk (fun _ _ _ h=>h) hS (aB rfl fun w' hS'=>by have q:=hS'.cell (i:=0) rfl;go_simp;rfl) ?_;refine aD 4 rfl zk (fun _ _ _ h=>h) hS (aB rfl fun w' hS'=>by have q:=hS'.cell (i:=0) rfl;go_simp;rfl) ?_;refine aD 5 rfl zk (fun _ _ _ h=>h) hS (aB rfl fun w' hS'=>by have q:=hS'.cell (i:=0) rfl;go_simp;rfl) ?_;refine aD 6 rfl zk (fun _ _ _ h=>h) hS (aB rfl fun w' hS'=>by have q:=hS'.cell (i:=0) rfl;go_simp;rfl) ?_;refine aD 7 rfl zk (fun _ _ _ h=>h) hS (aB rfl fun w' hS'=>by have q:=hS'.cell (i:=0) rfl;go_simp;rfl) ?_;refine aD 8 rfl zk (fun _ _ _ h=>h) hS (aB rfl fun w' hS'=>by have q:=hS'.cell (i:=0) rfl;go_simp;rfl) ?_;refine aD 9 rfl zk (fun _ _ _ h=>h) hS (aB rfl fun w' hS'=>by have q:=hS'.cell (i:=0) rfl;go_simp;rfl) ?_;refine aD 10 rfl zk (fun _ _ _ h=>h) hS (aB rfl fun w' hS'=>by have q:=hS'.cell (i:=0) rfl;go_simp;rfl) ?_;refine aT 11 zk (aO rfl rfl (aK (by go_simp;exact⟨rfl,rfl⟩) (andS (ho2.al _).dr fun hS1=>?_)));refine aD 12 rfl zk (fun _ _ _ h=>h) hS1 (aB rfl fun w' hS'=>by have q:=hS'.cell (i:=0) rfl;go_simp;rfl) ?_;refine aT 13 zk (aO rfl rfl (aK (by go_simp;exact⟨rfl,rfl⟩) (andS ((ho2.al _).al _).dr fun hS2=>?_)));go_simp;have hO2:=((hO.al #[Value.int IntKind.u8 s[k].toNat,Value.int IntKind.u8 s[k].toNat,Value.int IntKind.i64 (k+1)] 104).al #[Value.bool false,Value.slice (some ⟨wr.heap.size,0,none⟩) 1 1] 80).dr;rw[show (wr.alloc (.cells #[Value.int IntKind.u8 s[k].toNat,Value.int IntKind.u8 s[k].toNat,Value.int IntKind.i64 (k+1)] 104)).heap.size=wr.heap.size+1 by simp] at hO2;have hO3:=hO2.tail.fZ;have hed:=Nt (mk:=mk) (lo:=s[k].toNat) (hi:=s[k].toNat) (to:=(k:Int)+1) hO2.tail.obj ⟨s[k].toNat_lt,s[k].toNat_lt,by show _≤(k:Int)+1;omega,by show (k:Int)+1≤_;omega⟩;have hf:=hO2.tail.gq;refine aT 14 zk (aO rfl rfl (eH lY (.tmp 12) (.tmp 24) rfl v k xs rfl hO3.swap.row ⟨wr.heap.size+1,0,none⟩ 1 1 [.bool false,.slice (some ⟨wr.heap.size,0,none⟩) 1 1] rfl rfl (hO2.obj.news rfl) (by simp[Value.oneCell']) (by unfold maxLen;omega) zo (fun va vc w3 hown3 hgrow hrow3=>?_)));have hO4:=hO3.swap.app hown3 hgrow hrow3 (Nat.le_refl _);refine andS hO4.swap.obj fun hS3=>?_;have f3:=hS3.frozen 0;have c3:=hS3.cell (i:=0) rfl;refine aD 15 rfl zk (fun _ _ _ h=>h) hS3 (aB rfl fun w' hS'=>by have q:=hS'.cell (i:=0) rfl;go_simp;rfl) ?_;refine aT 16 zk (aO rfl rfl (iM (by go_simp;rfl) (lN rfl ?_)));refine fw zk ?_ _;have hO5:=hO4.swap.set 0 (.slice va (k+1) vc);have hrow5:=(hrow.mono (Mem.gZ hf)).push (s:=⟨false,[⟨s[k].toNat,s[k].toNat,(k+1:Nat)⟩]⟩) hed;have Hfin:=zh (zi hO5 hrow5);clear hO5 hrow5 hO4 hO3 hO2 hO hed hf hown3 hgrow hrow3 hS hS1 hS2 hS3 f3 c3 ho2 c1 f1;go_wp2;refine hX.out _ _ _ zo rfl ⟨k+1,_,_,_,zo,rfl,rfl,Hfin.out.1,?_⟩;have hg:=Hfin.out.2;rw[Fq];have e:s.data.toList.getD k 0=s[k]:=by
   rw[List.getD_eq_getElem?_getD];have:s.data.toList[k]?=some s[k]:=by
    rw[List.getElem?_eq_getElem (by simpa using hlt)];rfl
   rw[this];rfl
  rw[e];exact hg
 ·obtain rfl:k=s.size:=zo;have hO1:=hO.al #[Value.bool true,Value.slice none 0 0] 80
  go_wp2_with (at_builtin;refine aC lY rfl (.tmp 28) (.tmp 30) rfl v s.size xs rfl (hO1.third).row ⟨wr.heap.size,0,none⟩ 1 1 [.bool true,.slice none 0 0] rfl rfl (hO1.obj.news rfl) (by simp[Value.oneCell']) (by unfold maxLen;omega) zo ?_)
  intro va vc w3 hown3 hgrow hrow3;have hO2:=hO1.third.app hown3 hgrow hrow3 zS;have hS3:=hO2.third.obj;have f3:=hS3.frozen 0;have c3:=hS3.cell (i:=0) rfl;have l3:=hS3.lt;have g3:=hO2.fourth.obj.cell (i:=0) rfl;have g4:=hO2.fourth.obj.frozen 0;have g5:=hO2.fourth.obj.lt;have hO4:=(hO2.third.set 0 (.slice va (s.size+1) vc)).fourth.set 0 (.slice va (s.size+1) vc);have hrow4:=hrow.push (s:=(⟨true,[]⟩:Sn)) (Nv mk);have hO5:=hO4.third.bg;have hln:(rH s.data.toList s.size ++ [(⟨true,[]⟩:Sn)]).length=s.size+1:=by simp[kR]
  have hst:=fD (l:=rH s.data.toList s.size ++ [(⟨true,[]⟩:Sn)]) (by rw[hln];exact hO4.third.row) hrow4 hO4.third.free;have hfin:=bu hO5.done hst;have Hfin:=zh (zi hO5.below hfin);clear hO5 hst hfin hO4 hrow4 hown3 hgrow hrow3 hO2 hO1 hO;go_wp2;refine bodyPost_ret (v:=.agg #[.slice va (s.size+1) vc]) (by simp[results,Tryz.results151,go_sem,g3]) rfl ?_;exact hR.out _ _ ⟨_,rfl,Hfin.out.1,Hfin.out.2⟩
def sU (m:Mem) (v:Value) (l:List Table):Prop:=Mem.mU (fun b o T=>∃u,m.cell b o=some u∧aR m u T) v l
theorem N7 (v v2:Value) (Ls:List Table) (ps:List Int) (b:Nat) (m:Mem) (w:World) (hm:m.inn w) (hv:sU m v Ls) (hp:dA m v2 ps) (hl:Ls.length=ps.length)
 (hr:∀i,i<ps.length → -1≤ps.getD i (-1)∧ps.getD i (-1)<(Ls.getD i []).length) (hb:b<256) :
 Calls Tryz.prog 190 #[v,v2,.int .i64 b] w fun e w'=>e=.returned (.int .i64 (oo Ls ps b Ls.length))∧Below w.heap.size w w':=by
 obtain⟨la,lc,rfl,h1,h2,h3⟩:=hv;obtain⟨pa,pc,rfl,p1,p2,p3⟩:=hp;unfold maxLen at h2 p2;have HL:=zh (zi hl (zi hr hm));have hl':Ls.length≤ps.length:=zo;have H3:=zh h3;have P3:=zh p3;clear hl hr hm h3 p3;refine ay fun R hR=>?_
 go_enter Tryz.func190,Tryz.ntmps190
 go_wp2;refine au [0,1,2,7,8] (fun n vs w2=>∃(k:Nat),k≤Ls.length∧n=Ls.length - k∧vs=[.slice la Ls.length lc,.slice pa ps.length pc,.int .i64 b,.int .i64 (oo Ls ps b k),.int .i64 k]∧Below w.heap.size w w2) ?_ ?_
 ·exact⟨_,0,Nat.zero_le _,rfl,rfl,Below.refl _ _⟩
 rintro X z n vs w2 hX - ⟨k,hk,rfl,rfl,hbw⟩;simp[litL,lk];have hmw:=Mem.bE HL.out.2.2 hbw;have HB:=zh hbw;clear hbw;have hge:=yz Ls ps b k;by_cases hlt:k<Ls.length
 ·obtain⟨gb,go,rfl,hg⟩:=H3.out (by intro h;simp[h] at hlt);obtain⟨qb,qo,rfl,hq⟩:=P3.out (by intro h;rw[h] at hl';simp at hl';simp[hl'] at hlt);obtain⟨u,g1,ua,uc,rfl,g2,g3,g4⟩:=hg k hlt;obtain⟨q1,q2,q3⟩:=hq k zo;have hrk:=HL.out.2.1 k zo;have eL:Ls.getD k []=Ls[k]:=by simp[hlt]
  have hkp:k<ps.length:=zo;have eP:ps.getD k (-1)=ps[k]:=by simp[hkp]
  have hnx:oo Ls ps b (k+1)=cutE b (lI Ls[k] ps[k]) (oo Ls ps b k):=by rw[← eL,← eP];rfl
  rw[eL,eP] at hrk;have HN:=zh hnx;have hgt:=yA (Ls:=Ls) (ps:=ps) hb k;clear hnx eL eP hg hq;have c1:=Mem.aj hmw g1;have c2:=Mem.aj hmw q1;have c3:=Mem.av hmw g1;have c4:=Mem.av hmw q1;generalize Ls[k]=T at *
  generalize ps[k]=p at *
  generalize oo Ls ps b k=o at *
  by_cases hneg:p<0
  ·have hd:decide (p<0)=true:=decide_eq_true hneg;have he:oo Ls ps b (k+1)=o:=by rw[HN.out,lI,if_pos hneg,Ml]
   have HE:=zh he;clear he g4;go_wp2;refine hX.out _ _ _ zo rfl ⟨k+1,zo,rfl,by rw[HE.out];rfl,HB.out⟩
  ·obtain⟨p,rfl⟩:=Int.eq_ofNat_of_zero_le (by omega:0≤p);have hpt:p<T.length:=zo;obtain⟨b',off',rfl,h10⟩:=g4 (by intro h;simp[h] at hpt);obtain⟨-,ve,e2,ea,ec,rfl,e4,e5,e6⟩:=h10 p hpt;have hee:lI T (p:Int)=(T[p]).edges:=by
    have h0':¬ ((p:Int)<0):=zo;simp[lI,h0',hpt]
   rw[hee] at HN;have HN:=zh HN.out;clear hee h10;generalize T[p].edges=es at *
   unfold maxLen at e5 g3;have c5:=Mem.aj hmw e2;have c6:=Mem.av hmw e2;have E6:=zh e6;clear e6 g4;go_wp2
   go_quiet (fail)
   go_wp2;refine au [0,1,2,7,8,9,10] (fun n vs w3=>∃(j:Nat),j≤es.length∧n=es.length - j∧vs=[.slice (some ⟨gb,go,none⟩) Ls.length lc,.slice (some ⟨qb,qo,none⟩) ps.length pc,.int .i64 b,.int .i64 (cutE b (es.take j) o),.int .i64 k,.slice ea es.length ec,.int .i64 j]∧Below w.heap.size w w3) ?_ ?_
   ·exact⟨_,0,Nat.zero_le _,rfl,rfl,below_drewN HB.out _⟩
   clear c1 c2 c3 c4 c5 c6 hmw HB;rintro Y z1 n1 vs1 w3 hY - ⟨j,hj,rfl,rfl,hb3⟩;simp[litL,lk];have hmw:=Mem.bE HL.out.2.2 hb3;have HB:=zh hb3;clear hb3;by_cases hltj:j<es.length
   ·obtain⟨eb,eo,rfl,h10⟩:=E6.out (by intro h;simp[h] at hltj);obtain⟨x1,x2,-,x4,x5,-⟩:=h10 j hltj;have d1:=Mem.aj hmw x1;have d2:=Mem.aj hmw x2;have d3:=Mem.av hmw x1;have hs:=Kv b o hltj;have ho1:=uR b (es.take j) o;have ho2:=Dv (es.take j) o hgt;generalize es[j]=e at *
    generalize cutE b (es.take j) o=o1 at *
    have HSn:=zh hs;clear hs h10;by_cases q1:b<e.lo <;> by_cases q2:b≤e.hi
    all_goals
     have y1:decide ((b:Int)<(e.lo:Int))=decide (b<e.lo):=by simp
     simp only[q1,decide_true,decide_false] at y1;go_wp2;refine hY.out _ _ _ zo rfl ⟨j+1,zo,rfl,?_,HB.out⟩;rw[HSn.out];simp[cutS,q1,q2]
     try omega
   ·obtain rfl:j=es.length:=zo;clear hj;go_wp2;refine hX.out _ _ _ zo rfl ⟨k+1,zo,rfl,by rw[HN.out,List.take_length];rfl,HB.out⟩
 ·obtain rfl:k=Ls.length:=zo;clear hk;go_wp2;exact hR.out _ _ ⟨rfl,HB.out⟩
def nu (v:Vl):Prop:=v.s=dJ∧v.lists=[]∧v.structs=[]
theorem KF (v:Vl):tf (nu v)=(!v.s.nul && !v.s.fal && !v.s.tru&&decide (v.s.i.length=0)&&decide (v.s.f.length=0)&&decide (v.s.t.length=0)&&decide (v.lists.length=0)&&decide (v.structs.length=0)):=by
 have h0:=Es v.s;by_cases h1:v.s=dJ
 ·rw[aI h1] at h0;by_cases h2:v.lists.length=0∧v.structs.length=0
  ·rw[aI (p:=nu v) ⟨h1,List.length_eq_zero_iff.1 h2.1,List.length_eq_zero_iff.1 h2.2⟩,h1,h2.1,h2.2]
   rfl
  ·rw[az (p:=nu v) fun k=>h2 ⟨by rw[k.2.1];rfl,by rw[k.2.2];rfl⟩];by_cases a:v.lists.length=0 <;> by_cases b:v.structs.length=0 <;> simp[a,b]
   exact absurd ⟨a,b⟩ h2
 ·rw[az (p:=nu v) fun k=>h1 k.1];rw[az h1] at h0;by_cases e1:v.s.i.length=0 <;> by_cases e2:v.s.f.length=0 <;> by_cases e3:v.s.t.length=0 <;> simp[e1,e2,e3]
  rw[e1,e2,e3] at h0;cases hn:v.s.nul <;> cases hf:v.s.fal <;> cases ht:v.s.tru <;> simp[hn,hf,ht] at h0 ⊢
theorem zW (v:Vl) (x:Sl) (m:Mem) (n:Nat) (w:World) (hm:m.inn w) (hv:VAt m n x v) :
 Calls Tryz.prog 98 #[v.val x] w fun e w'=>e=.returned (.bool (tf (nu v)))∧Below w.heap.size w w':=by
 have hO:=(Own.start hm).al (nine v x).toArray 33;have HX:=zh (KF v);have HS:=zh (hO.obj.sub (jZ v x));obtain⟨a1,b1,a2,b2,a3,b3,a4,b4,a5,b5,rfl,-⟩:=hv.spell;have hO2:=hO.al #[.bool v.s.nul,.bool v.s.fal,.bool v.s.tru,.slice a1 v.s.i.length b1,.slice a2 v.s.f.length b2,.slice a3 v.s.t.length b3] 29;have HC:=zh (show (nine v ⟨.slice a1 v.s.i.length b1,.slice a2 v.s.f.length b2,.slice a3 v.s.t.length b3,.slice a4 v.lists.length b4,.slice a5 v.structs.length b5⟩).toArray[7]?=some (.slice a4 v.lists.length b4)∧(nine v ⟨.slice a1 v.s.i.length b1,.slice a2 v.s.f.length b2,.slice a3 v.s.t.length b3,.slice a4 v.lists.length b4,.slice a5 v.structs.length b5⟩).toArray[8]?=some (.slice a5 v.structs.length b5) from ⟨rfl,rfl⟩);have c7:=fun o=>(hO.al' o).obj.cell HC.out.1;have c8:=fun o=>(hO.al' o).obj.cell HC.out.2;have cl:=hO.obj.lt;have HB:=zh hO.below;unfold Vl.val;clear hO hO2 hv HC;generalize (nine v _).toArray=N at *
 generalize v.lists.length=l4 at *
 generalize v.structs.length=l5 at *
 generalize v.s.i.length=l1 at *
 generalize v.s.f.length=l2 at *
 generalize v.s.t.length=l3 at *
 generalize v.s.nul=n1 at *
 generalize v.s.fal=n2 at *
 generalize v.s.tru=n3 at *
 refine ay fun R hR=>?_
 go_enter Tryz.func98,Tryz.ntmps98
 go_wp2_with (refine ae tyS rfl (.tmp 4) rfl rfl _ rfl HS.out ?_)
 all_goals refine hR.out _ _ ⟨?_,bO HB.out _⟩
 all_goals rw[HX.out]
 all_goals simp_all
 all_goals (rw[Bool.eq_iff_iff,beq_iff_eq,decide_eq_true_iff];omega)
end Cl
namespace Cl
theorem Ho (Ls:List Table) (ps:List Int) (b:Nat) {j:Nat}:∀{k:Nat},j≤k→oo Ls ps b k≤oo Ls ps b j:=by
 intro k h
 induction h with
 | refl=>exact Nat.le_refl _
 | step _ ih=>exact Nat.le_trans (uR _ _ _) ih
theorem FE {Ls:List Table} {ps:List Int} {b c:Nat} (hl:ps.length=Ls.length) (h1:b≤c) (h2:c<oo Ls ps b Ls.length):dK (Ls.map tabC) ps c=dK (Ls.map tabC) ps b:=by
 unfold dK;apply List.ext_getElem zS;intro i k1 k2;have hi:i<Ls.length:=by simp at k1;omega
 have hp:i<ps.length:=zo;simp only[List.getElem_zipWith,List.getElem_map];show aW Ls[i] ps[i] c=aW Ls[i] ps[i] b;have h3:c<oo Ls ps b (i+1):=Nat.lt_of_lt_of_le h2 (Ho Ls ps b zo);rw[oo,show Ls.getD i []=Ls[i] by simp[List.getD_eq_getElem?_getD,hi],show ps.getD i (-1)=ps[i] by simp[List.getD_eq_getElem?_getD,hp]] at h3;rw[iU,iU,xg _ _ _ h1 h3]
def stepT (Ls:List Table) (v:List Int) (b k:Nat):List Int:=dK ((Ls.map tabC).take k) (v.take k) b
theorem FH (Ls:List Table) (v:List Int) (b:Nat):stepT Ls v b 0=[]:=by simp[stepT,dK]
theorem FI {Ls:List Table} {v:List Int} (b:Nat) {k:Nat} (h1:k<Ls.length) (h2:k<v.length):stepT Ls v b (k+1)=stepT Ls v b k ++ [aW Ls[k] v[k] b]:=by
 unfold stepT dK;rw[List.take_succ_eq_append_getElem (show k<(Ls.map tabC).length by simpa using h1),List.take_succ_eq_append_getElem h2,List.zipWith_append (by simp;omega)];simp[tabC]
theorem IU {Ls:List Table} {v:List Int} (h:v.length=Ls.length) (b:Nat):stepT Ls v b Ls.length=dK (Ls.map tabC) v b:=by
 unfold stepT;rw[show (Ls.map tabC).take Ls.length=Ls.map tabC by rw[← List.length_map (f:=tabC),List.take_length],← h,List.take_length]
theorem JZ (Ls:List Table) (v:List Int):hitT Ls v 0=0:=by simp[hitT,je]
theorem J2 {Ls:List Table} {v:List Int} {k:Nat} (h1:k<Ls.length) (h2:k<v.length):hitT Ls v (k+1)=hitT Ls v k+if dS Ls[k] v[k] then 1 else 0:=by
 unfold hitT;rw[qj (by simpa using h1) h2];simp[tabC]
theorem NH (Ls:List Table) (v:List Int) (k:Nat):hitT Ls v k≤k:=by
 unfold hitT je;refine Nat.le_trans (List.countP_le_length) ?_;simp;omega
theorem LQ {Ls:List Table} {v:List Int} (h:v.length=Ls.length):hitT Ls v Ls.length=je (Ls.map tabC) v:=by
 unfold hitT;rw[show (Ls.map tabC).take Ls.length=Ls.map tabC by rw[← List.length_map (f:=tabC),List.take_length],← h,List.take_length]
theorem BN (Ls:List Table):eu (Ls.map tabC)=List.replicate Ls.length 0:=by rw[eu,List.map_const',List.length_map]
end Cl
namespace Cl
def eZ (s:ByteArray):Table:=rH s.data.toList s.size ++ [⟨true,[]⟩]
theorem BL (s:ByteArray):(eZ s).length=s.size+1:=by simp[eZ,kR]
theorem yV {s:ByteArray} (h:s.size≤40):Lane 40 (tabC (eZ s)):=by
 unfold eZ;have hl:=kR s.data.toList s.size;refine K8 (by rw[List.length_append,hl,List.length_singleton];omega) fun i hi=>?_;have hi2:=hi;rw[List.length_append,hl,List.length_singleton] at hi2;by_cases c:i<s.size
 ·refine .inr ⟨⟨(s.data.toList.getD i 0).toNat,(s.data.toList.getD i 0).toNat,((i+1:Nat):Int)⟩,?_,rfl,by rw[List.length_append,hl,List.length_singleton];omega⟩;rw[List.getElem_append_left (by rw[hl];exact c)];simp[rH]
 ·refine .inl ?_;rw[List.getElem_append_right (by rw[hl];omega)];simp
def mQ (c:St):List Table:=c.2.map (·.1) ++ c.1.map fun f=>eZ f.1.1
theorem L9 {c:St} (hs:∀k∈c.2,Canon k.1∧k.1≠[]) (h1:c.1.length≤6) (h2:c.2.length≤6) (h3:∀f∈c.1,f.1.1.size≤40) (h4:∀k∈c.2,gH k.1) {l:List (List Int)} (hn:l.Nodup) (hl:∀v∈l,gV ((mQ c).map tabC) v):l.length≤1400000000:=by
 obtain⟨p1,p2⟩:=I8 h2 h4;have e:(mQ c).map tabC=(c.2.map fun k:Kl=>tabC k.1) ++ c.1.map fun f:Fd=>tabC (eZ f.1.1):=by rw[mQ,List.map_append,List.map_map,List.map_map];rfl
 rw[e] at hl;have h:=wo (k:=40) (fun x hx=>by
  obtain⟨k,hk,rfl⟩:=List.mem_map.1 hx;exact xN (hs k hk).1 (hs k hk).2) (fun x hx=>by
  obtain⟨f,hf,rfl⟩:=List.mem_map.1 hx;exact yV (h3 f hf)) hn hl
 exact Nat.le_trans h (uw p1 p2 (by rw[List.length_map];exact h1))
theorem Fp (s:ByteArray):eZ s=nJ s.data.toList:=by
 unfold eZ rH nJ;simp
theorem vU (s:ByteArray):nA (fun w=>s.data.toList==w) (eZ s):=by
 rw[Fp];refine (M6 s.data.toList).congr fun w=>?_;rw[Bool.eq_iff_iff,decide_eq_true_iff,beq_iff_eq];exact eq_comm
theorem vT (s:ByteArray):eZ s≠[]:=by simp[eZ]
theorem zK (c:St):Ik c (c.1.map fun f=>eZ f.1.1):=
 ⟨by rw[List.length_map],fun i h1 h2=>by
  rw[List.getElem_map];exact⟨vU _,vT _⟩⟩
theorem Cb {c:St} (h:∀k∈c.2,Canon k.1∧k.1≠[]):qO ((mQ c).map tabC)↔cB c:=
 (IL h (zK c)).trans ⟨fun k=>(iL c).2 ⟨h,k⟩,fun k=>((iL c).1 k).2⟩
theorem IX {c:St} (h:∀k∈c.2,Canon k.1∧k.1≠[]):∀T∈mQ c,Canon T∧T≠[]:=fun T hT=>by
 rcases List.mem_append.1 hT with hT | hT
 ·obtain⟨k,hk,rfl⟩:=List.mem_map.1 hT;exact h k hk
 ·obtain⟨f,hf,rfl⟩:=List.mem_map.1 hT;exact⟨(vU _).canon,vT _⟩
end Cl
namespace Cl
open Go Go.RowKit Go.Proofs
theorem Cq (u u':Value) (A B:List Int) (m:Mem) (w:World) (hm:m.inn w) (h1:dA m u A) (h2:dA m u' B) (hl:A.length=B.length) :
 Calls Tryz.prog 222 #[u,u'] w fun e w'=>e=.returned (.bool (decide (A=B)))∧Below w.heap.size w w':=by
 obtain⟨a,c,rfl,p1,q1,k1⟩:=h1;obtain⟨a',c',rfl,p2,q2,k2⟩:=h2;unfold maxLen at q1 q2;have HK:=zh (zi k1 k2);have HO:=zh (Own.start hm);have HBN:=zh hl.symm;clear k1 k2 hl;refine ay fun R hR=>?_
 go_enter Tryz.func222,Tryz.ntmps222
 go_wp2;refine au [0,1,5] (fun q vs wr=>∃(i:Nat),i≤A.length∧q=A.length - i∧vs=[.slice a A.length c,.slice a' B.length c',.int .i64 (i:Int)]∧(∀j (h1:j<A.length) (h2:j<B.length),j<i→A[j]=B[j]) ∧
  Own w m wr m []) ?_ ?_
 ·exact⟨_,0,Nat.zero_le _,rfl,rfl,fun j _ _ h=>absurd h (Nat.not_lt_zero _),HO.out⟩
 clear HO;rintro X z q vs wr hX - ⟨i,hi,rfl,rfl,hA,hO⟩;simp[litL,lk];have HA:=zh hA;clear hA;by_cases hlt:i<A.length
 case neg=>
  have HB:=zh hO.below;have HR:=zh (show A=B from List.ext_getElem (by rw[HBN.out]) fun j h1 h2=>HA.out j h1 h2 zo);obtain rfl:i=A.length:=zo;clear hO hX HA;go_wp2;exact hR.out _ _ ⟨by rw[decide_eq_true HR.out] <;> rfl,HB.out⟩
 have hltB:i<B.length:=by rw[HBN.out];exact hlt
 obtain⟨b,off,rfl,h4⟩:=HK.out.1 (by intro h;simp[h] at hlt);obtain⟨b',off',rfl,h5⟩:=HK.out.2 (by intro h;simp[h] at hltB);have g0:=Mem.aj hO.inn (h4 i hlt).1;have gl:=Mem.av hO.inn (h4 i hlt).1;have g1:=Mem.aj hO.inn (h5 i hltB).1;have gl2:=Mem.av hO.inn (h5 i hltB).1;have HO:=zh (hO.drN 1);have HNX:=zh (show A[i]=B[i]→∀j (h1:j<A.length) (h2:j<B.length),j<i+1→A[j]=B[j] from fun h j h1 h2 h3=>by
  by_cases e:j=i
  ·subst e;exact h
  ·exact HA.out j h1 h2 zo)
 have HNO:=zh (show ¬ A[i]=B[i]→¬ A=B from fun h k=>h (by subst k;rfl));generalize A[i]=x at *
 generalize B[i]=y at *
 clear hO h4 h5 HA;by_cases he:x=y
 ·have HN:=zh (HNX.out he);have hd:(x != y)=false:=by rw[he];simp
  clear HNX HNO he;go_wp2
  go_region
  all_goals go_wp2
  all_goals exact hX.out _ _ _ zo rfl ⟨i+1,zo,rfl,rfl,HN.out,HO.out⟩
 ·have HN:=zh (HNO.out he);have hd:(x != y)=true:=bne_iff_ne.2 he;clear HNX HNO he hX;go_wp2
  go_region
  all_goals go_wp2
  all_goals exact hR.out _ _ ⟨by rw[decide_eq_false HN.out] <;> rfl,HO.out.below⟩
theorem F4 (tv u:Value) (ts:List Value) (l:List (List Int)) (x:List Int) (m:Mem) (w:World) (hm:m.inn w) (hrow:w.ownsRow 0 135 1 tv l.length ts) (hT:jm m ts l) (hu:dA m u x) (hl:∀y∈l,y.length=x.length) (hb:l.length≤1400000000) :
 Calls Tryz.prog 191 #[tv,u] w fun e w'=>e=.returned (.bool (decide (x∈l)))∧Below w.heap.size w w':=by
 obtain⟨a,c,rfl⟩:=aQ hrow;have hle:=hrow.2;have HT:=zh hT;have HU:=zh hu;have HW:=zh hrow;have HO:=zh (Own.start hm);have HL:=zh hl;clear hrow hle hT hu hl;refine ay fun R hR=>?_
 go_enter Tryz.func191,Tryz.ntmps191
 go_wp2;refine au [0,1,5] (fun q vs wr=>∃(i:Nat),i≤l.length∧q=l.length - i∧vs=[.slice a l.length c,u,.int .i64 (i:Int)]∧(∀j (h1:j<l.length),j<i→¬ l[j]=x) ∧
  Own w m wr m []) ?_ ?_
 ·exact⟨_,0,Nat.zero_le _,rfl,rfl,fun j _ h=>absurd h (Nat.not_lt_zero _),HO.out⟩
 clear HO;rintro X z q vs wr hX - ⟨i,hi,rfl,rfl,hA,hO⟩;simp[litL,lk];have HA:=zh hA;clear hA;by_cases hlt:i<l.length
 case neg=>
  have HB:=zh hO.below;obtain rfl:i=l.length:=zo;have HR:=zh (show ¬ x∈l from fun h=>by obtain⟨j,hj,e⟩:=List.getElem_of_mem h;exact HA.out j hj hj e);clear hO hX HA;go_wp2;exact hR.out _ _ ⟨by rw[decide_eq_false HR.out] <;> rfl,HB.out⟩
 obtain⟨k,hk⟩:∃k,l.length=k+1:=⟨l.length - 1,zo⟩;have hrw:=Ee HW.out hO.below;rw[hk] at hrw;obtain⟨g,cap,e,-⟩:=lh hrw;rw[← hk] at e hrw;injection e with e1 e2 e3;subst e1 e3;have hit:i<ts.length:=by rw[HT.out.1];exact hlt
 have x1:=aP hrw (j:=i) (u:=ts[i]) (by simp[hit]);have xl:=(World.ownsRow.lt hrw _ rfl).2;have HC:=zh (fun w' (h:m.inn w')=>Cq ts[i] u l[i] x m w' h (HT.out.2 i hit hlt) HU.out (HL.out _ (List.getElem_mem hlt)));have hin:=hO.inn;have HO:=zh hO;have HNX:=zh (show ¬ l[i]=x→∀j (h1:j<l.length),j<i+1→¬ l[j]=x from fun h j h1 h3=>by
  by_cases e:j=i
  ·subst e;exact h
  ·exact HA.out j h1 zo)
 have HNO:=zh (show l[i]=x→x∈l from fun h=>h ▸ List.getElem_mem hlt);generalize ts[i]=tsi at *
 generalize l[i]=li at *
 clear hO hrw HA HW hk;by_cases he:li=x
 ·have HC2:=zh (show ∀w',m.inn w'→_ from fun w' h=>by have:=HC.out w' h;rw[decide_eq_true he] at this;exact this);have HR:=zh (HNO.out he);clear HNX HNO he hX HC
  go_wp2_with (go_at_call 222;refine (HC2.out _ hin).mono ?_;rintro e w2 ⟨rfl,hb2⟩)
  exact hR.out _ _ ⟨by rw[decide_eq_true HR.out] <;> rfl,(HO.out.move hb2).below⟩
 ·have HC2:=zh (show ∀w',m.inn w'→_ from fun w' h=>by have:=HC.out w' h;rw[decide_eq_false he] at this;exact this);have HN:=zh (HNX.out he);clear HNX HNO he HC
  go_wp2_with (go_at_call 222;refine (HC2.out _ hin).mono ?_;rintro e w2 ⟨rfl,hb2⟩)
  exact hX.out _ _ _ zo rfl ⟨i+1,zo,rfl,rfl,HN.out,HO.out.move hb2⟩
theorem zF {m m':Mem} (h:m.le m') {v:Value} {l:List Table} (k:sU m v l):sU m' v l:=Mem.ig k fun _ _ _ ⟨u,h1,h2⟩=>⟨u,Mem.aA h h1,bu h h2⟩
theorem VIn.rng2 {cs:List Comp} {v:List Int} (h:VIn cs v) (hc:∀c∈cs,c.n≤1000):∀x∈v,-1≤x∧x<1000+1:=fun x hx=>by
 have:=h.rng hc x hx;omega
theorem Cr (u:Value) (Ls:List Table) (m:Mem) (w:World) (hm:m.inn w) (h:sU m u Ls) (hok:∀T∈Ls,Canon T∧T≠[]) (hl:Ls.length≤12) (hsz:∀T∈Ls,T.length≤1000) (hfew:∀sn:List (List Int),sn.Nodup→(∀v∈sn,gV (Ls.map tabC) v)→sn.length≤1400000000) :
 Calls Tryz.prog 152 #[u] w fun e w'=>e=.returned (.bool (tf (qO (Ls.map tabC))))∧Below w.heap.size w w':=by
 have hu:=h;obtain⟨a,c,rfl,p1,q1,k1⟩:=h;unfold maxLen at q1;have HU:=zh hu;have HK:=zh k1;have HOK:=zh hok;have HSZ:=zh hsz;have HFEW:=zh hfew;have HO:=zh ((Own.start hm).dI 3 1);clear k1 hu hok hsz hfew;refine ay fun R hR=>?_
 go_enter Tryz.func152,Tryz.ntmps152
 go_wp2;refine au [0,3,4] (fun q vs wr=>∃(i:Nat) (tv:Value),i≤Ls.length∧q=Ls.length - i∧vs=[.slice a Ls.length c,tv,.int .i64 (i:Int)] ∧
  Own w m wr m [.row tv 3 1 i (List.replicate i (.int .i64 0))]) ?_ ?_
 ·exact⟨_,0,_,Nat.zero_le _,rfl,rfl,HO.out⟩
 clear HO;rintro X z q vs wr hX - ⟨i,tv,hi,rfl,rfl,hO⟩;simp[litL,lk];obtain⟨va,vc,rfl⟩:=aQ hO.row;by_cases hlt:i<Ls.length
 ·obtain⟨b,off,rfl,h4⟩:=HK.out (by intro h;simp[h] at hlt);obtain⟨ui,hc,hst⟩:=h4 i hlt;obtain⟨ta,tc,rfl,t1,t2,-⟩:=hst;have hne:¬ Ls[i].length=0:=fun e=>(HOK.out _ (List.getElem_mem hlt)).2 (List.length_eq_zero_iff.1 e);have hd:((Ls[i].length:Int)==0)=false:=beq_eq_false_iff_ne.2 zo;have x1:=Mem.aj hO.inn hc;have xl:=Mem.av hO.inn hc;have hO2:=hO.al #[.int .i64 0] 3;have hnews:=hO2.obj.news rfl;generalize Ls[i].length=n at *
  clear hO h4 hc
  go_wp2_with (at_builtin;refine aC oJ rfl (.tmp 28) (.tmp 29) rfl (.slice va i vc) i (List.replicate i (.int .i64 0)) rfl hO2.swap.row ⟨wr.heap.size,0,none⟩ 1 1 [.int .i64 0] rfl rfl hnews (by simp[Value.oneCell']) (by unfold maxLen;omega) zo ?_)
  intro va' vc' w3 hown3 hgrow hrow3;have hO4:=(hO2.swap.app hown3 hgrow hrow3 zS).drop2;rw[← List.replicate_succ'] at hO4;have Hfin:=zh hO4;clear hO4 hown3 hgrow hrow3 hO2 hnews;go_wp2;exact hX.out _ _ _ zo rfl ⟨i+1,_,zo,rfl,rfl,Hfin.out⟩
 obtain rfl:i=Ls.length:=zo;have hvs:=BN Ls;have hlv:(eu (Ls.map tabC)).length=Ls.length:=by rw[hvs,List.length_replicate]
 rw[show List.replicate Ls.length (Value.int .i64 0)=(eu (Ls.map tabC)).map (Value.int .i64) by rw[hvs];simp] at hO;have hv0:=bN (m:=m) (l:=eu (Ls.map tabC)) (by rw[hlv];exact hO.row) (fun x hx=>by rw[hvs] at hx;rw[List.eq_of_mem_replicate hx];omega);have hle0:=Mem.dh (w:=wr) hO.free;have hO1:=hO.bg;generalize m.addv wr _=mk1 at *
 have hO2:=hO1.make (World.ownsRow_lit (base:=0) (e:=135) (size:=1) wr #[.slice va Ls.length vc] 1 (Nat.zero_le _) (by unfold maxLen;omega) rfl) (World.grownBy_alloc wr (.cells #[.slice va Ls.length vc] 135) none);have HS0:=zh (zi (qN.first (Ls.map tabC)) (zi hv0 hle0));have HO2:=zh hO2;have HVR:=zh (fun (v:List Int) (h:gV (Ls.map tabC) v)=>VIn.reach (fun c hc=>by obtain⟨T,hT,rfl⟩:=List.mem_map.1 hc;exact xN (HOK.out T hT).1 (HOK.out T hT).2) h);clear hO hO1 hO2 hv0 hle0 hlv hvs hX;generalize eu (Ls.map tabC)=v0 at *
 go_wp2;refine au [0,5,6] (fun q vs wr=>∃(k:Nat) (sn:List (List Int)) (ts:List Value) (tv:Value) (mk:Mem),k≤sn.length∧q=1400000001 - k∧vs=[.slice a Ls.length c,tv,.int .i64 (k:Int)]∧qN (Ls.map tabC) sn k∧jm mk ts sn∧m.le mk ∧
  Own w m wr mk [.row tv 135 1 sn.length ts]) ?_ ?_
 ·refine ⟨_,0,[v0],[.slice va Ls.length vc],_,mk1,Nat.zero_le _,rfl,rfl,HS0.out.1,⟨rfl,fun i h1 h2=>?_⟩,HS0.out.2.2,HO2.out⟩
  match i,h1,h2 with
  | 0,_,_=>exact HS0.out.2.1
 clear HO2 HS0;rintro X z q vs wr hX - ⟨k,sn,ts,tv,mk,hks,rfl,rfl,hS,hT,hle,hO⟩;simp[litL,lk];obtain⟨ta,tcap,rfl⟩:=aQ hO.row;have hsn:=HFEW.out sn hS.nodup hS.reach;by_cases hlt:k<sn.length
 case neg=>
  obtain rfl:k=sn.length:=zo;have HR:=zh hS.once;have HB:=zh hO.below;clear hO hS hT hX;go_wp2;exact hR.out _ _ ⟨by rw[aI HR.out] <;> rfl,HB.out⟩
 obtain⟨s1,hs1⟩:∃s1,sn.length=s1+1:=⟨sn.length - 1,zo⟩;have hrw:=hO.row;rw[hs1] at hrw;obtain⟨g,cap,e,-⟩:=lh hrw;rw[← hs1] at e;injection e with e1 e2 e3;subst e1 e3;have hkt:k<ts.length:=by rw[hT.1];exact hlt
 obtain⟨xa,xc,hxe,r1,r2,r3⟩:=hT.2 k hkt hlt;have hrv:=hS.reach _ (List.getElem_mem hlt);have hvin:=HVR.out sn[k] hrv;have hvl:sn[k].length=Ls.length:=by rw[hvin.len];simp
 have HT:=zh hT;have HS:=zh hS;have HLE:=zh hle;have HXE:=zh (show ts[k]?=some (.slice xa sn[k].length xc) by rw[List.getElem?_eq_getElem hkt,hxe]);have HR3:=zh r3;have HRG:=zh (show ∀i (h1:i<Ls.length) (h2:i<sn[k].length),-1≤sn[k][i]∧sn[k][i]<Ls[i].length from fun i h1 h2=>by
  have:=hvin.get i (by simpa using h1) h2;simpa [tabC] using this)
 have HIT:=zh (zi (JZ Ls sn[k]) (zi (fun i (h1:i<Ls.length) (h2:i<(sn[k]).length)=>J2 h1 h2) (zi (LQ hvl) (NH Ls sn[k]))));have HRV:=zh (zi hrv hvl);have HO:=zh hO;have hvl':sn[k].length=Ls.length:=hvl;unfold maxLen at r2;clear hrw hs1 hT hS hle hO r3 hrv hvin hvl hxe;generalize hv:sn[k]=v at *
 have HV:=zh hv;clear hv;go_wp2;refine au [0,5,6,7,8] (fun q vs wr=>∃(i:Nat),i≤Ls.length∧q=Ls.length - i∧vs=[.slice a Ls.length c,.slice (some ⟨g,0,none⟩) sn.length tcap,.int .i64 (k:Int),.int .i64 (hitT Ls v i:Int),.int .i64 (i:Int)] ∧
  Own w m wr mk [.row (.slice (some ⟨g,0,none⟩) sn.length tcap) 135 1 sn.length ts]) ?_ ?_
 ·exact⟨_,0,Nat.zero_le _,rfl,by rw[HIT.out.1];rfl,HO.out⟩
 clear HO;rintro Y z2 q vs wr2 hY - ⟨i,hi,rfl,rfl,hO⟩;simp[litL,lk];have y0:=aP hO.row HXE.out;have yl:=(World.ownsRow.lt hO.row _ rfl).2;by_cases hlt2:i<Ls.length
 ·have hiv:i<v.length:=zo;obtain⟨b,off,rfl,h4⟩:=HK.out (by intro h;simp[h] at hlt2);obtain⟨ui,hc,hst⟩:=h4 i hlt2;obtain⟨ta,tc,rfl,t1,t2,t4⟩:=hst;obtain⟨b3,off3,rfl,h5⟩:=HR3.out (by intro h;simp[h] at hiv);have x1:=Mem.aj hO.inn (Mem.aA HLE.out hc);have xl:=Mem.av hO.inn (Mem.aA HLE.out hc);have x2:=Mem.aj hO.inn (h5 i hiv).1;have xl2:=Mem.av hO.inn (h5 i hiv).1;have hrg:=HRG.out i hlt2 hiv;have hhs:=HIT.out.2.1 i hlt2 hiv;have hhl:=HIT.out.2.2.2 i;have HT4:=zh t4;have HO:=zh (hO.drN 1);unfold maxLen at t2;generalize Ls[i]=T at *
  generalize v[i]=vi at *
  have hin:=hO.inn;clear h4 h5 hc t4 hO;by_cases hpos:0≤vi
  ·obtain⟨p,rfl⟩:=Int.eq_ofNat_of_zero_le hpos;have hpt:p<T.length:=zo;obtain⟨tb,to,rfl,t5⟩:=HT4.out (by intro h;rw[h] at hpt;simp at hpt);obtain⟨s1,-⟩:=t5 p hpt;have x3:=Mem.aj hin (Mem.aA HLE.out s1);have xl3:=Mem.av hin (Mem.aA HLE.out s1);rw[dF _ _ hpt] at hhs;have hd:decide (0≤(p:Int))=true:=decide_eq_true zo;have HHS:=zh hhs;generalize T[p].accept=acc at *
   clear t5 s1 hhs hin;cases acc
   all_goals
    go_wp2
    go_region
    all_goals go_wp2
    all_goals exact hY.out _ _ _ zo rfl ⟨i+1,zo,rfl,by rw[HHS.out] <;> rfl,HO.out⟩
  ·have hd:decide (0≤vi)=false:=decide_eq_false hpos;rw[show dS T vi=false by unfold dS;rw[if_pos zo]] at hhs;have HHS:=zh hhs;clear hhs hin;go_wp2
   go_region
   all_goals go_wp2
   all_goals exact hY.out _ _ _ zo rfl ⟨i+1,zo,rfl,by rw[HHS.out] <;> rfl,HO.out⟩
 obtain rfl:i=Ls.length:=zo;rw[HIT.out.2.2.1];have hhl:je (Ls.map tabC) v≤12:=by have:=HIT.out.2.2.2 Ls.length;rw[HIT.out.2.2.1] at this;omega
 have HNO:=zh (Ep (cs:=Ls.map tabC) (v:=v) HRV.out.1);generalize hrr:je (Ls.map tabC) v=r at *
 have HW1:=zh hrr;clear hrr;have HO:=zh hO;clear hO hY HIT HR3;by_cases hr1:r=1
 case neg=>
  have hd:((r:Int) != 1)=true:=bne_iff_ne.2 zo;have HR:=zh (HNO.out hr1);have HB:=zh HO.out.below;clear HNO hr1 hX HO;go_wp2;exact hR.out _ _ ⟨by rw[az HR.out] <;> rfl,HB.out⟩
 subst hr1;clear y0 yl;go_wp2;refine au [0,5,6,9] (fun q vs wr=>∃(b:Nat) (sm:List (List Int)) (tm:List Value) (tv:Value) (mm:Mem),b≤256∧q=256 - b∧vs=[.slice a Ls.length c,tv,.int .i64 (k:Int),.int .i64 (b:Int)]∧qN (Ls.map tabC) sm k∧k<sm.length∧sm[k]?=some v∧tm[k]?=some (.slice xa v.length xc) ∧
  (∀b',b'<b→dK (Ls.map tabC) v b'∈sm)∧jm mm tm sm∧mk.le mm∧Own w m wr mm [.row tv 135 1 sm.length tm]) ?_ ?_
 ·exact⟨_,0,sn,ts,_,mk,zo,rfl,rfl,HS.out,hlt,by rw[List.getElem?_eq_getElem hlt,HV.out],HXE.out,fun b' h=>absurd h (Nat.not_lt_zero _),HT.out,Mem.le_refl _,HO.out⟩
 clear HO HS HT HXE HV;rintro Y z2 q vs wr2 hY - ⟨b,sm,tm,tv,mm,hb,rfl,rfl,hS,hkm,hsv,htv,hdn,hT,hle,hO⟩;simp[litL,lk];obtain⟨va2,vc2,rfl⟩:=aQ hO.row;have hsm:=HFEW.out sm hS.nodup hS.reach;by_cases hb2:b<256
 case neg=>
  obtain rfl:b=256:=zo;have hd:vQ (Ls.map tabC) sm (sm[k]'hkm):=by
   have e:sm[k]'hkm=v:=by rw[List.getElem?_eq_getElem hkm] at hsv;exact Option.some.inj hsv
   rw[e];exact⟨HW1.out,hdn⟩
  have HSX:=zh (hS.close hkm hd);have HTX:=zh (zi hT (zi (Mem.le_trans HLE.out hle) hO));clear hS hsv htv hdn hT hle hO hY hd;go_wp2;exact hX.out _ _ _ zo rfl ⟨k+1,sm,tm,_,mm,zo,rfl,rfl,HSX.out,HTX.out.1,HTX.out.2.1,HTX.out.2.2⟩
 obtain⟨s2,hs2⟩:∃s2,sm.length=s2+1:=⟨sm.length - 1,zo⟩;have hrw2:=hO.row;rw[hs2] at hrw2;obtain⟨g2,cap2,e,-⟩:=lh hrw2;rw[← hs2] at e;injection e with e1 e2 e3;subst e1 e3;clear hrw2 hs2;have hO1:=hO.dI 3 1;rw[show ([]:List Value)=(stepT Ls v b 0).map (Value.int .i64) by rw[FH];rfl] at hO1;have HO1:=zh hO1;have HS:=zh (zi hS (zi hdn (zi hT hle)));have HSV:=zh (zi hsv htv);have HRX:=zh (HRV.out.1.step hb2);clear hO hO1 hS hdn hT hle hsv htv;go_wp2;refine au [0,5,6,9,10,11] (fun q vs wr=>∃(i:Nat) (xv:Value),i≤Ls.length∧q=Ls.length - i∧vs=[.slice a Ls.length c,.slice (some ⟨g2,0,none⟩) sm.length vc2,.int .i64 (k:Int),.int .i64 (b:Int),xv,.int .i64 (i:Int)] ∧
  Own w m wr mm [.row xv 3 1 i ((stepT Ls v b i).map (Value.int .i64)),.row (.slice (some ⟨g2,0,none⟩) sm.length vc2) 135 1 sm.length tm]) ?_ ?_
 ·exact⟨_,0,.slice none 0 0,Nat.zero_le _,rfl,rfl,HO1.out⟩
 clear HO1;rintro V z3 q vs wr3 hV - ⟨i,xv,hi,rfl,rfl,hO⟩;simp[litL,lk];obtain⟨xa3,xc3,rfl⟩:=aQ hO.row;by_cases hlt3:i<Ls.length
 ·have hiv:i<v.length:=zo;have hle2:=Mem.le_trans HLE.out HS.out.2.2.2;have hxv:dA mm (.slice xa v.length xc) v:=by
   obtain⟨k1,e1⟩:=List.getElem?_eq_some_iff.1 HSV.out.2;obtain⟨k2,e2⟩:=List.getElem?_eq_some_iff.1 HSV.out.1;have:=HS.out.2.2.1.2 k k1 k2
   rwa [e1,e2] at this
  obtain⟨za,zc,ze,-,-,z3⟩:=hxv;injection ze with ze1 ze2 ze3;subst ze1;obtain⟨b0,off,rfl,h4⟩:=HK.out (by intro h;simp[h] at hlt3);obtain⟨ui,hc,hst⟩:=h4 i hlt3;obtain⟨b3,off3,rfl,h5⟩:=z3 (by intro h;simp[h] at hiv);have hrg:=HRG.out i hlt3 hiv;have HST:=zh (fun w' (h:mm.inn w')=>sH ui Ls[i] v[i] b mm w' h (bu hle2 hst) zo zo);have HSUC:=zh (FI (Ls:=Ls) (v:=v) b hlt3 hiv);obtain⟨ta,tc,rfl,-⟩:=hst;have hwu:IntKind.u8.wrap (b:Int)=(b:Int):=IntWalk.u8_in _ zo;have HSF:=zh (show ∀(w':World) (L:List Item),Own w m w' mm L→Item.row (.slice (some ⟨g2,0,none⟩) sm.length vc2) 135 1 sm.length tm∈L→mm.inn w'∧w'.cell? ⟨g2,k,none⟩=some (.slice (some ⟨b3,off3,none⟩) Ls.length xc)∧g2<w'.heap.size from fun w' L h hi=>⟨h.inn,by have:=aP (h.jT hi) HSV.out.2;rwa [hvl'] at this,(World.ownsRow.lt (h.jT hi) _ rfl).2⟩);have hX1:=Mem.aA hle2 hc;have hX2:=(h5 i hiv).1;have HO:=zh hO;clear hO h4 h5 z3 ze2 ze3;generalize aW Ls[i] v[i] b=st at *
  generalize Ls[i].length=tl at *
  generalize v[i]=vi at *
  go_wp2;refine fq (fun w'=>mm.inn w'∧w'.cell? ⟨g2,k,none⟩=some (.slice (some ⟨b3,off3,none⟩) Ls.length xc)∧g2<w'.heap.size) 18 zk ?_;have hO2:=HO.out.dr;have hS:=HSF.out _ _ hO2 zS;refine aD 0 rfl zk (fun _ _ _ h=>h) hS (aB rfl fun w' hS'=>by have q0:=hS'.2.1;have q1:=hS'.2.2;have q2:=Mem.aj hS'.1 hX1;have q3:=Mem.av hS'.1 hX1;have q4:=Mem.aj hS'.1 hX2;have q5:=Mem.av hS'.1 hX2;go_simp;rfl) ?_;refine aD 1 rfl zk (fun _ _ _ h=>h) hS (aB rfl fun w' hS'=>by have q0:=hS'.2.1;have q1:=hS'.2.2;have q2:=Mem.aj hS'.1 hX1;have q3:=Mem.av hS'.1 hX1;have q4:=Mem.aj hS'.1 hX2;have q5:=Mem.av hS'.1 hX2;go_simp;rfl) ?_;refine aD 2 rfl zk (fun _ _ _ h=>h) hS (aB rfl fun w' hS'=>by have q0:=hS'.2.1;have q1:=hS'.2.2;have q2:=Mem.aj hS'.1 hX1;have q3:=Mem.av hS'.1 hX1;have q4:=Mem.aj hS'.1 hX2;have q5:=Mem.av hS'.1 hX2;go_simp;rfl) ?_;refine aD 3 rfl zk (fun _ _ _ h=>h) hS (aB rfl fun w' hS'=>by have q0:=hS'.2.1;have q1:=hS'.2.2;have q2:=Mem.aj hS'.1 hX1;have q3:=Mem.av hS'.1 hX1;have q4:=Mem.aj hS'.1 hX2;have q5:=Mem.av hS'.1 hX2;go_simp;rfl) ?_;refine aD 4 rfl zk (fun _ _ _ h=>h) hS (aB rfl fun w' hS'=>by have q0:=hS'.2.1;have q1:=hS'.2.2;have q2:=Mem.aj hS'.1 hX1;have q3:=Mem.av hS'.1 hX1;have q4:=Mem.aj hS'.1 hX2;have q5:=Mem.av hS'.1 hX2;go_simp;rfl) ?_;refine aD 5 rfl zk (fun _ _ _ h=>h) hS (aB rfl fun w' hS'=>by have q0:=hS'.2.1;have q1:=hS'.2.2;have q2:=Mem.aj hS'.1 hX1;have q3:=Mem.av hS'.1 hX1;have q4:=Mem.aj hS'.1 hX2;have q5:=Mem.av hS'.1 hX2;go_simp;rfl) ?_;refine aD 6 rfl zk (fun _ _ _ h=>h) hS (aB rfl fun w' hS'=>by have q0:=hS'.2.1;have q1:=hS'.2.2;have q2:=Mem.aj hS'.1 hX1;have q3:=Mem.av hS'.1 hX1;have q4:=Mem.aj hS'.1 hX2;have q5:=Mem.av hS'.1 hX2;go_simp;rfl) ?_;refine aD 7 rfl zk (fun _ _ _ h=>h) hS (aB rfl fun w' hS'=>by have q0:=hS'.2.1;have q1:=hS'.2.2;have q2:=Mem.aj hS'.1 hX1;have q3:=Mem.av hS'.1 hX1;have q4:=Mem.aj hS'.1 hX2;have q5:=Mem.av hS'.1 hX2;go_simp;rfl) ?_;refine aD 8 rfl zk (fun _ _ _ h=>h) hS (aB rfl fun w' hS'=>by have q0:=hS'.2.1;have q1:=hS'.2.2;have q2:=Mem.aj hS'.1 hX1;have q3:=Mem.av hS'.1 hX1;have q4:=Mem.aj hS'.1 hX2;have q5:=Mem.av hS'.1 hX2;go_simp;rfl) ?_;refine aD 9 rfl zk (fun _ _ _ h=>h) hS (aB rfl fun w' hS'=>by have q0:=hS'.2.1;have q1:=hS'.2.2;have q2:=Mem.aj hS'.1 hX1;have q3:=Mem.av hS'.1 hX1;have q4:=Mem.aj hS'.1 hX2;have q5:=Mem.av hS'.1 hX2;go_simp;rfl) ?_;refine aD 10 rfl zk (fun _ _ _ h=>h) hS (aB rfl fun w' hS'=>by have q0:=hS'.2.1;have q1:=hS'.2.2;have q2:=Mem.aj hS'.1 hX1;have q3:=Mem.av hS'.1 hX1;have q4:=Mem.aj hS'.1 hX2;have q5:=Mem.av hS'.1 hX2;go_simp;rfl) ?_;refine aD 11 rfl zk (fun _ _ _ h=>h) hS (aB rfl fun w' hS'=>by have q0:=hS'.2.1;have q1:=hS'.2.2;have q2:=Mem.aj hS'.1 hX1;have q3:=Mem.av hS'.1 hX1;have q4:=Mem.aj hS'.1 hX2;have q5:=Mem.av hS'.1 hX2;go_simp;rfl) ?_;refine aD 12 rfl zk (fun _ _ _ h=>h) hS (aB rfl fun w' hS'=>by have q0:=hS'.2.1;have q1:=hS'.2.2;have q2:=Mem.aj hS'.1 hX1;have q3:=Mem.av hS'.1 hX1;have q4:=Mem.aj hS'.1 hX2;have q5:=Mem.av hS'.1 hX2;go_simp;rfl) ?_;refine aD 13 rfl zk (fun _ _ _ h=>h) hS (aB rfl fun w' hS'=>by have q0:=hS'.2.1;have q1:=hS'.2.2;have q2:=Mem.aj hS'.1 hX1;have q3:=Mem.av hS'.1 hX1;have q4:=Mem.aj hS'.1 hX2;have q5:=Mem.av hS'.1 hX2;go_simp;rfl) ?_;refine aD 14 rfl zk (fun _ _ _ h=>h) hS (aB rfl fun w' hS'=>by have q0:=hS'.2.1;have q1:=hS'.2.2;have q2:=Mem.aj hS'.1 hX1;have q3:=Mem.av hS'.1 hX1;have q4:=Mem.aj hS'.1 hX2;have q5:=Mem.av hS'.1 hX2;go_simp;rfl) ?_;refine aT 15 zk (aO rfl rfl (fQ zg (HST.out _ hO2.inn) ?_));rintro e w4 ⟨rfl,hb4⟩;have hO3:=hO2.move hb4;refine ⟨_,rfl,andS (HSF.out _ _ hO3 zS) fun hS1=>?_⟩;go_simp;have hO4:=hO3.al #[.int .i64 st] 3;refine aT 16 zk (aO rfl rfl (aK (by go_simp;first | exact⟨rfl,rfl⟩ | rfl) (andS (HSF.out _ _ hO4 zS) fun _=>?_)));go_simp;refine aT 17 zk (aO rfl rfl (eH oJ (.tmp 89) (.tmp 105) rfl (.slice xa3 i xc3) i _ rfl hO4.swap.row ⟨w4.heap.size,0,none⟩ 1 1 [.int .i64 st] rfl rfl (hO4.obj.news rfl) (by simp[Value.oneCell']) (by unfold maxLen;omega) zo (fun na nc w5 hown5 hgrow5 hrow5=>?_)));have hO5:=(hO4.swap.app hown5 hgrow5 hrow5 (Nat.le_refl _)).drop2;refine andS (HSF.out _ _ hO5 zS) fun hS3=>?_;go_simp;refine aT 18 zk (aO rfl rfl (aK (by go_simp;first | exact⟨rfl,rfl⟩ | rfl) (lN rfl ?_)));refine fw zk ?_ _;have HO5:=zh hO5;clear hO5 hO4 hO3 hO2 hS hS1 hS3 hb4 hown5 hgrow5 hrow5;go_wp2;exact hV.out _ _ _ zo rfl ⟨i+1,_,zo,rfl,rfl,by rw[HSUC.out];simpa using HO5.out⟩
 obtain rfl:i=Ls.length:=zo;have hvx:=HVR.out _ HRX.out;have hxl:(dK (Ls.map tabC) v b).length=Ls.length:=by rw[hvx.len];simp
 have hrng:∀x∈dK (Ls.map tabC) v b,-1≤x∧x<1000+1:=hvx.rng2 fun c hc=>by
  obtain⟨T,hT,rfl⟩:=List.mem_map.1 hc;exact HSZ.out T hT
 rw[IU hvl'] at hO;have hxi:=bN (m:=mm) (l:=dK (Ls.map tabC) v b) (by rw[hxl];exact hO.row) (fun x hx=>by have:=hrng x hx;omega);have hle1:=Mem.dh (w:=wr3) hO.free;have hO2:=hO.bg;generalize mm.addv wr3 _=m1 at *
 have hlens:∀y∈sm,y.length=(dK (Ls.map tabC) v b).length:=fun y hy=>by rw[hxl,(HVR.out y (HS.out.1.reach y hy)).len];simp
 have hrow:=hO2.row;have HMET:=zh (F4 _ (.slice xa3 Ls.length xc3) tm sm (dK (Ls.map tabC) v b) m1 wr3 hO2.inn hrow (HS.out.2.2.1.le hle1) hxi hlens hsm);have HCUT:=zh (fun (m':Mem) (w':World) (h:m'.inn w') (hu:sU m' (.slice a Ls.length c) Ls) (hx:dA m' (.slice xa Ls.length xc) v)=>N7 _ _ Ls v b m' w' h hu hx hvl'.symm (fun i hi=>by
  have:=HRG.out i zo hi;simp only[List.getD_eq_getElem?_getD,hi,List.getElem?_eq_getElem,Option.getD_some,show i<Ls.length by omega];exact this) hb2)
 have HCG:=zh (zi (yA (Ls:=Ls) (ps:=v) hb2 Ls.length) (zi (yz Ls v b Ls.length) (fun c'=>FE (Ls:=Ls) (ps:=v) (b:=b) (c:=c') hvl')));have hxv:dA m1 (.slice xa Ls.length xc) v:=by
  have e1:tm[k]?=some (.slice xa v.length xc):=HSV.out.2;have e2:sm[k]?=some v:=HSV.out.1;obtain⟨k1,e1⟩:=List.getElem?_eq_some_iff.1 e1;obtain⟨k2,e2⟩:=List.getElem?_eq_some_iff.1 e2;have:=(HS.out.2.2.1.le hle1).2 k k1 k2;rw[e1,e2,hvl'] at this;exact this
 have HXV:=zh hxv;clear hxv;have HX1:=zh (zi hxi hle1);have HO2:=zh hO2;have hin:=hO2.inn;generalize oo Ls v b Ls.length=ct at *
 clear hO hO2 hrow hxi hle1 hvx hrng hV hlens;by_cases hmem:dK (Ls.map tabC) v b∈sm
 ·have hh:=HMET.out;rw[decide_eq_true hmem] at hh;have HMET2:=zh hh;clear HMET hh;have HMEM:=zh hmem;clear hmem
  go_wp2_with (go_at_call 191;refine HMET2.out.mono ?_;rintro e w4 ⟨rfl,hb4⟩;have hO4:=HO2.out.move hb4;have y0:=aP hO4.row HSV.out.2;have yl:=(World.ownsRow.lt hO4.row _ rfl).2)
  refine (HCUT.out m1 _ hO4.inn (zF (Mem.le_trans HLE.out (Mem.le_trans HS.out.2.2.2 HX1.out.2)) HU.out) HXV.out).mono ?_;rintro e w5 ⟨rfl,hb5⟩;have HO5:=zh (hO4.move hb5);have hgt:=HCG.out.1;have hct:=HCG.out.2.1;have HDN:=zh (show ∀b',b'<ct→dK (Ls.map tabC) v b'∈sm from fun b' h=>by
   by_cases h2:b'<b
   ·exact HS.out.2.1 b' h2
   ·rw[HCG.out.2.2 b' zo h];exact HMEM.out)
  clear hO4 hb5 hb4 y0 yl HMET2 HMEM HCG HCUT;go_wp2;exact hY.out _ _ _ zo rfl ⟨ct,sm,tm,_,m1,hct,rfl,rfl,HS.out.1,hkm,HSV.out.1,HSV.out.2,HDN.out,HS.out.2.2.1.le HX1.out.2,Mem.le_trans HS.out.2.2.2 HX1.out.2,HO5.out⟩
 ·have hh:=HMET.out;rw[decide_eq_false hmem] at hh;have HMET2:=zh hh;have HMEM:=zh hmem;clear HMET hh hmem;have htk:(tm ++ [.slice xa3 Ls.length xc3])[k]?=some (.slice xa v.length xc):=by
   have h:=HSV.out.2;have hk:=(List.getElem?_eq_some_iff.1 h).1;rw[List.getElem?_append_left hk];exact h
  have HTK:=zh htk;clear htk
  go_wp2_with (first
   | (go_at_call 191;refine HMET2.out.mono ?_;rintro e w4 ⟨rfl,hb4⟩;have hO7:=(HO2.out.move hb4).al #[.slice xa3 Ls.length xc3] 135;have hnews:=hO7.obj.news rfl)
   | (at_builtin;refine aC xI rfl (.tmp 111) (.tmp 113) rfl (.slice (some ⟨g2,0,none⟩) sm.length vc2) sm.length tm rfl hO7.swap.row ⟨w4.heap.size,0,none⟩ 1 1 [.slice xa3 Ls.length xc3] rfl rfl hnews (by simp[Value.oneCell']) (by unfold maxLen;omega) zo ?_;intro va' vc' w7 hown7 hgrow7 hrow7;obtain⟨g3,cap3,e3,-⟩:=lh hown7;injection e3 with e4 e5 e6;subst e4 e6;have hO8:=(hO7.swap.app hown7 hgrow7 hrow7 zS).drop2;have y0:=aP hO8.row HTK.out;have yl:=(World.ownsRow.lt hO8.row _ rfl).2))
  refine (HCUT.out m1 _ hO8.inn (zF (Mem.le_trans HLE.out (Mem.le_trans HS.out.2.2.2 HX1.out.2)) HU.out) HXV.out).mono ?_;rintro e w5 ⟨rfl,hb5⟩;have HO5:=zh (hO8.move hb5);have hgt:=HCG.out.1;have hct:=HCG.out.2.1;have HDN:=zh (show ∀b',b'<ct→dK (Ls.map tabC) v b'∈sm ++ [dK (Ls.map tabC) v b] from fun b' h=>by
   by_cases h2:b'<b
   ·exact List.mem_append_left _ (HS.out.2.1 b' h2)
   ·rw[HCG.out.2.2 b' zo h];simp)
  have HSV2:=zh (show (sm ++ [dK (Ls.map tabC) v b])[k]?=some v by rw[List.getElem?_append_left hkm];exact HSV.out.1);clear hO8 hO7 hb5 hb4 y0 yl HMET2 HCG HCUT hown7 hgrow7 hrow7 hnews;go_wp2;exact hY.out _ _ _ zo rfl ⟨ct,sm ++ [dK (Ls.map tabC) v b],tm ++ [.slice xa3 Ls.length xc3],_,m1,hct,rfl,rfl,HS.out.1.push zo HRX.out HMEM.out,by simp;omega,HSV2.out,HTK.out,HDN.out,(HS.out.2.2.1.le HX1.out.2).push HX1.out.1,Mem.le_trans HS.out.2.2.2 HX1.out.2,by simpa using HO5.out⟩
theorem xM {w:World} {t:TypeId} {v:Value} {l:List Table} {ts:List Value} {m:Mem} (hown:w.ownsRow 0 t 1 v l.length ts) (h:qc (m.addv w v) ts l):sU (m.addv w v) v l:=
 gT hown fun g hg i hi=>by
  have h1:i<ts.length:=by rw[h.1];exact hi
  exact⟨ts[i],eQ hown hg m (by simp[h1]),h.2 i h1 hi⟩
theorem IC:eT Tryz.prog 153 27 1 24:=⟨Tryz.underlying153,zo,by
 obtain⟨i,h1,h2,h3,h4⟩:=info_parts (show (Tryz.prog.info? 27).map (fun i=>(i.zero,i.size,i.bytes))=some (some (.agg #[.slice none 0 0]),1,24) by kernel_rfl);exact⟨i,_,h1,h2,h3,h4,rfl⟩⟩
theorem vB (s:ByteArray) (m:Mem) (w:World) (hm:m.inn w) (hs:s.size≤1000) :
 Calls Tryz.prog 151 #[.string s] w fun e w'=>∃r,e=.returned (.agg #[r])∧Below w.heap.size w w'∧aR (m.grow w w') r (eZ s):=Cx s m w hm hs
theorem vz (u u':Value) (c:St) (m:Mem) (n:Nat) (w:World) (hm:m.inn w) (h1:gI (VAt m n) m u c.1) (h2:fV (VAt m n) m u' c.2) (l1:c.1.length≤6) (l2:c.2.length≤6) (l3:∀f∈c.1,f.1.1.size≤40) (l4:∀k∈c.2,gH k.1) :
 Calls Tryz.prog 100 #[.agg #[u,u']] w fun e w'=>e=.returned (.bool (tf (cB c)))∧Below w.heap.size w w':=by
 obtain⟨a1,c1,rfl,p1,q1,k1⟩:=h1;obtain⟨a2,c2,rfl,p2,q2,k2⟩:=h2;unfold maxLen at q1 q2;have HK:=zh (zi k1 k2);have HE:=zh (iL c);have HL4:=zh (zi l3 l4);have HL:=zh (zi l1 l2);have hl1:c.1.length≤6:=l1;have hl2:c.2.length≤6:=l2;have HO:=zh (((Own.start hm).al #[.slice a1 c.1.length c1,.slice a2 c.2.length c2] 45).dI 27 1);clear k1 k2 l3 l4 l1 l2;refine ay fun R hR=>?_
 go_enter Tryz.func100,Tryz.ntmps100
 go_wp2;refine au [1,3,4] (fun q vs wr=>∃(i:Nat) (tv:Value) (ts:List Value),i≤c.2.length∧q=c.2.length - i∧vs=[.pointer (some ⟨w.heap.size,0,none⟩),tv,.int .i64 (i:Int)]∧(∀j (hj:j<c.2.length),j<i→Canon c.2[j].1∧c.2[j].1≠[]) ∧
  qc m ts ((c.2.take i).map (·.1))∧Own w m wr m [.row tv 27 1 i ts,.obj w.heap.size 45 #[.slice a1 c.1.length c1,.slice a2 c.2.length c2]]) ?_ ?_
 ·exact⟨_,0,_,[],Nat.zero_le _,rfl,rfl,fun j hj h=>absurd h (Nat.not_lt_zero _),⟨rfl,fun i h=>absurd h (Nat.not_lt_zero _)⟩,HO.out⟩
 clear HO;rintro X z q vs wr hX - ⟨i,tv,ts,hi,rfl,rfl,hV,hT,hO⟩;simp[litL,lk];obtain⟨va,vc,rfl⟩:=aQ hO.row;have g0:=hO.swap.obj.cell (i:=0) rfl;have g1:=hO.swap.obj.cell (i:=1) rfl;have gl:=hO.swap.obj.lt;have HV:=zh hV;clear hV;by_cases hlt:i<c.2.length
 ·obtain⟨b,off,rfl,h4⟩:=HK.out.2 (by intro h;simp[h] at hlt);obtain⟨kc,hc,hst⟩:=(h4 i hlt).s;have hmem:=List.getElem_mem hlt;have htl:c.2[i].1.length≤1000000:=by have:=(HL4.out.2 _ hmem).2;omega
  have x1:=Mem.aj hO.inn hc;have xl:=Mem.av hO.inn hc;have hO1:=hO.al #[kc] 27;have HVA:=zh (rq kc c.2[i].1 m _ hO1.inn hst htl);have HVN:=zh (show ∀j (hj:j<c.2.length),j<i+1→(Canon c.2[i].1∧c.2[i].1≠[])→Canon c.2[j].1∧c.2[j].1≠[] from fun j hj h1 h2=>by
   by_cases e:j=i
   ·subst e;exact h2
   ·exact HV.out j hj zo)
  have HNO:=zh (show ¬ (Canon c.2[i].1∧c.2[i].1≠[])→¬ cB c from fun h k=>h ((HE.out.1 k).1 _ hmem));have hT2:=hT.push hst;rw[show (c.2.take i).map (·.1) ++ [c.2[i].1]=(c.2.take (i+1)).map (·.1) by rw[List.take_succ_eq_append_getElem hlt,List.map_append];rfl] at hT2;have HT:=zh hT2;obtain⟨ta,tc,rfl,t1,t2,-⟩:=hst;have HO:=zh hO1;unfold maxLen at t2;generalize c.2[i].1=T at *
  clear hO hO1 h4 hc hT hT2 hmem;by_cases hcn:Canon T
  case neg=>
   have hh:=HVA.out;rw[az hcn] at hh;have HVA2:=zh hh;have HR:=zh (HNO.out fun h=>hcn h.1);clear hh HVA HNO HVN hX hcn
   go_wp2_with (go_at_call 64;refine HVA2.out.mono ?_;rintro e w4 ⟨rfl,hb4⟩)
   exact hR.out _ _ ⟨by rw[az HR.out] <;> rfl,(HO.out.move hb4).below⟩
  have hh:=HVA.out;rw[aI hcn] at hh;have HVA2:=zh hh;clear hh HVA;by_cases h0:T.length=0
  ·have hd:((T.length:Int)==0)=true:=beq_iff_eq.2 zo;have HR:=zh (HNO.out fun h=>h.2 (List.length_eq_zero_iff.1 h0));clear HNO HVN hX hcn h0
   go_wp2_with (go_at_call 64;refine HVA2.out.mono ?_;rintro e w4 ⟨rfl,hb4⟩;have y0:=(HO.out.move hb4).obj.cell (i:=0) rfl;have yl:=(HO.out.move hb4).obj.lt)
   exact hR.out _ _ ⟨by rw[az HR.out] <;> rfl,(HO.out.move hb4).below⟩
  have hd:((T.length:Int)==0)=false:=beq_eq_false_iff_ne.2 zo;have HNX:=zh (fun j hj h=>HVN.out j hj h ⟨hcn,fun e=>h0 (by rw[e];rfl)⟩);clear HNO HVN hcn h0
  go_wp2_with (first
   | (go_at_call 64;refine HVA2.out.mono ?_;rintro e w4 ⟨rfl,hb4⟩;have hO4:=HO.out.move hb4;have y0:=hO4.obj.cell (i:=0) rfl;have yl:=hO4.obj.lt;have hO7:=hO4.al #[.slice ta T.length tc] 27;have hnews:=hO7.obj.news rfl)
   | (at_builtin;refine aC IC rfl (.tmp 29) (.tmp 31) rfl (.slice va i vc) i ts rfl hO7.third.row ⟨w4.heap.size,0,none⟩ 1 1 [.slice ta T.length tc] rfl rfl hnews (by simp[Value.oneCell']) (by unfold maxLen;omega) zo ?_;intro va' vc' w7 hown7 hgrow7 hrow7))
  have HO8:=zh ((hO7.third.app hown7 hgrow7 hrow7 zS).drop2.drop2);exact hX.out _ _ _ zo rfl ⟨i+1,_,_,zo,rfl,rfl,HNX.out,HT.out,HO8.out⟩
 obtain rfl:i=c.2.length:=zo;have hsets:∀k∈c.2,Canon k.1∧k.1≠[]:=fun k hk=>by
  obtain⟨j,hj,rfl⟩:=List.getElem_of_mem hk;exact HV.out j hj hj
 have HSE:=zh hsets;rw[List.take_length] at hT;have HT:=zh hT;have HO:=zh hO;clear hO hT hX HV hsets;go_wp2;refine au [1,3,6] (fun q vs wr=>∃(i:Nat) (tv:Value) (ts:List Value) (mk:Mem),i≤c.1.length∧q=c.1.length - i∧vs=[.pointer (some ⟨w.heap.size,0,none⟩),tv,.int .i64 (i:Int)] ∧
  qc mk ts (c.2.map (·.1) ++ (c.1.take i).map fun f=>eZ f.1.1)∧m.le mk∧Own w m wr mk [.row tv 27 1 (c.2.length+i) ts,.obj w.heap.size 45 #[.slice a1 c.1.length c1,.slice a2 c.2.length c2]]) ?_ ?_
 ·exact⟨_,0,_,ts,m,Nat.zero_le _,rfl,rfl,by simpa using HT.out,Mem.le_refl _,HO.out⟩
 clear HO HT g0 g1 gl;rintro X z q vs wr hX - ⟨i,tv,ts,mk,hi,rfl,rfl,hT,hle,hO⟩;simp[litL,lk];obtain⟨va,vc,rfl⟩:=aQ hO.row;have g0:=hO.swap.obj.cell (i:=0) rfl;have g1:=hO.swap.obj.cell (i:=1) rfl;have gl:=hO.swap.obj.lt;by_cases hlt:i<c.1.length
 ·obtain⟨b,off,rfl,h4⟩:=HK.out.1 (by intro h;simp[h] at hlt);have hs:=(h4 i hlt).s;have h40:=HL4.out.1 _ (List.getElem_mem hlt);have x1:=Mem.aj hO.inn (Mem.aA hle hs);have xl:=Mem.av hO.inn (Mem.aA hle hs);have HW:=zh (vB c.1[i].1.1 mk wr hO.inn zo);have HTS:=zh (show c.2.map (·.1) ++ (c.1.take (i+1)).map (fun f=>eZ f.1.1)=(c.2.map (·.1) ++ (c.1.take i).map fun f=>eZ f.1.1) ++ [eZ c.1[i].1.1] by rw[List.take_succ_eq_append_getElem hlt,List.map_append,List.append_assoc];rfl);have HO:=zh hO;have HT:=zh (zi hT hle);have hin:=hO.inn;clear hO h4 hs hT hle;generalize c.1[i].1.1=lab at *
  generalize eZ lab=WT at *
  go_wp2_with (first
   | (go_at_call 151;refine HW.out.mono ?_;rintro e w4 ⟨r,rfl,hb4,hr⟩;have hr':=hr;obtain⟨ra,rc,rfl,-⟩:=hr';have hO4:=HO.out.call hb4;have hO7:=hO4.al #[.slice ra WT.length rc] 27;have hnews:=hO7.obj.news rfl)
   | (at_builtin;refine aC IC rfl (.tmp 40) (.tmp 48) rfl (.slice va (c.2.length+i) vc) (c.2.length+i) ts rfl hO7.swap.row ⟨w4.heap.size,0,none⟩ 1 1 [.slice ra WT.length rc] rfl rfl hnews (by simp[Value.oneCell']) (by unfold maxLen;omega) zo ?_;intro va' vc' w7 hown7 hgrow7 hrow7))
  have HO8:=zh ((hO7.swap.app hown7 hgrow7 hrow7 zS).drop2);have HT2:=zh ((HT.out.1.le (Mem.dN (w:=w4) hin)).push hr);exact hX.out _ _ _ zo rfl ⟨i+1,_,_,_,zo,rfl,rfl,by rw[HTS.out];exact HT2.out,Mem.le_trans HT.out.2 (Mem.dN hin),HO8.out⟩
 obtain rfl:i=c.1.length:=zo;have hle1:=Mem.dh (w:=wr) hO.free;have hO2:=hO.bg;rw[List.take_length] at hT;have hts:sU (mk.addv wr (.slice va (c.2.length+c.1.length) vc)) (.slice va (c.2.length+c.1.length) vc) (mQ c):=xM (by rw[show (mQ c).length=c.2.length+c.1.length by simp[mQ]];exact hO.row) (hT.le hle1);have HC:=zh (Cr _ (mQ c) _ wr hO2.inn hts (IX HSE.out) (by simp[mQ];omega) (fun T h=>by
  rcases List.mem_append.1 h with h | h
  ·obtain⟨k,hk,rfl⟩:=List.mem_map.1 h;have:=(HL4.out.2 k hk).2;omega
  ·obtain⟨f,hf,rfl⟩:=List.mem_map.1 h;have:=HL4.out.1 f hf;rw[BL];omega) (fun sn h1 h2=>L9 HSE.out hl1 hl2 HL4.out.1 HL4.out.2 h1 h2))
 have HO2:=zh hO2;have HX:=zh (aZ (Cb HSE.out));clear hO hO2 hT hts hle hle1 hX
 go_wp2_with (go_at_call 152;refine HC.out.mono ?_;rintro e w4 ⟨rfl,hb4⟩)
 exact hR.out _ _ ⟨by rw[HX.out] <;> rfl,(HO2.out.move hb4).below⟩
theorem Nk (f:Nat) (v:Vl):Snd (f+1) v↔((v.any=true→nu v)∧v.s.iy)∧(∀c∈v.lists,c.2.length≤1)∧(∀c∈v.structs,dE c.1∧cB c)∧∀x∈v.kids,Snd f x.1∧Snd f x.2:=
 ⟨fun h=>⟨⟨h.1.any,h.1.sc⟩,h.1.rest,h.1.st,h.2⟩,fun h=>⟨⟨h.1.1,h.2.1,h.2.2.1,h.1.2⟩,h.2.2.2⟩⟩
theorem qB:∀(f lv n:Nat) (v:Vl) (x:Sl) (m:Mem) (w:World),f+lv=17→m.inn w→TabM m→VAt m n x v→FewV n v→vcnt n v≤1048576 →
 Calls Tryz.prog 67 #[v.val x,.int .i64 (lv:Int)] w fun e w'=>e=.returned (.bool (tf (Snd f v)))∧Below w.heap.size w w'
 | f,lv,0,_,_,_,_,_,_,_,h,_,_=>h.elim
 | 0,lv,n+1,v,x,m,w,hlv,hm,htab,hv,hf,hc=>by
  have HB:=zh ((Own.start hm).al (nine v x).toArray 33).below;unfold Vl.val;generalize nine v x=N at *
  clear hv hf hc htab;obtain rfl:lv=17:=zo;refine ay fun R hR=>?_
  go_enter Tryz.func67,Tryz.ntmps67
  go_wp2
  exact hR.out _ _ ⟨by rw[az (p:=Snd 0 v) id] <;> rfl,HB.out⟩
 | f+1,lv,n+1,v,x,m,w,hlv,hm,htab,hv,hf,hc=>by
  have hO:=(Own.start hm).al (nine v x).toArray 33;have hk:=ma hv.ht;have hs:=hv.sc;have hcnt:∀d∈v.kids,vcnt n d.1≤1048576∧vcnt n d.2≤1048576:=fun d hd=>by have:=jW (n:=n) hd;omega
  have HV:=zh (fun w' (h:m.inn w')=>nR v x m n w' h hv zo);have HBL:=zh (fun w' (h:m.inn w')=>zW v x m (n+1) w' h hv);have HVA:=zh (fun w' (h:m.inn w')=>zX x.i x.f x.t v.s m w' h htab hs ⟨by have:=hf.1.sc.1;omega,by have:=hf.1.sc.2.1;omega,by have:=hf.1.sc.2.2.2;omega⟩);have HTM:=zh htab;have HSS:=zh (fun (w':World) (ho:bD w' w.heap.size 33 (nine v x).toArray)=>ho.sub (jZ v x));have hN:(nine v x).length=9:=rfl;have HKD:=zh (zi hcnt hf.2);have HFP:=zh hf.1;have h4:=hf.1.l;have h5:=hf.1.s;have H0:(nine v x).toArray[0]?=some (.bool v.any):=rfl;have H7:(nine v x).toArray[7]?=some x.l:=rfl;have H8:(nine v x).toArray[8]?=some x.s:=rfl;have hv2:=hv.2;obtain⟨a1,b1,a2,b2,a3,b3,a4,b4,a5,b5,rfl,q1,q2,q3,q4,q5⟩:=hv.spell;obtain⟨⟨z1,y1,e1,-,-,k1⟩,⟨z2,y2,e2,-,-,k2⟩⟩:=hv2;simp only[Value.slice.injEq] at e1 e2;obtain⟨rfl,-,rfl⟩:=e1;obtain⟨rfl,-,rfl⟩:=e2;simp only at H7 H8;have HH:=zh (zi H7 H8);unfold maxLen at q1 q2 q3 q4 q5;have HK:=zh (zi k1 k2);have g0:=hO.obj.cell H0;have HO:=zh hO;have HE:=zh (aZ (Nk f v));obtain⟨P1,hP1⟩:∃P1:Prop,P1=((v.any=true→nu v)∧v.s.iy):=⟨_,rfl⟩;rw[← hP1] at HE;have HP1:=zh hP1;clear hP1 hO hv hk hs hcnt hc hf htab k1 k2 H0 H7 H8;unfold Vl.val at *
  unfold RS.val at *
  obtain⟨KP,hKP⟩:∃KP:Prop,KP=∀x∈v.kids,Snd f x.1∧Snd f x.2:=⟨_,rfl⟩;rw[← hKP] at HE;have HKP:=zh hKP;clear hKP;generalize nine v _=N at *
  generalize tf (Snd (f+1) v)=FF at *
  refine ay fun R hR=>?_
  go_enter Tryz.func67,Tryz.ntmps67
  go_upto_region 1 with (fail)
  generalize hW:w.alloc (.cells N.toArray 33)=w0 at *
  clear hW;refine aN [1,2,25] (fun vs w'=>vs=[.int .i64 (lv:Int),.pointer (some ⟨w.heap.size,0,none⟩),.bool (!tf P1)]∧Own w m w' m [.obj w.heap.size 33 N.toArray]) ?_ ?_
  ·intro X hX;have hd:decide ((16:Int)<(lv:Int))=false:=decide_eq_false zo;have hin:=HO.out.inn;have hsc:=HSS.out _ HO.out.obj;have hall:=HO.out.obj.all;cases hany:v.any
   ·rw[hany] at g0;have HP:=zh (show tf P1=tf v.s.iy by rw[HP1.out];exact aZ ⟨fun h=>h.2,fun h=>⟨fun k=>(by rw[hany] at k;cases k),h⟩⟩);clear hany HBL hall;generalize tf v.s.iy=sv at *
    go_wp2_with (first
     | refine ae tyS rfl (.tmp 21) rfl rfl _ rfl hsc ?_
     | (go_at_call 45;refine (HVA.out _ hin).mono ?_;rintro e w2 ⟨rfl,hb2⟩))
    exact hX.out _ _ rfl ⟨by rw[HP.out];rfl,HO.out.move hb2⟩
   ·rw[hany] at g0;have HP:=zh (show tf P1=(tf (nu v)&&tf v.s.iy) by
     rw[HP1.out];by_cases c1:nu v
     ·rw[aI c1,Bool.true_and];exact aZ ⟨fun h=>h.2,fun h=>⟨fun _=>c1,h⟩⟩
     ·rw[az c1,Bool.false_and];exact az fun h=>c1 (h.1 hany))
    clear hany HP1;have hbl:=HBL.out _ hin;clear HBL;by_cases hb:nu v
    ·rw[aI hb] at hbl;have HP2:=zh (HP.out.trans (by rw[aI hb,Bool.true_and]));have HBL:=zh hbl;clear HP hb hbl;generalize tf v.s.iy=sv at *
     go_wp2_with (first
      | refine ae tyV rfl (.tmp 2) rfl rfl N hN hall ?_
      | (go_at_call 98;refine HBL.out.mono ?_;rintro e w2 ⟨rfl,hb2⟩;have hO2:=HO.out.move hb2;have hsc2:=HSS.out _ hO2.obj)
      | refine ae tyS rfl (.tmp 21) rfl rfl _ rfl hsc2 ?_
      | (go_at_call 45;refine (HVA.out _ hO2.inn).mono ?_;rintro e w3 ⟨rfl,hb3⟩))
     exact hX.out _ _ rfl ⟨by rw[HP2.out] <;> rfl,hO2.move hb3⟩
    ·rw[az hb] at hbl;have HP2:=zh (HP.out.trans (by rw[az hb,Bool.false_and]));have HBL:=zh hbl;clear HP hb hbl HVA
     go_wp2_with (first
      | refine ae tyV rfl (.tmp 2) rfl rfl N hN hall ?_
      | (go_at_call 98;refine HBL.out.mono ?_;rintro e w2 ⟨rfl,hb2⟩))
     exact hX.out _ _ rfl ⟨by rw[HP2.out] <;> rfl,HO.out.move hb2⟩
  clear HO g0 HBL HVA HP1;rintro z vs w1 - ⟨rfl,hO⟩;simp[litL,lk];have HO:=zh hO;by_cases hp1:P1
  case neg=>
   have HF:=zh (HE.out.trans (Oe hp1));rw[az hp1];have HB:=zh hO.below;clear hO HO HE hp1;go_wp2;exact hR.out _ _ ⟨by rw[HF.out] <;> rfl,HB.out⟩
  rw[aI hp1];have HE2:=zh (HE.out.trans (qX hp1));clear HE hO hp1;have g7:=HO.out.obj.cell HH.out.1;have g8:=HO.out.obj.cell HH.out.2;go_wp2;refine au [1,2,5] (fun q vs wr=>∃(i:Nat),i≤v.lists.length∧q=v.lists.length - i∧vs=[.int .i64 (lv:Int),.pointer (some ⟨w.heap.size,0,none⟩),.int .i64 (i:Int)]∧FF=tf ((∀c∈v.lists.drop i,c.2.length≤1)∧(∀c∈v.structs,dE c.1∧cB c)∧KP) ∧
   Own w m wr m [.obj w.heap.size 33 N.toArray]) ?_ ?_
  ·exact⟨_,0,Nat.zero_le _,rfl,rfl,HE2.out,HO.out⟩
  clear HO HE2 g7 g8;rintro X z q vs wr hX - ⟨i,hi,rfl,rfl,hE,hO⟩;simp[litL,lk];have g7:=hO.obj.cell HH.out.1;have gl:=hO.obj.lt;by_cases hlt:i<v.lists.length
  ·obtain⟨b,off,rfl,h4⟩:=HK.out.1 (by intro h;simp[h] at hlt);obtain⟨u,u',s1,s2,s3,s4⟩:=h4 i hlt;obtain⟨ua',uc',rfl,r1,r2,-⟩:=s4;have x2:=Mem.aj hO.inn s2;have xl:=Mem.av hO.inn s2;rw[aZ (and_congr_left fun _=>kF (fun c:Lc=>c.2.length≤1) hlt)] at hE;have HE:=zh hE;have HO:=zh hO;unfold maxLen at r2;generalize (v.lists[i]).2.length=n2 at *
   clear hE hO h4 s1 s2 s3;by_cases hn:n2≤1
   ·have HE2:=zh (HE.out.trans (aZ (and_congr_left fun _=>and_iff_right hn)));clear HE;go_wp2;exact hX.out _ _ _ zo rfl ⟨i+1,zo,rfl,rfl,HE2.out,HO.out⟩
   ·have HF:=zh (HE.out.trans (az fun h=>hn h.1.1));clear HE hX;go_wp2;exact hR.out _ _ ⟨by rw[HF.out] <;> rfl,HO.out.below⟩
  have HE:=zh (hE.trans (qX (oC (fun c:Lc=>c.2.length≤1) (l:=v.lists) (i:=i) zo)));have HO:=zh hO;clear hE hO hX;have g8:=HO.out.obj.cell HH.out.2;go_wp2;refine au [1,2,6] (fun q vs wr=>∃(i:Nat),i≤v.structs.length∧q=v.structs.length - i∧vs=[.int .i64 (lv:Int),.pointer (some ⟨w.heap.size,0,none⟩),.int .i64 (i:Int)]∧FF=tf ((∀c∈v.structs.drop i,dE c.1∧cB c)∧KP) ∧
   Own w m wr m [.obj w.heap.size 33 N.toArray]) ?_ ?_
  ·exact⟨_,0,Nat.zero_le _,rfl,rfl,HE.out,HO.out⟩
  clear HO HE g7 g8 gl;rintro X z q vs wr hX - ⟨i,hi,rfl,rfl,hE,hO⟩;simp[litL,lk];have g8:=hO.obj.cell HH.out.2;have gl:=hO.obj.lt;by_cases hlt:i<v.structs.length
  ·obtain⟨b,off,rfl,h4⟩:=HK.out.2 (by intro h;simp[h] at hlt);obtain⟨u,u',s1,s2,s3,s4⟩:=h4 i hlt;have hmem:=List.getElem_mem hlt;have HFI:=zh (xW u (v.structs[i]).1 m n wr hO.inn s3);have HCL:=zh (fun w' (h:m.inn w')=>vz u u' v.structs[i] m n w' h s3 s4 (HFP.out.f _ hmem) (HFP.out.k _ hmem) (HFP.out.lab _ hmem) (HFP.out.set _ hmem));obtain⟨ua,uc,rfl,-⟩:=s3;obtain⟨ua',uc',rfl,-⟩:=s4;have x1:=Mem.aj hO.inn s1;have xl:=Mem.av hO.inn s1;rw[aZ (and_congr_left fun _=>kF (fun c:St=>dE c.1∧cB c) hlt)] at hE;have HE:=zh hE;have HO:=zh hO;have HX:=zh (fun (w':World) (h:m.inn w')=>zi (Mem.aj h s1) (zi (Mem.aj h s2) (Mem.av h s1)));clear hE hO h4 s1 s2 hmem;generalize (v.structs[i]).1.length=n1 at *
   generalize (v.structs[i]).2.length=n2 at *
   generalize dE (v.structs[i]).1=FO at *
   generalize cB v.structs[i]=CO at *
   by_cases hfo:FO
   case neg=>
    have HF:=zh (HE.out.trans (az fun h=>hfo h.1.1.1));have hh:=HFI.out;rw[az hfo] at hh;have HFI2:=zh hh;clear HCL hh HFI hX hfo HE HX
    go_wp2_with (go_at_call 99;refine HFI2.out.mono ?_;rintro e w2 ⟨rfl,hb2⟩)
    exact hR.out _ _ ⟨by rw[HF.out] <;> rfl,(HO.out.move hb2).below⟩
   have hh:=HFI.out;rw[aI hfo] at hh;have HFI2:=zh hh;clear hh HFI x1 xl;by_cases hco:CO
   ·have HCL2:=zh (show ∀w',m.inn w'→_ from fun w' h=>by have:=HCL.out w' h;rw[aI hco] at this;exact this);have HE2:=zh (HE.out.trans (aZ (and_congr_left fun _=>and_iff_right (show FO∧CO from ⟨hfo,hco⟩))));have x1:=(HX.out _ HO.out.inn).1;have xl:=(HX.out _ HO.out.inn).2.2;clear HE HCL hfo hco
    go_wp2_with (first
     | (go_at_call 99;refine HFI2.out.mono ?_;rintro e w2 ⟨rfl,hb2⟩;have hO2:=HO.out.move hb2;have x1:=(HX.out _ hO2.inn).1;have x2:=(HX.out _ hO2.inn).2.1;have xl:=(HX.out _ hO2.inn).2.2;have g8:=hO2.obj.cell HH.out.2;have gl:=hO2.obj.lt)
     | (go_at_call 100;refine (HCL2.out _ hO2.inn).mono ?_;rintro e w3 ⟨rfl,hb3⟩))
    exact hX.out _ _ _ zo rfl ⟨i+1,zo,rfl,rfl,HE2.out,hO2.move hb3⟩
   ·have HCL2:=zh (show ∀w',m.inn w'→_ from fun w' h=>by have:=HCL.out w' h;rw[az hco] at this;exact this);have HF:=zh (HE.out.trans (az fun h=>hco h.1.1.2));have x1:=(HX.out _ HO.out.inn).1;have xl:=(HX.out _ HO.out.inn).2.2;clear HE HCL hfo hco hX
    go_wp2_with (first
     | (go_at_call 99;refine HFI2.out.mono ?_;rintro e w2 ⟨rfl,hb2⟩;have hO2:=HO.out.move hb2;have x1:=(HX.out _ hO2.inn).1;have x2:=(HX.out _ hO2.inn).2.1;have xl:=(HX.out _ hO2.inn).2.2;have g8:=hO2.obj.cell HH.out.2;have gl:=hO2.obj.lt)
     | (go_at_call 100;refine (HCL2.out _ hO2.inn).mono ?_;rintro e w3 ⟨rfl,hb3⟩))
    exact hR.out _ _ ⟨by rw[HF.out] <;> rfl,(hO2.move hb3).below⟩
  have HE:=zh (hE.trans (qX (oC (fun c:St=>dE c.1∧cB c) (l:=v.structs) (i:=i) zo)));have HVV:=zh (HV.out wr hO.inn);have HN:=zh hO.obj.all;have HO:=zh hO;have hmk:=Mem.le_refl m;generalize v.kids=KD at *
  clear hE hO hX HV HFP HK HSS HH
  go_wp2_with (refine ae tyV rfl (.tmp 2) rfl rfl N hN HN.out ?_)
  refine HVV.out.mono ?_;rintro e w2 ⟨r,rfl,hb2,hr⟩;have hO2:=HO.out.call hb2;have HT2:=zh (HTM.out.le (Mem.dN (w:=w2) HO.out.inn));obtain⟨a,c,rfl,p1,qq1,hk⟩:=hr;have HK2:=zh hk;have HO2:=zh hO2;unfold maxLen at qq1;clear HO HVV HN hb2 hk hO2 HTM;generalize m.grow wr w2=M at *
  go_wp2;refine au [1,7,8] (fun q vs w3=>∃(i:Nat),i≤KD.length∧q=KD.length - i∧vs=[.int .i64 (lv:Int),.slice a KD.length c,.int .i64 (i:Int)]∧FF=tf (∀x∈KD.drop i,Snd f x.1∧Snd f x.2) ∧
   Own w m w3 M [.obj w.heap.size 33 N.toArray]) ?_ ?_
  ·exact⟨_,0,Nat.zero_le _,rfl,rfl,by rw[HE.out,HKP.out];rfl,HO2.out⟩
  clear HO2 HE;rintro Y z q vs w3 hY - ⟨j,hj,rfl,rfl,hE,hO⟩;simp[litL,lk];by_cases hlj:j<KD.length
  ·obtain⟨b,off,rfl,h4⟩:=HK2.out (by intro h;simp[h] at hlj);obtain⟨x1,x2,e1,r1,e2,r2⟩:=h4 j hlj;have hmem:=List.getElem_mem hlj;have hcl:=Mem.av hO.inn e1.a;have HC1:=zh (fun k u hk=>Mem.aj hO.inn (e1.get (j:=k) (u:=u) hk));have HG2:=zh (fun k u hk=>e2.get (j:=k) (u:=u) hk);have hcc:=HKD.out.1 _ hmem;have hff:=HKD.out.2 _ hmem;have HX1:=zh (qB f (lv+1) n KD[j].1 x1 M w3 zo hO.inn HT2.out r1 hff.1 hcc.1);have HX2:=zh (fun w' (h:M.inn w')=>qB f (lv+1) n KD[j].2 x2 M w' zo h HT2.out r2 hff.2 hcc.2);have hN1:(nine KD[j].1 x1).length=9:=rfl;have hN2:(nine KD[j].2 x2).length=9:=rfl;rw[aZ (kF (fun x:Vd=>Snd f x.1∧Snd f x.2) hlj)] at hE;have HE:=zh hE;have HO:=zh hO;unfold Vl.val at HX1 HX2;rw[show ((lv+1:Nat):Int)=(lv:Int)+1 by omega] at HX1;have HX2:=zh (show ∀w',M.inn w'→_ from fun w' h=>by have:=HX2.out w' h;rw[show ((lv+1:Nat):Int)=(lv:Int)+1 by omega] at this;exact this);generalize nine KD[j].1 x1=N1 at *
   generalize nine KD[j].2 x2=N2 at *
   clear hO e1 e2 r1 r2 h4 hE hcc hff hmem;by_cases f1:Snd f KD[j].1
   case neg=>
    have HF:=zh (HE.out.trans (az fun h=>f1 h.1.1));have hh:=HX1.out;rw[az f1] at hh;have HX:=zh hh;clear HE f1 hh HX1 HX2 HG2 hY
    go_wp2_with (first
     | refine ae tyV rfl (.tmp 76) rfl rfl N1 hN1 HC1.out ?_
     | (go_at_call 67;refine HX.out.mono ?_;rintro e w4 ⟨rfl,hb4⟩))
    exact hR.out _ _ ⟨by rw[HF.out] <;> rfl,(HO.out.move hb4).below⟩
   have hh:=HX1.out;rw[aI f1] at hh;have HX:=zh hh;clear hh HX1;by_cases f2:Snd f KD[j].2
   ·have HE2:=zh (HE.out.trans (qX ⟨f1,f2⟩));have HX2:=zh (show ∀w',M.inn w'→_ from fun w' h=>by have:=HX2.out w' h;rw[aI f2] at this;exact this);clear HE f1 f2
    go_wp2_with (first
     | refine ae tyV rfl (.tmp 76) rfl rfl N1 hN1 HC1.out ?_
     | refine ae tyV rfl (.tmp 86) rfl rfl N2 hN2 HC2.out ?_
     | (go_at_call 67;first | (refine (HX2.out _ hO4.inn).mono ?_;rintro e w5 ⟨rfl,hb5⟩) | (refine HX.out.mono ?_;rintro e w4 ⟨rfl,hb4⟩;have hO4:=HO.out.move hb4;have hcl4:=Nat.lt_of_lt_of_le hcl hb4.size;have HC2:=zh (fun k u hk=>Mem.aj hO4.inn (HG2.out k u hk)))))
    exact hY.out _ _ _ zo rfl ⟨j+1,zo,rfl,rfl,HE2.out,hO4.move hb5⟩
   ·have HF:=zh (HE.out.trans (az fun h=>f2 h.1.2));have HX2:=zh (show ∀w',M.inn w'→_ from fun w' h=>by have:=HX2.out w' h;rw[az f2] at this;exact this);clear HE f1 f2 hY
    go_wp2_with (first
     | refine ae tyV rfl (.tmp 76) rfl rfl N1 hN1 HC1.out ?_
     | refine ae tyV rfl (.tmp 86) rfl rfl N2 hN2 HC2.out ?_
     | (go_at_call 67;first | (refine (HX2.out _ hO4.inn).mono ?_;rintro e w5 ⟨rfl,hb5⟩) | (refine HX.out.mono ?_;rintro e w4 ⟨rfl,hb4⟩;have hO4:=HO.out.move hb4;have hcl4:=Nat.lt_of_lt_of_le hcl hb4.size;have HC2:=zh (fun k u hk=>Mem.aj hO4.inn (HG2.out k u hk)))))
    exact hR.out _ _ ⟨by rw[HF.out] <;> rfl,(hO4.move hb5).below⟩
  ·have HF:=zh (hE.trans (aI (oC (fun x:Vd=>Snd f x.1∧Snd f x.2) (l:=KD) (i:=j) zo)));have HB:=zh hO.below;clear hE hO hY;go_wp2;exact hR.out _ _ ⟨by rw[HF.out] <;> rfl,HB.out⟩
theorem jF (v:Vl) (x:Sl) (m:Mem) (n:Nat) (w:World) (hm:m.inn w) (htab:TabM m) (hv:VAt m n x v) (hf:FewV n v) (hct:vcnt n v≤1048576) :
 Calls Tryz.prog 48 #[v.val x] w fun e w'=>e=.returned (.bool (tf (SndV v)))∧Below w.heap.size w w':=by
 have hO:=(Own.start hm).al (nine v x).toArray 33;have HW:=zh (qB 16 1 n v x m _ rfl hO.inn htab hv hf hct);have HN:=zh hO.obj.all;have hN:(nine v x).length=9:=rfl;have HO:=zh hO;unfold Vl.val;unfold Vl.val at HW;unfold SndV;generalize nine v x=N at *
 generalize tf (Snd 16 v)=ts at *
 clear hO hv hf;refine ay fun R hR=>?_
 go_enter Tryz.func48,Tryz.ntmps48
 go_wp2_with (refine ae tyV rfl (.tmp 1) rfl rfl N hN HN.out ?_)
 refine HW.out.mono ?_;rintro e w1 ⟨rfl,hb1⟩;have HB:=zh (HO.out.move hb1).below;clear HO hb1 HW HN;go_wp2;exact hR.out _ _ ⟨rfl,HB.out⟩
theorem q8 (d:Vd) (x y:Sl) (m:Mem) (n:Nat) (w:World) (hm:m.inn w) (htab:TabM m) (h1:VAt m n x d.1) (h2:VAt m n y d.2) (f1:FewV n d.1) (f2:FewV n d.2) (t1:vcnt n d.1≤1048576) (t2:vcnt n d.2≤1048576) :
 Calls Tryz.prog 19 #[bz d x y] w fun e w'=>e=.returned (.bool (tf (SndV d.1)&&tf (SndV d.2)))∧Below w.heap.size w w':=by
 have hO:=(Own.start hm).al (dcs d x y).toArray 35;have HC:=zh (jF d.1 x m n _ hO.inn htab h1 f1 t1);have HF:=zh (fun w' (h:m.inn w')=>jF d.2 y m n w' h htab h2 f2 t2);have hN:(nine d.1 x).length=9:=rfl;have hN2:(nine d.2 y).length=9:=rfl;have HD:=zh (zi (fun j u=>@lK d x y j u) (fun j u=>@lJ d x y j u));have HO:=zh hO;unfold Vl.val bz at *
 generalize nine d.1 x=N at *
 generalize nine d.2 y=N2 at *
 generalize dcs d x y=D at *
 clear hO h1 h2 f1 f2;have q0:=HO.out.obj.sub (o:=0) (cs:=N) fun j u hj=>by simpa using HD.out.1 j u hj
 generalize tf (SndV d.1)=s1 at *
 generalize tf (SndV d.2)=s2 at *
 refine ay fun R hR=>?_
 go_enter Tryz.func19,Tryz.ntmps19
 go_wp2_with (refine ae tyV rfl (.tmp 3) rfl rfl N hN q0 ?_)
 refine HC.out.mono ?_;rintro e w1 ⟨rfl,hb1⟩;have HO1:=zh (HO.out.move hb1);have HF1:=zh (HF.out w1 HO1.out.inn);have q1:=HO1.out.obj.sub (o:=9) (cs:=N2) fun j u hj=>by simpa using HD.out.2 j u hj
 clear HO HC HF hb1 q0;cases s1
 ·have HB:=zh HO1.out.below;clear HO1 HF1 q1;go_wp2;exact hR.out _ _ ⟨rfl,HB.out⟩
 ·go_wp2_with (refine ae tyV rfl (.tmp 7) rfl rfl N2 hN2 q1 ?_)
  refine HF1.out.mono ?_;rintro e w2 ⟨rfl,hb2⟩;have HB:=zh (HO1.out.move hb2).below;clear HO1 HF1 hb2 q1;go_wp2;exact hR.out _ _ ⟨rfl,HB.out⟩
theorem yL (d:Vd) (x y:Sl) (d':Vd) (x' y':Sl) (m:Mem) (n:Nat) (w:World) (hm:m.inn w) (htab:TabM m) (h1:VAt m n x d.1) (h2:VAt m n y d.2) (h1':VAt m n x' d'.1) (h2':VAt m n y' d'.2) (kd:dG n d) (kd':dG n d') :
 Calls Tryz.prog 10 #[bz d x y,bz d' x' y'] w fun e w'=>e=.returned (.bool true)∧Below w.heap.size w w':=by
 obtain⟨m1,l1,c1,hO1⟩:=gu 35 (dcs d x y).toArray (Own.start hm);obtain⟨m2,l2,c2,hO2⟩:=gu 35 (dcs d' x' y').toArray hO1;simp only[bB] at c2;have l12:=Mem.le_trans l1 l2;have HT:=zh (htab.le l12);have HA:=zh (zi (zi (h1.le l12) (h2.le l12)) (zi (h1'.le l12) (h2'.le l12)));have HS:=zh (fun (w':World) (h:m2.inn w')=>ll n d x y m2 w' h HA.out.1.1 HA.out.1.2 kd.1 kd.2);have HS':=zh (fun (w':World) (h:m2.inn w')=>ll n d' x' y' m2 w' h HA.out.2.1 HA.out.2.2 kd'.1 kd'.2);have HN:=zh (fun (w':World) (h:m2.inn w') (f:FewV n d.1∧FewV n d.2)=>q8 d x y m2 n w' h HT.out HA.out.1.1 HA.out.1.2 f.1 f.2 kd.1 kd.2);have HN':=zh (fun (w':World) (h:m2.inn w') (f:FewV n d'.1∧FewV n d'.2)=>q8 d' x' y' m2 n w' h HT.out HA.out.2.1 HA.out.2.2 f.1 f.2 kd'.1 kd'.2);have HE:=zh (fun (w':World) (h:m2.inn w') (f:FewV n d.1∧FewV n d.2)=>jg d d' x y x' y' m2 n w' h HT.out HA.out.1.1 HA.out.1.2 HA.out.2.1 HA.out.2.2 kd kd' f.1 f.2);have HE2:=zh (fun (w':World) (h:m2.inn w') (f:FewV n d.1∧FewV n d.2)=>jg d d x y x y m2 n w' h HT.out HA.out.1.1 HA.out.1.2 HA.out.1.1 HA.out.1.2 kd kd f.1 f.2);have HM:=zh (fun (w':World) (h:m2.inn w')=>fI d d' x y x' y' m2 w' h HA.out.1.1 HA.out.1.2 HA.out.2.1 HA.out.2.2 kd kd');have HC:=zh (fun (w':World) (h:m2.inn w') j u (hj:(dcs d x y)[j]?=some u)=>Mem.aj h (Mem.aA l2 (c1 j u (by simpa using hj))));have HC':=zh (fun (w':World) (h:m2.inn w') j u (hj:(dcs d' x' y')[j]?=some u)=>Mem.aj h (c2 j u (by simpa using hj)));have C0:m2.cell w.heap.size 0=some (.bool d.1.any):=Mem.aA l2 (c1 0 _ rfl);have C1:m2.cell (w.heap.size+1) 0=some (.bool d'.1.any):=c2 0 _ rfl;have hl:(dcs d x y).length=18:=rfl;have hl':(dcs d' x' y').length=18:=rfl;have HO:=zh hO2;unfold bz at *
 generalize dcs d x y=D at *
 generalize dcs d' x' y'=E at *
 clear hO1 hO2 htab h1 h2 h1' h2' l1 c1 l2 c2 l12 kd kd';refine ay fun R hR=>?_
 go_enter Tryz.func10,Tryz.ntmps10
 go_wp2_with (first | refine ae tyD rfl (.tmp 2) rfl rfl D hl (fun j u hj=>by rw[Nat.zero_add];exact HC.out _ HO.out.inn j u hj) ?_ | refine ae tyD rfl (.tmp 3) rfl rfl E hl' (fun j u hj=>by rw[Nat.zero_add];exact HC'.out _ HO.out.inn j u hj) ?_)
 refine (HS.out _ HO.out.inn).mono ?_;rintro e w1 ⟨rfl,hb1⟩;have HO0:=zh (HO.out.move hb1);clear HO hb1;cases hb0:(gD n d.1&&gD n d.2)
 case false=>
  clear hb0
  go_wp2_with fail
  refine (bv m2 _ HO0.out.inn HT.out).mono ?_;rintro e wz ⟨rfl,hbz⟩;have HB:=zh (HO0.out.move hbz).below;clear HO0 hbz;go_wp2;exact hR.out _ _ ⟨rfl,HB.out⟩
 have HF:=zh (show FewV n d.1∧FewV n d.2 from by
  rw[Bool.and_eq_true] at hb0;exact⟨(iV hb0.1).few,(iV hb0.2).few⟩)
 clear hb0
 go_wp2_with (first | refine ae tyD rfl (.tmp 2) rfl rfl D hl (fun j u hj=>by rw[Nat.zero_add];exact HC.out _ HO0.out.inn j u hj) ?_ | refine ae tyD rfl (.tmp 3) rfl rfl E hl' (fun j u hj=>by rw[Nat.zero_add];exact HC'.out _ HO0.out.inn j u hj) ?_)
 refine (HS'.out _ HO0.out.inn).mono ?_;rintro e w2 ⟨rfl,hb1⟩;have HO1:=zh (HO0.out.move hb1);clear HO0 hb1;cases hb1:(gD n d'.1&&gD n d'.2)
 case false=>
  clear hb1
  go_wp2_with fail
  refine (bv m2 _ HO1.out.inn HT.out).mono ?_;rintro e wz ⟨rfl,hbz⟩;have HB:=zh (HO1.out.move hbz).below;clear HO1 hbz;go_wp2;exact hR.out _ _ ⟨rfl,HB.out⟩
 have HF':=zh (show FewV n d'.1∧FewV n d'.2 from by
  rw[Bool.and_eq_true] at hb1;exact⟨(iV hb1.1).few,(iV hb1.2).few⟩)
 clear hb1
 go_wp2_with (first | refine ae tyD rfl (.tmp 2) rfl rfl D hl (fun j u hj=>by rw[Nat.zero_add];exact HC.out _ HO1.out.inn j u hj) ?_ | refine ae tyD rfl (.tmp 3) rfl rfl E hl' (fun j u hj=>by rw[Nat.zero_add];exact HC'.out _ HO1.out.inn j u hj) ?_)
 refine (HN.out _ HO1.out.inn HF.out).mono ?_;rintro e w3 ⟨rfl,hb1⟩;have HO2:=zh (HO1.out.move hb1);clear HO1 hb1;cases hb2:(tf (SndV d.1)&&tf (SndV d.2))
 case false=>
  clear hb2
  go_wp2_with fail
  refine (bv m2 _ HO2.out.inn HT.out).mono ?_;rintro e wz ⟨rfl,hbz⟩;have HB:=zh (HO2.out.move hbz).below;clear HO2 hbz;go_wp2;exact hR.out _ _ ⟨rfl,HB.out⟩
 have HG2:=zh hb2;clear hb2
 go_wp2_with (first | refine ae tyD rfl (.tmp 2) rfl rfl D hl (fun j u hj=>by rw[Nat.zero_add];exact HC.out _ HO2.out.inn j u hj) ?_ | refine ae tyD rfl (.tmp 3) rfl rfl E hl' (fun j u hj=>by rw[Nat.zero_add];exact HC'.out _ HO2.out.inn j u hj) ?_)
 refine (HN'.out _ HO2.out.inn HF'.out).mono ?_;rintro e w4 ⟨rfl,hb1⟩;have HO3:=zh (HO2.out.move hb1);clear HO2 hb1;cases hb3:(tf (SndV d'.1)&&tf (SndV d'.2))
 case false=>
  clear hb3
  go_wp2_with fail
  refine (bv m2 _ HO3.out.inn HT.out).mono ?_;rintro e wz ⟨rfl,hbz⟩;have HB:=zh (HO3.out.move hbz).below;clear HO3 hbz;go_wp2;exact hR.out _ _ ⟨rfl,HB.out⟩
 have HG3:=zh hb3;clear hb3
 go_upto_region 3 with (fail)
 rw[HG2.out] at HE HE2
 try rw[aI (p:=True) trivial] at HE2
 simp only[Bool.and_true] at HE HE2;refine aN [4] (fun vs w'=>vs=[.bool true]∧Own w m w' m2 []) ?_ ?_
 ·intro Y hY;generalize hp:tf (d=d')=sb at *
  clear hp;refine aX 15 8 (fun j=>[Fact.is (·=.agg D.toArray),Fact.is (·=.agg E.toArray),Fact.is (·=.bool sb),Fact.is (·=.agg D.toArray),Fact.is (·=.agg E.toArray),Fact.is (·=.bool sb),Fact.is (·=.bool true),Fact.is (·=.bool true),Fact.is (·=.agg D.toArray),Fact.is (·=.agg D.toArray),Fact.is (·=.bool true),Fact.is (·=.bool true),Fact.is (·=.bool true),Fact.is (·=.bool true),Fact.is (·=.bool true)].getD j Fact.any) zk zk ?_ ?_
  ·intro i hi o win a wr ho RA;have HO2:=HO3.out.dr.move RA.below;have y3:=Mem.av HO2.inn C0;have y4:=Mem.av HO2.inn C1;rcases (show i=0∨i=1∨i=2∨i=3∨i=4∨i=5∨i=6∨i=7∨i=8∨i=9∨i=10∨i=11∨i=12∨i=13∨i=14 by omega) with rfl | rfl | rfl | rfl | rfl | rfl | rfl | rfl | rfl | rfl | rfl | rfl | rfl | rfl | rfl
   ·have e2:=RA.k 2;cases ho;refine aO rfl rfl (aK (tyD.exec (b:=w.heap.size) (off:=0) rfl zg hl (fun j u hj=>by rw[Nat.zero_add];exact HC.out _ HO2.inn j u hj)) ⟨_,rfl,Below.refl _ _,rfl⟩)
   ·have e3:=RA.k 3;cases ho;refine aO rfl rfl (aK (tyD.exec (b:=w.heap.size+1) (off:=0) rfl zg hl' (fun j u hj=>by rw[Nat.zero_add];exact HC'.out _ HO2.inn j u hj)) ⟨_,rfl,Below.refl _ _,rfl⟩)
   ·have e24:a.tmps.getD 24 undef=_:=RA.d 0 rfl;have e25:a.tmps.getD 25 undef=_:=RA.d 1 rfl;cases ho;refine we rfl rfl (HE.out wr HO2.inn HF.out) ?_;rintro e w' ⟨rfl,hb⟩;exact⟨_,rfl,_,rfl,hb,rfl⟩
   ·have e2:=RA.k 2;cases ho;refine aO rfl rfl (aK (tyD.exec (b:=w.heap.size) (off:=0) rfl zg hl (fun j u hj=>by rw[Nat.zero_add];exact HC.out _ HO2.inn j u hj)) ⟨_,rfl,Below.refl _ _,rfl⟩)
   ·have e3:=RA.k 3;cases ho;refine aO rfl rfl (aK (tyD.exec (b:=w.heap.size+1) (off:=0) rfl zg hl' (fun j u hj=>by rw[Nat.zero_add];exact HC'.out _ HO2.inn j u hj)) ⟨_,rfl,Below.refl _ _,rfl⟩)
   ·have e27:a.tmps.getD 27 undef=_:=RA.d 3 rfl;have e28:a.tmps.getD 28 undef=_:=RA.d 4 rfl;cases ho;refine we rfl rfl (HM.out wr HO2.inn) ?_;rintro e w' ⟨rfl,hb⟩;exact⟨_,rfl,_,rfl,hb,rfl⟩
   ·have e26:a.tmps.getD 26 undef=_:=RA.d 2 rfl;have e29:a.tmps.getD 29 undef=_:=RA.d 5 rfl;cases ho;exact wv rfl rfl rfl
   ·have e30:a.tmps.getD 30 undef=_:=RA.d 6 rfl;cases ho;exact wv rfl rfl rfl
   ·have e2:=RA.k 2;have e31:a.tmps.getD 31 undef=_:=RA.d 7 rfl;cases ho;refine dn rfl (bQ rfl rfl e31) (aK (tyD.exec (b:=w.heap.size) (off:=0) rfl zg hl (fun j u hj=>by rw[Nat.zero_add];exact HC.out _ HO2.inn j u hj)) ⟨_,rfl,Below.refl _ _,rfl⟩)
   ·have e2:=RA.k 2;have e31:a.tmps.getD 31 undef=_:=RA.d 7 rfl;cases ho;refine dn rfl (bQ rfl rfl e31) (aK (tyD.exec (b:=w.heap.size) (off:=0) rfl zg hl (fun j u hj=>by rw[Nat.zero_add];exact HC.out _ HO2.inn j u hj)) ⟨_,rfl,Below.refl _ _,rfl⟩)
   ·have e32:a.tmps.getD 32 undef=_:=RA.d 8 rfl;have e33:a.tmps.getD 33 undef=_:=RA.d 9 rfl;have e31:a.tmps.getD 31 undef=_:=RA.d 7 rfl;cases ho;refine we2 rfl rfl rfl e31 (HE2.out wr HO2.inn HF.out) ?_;rintro e w' ⟨rfl,hb⟩;exact⟨_,rfl,_,rfl,hb,rfl⟩
   ·have e31:a.tmps.getD 31 undef=_:=RA.d 7 rfl;have e34:a.tmps.getD 34 undef=_:=RA.d 10 rfl;cases ho;exact wv rfl rfl rfl
   ·have e35:a.tmps.getD 35 undef=_:=RA.d 11 rfl;cases ho;exact wv rfl rfl rfl
   ·have e36:a.tmps.getD 36 undef=_:=RA.d 12 rfl;cases ho;refine we2 rfl rfl rfl e36 (bv m2 wr HO2.inn HT.out) ?_;rintro e w' ⟨rfl,hb⟩;exact⟨_,rfl,_,rfl,hb,rfl⟩
   ·have e36:a.tmps.getD 36 undef=_:=RA.d 12 rfl;have e37:a.tmps.getD 37 undef=_:=RA.d 13 rfl;cases ho;exact wv rfl rfl rfl
  ·intro win a wr E;have e38:a.tmps.getD 38 undef=.bool true:=E.fact 14 _ zo rfl;have hZ:=HO3.out.dr.move E.below;obtain⟨t1,dd⟩:=a;obtain rfl:dd=[]:=E.defers;refine jB 15 zk (aO rfl rfl (aK (by go_simp;first | done | exact⟨rfl,rfl⟩ | rfl) ?_));refine di zk (hY.out _ _ (by simpa using E.size) ⟨?_,hZ⟩) _;have hsz:t1.size=39:=E.size;simp[hsz] at e38;simp[hsz]
 rintro z vs w2 - ⟨rfl,hO⟩;simp[litL,lk];have HB:=zh hO.below;clear hO HO3 HT HC HC' HS HS' HN HN' HE HE2 HM HF HF' HA;go_wp2;exact hR.out _ _ ⟨rfl,HB.out⟩
theorem uX (d:Vd) (x y:Sl) (d':Vd) (x' y':Sl) (m:Mem) (n0 n1:Nat) (w:World) (hm:m.inn w) (htab:TabM m) (h1:VAt m n0 x d.1) (h2:VAt m n0 y d.2) (h1':VAt m n1 x' d'.1) (h2':VAt m n1 y' d'.2)
 (t:vcnt n0 d.1≤1048576∧vcnt n0 d.2≤1048576) (t':vcnt n1 d'.1≤1048576∧vcnt n1 d'.2≤1048576) :
 Calls Tryz.prog 10 #[bz d x y,bz d' x' y'] w fun e w'=>e=.returned (.bool true)∧Below w.heap.size w w':=
 yL d x y d' x' y' m (max n0 n1) w hm htab (h1.mono (Nat.le_max_left ..)) (h2.mono (Nat.le_max_left ..)) (h1'.mono (Nat.le_max_right ..)) (h2'.mono (Nat.le_max_right ..))
  ⟨by rw[jC h1.ht (Nat.le_max_left ..)];exact t.1,by rw[jC h2.ht (Nat.le_max_left ..)];exact t.2⟩ ⟨by rw[jC h1'.ht (Nat.le_max_right ..)];exact t'.1,by rw[jC h2'.ht (Nat.le_max_right ..)];exact t'.2⟩
end Cl
namespace Go.Proofs.YtdgjplfcpcphoaaGreatDoor.valueEquals
open Go Go.RowKit Go.Proofs Go.ChangeShapes Go.WideShapes Go.ChangeAt Cl
theorem contract (H:Type) (enc:TypeId × Value→H) (W:World) (base:Nat) (args:Array Value) (ds gs:List (DataW H)) (before:List MemPlace)
 (hval0:∀(j:Nat) t v,Tryz.f10.params[j]?=some t→args[j]?=some v→Value.okWide Tryz.prog W .any base t v)
 (hW:DataW.Whole enc Tryz.prog Tryz.f10.params.toList Rows.valueEqualsSpec.vars false W args.toList ds gs before) (hk:Rows.uptoSmall H (ds ++ gs)=true) (hL:laidMetH Tryz.prog jX W) :
 Calls Tryz.prog 10 args W fun e W'=>∃v,e=.returned v∧Rows.valueEqualsSpec.post enc Tryz.prog Tryz.f10 false true false false W args v W':=by
 have hval:=hval0;have hW':=hW;obtain⟨p,q,hA0,hV,rfl,hfz,hnd⟩:=hW;have hA:DataW.TrodAll enc Tryz.prog W 0 (fun _=>true) true Tryz.f10.params.toList args.toList ds p:=hA0;rw[Tryz.params10] at hA hval;obtain⟨v0,v1,d0,d1,p0,p1,rfl,rfl,rfl,h0,h1⟩:=trodAll_two hA;obtain⟨rfl,rfl⟩:=trodVars_none hV;have hb0:=jR hk (d:=d0) (by simp);obtain⟨n0,x0,y0,A0,rfl,hT0,hU0,hc0⟩:=D5 Ie (hval 0 _ _ rfl rfl) h0;have ht0:=EY hc0 hb0;have hb1:=jR hk (d:=d1) (by simp);obtain⟨n1,x1,y1,A1,rfl,hT1,hU1,hc1⟩:=D5 Ie (hval 1 _ _ rfl rfl) h1;have ht1:=EY hc1 hb1;refine (uX A0 x0 y0 A1 x1 y1 (Mem.of W) n0 n1 W (Mem.o9 W) (oP hL) hT0 hU0 hT1 hU1 ht0 ht1).mono fun e W' ⟨he,hb⟩=>?_;subst he;exact⟨_,rfl,pz rfl (by kernel_rfl) (by kernel_rfl) rfl hW' hb⟩
theorem laid_met (os:Os):laidMet Tryz.prog Rows.valueEqualsUptoRow.laid ((dV os).forCall (fun _ _=>0) ⟨#[],#[.agg #[.bool false,.bool false,.bool false,.bool false,.slice none 0 0,.slice none 0 0,.slice none 0 0,.slice none 0 0,.slice none 0 0,.bool false,.bool false,.bool false,.bool false,.slice none 0 0,.slice none 0 0,.slice none 0 0,.slice none 0 0,.slice none 0 0],.agg #[.bool false,.bool false,.bool false,.bool false,.slice none 0 0,.slice none 0 0,.slice none 0 0,.slice none 0 0,.slice none 0 0,.bool false,.bool false,.bool false,.bool false,.slice none 0 0,.slice none 0 0,.slice none 0 0,.slice none 0 0,.slice none 0 0]],[]⟩).memory:=
 laidMet_of_run' 8 (by kernel_rfl) (by kernel_rfl)
theorem reads (os:Os) {H:Type} (enc:TypeId × Value→H):∃places,DataW.whole enc Tryz.prog ((dV os).forCall (fun _ _=>0) ⟨#[],#[.agg #[.bool false,.bool false,.bool false,.bool false,.slice none 0 0,.slice none 0 0,.slice none 0 0,.slice none 0 0,.slice none 0 0,.bool false,.bool false,.bool false,.bool false,.slice none 0 0,.slice none 0 0,.slice none 0 0,.slice none 0 0,.slice none 0 0],.agg #[.bool false,.bool false,.bool false,.bool false,.slice none 0 0,.slice none 0 0,.slice none 0 0,.slice none 0 0,.slice none 0 0,.bool false,.bool false,.bool false,.bool false,.slice none 0 0,.slice none 0 0,.slice none 0 0,.slice none 0 0,.slice none 0 0]],[]⟩).memory Tryz.f10.params.toList Rows.valueEqualsSpec.vars false #[Value.agg #[.bool false,.bool false,.bool false,.bool false,.slice none 0 0,.slice none 0 0,.slice none 0 0,.slice none 0 0,.slice none 0 0,.bool false,.bool false,.bool false,.bool false,.slice none 0 0,.slice none 0 0,.slice none 0 0,.slice none 0 0,.slice none 0 0],Value.agg #[.bool false,.bool false,.bool false,.bool false,.slice none 0 0,.slice none 0 0,.slice none 0 0,.slice none 0 0,.slice none 0 0,.bool false,.bool false,.bool false,.bool false,.slice none 0 0,.slice none 0 0,.slice none 0 0,.slice none 0 0,.slice none 0 0]].toList 8=some ([.agg [.agg [.lit (.bool false),.agg [.lit (.bool false),.lit (.bool false),.lit (.bool false),.agg [.nil,.nil],.agg [.nil]],.nil,.nil],.agg [.lit (.bool false),.agg [.lit (.bool false),.lit (.bool false),.lit (.bool false),.agg [.nil,.nil],.agg [.nil]],.nil,.nil]],.agg [.agg [.lit (.bool false),.agg [.lit (.bool false),.lit (.bool false),.lit (.bool false),.agg [.nil,.nil],.agg [.nil]],.nil,.nil],.agg [.lit (.bool false),.agg [.lit (.bool false),.lit (.bool false),.lit (.bool false),.agg [.nil,.nil],.agg [.nil]],.nil,.nil]]],[],places):=
 ⟨[],by kernel_rfl⟩
theorem lifted (os:Os) (started:os.Started) (H:Type) (enc:TypeId × Value→H) (F:Stop.Interp) :
 ReturnsInHanded {} Tryz.checked os 10 .any ((Rows.OpenSpec.upto Rows.valueEqualsSpec).preRow enc Tryz.prog Tryz.f10 Rows.valueEqualsUptoRow.domain false Rows.valueEqualsUptoRow.laid) (((Rows.OpenSpec.upto Rows.valueEqualsSpec).at F).post enc Tryz.prog Tryz.f10 false true false false):=by
 obtain⟨places,hx⟩:=reads os enc;refine returnsInHanded_of_row (C:=Tryz.checked) (s:=Rows.OpenSpec.upto Rows.valueEqualsSpec) oQ started (by kernel_rfl) Tryz.func10
  (witness_row_at (enc:=enc) (C:=Tryz.checked) false (dV os) #[.agg #[.bool false,.bool false,.bool false,.bool false,.slice none 0 0,.slice none 0 0,.slice none 0 0,.slice none 0 0,.slice none 0 0,.bool false,.bool false,.bool false,.bool false,.slice none 0 0,.slice none 0 0,.slice none 0 0,.slice none 0 0,.slice none 0 0],.agg #[.bool false,.bool false,.bool false,.bool false,.slice none 0 0,.slice none 0 0,.slice none 0 0,.slice none 0 0,.slice none 0 0,.bool false,.bool false,.bool false,.bool false,.slice none 0 0,.slice none 0 0,.slice none 0 0,.slice none 0 0,.slice none 0 0]] rfl (by kernel_rfl) (by kernel_rfl) (by kernel_rfl)
   (OpenSpec.preRow_of_cond 8 hx (by kernel_rfl) (fun k hk=>by cases hk;kernel_rfl) (by kernel_rfl) (laid_met os))) ?_
 intro W base args ds gs before hval hW _ hcond _ hL _ _;exact contract H enc W base args ds gs before hval hW (hcond _ rfl) hL
theorem f_inPlace:Tryz.prog.inPlace 10=Rows.valueEqualsUptoRow.inPlace:=by kernel_rfl
theorem f_unfollowed:Tryz.prog.unfollowed 10=Rows.valueEqualsUptoRow.unfollowed:=by kernel_rfl
theorem f_recurses:Tryz.prog.recurses 10=Rows.valueEqualsUptoRow.recurses:=by kernel_rfl
theorem f_named:Tryz.prog.varsNamed 10=Rows.valueEqualsUptoRow.named:=by kernel_rfl
theorem closed:joinedFacts Tryz.prog 10 Tryz.f10 (Rows.OpenSpec.upto Rows.valueEqualsSpec).bare Rows.valueEqualsUptoRow=true:=by
 unfold joinedFacts;rw[f_inPlace,f_unfollowed,f_recurses,f_named]
 kernel_rfl
theorem said:Rows.ValueEqualsUptoSaid:=
 OpenClaim.holds_of_cond 10 Tryz.f10 rfl rfl rfl rfl rfl rfl rfl ⟨rfl,rfl,rfl,rfl,rfl⟩ rfl rfl rfl rfl rfl (by kernel_rfl) Tryz.func10 closed
  (of_decide_eq_true (by kernel_rfl)) (by unfold Func.isWrapper;first | (rw[if_pos (by decide +kernel)];kernel_rfl) | (rw[if_neg (by decide +kernel)];exact⟨rfl,rfl⟩))
  (fun os started H enc _ F=>by rw[OpenClaim.pre_eq_preRow];exact lifted os started H enc F)
theorem plain (f : FuncId) (fn : Func) (hf : Tryz.pinned.checked.prog.funcNamed "configlang/configlanglaw12.ValueEquals" = some f) (hfn : Tryz.pinned.checked.prog.funcs[f]? = some fn) :
 false=Tryz.pinned.checked.prog.looks []∧∀(j:Nat) t,fn.params[j]?=some t→Tryz.pinned.checked.prog.wantsStandIn t=false:=by
 obtain rfl : f = 10 := Option.some.inj ((show Tryz.prog.funcNamed "configlang/configlanglaw12.ValueEquals" = some 10 by kernel_rfl).symm.trans hf) |>.symm
 obtain rfl:fn=Tryz.f10:=(Option.some.inj (Tryz.func10.symm.trans hfn)).symm;refine ⟨by kernel_rfl,fun j t ht=>?_⟩;have hall:Tryz.f10.params.all (fun t => !Tryz.prog.wantsStandIn t)=true:=by kernel_rfl
 have:=Array.all_eq_true_iff_forall_mem.1 hall t (Array.mem_of_getElem? ht);show Tryz.prog.wantsStandIn t=false;simpa using this
theorem c_wf:Rows.valueEqualsUptoRow.wfByText (Rows.OpenSpec.upto Rows.valueEqualsSpec)=true:=by kernel_rfl
theorem c_main:Tryz.pinned.checked.prog.mainIs=some (Rows.valueEqualsUptoCard.stood.harness.1,Rows.valueEqualsUptoCard.stood.harness.2.toList):=by kernel_rfl
theorem c_goes:false=Rows.valueEqualsUptoRow.goesBy Tryz.pinned.checked.prog:=by kernel_rfl
theorem valueEquals_holds:Rows.ValueEqualsUptoCardSaid:=
 Claim7.holds_tied_plain_at .later [] _ _ _ _ said (fun _ h=>by cases h) c_wf (fun _ h=>by cases h) valueEqualsUpto_row_tie rfl ⟨rfl,rfl⟩ c_main rfl plain c_goes
end Go.Proofs.YtdgjplfcpcphoaaGreatDoor.valueEquals
