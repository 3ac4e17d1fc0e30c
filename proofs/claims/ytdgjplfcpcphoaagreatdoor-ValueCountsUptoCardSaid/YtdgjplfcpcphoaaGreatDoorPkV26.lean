/- Lemmas for the proofs of chapter 11. -/
import Derived.Test.YtdgjplfcpcphoaaGreatDoorProg
import Derived.BigQuiet
import Derived.Deep.Cut
import Derived.Deep.QuietTactic
import Derived.Laws.StructEq
import Derived.Lib.AppendStr
import Derived.Lib.Builder
import Derived.Lib.Hide
import Derived.Lib.ItoaLen
import Derived.Maps.OwnOps
import Derived.Maps.OwnSet
import Derived.OrdersHeld
import Derived.Outline
import Derived.StillTailTactics
import Derived.StringKeys
import Derived.WalkKit
import Derived.WalkLawsBesides
import Derived.WalkSpells
import Derived.Deep.RegionHeld
import Derived.Laws.CopyRow
import Derived.Laws.Tables
import Derived.BigFrame
import Derived.Shelf.Strings.Builder1
import Derived.Shelf.Small.Wraps
import Derived.Shelf.LaysM
import Derived.Shelf.Strconv.Itoa3
import Derived.Laws.EntriesVeiled
import Derived.RegionTactic
import Derived.RangeFuncNested
import Derived.RangeFuncBound
import Derived.RangeFuncCalls
import Derived.RangeFuncLeaves
import Derived.OwnWalkIn
import Derived.TacticsInMore
import Derived.LoopNIn
import Derived.LoopIn
import Derived.Shelf.Spec.SlicesGrow
import Derived.Shelf.SlSortCmp.WholeK
import Derived.ChangeAlike
import Derived.Laws.BytesArg
import Derived.Laws.CopyOwn
import Derived.Shelf.Strconv.AppendIntPublic10
import Derived.Test.YtdgjplfcpcphoaaGreatDoorZz
import Derived.Test.YtdgjplfcpcphoaaGreatDoorPkV3
import Derived.Test.YtdgjplfcpcphoaaGreatDoorPkV1
import Derived.Test.YtdgjplfcpcphoaaGreatDoorPkV4
import Derived.Test.YtdgjplfcpcphoaaGreatDoorPkV6
import Derived.Test.YtdgjplfcpcphoaaGreatDoorPkV15
import Derived.Test.YtdgjplfcpcphoaaGreatDoorPkV2
import Derived.Test.YtdgjplfcpcphoaaGreatDoorPkV24
import Derived.Test.YtdgjplfcpcphoaaGreatDoorPkV7
import Derived.Test.YtdgjplfcpcphoaaGreatDoorPkV8
import Derived.Test.YtdgjplfcpcphoaaGreatDoorPkV16
import Derived.Test.YtdgjplfcpcphoaaGreatDoorPkV19
import Derived.Test.YtdgjplfcpcphoaaGreatDoorPkV5
import Derived.Test.YtdgjplfcpcphoaaGreatDoorPkV10
import Derived.Test.YtdgjplfcpcphoaaGreatDoorPkV14
import Derived.Test.YtdgjplfcpcphoaaGreatDoorPkV9
import Derived.Test.YtdgjplfcpcphoaaGreatDoorPkV17
import Derived.Test.YtdgjplfcpcphoaaGreatDoorPkV25
import Derived.Test.YtdgjplfcpcphoaaGreatDoorPkV11
import Derived.Test.YtdgjplfcpcphoaaGreatDoorPkV13
import Derived.Test.YtdgjplfcpcphoaaGreatDoorPkV18
import Derived.Test.YtdgjplfcpcphoaaGreatDoorPkV12
import Derived.Test.YtdgjplfcpcphoaaGreatDoorPkV20
import Derived.Test.YtdgjplfcpcphoaaGreatDoorPkV21
set_option maxRecDepth 100000
set_option maxHeartbeats 16000000
namespace Cl
open Go Go.RowKit Go.Proofs
def qL (s:List UInt8) (k:Nat):Table:=(List.range k).map fun i=>⟨false,[⟨(s.getD i 0).toNat,(s.getD i 0).toNat,(i+1:Nat)⟩]⟩
theorem EK (s:List UInt8) (k:Nat):qL s (k+1)=qL s k ++ [⟨false,[⟨(s.getD k 0).toNat,(s.getD k 0).toNat,(k+1:Nat)⟩]⟩]:=by
 simp[qL,List.range_succ]
theorem kH (s:List UInt8) (k:Nat):(qL s k).length=k:=by simp[qL]
theorem MX {mk:Mem} {w:World} {g:Nat} {t:TypeId} {lo hi:Nat} {to:Int} (h:bz w g t #[.int .u8 lo,.int .u8 hi,.int .i64 to]) (hk:edOk ⟨lo,hi,to⟩):iy (mk.add w g) (.slice (some ⟨g,0,none⟩) 1 1) [⟨lo,hi,to⟩]:=by
 refine ⟨some ⟨g,0,none⟩,1,rfl,zS,by simp[maxLen],fun _=>⟨g,0,rfl,fun i hi=>?_⟩⟩;have:i=0:=by simpa using hi
 subst this;exact⟨Mem.dR h rfl,Mem.dR h rfl,Mem.dR h rfl,hk⟩
theorem M4 (mk:Mem):iy mk (.slice none 0 0) []:=⟨none,0,rfl,zS,by simp[maxLen],fun h=>absurd rfl h⟩
theorem BX (s:ByteArray) (m:Mem) (w:World) (hm:m.inn w) (hs:s.size≤1000) :
 Calls Tryz.prog 151 #[.string s] w fun e w'=>∃r,e=.returned (.agg #[r])∧Below w.heap.size w w'∧aQ (m.grow w w') r (qL s.data.toList s.size ++ [⟨true,[]⟩]):=by
 refine av fun R hR=>?_
 go_enter Tryz.func151,Tryz.ntmps151
 go_wp2;refine au [0,2,3,4] (fun n vs wr=>∃(k:Nat) (v:Value) (xs:List Value) (mk:Mem),k≤s.size∧n=s.size - k∧vs=[.string s,.pointer (some ⟨w.heap.size,0,none⟩),.pointer (some ⟨w.heap.size+1,0,none⟩),.int .i64 k] ∧
  Own w m wr mk [.obj (w.heap.size+1) 27 #[v],.row v 80 2 k xs,.obj w.heap.size 27 #[.slice none 0 0]]∧kw mk xs (qL s.data.toList k)) ?_ ?_
 ·refine ⟨_,0,.slice none 0 0,[],m,Nat.zero_le _,rfl,rfl,?_,kw.nil m⟩;have:=(((Own.start hm).al #[.slice none 0 0] 27).al #[.slice none 0 0] 27).dC 80 2;simpa using this.swap
 rintro X z n vs wr hX - ⟨k,v,xs,mk,hk,rfl,rfl,hO,hrow⟩;simp[litL,lk];have ho2:=hO.obj;have c1:=ho2.cell (i:=0) (v:=v) rfl;have f1:=ho2.frozen 0;have l1:=ho2.lt;by_cases hlt:k<s.size
 ·go_wp2;have hw1:IntKind.i64.wrap ((k:Int)+1)=(k:Int)+1:=IntWalk.i64_in _ zo;refine gT (fun w'=>bz w' (w.heap.size+1) 27 #[v]) 16 zk ?_;have hS:bz wr.drew (w.heap.size+1) 27 #[v]:=ho2.dr;refine aG 0 rfl zk (fun _ _ _ h=>h) hS (aB rfl fun w' hS'=>by have q:=hS'.cell (i:=0) rfl;go_simp;rfl) ?_;refine aG 1 rfl zk (fun _ _ _ h=>h) hS (aB rfl fun w' hS'=>by have q:=hS'.cell (i:=0) rfl;go_simp;rfl) ?_;refine aG 2 rfl zk (fun _ _ _ h=>h) hS (aB rfl fun w' hS'=>by have q:=hS'.cell (i:=0) rfl;go_simp;rfl) ?_;refine aG 3 rfl zk (fun _ _ _ h=>h) hS (aB rfl fun w' hS'=>by have q:=hS'.cell (i:=0) rfl;go_simp;rfl) ?_;refine aG 4 rfl zk (fun _ _ _ h=>h) hS (aB rfl fun w' hS'=>by have q:=hS'.cell (i:=0) rfl;go_simp;rfl) ?_;refine aG 5 rfl zk (fun _ _ _ h=>h) hS (aB rfl fun w' hS'=>by have q:=hS'.cell (i:=0) rfl;go_simp;rfl) ?_;refine aG 6 rfl zk (fun _ _ _ h=>h) hS (aB rfl fun w' hS'=>by have q:=hS'.cell (i:=0) rfl;go_simp;rfl) ?_;refine aG 7 rfl zk (fun _ _ _ h=>h) hS (aB rfl fun w' hS'=>by have q:=hS'.cell (i:=0) rfl;go_simp;rfl) ?_;refine aG 8 rfl zk (fun _ _ _ h=>h) hS (aB rfl fun w' hS'=>by have q:=hS'.cell (i:=0) rfl;go_simp;rfl) ?_;refine aG 9 rfl zk (fun _ _ _ h=>h) hS (aB rfl fun w' hS'=>by have q:=hS'.cell (i:=0) rfl;go_simp;rfl) ?_;refine aG 10 rfl zk (fun _ _ _ h=>h) hS (aB rfl fun w' hS'=>by have q:=hS'.cell (i:=0) rfl;go_simp;rfl) ?_;refine aW 11 zk (aP rfl rfl (aM (by go_simp;exact⟨rfl,rfl⟩) (andS (ho2.al _).dr fun hS1=>?_)));refine aG 12 rfl zk (fun _ _ _ h=>h) hS1 (aB rfl fun w' hS'=>by have q:=hS'.cell (i:=0) rfl;go_simp;rfl) ?_;refine aW 13 zk (aP rfl rfl (aM (by go_simp;exact⟨rfl,rfl⟩) (andS ((ho2.al _).al _).dr fun hS2=>?_)));go_simp;have hO2:=((hO.al #[Value.int IntKind.u8 s[k].toNat,Value.int IntKind.u8 s[k].toNat,Value.int IntKind.i64 (k+1)] 104).al #[Value.bool false,Value.slice (some ⟨wr.heap.size,0,none⟩) 1 1] 80).dr;rw[show (wr.alloc (.cells #[Value.int IntKind.u8 s[k].toNat,Value.int IntKind.u8 s[k].toNat,Value.int IntKind.i64 (k+1)] 104)).heap.size=wr.heap.size+1 by simp] at hO2;have hO3:=hO2.tail.jm;have hed:=MX (mk:=mk) (lo:=s[k].toNat) (hi:=s[k].toNat) (to:=(k:Int)+1) hO2.tail.obj ⟨s[k].toNat_lt,s[k].toNat_lt,by show _≤(k:Int)+1;omega,by show (k:Int)+1≤_;omega⟩;have hf:=hO2.tail.jr;refine aW 14 zk (aP rfl rfl (eH lM (.tmp 12) (.tmp 24) rfl v k xs rfl hO3.swap.row ⟨wr.heap.size+1,0,none⟩ 1 1 [.bool false,.slice (some ⟨wr.heap.size,0,none⟩) 1 1] rfl rfl (hO2.obj.news rfl) (by simp[Value.oneCell']) (by unfold maxLen;omega) zo (fun va vc w3 hown3 hgrow hrow3=>?_)));have hO4:=hO3.swap.app hown3 hgrow hrow3 (Nat.le_refl _);refine andS hO4.swap.obj fun hS3=>?_;have f3:=hS3.frozen 0;have c3:=hS3.cell (i:=0) rfl;refine aG 15 rfl zk (fun _ _ _ h=>h) hS3 (aB rfl fun w' hS'=>by have q:=hS'.cell (i:=0) rfl;go_simp;rfl) ?_;refine aW 16 zk (aP rfl rfl (iH (by go_simp;rfl) (p8 rfl ?_)));refine gU zk ?_ _;have hO5:=hO4.swap.set 0 (.slice va (k+1) vc);have hrow5:=(hrow.mono (Mem.kC hf)).push (s:=⟨false,[⟨s[k].toNat,s[k].toNat,(k+1:Nat)⟩]⟩) hed;have Hfin:=zh (zi hO5 hrow5);clear hO5 hrow5 hO4 hO3 hO2 hO hed hf hown3 hgrow hrow3 hS hS1 hS2 hS3 f3 c3 ho2 c1 f1;go_wp2;refine hX.out _ _ _ zo rfl ⟨k+1,_,_,_,zo,rfl,rfl,Hfin.out.1,?_⟩;have hg:=Hfin.out.2;rw[EK];have e:s.data.toList.getD k 0=s[k]:=by
   rw[List.getD_eq_getElem?_getD];have:s.data.toList[k]?=some s[k]:=by
    rw[List.getElem?_eq_getElem (by simpa using hlt)];rfl
   rw[this];rfl
  rw[e];exact hg
 ·obtain rfl:k=s.size:=zo;have hO1:=hO.al #[Value.bool true,Value.slice none 0 0] 80
  go_wp2_with (at_builtin;refine aC lM rfl (.tmp 28) (.tmp 30) rfl v s.size xs rfl (hO1.third).row ⟨wr.heap.size,0,none⟩ 1 1 [.bool true,.slice none 0 0] rfl rfl (hO1.obj.news rfl) (by simp[Value.oneCell']) (by unfold maxLen;omega) zo ?_)
  intro va vc w3 hown3 hgrow hrow3;have hO2:=hO1.third.app hown3 hgrow hrow3 zS;have hS3:=hO2.third.obj;have f3:=hS3.frozen 0;have c3:=hS3.cell (i:=0) rfl;have l3:=hS3.lt;have g3:=hO2.fourth.obj.cell (i:=0) rfl;have g4:=hO2.fourth.obj.frozen 0;have g5:=hO2.fourth.obj.lt;have hO4:=(hO2.third.set 0 (.slice va (s.size+1) vc)).fourth.set 0 (.slice va (s.size+1) vc);have hrow4:=hrow.push (s:=(⟨true,[]⟩:Sn)) (M4 mk);have hO5:=hO4.third.aY;have hln:(qL s.data.toList s.size ++ [(⟨true,[]⟩:Sn)]).length=s.size+1:=by simp[kH]
  have hst:=fA (l:=qL s.data.toList s.size ++ [(⟨true,[]⟩:Sn)]) (by rw[hln];exact hO4.third.row) hrow4 hO4.third.free;have hfin:=aZ hO5.done hst;have Hfin:=zh (zi hO5.below hfin);clear hO5 hst hfin hO4 hrow4 hown3 hgrow hrow3 hO2 hO1 hO;go_wp2;refine bodyPost_ret (v:=.agg #[.slice va (s.size+1) vc]) (by simp[results,Tryz.results151,go_sem,g3]) rfl ?_;exact hR.out _ _ ⟨_,rfl,Hfin.out.1,Hfin.out.2⟩
theorem xu (u:Value) (l:List Fd) (m:Mem) (n:Nat) (w:World) (hm:m.inn w) (h:ja (VAt m n) m u l) :
 Calls Tryz.prog 99 #[u] w fun e w'=>e=.returned (.bool (tf (dz l)))∧Below w.heap.size w w':=by
 obtain⟨a,c,rfl,p1,q1,k1⟩:=h;unfold maxLen at q1;have HK:=zh k1;have HO:=zh (Own.start hm);clear k1;refine av fun R hR=>?_
 go_enter Tryz.func99,Tryz.ntmps99
 go_wp2;refine au [0,3] (fun q vs wr=>∃(i:Nat),i≤l.length∧q=l.length - i∧vs=[.slice a l.length c,.int .i64 (i:Int)]∧(∀j (hj:j<l.length),j<i→l[j].1.2=1∨l[j].1.2=2)∧(∀j (hj:j+1<l.length),j+1<i→bLt l[j].1.1 (l[j+1]).1.1=true) ∧
  Own w m wr m []) ?_ ?_
 ·exact⟨_,0,Nat.zero_le _,rfl,rfl,fun j hj h=>absurd h (Nat.not_lt_zero _),fun j hj h=>absurd h (Nat.not_lt_zero _),HO.out⟩
 clear HO;rintro X z q vs wr hX - ⟨i,hi,rfl,rfl,hA,hB,hO⟩;simp[litL,lk];by_cases hlt:i<l.length
 case neg=>
  obtain rfl:i=l.length:=zo;have HR:=zh (show dz l from ⟨fun f hf=>by obtain⟨j,hj,rfl⟩:=List.getElem_of_mem hf;exact hA j hj hj,fun j hj=>hB j hj hj⟩);have HB:=zh hO.below;clear hA hB hO hX;go_wp2;exact hR.out _ _ ⟨by rw[aH HR.out] <;> rfl,HB.out⟩
 obtain⟨b,off,rfl,h4⟩:=HK.out (by intro h;simp[h] at hlt);have g0:=Mem.aj hO.inn (h4 i hlt).s;have g1:=Mem.aj hO.inn (h4 i hlt).p;have gl:=Mem.ay hO.inn (h4 i hlt).s;have HPW:=zh (fun j (hj:j<l.length)=>Mem.aj hO.inn (h4 j hj).s);have HAB:=zh (zi hA hB);have HO:=zh (hO.drN 1);have HN1:=zh (show (¬ (l[i].1.2=1∨l[i].1.2=2))→¬ dz l from fun h k=>h (k.pres _ (List.getElem_mem hlt)));generalize hpr:l[i].1.2=pr at *
 generalize hlab:l[i].1.1=lab at *
 have HPR:=zh (zi hpr hlab);clear hO h4 hA hB hpr hlab;by_cases hok:pr=1∨pr=2
 case neg=>
  have hd1:(pr != 1)=true:=bne_iff_ne.2 fun e=>hok (.inl e);have hd2:(pr != 2)=true:=bne_iff_ne.2 fun e=>hok (.inr e);have HR:=zh (HN1.out hok);have HB:=zh HO.out.below;clear HO HPW HN1 hok hX HAB;go_wp2
  go_region
  all_goals go_wp2
  all_goals exact hR.out _ _ ⟨by rw[az HR.out] <;> rfl,HB.out⟩
 have hpres:∀j (hj:j<l.length),j<i+1→l[j].1.2=1∨l[j].1.2=2:=fun j hj h=>by
  by_cases e:j=i
  ·subst e;rw[HPR.out.1];exact hok
  ·exact HAB.out.1 j hj zo
 have HPS:=zh hpres;clear hpres HN1;rcases Nat.eq_zero_or_pos i with rfl | hip
 ·have HAS:=zh (show ∀j (hj:j+1<l.length),j+1<0+1→bLt l[j].1.1 (l[j+1]).1.1=true from fun j hj h=>zo);clear HAB HPR HPW;rcases hok with rfl | rfl
  all_goals
   go_wp2
   go_region
   all_goals go_wp2
   all_goals exact hX.out _ _ _ zo rfl ⟨0+1,zo,rfl,rfl,HPS.out,HAS.out,HO.out⟩
 obtain⟨p,rfl⟩:∃p,i=p+1:=⟨i - 1,zo⟩;have y1:=HPW.out p zo;cases hb:bLt l[p].1.1 lab
 ·have HR:=zh (show ¬ dz l from fun k=>by
   have:=k.asc p zo;rw[HPR.out.2,hb] at this;cases this)
  have HB:=zh HO.out.below;unfold bLt at hb;rw[← ByteArray.toList_eq,← ByteArray.toList_eq] at hb;generalize l[p].1.1=lab2 at *
  clear HAB HPR HPW HO HPS hX;rcases hok with rfl | rfl
  all_goals
   go_wp2
   go_region
   all_goals go_wp2
   all_goals exact hR.out _ _ ⟨by rw[az HR.out] <;> rfl,HB.out⟩
 ·have HAS:=zh (show ∀j (hj:j+1<l.length),j+1<p+1+1→bLt l[j].1.1 (l[j+1]).1.1=true from fun j hj h=>by
   by_cases e:j=p
   ·subst e;rw[HPR.out.2];exact hb
   ·exact HAB.out.2 j hj zo)
  unfold bLt at hb;rw[← ByteArray.toList_eq,← ByteArray.toList_eq] at hb;generalize l[p].1.1=lab2 at *
  clear HAB HPR HPW;rcases hok with rfl | rfl
  all_goals
   go_wp2
   go_region
   all_goals go_wp2
   all_goals exact hX.out _ _ _ zo rfl ⟨p+1+1,zo,rfl,rfl,HPS.out,HAS.out,HO.out⟩
def mM (v:Vl):Prop:=v.s=dI∧v.lists=[]∧v.structs=[]
theorem J4 (v:Vl):tf (mM v)=(!v.s.nul && !v.s.fal && !v.s.tru&&decide (v.s.i.length=0)&&decide (v.s.f.length=0)&&decide (v.s.t.length=0)&&decide (v.lists.length=0)&&decide (v.structs.length=0)):=by
 have h0:=DU v.s;by_cases h1:v.s=dI
 ·rw[aH h1] at h0;by_cases h2:v.lists.length=0∧v.structs.length=0
  ·rw[aH (p:=mM v) ⟨h1,List.length_eq_zero_iff.1 h2.1,List.length_eq_zero_iff.1 h2.2⟩,h1,h2.1,h2.2]
   rfl
  ·rw[az (p:=mM v) fun k=>h2 ⟨by rw[k.2.1];rfl,by rw[k.2.2];rfl⟩];by_cases a:v.lists.length=0 <;> by_cases b:v.structs.length=0 <;> simp[a,b]
   exact absurd ⟨a,b⟩ h2
 ·rw[az (p:=mM v) fun k=>h1 k.1];rw[az h1] at h0;by_cases e1:v.s.i.length=0 <;> by_cases e2:v.s.f.length=0 <;> by_cases e3:v.s.t.length=0 <;> simp[e1,e2,e3]
  rw[e1,e2,e3] at h0;cases hn:v.s.nul <;> cases hf:v.s.fal <;> cases ht:v.s.tru <;> simp[hn,hf,ht] at h0 ⊢
theorem zu (v:Vl) (x:Sl) (m:Mem) (n:Nat) (w:World) (hm:m.inn w) (hv:VAt m n x v) :
 Calls Tryz.prog 98 #[v.val x] w fun e w'=>e=.returned (.bool (tf (mM v)))∧Below w.heap.size w w':=by
 have hO:=(Own.start hm).al (nine v x).toArray 33;have HX:=zh (J4 v);have HS:=zh (hO.obj.sub (kZ v x));obtain⟨a1,b1,a2,b2,a3,b3,a4,b4,a5,b5,rfl,-⟩:=hv.spell;have hO2:=hO.al #[.bool v.s.nul,.bool v.s.fal,.bool v.s.tru,.slice a1 v.s.i.length b1,.slice a2 v.s.f.length b2,.slice a3 v.s.t.length b3] 29;have HC:=zh (show (nine v ⟨.slice a1 v.s.i.length b1,.slice a2 v.s.f.length b2,.slice a3 v.s.t.length b3,.slice a4 v.lists.length b4,.slice a5 v.structs.length b5⟩).toArray[7]?=some (.slice a4 v.lists.length b4)∧(nine v ⟨.slice a1 v.s.i.length b1,.slice a2 v.s.f.length b2,.slice a3 v.s.t.length b3,.slice a4 v.lists.length b4,.slice a5 v.structs.length b5⟩).toArray[8]?=some (.slice a5 v.structs.length b5) from ⟨rfl,rfl⟩);have c7:=fun o=>(hO.al' o).obj.cell HC.out.1;have c8:=fun o=>(hO.al' o).obj.cell HC.out.2;have cl:=hO.obj.lt;have HB:=zh hO.below;unfold Vl.val;clear hO hO2 hv HC;generalize (nine v _).toArray=N at *
 generalize v.lists.length=l4 at *
 generalize v.structs.length=l5 at *
 generalize v.s.i.length=l1 at *
 generalize v.s.f.length=l2 at *
 generalize v.s.t.length=l3 at *
 generalize v.s.nul=n1 at *
 generalize v.s.fal=n2 at *
 generalize v.s.tru=n3 at *
 refine av fun R hR=>?_
 go_enter Tryz.func98,Tryz.ntmps98
 go_wp2_with (refine ae tyS rfl (.tmp 4) rfl rfl _ rfl HS.out ?_)
 all_goals refine hR.out _ _ ⟨?_,bJ HB.out _⟩
 all_goals rw[HX.out]
 all_goals simp_all
 all_goals (rw[Bool.eq_iff_iff,beq_iff_eq,decide_eq_true_iff];omega)
theorem BQ (u u':Value) (A B:List Int) (m:Mem) (w:World) (hm:m.inn w) (h1:cO m u A) (h2:cO m u' B) (hl:A.length=B.length) :
 Calls Tryz.prog 222 #[u,u'] w fun e w'=>e=.returned (.bool (decide (A=B)))∧Below w.heap.size w w':=by
 obtain⟨a,c,rfl,p1,q1,k1⟩:=h1;obtain⟨a',c',rfl,p2,q2,k2⟩:=h2;unfold maxLen at q1 q2;have HK:=zh (zi k1 k2);have HO:=zh (Own.start hm);have HBN:=zh hl.symm;clear k1 k2 hl;refine av fun R hR=>?_
 go_enter Tryz.func222,Tryz.ntmps222
 go_wp2;refine au [0,1,5] (fun q vs wr=>∃(i:Nat),i≤A.length∧q=A.length - i∧vs=[.slice a A.length c,.slice a' B.length c',.int .i64 (i:Int)]∧(∀j (h1:j<A.length) (h2:j<B.length),j<i→A[j]=B[j]) ∧
  Own w m wr m []) ?_ ?_
 ·exact⟨_,0,Nat.zero_le _,rfl,rfl,fun j _ _ h=>absurd h (Nat.not_lt_zero _),HO.out⟩
 clear HO;rintro X z q vs wr hX - ⟨i,hi,rfl,rfl,hA,hO⟩;simp[litL,lk];have HA:=zh hA;clear hA;by_cases hlt:i<A.length
 case neg=>
  have HB:=zh hO.below;have HR:=zh (show A=B from List.ext_getElem (by rw[HBN.out]) fun j h1 h2=>HA.out j h1 h2 zo);obtain rfl:i=A.length:=zo;clear hO hX HA;go_wp2;exact hR.out _ _ ⟨by rw[decide_eq_true HR.out] <;> rfl,HB.out⟩
 have hltB:i<B.length:=by rw[HBN.out];exact hlt
 obtain⟨b,off,rfl,h4⟩:=HK.out.1 (by intro h;simp[h] at hlt);obtain⟨b',off',rfl,h5⟩:=HK.out.2 (by intro h;simp[h] at hltB);have g0:=Mem.aj hO.inn (h4 i hlt).1;have gl:=Mem.ay hO.inn (h4 i hlt).1;have g1:=Mem.aj hO.inn (h5 i hltB).1;have gl2:=Mem.ay hO.inn (h5 i hltB).1;have HO:=zh (hO.drN 1);have HNX:=zh (show A[i]=B[i]→∀j (h1:j<A.length) (h2:j<B.length),j<i+1→A[j]=B[j] from fun h j h1 h2 h3=>by
  by_cases e:j=i
  ·subst e;exact h
  ·exact HA.out j h1 h2 zo)
 have HNO:=zh (show ¬ A[i]=B[i]→¬ A=B from fun h k=>h (by subst k;rfl));generalize A[i]=x at *
 generalize B[i]=y at *
 clear hO h4 h5 HA;by_cases he:x=y
 ·have HN:=zh (HNX.out he);have hd:(x != y)=false:=by rw[he];simp
  clear HNX HNO he;go_wp2
  go_region
  all_goals go_wp2
  all_goals exact hX.out _ _ _ zo rfl ⟨i+1,zo,rfl,rfl,HN.out,HO.out⟩
 ·have HN:=zh (HNO.out he);have hd:(x != y)=true:=bne_iff_ne.2 he;clear HNX HNO he hX;go_wp2
  go_region
  all_goals go_wp2
  all_goals exact hR.out _ _ ⟨by rw[decide_eq_false HN.out] <;> rfl,HO.out.below⟩
theorem Fw (tv u:Value) (ts:List Value) (l:List (List Int)) (x:List Int) (m:Mem) (w:World) (hm:m.inn w) (hrow:w.ownsRow 0 135 1 tv l.length ts) (hT:jk m ts l) (hu:cO m u x) (hl:∀y∈l,y.length=x.length) (hb:l.length≤1400000000) :
 Calls Tryz.prog 191 #[tv,u] w fun e w'=>e=.returned (.bool (decide (x∈l)))∧Below w.heap.size w w':=by
 obtain⟨a,c,rfl⟩:=aO hrow;have hle:=hrow.2;have HT:=zh hT;have HU:=zh hu;have HW:=zh hrow;have HO:=zh (Own.start hm);have HL:=zh hl;clear hrow hle hT hu hl;refine av fun R hR=>?_
 go_enter Tryz.func191,Tryz.ntmps191
 go_wp2;refine au [0,1,5] (fun q vs wr=>∃(i:Nat),i≤l.length∧q=l.length - i∧vs=[.slice a l.length c,u,.int .i64 (i:Int)]∧(∀j (h1:j<l.length),j<i→¬ l[j]=x) ∧
  Own w m wr m []) ?_ ?_
 ·exact⟨_,0,Nat.zero_le _,rfl,rfl,fun j _ h=>absurd h (Nat.not_lt_zero _),HO.out⟩
 clear HO;rintro X z q vs wr hX - ⟨i,hi,rfl,rfl,hA,hO⟩;simp[litL,lk];have HA:=zh hA;clear hA;by_cases hlt:i<l.length
 case neg=>
  have HB:=zh hO.below;obtain rfl:i=l.length:=zo;have HR:=zh (show ¬ x∈l from fun h=>by obtain⟨j,hj,e⟩:=List.getElem_of_mem h;exact HA.out j hj hj e);clear hO hX HA;go_wp2;exact hR.out _ _ ⟨by rw[decide_eq_false HR.out] <;> rfl,HB.out⟩
 obtain⟨k,hk⟩:∃k,l.length=k+1:=⟨l.length - 1,zo⟩;have hrw:=Dy HW.out hO.below;rw[hk] at hrw;obtain⟨g,cap,e,-⟩:=kT hrw;rw[← hk] at e hrw;injection e with e1 e2 e3;subst e1 e3;have hit:i<ts.length:=by rw[HT.out.1];exact hlt
 have x1:=aN hrw (j:=i) (u:=ts[i]) (by simp[hit]);have xl:=(World.ownsRow.lt hrw _ rfl).2;have HC:=zh (fun w' (h:m.inn w')=>BQ ts[i] u l[i] x m w' h (HT.out.2 i hit hlt) HU.out (HL.out _ (List.getElem_mem hlt)));have hin:=hO.inn;have HO:=zh hO;have HNX:=zh (show ¬ l[i]=x→∀j (h1:j<l.length),j<i+1→¬ l[j]=x from fun h j h1 h3=>by
  by_cases e:j=i
  ·subst e;exact h
  ·exact HA.out j h1 zo)
 have HNO:=zh (show l[i]=x→x∈l from fun h=>h ▸ List.getElem_mem hlt);generalize ts[i]=tsi at *
 generalize l[i]=li at *
 clear hO hrw HA HW hk;by_cases he:li=x
 ·have HC2:=zh (show ∀w',m.inn w'→_ from fun w' h=>by have:=HC.out w' h;rw[decide_eq_true he] at this;exact this);have HR:=zh (HNO.out he);clear HNX HNO he hX HC
  go_wp2_with (go_at_call 222;refine (HC2.out _ hin).mono ?_;rintro e w2 ⟨rfl,hb2⟩)
  exact hR.out _ _ ⟨by rw[decide_eq_true HR.out] <;> rfl,(HO.out.move hb2).below⟩
 ·have HC2:=zh (show ∀w',m.inn w'→_ from fun w' h=>by have:=HC.out w' h;rw[decide_eq_false he] at this;exact this);have HN:=zh (HNX.out he);clear HNX HNO he HC
  go_wp2_with (go_at_call 222;refine (HC2.out _ hin).mono ?_;rintro e w2 ⟨rfl,hb2⟩)
  exact hX.out _ _ _ zo rfl ⟨i+1,zo,rfl,rfl,HN.out,HO.out.move hb2⟩
end Cl
