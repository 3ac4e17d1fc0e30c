/- The law's walk. -/
import Derived.WalkKit
import Derived.Test.YtajbfioncdnkcaaGreatDoorProg
import Derived.BigQuiet
import Derived.Deep.Cut
import Derived.Deep.QuietTactic
import Derived.Laws.StructEq
import Derived.Lib.AppendStr
import Derived.Lib.Builder
import Derived.Lib.Hide
import Derived.Lib.ItoaLen
import Derived.Maps.OwnOps
import Derived.Maps.OwnSet
import Derived.OrdersHeld
import Derived.Outline
import Derived.StillTailTactics
import Derived.StringKeys
import Derived.WalkLawsBesides
import Derived.WalkSpells
import Derived.Deep.RegionHeld
import Derived.Laws.EntriesVeiled
import Derived.RegionTactic
import Derived.RangeFuncNested
import Derived.RangeFuncBound
import Derived.RangeFuncCalls
import Derived.RangeFuncLeaves
import Derived.OwnWalkIn
import Derived.TacticsInMore
import Derived.LoopNIn
import Derived.LoopIn
import Derived.Shelf.Strings.Builder1
import Derived.Shelf.Small.Wraps
import Derived.Shelf.LaysM
import Derived.Shelf.Strconv.Itoa3
import Derived.Shelf.Spec.SlicesGrow
import Derived.Shelf.SlSortCmp.WholeK
import Derived.ChangeAlike
import Derived.Laws.BytesArg
import Derived.Laws.CopyOwn
import Derived.Deep.Slices
import Derived.Lib.SmallJoins
import Derived.ChangeMaps5
import Derived.Carry
import Derived.KernelRfl
import Derived.ChangeArms
import Derived.Test.YtajbfioncdnkcaaGreatDoorCards
import Derived.Test.YtajbfioncdnkcaaGreatDoorTie
import Derived.ProofKit
import Derived.OpenShut
import Derived.Deep.DeepHandedRow
import Derived.Lib.LaidTab
import Derived.Stop.LaidErr
import Derived.Test.YtajbfioncdnkcaaGreatDoorZz
import Derived.Test.YtajbfioncdnkcaaGreatDoorPkM1
import Derived.Test.YtajbfioncdnkcaaGreatDoorPkM2
import Derived.Test.YtajbfioncdnkcaaGreatDoorPkM29
import Derived.Test.YtajbfioncdnkcaaGreatDoorPkM3
import Derived.Test.YtajbfioncdnkcaaGreatDoorPkM4
import Derived.Test.YtajbfioncdnkcaaGreatDoorPkM8
import Derived.Test.YtajbfioncdnkcaaGreatDoorPkM7
import Derived.Test.YtajbfioncdnkcaaGreatDoorPkM36
import Derived.Test.YtajbfioncdnkcaaGreatDoorPkM12
import Derived.Test.YtajbfioncdnkcaaGreatDoorPkM6
import Derived.Test.YtajbfioncdnkcaaGreatDoorPkM13
import Derived.Test.YtajbfioncdnkcaaGreatDoorPkM9
import Derived.Test.YtajbfioncdnkcaaGreatDoorPkM14
import Derived.Test.YtajbfioncdnkcaaGreatDoorPkM31
import Derived.Test.YtajbfioncdnkcaaGreatDoorPkM18
import Derived.Test.YtajbfioncdnkcaaGreatDoorPkM26
import Derived.Test.YtajbfioncdnkcaaGreatDoorPkM57
import Derived.Test.YtajbfioncdnkcaaGreatDoorPkM28
import Derived.Test.YtajbfioncdnkcaaGreatDoorPkM60
import Derived.Test.YtajbfioncdnkcaaGreatDoorPkM5
import Derived.Test.YtajbfioncdnkcaaGreatDoorPkM10
import Derived.Test.YtajbfioncdnkcaaGreatDoorPkM15
import Derived.Test.YtajbfioncdnkcaaGreatDoorPkM11
import Derived.Test.YtajbfioncdnkcaaGreatDoorPkM16
import Derived.Test.YtajbfioncdnkcaaGreatDoorPkM37
import Derived.Test.YtajbfioncdnkcaaGreatDoorPkM25
import Derived.Test.YtajbfioncdnkcaaGreatDoorPkM17
import Derived.Test.YtajbfioncdnkcaaGreatDoorPkM24
import Derived.Test.YtajbfioncdnkcaaGreatDoorPkM23
import Derived.Test.YtajbfioncdnkcaaGreatDoorPkM30
set_option maxRecDepth 100000
set_option maxHeartbeats 16000000
namespace Cl
theorem QG (p q:Prop):tf (p∧q)=(tf p&&tf q):=by
 by_cases h1:p <;> by_cases h2:q <;> simp[tf,h1,h2]
theorem Tk (p q:Prop):tf (p∨q)=(tf p || tf q):=by
 by_cases h1:p <;> by_cases h2:q <;> simp[tf,h1,h2]
theorem Sj (p:Prop):tf (¬ p) = !tf p:=by
 by_cases h1:p <;> simp[tf,h1]
theorem PZ {a b r:RS} (k:ScIs (fun e=>(bU a).has e∧(bU b).has e) r) (d:Dt):hasD r d=(hasD a d&&hasD b d):=by
 cases h:dtEl d with
 | none=>rw[jA h,jA h];rfl
 | some e=>rw[sS k h,jy h,jy h,QG]
theorem Rz {a b r:RS} (k:ScIs (fun e=>(bU a).has e∨(bU b).has e) r) (d:Dt):hasD r d=(hasD a d || hasD b d):=by
 cases h:dtEl d with
 | none=>rw[jA h,jA h,jA h];rfl
 | some e=>rw[sS k h,jy h,jy h,Tk]
theorem K4 {a b r:RS} (k:ScIs (fun e=>(bU a).has e∧¬ (bU b).has e) r) (d:Dt):hasD r d=(hasD a d && !hasD b d):=by
 cases h:dtEl d with
 | none=>rw[jA h,jA h];rfl
 | some e=>rw[sS k h,jy h,jy h,QG,Sj]
theorem K5 {a:RS} {d:Dt} (h:hasD a d=true):nk a=false:=by
 obtain⟨e,-,h2⟩:=yw.1 h;exact aL fun k=>k e h2
theorem PY {a b:RS} {d:Dt} (h:hasD a d=true) (h':hasD b d=false):subB a b=false:=by
 obtain⟨e,h1,h2⟩:=yw.1 h;refine aL fun k=>?_;have:=aN (p:=∃e,dtEl d=some e∧(bU b).has e) ⟨e,h1,k e h2⟩;rw[show tf (∃e,dtEl d=some e∧(bU b).has e)=hasD b d from rfl,h'] at this;cases this
end Cl
namespace Cl
open Go Go.RowKit Go.Proofs
theorem wE (A1 A2 A3:Value) (A:RS) (B1 B2 B3:Value) (B:RS) (d1 d2:Value) (d:Dt) (m:Mem) (w:World) (hm:m.inn w) (htab:TabM m) (hA:ScAt m A1 A2 A3 A) (hB:ScAt m B1 B2 B3 B) (hd:DtAt m d1 d2 d) :
 Calls Tryz.prog 7 #[A.val A1 A2 A3,B.val B1 B2 B3,d.val d1 d2] w fun e w'=>e=.returned (.bool true)∧Below w.heap.size w w':=by
 obtain⟨zaa,zab,zac,zad,zae,zaf,rfl,rfl,rfl⟩:=hA.spell;obtain⟨zba,zbb,zbc,zbd,zbe,zbf,rfl,rfl,rfl⟩:=hB.spell;obtain⟨qda,qdb,qdc,qdd,rfl,rfl⟩:=hd.slices;have hO:=Own.start hm;have l0:=Mem.le_refl m;obtain⟨m1,k1,bA,hO⟩:=kZ 29 hO (hA.le l0);have l1:=Mem.le_trans l0 k1;obtain⟨m2,k2,bB,hO⟩:=kZ 29 hO (hB.le l1);have l2:=Mem.le_trans l1 k2;have bA:=bA.le k2;obtain⟨m3,k3,bd,hO⟩:=lC 33 hO (hd.le l2);have l3:=Mem.le_trans l2 k3;have bA:=bA.le k3;have bB:=bB.le k3;have HT:=zh (htab.le l3);simp only[df] at hO bB bd;have HO:=zh hO;clear hO htab hA hB hd l1 k1 l2 k2 l3 k3 l0;unfold RS.val;unfold Dt.val;refine aj fun R hR=>?_
 go_enter Tryz.func7,Tryz.ntmps7
 go_upto_region 1 with (fail)
 generalize hW:(((w.alloc (.cells #[.bool A.nul,.bool A.fal,.bool A.tru,.slice zaa A.i.length zab,.slice zac A.f.length zad,.slice zae A.t.length zaf] 29)).alloc (.cells #[.bool B.nul,.bool B.fal,.bool B.tru,.slice zba B.i.length zbb,.slice zbc B.f.length zbd,.slice zbe B.t.length zbf] 29)).alloc (.cells #[.int .i64 d.kind,.int .i64 d.num,.string d.str,.slice qda d.items.length qdb,.slice qdc d.bv.length qdd] 33))=w0 at *
 clear hW;refine aA [3,4,5,28] (fun vs w'=>∃c:Bool,vs=[.pointer (some ⟨w.heap.size,0,none⟩),.pointer (some ⟨w.heap.size+1,0,none⟩),.pointer (some ⟨w.heap.size+1+1,0,none⟩),.bool c]∧Own w m w' m3 []∧(c=false→(∀s∈[A,B],gZ s)∧kr d=true∧d.str.size≤100)) ?_ ?_
 ·intro X hX;obtain⟨yA0,yA1,yA2,yA3,yA4,yA5⟩:=bA.cw HO.out.inn;have yAl:=Mem.ak HO.out.inn bA.c0;obtain⟨yB0,yB1,yB2,yB3,yB4,yB5⟩:=bB.cw HO.out.inn;have yBl:=Mem.ak HO.out.inn bB.c0;have hO2:=HO.out.al #[.bool A.nul,.bool A.fal,.bool A.tru,.slice zaa A.i.length zab,.slice zac A.f.length zad,.slice zae A.t.length zaf,.bool B.nul,.bool B.fal,.bool B.tru,.slice zba B.i.length zbb,.slice zbc B.f.length zbd,.slice zbe B.t.length zbf] 29;have HB:=zh (jc _ [A,B] _ _ hO2.ib.inn (MN hO2 bA.at' bB.at'));have HO:=zh hO2.tail;clear hO2
  go_wp2_with fail
  refine HB.out.mono ?_;rintro e w3 ⟨rfl,hb⟩;have HO:=zh (HO.out.move hb);clear HB hb;clear yA0 yA1 yA2 yA3 yA4 yA5 yAl yB0 yB1 yB2 yB3 yB4 yB5 yBl;by_cases h:∀s∈[A,B],gZ s
  case neg=>
   rw[aL h];clear h;go_wp2;exact hX.out _ _ rfl ⟨true,rfl,HO.out,fun h=>by cases h⟩
  rw[aN h];have HG0:=zh h;clear h;obtain⟨yd0,yd1,yd2,yd3,yd4⟩:=bd.cw HO.out.inn;have ydl:=Mem.ak HO.out.inn bd.c0;have HB:=zh (jq _ _ d m3 _ HO.out.inn bd.at')
  go_wp2_with fail
  refine HB.out.mono ?_;rintro e w3 ⟨rfl,hb⟩;have HO:=zh (HO.out.move hb);clear HB hb;clear yd0 yd1 yd2 yd3 yd4 ydl;by_cases h:kr d=true
  case neg=>
   rw[Bool.eq_false_iff.2 h];clear h;go_wp2;exact hX.out _ _ rfl ⟨true,rfl,HO.out,fun h=>by cases h⟩
  rw[h];have HG1:=zh h;clear h;have y2:=Mem.av HO.out.inn bd.c2;have y0:=Mem.ak HO.out.inn bd.c0;by_cases h:d.str.size≤100
  case neg=>
   have hd:decide ((100:Int)<(d.str.size:Int))=true:=decide_eq_true zo;clear h;go_wp2;exact hX.out _ _ rfl ⟨true,rfl,HO.out,fun h=>by cases h⟩
  have hd2:decide ((100:Int)<(d.str.size:Int))=false:=decide_eq_false zo;have HG2:=zh h;clear h;go_wp2;exact hX.out _ _ rfl ⟨false,rfl,HO.out,fun _=>⟨HG0.out,HG1.out,HG2.out⟩⟩
 rintro z vs w1 - ⟨c,rfl,hO,hc⟩;simp[litL,lk];clear HO;have HO:=zh hO;have HC:=zh hc;clear hO hc
 cases c with
 | true=>
  clear HC
  go_wp2_with fail
  refine (bJ m3 _ HO.out.inn HT.out).mono ?_;rintro e w2 ⟨rfl,hb⟩;have HE:=zh (HO.out.move hb).below;clear hb HO;go_wp2
  exact hR.out _ _ ⟨rfl,HE.out⟩
 | false=>
  obtain⟨g0,g1,g2⟩:=HC.out rfl;clear HC;have LA:=zh ((tY g0).1);have LB:=zh ((tY g0).2);clear g0;have Cd:=zh (kS g1);clear g1;have Zd:=zh g2;clear g2;obtain⟨PA,GA⟩:∃p:El→Prop,∀e,(bU A).has e↔p e:=⟨_,fun _=>Iff.rfl⟩;have GA:=zh GA;obtain⟨PB,GB⟩:∃p:El→Prop,∀e,(bU B).has e↔p e:=⟨_,fun _=>Iff.rfl⟩;have GB:=zh GB
  go_upto_region 3 with (fail)
  refine aA [3,4,5,7,8] (fun vs w'=>vs=[.pointer (some ⟨w.heap.size,0,none⟩),.pointer (some ⟨w.heap.size+1,0,none⟩),.pointer (some ⟨w.heap.size+1+1,0,none⟩),.bool (hasD A d),.bool (hasD B d)]∧Own w m w' m3 []) ?_ ?_
  ·intro X hX;refine aM 8 6 (fun j=>[Fact.is (·=.agg #[.bool A.nul,.bool A.fal,.bool A.tru,.slice zaa A.i.length zab,.slice zac A.f.length zad,.slice zae A.t.length zaf]),Fact.is (·=.agg #[.int .i64 d.kind,.int .i64 d.num,.string d.str,.slice qda d.items.length qdb,.slice qdc d.bv.length qdd]),Fact.is (·=.bool (hasD A d)),Fact.is (·=.agg #[.bool B.nul,.bool B.fal,.bool B.tru,.slice zba B.i.length zbb,.slice zbc B.f.length zbd,.slice zbe B.t.length zbf]),Fact.is (·=.agg #[.int .i64 d.kind,.int .i64 d.num,.string d.str,.slice qda d.items.length qdb,.slice qdc d.bv.length qdd]),Fact.is (·=.bool (hasD B d)),Fact.is (·=.bool (hasD A d)),Fact.is (·=.bool (hasD B d))].getD j Fact.any) zk zk ?_ ?_
   ·intro i hi o win a wr ho RA;have HO2:=HO.out.dr.move RA.below;obtain⟨y30,y31,y32,y33,y34,y35⟩:=bA.cw HO2.inn;have y3l:=Mem.ak HO2.inn bA.c0;obtain⟨y40,y41,y42,y43,y44,y45⟩:=bB.cw HO2.inn;have y4l:=Mem.ak HO2.inn bB.c0;obtain⟨y50,y51,y52,y53,y54⟩:=bd.cw HO2.inn;have y5l:=Mem.ak HO2.inn bd.c0;rcases (show i=0∨i=1∨i=2∨i=3∨i=4∨i=5∨i=6∨i=7 by omega) with rfl | rfl | rfl | rfl | rfl | rfl | rfl | rfl
    ·have e3:=RA.k 3;cases ho;exact wv rfl rfl rfl
    ·have e5:=RA.k 5;cases ho;exact wv rfl rfl rfl
    ·have e30:a.tmps.getD 30 undef=_:=RA.d 0 rfl;have e31:a.tmps.getD 31 undef=_:=RA.d 1 rfl;cases ho;refine we rfl rfl (ek _ _ _ A _ _ d 8 8 m3 wr HO2.inn HT.out bA.at' bd.at' (by have:=Cd.out;omega) (by have:=Zd.out;omega) LA.out zo (Nat.le_trans (Nat.mul_le_mul_right _ (show d.str.size+1+2≤100+3 by have:=Zd.out;omega)) zo)) ?_;rintro e w' ⟨rfl,hb⟩;exact⟨_,rfl,_,rfl,hb,rfl⟩
    ·have e4:=RA.k 4;cases ho;exact wv rfl rfl rfl
    ·have e5:=RA.k 5;cases ho;exact wv rfl rfl rfl
    ·have e33:a.tmps.getD 33 undef=_:=RA.d 3 rfl;have e34:a.tmps.getD 34 undef=_:=RA.d 4 rfl;cases ho;refine we rfl rfl (ek _ _ _ B _ _ d 8 8 m3 wr HO2.inn HT.out bB.at' bd.at' (by have:=Cd.out;omega) (by have:=Zd.out;omega) LB.out zo (Nat.le_trans (Nat.mul_le_mul_right _ (show d.str.size+1+2≤100+3 by have:=Zd.out;omega)) zo)) ?_;rintro e w' ⟨rfl,hb⟩;exact⟨_,rfl,_,rfl,hb,rfl⟩
    ·have e32:a.tmps.getD 32 undef=_:=RA.d 2 rfl;cases ho;exact wv rfl rfl rfl
    ·have e35:a.tmps.getD 35 undef=_:=RA.d 5 rfl;cases ho;exact wv rfl rfl rfl
   ·intro win a wr E;have e3:=E.keep 3 zk;have e4:=E.keep 4 zk;have e5:=E.keep 5 zk;have e7:a.tmps.getD 7 undef=.bool (hasD A d):=E.fact 6 _ zo rfl;have e8:a.tmps.getD 8 undef=.bool (hasD B d):=E.fact 7 _ zo rfl;obtain⟨t,d⟩:=a;obtain rfl:d=[]:=E.defers;refine aV zk (hX.out _ _ E.size ⟨?_,HO.out.dr.move E.below⟩) _;simp only[List.map_cons,List.map_nil,e3,e4,e5,e7,e8]
    first | done | rfl
  rintro z0 vs w4 - ⟨rfl,hO⟩;simp[litL,lk];clear HO;have HO:=zh hO;clear hO
  go_upto_region 4 with (fail)
  refine aA [3,4,5,7,8,9,10,11] (fun vs w'=>∃(mk:Mem) (gN gO gM:Nat),vs=[.pointer (some ⟨w.heap.size,0,none⟩),.pointer (some ⟨w.heap.size+1,0,none⟩),.pointer (some ⟨w.heap.size+1+1,0,none⟩),.bool (hasD A d),.bool (hasD B d),.pointer (some ⟨gN,0,none⟩),.pointer (some ⟨gO,0,none⟩),.pointer (some ⟨gM,0,none⟩)]∧m3.le mk∧Pm mk gN (fun e=>(PA e)∧(PB e)) 20 101∧Pm mk gO (fun e=>(PA e)∨(PB e)) 20 101∧Pm mk gM (fun e=>(PA e)∧¬ (PB e)) 20 101∧Own w m w' mk []) ?_ ?_
  ·intro X hX;refine aM 12 6 (fun j=>[Fact.is (·=.agg #[.bool A.nul,.bool A.fal,.bool A.tru,.slice zaa A.i.length zab,.slice zac A.f.length zad,.slice zae A.t.length zaf]),Fact.is (·=.agg #[.bool B.nul,.bool B.fal,.bool B.tru,.slice zba B.i.length zbb,.slice zbc B.f.length zbd,.slice zbe B.t.length zbf]),Fact.mem m3 [2] (ScRV (fun e=>(PA e)∧(PB e)) 20 101),Fact.is (·=.agg #[.bool A.nul,.bool A.fal,.bool A.tru,.slice zaa A.i.length zab,.slice zac A.f.length zad,.slice zae A.t.length zaf]),Fact.is (·=.agg #[.bool B.nul,.bool B.fal,.bool B.tru,.slice zba B.i.length zbb,.slice zbc B.f.length zbd,.slice zbe B.t.length zbf]),Fact.mem m3 [5] (ScRV (fun e=>(PA e)∨(PB e)) 20 101),Fact.is (·=.agg #[.bool A.nul,.bool A.fal,.bool A.tru,.slice zaa A.i.length zab,.slice zac A.f.length zad,.slice zae A.t.length zaf]),Fact.is (·=.agg #[.bool B.nul,.bool B.fal,.bool B.tru,.slice zba B.i.length zbb,.slice zbc B.f.length zbd,.slice zbe B.t.length zbf]),Fact.mem m3 [8] (ScRV (fun e=>(PA e)∧¬ (PB e)) 20 101),Fact.obj 9 29 #[.bool false,.bool false,.bool false,.slice none 0 0,.slice none 0 0,.slice none 0 0],Fact.obj 10 29 #[.bool false,.bool false,.bool false,.slice none 0 0,.slice none 0 0,.slice none 0 0],Fact.obj 11 29 #[.bool false,.bool false,.bool false,.slice none 0 0,.slice none 0 0,.slice none 0 0]].getD j Fact.any) zk zk ?_ ?_
   ·intro i hi o win a wr ho RA;have HO2:=HO.out.dr.move RA.below;obtain⟨y30,y31,y32,y33,y34,y35⟩:=bA.cw HO2.inn;have y3l:=Mem.ak HO2.inn bA.c0;obtain⟨y40,y41,y42,y43,y44,y45⟩:=bB.cw HO2.inn;have y4l:=Mem.ak HO2.inn bB.c0;obtain⟨y50,y51,y52,y53,y54⟩:=bd.cw HO2.inn;have y5l:=Mem.ak HO2.inn bd.c0;rcases (show i=0∨i=1∨i=2∨i=3∨i=4∨i=5∨i=6∨i=7∨i=8∨i=9∨i=10∨i=11 by omega) with rfl | rfl | rfl | rfl | rfl | rfl | rfl | rfl | rfl | rfl | rfl | rfl
    ·have e3:=RA.k 3;cases ho;exact wv rfl rfl rfl
    ·have e4:=RA.k 4;cases ho;exact wv rfl rfl rfl
    ·have e36:a.tmps.getD 36 undef=_:=RA.d 0 rfl;have e37:a.tmps.getD 37 undef=_:=RA.d 1 rfl;cases ho;refine we rfl rfl (iM _ _ _ A _ _ _ B 8 8 8 8 m3 wr HO2.inn HT.out bA.at' bB.at' LA.out LB.out zo zo zo) ?_;rintro e w' ⟨s,si,sf,st,rfl,hb,hn,hS,hL⟩;exact⟨_,rfl,_,rfl,hb,bH (R:=ScRV (fun e=>(PA e)∧(PB e)) 20 101) ScRV.le HO2.inn hb (d9 hn (hS.congr fun e=>and_congr (GA.out e) (GB.out e)) hL)⟩
    ·have e3:=RA.k 3;cases ho;exact wv rfl rfl rfl
    ·have e4:=RA.k 4;cases ho;exact wv rfl rfl rfl
    ·have e39:a.tmps.getD 39 undef=_:=RA.d 3 rfl;have e40:a.tmps.getD 40 undef=_:=RA.d 4 rfl;cases ho;refine we rfl rfl (lh _ _ _ A _ _ _ B 8 8 8 8 m3 wr HO2.inn HT.out bA.at' bB.at' LA.out LB.out zo zo zo) ?_;rintro e w' ⟨s,si,sf,st,rfl,hb,hn,hS,hL⟩;exact⟨_,rfl,_,rfl,hb,bH (R:=ScRV (fun e=>(PA e)∨(PB e)) 20 101) ScRV.le HO2.inn hb (d9 hn (hS.congr fun e=>or_congr (GA.out e) (GB.out e)) hL)⟩
    ·have e3:=RA.k 3;cases ho;exact wv rfl rfl rfl
    ·have e4:=RA.k 4;cases ho;exact wv rfl rfl rfl
    ·have e42:a.tmps.getD 42 undef=_:=RA.d 6 rfl;have e43:a.tmps.getD 43 undef=_:=RA.d 7 rfl;cases ho;refine we rfl rfl (jU _ _ _ A _ _ _ B 8 8 8 8 m3 wr HO2.inn HT.out bA.at' bB.at' LA.out LB.out zo zo zo) ?_;rintro e w' ⟨s,si,sf,st,rfl,hb,hn,hS,hL⟩;exact⟨_,rfl,_,rfl,hb,bH (R:=ScRV (fun e=>(PA e)∧¬ (PB e)) 20 101) ScRV.le HO2.inn hb (d9 hn (hS.congr fun e=>and_congr (GA.out e) (not_congr (GB.out e))) hL)⟩
    ·cases ho;exact aB rfl rfl (aD zg ⟨_,rfl,aP (Below.refl _ _) _,lI win⟩)
    ·cases ho;exact aB rfl rfl (aD zg ⟨_,rfl,aP (Below.refl _ _) _,lI win⟩)
    ·cases ho;exact aB rfl rfl (aD zg ⟨_,rfl,aP (Below.refl _ _) _,lI win⟩)
   ·intro win a wr E;have e3:=E.keep 3 zk;have e4:=E.keep 4 zk;have e5:=E.keep 5 zk;have e7:=E.keep 7 zk;have e8:=E.keep 8 zk;have e9:(Fact.obj 9 29 #[.bool false,.bool false,.bool false,.slice none 0 0,.slice none 0 0,.slice none 0 0]).holds (a.tmps.getD 9 undef) win wr:=E.fact 9 _ zo rfl;have e10:(Fact.obj 10 29 #[.bool false,.bool false,.bool false,.slice none 0 0,.slice none 0 0,.slice none 0 0]).holds (a.tmps.getD 10 undef) win wr:=E.fact 10 _ zo rfl;have e11:(Fact.obj 11 29 #[.bool false,.bool false,.bool false,.slice none 0 0,.slice none 0 0,.slice none 0 0]).holds (a.tmps.getD 11 undef) win wr:=E.fact 11 _ zo rfl;have e38:(Fact.mem m3 [2] (ScRV (fun e=>(PA e)∧(PB e)) 20 101)).holds (a.tmps.getD 38 undef) win wr:=E.fact 2 _ zo rfl;have e41:(Fact.mem m3 [5] (ScRV (fun e=>(PA e)∨(PB e)) 20 101)).holds (a.tmps.getD 41 undef) win wr:=E.fact 5 _ zo rfl;have e44:(Fact.mem m3 [8] (ScRV (fun e=>(PA e)∧¬ (PB e)) 20 101)).holds (a.tmps.getD 44 undef) win wr:=E.fact 8 _ zo rfl;obtain⟨s2,⟨a2,b2,c2,d2,x2,y2,k2,t2⟩,S2,L2⟩:ScRV _ _ _ _ _:=e38;obtain⟨s5,⟨a5,b5,c5,d5,x5,y5,k5,t5⟩,S5,L5⟩:ScRV _ _ _ _ _:=e41;obtain⟨s8,⟨a8,b8,c8,d8,x8,y8,k8,t8⟩,S8,L8⟩:ScRV _ _ _ _ _:=e44;obtain⟨p9,n9,o9⟩:_∧_∧_:=e9;have g9:=E.rng 9 zo;obtain⟨p10,n10,o10⟩:_∧_∧_:=e10;have g10:=E.rng 10 zo;obtain⟨p11,n11,o11⟩:_∧_∧_:=e11;have g11:=E.rng 11 zo;have far:∀j,j=9∨j=10∨j=11→∀d∈[2,5,8],¬ ((win d).1≤(win j).1∧(win j).1<(win d).2):=by
     intro j hj d hd;have hd':d=2∨d=5∨d=8:=by simpa using hd
     have:=E.apart j d zo zo zo;have:(win j).2=(win j).1+1:=by rcases hj with rfl | rfl | rfl <;> assumption
     omega
    have hO1:=HO.out.dr.region E.below win [2,5,8] (fun d hd=>(E.rng d (by simp at hd;omega)).1);have hge:=HO.out.dr.below.size;have hin:=(HO.out.dr.move E.below).inn;have no:∀j,j=9∨j=10∨j=11→m3.wins wr win [2,5,8] (win j).1=none:=fun j hj=>
     Mem.lD (Mem.fe HO.out.dr.inn (E.rng j zo).1) (far j hj)
    have hL9:=HO.out.dr.kP g9.1;have hL10:=HO.out.dr.kP g10.1;have hL11:=HO.out.dr.kP g11.1;have q01:=E.apart 9 10 zo zo zo;have q02:=E.apart 9 11 zo zo zo;have q12:=E.apart 10 11 zo zo zo;have hO2:=hO1.newObj o9 zo (no 9 zo) hL9;have hO2:=hO2.newObj o10 zo (no 10 zo) (mE zo hL10);have hO2:=hO2.newObj o11 zo (no 11 zo) (mE zo (mE zo hL11));have t2:=t2.le (Mem.cO (es:=[2,5,8]) hin win zS);have t5:=t5.le (Mem.cO (es:=[2,5,8]) hin win zS);have t8:=t8.le (Mem.cO (es:=[2,5,8]) hin win zS);have hle:=Mem.dw hin win [2,5,8];have T2:=zh (zi t2 (zi S2 L2));have T5:=zh (zi t5 (zi S5 L5));have T8:=zh (zi t8 (zi S8 L8));have HLE:=zh hle;generalize m3.wins wr win [2,5,8]=mq at *
    generalize (win 9).1=r9 at *
    generalize (win 10).1=r10 at *
    generalize (win 11).1=r11 at *
    have HE:=zh E;clear hle t2 S2 L2 t5 S5 L5 t8 S8 L8 hL9 g9 o9 n9 hL10 g10 o10 n10 hL11 g11 o11 n11 no far hO1 hin q01 q02 q12 hge E;have hO3:=hO2.third;have f0:=hO3.obj.cell (i:=0) rfl;have ff0:=hO3.obj.frozen 0;have f1:=hO3.obj.cell (i:=1) rfl;have ff1:=hO3.obj.frozen 1;have f2:=hO3.obj.cell (i:=2) rfl;have ff2:=hO3.obj.frozen 2;have f3:=hO3.obj.cell (i:=3) rfl;have ff3:=hO3.obj.frozen 3;have f4:=hO3.obj.cell (i:=4) rfl;have ff4:=hO3.obj.frozen 4;have f5:=hO3.obj.cell (i:=5) rfl;have ff5:=hO3.obj.frozen 5;have fl:=hO3.obj.lt;have hO4:Own _ _ _ _ (.obj _ 29 #[.bool s2.nul,.bool s2.fal,.bool s2.tru,.slice a2 s2.i.length b2,.slice c2 s2.f.length d2,.slice x2 s2.t.length y2]::_):=((((((hO3.set 0 (.bool s2.nul)).set 1 (.bool s2.fal)).set 2 (.bool s2.tru)).set 3 (.slice a2 s2.i.length b2)).set 4 (.slice c2 s2.f.length d2)).set 5 (.slice x2 s2.t.length y2));have HO4:=zh hO4;clear hO3 hO4 hO2;refine bR 12 zk (aB rfl rfl (aS zg ?_));clear f0 ff0 f1 ff1 f2 ff2 f3 ff3 f4 ff4 f5 ff5 fl;have hO5:=HO4.out;clear HO4;have hO3:=hO5.third;have f0:=hO3.obj.cell (i:=0) rfl;have ff0:=hO3.obj.frozen 0;have f1:=hO3.obj.cell (i:=1) rfl;have ff1:=hO3.obj.frozen 1;have f2:=hO3.obj.cell (i:=2) rfl;have ff2:=hO3.obj.frozen 2;have f3:=hO3.obj.cell (i:=3) rfl;have ff3:=hO3.obj.frozen 3;have f4:=hO3.obj.cell (i:=4) rfl;have ff4:=hO3.obj.frozen 4;have f5:=hO3.obj.cell (i:=5) rfl;have ff5:=hO3.obj.frozen 5;have fl:=hO3.obj.lt;have hO4:Own _ _ _ _ (.obj _ 29 #[.bool s5.nul,.bool s5.fal,.bool s5.tru,.slice a5 s5.i.length b5,.slice c5 s5.f.length d5,.slice x5 s5.t.length y5]::_):=((((((hO3.set 0 (.bool s5.nul)).set 1 (.bool s5.fal)).set 2 (.bool s5.tru)).set 3 (.slice a5 s5.i.length b5)).set 4 (.slice c5 s5.f.length d5)).set 5 (.slice x5 s5.t.length y5));have HO4:=zh hO4;clear hO3 hO4;refine bR 13 zk (aB rfl rfl (aS zg ?_));clear f0 ff0 f1 ff1 f2 ff2 f3 ff3 f4 ff4 f5 ff5 fl;have hO5:=HO4.out;clear HO4;have hO3:=hO5.third;have f0:=hO3.obj.cell (i:=0) rfl;have ff0:=hO3.obj.frozen 0;have f1:=hO3.obj.cell (i:=1) rfl;have ff1:=hO3.obj.frozen 1;have f2:=hO3.obj.cell (i:=2) rfl;have ff2:=hO3.obj.frozen 2;have f3:=hO3.obj.cell (i:=3) rfl;have ff3:=hO3.obj.frozen 3;have f4:=hO3.obj.cell (i:=4) rfl;have ff4:=hO3.obj.frozen 4;have f5:=hO3.obj.cell (i:=5) rfl;have ff5:=hO3.obj.frozen 5;have fl:=hO3.obj.lt;have hO4:Own _ _ _ _ (.obj _ 29 #[.bool s8.nul,.bool s8.fal,.bool s8.tru,.slice a8 s8.i.length b8,.slice c8 s8.f.length d8,.slice x8 s8.t.length y8]::_):=((((((hO3.set 0 (.bool s8.nul)).set 1 (.bool s8.fal)).set 2 (.bool s8.tru)).set 3 (.slice a8 s8.i.length b8)).set 4 (.slice c8 s8.f.length d8)).set 5 (.slice x8 s8.t.length y8));have HO4:=zh hO4;clear hO3 hO4;refine bR 14 zk (aB rfl rfl (aS zg ?_));clear f0 ff0 f1 ff1 f2 ff2 f3 ff3 f4 ff4 f5 ff5 fl;have hO5:=HO4.out;clear HO4;have hO6:=hO5;clear hO5;obtain⟨mz0,lz0,bz8,hO6⟩:=uk hO6 T8.out.1;obtain⟨mz1,lz1,bz5,hO6⟩:=uk hO6 (T5.out.1.le lz0);have bz8:=bz8.le lz1;obtain⟨mz2,lz2,bz2,hO6⟩:=uk hO6 ((T2.out.1.le lz0).le lz1);have bz8:=bz8.le lz2;have bz5:=bz5.le lz2;obtain⟨t,d⟩:=a;obtain rfl:d=[]:=HE.out.defers;refine aV zk (hX.out _ _ HE.out.size ⟨_,_,_,_,?_,(Mem.le_trans (Mem.le_trans (Mem.le_trans HLE.out lz0) lz1) lz2),⟨s2,_,_,_,bz2,T2.out.2.1,T2.out.2.2⟩,⟨s5,_,_,_,bz5,T5.out.2.1,T5.out.2.2⟩,⟨s8,_,_,_,bz8,T8.out.2.1,T8.out.2.2⟩,hO6⟩) _;simp only[List.map_cons,List.map_nil,e3,e4,e5,e7,e8,p9,p10,p11]
    first | done | rfl
  rintro z0 vs w5 - ⟨m4,gN,gO,gM,rfl,hle,⟨N,_,_,_,bN,IN,LN⟩,⟨O,_,_,_,bO,Io,LO⟩,⟨M,_,_,_,bM,IM,LM⟩,hO⟩;simp[litL,lk];obtain⟨xNa,xNb,xNc,xNd,xNe,xNf,rfl,rfl,rfl⟩:=bN.at'.spell;have IN:=zh IN;have LN:=zh LN;obtain⟨xOa,xOb,xOc,xOd,xOe,xOf,rfl,rfl,rfl⟩:=bO.at'.spell;have Io:=zh Io;have LO:=zh LO;obtain⟨xMa,xMb,xMc,xMd,xMe,xMf,rfl,rfl,rfl⟩:=bM.at'.spell;have IM:=zh IM;have LM:=zh LM;have bA:=bA.le hle;have bB:=bB.le hle;have bd:=bd.le hle;have HT:=zh (HT.out.le hle);clear HO hle;have HO:=zh hO;clear hO;have QN:=zh (PZ (IN.out.congr fun e=>(and_congr (GA.out e) (GB.out e)).symm) d);have QO:=zh (Rz (Io.out.congr fun e=>(or_congr (GA.out e) (GB.out e)).symm) d);have QM:=zh (K4 (IM.out.congr fun e=>(and_congr (GA.out e) (not_congr (GB.out e))).symm) d);have QE:=zh (fun h:hasD A d=true=>K5 h);have QS:=zh (fun (h:hasD A d=true) (h':hasD B d=false)=>PY h h');have QV:=zh (zi IN.out.valid (zi Io.out.valid IM.out.valid));generalize hasD A d=x at *
  generalize hasD B d=y at *
  go_upto_region 5 with (fail)
  refine aA [3,4,5,7,8,9,10,11,92] (fun vs w'=>vs=[.pointer (some ⟨w.heap.size,0,none⟩),.pointer (some ⟨w.heap.size+1,0,none⟩),.pointer (some ⟨w.heap.size+1+1,0,none⟩),.bool x,.bool y,.pointer (some ⟨gN,0,none⟩),.pointer (some ⟨gO,0,none⟩),.pointer (some ⟨gM,0,none⟩),.bool false]∧Own w m w' m4 []) ?_ ?_
  ·intro X hX
   cases x with
   | true=>
    cases y with
    | true=>
     obtain⟨yN0,yN1,yN2,yN3,yN4,yN5⟩:=bN.cw HO.out.inn;have yNl:=Mem.ak HO.out.inn bN.c0;obtain⟨yd0,yd1,yd2,yd3,yd4⟩:=bd.cw HO.out.inn;have ydl:=Mem.ak HO.out.inn bd.c0;have HB:=zh (ek _ _ _ N _ _ d 20 101 m4 _ HO.out.inn HT.out bN.at' bd.at' (by have:=Cd.out;omega) (by have:=Zd.out;omega) LN.out zo (Nat.le_trans (Nat.mul_le_mul_right _ (show d.str.size+1+2≤103 by have:=Zd.out;omega)) zo));unfold RS.val Dt.val at HB
     go_wp2_with fail
     refine HB.out.mono ?_;rintro e w6 ⟨rfl,hb⟩;clear yN0 yN1 yN2 yN3 yN4 yN5 yNl yd0 yd1 yd2 yd3 yd4 ydl;rw[QN.out];have HO:=zh (HO.out.move hb);clear hb HB;obtain⟨yO0,yO1,yO2,yO3,yO4,yO5⟩:=bO.cw HO.out.inn;have yOl:=Mem.ak HO.out.inn bO.c0;obtain⟨yd0,yd1,yd2,yd3,yd4⟩:=bd.cw HO.out.inn;have ydl:=Mem.ak HO.out.inn bd.c0;have HB:=zh (ek _ _ _ O _ _ d 20 101 m4 _ HO.out.inn HT.out bO.at' bd.at' (by have:=Cd.out;omega) (by have:=Zd.out;omega) LO.out zo (Nat.le_trans (Nat.mul_le_mul_right _ (show d.str.size+1+2≤103 by have:=Zd.out;omega)) zo));unfold RS.val Dt.val at HB
     go_wp2_with fail
     refine HB.out.mono ?_;rintro e w7 ⟨rfl,hb⟩;clear yO0 yO1 yO2 yO3 yO4 yO5 yOl yd0 yd1 yd2 yd3 yd4 ydl;rw[QO.out];have HO:=zh (HO.out.move hb);clear hb HB;obtain⟨yM0,yM1,yM2,yM3,yM4,yM5⟩:=bM.cw HO.out.inn;have yMl:=Mem.ak HO.out.inn bM.c0;obtain⟨yd0,yd1,yd2,yd3,yd4⟩:=bd.cw HO.out.inn;have ydl:=Mem.ak HO.out.inn bd.c0;have HB:=zh (ek _ _ _ M _ _ d 20 101 m4 _ HO.out.inn HT.out bM.at' bd.at' (by have:=Cd.out;omega) (by have:=Zd.out;omega) LM.out zo (Nat.le_trans (Nat.mul_le_mul_right _ (show d.str.size+1+2≤103 by have:=Zd.out;omega)) zo));unfold RS.val Dt.val at HB
     go_wp2_with fail
     refine HB.out.mono ?_;rintro e w8 ⟨rfl,hb⟩;clear yM0 yM1 yM2 yM3 yM4 yM5 yMl yd0 yd1 yd2 yd3 yd4 ydl;rw[QM.out];have HO:=zh (HO.out.move hb);clear hb HB;obtain⟨yA0,yA1,yA2,yA3,yA4,yA5⟩:=bA.cw HO.out.inn;have yAl:=Mem.ak HO.out.inn bA.c0;have HB:=zh (gT _ _ _ A m4 _ HO.out.inn HT.out bA.at' (LA.out.mono zo zo));unfold RS.val at HB
     go_wp2_with fail
     refine HB.out.mono ?_;rintro e w9 ⟨rfl,hb⟩;clear yA0 yA1 yA2 yA3 yA4 yA5 yAl;rw[QE.out zS];have HO:=zh (HO.out.move hb);clear hb HB;go_wp2
     exact hX.out _ _ rfl ⟨rfl,HO.out⟩
    | false=>
     obtain⟨yN0,yN1,yN2,yN3,yN4,yN5⟩:=bN.cw HO.out.inn;have yNl:=Mem.ak HO.out.inn bN.c0;obtain⟨yd0,yd1,yd2,yd3,yd4⟩:=bd.cw HO.out.inn;have ydl:=Mem.ak HO.out.inn bd.c0;have HB:=zh (ek _ _ _ N _ _ d 20 101 m4 _ HO.out.inn HT.out bN.at' bd.at' (by have:=Cd.out;omega) (by have:=Zd.out;omega) LN.out zo (Nat.le_trans (Nat.mul_le_mul_right _ (show d.str.size+1+2≤103 by have:=Zd.out;omega)) zo));unfold RS.val Dt.val at HB
     go_wp2_with fail
     refine HB.out.mono ?_;rintro e w6 ⟨rfl,hb⟩;clear yN0 yN1 yN2 yN3 yN4 yN5 yNl yd0 yd1 yd2 yd3 yd4 ydl;rw[QN.out];have HO:=zh (HO.out.move hb);clear hb HB;obtain⟨yO0,yO1,yO2,yO3,yO4,yO5⟩:=bO.cw HO.out.inn;have yOl:=Mem.ak HO.out.inn bO.c0;obtain⟨yd0,yd1,yd2,yd3,yd4⟩:=bd.cw HO.out.inn;have ydl:=Mem.ak HO.out.inn bd.c0;have HB:=zh (ek _ _ _ O _ _ d 20 101 m4 _ HO.out.inn HT.out bO.at' bd.at' (by have:=Cd.out;omega) (by have:=Zd.out;omega) LO.out zo (Nat.le_trans (Nat.mul_le_mul_right _ (show d.str.size+1+2≤103 by have:=Zd.out;omega)) zo));unfold RS.val Dt.val at HB
     go_wp2_with fail
     refine HB.out.mono ?_;rintro e w7 ⟨rfl,hb⟩;clear yO0 yO1 yO2 yO3 yO4 yO5 yOl yd0 yd1 yd2 yd3 yd4 ydl;rw[QO.out];have HO:=zh (HO.out.move hb);clear hb HB;obtain⟨yM0,yM1,yM2,yM3,yM4,yM5⟩:=bM.cw HO.out.inn;have yMl:=Mem.ak HO.out.inn bM.c0;obtain⟨yd0,yd1,yd2,yd3,yd4⟩:=bd.cw HO.out.inn;have ydl:=Mem.ak HO.out.inn bd.c0;have HB:=zh (ek _ _ _ M _ _ d 20 101 m4 _ HO.out.inn HT.out bM.at' bd.at' (by have:=Cd.out;omega) (by have:=Zd.out;omega) LM.out zo (Nat.le_trans (Nat.mul_le_mul_right _ (show d.str.size+1+2≤103 by have:=Zd.out;omega)) zo));unfold RS.val Dt.val at HB
     go_wp2_with fail
     refine HB.out.mono ?_;rintro e w8 ⟨rfl,hb⟩;clear yM0 yM1 yM2 yM3 yM4 yM5 yMl yd0 yd1 yd2 yd3 yd4 ydl;rw[QM.out];have HO:=zh (HO.out.move hb);clear hb HB;obtain⟨yA0,yA1,yA2,yA3,yA4,yA5⟩:=bA.cw HO.out.inn;have yAl:=Mem.ak HO.out.inn bA.c0;have HB:=zh (gT _ _ _ A m4 _ HO.out.inn HT.out bA.at' (LA.out.mono zo zo));unfold RS.val at HB
     go_wp2_with fail
     refine HB.out.mono ?_;rintro e w9 ⟨rfl,hb⟩;clear yA0 yA1 yA2 yA3 yA4 yA5 yAl;rw[QE.out zS];have HO:=zh (HO.out.move hb);clear hb HB;obtain⟨yA0,yA1,yA2,yA3,yA4,yA5⟩:=bA.cw HO.out.inn;have yAl:=Mem.ak HO.out.inn bA.c0;obtain⟨yB0,yB1,yB2,yB3,yB4,yB5⟩:=bB.cw HO.out.inn;have yBl:=Mem.ak HO.out.inn bB.c0;have HB:=zh (ik _ _ _ A _ _ _ B 8 8 8 8 m4 _ HO.out.inn HT.out bA.at' bB.at' LA.out LB.out zo zo zo);unfold RS.val at HB
     go_wp2_with fail
     refine HB.out.mono ?_;rintro e w10 ⟨rfl,hb⟩;clear yA0 yA1 yA2 yA3 yA4 yA5 yAl yB0 yB1 yB2 yB3 yB4 yB5 yBl;rw[QS.out zS zS];have HO:=zh (HO.out.move hb);clear hb HB;go_wp2
     exact hX.out _ _ rfl ⟨rfl,HO.out⟩
   | false=>
    cases y with
    | true=>
     obtain⟨yN0,yN1,yN2,yN3,yN4,yN5⟩:=bN.cw HO.out.inn;have yNl:=Mem.ak HO.out.inn bN.c0;obtain⟨yd0,yd1,yd2,yd3,yd4⟩:=bd.cw HO.out.inn;have ydl:=Mem.ak HO.out.inn bd.c0;have HB:=zh (ek _ _ _ N _ _ d 20 101 m4 _ HO.out.inn HT.out bN.at' bd.at' (by have:=Cd.out;omega) (by have:=Zd.out;omega) LN.out zo (Nat.le_trans (Nat.mul_le_mul_right _ (show d.str.size+1+2≤103 by have:=Zd.out;omega)) zo));unfold RS.val Dt.val at HB
     go_wp2_with fail
     refine HB.out.mono ?_;rintro e w6 ⟨rfl,hb⟩;clear yN0 yN1 yN2 yN3 yN4 yN5 yNl yd0 yd1 yd2 yd3 yd4 ydl;rw[QN.out];have HO:=zh (HO.out.move hb);clear hb HB;obtain⟨yO0,yO1,yO2,yO3,yO4,yO5⟩:=bO.cw HO.out.inn;have yOl:=Mem.ak HO.out.inn bO.c0;obtain⟨yd0,yd1,yd2,yd3,yd4⟩:=bd.cw HO.out.inn;have ydl:=Mem.ak HO.out.inn bd.c0;have HB:=zh (ek _ _ _ O _ _ d 20 101 m4 _ HO.out.inn HT.out bO.at' bd.at' (by have:=Cd.out;omega) (by have:=Zd.out;omega) LO.out zo (Nat.le_trans (Nat.mul_le_mul_right _ (show d.str.size+1+2≤103 by have:=Zd.out;omega)) zo));unfold RS.val Dt.val at HB
     go_wp2_with fail
     refine HB.out.mono ?_;rintro e w7 ⟨rfl,hb⟩;clear yO0 yO1 yO2 yO3 yO4 yO5 yOl yd0 yd1 yd2 yd3 yd4 ydl;rw[QO.out];have HO:=zh (HO.out.move hb);clear hb HB;obtain⟨yM0,yM1,yM2,yM3,yM4,yM5⟩:=bM.cw HO.out.inn;have yMl:=Mem.ak HO.out.inn bM.c0;obtain⟨yd0,yd1,yd2,yd3,yd4⟩:=bd.cw HO.out.inn;have ydl:=Mem.ak HO.out.inn bd.c0;have HB:=zh (ek _ _ _ M _ _ d 20 101 m4 _ HO.out.inn HT.out bM.at' bd.at' (by have:=Cd.out;omega) (by have:=Zd.out;omega) LM.out zo (Nat.le_trans (Nat.mul_le_mul_right _ (show d.str.size+1+2≤103 by have:=Zd.out;omega)) zo));unfold RS.val Dt.val at HB
     go_wp2_with fail
     refine HB.out.mono ?_;rintro e w8 ⟨rfl,hb⟩;clear yM0 yM1 yM2 yM3 yM4 yM5 yMl yd0 yd1 yd2 yd3 yd4 ydl;rw[QM.out];have HO:=zh (HO.out.move hb);clear hb HB;go_wp2
     exact hX.out _ _ rfl ⟨rfl,HO.out⟩
    | false=>
     obtain⟨yN0,yN1,yN2,yN3,yN4,yN5⟩:=bN.cw HO.out.inn;have yNl:=Mem.ak HO.out.inn bN.c0;obtain⟨yd0,yd1,yd2,yd3,yd4⟩:=bd.cw HO.out.inn;have ydl:=Mem.ak HO.out.inn bd.c0;have HB:=zh (ek _ _ _ N _ _ d 20 101 m4 _ HO.out.inn HT.out bN.at' bd.at' (by have:=Cd.out;omega) (by have:=Zd.out;omega) LN.out zo (Nat.le_trans (Nat.mul_le_mul_right _ (show d.str.size+1+2≤103 by have:=Zd.out;omega)) zo));unfold RS.val Dt.val at HB
     go_wp2_with fail
     refine HB.out.mono ?_;rintro e w6 ⟨rfl,hb⟩;clear yN0 yN1 yN2 yN3 yN4 yN5 yNl yd0 yd1 yd2 yd3 yd4 ydl;rw[QN.out];have HO:=zh (HO.out.move hb);clear hb HB;obtain⟨yO0,yO1,yO2,yO3,yO4,yO5⟩:=bO.cw HO.out.inn;have yOl:=Mem.ak HO.out.inn bO.c0;obtain⟨yd0,yd1,yd2,yd3,yd4⟩:=bd.cw HO.out.inn;have ydl:=Mem.ak HO.out.inn bd.c0;have HB:=zh (ek _ _ _ O _ _ d 20 101 m4 _ HO.out.inn HT.out bO.at' bd.at' (by have:=Cd.out;omega) (by have:=Zd.out;omega) LO.out zo (Nat.le_trans (Nat.mul_le_mul_right _ (show d.str.size+1+2≤103 by have:=Zd.out;omega)) zo));unfold RS.val Dt.val at HB
     go_wp2_with fail
     refine HB.out.mono ?_;rintro e w7 ⟨rfl,hb⟩;clear yO0 yO1 yO2 yO3 yO4 yO5 yOl yd0 yd1 yd2 yd3 yd4 ydl;rw[QO.out];have HO:=zh (HO.out.move hb);clear hb HB;obtain⟨yM0,yM1,yM2,yM3,yM4,yM5⟩:=bM.cw HO.out.inn;have yMl:=Mem.ak HO.out.inn bM.c0;obtain⟨yd0,yd1,yd2,yd3,yd4⟩:=bd.cw HO.out.inn;have ydl:=Mem.ak HO.out.inn bd.c0;have HB:=zh (ek _ _ _ M _ _ d 20 101 m4 _ HO.out.inn HT.out bM.at' bd.at' (by have:=Cd.out;omega) (by have:=Zd.out;omega) LM.out zo (Nat.le_trans (Nat.mul_le_mul_right _ (show d.str.size+1+2≤103 by have:=Zd.out;omega)) zo));unfold RS.val Dt.val at HB
     go_wp2_with fail
     refine HB.out.mono ?_;rintro e w8 ⟨rfl,hb⟩;clear yM0 yM1 yM2 yM3 yM4 yM5 yMl yd0 yd1 yd2 yd3 yd4 ydl;rw[QM.out];have HO:=zh (HO.out.move hb);clear hb HB;go_wp2;exact hX.out _ _ rfl ⟨rfl,HO.out⟩
  rintro z0 vs w6 - ⟨rfl,hO⟩;simp[litL,lk];clear HO;have HO:=zh hO;clear hO;clear QN QO QM QE QS
  go_upto_region 7 with (fail)
  refine aA [3,4,5,9,10,11,12] (fun vs w'=>vs=[.pointer (some ⟨w.heap.size,0,none⟩),.pointer (some ⟨w.heap.size+1,0,none⟩),.pointer (some ⟨w.heap.size+1+1,0,none⟩),.pointer (some ⟨gN,0,none⟩),.pointer (some ⟨gO,0,none⟩),.pointer (some ⟨gM,0,none⟩),.bool (tf (ofE d=0))]∧Own w m w' m4 []) ?_ ?_
  ·intro X hX;obtain⟨yd0,yd1,yd2,yd3,yd4⟩:=bd.cw HO.out.inn;have ydl:=Mem.ak HO.out.inn bd.c0;have HB:=zh (kG _ _ d m4 _ HO.out.inn bd.at' (by have:=Cd.out;omega));unfold Dt.val at HB
   go_wp2_with fail
   refine HB.out.mono ?_;rintro e w7 ⟨rfl,hb⟩;clear yd0 yd1 yd2 yd3 yd4 ydl;have HO:=zh (HO.out.move hb);clear hb HB;obtain⟨yd0,yd1,yd2,yd3,yd4⟩:=bd.cw HO.out.inn;have ydl:=Mem.ak HO.out.inn bd.c0;have HK:=zh (show ofE d=if chkD d 1≠0 then chkD d 1 else if d.kind=5∨d.kind=6 then 11 else 0 from rfl);generalize ofE d=er at *
   generalize chkD d 1=cx at *
   generalize d.kind=kd at *
   generalize d.num=nd at *
   generalize d.str=sd at *
   generalize d.items.length=li at *
   generalize d.bv.length=lm at *
   by_cases hc:cx=0
   ·have c0:(cx==0)=true:=beq_iff_eq.2 hc;by_cases h5:kd=5
    ·have c5:(kd != 5)=false:=by simp[h5]
     have HR:=zh (show tf (er=0)=false from aL (by rw[HK.out];simp[hc,h5]));clear hc h5;go_wp2;exact hX.out _ _ rfl ⟨by rw[HR.out];rfl,HO.out⟩
    ·have c5:(kd != 5)=true:=by simpa using h5
     by_cases h6:kd=6
     ·have c6:(kd != 6)=false:=by simp[h6]
      have HR:=zh (show tf (er=0)=false from aL (by rw[HK.out];simp[hc,h6]));clear hc h5 h6;go_wp2;exact hX.out _ _ rfl ⟨by rw[HR.out];rfl,HO.out⟩
     ·have c6:(kd != 6)=true:=by simpa using h6
      have HR:=zh (show tf (er=0)=true from aN (by rw[HK.out];simp[hc,h5,h6]));clear hc h5 h6;go_wp2;exact hX.out _ _ rfl ⟨by rw[HR.out];rfl,HO.out⟩
   ·have c0:(cx==0)=false:=beq_eq_false_iff_ne.2 hc;have HR:=zh (show tf (er=0)=false from aL (by rw[HK.out];simp[hc]));clear hc;go_wp2;exact hX.out _ _ rfl ⟨by rw[HR.out];rfl,HO.out⟩
  rintro z0 vs w7 - ⟨rfl,hO⟩;simp[litL,lk];clear HO;have HO:=zh hO;clear hO
  go_upto_region 8 with (fail)
  refine aA [6] (fun vs w'=>vs=[.bool true]∧Own w m w' m4 []) ?_ ?_
  ·intro X hX;refine aM 21 6 (fun j=>[Fact.mem m4 [0] (ScRV elOk 1 1),Fact.is (·=.agg #[.int .i64 d.kind,.int .i64 d.num,.string d.str,.slice qda d.items.length qdb,.slice qdc d.bv.length qdd]),Fact.is (·=.bool (tf (ofE d=0))),Fact.is (·=.bool (tf (ofE d=0))),Fact.is (·=.bool true),Fact.is (·=.bool true),Fact.is (·=.agg #[.bool N.nul,.bool N.fal,.bool N.tru,.slice xNa N.i.length xNb,.slice xNc N.f.length xNd,.slice xNe N.t.length xNf]),Fact.is (·=.bool true),Fact.is (·=.bool true),Fact.is (·=.bool true),Fact.is (·=.agg #[.bool O.nul,.bool O.fal,.bool O.tru,.slice xOa O.i.length xOb,.slice xOc O.f.length xOd,.slice xOe O.t.length xOf]),Fact.is (·=.bool true),Fact.is (·=.bool true),Fact.is (·=.bool true),Fact.is (·=.agg #[.bool M.nul,.bool M.fal,.bool M.tru,.slice xMa M.i.length xMb,.slice xMc M.f.length xMd,.slice xMe M.t.length xMf]),Fact.is (·=.bool true),Fact.is (·=.bool true),Fact.is (·=.bool true),Fact.is (·=.bool true),Fact.is (·=.bool true),Fact.is (·=.bool true)].getD j Fact.any) zk zk ?_ ?_
   ·intro i hi o win a wr ho RA;have HO2:=HO.out.dr.move RA.below;obtain⟨y30,y31,y32,y33,y34,y35⟩:=bA.cw HO2.inn;have y3l:=Mem.ak HO2.inn bA.c0;obtain⟨y40,y41,y42,y43,y44,y45⟩:=bB.cw HO2.inn;have y4l:=Mem.ak HO2.inn bB.c0;obtain⟨y50,y51,y52,y53,y54⟩:=bd.cw HO2.inn;have y5l:=Mem.ak HO2.inn bd.c0;obtain⟨y90,y91,y92,y93,y94,y95⟩:=bN.cw HO2.inn;have y9l:=Mem.ak HO2.inn bN.c0;obtain⟨y100,y101,y102,y103,y104,y105⟩:=bO.cw HO2.inn;have y10l:=Mem.ak HO2.inn bO.c0;obtain⟨y110,y111,y112,y113,y114,y115⟩:=bM.cw HO2.inn;have y11l:=Mem.ak HO2.inn bM.c0;rcases (show i=0∨i=1∨i=2∨i=3∨i=4∨i=5∨i=6∨i=7∨i=8∨i=9∨i=10∨i=11∨i=12∨i=13∨i=14∨i=15∨i=16∨i=17∨i=18∨i=19∨i=20 by omega) with rfl | rfl | rfl | rfl | rfl | rfl | rfl | rfl | rfl | rfl | rfl | rfl | rfl | rfl | rfl | rfl | rfl | rfl | rfl | rfl | rfl
    ·cases ho;refine we rfl rfl (oh m4 wr HO2.inn) ?_;rintro e w' ⟨ri,rf,rt,rfl,hb,hn⟩;exact⟨_,rfl,_,rfl,hb,bH (R:=ScRV elOk 1 1) ScRV.le HO2.inn hb (d9 hn nX qF)⟩
    ·have e5:=RA.k 5;cases ho;exact wv rfl rfl rfl
    ·have e106:(Fact.mem m4 [0] (ScRV elOk 1 1)).holds (a.tmps.getD 106 undef) win wr:=RA.d 0 rfl;have e107:a.tmps.getD 107 undef=_:=RA.d 1 rfl;cases ho;obtain⟨s0,⟨a0,b0,c0,d0,x0,y0,k0,t0⟩,S0,L0⟩:ScRV _ _ _ _ _:=e106;refine we rfl rfl (ek _ _ _ s0 _ _ d 1 1 (m4.wins wr win [0]) wr (Mem.bK HO2.inn win [0]) (HT.out.le (Mem.dw HO2.inn win [0])) t0 (bd.at'.le (Mem.dw HO2.inn win [0])) (by have:=Cd.out;omega) (by have:=Zd.out;omega) L0 zo (Nat.le_trans (Nat.mul_le_mul_right _ (show d.str.size+1+2≤100+3 by have:=Zd.out;omega)) zo)) ?_;rintro e w' ⟨rfl,hb⟩;exact⟨_,rfl,_,rfl,hb,congrArg Value.bool (Jp S0 d)⟩
    ·have e12:=RA.k 12;cases ho;exact wv rfl rfl rfl
    ·have e108:a.tmps.getD 108 undef=_:=RA.d 2 rfl;have e109:a.tmps.getD 109 undef=_:=RA.d 3 rfl;cases ho;exact wv rfl rfl rfl
    ·have e110:a.tmps.getD 110 undef=_:=RA.d 4 rfl;cases ho;exact wv rfl rfl rfl
    ·have e9:=RA.k 9;have e111:a.tmps.getD 111 undef=_:=RA.d 5 rfl;cases ho;exact wy rfl rfl rfl e111 rfl
    ·have e112:a.tmps.getD 112 undef=_:=RA.d 6 rfl;have e111:a.tmps.getD 111 undef=_:=RA.d 5 rfl;cases ho;refine we2 rfl rfl rfl e111 (fC _ _ _ N m4 wr HO2.inn HT.out bN.at' ((LN.out).mono zo zo)) ?_;rintro e w' ⟨rfl,hb⟩;exact⟨_,rfl,_,rfl,hb,congrArg Value.bool (aN QV.out.1)⟩
    ·have e111:a.tmps.getD 111 undef=_:=RA.d 5 rfl;have e113:a.tmps.getD 113 undef=_:=RA.d 7 rfl;cases ho;exact wv rfl rfl rfl
    ·have e114:a.tmps.getD 114 undef=_:=RA.d 8 rfl;cases ho;exact wv rfl rfl rfl
    ·have e10:=RA.k 10;have e115:a.tmps.getD 115 undef=_:=RA.d 9 rfl;cases ho;exact wy rfl rfl rfl e115 rfl
    ·have e116:a.tmps.getD 116 undef=_:=RA.d 10 rfl;have e115:a.tmps.getD 115 undef=_:=RA.d 9 rfl;cases ho;refine we2 rfl rfl rfl e115 (fC _ _ _ O m4 wr HO2.inn HT.out bO.at' ((LO.out).mono zo zo)) ?_;rintro e w' ⟨rfl,hb⟩;exact⟨_,rfl,_,rfl,hb,congrArg Value.bool (aN QV.out.2.1)⟩
    ·have e115:a.tmps.getD 115 undef=_:=RA.d 9 rfl;have e117:a.tmps.getD 117 undef=_:=RA.d 11 rfl;cases ho;exact wv rfl rfl rfl
    ·have e118:a.tmps.getD 118 undef=_:=RA.d 12 rfl;cases ho;exact wv rfl rfl rfl
    ·have e11:=RA.k 11;have e119:a.tmps.getD 119 undef=_:=RA.d 13 rfl;cases ho;exact wy rfl rfl rfl e119 rfl
    ·have e120:a.tmps.getD 120 undef=_:=RA.d 14 rfl;have e119:a.tmps.getD 119 undef=_:=RA.d 13 rfl;cases ho;refine we2 rfl rfl rfl e119 (fC _ _ _ M m4 wr HO2.inn HT.out bM.at' ((LM.out).mono zo zo)) ?_;rintro e w' ⟨rfl,hb⟩;exact⟨_,rfl,_,rfl,hb,congrArg Value.bool (aN QV.out.2.2)⟩
    ·have e119:a.tmps.getD 119 undef=_:=RA.d 13 rfl;have e121:a.tmps.getD 121 undef=_:=RA.d 15 rfl;cases ho;exact wv rfl rfl rfl
    ·have e122:a.tmps.getD 122 undef=_:=RA.d 16 rfl;cases ho;exact wv rfl rfl rfl
    ·have e123:a.tmps.getD 123 undef=_:=RA.d 17 rfl;cases ho;refine we2 rfl rfl rfl e123 (bJ m4 wr HO2.inn HT.out) ?_;rintro e w' ⟨rfl,hb⟩;exact⟨_,rfl,_,rfl,hb,rfl⟩
    ·have e123:a.tmps.getD 123 undef=_:=RA.d 17 rfl;have e124:a.tmps.getD 124 undef=_:=RA.d 18 rfl;cases ho;exact wv rfl rfl rfl
    ·have e125:a.tmps.getD 125 undef=_:=RA.d 19 rfl;cases ho;exact wv rfl rfl rfl
   ·intro win a wr E;have e6:a.tmps.getD 6 undef=.bool true:=E.fact 20 _ zo rfl;obtain⟨t,d⟩:=a;obtain rfl:d=[]:=E.defers;refine aV zk (hX.out _ _ E.size ⟨?_,HO.out.dr.move E.below⟩) _;simp only[List.map_cons,List.map_nil,e6]
    first | done | rfl
  rintro z' vs w9 - ⟨rfl,hO⟩;simp[litL,lk];have HE:=zh hO.below;clear hO HO;go_wp2;exact hR.out _ _ ⟨rfl,HE.out⟩
end Cl
