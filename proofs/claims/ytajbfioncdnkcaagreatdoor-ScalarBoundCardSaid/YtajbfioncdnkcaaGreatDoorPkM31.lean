/- Lemmas for the proofs of chapter 11. -/
import Derived.Test.YtajbfioncdnkcaaGreatDoorProg
import Derived.BigQuiet
import Derived.Deep.Cut
import Derived.Deep.QuietTactic
import Derived.Laws.StructEq
import Derived.Lib.AppendStr
import Derived.Lib.Builder
import Derived.Lib.Hide
import Derived.Lib.ItoaLen
import Derived.Maps.OwnOps
import Derived.Maps.OwnSet
import Derived.OrdersHeld
import Derived.Outline
import Derived.StillTailTactics
import Derived.StringKeys
import Derived.WalkKit
import Derived.WalkLawsBesides
import Derived.WalkSpells
import Derived.Deep.RegionHeld
import Derived.Shelf.Strings.Builder1
import Derived.Shelf.Small.Wraps
import Derived.Shelf.LaysM
import Derived.Shelf.Strconv.Itoa3
import Derived.Laws.EntriesVeiled
import Derived.RegionTactic
import Derived.Test.YtajbfioncdnkcaaGreatDoorZz
import Derived.Test.YtajbfioncdnkcaaGreatDoorPkM3
import Derived.Test.YtajbfioncdnkcaaGreatDoorPkM1
import Derived.Test.YtajbfioncdnkcaaGreatDoorPkM2
import Derived.Test.YtajbfioncdnkcaaGreatDoorPkM29
import Derived.Test.YtajbfioncdnkcaaGreatDoorPkM14
import Derived.Test.YtajbfioncdnkcaaGreatDoorPkM5
import Derived.Test.YtajbfioncdnkcaaGreatDoorPkM11
set_option maxRecDepth 100000
set_option maxHeartbeats 16000000
namespace Cl
open Go Go.RowKit Go.Proofs
theorem qQ:∀(N:Nat) (vi vm:Value) (d:Dt) (most:Int) (m:Mem) (w:World),cnt d≤N→m.inn w→DtAt m vi vm d→0≤most→most≤1000 →
 Calls Tryz.prog 50 #[d.val vi vm,.int .i64 most] w fun e w'=>e=.returned (.int .i64 (nE d most))∧Below w.heap.size w w'
 | 0,vi,vm,d,most,m,w,hc,hm,hd,h0,h1=>by
  have:=Iu d;omega
 | N+1,vi,vm,d,most,m,w,hc,hm,hd,h0,h1=>by
  have hcp:=uV d;have HE:=zh (Px d most);have hbi:∀i (h:i<d.items.length),cnt d.items[i]≤N:=fun i hi=>by have:=mD d.items i hi;omega
  have hbm:∀i (h:i<d.bv.length),cnt d.bv[i]≤N:=fun i hi=>by have:=mD d.bv i hi;omega
  obtain⟨ai,ci,rfl,i1,i2,i3⟩:=hd.items;obtain⟨ml,am,cm,rfl,m1,m2,m3⟩:=hd.members;unfold maxLen at i2 m2;have hok:=hd.ok.s;unfold maxLen at hok;unfold Dt.val;generalize d.kind=k at *
  generalize d.num=n at *
  generalize d.str=s at *
  have HO:=zh ((Own.start hm).al #[.int .i64 k,.int .i64 n,.string s,.slice ai d.items.length ci,.slice am d.bv.length cm] 33);have HM3:=zh m3;have HI3:=zh i3;have HBN:=zh (zi hbi hbm);clear hd m3 i3 hbi hbm hcp;generalize nE d most=SZ at *
  generalize d.labels=labs at *
  generalize d.bv=dts at *
  generalize d.items=its at *
  refine aj fun R hR=>?_
  go_enter Tryz.func50,Tryz.ntmps50
  go_wp2;refine ay [1,2,5,6] (fun q vs wr=>∃(i:Nat) (c:Int),i≤its.length∧q=its.length - i∧vs=[.int .i64 most,.pointer (some ⟨w.heap.size,0,none⟩),.int .i64 c,.int .i64 (i:Int)]∧j6 its most 1=j6 (its.drop i) most c∧1≤c∧c≤most+1 ∧
   Own w m wr m [.obj w.heap.size 33 #[.int .i64 k,.int .i64 n,.string s,.slice ai its.length ci,.slice am dts.length cm]]) ?_ ?_
  ·exact⟨_,0,1,Nat.zero_le _,rfl,rfl,rfl,zo,zo,HO.out⟩
  clear HO;rintro X z q vs wr hX - ⟨i,c0,hi,rfl,rfl,hch,hc1,hc2,hO⟩;simp[litL,lk];have q3:=hO.obj.cell (i:=3) rfl;have q5:=hO.obj.lt;by_cases hgo:i<its.length∧c0≤most
  ·have hlt:=hgo.1;have hle:=hgo.2;have hdl:decide (c0≤most)=true:=decide_eq_true hle;obtain⟨b,off,rfl,h4⟩:=HI3.out (by intro h;simp[h] at hlt);obtain⟨xi,xm,c,hx⟩:=h4 i hlt;obtain⟨xa,xc,xb,xe,rfl,rfl⟩:=hx.slices;have r1:=Mem.av hO.inn c.k;have r2:=Mem.av hO.inn c.n;have r3:=Mem.av hO.inn c.s;have r4:=Mem.av hO.inn c.i;have r5:=Mem.av hO.inn c.m;have rl:=Mem.ak hO.inn c.k;have HS:=zh (vM its most c0 i hlt hle);have hcx:=HBN.out.1 i hlt;have hp1:=pY its[i] (most - c0);have hp2:=xR its[i] (most - c0) zo;have HX:=zh (qQ N _ _ its[i] (most - c0) m _ hcx hO.inn hx zo zo);have HO2:=zh hO;have HC:=zh hch;clear h4 c hch hO hx hcx hgo;generalize its[i]=x at *
   unfold Dt.val at HX;generalize hk0:x.kind=xk at *
   generalize hn0:x.num=xn at *
   generalize hs0:x.str=xs at *
   clear hk0 hn0 hs0
   go_wp2_with fail
   refine HX.out.mono ?_;rintro e w4 ⟨rfl,hb4⟩;have HO3:=zh (HO2.out.move hb4);clear HX HO2 hb4 r1 r2 r3 r4 r5 rl q3 q5;generalize nE x (most - c0)=sx at *
   go_wp2;exact hX.out _ _ _ zo rfl ⟨i+1,_,zo,rfl,rfl,HC.out.trans HS.out,zo,zo,HO3.out⟩
  ·have hS1:j6 its most 1=c0:=by
    rw[hch];by_cases h:i<its.length
    ·exact vL _ _ _ (fun h2=>hgo ⟨h,h2⟩)
    ·rw[List.drop_eq_nil_of_le zo];rfl
   rw[hS1] at HE;have HO:=zh hO;have hdl:i<its.length→decide (c0≤most)=false:=fun h=>decide_eq_false (fun h2=>hgo ⟨h,h2⟩);have Hgo:=zh hgo;clear hO hch hS1;by_cases hi2:i<its.length
   ·have hdl:=hdl hi2;clear hgo hX;go_wp2;refine ay [1,2,5,7] (fun q vs wr=>∃(i:Nat) (c:Int),i≤dts.length∧q=dts.length - i∧vs=[.int .i64 most,.pointer (some ⟨w.heap.size,0,none⟩),.int .i64 c,.int .i64 (i:Int)]∧j6 dts most c0=j6 (dts.drop i) most c∧1≤c∧c≤most+1 ∧
     Own w m wr m [.obj w.heap.size 33 #[.int .i64 k,.int .i64 n,.string s,.slice ai its.length ci,.slice am dts.length cm]]) ?_ ?_
    ·exact⟨_,0,c0,Nat.zero_le _,rfl,rfl,rfl,zo,zo,HO.out⟩
    clear HO q3 q5;rintro V z q vs wr hV - ⟨i,c1,hi,rfl,rfl,hch,hc1,hc2,hO⟩;simp[litL,lk];have q4:=hO.obj.cell (i:=4) rfl;have q5:=hO.obj.lt;by_cases hgo:i<dts.length∧c1≤most
    ·have hlt:=hgo.1;have hle:=hgo.2;have hdl:decide (c1≤most)=true:=decide_eq_true hle;obtain⟨b,off,rfl,h4,h5⟩:=HM3.out (by intro h;simp[h] at hlt);obtain⟨xi,xm,c,hx⟩:=h4 i hlt;obtain⟨xa,xc,xb,xe,rfl,rfl⟩:=hx.slices;have r1:=Mem.av hO.inn c.k;have r2:=Mem.av hO.inn c.n;have r3:=Mem.av hO.inn c.s;have r4:=Mem.av hO.inn c.i;have r5:=Mem.av hO.inn c.m;have rl:=Mem.ak hO.inn c.k;have HS:=zh (vM dts most c1 i hlt hle);have hcx:=HBN.out.2 i hlt;have hp1:=pY dts[i] (most - c1);have hp2:=xR dts[i] (most - c1) zo;have HX:=zh (qQ N _ _ dts[i] (most - c1) m _ hcx hO.inn hx zo zo);have HO2:=zh hO;have HC:=zh hch;clear h4 h5 c hch hO hx hcx hgo;generalize dts[i]=x at *
     unfold Dt.val at HX;generalize hk0:x.kind=xk at *
     generalize hn0:x.num=xn at *
     generalize hs0:x.str=xs at *
     clear hk0 hn0 hs0
     go_wp2_with fail
     refine HX.out.mono ?_;rintro e w4 ⟨rfl,hb4⟩;have HO3:=zh (HO2.out.move hb4);clear HX HO2 hb4 r1 r2 r3 r4 r5 rl q4 q5;generalize nE x (most - c1)=sx at *
     go_wp2;exact hV.out _ _ _ zo rfl ⟨i+1,_,zo,rfl,rfl,HC.out.trans HS.out,zo,zo,HO3.out⟩
    ·have HS2:=zh (show SZ=c1 by
      rw[HE.out,hch];by_cases h:i<dts.length
      ·exact vL _ _ _ (fun h2=>hgo ⟨h,h2⟩)
      ·rw[List.drop_eq_nil_of_le zo];rfl)
     have HB:=zh hO.below;clear hO hch;by_cases hi3:i<dts.length
     ·have hdl:decide (c1≤most)=false:=decide_eq_false (fun h2=>hgo ⟨hi3,h2⟩);clear hgo;go_wp2;exact hR.out _ _ ⟨by rw[HS2.out];rfl,HB.out⟩
     ·clear hgo;go_wp2;exact hR.out _ _ ⟨by rw[HS2.out];rfl,HB.out⟩
   ·clear hgo hdl hX;go_wp2;refine ay [1,2,5,7] (fun q vs wr=>∃(i:Nat) (c:Int),i≤dts.length∧q=dts.length - i∧vs=[.int .i64 most,.pointer (some ⟨w.heap.size,0,none⟩),.int .i64 c,.int .i64 (i:Int)]∧j6 dts most c0=j6 (dts.drop i) most c∧1≤c∧c≤most+1 ∧
     Own w m wr m [.obj w.heap.size 33 #[.int .i64 k,.int .i64 n,.string s,.slice ai its.length ci,.slice am dts.length cm]]) ?_ ?_
    ·exact⟨_,0,c0,Nat.zero_le _,rfl,rfl,rfl,zo,zo,HO.out⟩
    clear HO q3 q5;rintro V z q vs wr hV - ⟨i,c1,hi,rfl,rfl,hch,hc1,hc2,hO⟩;simp[litL,lk];have q4:=hO.obj.cell (i:=4) rfl;have q5:=hO.obj.lt;by_cases hgo:i<dts.length∧c1≤most
    ·have hlt:=hgo.1;have hle:=hgo.2;have hdl:decide (c1≤most)=true:=decide_eq_true hle;obtain⟨b,off,rfl,h4,h5⟩:=HM3.out (by intro h;simp[h] at hlt);obtain⟨xi,xm,c,hx⟩:=h4 i hlt;obtain⟨xa,xc,xb,xe,rfl,rfl⟩:=hx.slices;have r1:=Mem.av hO.inn c.k;have r2:=Mem.av hO.inn c.n;have r3:=Mem.av hO.inn c.s;have r4:=Mem.av hO.inn c.i;have r5:=Mem.av hO.inn c.m;have rl:=Mem.ak hO.inn c.k;have HS:=zh (vM dts most c1 i hlt hle);have hcx:=HBN.out.2 i hlt;have hp1:=pY dts[i] (most - c1);have hp2:=xR dts[i] (most - c1) zo;have HX:=zh (qQ N _ _ dts[i] (most - c1) m _ hcx hO.inn hx zo zo);have HO2:=zh hO;have HC:=zh hch;clear h4 h5 c hch hO hx hcx hgo;generalize dts[i]=x at *
     unfold Dt.val at HX;generalize hk0:x.kind=xk at *
     generalize hn0:x.num=xn at *
     generalize hs0:x.str=xs at *
     clear hk0 hn0 hs0
     go_wp2_with fail
     refine HX.out.mono ?_;rintro e w4 ⟨rfl,hb4⟩;have HO3:=zh (HO2.out.move hb4);clear HX HO2 hb4 r1 r2 r3 r4 r5 rl q4 q5;generalize nE x (most - c1)=sx at *
     go_wp2;exact hV.out _ _ _ zo rfl ⟨i+1,_,zo,rfl,rfl,HC.out.trans HS.out,zo,zo,HO3.out⟩
    ·have HS2:=zh (show SZ=c1 by
      rw[HE.out,hch];by_cases h:i<dts.length
      ·exact vL _ _ _ (fun h2=>hgo ⟨h,h2⟩)
      ·rw[List.drop_eq_nil_of_le zo];rfl)
     have HB:=zh hO.below;clear hO hch;by_cases hi3:i<dts.length
     ·have hdl:decide (c1≤most)=false:=decide_eq_false (fun h2=>hgo ⟨hi3,h2⟩);clear hgo;go_wp2;exact hR.out _ _ ⟨by rw[HS2.out];rfl,HB.out⟩
     ·clear hgo;go_wp2;exact hR.out _ _ ⟨by rw[HS2.out];rfl,HB.out⟩
theorem GK (vi vm:Value) (d:Dt) (most:Int) (m:Mem) (w:World) (hm:m.inn w) (hd:DtAt m vi vm d) (h0:0≤most) (h1:most≤1000) :
 Calls Tryz.prog 50 #[d.val vi vm,.int .i64 most] w fun e w'=>e=.returned (.int .i64 (nE d most))∧Below w.heap.size w w':=qQ (cnt d) vi vm d most m w (Nat.le_refl _) hm hd h0 h1
theorem sD:∀(N:Nat) (vi vm:Value) (d:Dt) (m:Mem) (w:World),cnt d≤N→m.inn w→DtAt m vi vm d →
 Calls Tryz.prog 51 #[d.val vi vm] w fun e w'=>e=.returned (.bool (lU d))∧Below w.heap.size w w'
 | 0,vi,vm,d,m,w,hc,hm,hd=>by
  have:=Iu d;omega
 | N+1,vi,vm,d,m,w,hc,hm,hd=>by
  have hcp:=uV d;have HE:=zh (MK d);have hbi:∀i (h:i<d.items.length),cnt d.items[i]≤N:=fun i hi=>by have:=mD d.items i hi;omega
  have hbm:∀i (h:i<d.bv.length),cnt d.bv[i]≤N:=fun i hi=>by have:=mD d.bv i hi;omega
  obtain⟨ai,ci,rfl,i1,i2,i3⟩:=hd.items;obtain⟨ml,am,cm,rfl,m1,m2,m3⟩:=hd.members;unfold maxLen at i2 m2;have hok:=hd.ok.s;unfold maxLen at hok;unfold Dt.val;generalize d.kind=k at *
  generalize d.num=n at *
  generalize d.str=s at *
  have HO:=zh ((Own.start hm).al #[.int .i64 k,.int .i64 n,.string s,.slice ai d.items.length ci,.slice am d.bv.length cm] 33);have HM3:=zh m3;have HI3:=zh i3;have HBN:=zh (zi hbi hbm);clear hd m3 i3 hbi hbm hcp;generalize lU d=SH at *
  generalize d.labels=labs at *
  generalize d.bv=dts at *
  generalize d.items=its at *
  refine aj fun R hR=>?_;by_cases hs:s.size≤80
  ·have hds:decide ((s.size:Int) > 80)=false:=decide_eq_false zo;have HE2:=zh (show SH=(qg its&&mP labs dts) by rw[HE.out,decide_eq_true hs];simp);clear hs HE
   go_enter Tryz.func51,Tryz.ntmps51
   go_wp2;refine ay [1,3] (fun q vs wr=>∃(i:Nat),i≤its.length∧q=its.length - i∧vs=[.pointer (some ⟨w.heap.size,0,none⟩),.int .i64 (i:Int)]∧qg its=qg (its.drop i) ∧
    Own w m wr m [.obj w.heap.size 33 #[.int .i64 k,.int .i64 n,.string s,.slice ai its.length ci,.slice am dts.length cm]]) ?_ ?_
   ·exact⟨_,0,Nat.zero_le _,rfl,rfl,rfl,HO.out⟩
   clear HO;rintro X z q vs wr hX - ⟨i,hi,rfl,rfl,hch,hO⟩;simp[litL,lk];have q3:=hO.obj.cell (i:=3) rfl;have q5:=hO.obj.lt;by_cases hlt:i<its.length
   ·obtain⟨b,off,rfl,h4⟩:=HI3.out (by intro h;simp[h] at hlt);obtain⟨xi,xm,c,hx⟩:=h4 i hlt;obtain⟨xa,xc,xb,xe,rfl,rfl⟩:=hx.slices;have r1:=Mem.av hO.inn c.k;have r2:=Mem.av hO.inn c.n;have r3:=Mem.av hO.inn c.s;have r4:=Mem.av hO.inn c.i;have r5:=Mem.av hO.inn c.m;have rl:=Mem.ak hO.inn c.k;have HS:=zh (Gu its i hlt);have hcx:=HBN.out.1 i hlt;have HX:=zh (sD N _ _ its[i] m _ hcx hO.inn hx);have HO2:=zh hO;have HC:=zh hch;clear h4 c hch hO hx hcx;generalize its[i]=x at *
    unfold Dt.val at HX;generalize hk0:x.kind=xk at *
    generalize hn0:x.num=xn at *
    generalize hs0:x.str=xs at *
    clear hk0 hn0 hs0
    go_wp2_with fail
    refine HX.out.mono ?_;rintro e w4 ⟨rfl,hb4⟩;have HO3:=zh (HO2.out.move hb4);clear HX HO2 hb4 r1 r2 r3 r4 r5 rl q3 q5
    cases hsx:lU x with
    | true=>
     have HS2:=zh (show qg (its.drop i)=qg (its.drop (i+1)) by rw[HS.out,hsx];rfl);clear hsx HS;go_wp2
     exact hX.out _ _ _ zo rfl ⟨i+1,zo,rfl,rfl,HC.out.trans HS2.out,HO3.out⟩
    | false=>
     have HS2:=zh (show SH=false by rw[HE2.out,HC.out,HS.out,hsx];rfl);clear hsx HS;go_wp2;exact hR.out _ _ ⟨by rw[HS2.out];rfl,HO3.out.below⟩
   ·have HE3:=zh (show SH=mP labs dts by
     rw[HE2.out,hch,List.drop_eq_nil_of_le zo];rfl)
    have HO:=zh hO;clear hO hch hX;go_wp2;refine ay [1,4] (fun q vs wr=>∃(i:Nat),i≤dts.length∧q=dts.length - i∧vs=[.pointer (some ⟨w.heap.size,0,none⟩),.int .i64 (i:Int)]∧mP labs dts=mP (labs.drop i) (dts.drop i) ∧
     Own w m wr m [.obj w.heap.size 33 #[.int .i64 k,.int .i64 n,.string s,.slice ai its.length ci,.slice am dts.length cm]]) ?_ ?_
    ·exact⟨_,0,Nat.zero_le _,rfl,rfl,rfl,HO.out⟩
    clear HO q3 q5;rintro V z q vs wr hV - ⟨i,hi,rfl,rfl,hch,hO⟩;simp[litL,lk];have q4:=hO.obj.cell (i:=4) rfl;have q5:=hO.obj.lt;by_cases hlt:i<dts.length
    ·obtain⟨b,off,rfl,h4,h5⟩:=HM3.out (by intro h;simp[h] at hlt);obtain⟨xi,xm,c,hx⟩:=h4 i hlt;obtain⟨xa,xc,xb,xe,rfl,rfl⟩:=hx.slices;have hll:i<labs.length:=zo;have r0:=Mem.av hO.inn (h5 i hll).1;have r6:=(h5 i hll).2;unfold maxLen at r6;have r1:=Mem.av hO.inn c.k;have r2:=Mem.av hO.inn c.n;have r3:=Mem.av hO.inn c.s;have r4:=Mem.av hO.inn c.i;have r5:=Mem.av hO.inn c.m;have rl:=Mem.ak hO.inn c.k;have HS:=zh (Gt labs dts i hlt hll);have hcx:=HBN.out.2 i hlt;have HX:=zh (sD N _ _ dts[i] m _ hcx hO.inn hx);have HO2:=zh hO;have HC:=zh hch;clear h4 h5 c hch hO hx hcx;generalize dts[i]=x at *
     generalize labs[i]=lab at *
     unfold Dt.val at HX;generalize hk0:x.kind=xk at *
     generalize hn0:x.num=xn at *
     generalize hs0:x.str=xs at *
     clear hk0 hn0 hs0;by_cases hl:lab.size≤80
     ·have hdl:decide ((lab.size:Int) > 80)=false:=decide_eq_false zo;have HS1:=zh (show mP (labs.drop i) (dts.drop i)=(lU x&&mP (labs.drop (i+1)) (dts.drop (i+1))) by rw[HS.out,decide_eq_true hl];simp);clear hl HS
      go_wp2_with fail
      refine HX.out.mono ?_;rintro e w4 ⟨rfl,hb4⟩;have HO3:=zh (HO2.out.move hb4);clear HX HO2 hb4 r0 r1 r2 r3 r4 r5 rl q4 q5
      cases hsx:lU x with
      | true=>
       have HS2:=zh (show mP (labs.drop i) (dts.drop i)=mP (labs.drop (i+1)) (dts.drop (i+1)) by rw[HS1.out,hsx];rfl);clear hsx HS1;go_wp2
       exact hV.out _ _ _ zo rfl ⟨i+1,zo,rfl,rfl,HC.out.trans HS2.out,HO3.out⟩
      | false=>
       have HS2:=zh (show SH=false by rw[HE3.out,HC.out,HS1.out,hsx];rfl);clear hsx HS1;go_wp2;exact hR.out _ _ ⟨by rw[HS2.out];rfl,HO3.out.below⟩
     ·have hdl:decide ((lab.size:Int) > 80)=true:=decide_eq_true zo;have HS2:=zh (show SH=false by rw[HE3.out,HC.out,HS.out,decide_eq_false hl];rfl);clear hl HS HX;go_wp2;exact hR.out _ _ ⟨by rw[HS2.out];rfl,HO2.out.below⟩
    ·have HC:=zh (show SH=true by rw[HE3.out,hch,show List.drop i dts=[] from List.drop_eq_nil_of_le zo,Ka]);have HB:=zh hO.below;clear hO hch;go_wp2;exact hR.out _ _ ⟨by rw[HC.out];rfl,HB.out⟩
  ·have hds:decide ((s.size:Int) > 80)=true:=decide_eq_true zo;have HE2:=zh (show SH=false by rw[HE.out,decide_eq_false hs];rfl);clear hs HE
   go_enter Tryz.func51,Tryz.ntmps51
   go_wp2;exact hR.out _ _ ⟨by rw[HE2.out];rfl,HO.out.below⟩
def kr (d:Dt):Bool:=decide (nE d 40≤40)&&lU d
theorem jq (vi vm:Value) (d:Dt) (m:Mem) (w:World) (hm:m.inn w) (hd:DtAt m vi vm d) :
 Calls Tryz.prog 13 #[d.val vi vm] w fun e w'=>e=.returned (.bool (kr d))∧Below w.heap.size w w':=by
 have hO:=(Own.start hm).al #[.int .i64 d.kind,.int .i64 d.num,.string d.str,vi,vm] 33;have HC:=zh (GK vi vm d 40 m _ hO.inn hd zo zo);have HD:=zh (fun w' (h:m.inn w')=>sD (cnt d) vi vm d m w' (Nat.le_refl _) h hd);have HO:=zh hO;obtain⟨ai,ci,am,cm,rfl,rfl⟩:=hd.slices;have HE:=zh (show kr d=(decide (nE d 40≤40)&&lU d) from rfl);unfold Dt.val at HC HD ⊢;clear hO hd;generalize kr d=SM at *
 generalize nE d 40=sz at *
 refine aj fun R hR=>?_
 go_enter Tryz.func13,Tryz.ntmps13
 go_wp2_with fail
 refine HC.out.mono ?_;rintro e w1 ⟨rfl,hb1⟩;have hO:=HO.out.move hb1;obtain⟨q0,q1,q2,q3,q4⟩:=hO.obj.cs5;have q5:=hO.obj.lt;have HO2:=zh hO;clear HC HO hb1 hO;by_cases hz:sz≤40
 ·have hdz:decide (sz≤40)=true:=decide_eq_true hz;have HE2:=zh (show SM=lU d by rw[HE.out,hdz];rfl);clear hz HE
  go_wp2_with fail
  refine (HD.out _ HO2.out.inn).mono ?_;rintro e w2 ⟨rfl,hb2⟩;have HB:=zh (HO2.out.move hb2).below;clear HD HO2 hb2 q0 q1 q2 q3 q4 q5;generalize lU d=sd at *
  go_wp2;exact hR.out _ _ ⟨by rw[HE2.out];rfl,HB.out⟩
 ·have hdz:decide (sz≤40)=false:=decide_eq_false hz;have HE2:=zh (show SM=false by rw[HE.out,hdz];rfl);have HB:=zh HO2.out.below;clear hz HE HD HO2;go_wp2;exact hR.out _ _ ⟨by rw[HE2.out];rfl,HB.out⟩
theorem kS {d:Dt} (h:kr d=true):cnt d≤40∧lU d=true:=by
 unfold kr at h;rw[Bool.and_eq_true,decide_eq_true_eq] at h;have:=Eh d 40 h.1;exact⟨zo,h.2⟩
end Cl
