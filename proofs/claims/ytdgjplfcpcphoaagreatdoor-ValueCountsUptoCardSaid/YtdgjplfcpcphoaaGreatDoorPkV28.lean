/- Lemmas for the proofs of chapter 11. -/
import Derived.Test.YtdgjplfcpcphoaaGreatDoorProg
import Derived.BigQuiet
import Derived.Deep.Cut
import Derived.Deep.QuietTactic
import Derived.Laws.StructEq
import Derived.Lib.AppendStr
import Derived.Lib.Builder
import Derived.Lib.Hide
import Derived.Lib.ItoaLen
import Derived.Maps.OwnOps
import Derived.Maps.OwnSet
import Derived.OrdersHeld
import Derived.Outline
import Derived.StillTailTactics
import Derived.StringKeys
import Derived.WalkKit
import Derived.WalkLawsBesides
import Derived.WalkSpells
import Derived.Deep.RegionHeld
import Derived.Laws.CopyRow
import Derived.Laws.Tables
import Derived.BigFrame
import Derived.RangeFuncNested
import Derived.RangeFuncBound
import Derived.RangeFuncCalls
import Derived.RangeFuncLeaves
import Derived.OwnWalkIn
import Derived.TacticsInMore
import Derived.LoopNIn
import Derived.LoopIn
import Derived.Shelf.Strings.Builder1
import Derived.Shelf.Small.Wraps
import Derived.Shelf.LaysM
import Derived.Shelf.Strconv.Itoa3
import Derived.Shelf.Strconv.AppendIntPublic10
import Derived.Shelf.SlSortCmp.WholeK
import Derived.RegionTactic
import Derived.ChangeAlike
import Derived.Laws.EntriesVeiled
import Derived.Laws.CopyOwn
import Derived.Shelf.Spec.SlicesGrow
import Derived.Laws.BytesArg
import Derived.Test.YtdgjplfcpcphoaaGreatDoorZz
import Derived.Test.YtdgjplfcpcphoaaGreatDoorPkV15
import Derived.Test.YtdgjplfcpcphoaaGreatDoorPkV3
import Derived.Test.YtdgjplfcpcphoaaGreatDoorPkV4
import Derived.Test.YtdgjplfcpcphoaaGreatDoorPkV5
import Derived.Test.YtdgjplfcpcphoaaGreatDoorPkV1
import Derived.Test.YtdgjplfcpcphoaaGreatDoorPkV2
import Derived.Test.YtdgjplfcpcphoaaGreatDoorPkV10
import Derived.Test.YtdgjplfcpcphoaaGreatDoorPkV24
import Derived.Test.YtdgjplfcpcphoaaGreatDoorPkV14
import Derived.Test.YtdgjplfcpcphoaaGreatDoorPkV20
import Derived.Test.YtdgjplfcpcphoaaGreatDoorPkV27
import Derived.Test.YtdgjplfcpcphoaaGreatDoorPkV9
import Derived.Test.YtdgjplfcpcphoaaGreatDoorPkV6
import Derived.Test.YtdgjplfcpcphoaaGreatDoorPkV25
import Derived.Test.YtdgjplfcpcphoaaGreatDoorPkV11
import Derived.Test.YtdgjplfcpcphoaaGreatDoorPkV26
import Derived.Test.YtdgjplfcpcphoaaGreatDoorPkV7
import Derived.Test.YtdgjplfcpcphoaaGreatDoorPkV8
import Derived.Test.YtdgjplfcpcphoaaGreatDoorPkV13
import Derived.Test.YtdgjplfcpcphoaaGreatDoorPkV16
import Derived.Test.YtdgjplfcpcphoaaGreatDoorPkV19
import Derived.Test.YtdgjplfcpcphoaaGreatDoorPkV21
import Derived.Test.YtdgjplfcpcphoaaGreatDoorPkV12
import Derived.Test.YtdgjplfcpcphoaaGreatDoorPkV17
import Derived.Test.YtdgjplfcpcphoaaGreatDoorPkV18
set_option maxRecDepth 100000
set_option maxHeartbeats 16000000
namespace Cl
open Go Go.RowKit Go.Proofs
theorem yO {m m':Mem} (h:m.le m') {v:Value} {l:List Table} (k:rU m v l):rU m' v l:=Mem.gX k fun _ _ _ ⟨u,h1,h2⟩=>⟨u,Mem.aA h h1,aZ h h2⟩
theorem VIn.rng2 {cs:List Comp} {v:List Int} (h:VIn cs v) (hc:∀c∈cs,c.n≤1000):∀x∈v,-1≤x∧x<1000+1:=fun x hx=>by
 have:=h.rng hc x hx;omega
theorem BR (u:Value) (Ls:List Table) (m:Mem) (w:World) (hm:m.inn w) (h:rU m u Ls) (hok:∀T∈Ls,Canon T∧T≠[]) (hl:Ls.length≤12) (hsz:∀T∈Ls,T.length≤1000) (hfew:∀sn:List (List Int),sn.Nodup→(∀v∈sn,gL (Ls.map tabC) v)→sn.length≤1400000000) :
 Calls Tryz.prog 152 #[u] w fun e w'=>e=.returned (.bool (tf (qc (Ls.map tabC))))∧Below w.heap.size w w':=by
 have hu:=h;obtain⟨a,c,rfl,p1,q1,k1⟩:=h;unfold maxLen at q1;have HU:=zh hu;have HK:=zh k1;have HOK:=zh hok;have HSZ:=zh hsz;have HFEW:=zh hfew;have HO:=zh ((Own.start hm).dC 3 1);clear k1 hu hok hsz hfew;refine av fun R hR=>?_
 go_enter Tryz.func152,Tryz.ntmps152
 go_wp2;refine au [0,3,4] (fun q vs wr=>∃(i:Nat) (tv:Value),i≤Ls.length∧q=Ls.length - i∧vs=[.slice a Ls.length c,tv,.int .i64 (i:Int)] ∧
  Own w m wr m [.row tv 3 1 i (List.replicate i (.int .i64 0))]) ?_ ?_
 ·exact⟨_,0,_,Nat.zero_le _,rfl,rfl,HO.out⟩
 clear HO;rintro X z q vs wr hX - ⟨i,tv,hi,rfl,rfl,hO⟩;simp[litL,lk];obtain⟨va,vc,rfl⟩:=aO hO.row;by_cases hlt:i<Ls.length
 ·obtain⟨b,off,rfl,h4⟩:=HK.out (by intro h;simp[h] at hlt);obtain⟨ui,hc,hst⟩:=h4 i hlt;obtain⟨ta,tc,rfl,t1,t2,-⟩:=hst;have hne:¬ Ls[i].length=0:=fun e=>(HOK.out _ (List.getElem_mem hlt)).2 (List.length_eq_zero_iff.1 e);have hd:((Ls[i].length:Int)==0)=false:=beq_eq_false_iff_ne.2 zo;have x1:=Mem.aj hO.inn hc;have xl:=Mem.ay hO.inn hc;have hO2:=hO.al #[.int .i64 0] 3;have hnews:=hO2.obj.news rfl;generalize Ls[i].length=n at *
  clear hO h4 hc
  go_wp2_with (at_builtin;refine aC nU rfl (.tmp 28) (.tmp 29) rfl (.slice va i vc) i (List.replicate i (.int .i64 0)) rfl hO2.swap.row ⟨wr.heap.size,0,none⟩ 1 1 [.int .i64 0] rfl rfl hnews (by simp[Value.oneCell']) (by unfold maxLen;omega) zo ?_)
  intro va' vc' w3 hown3 hgrow hrow3;have hO4:=(hO2.swap.app hown3 hgrow hrow3 zS).drop2;rw[← List.replicate_succ'] at hO4;have Hfin:=zh hO4;clear hO4 hown3 hgrow hrow3 hO2 hnews;go_wp2;exact hX.out _ _ _ zo rfl ⟨i+1,_,zo,rfl,rfl,Hfin.out⟩
 obtain rfl:i=Ls.length:=zo;have hvs:=Bp Ls;have hlv:(ek (Ls.map tabC)).length=Ls.length:=by rw[hvs,List.length_replicate]
 rw[show List.replicate Ls.length (Value.int .i64 0)=(ek (Ls.map tabC)).map (Value.int .i64) by rw[hvs];simp] at hO;have hv0:=bI (m:=m) (l:=ek (Ls.map tabC)) (by rw[hlv];exact hO.row) (fun x hx=>by rw[hvs] at hx;rw[List.eq_of_mem_replicate hx];omega);have hle0:=Mem.cu (w:=wr) hO.free;have hO1:=hO.aY;generalize m.addv wr _=mk1 at *
 have hO2:=hO1.make (World.ownsRow_lit (base:=0) (e:=135) (size:=1) wr #[.slice va Ls.length vc] 1 (Nat.zero_le _) (by unfold maxLen;omega) rfl) (World.grownBy_alloc wr (.cells #[.slice va Ls.length vc] 135) none);have HS0:=zh (zi (p9.first (Ls.map tabC)) (zi hv0 hle0));have HO2:=zh hO2;have HVR:=zh (fun (v:List Int) (h:gL (Ls.map tabC) v)=>VIn.reach (fun c hc=>by obtain⟨T,hT,rfl⟩:=List.mem_map.1 hc;exact wX (HOK.out T hT).1 (HOK.out T hT).2) h);clear hO hO1 hO2 hv0 hle0 hlv hvs hX;generalize ek (Ls.map tabC)=v0 at *
 go_wp2;refine au [0,5,6] (fun q vs wr=>∃(k:Nat) (sn:List (List Int)) (ts:List Value) (tv:Value) (mk:Mem),k≤sn.length∧q=1400000001 - k∧vs=[.slice a Ls.length c,tv,.int .i64 (k:Int)]∧p9 (Ls.map tabC) sn k∧jk mk ts sn∧m.le mk ∧
  Own w m wr mk [.row tv 135 1 sn.length ts]) ?_ ?_
 ·refine ⟨_,0,[v0],[.slice va Ls.length vc],_,mk1,Nat.zero_le _,rfl,rfl,HS0.out.1,⟨rfl,fun i h1 h2=>?_⟩,HS0.out.2.2,HO2.out⟩
  match i,h1,h2 with
  | 0,_,_=>exact HS0.out.2.1
 clear HO2 HS0;rintro X z q vs wr hX - ⟨k,sn,ts,tv,mk,hks,rfl,rfl,hS,hT,hle,hO⟩;simp[litL,lk];obtain⟨ta,tcap,rfl⟩:=aO hO.row;have hsn:=HFEW.out sn hS.nodup hS.reach;by_cases hlt:k<sn.length
 case neg=>
  obtain rfl:k=sn.length:=zo;have HR:=zh hS.once;have HB:=zh hO.below;clear hO hS hT hX;go_wp2;exact hR.out _ _ ⟨by rw[aH HR.out] <;> rfl,HB.out⟩
 obtain⟨s1,hs1⟩:∃s1,sn.length=s1+1:=⟨sn.length - 1,zo⟩;have hrw:=hO.row;rw[hs1] at hrw;obtain⟨g,cap,e,-⟩:=kT hrw;rw[← hs1] at e;injection e with e1 e2 e3;subst e1 e3;have hkt:k<ts.length:=by rw[hT.1];exact hlt
 obtain⟨xa,xc,hxe,r1,r2,r3⟩:=hT.2 k hkt hlt;have hrv:=hS.reach _ (List.getElem_mem hlt);have hvin:=HVR.out sn[k] hrv;have hvl:sn[k].length=Ls.length:=by rw[hvin.len];simp
 have HT:=zh hT;have HS:=zh hS;have HLE:=zh hle;have HXE:=zh (show ts[k]?=some (.slice xa sn[k].length xc) by rw[List.getElem?_eq_getElem hkt,hxe]);have HR3:=zh r3;have HRG:=zh (show ∀i (h1:i<Ls.length) (h2:i<sn[k].length),-1≤sn[k][i]∧sn[k][i]<Ls[i].length from fun i h1 h2=>by
  have:=hvin.get i (by simpa using h1) h2;simpa [tabC] using this)
 have HIT:=zh (zi (Jv Ls sn[k]) (zi (fun i (h1:i<Ls.length) (h2:i<(sn[k]).length)=>Jw h1 h2) (zi (K8 hvl) (Nh Ls sn[k]))));have HRV:=zh (zi hrv hvl);have HO:=zh hO;have hvl':sn[k].length=Ls.length:=hvl;unfold maxLen at r2;clear hrw hs1 hT hS hle hO r3 hrv hvin hvl hxe;generalize hv:sn[k]=v at *
 have HV:=zh hv;clear hv;go_wp2;refine au [0,5,6,7,8] (fun q vs wr=>∃(i:Nat),i≤Ls.length∧q=Ls.length - i∧vs=[.slice a Ls.length c,.slice (some ⟨g,0,none⟩) sn.length tcap,.int .i64 (k:Int),.int .i64 (hitT Ls v i:Int),.int .i64 (i:Int)] ∧
  Own w m wr mk [.row (.slice (some ⟨g,0,none⟩) sn.length tcap) 135 1 sn.length ts]) ?_ ?_
 ·exact⟨_,0,Nat.zero_le _,rfl,by rw[HIT.out.1];rfl,HO.out⟩
 clear HO;rintro Y z2 q vs wr2 hY - ⟨i,hi,rfl,rfl,hO⟩;simp[litL,lk];have y0:=aN hO.row HXE.out;have yl:=(World.ownsRow.lt hO.row _ rfl).2;by_cases hlt2:i<Ls.length
 ·have hiv:i<v.length:=zo;obtain⟨b,off,rfl,h4⟩:=HK.out (by intro h;simp[h] at hlt2);obtain⟨ui,hc,hst⟩:=h4 i hlt2;obtain⟨ta,tc,rfl,t1,t2,t4⟩:=hst;obtain⟨b3,off3,rfl,h5⟩:=HR3.out (by intro h;simp[h] at hiv);have x1:=Mem.aj hO.inn (Mem.aA HLE.out hc);have xl:=Mem.ay hO.inn (Mem.aA HLE.out hc);have x2:=Mem.aj hO.inn (h5 i hiv).1;have xl2:=Mem.ay hO.inn (h5 i hiv).1;have hrg:=HRG.out i hlt2 hiv;have hhs:=HIT.out.2.1 i hlt2 hiv;have hhl:=HIT.out.2.2.2 i;have HT4:=zh t4;have HO:=zh (hO.drN 1);unfold maxLen at t2;generalize Ls[i]=T at *
  generalize v[i]=vi at *
  have hin:=hO.inn;clear h4 h5 hc t4 hO;by_cases hpos:0≤vi
  ·obtain⟨p,rfl⟩:=Int.eq_ofNat_of_zero_le hpos;have hpt:p<T.length:=zo;obtain⟨tb,to,rfl,t5⟩:=HT4.out (by intro h;rw[h] at hpt;simp at hpt);obtain⟨s1,-⟩:=t5 p hpt;have x3:=Mem.aj hin (Mem.aA HLE.out s1);have xl3:=Mem.ay hin (Mem.aA HLE.out s1);rw[dG _ _ hpt] at hhs;have hd:decide (0≤(p:Int))=true:=decide_eq_true zo;have HHS:=zh hhs;generalize T[p].accept=acc at *
   clear t5 s1 hhs hin;cases acc
   all_goals
    go_wp2
    go_region
    all_goals go_wp2
    all_goals exact hY.out _ _ _ zo rfl ⟨i+1,zo,rfl,by rw[HHS.out] <;> rfl,HO.out⟩
  ·have hd:decide (0≤vi)=false:=decide_eq_false hpos;rw[show dP T vi=false by unfold dP;rw[if_pos zo]] at hhs;have HHS:=zh hhs;clear hhs hin;go_wp2
   go_region
   all_goals go_wp2
   all_goals exact hY.out _ _ _ zo rfl ⟨i+1,zo,rfl,by rw[HHS.out] <;> rfl,HO.out⟩
 obtain rfl:i=Ls.length:=zo;rw[HIT.out.2.2.1];have hhl:jb (Ls.map tabC) v≤12:=by have:=HIT.out.2.2.2 Ls.length;rw[HIT.out.2.2.1] at this;omega
 have HNO:=zh (DR (cs:=Ls.map tabC) (v:=v) HRV.out.1);generalize hrr:jb (Ls.map tabC) v=r at *
 have HW1:=zh hrr;clear hrr;have HO:=zh hO;clear hO hY HIT HR3;by_cases hr1:r=1
 case neg=>
  have hd:((r:Int) != 1)=true:=bne_iff_ne.2 zo;have HR:=zh (HNO.out hr1);have HB:=zh HO.out.below;clear HNO hr1 hX HO;go_wp2;exact hR.out _ _ ⟨by rw[az HR.out] <;> rfl,HB.out⟩
 subst hr1;clear y0 yl;go_wp2;refine au [0,5,6,9] (fun q vs wr=>∃(b:Nat) (sm:List (List Int)) (tm:List Value) (tv:Value) (mm:Mem),b≤256∧q=256 - b∧vs=[.slice a Ls.length c,tv,.int .i64 (k:Int),.int .i64 (b:Int)]∧p9 (Ls.map tabC) sm k∧k<sm.length∧sm[k]?=some v∧tm[k]?=some (.slice xa v.length xc) ∧
  (∀b',b'<b→dD (Ls.map tabC) v b'∈sm)∧jk mm tm sm∧mk.le mm∧Own w m wr mm [.row tv 135 1 sm.length tm]) ?_ ?_
 ·exact⟨_,0,sn,ts,_,mk,zo,rfl,rfl,HS.out,hlt,by rw[List.getElem?_eq_getElem hlt,HV.out],HXE.out,fun b' h=>absurd h (Nat.not_lt_zero _),HT.out,Mem.le_refl _,HO.out⟩
 clear HO HS HT HXE HV;rintro Y z2 q vs wr2 hY - ⟨b,sm,tm,tv,mm,hb,rfl,rfl,hS,hkm,hsv,htv,hdn,hT,hle,hO⟩;simp[litL,lk];obtain⟨va2,vc2,rfl⟩:=aO hO.row;have hsm:=HFEW.out sm hS.nodup hS.reach;by_cases hb2:b<256
 case neg=>
  obtain rfl:b=256:=zo;have hd:uY (Ls.map tabC) sm (sm[k]'hkm):=by
   have e:sm[k]'hkm=v:=by rw[List.getElem?_eq_getElem hkm] at hsv;exact Option.some.inj hsv
   rw[e];exact⟨HW1.out,hdn⟩
  have HSX:=zh (hS.close hkm hd);have HTX:=zh (zi hT (zi (Mem.le_trans HLE.out hle) hO));clear hS hsv htv hdn hT hle hO hY hd;go_wp2;exact hX.out _ _ _ zo rfl ⟨k+1,sm,tm,_,mm,zo,rfl,rfl,HSX.out,HTX.out.1,HTX.out.2.1,HTX.out.2.2⟩
 obtain⟨s2,hs2⟩:∃s2,sm.length=s2+1:=⟨sm.length - 1,zo⟩;have hrw2:=hO.row;rw[hs2] at hrw2;obtain⟨g2,cap2,e,-⟩:=kT hrw2;rw[← hs2] at e;injection e with e1 e2 e3;subst e1 e3;clear hrw2 hs2;have hO1:=hO.dC 3 1;rw[show ([]:List Value)=(stepT Ls v b 0).map (Value.int .i64) by rw[EY];rfl] at hO1;have HO1:=zh hO1;have HS:=zh (zi hS (zi hdn (zi hT hle)));have HSV:=zh (zi hsv htv);have HRX:=zh (HRV.out.1.step hb2);clear hO hO1 hS hdn hT hle hsv htv;go_wp2;refine au [0,5,6,9,10,11] (fun q vs wr=>∃(i:Nat) (xv:Value),i≤Ls.length∧q=Ls.length - i∧vs=[.slice a Ls.length c,.slice (some ⟨g2,0,none⟩) sm.length vc2,.int .i64 (k:Int),.int .i64 (b:Int),xv,.int .i64 (i:Int)] ∧
  Own w m wr mm [.row xv 3 1 i ((stepT Ls v b i).map (Value.int .i64)),.row (.slice (some ⟨g2,0,none⟩) sm.length vc2) 135 1 sm.length tm]) ?_ ?_
 ·exact⟨_,0,.slice none 0 0,Nat.zero_le _,rfl,rfl,HO1.out⟩
 clear HO1;rintro V z3 q vs wr3 hV - ⟨i,xv,hi,rfl,rfl,hO⟩;simp[litL,lk];obtain⟨xa3,xc3,rfl⟩:=aO hO.row;by_cases hlt3:i<Ls.length
 ·have hiv:i<v.length:=zo;have hle2:=Mem.le_trans HLE.out HS.out.2.2.2;have hxv:cO mm (.slice xa v.length xc) v:=by
   obtain⟨k1,e1⟩:=List.getElem?_eq_some_iff.1 HSV.out.2;obtain⟨k2,e2⟩:=List.getElem?_eq_some_iff.1 HSV.out.1;have:=HS.out.2.2.1.2 k k1 k2
   rwa [e1,e2] at this
  obtain⟨za,zc,ze,-,-,z3⟩:=hxv;injection ze with ze1 ze2 ze3;subst ze1;obtain⟨b0,off,rfl,h4⟩:=HK.out (by intro h;simp[h] at hlt3);obtain⟨ui,hc,hst⟩:=h4 i hlt3;obtain⟨b3,off3,rfl,h5⟩:=z3 (by intro h;simp[h] at hiv);have hrg:=HRG.out i hlt3 hiv;have HST:=zh (fun w' (h:mm.inn w')=>yh ui Ls[i] v[i] b mm w' h (aZ hle2 hst) zo zo);have HSUC:=zh (EZ (Ls:=Ls) (v:=v) b hlt3 hiv);obtain⟨ta,tc,rfl,-⟩:=hst;have hwu:IntKind.u8.wrap (b:Int)=(b:Int):=IntWalk.u8_in _ zo;have HSF:=zh (show ∀(w':World) (L:List Item),Own w m w' mm L→Item.row (.slice (some ⟨g2,0,none⟩) sm.length vc2) 135 1 sm.length tm∈L→mm.inn w'∧w'.cell? ⟨g2,k,none⟩=some (.slice (some ⟨b3,off3,none⟩) Ls.length xc)∧g2<w'.heap.size from fun w' L h hi=>⟨h.inn,by have:=aN (h.jM hi) HSV.out.2;rwa [hvl'] at this,(World.ownsRow.lt (h.jM hi) _ rfl).2⟩);have hX1:=Mem.aA hle2 hc;have hX2:=(h5 i hiv).1;have HO:=zh hO;clear hO h4 h5 z3 ze2 ze3;generalize aV Ls[i] v[i] b=st at *
  generalize Ls[i].length=tl at *
  generalize v[i]=vi at *
  go_wp2;refine gT (fun w'=>mm.inn w'∧w'.cell? ⟨g2,k,none⟩=some (.slice (some ⟨b3,off3,none⟩) Ls.length xc)∧g2<w'.heap.size) 18 zk ?_;have hO2:=HO.out.dr;have hS:=HSF.out _ _ hO2 zS;refine aG 0 rfl zk (fun _ _ _ h=>h) hS (aB rfl fun w' hS'=>by have q0:=hS'.2.1;have q1:=hS'.2.2;have q2:=Mem.aj hS'.1 hX1;have q3:=Mem.ay hS'.1 hX1;have q4:=Mem.aj hS'.1 hX2;have q5:=Mem.ay hS'.1 hX2;go_simp;rfl) ?_;refine aG 1 rfl zk (fun _ _ _ h=>h) hS (aB rfl fun w' hS'=>by have q0:=hS'.2.1;have q1:=hS'.2.2;have q2:=Mem.aj hS'.1 hX1;have q3:=Mem.ay hS'.1 hX1;have q4:=Mem.aj hS'.1 hX2;have q5:=Mem.ay hS'.1 hX2;go_simp;rfl) ?_;refine aG 2 rfl zk (fun _ _ _ h=>h) hS (aB rfl fun w' hS'=>by have q0:=hS'.2.1;have q1:=hS'.2.2;have q2:=Mem.aj hS'.1 hX1;have q3:=Mem.ay hS'.1 hX1;have q4:=Mem.aj hS'.1 hX2;have q5:=Mem.ay hS'.1 hX2;go_simp;rfl) ?_;refine aG 3 rfl zk (fun _ _ _ h=>h) hS (aB rfl fun w' hS'=>by have q0:=hS'.2.1;have q1:=hS'.2.2;have q2:=Mem.aj hS'.1 hX1;have q3:=Mem.ay hS'.1 hX1;have q4:=Mem.aj hS'.1 hX2;have q5:=Mem.ay hS'.1 hX2;go_simp;rfl) ?_;refine aG 4 rfl zk (fun _ _ _ h=>h) hS (aB rfl fun w' hS'=>by have q0:=hS'.2.1;have q1:=hS'.2.2;have q2:=Mem.aj hS'.1 hX1;have q3:=Mem.ay hS'.1 hX1;have q4:=Mem.aj hS'.1 hX2;have q5:=Mem.ay hS'.1 hX2;go_simp;rfl) ?_;refine aG 5 rfl zk (fun _ _ _ h=>h) hS (aB rfl fun w' hS'=>by have q0:=hS'.2.1;have q1:=hS'.2.2;have q2:=Mem.aj hS'.1 hX1;have q3:=Mem.ay hS'.1 hX1;have q4:=Mem.aj hS'.1 hX2;have q5:=Mem.ay hS'.1 hX2;go_simp;rfl) ?_;refine aG 6 rfl zk (fun _ _ _ h=>h) hS (aB rfl fun w' hS'=>by have q0:=hS'.2.1;have q1:=hS'.2.2;have q2:=Mem.aj hS'.1 hX1;have q3:=Mem.ay hS'.1 hX1;have q4:=Mem.aj hS'.1 hX2;have q5:=Mem.ay hS'.1 hX2;go_simp;rfl) ?_;refine aG 7 rfl zk (fun _ _ _ h=>h) hS (aB rfl fun w' hS'=>by have q0:=hS'.2.1;have q1:=hS'.2.2;have q2:=Mem.aj hS'.1 hX1;have q3:=Mem.ay hS'.1 hX1;have q4:=Mem.aj hS'.1 hX2;have q5:=Mem.ay hS'.1 hX2;go_simp;rfl) ?_;refine aG 8 rfl zk (fun _ _ _ h=>h) hS (aB rfl fun w' hS'=>by have q0:=hS'.2.1;have q1:=hS'.2.2;have q2:=Mem.aj hS'.1 hX1;have q3:=Mem.ay hS'.1 hX1;have q4:=Mem.aj hS'.1 hX2;have q5:=Mem.ay hS'.1 hX2;go_simp;rfl) ?_;refine aG 9 rfl zk (fun _ _ _ h=>h) hS (aB rfl fun w' hS'=>by have q0:=hS'.2.1;have q1:=hS'.2.2;have q2:=Mem.aj hS'.1 hX1;have q3:=Mem.ay hS'.1 hX1;have q4:=Mem.aj hS'.1 hX2;have q5:=Mem.ay hS'.1 hX2;go_simp;rfl) ?_;refine aG 10 rfl zk (fun _ _ _ h=>h) hS (aB rfl fun w' hS'=>by have q0:=hS'.2.1;have q1:=hS'.2.2;have q2:=Mem.aj hS'.1 hX1;have q3:=Mem.ay hS'.1 hX1;have q4:=Mem.aj hS'.1 hX2;have q5:=Mem.ay hS'.1 hX2;go_simp;rfl) ?_;refine aG 11 rfl zk (fun _ _ _ h=>h) hS (aB rfl fun w' hS'=>by have q0:=hS'.2.1;have q1:=hS'.2.2;have q2:=Mem.aj hS'.1 hX1;have q3:=Mem.ay hS'.1 hX1;have q4:=Mem.aj hS'.1 hX2;have q5:=Mem.ay hS'.1 hX2;go_simp;rfl) ?_;refine aG 12 rfl zk (fun _ _ _ h=>h) hS (aB rfl fun w' hS'=>by have q0:=hS'.2.1;have q1:=hS'.2.2;have q2:=Mem.aj hS'.1 hX1;have q3:=Mem.ay hS'.1 hX1;have q4:=Mem.aj hS'.1 hX2;have q5:=Mem.ay hS'.1 hX2;go_simp;rfl) ?_;refine aG 13 rfl zk (fun _ _ _ h=>h) hS (aB rfl fun w' hS'=>by have q0:=hS'.2.1;have q1:=hS'.2.2;have q2:=Mem.aj hS'.1 hX1;have q3:=Mem.ay hS'.1 hX1;have q4:=Mem.aj hS'.1 hX2;have q5:=Mem.ay hS'.1 hX2;go_simp;rfl) ?_;refine aG 14 rfl zk (fun _ _ _ h=>h) hS (aB rfl fun w' hS'=>by have q0:=hS'.2.1;have q1:=hS'.2.2;have q2:=Mem.aj hS'.1 hX1;have q3:=Mem.ay hS'.1 hX1;have q4:=Mem.aj hS'.1 hX2;have q5:=Mem.ay hS'.1 hX2;go_simp;rfl) ?_;refine aW 15 zk (aP rfl rfl (gq zg (HST.out _ hO2.inn) ?_));rintro e w4 ⟨rfl,hb4⟩;have hO3:=hO2.move hb4;refine ⟨_,rfl,andS (HSF.out _ _ hO3 zS) fun hS1=>?_⟩;go_simp;have hO4:=hO3.al #[.int .i64 st] 3;refine aW 16 zk (aP rfl rfl (aM (by go_simp;first | exact⟨rfl,rfl⟩ | rfl) (andS (HSF.out _ _ hO4 zS) fun _=>?_)));go_simp;refine aW 17 zk (aP rfl rfl (eH nU (.tmp 89) (.tmp 105) rfl (.slice xa3 i xc3) i _ rfl hO4.swap.row ⟨w4.heap.size,0,none⟩ 1 1 [.int .i64 st] rfl rfl (hO4.obj.news rfl) (by simp[Value.oneCell']) (by unfold maxLen;omega) zo (fun na nc w5 hown5 hgrow5 hrow5=>?_)));have hO5:=(hO4.swap.app hown5 hgrow5 hrow5 (Nat.le_refl _)).drop2;refine andS (HSF.out _ _ hO5 zS) fun hS3=>?_;go_simp;refine aW 18 zk (aP rfl rfl (aM (by go_simp;first | exact⟨rfl,rfl⟩ | rfl) (p8 rfl ?_)));refine gU zk ?_ _;have HO5:=zh hO5;clear hO5 hO4 hO3 hO2 hS hS1 hS3 hb4 hown5 hgrow5 hrow5;go_wp2;exact hV.out _ _ _ zo rfl ⟨i+1,_,zo,rfl,rfl,by rw[HSUC.out];simpa using HO5.out⟩
 obtain rfl:i=Ls.length:=zo;have hvx:=HVR.out _ HRX.out;have hxl:(dD (Ls.map tabC) v b).length=Ls.length:=by rw[hvx.len];simp
 have hrng:∀x∈dD (Ls.map tabC) v b,-1≤x∧x<1000+1:=hvx.rng2 fun c hc=>by
  obtain⟨T,hT,rfl⟩:=List.mem_map.1 hc;exact HSZ.out T hT
 rw[Ig hvl'] at hO;have hxi:=bI (m:=mm) (l:=dD (Ls.map tabC) v b) (by rw[hxl];exact hO.row) (fun x hx=>by have:=hrng x hx;omega);have hle1:=Mem.cu (w:=wr3) hO.free;have hO2:=hO.aY;generalize mm.addv wr3 _=m1 at *
 have hlens:∀y∈sm,y.length=(dD (Ls.map tabC) v b).length:=fun y hy=>by rw[hxl,(HVR.out y (HS.out.1.reach y hy)).len];simp
 have hrow:=hO2.row;have HMET:=zh (Fw _ (.slice xa3 Ls.length xc3) tm sm (dD (Ls.map tabC) v b) m1 wr3 hO2.inn hrow (HS.out.2.2.1.le hle1) hxi hlens hsm);have HCUT:=zh (fun (m':Mem) (w':World) (h:m'.inn w') (hu:rU m' (.slice a Ls.length c) Ls) (hx:cO m' (.slice xa Ls.length xc) v)=>NB _ _ Ls v b m' w' h hu hx hvl'.symm (fun i hi=>by
  have:=HRG.out i zo hi;simp only[List.getD_eq_getElem?_getD,hi,List.getElem?_eq_getElem,Option.getD_some,show i<Ls.length by omega];exact this) hb2)
 have HCG:=zh (zi (xR (Ls:=Ls) (ps:=v) hb2 Ls.length) (zi (xQ Ls v b Ls.length) (fun c'=>EX (Ls:=Ls) (ps:=v) (b:=b) (c:=c') hvl')));have hxv:cO m1 (.slice xa Ls.length xc) v:=by
  have e1:tm[k]?=some (.slice xa v.length xc):=HSV.out.2;have e2:sm[k]?=some v:=HSV.out.1;obtain⟨k1,e1⟩:=List.getElem?_eq_some_iff.1 e1;obtain⟨k2,e2⟩:=List.getElem?_eq_some_iff.1 e2;have:=(HS.out.2.2.1.le hle1).2 k k1 k2;rw[e1,e2,hvl'] at this;exact this
 have HXV:=zh hxv;clear hxv;have HX1:=zh (zi hxi hle1);have HO2:=zh hO2;have hin:=hO2.inn;generalize nK Ls v b Ls.length=ct at *
 clear hO hO2 hrow hxi hle1 hvx hrng hV hlens;by_cases hmem:dD (Ls.map tabC) v b∈sm
 ·have hh:=HMET.out;rw[decide_eq_true hmem] at hh;have HMET2:=zh hh;clear HMET hh;have HMEM:=zh hmem;clear hmem
  go_wp2_with (go_at_call 191;refine HMET2.out.mono ?_;rintro e w4 ⟨rfl,hb4⟩;have hO4:=HO2.out.move hb4;have y0:=aN hO4.row HSV.out.2;have yl:=(World.ownsRow.lt hO4.row _ rfl).2)
  refine (HCUT.out m1 _ hO4.inn (yO (Mem.le_trans HLE.out (Mem.le_trans HS.out.2.2.2 HX1.out.2)) HU.out) HXV.out).mono ?_;rintro e w5 ⟨rfl,hb5⟩;have HO5:=zh (hO4.move hb5);have hgt:=HCG.out.1;have hct:=HCG.out.2.1;have HDN:=zh (show ∀b',b'<ct→dD (Ls.map tabC) v b'∈sm from fun b' h=>by
   by_cases h2:b'<b
   ·exact HS.out.2.1 b' h2
   ·rw[HCG.out.2.2 b' zo h];exact HMEM.out)
  clear hO4 hb5 hb4 y0 yl HMET2 HMEM HCG HCUT;go_wp2;exact hY.out _ _ _ zo rfl ⟨ct,sm,tm,_,m1,hct,rfl,rfl,HS.out.1,hkm,HSV.out.1,HSV.out.2,HDN.out,HS.out.2.2.1.le HX1.out.2,Mem.le_trans HS.out.2.2.2 HX1.out.2,HO5.out⟩
 ·have hh:=HMET.out;rw[decide_eq_false hmem] at hh;have HMET2:=zh hh;have HMEM:=zh hmem;clear HMET hh hmem;have htk:(tm ++ [.slice xa3 Ls.length xc3])[k]?=some (.slice xa v.length xc):=by
   have h:=HSV.out.2;have hk:=(List.getElem?_eq_some_iff.1 h).1;rw[List.getElem?_append_left hk];exact h
  have HTK:=zh htk;clear htk
  go_wp2_with (first
   | (go_at_call 191;refine HMET2.out.mono ?_;rintro e w4 ⟨rfl,hb4⟩;have hO7:=(HO2.out.move hb4).al #[.slice xa3 Ls.length xc3] 135;have hnews:=hO7.obj.news rfl)
   | (at_builtin;refine aC wS rfl (.tmp 111) (.tmp 113) rfl (.slice (some ⟨g2,0,none⟩) sm.length vc2) sm.length tm rfl hO7.swap.row ⟨w4.heap.size,0,none⟩ 1 1 [.slice xa3 Ls.length xc3] rfl rfl hnews (by simp[Value.oneCell']) (by unfold maxLen;omega) zo ?_;intro va' vc' w7 hown7 hgrow7 hrow7;obtain⟨g3,cap3,e3,-⟩:=kT hown7;injection e3 with e4 e5 e6;subst e4 e6;have hO8:=(hO7.swap.app hown7 hgrow7 hrow7 zS).drop2;have y0:=aN hO8.row HTK.out;have yl:=(World.ownsRow.lt hO8.row _ rfl).2))
  refine (HCUT.out m1 _ hO8.inn (yO (Mem.le_trans HLE.out (Mem.le_trans HS.out.2.2.2 HX1.out.2)) HU.out) HXV.out).mono ?_;rintro e w5 ⟨rfl,hb5⟩;have HO5:=zh (hO8.move hb5);have hgt:=HCG.out.1;have hct:=HCG.out.2.1;have HDN:=zh (show ∀b',b'<ct→dD (Ls.map tabC) v b'∈sm ++ [dD (Ls.map tabC) v b] from fun b' h=>by
   by_cases h2:b'<b
   ·exact List.mem_append_left _ (HS.out.2.1 b' h2)
   ·rw[HCG.out.2.2 b' zo h];simp)
  have HSV2:=zh (show (sm ++ [dD (Ls.map tabC) v b])[k]?=some v by rw[List.getElem?_append_left hkm];exact HSV.out.1);clear hO8 hO7 hb5 hb4 y0 yl HMET2 HCG HCUT hown7 hgrow7 hrow7 hnews;go_wp2;exact hY.out _ _ _ zo rfl ⟨ct,sm ++ [dD (Ls.map tabC) v b],tm ++ [.slice xa3 Ls.length xc3],_,m1,hct,rfl,rfl,HS.out.1.push zo HRX.out HMEM.out,by simp;omega,HSV2.out,HTK.out,HDN.out,(HS.out.2.2.1.le HX1.out.2).push HX1.out.1,Mem.le_trans HS.out.2.2.2 HX1.out.2,by simpa using HO5.out⟩
theorem wW {w:World} {t:TypeId} {v:Value} {l:List Table} {ts:List Value} {m:Mem} (hown:w.ownsRow 0 t 1 v l.length ts) (h:oQ (m.addv w v) ts l):rU (m.addv w v) v l:=
 gI hown fun g hg i hi=>by
  have h1:i<ts.length:=by rw[h.1];exact hi
  exact⟨ts[i],eQ hown hg m (by simp[h1]),h.2 i h1 hi⟩
theorem Hm:eT Tryz.prog 153 27 1 24:=⟨Tryz.underlying153,zo,by
 obtain⟨i,h1,h2,h3,h4⟩:=info_parts (show (Tryz.prog.info? 27).map (fun i=>(i.zero,i.size,i.bytes))=some (some (.agg #[.slice none 0 0]),1,24) by kernel_rfl);exact⟨i,_,h1,h2,h3,h4,rfl⟩⟩
theorem uM (s:ByteArray) (m:Mem) (w:World) (hm:m.inn w) (hs:s.size≤1000) :
 Calls Tryz.prog 151 #[.string s] w fun e w'=>∃r,e=.returned (.agg #[r])∧Below w.heap.size w w'∧aQ (m.grow w w') r (eZ s):=BX s m w hm hs
theorem uK (u u':Value) (c:St) (m:Mem) (n:Nat) (w:World) (hm:m.inn w) (h1:ja (VAt m n) m u c.1) (h2:iA (VAt m n) m u' c.2) (l1:c.1.length≤6) (l2:c.2.length≤6) (l3:∀f∈c.1,f.1.1.size≤40) (l4:∀k∈c.2,fZ k.1) :
 Calls Tryz.prog 100 #[.agg #[u,u']] w fun e w'=>e=.returned (.bool (tf (bX c)))∧Below w.heap.size w w':=by
 obtain⟨a1,c1,rfl,p1,q1,k1⟩:=h1;obtain⟨a2,c2,rfl,p2,q2,k2⟩:=h2;unfold maxLen at q1 q2;have HK:=zh (zi k1 k2);have HE:=zh (iG c);have HL4:=zh (zi l3 l4);have HL:=zh (zi l1 l2);have hl1:c.1.length≤6:=l1;have hl2:c.2.length≤6:=l2;have HO:=zh (((Own.start hm).al #[.slice a1 c.1.length c1,.slice a2 c.2.length c2] 45).dC 27 1);clear k1 k2 l3 l4 l1 l2;refine av fun R hR=>?_
 go_enter Tryz.func100,Tryz.ntmps100
 go_wp2;refine au [1,3,4] (fun q vs wr=>∃(i:Nat) (tv:Value) (ts:List Value),i≤c.2.length∧q=c.2.length - i∧vs=[.pointer (some ⟨w.heap.size,0,none⟩),tv,.int .i64 (i:Int)]∧(∀j (hj:j<c.2.length),j<i→Canon c.2[j].1∧c.2[j].1≠[]) ∧
  oQ m ts ((c.2.take i).map (·.1))∧Own w m wr m [.row tv 27 1 i ts,.obj w.heap.size 45 #[.slice a1 c.1.length c1,.slice a2 c.2.length c2]]) ?_ ?_
 ·exact⟨_,0,_,[],Nat.zero_le _,rfl,rfl,fun j hj h=>absurd h (Nat.not_lt_zero _),⟨rfl,fun i h=>absurd h (Nat.not_lt_zero _)⟩,HO.out⟩
 clear HO;rintro X z q vs wr hX - ⟨i,tv,ts,hi,rfl,rfl,hV,hT,hO⟩;simp[litL,lk];obtain⟨va,vc,rfl⟩:=aO hO.row;have g0:=hO.swap.obj.cell (i:=0) rfl;have g1:=hO.swap.obj.cell (i:=1) rfl;have gl:=hO.swap.obj.lt;have HV:=zh hV;clear hV;by_cases hlt:i<c.2.length
 ·obtain⟨b,off,rfl,h4⟩:=HK.out.2 (by intro h;simp[h] at hlt);obtain⟨kc,hc,hst⟩:=(h4 i hlt).s;have hmem:=List.getElem_mem hlt;have htl:c.2[i].1.length≤1000000:=by have:=(HL4.out.2 _ hmem).2;omega
  have x1:=Mem.aj hO.inn hc;have xl:=Mem.ay hO.inn hc;have hO1:=hO.al #[kc] 27;have HVA:=zh (qA kc c.2[i].1 m _ hO1.inn hst htl);have HVN:=zh (show ∀j (hj:j<c.2.length),j<i+1→(Canon c.2[i].1∧c.2[i].1≠[])→Canon c.2[j].1∧c.2[j].1≠[] from fun j hj h1 h2=>by
   by_cases e:j=i
   ·subst e;exact h2
   ·exact HV.out j hj zo)
  have HNO:=zh (show ¬ (Canon c.2[i].1∧c.2[i].1≠[])→¬ bX c from fun h k=>h ((HE.out.1 k).1 _ hmem));have hT2:=hT.push hst;rw[show (c.2.take i).map (·.1) ++ [c.2[i].1]=(c.2.take (i+1)).map (·.1) by rw[List.take_succ_eq_append_getElem hlt,List.map_append];rfl] at hT2;have HT:=zh hT2;obtain⟨ta,tc,rfl,t1,t2,-⟩:=hst;have HO:=zh hO1;unfold maxLen at t2;generalize c.2[i].1=T at *
  clear hO hO1 h4 hc hT hT2 hmem;by_cases hcn:Canon T
  case neg=>
   have hh:=HVA.out;rw[az hcn] at hh;have HVA2:=zh hh;have HR:=zh (HNO.out fun h=>hcn h.1);clear hh HVA HNO HVN hX hcn
   go_wp2_with (go_at_call 64;refine HVA2.out.mono ?_;rintro e w4 ⟨rfl,hb4⟩)
   exact hR.out _ _ ⟨by rw[az HR.out] <;> rfl,(HO.out.move hb4).below⟩
  have hh:=HVA.out;rw[aH hcn] at hh;have HVA2:=zh hh;clear hh HVA;by_cases h0:T.length=0
  ·have hd:((T.length:Int)==0)=true:=beq_iff_eq.2 zo;have HR:=zh (HNO.out fun h=>h.2 (List.length_eq_zero_iff.1 h0));clear HNO HVN hX hcn h0
   go_wp2_with (go_at_call 64;refine HVA2.out.mono ?_;rintro e w4 ⟨rfl,hb4⟩;have y0:=(HO.out.move hb4).obj.cell (i:=0) rfl;have yl:=(HO.out.move hb4).obj.lt)
   exact hR.out _ _ ⟨by rw[az HR.out] <;> rfl,(HO.out.move hb4).below⟩
  have hd:((T.length:Int)==0)=false:=beq_eq_false_iff_ne.2 zo;have HNX:=zh (fun j hj h=>HVN.out j hj h ⟨hcn,fun e=>h0 (by rw[e];rfl)⟩);clear HNO HVN hcn h0
  go_wp2_with (first
   | (go_at_call 64;refine HVA2.out.mono ?_;rintro e w4 ⟨rfl,hb4⟩;have hO4:=HO.out.move hb4;have y0:=hO4.obj.cell (i:=0) rfl;have yl:=hO4.obj.lt;have hO7:=hO4.al #[.slice ta T.length tc] 27;have hnews:=hO7.obj.news rfl)
   | (at_builtin;refine aC Hm rfl (.tmp 29) (.tmp 31) rfl (.slice va i vc) i ts rfl hO7.third.row ⟨w4.heap.size,0,none⟩ 1 1 [.slice ta T.length tc] rfl rfl hnews (by simp[Value.oneCell']) (by unfold maxLen;omega) zo ?_;intro va' vc' w7 hown7 hgrow7 hrow7))
  have HO8:=zh ((hO7.third.app hown7 hgrow7 hrow7 zS).drop2.drop2);exact hX.out _ _ _ zo rfl ⟨i+1,_,_,zo,rfl,rfl,HNX.out,HT.out,HO8.out⟩
 obtain rfl:i=c.2.length:=zo;have hsets:∀k∈c.2,Canon k.1∧k.1≠[]:=fun k hk=>by
  obtain⟨j,hj,rfl⟩:=List.getElem_of_mem hk;exact HV.out j hj hj
 have HSE:=zh hsets;rw[List.take_length] at hT;have HT:=zh hT;have HO:=zh hO;clear hO hT hX HV hsets;go_wp2;refine au [1,3,6] (fun q vs wr=>∃(i:Nat) (tv:Value) (ts:List Value) (mk:Mem),i≤c.1.length∧q=c.1.length - i∧vs=[.pointer (some ⟨w.heap.size,0,none⟩),tv,.int .i64 (i:Int)] ∧
  oQ mk ts (c.2.map (·.1) ++ (c.1.take i).map fun f=>eZ f.1.1)∧m.le mk∧Own w m wr mk [.row tv 27 1 (c.2.length+i) ts,.obj w.heap.size 45 #[.slice a1 c.1.length c1,.slice a2 c.2.length c2]]) ?_ ?_
 ·exact⟨_,0,_,ts,m,Nat.zero_le _,rfl,rfl,by simpa using HT.out,Mem.le_refl _,HO.out⟩
 clear HO HT g0 g1 gl;rintro X z q vs wr hX - ⟨i,tv,ts,mk,hi,rfl,rfl,hT,hle,hO⟩;simp[litL,lk];obtain⟨va,vc,rfl⟩:=aO hO.row;have g0:=hO.swap.obj.cell (i:=0) rfl;have g1:=hO.swap.obj.cell (i:=1) rfl;have gl:=hO.swap.obj.lt;by_cases hlt:i<c.1.length
 ·obtain⟨b,off,rfl,h4⟩:=HK.out.1 (by intro h;simp[h] at hlt);have hs:=(h4 i hlt).s;have h40:=HL4.out.1 _ (List.getElem_mem hlt);have x1:=Mem.aj hO.inn (Mem.aA hle hs);have xl:=Mem.ay hO.inn (Mem.aA hle hs);have HW:=zh (uM c.1[i].1.1 mk wr hO.inn zo);have HTS:=zh (show c.2.map (·.1) ++ (c.1.take (i+1)).map (fun f=>eZ f.1.1)=(c.2.map (·.1) ++ (c.1.take i).map fun f=>eZ f.1.1) ++ [eZ c.1[i].1.1] by rw[List.take_succ_eq_append_getElem hlt,List.map_append,List.append_assoc];rfl);have HO:=zh hO;have HT:=zh (zi hT hle);have hin:=hO.inn;clear hO h4 hs hT hle;generalize c.1[i].1.1=lab at *
  generalize eZ lab=WT at *
  go_wp2_with (first
   | (go_at_call 151;refine HW.out.mono ?_;rintro e w4 ⟨r,rfl,hb4,hr⟩;have hr':=hr;obtain⟨ra,rc,rfl,-⟩:=hr';have hO4:=HO.out.call hb4;have hO7:=hO4.al #[.slice ra WT.length rc] 27;have hnews:=hO7.obj.news rfl)
   | (at_builtin;refine aC Hm rfl (.tmp 40) (.tmp 48) rfl (.slice va (c.2.length+i) vc) (c.2.length+i) ts rfl hO7.swap.row ⟨w4.heap.size,0,none⟩ 1 1 [.slice ra WT.length rc] rfl rfl hnews (by simp[Value.oneCell']) (by unfold maxLen;omega) zo ?_;intro va' vc' w7 hown7 hgrow7 hrow7))
  have HO8:=zh ((hO7.swap.app hown7 hgrow7 hrow7 zS).drop2);have HT2:=zh ((HT.out.1.le (Mem.dJ (w:=w4) hin)).push hr);exact hX.out _ _ _ zo rfl ⟨i+1,_,_,_,zo,rfl,rfl,by rw[HTS.out];exact HT2.out,Mem.le_trans HT.out.2 (Mem.dJ hin),HO8.out⟩
 obtain rfl:i=c.1.length:=zo;have hle1:=Mem.cu (w:=wr) hO.free;have hO2:=hO.aY;rw[List.take_length] at hT;have hts:rU (mk.addv wr (.slice va (c.2.length+c.1.length) vc)) (.slice va (c.2.length+c.1.length) vc) (mD c):=wW (by rw[show (mD c).length=c.2.length+c.1.length by simp[mD]];exact hO.row) (hT.le hle1);have HC:=zh (BR _ (mD c) _ wr hO2.inn hts (Ih HSE.out) (by simp[mD];omega) (fun T h=>by
  rcases List.mem_append.1 h with h | h
  ·obtain⟨k,hk,rfl⟩:=List.mem_map.1 h;have:=(HL4.out.2 k hk).2;omega
  ·obtain⟨f,hf,rfl⟩:=List.mem_map.1 h;have:=HL4.out.1 f hf;rw[Bn];omega) (fun sn h1 h2=>Li HSE.out hl1 hl2 HL4.out.1 HL4.out.2 h1 h2))
 have HO2:=zh hO2;have HX:=zh (bg (BD HSE.out));clear hO hO2 hT hts hle hle1 hX
 go_wp2_with (go_at_call 152;refine HC.out.mono ?_;rintro e w4 ⟨rfl,hb4⟩)
 exact hR.out _ _ ⟨by rw[HX.out] <;> rfl,(HO2.out.move hb4).below⟩
theorem MO (f:Nat) (v:Vl):Snd (f+1) v↔((v.any=true→mM v)∧v.s.fK)∧(∀c∈v.lists,c.2.length≤1)∧(∀c∈v.structs,dz c.1∧bX c)∧∀x∈v.kids,Snd f x.1∧Snd f x.2:=
 ⟨fun h=>⟨⟨h.1.any,h.1.sc⟩,h.1.rest,h.1.st,h.2⟩,fun h=>⟨⟨h.1.1,h.2.1,h.2.2.1,h.1.2⟩,h.2.2.2⟩⟩
theorem pF:∀(f lv n:Nat) (v:Vl) (x:Sl) (m:Mem) (w:World),f+lv=17→m.inn w→TabM m→VAt m n x v→FewV n v→vcnt n v≤1048576 →
 Calls Tryz.prog 67 #[v.val x,.int .i64 (lv:Int)] w fun e w'=>e=.returned (.bool (tf (Snd f v)))∧Below w.heap.size w w'
 | f,lv,0,_,_,_,_,_,_,_,h,_,_=>h.elim
 | 0,lv,n+1,v,x,m,w,hlv,hm,htab,hv,hf,hc=>by
  have HB:=zh ((Own.start hm).al (nine v x).toArray 33).below;unfold Vl.val;generalize nine v x=N at *
  clear hv hf hc htab;obtain rfl:lv=17:=zo;refine av fun R hR=>?_
  go_enter Tryz.func67,Tryz.ntmps67
  go_wp2
  exact hR.out _ _ ⟨by rw[az (p:=Snd 0 v) id] <;> rfl,HB.out⟩
 | f+1,lv,n+1,v,x,m,w,hlv,hm,htab,hv,hf,hc=>by
  have hO:=(Own.start hm).al (nine v x).toArray 33;have hk:=lU hv.ht;have hs:=hv.sc;have hcnt:∀d∈v.kids,vcnt n d.1≤1048576∧vcnt n d.2≤1048576:=fun d hd=>by have:=nT (n:=n) hd;omega
  have HV:=zh (fun w' (h:m.inn w')=>jQ v x m n w' h hv zo);have HBL:=zh (fun w' (h:m.inn w')=>zu v x m (n+1) w' h hv);have HVA:=zh (fun w' (h:m.inn w')=>kW x.i x.f x.t v.s m w' h htab hs ⟨by have:=hf.1.sc.1;omega,by have:=hf.1.sc.2.1;omega,by have:=hf.1.sc.2.2.2;omega⟩);have HTM:=zh htab;have HSS:=zh (fun (w':World) (ho:bz w' w.heap.size 33 (nine v x).toArray)=>ho.sub (kZ v x));have hN:(nine v x).length=9:=rfl;have HKD:=zh (zi hcnt hf.2);have HFP:=zh hf.1;have h4:=hf.1.l;have h5:=hf.1.s;have H0:(nine v x).toArray[0]?=some (.bool v.any):=rfl;have H7:(nine v x).toArray[7]?=some x.l:=rfl;have H8:(nine v x).toArray[8]?=some x.s:=rfl;have hv2:=hv.2;obtain⟨a1,b1,a2,b2,a3,b3,a4,b4,a5,b5,rfl,q1,q2,q3,q4,q5⟩:=hv.spell;obtain⟨⟨z1,y1,e1,-,-,k1⟩,⟨z2,y2,e2,-,-,k2⟩⟩:=hv2;simp only[Value.slice.injEq] at e1 e2;obtain⟨rfl,-,rfl⟩:=e1;obtain⟨rfl,-,rfl⟩:=e2;simp only at H7 H8;have HH:=zh (zi H7 H8);unfold maxLen at q1 q2 q3 q4 q5;have HK:=zh (zi k1 k2);have g0:=hO.obj.cell H0;have HO:=zh hO;have HE:=zh (bg (MO f v));obtain⟨P1,hP1⟩:∃P1:Prop,P1=((v.any=true→mM v)∧v.s.fK):=⟨_,rfl⟩;rw[← hP1] at HE;have HP1:=zh hP1;clear hP1 hO hv hk hs hcnt hc hf htab k1 k2 H0 H7 H8;unfold Vl.val at *
  unfold RS.val at *
  obtain⟨KP,hKP⟩:∃KP:Prop,KP=∀x∈v.kids,Snd f x.1∧Snd f x.2:=⟨_,rfl⟩;rw[← hKP] at HE;have HKP:=zh hKP;clear hKP;generalize nine v _=N at *
  generalize tf (Snd (f+1) v)=FF at *
  refine av fun R hR=>?_
  go_enter Tryz.func67,Tryz.ntmps67
  go_upto_region 1 with (fail)
  generalize hW:w.alloc (.cells N.toArray 33)=w0 at *
  clear hW;refine aR [1,2,25] (fun vs w'=>vs=[.int .i64 (lv:Int),.pointer (some ⟨w.heap.size,0,none⟩),.bool (!tf P1)]∧Own w m w' m [.obj w.heap.size 33 N.toArray]) ?_ ?_
  ·intro X hX;have hd:decide ((16:Int)<(lv:Int))=false:=decide_eq_false zo;have hin:=HO.out.inn;have hsc:=HSS.out _ HO.out.obj;have hall:=HO.out.obj.all;cases hany:v.any
   ·rw[hany] at g0;have HP:=zh (show tf P1=tf v.s.fK by rw[HP1.out];exact bg ⟨fun h=>h.2,fun h=>⟨fun k=>(by rw[hany] at k;cases k),h⟩⟩);clear hany HBL hall;generalize tf v.s.fK=sv at *
    go_wp2_with (first
     | refine ae tyS rfl (.tmp 21) rfl rfl _ rfl hsc ?_
     | (go_at_call 45;refine (HVA.out _ hin).mono ?_;rintro e w2 ⟨rfl,hb2⟩))
    exact hX.out _ _ rfl ⟨by rw[HP.out];rfl,HO.out.move hb2⟩
   ·rw[hany] at g0;have HP:=zh (show tf P1=(tf (mM v)&&tf v.s.fK) by
     rw[HP1.out];by_cases c1:mM v
     ·rw[aH c1,Bool.true_and];exact bg ⟨fun h=>h.2,fun h=>⟨fun _=>c1,h⟩⟩
     ·rw[az c1,Bool.false_and];exact az fun h=>c1 (h.1 hany))
    clear hany HP1;have hbl:=HBL.out _ hin;clear HBL;by_cases hb:mM v
    ·rw[aH hb] at hbl;have HP2:=zh (HP.out.trans (by rw[aH hb,Bool.true_and]));have HBL:=zh hbl;clear HP hb hbl;generalize tf v.s.fK=sv at *
     go_wp2_with (first
      | refine ae tyV rfl (.tmp 2) rfl rfl N hN hall ?_
      | (go_at_call 98;refine HBL.out.mono ?_;rintro e w2 ⟨rfl,hb2⟩;have hO2:=HO.out.move hb2;have hsc2:=HSS.out _ hO2.obj)
      | refine ae tyS rfl (.tmp 21) rfl rfl _ rfl hsc2 ?_
      | (go_at_call 45;refine (HVA.out _ hO2.inn).mono ?_;rintro e w3 ⟨rfl,hb3⟩))
     exact hX.out _ _ rfl ⟨by rw[HP2.out] <;> rfl,hO2.move hb3⟩
    ·rw[az hb] at hbl;have HP2:=zh (HP.out.trans (by rw[az hb,Bool.false_and]));have HBL:=zh hbl;clear HP hb hbl HVA
     go_wp2_with (first
      | refine ae tyV rfl (.tmp 2) rfl rfl N hN hall ?_
      | (go_at_call 98;refine HBL.out.mono ?_;rintro e w2 ⟨rfl,hb2⟩))
     exact hX.out _ _ rfl ⟨by rw[HP2.out] <;> rfl,HO.out.move hb2⟩
  clear HO g0 HBL HVA HP1;rintro z vs w1 - ⟨rfl,hO⟩;simp[litL,lk];have HO:=zh hO;by_cases hp1:P1
  case neg=>
   have HF:=zh (HE.out.trans (NI hp1));rw[az hp1];have HB:=zh hO.below;clear hO HO HE hp1;go_wp2;exact hR.out _ _ ⟨by rw[HF.out] <;> rfl,HB.out⟩
  rw[aH hp1];have HE2:=zh (HE.out.trans (qx hp1));clear HE hO hp1;have g7:=HO.out.obj.cell HH.out.1;have g8:=HO.out.obj.cell HH.out.2;go_wp2;refine au [1,2,5] (fun q vs wr=>∃(i:Nat),i≤v.lists.length∧q=v.lists.length - i∧vs=[.int .i64 (lv:Int),.pointer (some ⟨w.heap.size,0,none⟩),.int .i64 (i:Int)]∧FF=tf ((∀c∈v.lists.drop i,c.2.length≤1)∧(∀c∈v.structs,dz c.1∧bX c)∧KP) ∧
   Own w m wr m [.obj w.heap.size 33 N.toArray]) ?_ ?_
  ·exact⟨_,0,Nat.zero_le _,rfl,rfl,HE2.out,HO.out⟩
  clear HO HE2 g7 g8;rintro X z q vs wr hX - ⟨i,hi,rfl,rfl,hE,hO⟩;simp[litL,lk];have g7:=hO.obj.cell HH.out.1;have gl:=hO.obj.lt;by_cases hlt:i<v.lists.length
  ·obtain⟨b,off,rfl,h4⟩:=HK.out.1 (by intro h;simp[h] at hlt);obtain⟨u,u',s1,s2,s3,s4⟩:=h4 i hlt;obtain⟨ua',uc',rfl,r1,r2,-⟩:=s4;have x2:=Mem.aj hO.inn s2;have xl:=Mem.ay hO.inn s2;rw[bg (and_congr_left fun _=>kr (fun c:Lc=>c.2.length≤1) hlt)] at hE;have HE:=zh hE;have HO:=zh hO;unfold maxLen at r2;generalize (v.lists[i]).2.length=n2 at *
   clear hE hO h4 s1 s2 s3;by_cases hn:n2≤1
   ·have HE2:=zh (HE.out.trans (bg (and_congr_left fun _=>and_iff_right hn)));clear HE;go_wp2;exact hX.out _ _ _ zo rfl ⟨i+1,zo,rfl,rfl,HE2.out,HO.out⟩
   ·have HF:=zh (HE.out.trans (az fun h=>hn h.1.1));clear HE hX;go_wp2;exact hR.out _ _ ⟨by rw[HF.out] <;> rfl,HO.out.below⟩
  have HE:=zh (hE.trans (qx (nN (fun c:Lc=>c.2.length≤1) (l:=v.lists) (i:=i) zo)));have HO:=zh hO;clear hE hO hX;have g8:=HO.out.obj.cell HH.out.2;go_wp2;refine au [1,2,6] (fun q vs wr=>∃(i:Nat),i≤v.structs.length∧q=v.structs.length - i∧vs=[.int .i64 (lv:Int),.pointer (some ⟨w.heap.size,0,none⟩),.int .i64 (i:Int)]∧FF=tf ((∀c∈v.structs.drop i,dz c.1∧bX c)∧KP) ∧
   Own w m wr m [.obj w.heap.size 33 N.toArray]) ?_ ?_
  ·exact⟨_,0,Nat.zero_le _,rfl,rfl,HE.out,HO.out⟩
  clear HO HE g7 g8 gl;rintro X z q vs wr hX - ⟨i,hi,rfl,rfl,hE,hO⟩;simp[litL,lk];have g8:=hO.obj.cell HH.out.2;have gl:=hO.obj.lt;by_cases hlt:i<v.structs.length
  ·obtain⟨b,off,rfl,h4⟩:=HK.out.2 (by intro h;simp[h] at hlt);obtain⟨u,u',s1,s2,s3,s4⟩:=h4 i hlt;have hmem:=List.getElem_mem hlt;have HFI:=zh (xu u (v.structs[i]).1 m n wr hO.inn s3);have HCL:=zh (fun w' (h:m.inn w')=>uK u u' v.structs[i] m n w' h s3 s4 (HFP.out.f _ hmem) (HFP.out.k _ hmem) (HFP.out.lab _ hmem) (HFP.out.set _ hmem));obtain⟨ua,uc,rfl,-⟩:=s3;obtain⟨ua',uc',rfl,-⟩:=s4;have x1:=Mem.aj hO.inn s1;have xl:=Mem.ay hO.inn s1;rw[bg (and_congr_left fun _=>kr (fun c:St=>dz c.1∧bX c) hlt)] at hE;have HE:=zh hE;have HO:=zh hO;have HX:=zh (fun (w':World) (h:m.inn w')=>zi (Mem.aj h s1) (zi (Mem.aj h s2) (Mem.ay h s1)));clear hE hO h4 s1 s2 hmem;generalize (v.structs[i]).1.length=n1 at *
   generalize (v.structs[i]).2.length=n2 at *
   generalize dz (v.structs[i]).1=FO at *
   generalize bX v.structs[i]=CO at *
   by_cases hfo:FO
   case neg=>
    have HF:=zh (HE.out.trans (az fun h=>hfo h.1.1.1));have hh:=HFI.out;rw[az hfo] at hh;have HFI2:=zh hh;clear HCL hh HFI hX hfo HE HX
    go_wp2_with (go_at_call 99;refine HFI2.out.mono ?_;rintro e w2 ⟨rfl,hb2⟩)
    exact hR.out _ _ ⟨by rw[HF.out] <;> rfl,(HO.out.move hb2).below⟩
   have hh:=HFI.out;rw[aH hfo] at hh;have HFI2:=zh hh;clear hh HFI x1 xl;by_cases hco:CO
   ·have HCL2:=zh (show ∀w',m.inn w'→_ from fun w' h=>by have:=HCL.out w' h;rw[aH hco] at this;exact this);have HE2:=zh (HE.out.trans (bg (and_congr_left fun _=>and_iff_right (show FO∧CO from ⟨hfo,hco⟩))));have x1:=(HX.out _ HO.out.inn).1;have xl:=(HX.out _ HO.out.inn).2.2;clear HE HCL hfo hco
    go_wp2_with (first
     | (go_at_call 99;refine HFI2.out.mono ?_;rintro e w2 ⟨rfl,hb2⟩;have hO2:=HO.out.move hb2;have x1:=(HX.out _ hO2.inn).1;have x2:=(HX.out _ hO2.inn).2.1;have xl:=(HX.out _ hO2.inn).2.2;have g8:=hO2.obj.cell HH.out.2;have gl:=hO2.obj.lt)
     | (go_at_call 100;refine (HCL2.out _ hO2.inn).mono ?_;rintro e w3 ⟨rfl,hb3⟩))
    exact hX.out _ _ _ zo rfl ⟨i+1,zo,rfl,rfl,HE2.out,hO2.move hb3⟩
   ·have HCL2:=zh (show ∀w',m.inn w'→_ from fun w' h=>by have:=HCL.out w' h;rw[az hco] at this;exact this);have HF:=zh (HE.out.trans (az fun h=>hco h.1.1.2));have x1:=(HX.out _ HO.out.inn).1;have xl:=(HX.out _ HO.out.inn).2.2;clear HE HCL hfo hco hX
    go_wp2_with (first
     | (go_at_call 99;refine HFI2.out.mono ?_;rintro e w2 ⟨rfl,hb2⟩;have hO2:=HO.out.move hb2;have x1:=(HX.out _ hO2.inn).1;have x2:=(HX.out _ hO2.inn).2.1;have xl:=(HX.out _ hO2.inn).2.2;have g8:=hO2.obj.cell HH.out.2;have gl:=hO2.obj.lt)
     | (go_at_call 100;refine (HCL2.out _ hO2.inn).mono ?_;rintro e w3 ⟨rfl,hb3⟩))
    exact hR.out _ _ ⟨by rw[HF.out] <;> rfl,(hO2.move hb3).below⟩
  have HE:=zh (hE.trans (qx (nN (fun c:St=>dz c.1∧bX c) (l:=v.structs) (i:=i) zo)));have HVV:=zh (HV.out wr hO.inn);have HN:=zh hO.obj.all;have HO:=zh hO;have hmk:=Mem.le_refl m;generalize v.kids=KD at *
  clear hE hO hX HV HFP HK HSS HH
  go_wp2_with (refine ae tyV rfl (.tmp 2) rfl rfl N hN HN.out ?_)
  refine HVV.out.mono ?_;rintro e w2 ⟨r,rfl,hb2,hr⟩;have hO2:=HO.out.call hb2;have HT2:=zh (HTM.out.le (Mem.dJ (w:=w2) HO.out.inn));obtain⟨a,c,rfl,p1,qq1,hk⟩:=hr;have HK2:=zh hk;have HO2:=zh hO2;unfold maxLen at qq1;clear HO HVV HN hb2 hk hO2 HTM;generalize m.grow wr w2=M at *
  go_wp2;refine au [1,7,8] (fun q vs w3=>∃(i:Nat),i≤KD.length∧q=KD.length - i∧vs=[.int .i64 (lv:Int),.slice a KD.length c,.int .i64 (i:Int)]∧FF=tf (∀x∈KD.drop i,Snd f x.1∧Snd f x.2) ∧
   Own w m w3 M [.obj w.heap.size 33 N.toArray]) ?_ ?_
  ·exact⟨_,0,Nat.zero_le _,rfl,rfl,by rw[HE.out,HKP.out];rfl,HO2.out⟩
  clear HO2 HE;rintro Y z q vs w3 hY - ⟨j,hj,rfl,rfl,hE,hO⟩;simp[litL,lk];by_cases hlj:j<KD.length
  ·obtain⟨b,off,rfl,h4⟩:=HK2.out (by intro h;simp[h] at hlj);obtain⟨x1,x2,e1,r1,e2,r2⟩:=h4 j hlj;have hmem:=List.getElem_mem hlj;have hcl:=Mem.ay hO.inn e1.a;have HC1:=zh (fun k u hk=>Mem.aj hO.inn (e1.get (j:=k) (u:=u) hk));have HG2:=zh (fun k u hk=>e2.get (j:=k) (u:=u) hk);have hcc:=HKD.out.1 _ hmem;have hff:=HKD.out.2 _ hmem;have HX1:=zh (pF f (lv+1) n KD[j].1 x1 M w3 zo hO.inn HT2.out r1 hff.1 hcc.1);have HX2:=zh (fun w' (h:M.inn w')=>pF f (lv+1) n KD[j].2 x2 M w' zo h HT2.out r2 hff.2 hcc.2);have hN1:(nine KD[j].1 x1).length=9:=rfl;have hN2:(nine KD[j].2 x2).length=9:=rfl;rw[bg (kr (fun x:Vd=>Snd f x.1∧Snd f x.2) hlj)] at hE;have HE:=zh hE;have HO:=zh hO;unfold Vl.val at HX1 HX2;rw[show ((lv+1:Nat):Int)=(lv:Int)+1 by omega] at HX1;have HX2:=zh (show ∀w',M.inn w'→_ from fun w' h=>by have:=HX2.out w' h;rw[show ((lv+1:Nat):Int)=(lv:Int)+1 by omega] at this;exact this);generalize nine KD[j].1 x1=N1 at *
   generalize nine KD[j].2 x2=N2 at *
   clear hO e1 e2 r1 r2 h4 hE hcc hff hmem;by_cases f1:Snd f KD[j].1
   case neg=>
    have HF:=zh (HE.out.trans (az fun h=>f1 h.1.1));have hh:=HX1.out;rw[az f1] at hh;have HX:=zh hh;clear HE f1 hh HX1 HX2 HG2 hY
    go_wp2_with (first
     | refine ae tyV rfl (.tmp 76) rfl rfl N1 hN1 HC1.out ?_
     | (go_at_call 67;refine HX.out.mono ?_;rintro e w4 ⟨rfl,hb4⟩))
    exact hR.out _ _ ⟨by rw[HF.out] <;> rfl,(HO.out.move hb4).below⟩
   have hh:=HX1.out;rw[aH f1] at hh;have HX:=zh hh;clear hh HX1;by_cases f2:Snd f KD[j].2
   ·have HE2:=zh (HE.out.trans (qx ⟨f1,f2⟩));have HX2:=zh (show ∀w',M.inn w'→_ from fun w' h=>by have:=HX2.out w' h;rw[aH f2] at this;exact this);clear HE f1 f2
    go_wp2_with (first
     | refine ae tyV rfl (.tmp 76) rfl rfl N1 hN1 HC1.out ?_
     | refine ae tyV rfl (.tmp 86) rfl rfl N2 hN2 HC2.out ?_
     | (go_at_call 67;first | (refine (HX2.out _ hO4.inn).mono ?_;rintro e w5 ⟨rfl,hb5⟩) | (refine HX.out.mono ?_;rintro e w4 ⟨rfl,hb4⟩;have hO4:=HO.out.move hb4;have hcl4:=Nat.lt_of_lt_of_le hcl hb4.size;have HC2:=zh (fun k u hk=>Mem.aj hO4.inn (HG2.out k u hk)))))
    exact hY.out _ _ _ zo rfl ⟨j+1,zo,rfl,rfl,HE2.out,hO4.move hb5⟩
   ·have HF:=zh (HE.out.trans (az fun h=>f2 h.1.2));have HX2:=zh (show ∀w',M.inn w'→_ from fun w' h=>by have:=HX2.out w' h;rw[az f2] at this;exact this);clear HE f1 f2 hY
    go_wp2_with (first
     | refine ae tyV rfl (.tmp 76) rfl rfl N1 hN1 HC1.out ?_
     | refine ae tyV rfl (.tmp 86) rfl rfl N2 hN2 HC2.out ?_
     | (go_at_call 67;first | (refine (HX2.out _ hO4.inn).mono ?_;rintro e w5 ⟨rfl,hb5⟩) | (refine HX.out.mono ?_;rintro e w4 ⟨rfl,hb4⟩;have hO4:=HO.out.move hb4;have hcl4:=Nat.lt_of_lt_of_le hcl hb4.size;have HC2:=zh (fun k u hk=>Mem.aj hO4.inn (HG2.out k u hk)))))
    exact hR.out _ _ ⟨by rw[HF.out] <;> rfl,(hO4.move hb5).below⟩
  ·have HF:=zh (hE.trans (aH (nN (fun x:Vd=>Snd f x.1∧Snd f x.2) (l:=KD) (i:=j) zo)));have HB:=zh hO.below;clear hE hO hY;go_wp2;exact hR.out _ _ ⟨by rw[HF.out] <;> rfl,HB.out⟩
theorem fO (v:Vl) (x:Sl) (m:Mem) (n:Nat) (w:World) (hm:m.inn w) (htab:TabM m) (hv:VAt m n x v) (hf:FewV n v) (hct:vcnt n v≤1048576) :
 Calls Tryz.prog 48 #[v.val x] w fun e w'=>e=.returned (.bool (tf (SndV v)))∧Below w.heap.size w w':=by
 have hO:=(Own.start hm).al (nine v x).toArray 33;have HW:=zh (pF 16 1 n v x m _ rfl hO.inn htab hv hf hct);have HN:=zh hO.obj.all;have hN:(nine v x).length=9:=rfl;have HO:=zh hO;unfold Vl.val;unfold Vl.val at HW;unfold SndV;generalize nine v x=N at *
 generalize tf (Snd 16 v)=ts at *
 clear hO hv hf;refine av fun R hR=>?_
 go_enter Tryz.func48,Tryz.ntmps48
 go_wp2_with (refine ae tyV rfl (.tmp 1) rfl rfl N hN HN.out ?_)
 refine HW.out.mono ?_;rintro e w1 ⟨rfl,hb1⟩;have HB:=zh (HO.out.move hb1).below;clear HO hb1 HW HN;go_wp2;exact hR.out _ _ ⟨rfl,HB.out⟩
end Cl
