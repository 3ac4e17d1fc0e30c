/- Lemmas for the proofs of chapter 11. -/
import Derived.Test.YtajbfioncdnkcaaGreatDoorProg
import Derived.BigQuiet
import Derived.Deep.Cut
import Derived.Deep.QuietTactic
import Derived.Laws.StructEq
import Derived.Lib.AppendStr
import Derived.Lib.Builder
import Derived.Lib.Hide
import Derived.Lib.ItoaLen
import Derived.Maps.OwnOps
import Derived.Maps.OwnSet
import Derived.OrdersHeld
import Derived.Outline
import Derived.StillTailTactics
import Derived.StringKeys
import Derived.WalkKit
import Derived.WalkLawsBesides
import Derived.WalkSpells
import Derived.Deep.RegionHeld
import Derived.Shelf.Strings.Builder1
import Derived.Shelf.Small.Wraps
import Derived.Shelf.LaysM
import Derived.Shelf.Strconv.Itoa3
import Derived.RegionTactic
import Derived.ChangeAlike
import Derived.Test.YtajbfioncdnkcaaGreatDoorZz
import Derived.Test.YtajbfioncdnkcaaGreatDoorPkM3
import Derived.Test.YtajbfioncdnkcaaGreatDoorPkM4
import Derived.Test.YtajbfioncdnkcaaGreatDoorPkM1
import Derived.Test.YtajbfioncdnkcaaGreatDoorPkM2
import Derived.Test.YtajbfioncdnkcaaGreatDoorPkM8
import Derived.Test.YtajbfioncdnkcaaGreatDoorPkM7
import Derived.Test.YtajbfioncdnkcaaGreatDoorPkM6
set_option maxRecDepth 100000
set_option maxHeartbeats 16000000
namespace Cl
open Go Go.RowKit Go.Proofs
structure R8 (l C:Table):Prop where
 canon:Canon C
 lang:∀x,aJ C 0 x=aJ l 0 x
theorem aZ (m:Mem):aI m (.slice none 0 0) []:=⟨none,0,rfl,Nat.le_refl _,by simp[maxLen],fun h=>absurd rfl h⟩
theorem pI (v0:Value) (l:Table) (m:Mem) (w:World) (hm:m.inn w) (htab:TabM m) (hl:aI m v0 l) (hlen:l.length≤1000000) :
 Calls Tryz.prog 118 #[v0] w fun e w'=>∃r C,e=.returned (.tuple #[.agg #[r],.int .i64 (if tf (WF l)=true then 0 else 11)])∧Below w.heap.size w w'∧aI (m.grow w w') r C∧C.length≤l.length+1 ∧
  (WF l→R8 l C)∧(¬ WF l→C=[]):=by
 have hl0:=hl;obtain⟨a,c,rfl,h1,h2,h3⟩:=hl;unfold maxLen at h2;have HW:=zh (fun w (hw:m.inn w)=>AL (.slice a l.length c) l m w hw hl0);refine aj fun R hR=>?_;have hO:=(Own.start hm).al #[.slice none 0 0] 27;have HO:=zh hO;clear hO
 go_enter Tryz.func118,Tryz.ntmps118
 go_wp2_with fail
 refine (HW.out _ (Mem.dK HO.out.ext.le HO.out.inn)).mono ?_;rintro e w1 ⟨rfl,hb1⟩;have hO1:=HO.out.move hb1;clear HO hb1;by_cases hwf:WF l
 ·rw[aN hwf];by_cases h0:l.length=0
  ·have hln:l=[]:=List.eq_nil_of_length_eq_zero h0;have hO2:=hO1.set 0 (.slice none 0 0);have g1:=hO1.obj.cell (i:=0) rfl;have g2:=hO1.obj.frozen 0;have g3:=hO1.obj.lt;have g4:=hO2.obj.cell (i:=0) rfl;have Hk:=zh (zi hO2 hln);have hdec:((l.length:Int)==0)=true:=by simp[h0]
   clear hO1 hO2 hln h0;go_wp2;refine bodyPost_ret (v:=.tuple #[.agg #[.slice none 0 0],.int .i64 0]) (by simp[results,Tryz.results118,go_sem,g1]) rfl ?_;refine hR.out _ _ ⟨_,[],by rw[aN hwf];rfl,Hk.out.1.below,aZ _,zS,fun _=>⟨eu,fun x=>?_⟩,fun _=>rfl⟩;rw[Hk.out.2]
  ·have hdec:((l.length:Int)==0)=false:=beq_eq_false_iff_ne.2 zo;have HC:=zh (FU (.slice a l.length c) l m w1 (Mem.dK hO1.ext.le hO1.inn) hl0 hwf hlen);have HO1:=zh hO1;clear hO1
   go_wp2_with fail
   refine HC.out.mono ?_;rintro e w2 ⟨g,mk,vc,vn,va,rfl,hO2,k1,k2,k3⟩;have hO3:=HO1.out.join hO2;have hle:=hO2.ext.le;have hH:=Dp hwf hlen;have HR:=zh (Ki g vc vn va l (dF l 256) (gX l (dF l 256)) (l.map (·.accept) ++ [false]) _ _ hH m mk w w2 [.obj w.heap.size 27 #[.slice none 0 0]] (htab.le hle) hO3 k2 k3);clear hO3 hO2 HC HO1
   go_wp2_with fail
   refine HR.out.mono ?_;rintro e w3 ⟨mk2,vk,cls,rfl,hO4,hle2,k4,hcls⟩;have q0:=hO4.obj.cell (i:=0) rfl;have hO5:=hO4.ib;have hle3:=Mem.jw (w:=w3) hO4.iC;have htabAt:TabAt (mk2.add w3 g) g (dF l 256) (gX l (dF l 256)) (l.map (·.accept) ++ [false]) cls:=by
    refine ⟨vc,vn,va,vk,Mem.cz hO4.obj rfl,Mem.cz hO4.obj rfl,Mem.cz hO4.obj rfl,Mem.cz hO4.obj rfl,?_,?_,?_,?_⟩
    ·exact gU (Mem.le_trans hle2 hle3) k1
    ·exact ru (Mem.le_trans hle2 hle3) k2
    ·exact j5 (Mem.le_trans hle2 hle3) k3
    ·exact gU hle3 k4
   have HN:=zh (Du g l (dF l 256) (gX l (dF l 256)) (l.map (·.accept) ++ [false]) cls _ _ hH (uT l) hcls
    (fun lv hlv hh=>IB hwf hlen hcls hlv hh) (fun lv hlv hh=>FP hwf hlen hcls hlv hh) (mk2.add w3 g) w3 hO5.inn htabAt)
   have HO5:=zh hO5;clear hO5 hO4 HR htabAt hH q0
   go_wp2_with fail
   refine HN.out.mono ?_;rintro e w4 ⟨r,C,rfl,hb4,hst,hcan,hlang,hClen⟩;have hO6:=HO5.out.call hb4;obtain⟨ra,rc,rfl⟩:∃ra rc,r=.slice ra C.length rc:=by obtain⟨x,y,e,-⟩:=hst;exact⟨x,y,e⟩
   have g1:=hO6.obj.cell (i:=0) rfl;have g2:=hO6.obj.frozen 0;have g3:=hO6.obj.lt;have hO7:=hO6.set 0 (.slice ra C.length rc);have g4:=hO7.obj.cell (i:=0) rfl;have hfin:=aK hO7.done hst;rw[nP] at hClen;have Hk:=zh (zi hO7.below (zi hfin (zi hcan (zi hlang hClen))));clear hO7 hO6 hfin hcan hlang hst hClen HO5;go_wp2;refine bodyPost_ret (v:=.tuple #[.agg #[.slice ra C.length rc],.int .i64 0]) (by simp[results,Tryz.results118,go_sem,g4]) rfl ?_;exact hR.out _ _ ⟨_,C,by rw[aN hwf];rfl,Hk.out.1,Hk.out.2.1,Hk.out.2.2.2.2,fun _=>⟨Hk.out.2.2.1,Hk.out.2.2.2.1⟩,fun h=>absurd hwf h⟩
 ·rw[aL hwf];have hO2:=hO1.set 0 (.slice none 0 0);have g1:=hO1.obj.cell (i:=0) rfl;have g2:=hO1.obj.frozen 0;have g3:=hO1.obj.lt;have g4:=hO2.obj.cell (i:=0) rfl;have Hk:=zh (zi hO2 hwf);clear hO1 hO2 hwf;go_wp2;refine bodyPost_ret (v:=.tuple #[.agg #[.slice none 0 0],.int .i64 11]) (by simp[results,Tryz.results118,go_sem,g1]) rfl ?_;exact hR.out _ _ ⟨_,[],by rw[aL Hk.out.2];rfl,Hk.out.1.below,aZ _,zS,fun h=>absurd h Hk.out.2,fun _=>rfl⟩
noncomputable def cZ (l:Table):Table:=if tf (Canon l)=true then l else []
theorem iV (l:Table):Canon (cZ l):=by
 unfold cZ
 split
 ·rename_i h;exact yw.1 h
 ·exact eu
theorem Jr {l:Table} (h:Canon l):cZ l=l:=by simp[cZ,aN h]
theorem iq (l:Table):(cZ l).length≤l.length:=by
 unfold cZ;split <;> simp
theorem uY {l C:Table} (h1:WF l→R8 l C) (hw:WF l):Canon l↔l=C:=
 ⟨fun h=>lQ h (h1 hw).canon fun x=>((h1 hw).lang x).symm,fun h=>by rw[h];exact (h1 hw).canon⟩
theorem Ap (v0:Value) (l:Table) (m:Mem) (w:World) (hm:m.inn w) (htab:TabM m) (hl:aI m v0 l) (hlen:l.length≤1000000) :
 Calls Tryz.prog 65 #[.agg #[v0]] w fun e w'=>e=.returned (.bool (tf (Canon l)))∧Below w.heap.size w w':=by
 have hl0:=hl;obtain⟨a,c,rfl,h1,h2,h3⟩:=hl;refine aj fun R hR=>?_;have hO:=(Own.start hm).al #[.slice a l.length c] 27;have HM:=zh (pI (.slice a l.length c) l m _ hO.inn htab hl0 hlen);have HO:=zh hO;clear hO
 go_enter Tryz.func65,Tryz.ntmps65
 go_wp2_with fail
 refine HM.out.mono ?_;rintro e w1 ⟨r,C,rfl,hb1,hst,hClen,hmin,hnot⟩;have hO1:=HO.out.call hb1;have hle:=hO1.ext.le;obtain⟨ra,rc,rfl⟩:∃ra rc,r=.slice ra C.length rc:=by obtain⟨x,y,e,-⟩:=hst;exact⟨x,y,e⟩
 have hO2:=hO1.al #[.slice ra C.length rc] 27;have g1:=hO2.swap.obj.cell (i:=0) rfl;have g2:=hO2.swap.obj.lt;have HS:=zh (LV (.slice a l.length c) (.slice ra C.length rc) l C _ _ hO2.inn (aK hle hl0) hst);have HO2:=zh hO2;clear hO1 hO2 HM HO;by_cases hwf:WF l
 ·rw[aN hwf];have hci:=uY hmin hwf;have Hk:=zh (zi hci (zi hmin hnot));clear hmin hnot hci
  go_wp2_with fail
  refine HS.out.mono ?_;rintro e w3 ⟨rfl,hb3⟩;have hb4:=(HO2.out.move hb3).below;go_wp2;exact hR.out _ _ ⟨aQ (by rw[fT Hk.out.1]),hb4⟩
 ·rw[aL hwf];have Hk:=zh (zi hwf (zi hmin hnot));clear hmin hnot hwf;go_wp2;exact hR.out _ _ ⟨aQ (by rw[aL (fun h=>Hk.out.1 h.wf)]),HO2.out.below⟩
theorem mi (v0:Value) (l:Table) (m:Mem) (w:World) (hm:m.inn w) (htab:TabM m) (hl:aI m v0 l) (hlen:l.length≤1000000) :
 Calls Tryz.prog 126 #[.agg #[v0]] w fun e w'=>∃r,e=.returned (.agg #[r])∧Below w.heap.size w w'∧aI (m.grow w w') r (cZ l):=by
 have hl0:=hl;obtain⟨a,c,rfl,h1,h2,h3⟩:=hl;refine aj fun R hR=>?_;have hO:=((Own.start hm).al #[.slice a l.length c] 27).al #[.slice none 0 0] 27;have hsz:(w.alloc (.cells #[.slice a l.length c] 27)).heap.size=w.heap.size+1:=by simp
 rw[hsz] at hO;have HV:=zh (Ap (.slice a l.length c) l m _ hO.inn htab hl0 hlen);have HO:=zh hO;clear hO hsz
 go_enter Tryz.func126,Tryz.ntmps126
 go_wp2_with fail
 refine HV.out.mono ?_;rintro e w1 ⟨rfl,hb1⟩;have hO1:=HO.out.move hb1;have g1:=hO1.swap.obj.cell (i:=0) rfl;have g2:=hO1.obj.cell (i:=0) rfl;have g3:=hO1.obj.frozen 0;have g4:=hO1.obj.lt;clear HO HV hb1;by_cases hc:Canon l
 ·have hO2:=hO1.set 0 (.slice a l.length c);have g5:=hO2.obj.cell (i:=0) rfl;have Hk:=zh (zi hO2 hc);rw[aN hc];clear hO1 hO2 hc;go_wp2;refine bodyPost_ret (v:=.agg #[.slice a l.length c]) (by simp[results,Tryz.results126,go_sem,g5]) rfl ?_;exact hR.out _ _ ⟨_,rfl,Hk.out.1.below,by rw[Jr Hk.out.2];exact aK Hk.out.1.done hl0⟩
 ·have hO2:=hO1.set 0 (.slice none 0 0);have g5:=hO2.obj.cell (i:=0) rfl;have Hk:=zh (zi hO2 hc);rw[aL hc];clear hO1 hO2 hc;go_wp2;refine bodyPost_ret (v:=.agg #[.slice none 0 0]) (by simp[results,Tryz.results126,go_sem,g2]) rfl ?_;exact hR.out _ _ ⟨_,rfl,Hk.out.1.below,by rw[cZ,aL Hk.out.2];exact aZ _⟩
theorem jH {w:World} {t:TypeId} {size:Nat} {a:Option Addr} {n c:Nat} {xs:List Value} (h:w.ownsRow 0 t size (.slice a n c) n xs) (hn:0<n):∃b,a=some ⟨b,0,none⟩:=by
 rcases h.2 with ⟨h,-⟩ | ⟨gg,cap,cur,h,-⟩
 ·injection h with h1 h2 h3;omega
 ·injection h with h1 h2 h3;exact⟨_,h1⟩
theorem Ld : (Tryz.prog.fieldsOf 155).toList = [⟨"a", 3, 0, false, "", "configlang/lang", 0⟩, ⟨"b", 3, 1, false, "", "configlang/lang", 8⟩] := by
 kernel_rfl
theorem Mx:Tryz.prog.stoodInHeld 155=false:=by kernel_rfl
theorem NW:Tryz.prog.eqGuardType Tryz.prog.depth 155=false:=by kernel_rfl
theorem QY:Tryz.prog.underlying 155=some (.struct (Tryz.prog.fieldsOf 155)):=by kernel_rfl
theorem M8 (a b a' b':Int) (w:World):(Op.equalIn 10000 155 (.agg #[.int .i64 a,.int .i64 b]) (.agg #[.int .i64 a',.int .i64 b'])).run Tryz.prog w=.ok (a==a'&&b==b') w:=by
 rw[run_equalIn_agg w 9999 155 _ _ QY Mx,Ld];have e2:=fun (d:Nat) (a b:Int) (w:World)=>run_equalIn_int (P:=Tryz.prog) w d 3 .i64 .i64 a b Tryz.underlying3;simp only[Op.eqFields];simp[isAgg,go_sem,e2];by_cases h1:a=a' <;> by_cases h2:b=b' <;> simp[h1,h2]
theorem Bd (v:Value) (l:List (Int × Int)) (x:Int × Int) (m:Mem) (w:World) (hm:m.inn w) (hl:bW m v l) :
 Calls Tryz.prog 191 #[v,.agg #[.int .i64 x.1,.int .i64 x.2]] w fun e w'=>e=.returned (.int .i64 (firstIdx (fun y=>x=y) l 0))∧Below w.heap.size w w':=by
 obtain⟨a,c,rfl,h1,h2,h3⟩:=hl;unfold maxLen at h2;refine aj fun R hR=>?_
 go_enter Tryz.func191,Tryz.ntmps191
 go_wp2;have hb0:Below w.heap.size w (w.alloc (.cells #[.int .i64 x.1,.int .i64 x.2] 155)):=aP (Below.refl _ _) _;have d1:(w.alloc (.cells #[.int .i64 x.1,.int .i64 x.2] 155)).cell? ⟨w.heap.size,0,none⟩=some (.int .i64 x.1):=by simp
 have d2:(w.alloc (.cells #[.int .i64 x.1,.int .i64 x.2] 155)).cell? ⟨w.heap.size,1,none⟩=some (.int .i64 x.2):=by simp
 have d3:w.heap.size<(w.alloc (.cells #[.int .i64 x.1,.int .i64 x.2] 155)).heap.size:=by simp
 have hm0:=Mem.bX hm hb0;generalize w.alloc (.cells #[.int .i64 x.1,.int .i64 x.2] 155)=w0 at *
 refine ay [0,3,7,8] (fun n vs wr=>∃k:Nat,k≤l.length∧n=l.length - k∧vs=[.slice a l.length c,.pointer (some ⟨w.heap.size,0,none⟩),.int .i64 l.length,.int .i64 k]∧firstIdx (fun y=>x=y) l 0=firstIdx (fun y=>x=y) (l.drop k) k∧Below w0.heap.size w0 wr) ?_ ?_
 ·exact⟨_,0,Nat.zero_le _,rfl,rfl,rfl,Below.refl _ _⟩
 rintro X z n vs wr hX - ⟨k,hk,rfl,rfl,hrel,hbel⟩;have Hrel:=zh hrel;clear hrel;simp[litL,lk];have hmr:=Mem.bX hm0 hbel;have e1:=iw hbel d3 d1;have e2:=iw hbel d3 d2;by_cases hlt:k<l.length
 ·obtain⟨b,off,rfl,h4⟩:=h3 (by intro h;simp[h] at hlt);obtain⟨g1,g2,-⟩:=h4 k hlt;have c1:=Mem.av hmr g1;have c2:=Mem.av hmr g2;have HD:=zh (jK (fun y=>x=y) l k hlt);have hq:=fun w=>M8 x.1 x.2 (l[k].1) (l[k].2) w;have hgd:=NW;by_cases hx:x=l[k]
  ·have hb1:(x.1==l[k].1)=true:=by simp[← hx]
   have hb2:(x.2==l[k].2)=true:=by simp[← hx]
   have Hx:=zh hx;clear hx;go_wp2
   go_quiet (fail)
   go_wp2;exact hR.out _ _ ⟨dL (by rw[Hrel.out,HD.out,if_pos (aN Hx.out)]),dE hb0 (below_drewN hbel _)⟩
  ·have hb1:(x.1==l[k].1&&x.2==l[k].2)=false:=by
    by_cases h:x.1=l[k].1
    ·by_cases h':x.2=l[k].2
     ·exact absurd (Prod.ext h h') hx
     ·simp[h']
    ·simp[h]
   have Hx:=zh hx;clear hx;go_wp2
   go_quiet (fail)
   go_wp2;exact hX.out _ _ _ zo rfl ⟨k+1,zo,rfl,rfl,by rw[Hrel.out,HD.out,if_neg (by rw[aL Hx.out];simp)],below_drewN hbel _⟩
 ·go_wp2;exact hR.out _ _ ⟨dL (by rw[Hrel.out,List.drop_eq_nil_of_le zo];rfl),dE hb0 hbel⟩
def pW (s:List UInt8) (k:Nat):Table:=(List.range k).map fun i=>⟨false,[⟨(s.getD i 0).toNat,(s.getD i 0).toNat,(i+1:Nat)⟩]⟩
theorem Bj (s:List UInt8) (k:Nat):pW s (k+1)=pW s k ++ [⟨false,[⟨(s.getD k 0).toNat,(s.getD k 0).toNat,(k+1:Nat)⟩]⟩]:=by
 simp[pW,List.range_succ]
theorem wL (s:List UInt8) (k:Nat):(pW s k).length=k:=by simp[pW]
theorem CP {mk:Mem} {w:World} {g:Nat} {t:TypeId} {lo hi:Nat} {to:Int} (h:bI w g t #[.int .u8 lo,.int .u8 hi,.int .i64 to]) (hk:edOk ⟨lo,hi,to⟩):kF (mk.add w g) (.slice (some ⟨g,0,none⟩) 1 1) [⟨lo,hi,to⟩]:=by
 refine ⟨some ⟨g,0,none⟩,1,rfl,zS,by simp[maxLen],fun _=>⟨g,0,rfl,fun i hi=>?_⟩⟩;have:i=0:=by simpa using hi
 subst this;exact⟨Mem.cz h rfl,Mem.cz h rfl,Mem.cz h rfl,hk⟩
theorem CW (mk:Mem):kF mk (.slice none 0 0) []:=⟨none,0,rfl,zS,by simp[maxLen],fun h=>absurd rfl h⟩
theorem Co (s:ByteArray) (m:Mem) (w:World) (hm:m.inn w) (hs:s.size≤1000) :
 Calls Tryz.prog 161 #[.string s] w fun e w'=>∃r,e=.returned (.agg #[r])∧Below w.heap.size w w'∧aI (m.grow w w') r (pW s.data.toList s.size ++ [⟨true,[]⟩]):=by
 refine aj fun R hR=>?_
 go_enter Tryz.func161,Tryz.ntmps161
 go_wp2;refine ay [0,2,3,6,7] (fun n vs wr=>∃(k:Nat) (v:Value) (xs:List Value) (mk:Mem),k≤s.size∧n=s.size - k∧vs=[.string s,.pointer (some ⟨w.heap.size,0,none⟩),.pointer (some ⟨w.heap.size+1,0,none⟩),.int .i64 s.size,.int .i64 k] ∧
  Own w m wr mk [.obj (w.heap.size+1) 27 #[v],.row v 66 2 k xs,.obj w.heap.size 27 #[.slice none 0 0]]∧jX mk xs (pW s.data.toList k)) ?_ ?_
 ·refine ⟨_,0,.slice none 0 0,[],m,Nat.zero_le _,rfl,rfl,?_,jX.nil m⟩;have:=(((Own.start hm).al #[.slice none 0 0] 27).al #[.slice none 0 0] 27).eH 66 2;simpa using this.swap
 rintro X z n vs wr hX - ⟨k,v,xs,mk,hk,rfl,rfl,hO,hrow⟩;simp[litL,lk];have ho2:=hO.obj;have c1:=ho2.cell (i:=0) (v:=v) rfl;have f1:=ho2.frozen 0;have l1:=ho2.lt;by_cases hlt:k<s.size
 ·go_wp2;have hw1:IntKind.i64.wrap ((k:Int)+1)=(k:Int)+1:=IntWalk.i64_in _ zo;refine fw (fun w'=>bI w' (w.heap.size+1) 27 #[v]) 16 zk ?_;have hS:bI wr.drew (w.heap.size+1) 27 #[v]:=ho2.dr;refine az 0 rfl zk (fun _ _ _ h=>h) hS (au rfl fun w' hS'=>by have q:=hS'.cell (i:=0) rfl;go_simp;rfl) ?_;refine az 1 rfl zk (fun _ _ _ h=>h) hS (au rfl fun w' hS'=>by have q:=hS'.cell (i:=0) rfl;go_simp;rfl) ?_;refine az 2 rfl zk (fun _ _ _ h=>h) hS (au rfl fun w' hS'=>by have q:=hS'.cell (i:=0) rfl;go_simp;rfl) ?_;refine az 3 rfl zk (fun _ _ _ h=>h) hS (au rfl fun w' hS'=>by have q:=hS'.cell (i:=0) rfl;go_simp;rfl) ?_;refine az 4 rfl zk (fun _ _ _ h=>h) hS (au rfl fun w' hS'=>by have q:=hS'.cell (i:=0) rfl;go_simp;rfl) ?_;refine az 5 rfl zk (fun _ _ _ h=>h) hS (au rfl fun w' hS'=>by have q:=hS'.cell (i:=0) rfl;go_simp;rfl) ?_;refine az 6 rfl zk (fun _ _ _ h=>h) hS (au rfl fun w' hS'=>by have q:=hS'.cell (i:=0) rfl;go_simp;rfl) ?_;refine az 7 rfl zk (fun _ _ _ h=>h) hS (au rfl fun w' hS'=>by have q:=hS'.cell (i:=0) rfl;go_simp;rfl) ?_;refine az 8 rfl zk (fun _ _ _ h=>h) hS (au rfl fun w' hS'=>by have q:=hS'.cell (i:=0) rfl;go_simp;rfl) ?_;refine az 9 rfl zk (fun _ _ _ h=>h) hS (au rfl fun w' hS'=>by have q:=hS'.cell (i:=0) rfl;go_simp;rfl) ?_;refine az 10 rfl zk (fun _ _ _ h=>h) hS (au rfl fun w' hS'=>by have q:=hS'.cell (i:=0) rfl;go_simp;rfl) ?_;refine aG 11 zk (aB rfl rfl (aD (by go_simp;exact⟨rfl,rfl⟩) (andS (ho2.al _).dr fun hS1=>?_)));refine az 12 rfl zk (fun _ _ _ h=>h) hS1 (au rfl fun w' hS'=>by have q:=hS'.cell (i:=0) rfl;go_simp;rfl) ?_;refine aG 13 zk (aB rfl rfl (aD (by go_simp;exact⟨rfl,rfl⟩) (andS ((ho2.al _).al _).dr fun hS2=>?_)));go_simp;have hO2:=((hO.al #[Value.int IntKind.u8 s[k].toNat,Value.int IntKind.u8 s[k].toNat,Value.int IntKind.i64 (k+1)] 106).al #[Value.bool false,Value.slice (some ⟨wr.heap.size,0,none⟩) 1 1] 66).dr;rw[show (wr.alloc (.cells #[Value.int IntKind.u8 s[k].toNat,Value.int IntKind.u8 s[k].toNat,Value.int IntKind.i64 (k+1)] 106)).heap.size=wr.heap.size+1 by simp] at hO2;have hO3:=hO2.tail.ib;have hed:=CP (mk:=mk) (lo:=s[k].toNat) (hi:=s[k].toNat) (to:=(k:Int)+1) hO2.tail.obj ⟨s[k].toNat_lt,s[k].toNat_lt,by show _≤(k:Int)+1;omega,by show (k:Int)+1≤_;omega⟩;have hf:=hO2.tail.iC;refine aG 14 zk (aB rfl rfl (eB iH (.tmp 11) (.tmp 23) rfl v k xs rfl hO3.swap.row ⟨wr.heap.size+1,0,none⟩ 1 1 [.bool false,.slice (some ⟨wr.heap.size,0,none⟩) 1 1] rfl rfl (hO2.obj.news rfl) (by simp[Value.oneCell']) (by unfold maxLen;omega) zo (fun va vc w3 hown3 hgrow hrow3=>?_)));have hO4:=hO3.swap.app hown3 hgrow hrow3 (Nat.le_refl _);refine andS hO4.swap.obj fun hS3=>?_;have f3:=hS3.frozen 0;have c3:=hS3.cell (i:=0) rfl;refine az 15 rfl zk (fun _ _ _ h=>h) hS3 (au rfl fun w' hS'=>by have q:=hS'.cell (i:=0) rfl;go_simp;rfl) ?_;refine aG 16 zk (aB rfl rfl (aS (by go_simp;rfl) (ji rfl ?_)));refine dS zk ?_ _;have hO5:=hO4.swap.set 0 (.slice va (k+1) vc);have hrow5:=(hrow.mono (Mem.jw hf)).push (s:=⟨false,[⟨s[k].toNat,s[k].toNat,(k+1:Nat)⟩]⟩) hed;have Hfin:=zh (zi hO5 hrow5);clear hO5 hrow5 hO4 hO3 hO2 hO hed hf hown3 hgrow hrow3 hS hS1 hS2 hS3 f3 c3 ho2 c1 f1;go_wp2;refine hX.out _ _ _ zo rfl ⟨k+1,_,_,_,zo,rfl,rfl,Hfin.out.1,?_⟩;have hg:=Hfin.out.2;rw[Bj];have e:s.data.toList.getD k 0=s[k]:=by
   rw[List.getD_eq_getElem?_getD];have:s.data.toList[k]?=some s[k]:=by
    rw[List.getElem?_eq_getElem (by simpa using hlt)];rfl
   rw[this];rfl
  rw[e];exact hg
 ·obtain rfl:k=s.size:=zo;have hO1:=hO.al #[Value.bool true,Value.slice none 0 0] 66
  go_wp2_with (at_builtin;refine aC iH rfl (.tmp 28) (.tmp 30) rfl v s.size xs rfl (hO1.third).row ⟨wr.heap.size,0,none⟩ 1 1 [.bool true,.slice none 0 0] rfl rfl (hO1.obj.news rfl) (by simp[Value.oneCell']) (by unfold maxLen;omega) zo ?_)
  intro va vc w3 hown3 hgrow hrow3;have hO2:=hO1.third.app hown3 hgrow hrow3 zS;have hS3:=hO2.third.obj;have f3:=hS3.frozen 0;have c3:=hS3.cell (i:=0) rfl;have l3:=hS3.lt;have g3:=hO2.fourth.obj.cell (i:=0) rfl;have g4:=hO2.fourth.obj.frozen 0;have g5:=hO2.fourth.obj.lt;have hO4:=(hO2.third.set 0 (.slice va (s.size+1) vc)).fourth.set 0 (.slice va (s.size+1) vc);have hrow4:=hrow.push (s:=(⟨true,[]⟩:Sn)) (CW mk);have hO5:=hO4.third.bD;have hln:(pW s.data.toList s.size ++ [(⟨true,[]⟩:Sn)]).length=s.size+1:=by simp[wL]
  have hst:=dZ (l:=pW s.data.toList s.size ++ [(⟨true,[]⟩:Sn)]) (by rw[hln];exact hO4.third.row) hrow4 hO4.third.free;have hfin:=aK hO5.done hst;have Hfin:=zh (zi hO5.below hfin);clear hO5 hst hfin hO4 hrow4 hown3 hgrow hrow3 hO2 hO1 hO;go_wp2;refine bodyPost_ret (v:=.agg #[.slice va (s.size+1) vc]) (by simp[results,Tryz.results161,go_sem,g3]) rfl ?_;exact hR.out _ _ ⟨_,rfl,Hfin.out.1,Hfin.out.2⟩
theorem Cf (v0:Value) (l:Table) (m:Mem) (w:World) (hm:m.inn w) (hl:aI m v0 l) (hlen:l.length≤1000000) (hlen2:∀s∈l,s.edges.length≤1000000) :
 Calls Tryz.prog 125 #[.agg #[v0]] w fun e w'=>∃r,e=.returned (.agg #[r])∧Below w.heap.size w w'∧aI (m.grow w w') r l:=by
 obtain⟨a,c,rfl,h1,h2,h3⟩:=hl;unfold maxLen at h2;refine aj fun R hR=>?_
 go_enter Tryz.func125,Tryz.ntmps125
 go_wp2;refine ay [2,3,7,8,9] (fun n vs wr=>∃(k:Nat) (v:Value) (xs:List Value) (mk:Mem),k≤l.length∧n=l.length - k∧vs=[.pointer (some ⟨w.heap.size+1,0,none⟩),.pointer (some ⟨w.heap.size+2,0,none⟩),.slice a l.length c,.int .i64 l.length,.int .i64 k] ∧
  Own w m wr mk [.obj (w.heap.size+2) 27 #[v],.row v 66 2 k xs,.obj (w.heap.size+1) 27 #[.slice none 0 0]]∧jX mk xs (l.take k)) ?_ ?_
 ·refine ⟨_,0,.slice none 0 0,[],m,Nat.zero_le _,rfl,rfl,?_,jX.nil m⟩;have:=((((Own.start hm).al' (.cells #[.slice a l.length c] 27)).al #[.slice none 0 0] 27).al #[.slice none 0 0] 27).eH 66 2;simpa using this.swap
 rintro X z n vs wr hX - ⟨k,v,xs,mk,hk,rfl,rfl,hO,hrow⟩;simp[litL,lk];have ho2:=hO.obj;by_cases hlt:k<l.length
 ·obtain⟨b,off,rfl,h4⟩:=h3 (by intro h;simp[h] at hlt);have hmr:=Mem.dK hO.ext.le hO.inn;obtain⟨g1,ve,g2,g3⟩:=h4 k hlt;have hc1:=Mem.av hmr g1;have hc2:=Mem.av hmr g2;have hb:=Mem.ak hmr g1;have hC:=fun w1 (h:mk.inn w1)=>Pk ve l[k].edges mk w1 h (oG hO.ext.le g3) (by have:=hlen2 l[k] (List.getElem_mem hlt);omega);have HC:=zh hC;clear hC;obtain⟨ea,ec,rfl,-⟩:=g3;have l1:=ho2.lt;go_wp2;have hO1:=(hO.al #[.bool l[k].accept,.slice ea l[k].edges.length ec] 66).dr;refine fw (fun w'=>bI w' (w.heap.size+2) 27 #[v]∧bI w' wr.heap.size 66 #[.bool l[k].accept,.slice ea l[k].edges.length ec]) 11 zk ?_;have hS:=zi hO1.swap.obj hO1.obj;refine az 0 rfl zk (fun _ _ _ h=>h) hS (au rfl fun w' hS'=>by have q:=hS'.1.cell (i:=0) rfl;have q1:=hS'.2.cell (i:=0) rfl;have q2:=hS'.2.cell (i:=1) rfl;go_simp;rfl) ?_;refine az 1 rfl zk (fun _ _ _ h=>h) hS (au rfl fun w' hS'=>by have q:=hS'.1.cell (i:=0) rfl;have q1:=hS'.2.cell (i:=0) rfl;have q2:=hS'.2.cell (i:=1) rfl;go_simp;rfl) ?_;refine az 2 rfl zk (fun _ _ _ h=>h) hS (au rfl fun w' hS'=>by have q:=hS'.1.cell (i:=0) rfl;have q1:=hS'.2.cell (i:=0) rfl;have q2:=hS'.2.cell (i:=1) rfl;go_simp;rfl) ?_;refine az 3 rfl zk (fun _ _ _ h=>h) hS (au rfl fun w' hS'=>by have q:=hS'.1.cell (i:=0) rfl;have q1:=hS'.2.cell (i:=0) rfl;have q2:=hS'.2.cell (i:=1) rfl;go_simp;rfl) ?_;refine az 4 rfl zk (fun _ _ _ h=>h) hS (au rfl fun w' hS'=>by have q:=hS'.1.cell (i:=0) rfl;have q1:=hS'.2.cell (i:=0) rfl;have q2:=hS'.2.cell (i:=1) rfl;go_simp;rfl) ?_;refine az 5 rfl zk (fun _ _ _ h=>h) hS (au rfl fun w' hS'=>by have q:=hS'.1.cell (i:=0) rfl;have q1:=hS'.2.cell (i:=0) rfl;have q2:=hS'.2.cell (i:=1) rfl;go_simp;rfl) ?_;refine aG 6 zk (aB rfl rfl (dI (by go_simp) (HC.out _ hO1.inn) ?_));rintro e w1 ⟨r,rfl,hb1,hr1⟩;have hO2:=hO1.call hb1;refine ⟨r,rfl,andS (zi hO2.swap.obj hO2.obj) fun hS1=>?_⟩;obtain⟨ra,rc,rfl⟩:∃ra rc,r=.slice ra l[k].edges.length rc:=by obtain⟨x,y,e,-⟩:=hr1;exact⟨x,y,e⟩
  refine az 7 rfl zk (fun _ _ _ h=>h) hS1 (au rfl fun w' hS'=>by go_simp;rfl) ?_;refine aG 8 zk (aB rfl rfl (aD (by go_simp;exact⟨rfl,rfl⟩) (andS (zi (hO2.swap.obj.al _) (hO2.obj.al _)) fun hS2=>?_)));go_simp;have hO3:=hO2.al #[.bool l[k].accept,.slice ra l[k].edges.length rc] 66;refine aG 9 zk (aB rfl rfl (eB iH (.tmp 14) (.tmp 21) rfl v k xs rfl hO3.fourth.row ⟨w1.heap.size,0,none⟩ 1 1 [.bool l[k].accept,.slice ra l[k].edges.length rc] rfl rfl (hO3.obj.news rfl) (by simp[Value.oneCell']) (by unfold maxLen;omega) zo (fun va vc w3 hown3 hgrow hrow3=>?_)));have hO4:=hO3.fourth.app hown3 hgrow hrow3 (Nat.le_refl _);refine andS (zi hO4.fourth.obj hO4.third.obj) fun hS3=>?_;refine az 10 rfl zk (fun _ _ _ h=>h) hS3 (au rfl fun w' hS'=>by go_simp;rfl) ?_;have f3:=hS3.1.frozen 0;have c3:=hS3.1.cell (i:=0) rfl;refine aG 11 zk (aB rfl rfl (aS (by go_simp;rfl) (ji rfl ?_)));refine dS zk ?_ _;have hO5:=hO4.fourth.set 0 (.slice va (k+1) vc);have hrow5:=(hrow.mono (Mem.eO hO1.inn)).push (s:=l[k]) hr1;rw[← List.take_succ_eq_append_getElem hlt] at hrow5;have Hfin:=zh (zi hO5.nG.nG hrow5);clear hO5 hrow5 hO4 hO3 hO2 hO1 hO hown3 hgrow hrow3 hS hS1 hS2 hS3 f3 c3 ho2 hrow hb1;go_wp2;exact hX.out _ _ _ zo rfl ⟨k+1,_,_,_,zo,rfl,rfl,Hfin.out.1,Hfin.out.2⟩
 ·obtain rfl:k=l.length:=zo;have c1:=hO.obj.cell (i:=0) rfl;have g3:=hO.third.obj.cell (i:=0) rfl;have g4:=hO.third.obj.frozen 0;obtain⟨va,vc,rfl⟩:=aO hO.swap.row;have hO4:=hO.third.set 0 (.slice va l.length vc);have hst:=dZ (l:=l) hO4.third.row (by rw[List.take_length] at hrow;exact hrow) hO4.third.free;have hfin:=aK hO4.third.bD.done hst;have Hfin:=zh (zi hO4.below hfin);clear hst hfin hO4 hO ho2 hrow;go_wp2;refine bodyPost_ret (v:=.agg #[.slice va l.length vc]) (by simp[results,Tryz.results125,go_sem,g3]) rfl ?_;exact hR.out _ _ ⟨_,rfl,Hfin.out.1,Hfin.out.2⟩
def dV (l:List (Int × Int)):List Value:=l.flatMap fun p=>[.int .i64 p.1,.int .i64 p.2]
def EM (p:Int × Int):Prop := -9223372036854775808≤p.1∧p.1≤9223372036854775807 ∧ -9223372036854775808≤p.2∧p.2≤9223372036854775807
theorem pO (l:List (Int × Int)) (p:Int × Int):dV (l ++ [p])=dV l ++ [.int .i64 p.1,.int .i64 p.2]:=by simp[dV]
theorem lZ:∀(l:List (Int × Int)) (i:Nat) (h:i<l.length),(dV l)[i*2]?=some (.int .i64 l[i].1)∧(dV l)[i*2+1]?=some (.int .i64 l[i].2)
 | [],i,h=>by simp at h
 | p::l,0,_=>by simp[dV]
 | p::l,i+1,h=>by
  have:=lZ l i (by simpa using h);simp only[dV,List.flatMap_cons,List.getElem_cons_succ] at this ⊢;rw[show (i+1)*2=i*2+2 by omega];exact this
theorem rM {w:World} {t:TypeId} {v:Value} {l:List (Int × Int)} {m:Mem} (hown:w.ownsRow 0 t 2 v l.length (dV l)) (hk:∀p∈l,EM p):bW (m.addv w v) v l:=
 jY hown fun g hg i h=>by
  obtain⟨h1,h2⟩:=lZ l i h;exact⟨gI hown hg m h1,gI hown hg m h2,hk _ (List.getElem_mem h)⟩
theorem Q4:iX Tryz.prog 156 155 2 16:=⟨Tryz.underlying156,zo,by
 obtain⟨i,h1,h2,h3,h4⟩:=info_parts (P:=Tryz.prog) (e:=155) (z:=.agg #[.int .i64 0,.int .i64 0]) (size:=2) (bytes:=16) zk;exact⟨i,_,h1,h2,h3,h4,rfl⟩⟩
def gY (l:List (Int × Int)) (p:Int × Int):Nat:=l.findIdx (fun q=>p=q)
def fE (l:List (Int × Int)) (p:Int × Int):List (Int × Int):=if gY l p<l.length then l else l ++ [p]
theorem uQ (l:List (Int × Int)) (x:Int × Int):firstIdx (fun y=>x=y) l 0=if gY l x<l.length then ((gY l x:Nat):Int) else -1:=by
 rcases mr (fun y=>x=y) l 0 with ⟨h1,h2⟩ | ⟨i,h1,h2,h3,h4⟩
 ·rw[h1,if_neg];intro h;obtain⟨y,hy,hp⟩:=List.findIdx_lt_length.1 h;exact h2 y hy (by simpa using hp)
 ·have:gY l x=i:=by
   unfold gY;rw[List.findIdx_eq h1];exact⟨by simpa using h3,fun j hj=>by simpa using h4 j zo hj⟩
  rw[h2,this,if_pos h1];simp
theorem uB (l:List (Int × Int)) (p:Int × Int):gY l p≤l.length:=List.findIdx_le_length
theorem yV (l:List (Int × Int)) (p:Int × Int):l <+: fE l p:=by
 unfold fE;split
 ·exact List.prefix_refl _
 ·exact List.prefix_append _ _
theorem yX (l:List (Int × Int)) (p:Int × Int):(fE l p)[gY l p]?=some p:=by
 unfold fE
 split
 ·rename_i h;have:=List.findIdx_getElem (p:=fun q=>decide (p=q)) (xs:=l) (w:=h);rw[List.getElem?_eq_getElem h];exact congrArg some (of_decide_eq_true this).symm
 ·rename_i h;have:gY l p=l.length:=by have:=uB l p;omega
  rw[this];simp
theorem Ky {l:List (Int × Int)} {p:Int × Int} (h:¬ gY l p<l.length):p ∉ l:=fun hm=>h (List.findIdx_lt_length.2 ⟨p,hm,zS⟩)
theorem KC (g:Nat) (v:Value) (l:List (Int × Int)) (p:Int × Int) (w0 w:World) (m mk:Mem) (L:List Item) (hO:Own w0 m w mk (.row v 155 2 l.length (dV l)::.obj g 156 #[v]::L))
 (_:EM p) (hk:∀q∈l,EM q) (hlen:l.length≤100000000) :
 Calls Tryz.prog 190 #[.agg #[.int .i64 p.1,.int .i64 p.2],.pointer (some ⟨g,0,none⟩)] w fun e w'=>∃v',e=.returned (.int .i64 (gY l p)) ∧
  Own w0 m w' mk (.row v' 155 2 (fE l p).length (dV (fE l p))::.obj g 156 #[v']::L):=by
 refine aj fun R hR=>?_;obtain⟨va,vc,rfl⟩:=aO hO.row;have hO1:=hO.al' (.cells #[.int .i64 p.1,.int .i64 p.2] 155);have hs:=hO1.bD;have hI:=Bd _ l p _ _ hs.inn (rM hO1.row hk);rw[uQ] at hI;have hle:=uB l p;have hsz:(w.alloc (.cells #[.int .i64 p.1,.int .i64 p.2] 155)).heap.size=w.heap.size+1:=by simp
 have hpc0:(w.alloc (.cells #[.int .i64 p.1,.int .i64 p.2] 155)).heap[w.heap.size]?=some (.cells #[.int .i64 p.1,.int .i64 p.2] 155 (0,0)):=(bI.new _ _ _).get;have c1:=hO1.swap.obj.cell (i:=0) rfl;have c2:=hO1.swap.obj.lt;have hgw:=hO.swap.obj.lt;by_cases hf:gY l p<l.length
 ·rw[if_pos hf] at hI;have hpa:fE l p=l:=by unfold fE;rw[if_pos hf]
  generalize gY l p=idx at *
  have HI:=zh (zi hI (zi hO1 hpa));clear hI hO1 hs hpc0 hpa hsz hO
  go_enter Tryz.func190,Tryz.ntmps190
  go_wp2_with fail
  refine HI.out.1.mono ?_;rintro e w1 ⟨rfl,hb1⟩;have hO2:=HI.out.2.1.move hb1;go_wp2;refine hR.out _ _ ⟨.slice va l.length vc,rfl,?_⟩;rw[HI.out.2.2];exact hO2
 ·rw[if_neg hf] at hI;have hpa:fE l p=l ++ [p]:=by unfold fE;rw[if_neg hf]
  have hpn:gY l p=l.length:=zo;generalize hq:gY l p=idx at *
  have HI:=zh (zi hI (zi hO1 (zi hpa hpn)));clear hI hO1 hs hpa hsz hpn hq hO
  go_enter Tryz.func190,Tryz.ntmps190
  go_wp2_with fail
  refine HI.out.1.mono ?_;rintro e w1 ⟨rfl,hb1⟩;have hO2:=HI.out.2.1.move hb1;have p1:w1.cell? ⟨w.heap.size,0,none⟩=some (.int .i64 p.1):=iw hb1 zS zS;have p2:w1.cell? ⟨w.heap.size,1,none⟩=some (.int .i64 p.2):=iw hb1 zS zS;have psz:w.heap.size<w1.heap.size:=by have:=hb1.size;simp at this;omega
  have d1:=hO2.swap.obj.cell (i:=0) rfl;have d2:=hO2.swap.obj.frozen 0;have d3:=hO2.swap.obj.lt;clear hb1 c1 c2;have hO3:=hO2.al #[.int .i64 p.1,.int .i64 p.2] 155;have hnews:=hO3.obj.news rfl;clear hO2
  go_wp2_with (at_builtin;refine aC Q4 rfl (.tmp 12) (.tmp 14) rfl (.slice va l.length vc) l.length (dV l) rfl hO3.swap.row ⟨w1.heap.size,0,none⟩ 1 1 [.int .i64 p.1,.int .i64 p.2] rfl rfl hnews (by simp[Value.oneCell']) (by unfold maxLen;omega) zo ?_)
  intro xa xc w7 hown7 hgrow7 hrow7;have hO4:=(hO3.swap.app hown7 hgrow7 hrow7 zS).drop2.swap;have d1:=hO4.obj.cell (i:=0) rfl;have d2:=hO4.obj.frozen 0;have d3:=hO4.obj.lt;have hO5:=(hO4.set 0 (.slice xa (l.length+1) xc)).swap;have HO5:=zh hO5;clear hO5 hO4 hO3 hnews hown7 hgrow7 hrow7;go_wp2;refine hR.out _ _ ⟨.slice xa (l.length+1) xc,dL (by rw[HI.out.2.2.2]),?_⟩;rw[HI.out.2.2.1,pO,show (l ++ [p]).length=l.length+1 by simp];exact HO5.out
def jg (es:List Ed) (b:Nat):Prop:=∃e∈es,lN e b
theorem FI {es:List Ed} {j:Nat} (h:j<es.length) (b:Nat):jg (es.take (j+1)) b↔jg (es.take j) b∨lN es[j] b:=tq h b
def esOf (l:Table) (s:Int):List Ed:=if s<0 then [] else match l[s.toNat]? with
 | some st=>st.edges
 | none=>[]
theorem qL (l:Table) (s:Int) (b:Nat):bL l s b=bu (esOf l s) b:=by
 unfold bL esOf
 split
 ·rfl
 ·cases l[s.toNat]? <;> rfl
theorem Jz (v0:Value) (l:Table) (s:Int) (g:Nat) (P:Nat→Prop) (w0 w:World) (m mk:Mem) (L:List Item) (hO:Own w0 m w mk (.obj g 160 (marr P 256)::L)) (hl:aI mk v0 l)
 (hs1 : -1≤s) (hs2:s≤l.length) (_:l.length≤1000000) :
 Calls Tryz.prog 193 #[.agg #[v0],.int .i64 s,.pointer (some ⟨g,0,none⟩)] w fun e w'=>e=.returned (.tuple #[]) ∧
  Own w0 m w' mk (.obj g 160 (marr (fun b=>P b∨jg (esOf l s) b) 256)::L):=by
 obtain⟨a,c,rfl,h1,h2,h3⟩:=hl;unfold maxLen at h2;by_cases h0:s<0
 ·have he:esOf l s=[]:=by simp[esOf,h0]
  have hm:marr (fun b=>P b∨jg (esOf l s) b) 256=marr P 256:=fJ fun b _=>by rw[he];simp[jg]
  rw[hm];refine aj fun R hR=>?_;have HO:=zh (hO.al' (.cells #[.slice a l.length c] 27));clear hO he hm
  go_enter Tryz.func193,Tryz.ntmps193
  go_wp2;refine bodyPost_ret (v:=.tuple #[]) (by simp[results,Tryz.results193,go_sem]) rfl ?_;exact hR.out _ _ ⟨rfl,HO.out⟩
 obtain⟨s,rfl⟩:=Int.eq_ofNat_of_zero_le (by omega:0≤s);by_cases hs:s<l.length
 ·obtain⟨b,off,rfl,h4⟩:=h3 (by intro h;simp[h] at hs);obtain⟨-,ve,g2,ea,ec,rfl,g4,g5,g6⟩:=h4 s hs;have he:esOf l (s:Int)=(l[s]).edges:=by
   have h0':¬ ((s:Int)<0):=zo;simp[esOf,h0',hs]
  rw[he];generalize l[s].edges=es at *
  refine aj fun R hR=>?_;unfold maxLen at g5;have hcm:=Mem.av hO.inn g2;have hcl:=Mem.ak hO.inn g2;have HO:=zh (hO.al' (.cells #[.slice (some ⟨b,off,none⟩) l.length c] 27));clear hO h3 h4 he
  go_enter Tryz.func193,Tryz.ntmps193
  go_wp2;refine ay [2,22,23,24] (fun n vs w2=>∃(j:Nat),j≤es.length∧n=es.length - j∧vs=[.pointer (some ⟨g,0,none⟩),.slice ea es.length ec,.int .i64 es.length,.int .i64 j] ∧
   Own w0 m w2 mk (.obj g 160 (marr (fun b=>P b∨jg (es.take j) b) 256)::L)) ?_ ?_
  ·refine ⟨_,0,Nat.zero_le _,rfl,rfl,?_⟩;rw[fJ (P':=P) (by intro b _;simp[jg])];exact HO.out
  clear HO hcm;rintro X z n vs w2 hX - ⟨j,hj,rfl,rfl,hO⟩;simp[litL,lk];by_cases hlt:j<es.length
  ·obtain⟨b',off',rfl,h10⟩:=g6 (by intro h;simp[h] at hlt);obtain⟨e1,e2,e3,e4,e5,-⟩:=h10 j hlt;have d1:=Mem.av hO.inn e1;have d2:=Mem.av hO.inn e2;have d3:=Mem.av hO.inn e3;have hb1:=Mem.ak hO.inn e1;have Htk:=zh (fun b=>FI hlt b);generalize es[j]=e at *
   have hO2:=(hO.al #[.int .u8 e.lo,.int .u8 e.hi,.int .i64 e.to] 106);have HO2:=zh hO2;clear hO hO2;go_wp2;generalize w2.heap.size=E at *
   generalize w2.alloc (.cells #[.int .u8 e.lo,.int .u8 e.hi,.int .i64 e.to] 106)=w3 at *
   have x0:=HO2.out.obj.cell (i:=0) rfl;have x1:=HO2.out.obj.lt;have x2:=HO2.out.swap.obj.lt;have x3:=HO2.out.swap.obj.frozen e.lo;have x4:=HO2.out.swap.obj.cell (jT (i:=e.lo) zo);refine aA [2,7,22,23,24] (fun vs w'=>vs=[.pointer (some ⟨g,0,none⟩),.pointer (some ⟨E,0,none⟩),.slice (some ⟨b',off',none⟩) es.length ec,.int .i64 es.length,.int .i64 j]∧w'=(w3.setCell ⟨g,e.lo,none⟩ (.bool true)).drew) ?_ ?_
   ·intro Y hY
    go_region
    all_goals exact hY.out _ _ rfl ⟨rfl,rfl⟩
   rintro z1 vs w1' - ⟨rfl,rfl⟩;simp[litL,lk];have hO3:=(HO2.out.swap.set e.lo (.bool true)).dr;rw[kz] at hO3;have HO3:=zh hO3;clear hO3 HO2 d1 d2 d3 hb1 x0 x1 x2 x3 x4;generalize (w3.setCell ⟨g,e.lo,none⟩ (.bool true)).drew=w4 at *
   have x0:=HO3.out.swap.obj.cell (i:=1) rfl;have x1:=HO3.out.swap.obj.lt;by_cases hhi:e.hi<255
   ·have hdec:decide ((e.hi:Int)<255)=true:=decide_eq_true zo;go_wp2;have hwr:IntKind.u8.wrap ((e.hi:Int)+1)=(e.hi:Int)+1:=IntWalk.u8_in _ zo;have x2:=HO3.out.obj.lt;have x3:=HO3.out.obj.frozen (e.hi+1);have x4:=HO3.out.obj.cell (jT (i:=e.hi+1) zo);refine aA [2,22,23,24] (fun vs w'=>vs=[.pointer (some ⟨g,0,none⟩),.slice (some ⟨b',off',none⟩) es.length ec,.int .i64 es.length,.int .i64 j]∧w'=(w4.setCell ⟨g,e.hi+1,none⟩ (.bool true)).drew) ?_ ?_
    ·intro Y hY
     go_region
     all_goals exact hY.out _ _ rfl ⟨rfl,rfl⟩
    rintro z1 vs w1' - ⟨rfl,rfl⟩;simp[litL,lk];have hO4:=((HO3.out.set (e.hi+1) (.bool true)).dr).drop2;rw[kz] at hO4;have HO4:=zh hO4;clear hO4 x0 x1 x2 x3 x4 HO3;go_wp2;refine hX.out _ _ _ zo rfl ⟨j+1,zo,rfl,rfl,?_⟩;rw[fJ (P:=fun b=>P b∨jg (es.take (j+1)) b) (P':=fun b=>((P b∨jg (es.take j) b)∨b=e.lo)∨b=e.hi+1) (by
     intro b _;rw[Htk.out];unfold lN;constructor
     ·rintro (h | h | h | h)
      ·exact .inl (.inl (.inl h))
      ·exact .inl (.inl (.inr h))
      ·exact .inl (.inr h.symm)
      ·exact .inr h.symm
     ·rintro (((h | h) | h) | h)
      ·exact .inl h
      ·exact .inr (.inl h)
      ·exact .inr (.inr (.inl h.symm))
      ·exact .inr (.inr (.inr h.symm)))]
    exact HO4.out
   ·have hdec:decide ((e.hi:Int)<255)=false:=decide_eq_false zo;go_wp2;refine hX.out _ _ _ zo rfl ⟨j+1,zo,rfl,rfl,?_⟩;rw[fJ (P:=fun b=>P b∨jg (es.take (j+1)) b) (P':=fun b=>(P b∨jg (es.take j) b)∨b=e.lo) (by
     intro b hb;rw[Htk.out];unfold lN;constructor
     ·rintro (h | h | h | h)
      ·exact .inl (.inl h)
      ·exact .inl (.inr h)
      ·exact .inr h.symm
      ·omega
     ·rintro ((h | h) | h)
      ·exact .inl h
      ·exact .inr (.inl h)
      ·exact .inr (.inr (.inl h.symm)))]
    exact HO3.out.drop2
  ·obtain rfl:j=es.length:=zo;rw[List.take_length] at hO;have HO:=zh hO;clear hO;go_wp2;refine bodyPost_ret (v:=.tuple #[]) (by simp[results,Tryz.results193,go_sem]) rfl ?_;exact hR.out _ _ ⟨rfl,HO.out⟩
 ·have hsl:s=l.length:=zo;have he:esOf l (s:Int)=[]:=by
   have h0':¬ ((s:Int)<0):=zo;simp[esOf,hsl]
  have hm:marr (fun b=>P b∨jg (esOf l (s:Int)) b) 256=marr P 256:=fJ fun b _=>by rw[he];simp[jg]
  rw[hm];refine aj fun R hR=>?_;have HO:=zh (hO.al' (.cells #[.slice a l.length c] 27));clear hO he hm h3;subst hsl
  go_enter Tryz.func193,Tryz.ntmps193
  go_wp2;refine bodyPost_ret (v:=.tuple #[]) (by simp[results,Tryz.results193,go_sem]) rfl ?_;exact hR.out _ _ ⟨rfl,HO.out⟩
theorem Pb (l:Table) (s:Int) (h:(l.length:Int)≤s):bG l s=false:=by
 have:=iF l s [] h;exact this
theorem jQ (v:Value) (l:Table) (s:Int) (m:Mem) (w:World) (hm:m.inn w) (hl:aI m v l) (hs1 : -9223372036854775808≤s) (hs2:s≤9223372036854775807) :
 Calls Tryz.prog 192 #[.agg #[v],.int .i64 s] w fun e w'=>e=.returned (.bool (bG l s))∧Below w.heap.size w w':=by
 by_cases h:s<l.length
 ·exact xH v l s m w hm hl hs1 h
 ·rw[Pb l s zo];obtain⟨a,c,rfl,h1,h2,h3⟩:=hl;unfold maxLen at h2;clear h3;refine aj fun R hR=>?_
  go_enter Tryz.func192,Tryz.ntmps192
  go_wp2
  all_goals exact hR.out _ _ ⟨rfl,aP (Below.refl _ _) _⟩
theorem qB:∀(es:List Ed) (c:Nat),0<c→¬ jg es c→bu es c=bu es (c - 1)
 | [],_,_,_=>rfl
 | e::es,c,hc,h=>by
  have h1:¬ (e.lo=c∨e.hi+1=c):=fun hx=>h ⟨e,zS,hx⟩;have ih:=qB es c hc (fun ⟨x,hx,hm⟩=>h ⟨x,by simp[hx],hm⟩);simp only[bu];by_cases g:e.lo≤c∧c≤e.hi
  ·rw[if_pos g,if_pos ⟨zo,zo⟩]
  ·rw[if_neg g,if_neg zo,ih]
theorem EI {A B:Table} {p:Int × Int} {c:Nat} (hc:0<c) (h:¬ ((c=0∨jg (esOf A p.1) c)∨jg (esOf B p.2) c)):kV A B p c=kV A B p (c - 1):=by
 unfold kV;rw[qL,qL,qL,qL,qB _ c hc (fun x=>h (.inl (.inr x))),qB _ c hc (fun x=>h (.inr x))]
theorem LZ:(Tryz.zeroCells160).setIfInBounds 0 (.bool true)=marr (fun b=>b=0) 256:=by
 have:Tryz.zeroCells160=Array.replicate 256 (Value.bool false):=by kernel_rfl
 rw[this,oC,kz];exact fJ fun b _=>by simp
theorem Own.QL {w0 w:World} {m mk:Mem} {L:List Cl.Item} {g:Nat} {t:TypeId} {x y:Value} (h:Own w0 m w mk (.obj g t #[x,y]::L)):Own w0 m w mk (.row (.slice (some ⟨g,0,none⟩) 1 1) t 2 1 [x,y]::L):=by
 have hap:=List.pairwise_cons.1 h.apart;refine ⟨h.m0,h.below,h.ext,h.inn,?_,?_,.cons (fun b hb k h1 h2=>hap.1 b hb k h1 h2) hap.2⟩
 ·simp only[List.mem_cons,forall_eq_or_imp];refine ⟨⟨rfl,.inr ⟨g,1,#[x,y],rfl,Nat.zero_le _,h.obj.get,Nat.le_refl _,by simp[maxLen],rfl,rfl⟩⟩,fun it hi=>h.ok it (List.mem_cons_of_mem _ hi)⟩
 ·simp only[List.mem_cons,forall_eq_or_imp];exact⟨fun k hk=>h.fresh _ (List.mem_cons_self ..) k hk,fun it hi=>h.fresh it (List.mem_cons_of_mem _ hi)⟩
theorem Own.Sv {w0 w:World} {m mk:Mem} {L:List Cl.Item} {g:Nat} {t:TypeId} {arr:Array Value} (h:Own w0 m w mk (.obj g t arr::L)) (cs:Array Value):Own w0 m (w.setRow g cs) mk (.obj g t cs::L):=by
 have hg:w.grownBy (w.setRow g cs) (some g):=⟨rfl,rfl,rfl,zS,fun k _ hne=>setRow_other w g k cs (fun e=>hne (by rw[e]))⟩;have hf:=h.fresh _ (List.mem_cons_self ..) g rfl;have hap:=List.pairwise_cons.1 h.apart;refine ⟨h.m0,h.below.grown hg h.below.size (fun k hk=>by cases hk;exact hf.1),h.ext,Mem.uL h.inn hg (fun k hk=>by cases hk;exact hf.2),?_,?_,.cons (fun b hb k h1 h2=>hap.1 b hb k h1 h2) hap.2⟩
 ·simp only[List.mem_cons,forall_eq_or_imp];exact⟨⟨setRow_heap w g arr cs t (0,0) h.obj.get⟩,fun it hi=>Item.oq (h.ok it (List.mem_cons_of_mem _ hi)) fun k hk=>hg.block k (Item.lt (h.ok it (List.mem_cons_of_mem _ hi)) hk) (fun e=>hap.1 it hi g rfl (by cases e;exact hk))⟩
 ·simp only[List.mem_cons,forall_eq_or_imp];exact⟨fun k hk=>by simp only[Item.blk,Option.some.injEq] at hk;subst hk;exact hf,fun it hi=>h.fresh it (List.mem_cons_of_mem _ hi)⟩
theorem jE.add {A B:Table} {op:Bool→Bool→Bool} {st:Int × Int} {l:List (Int × Int)} {out:Table} (h:jE A B op st l out) {q:Int × Int}
 (hr:(-1≤q.1∧q.1≤A.length)∧(-1≤q.2∧q.2≤B.length)):jE A B op st (fE l q) out:=by
 by_cases hf:gY l q<l.length
 ·have:fE l q=l:=by unfold fE;rw[if_pos hf]
  rw[this];exact h
 ·have:fE l q=l ++ [q]:=by unfold fE;rw[if_neg hf]
  rw[this];exact h.grow (Ky hf) hr
theorem oL.ok {A B:Table} {p:Int × Int} {l:List (Int × Int)} {es:List Ed} {c:Nat} (h:oL A B p l es c) (hl:l.length≤100000000):(∀e∈es,edOk e)∧es.length≤256:=by
 have hw:=fV h.wf;have hle:=h.le;refine ⟨fun e he=>?_,?_⟩
 ·have h1:=h.hi e he;have h2:=hw e he;exact⟨zo,zo,zo,zo⟩
 ·have:=QF h.wf (fun e he=>by have h1:=h.hi e he;have h2:=hw e he;exact⟨zo,zo⟩) zo zo;omega
theorem sG (fi:Nat) (f:Bool→Bool→Bool) (hf:∀x y w,Calls Tryz.prog fi #[.bool x,.bool y] w fun e w'=>e=.returned (.bool (f x y))∧Below w.heap.size w w') (hff:f false false=false)
 (hcf:Hid (∀x y w,Sem.run Tryz.prog (callFunc fi #[.bool x,.bool y]) w=.ok (.enter fi #[.bool x,.bool y]) w))
 (v0 v1:Value) (A B:Table) (m:Mem) (w:World) (hm:m.inn w) (htab:TabM m) (hA:aI m v0 A) (hB:aI m v1 B) (hlen:(A.length+2)*(B.length+2)≤1000000) (hlA:A.length≤1000000) (hlB:B.length≤1000000) :
 Calls Tryz.prog 127 #[.agg #[v0],.agg #[v1],.func (.func fi) #[] #[]] w fun e w'=>∃r C,e=.returned (.agg #[r])∧Below w.heap.size w w'∧aI (m.grow w w') r C ∧
  dX (fun x=>f (Sem A x) (Sem B x)) C∧C.length≤(A.length+2)*(B.length+2)+1:=by
 have hO:=(((Own.start hm).al #[v0] 27).al #[v1] 27).al #[.slice none 0 0] 27;have hsz1:(w.alloc (.cells #[v0] 27)).heap.size=w.heap.size+1:=by simp
 have hsz2:((w.alloc (.cells #[v0] 27)).alloc (.cells #[v1] 27)).heap.size=w.heap.size+2:=by simp
 rw[hsz2,hsz1] at hO;have HO:=zh hO;have HA:=zh (fun w (hw:m.inn w)=>mi v0 A m w hw htab hA hlA);have HB:=zh (fun mk w (hw:mk.inn w) (hle:m.le mk)=>mi v1 B mk w hw (htab.le hle) (aK hle hB) hlB);clear hO hsz1 hsz2;refine aj fun R hR=>?_;obtain⟨va,vc,rfl,-⟩:=hA;obtain⟨vb,vd,rfl,-⟩:=hB
 go_enter Tryz.func127,Tryz.ntmps127
 go_wp2;refine aA [2,3,4,6] (fun vs w'=>∃(r1 r2:Value) (mk:Mem),vs=[.func (.func fi) #[] #[],.pointer (some ⟨w.heap.size,0,none⟩),.pointer (some ⟨w.heap.size+1,0,none⟩),.pointer (some ⟨w.heap.size+2,0,none⟩)] ∧
  Own w m w' mk [.obj (w.heap.size+2) 27 #[.slice none 0 0],.obj (w.heap.size+1) 27 #[r2],.obj w.heap.size 27 #[r1]]∧aI mk r1 (cZ A)∧aI mk r2 (cZ B)) ?_ ?_
 ·intro X hX;refine mJ (fun j w'=>(j≠4→j≠5→bI w' w.heap.size 27 #[.slice va A.length vc])∧(j≠5→bI w' (w.heap.size+1) 27 #[.slice vb B.length vd])) zk ?_;have hO:=HO.out.dr;refine mK 0 (fun w'=>bI w' w.heap.size 27 #[.slice va A.length vc]) rfl zk (fun _ _ _ h=>h) (fun j w' hj hd=>hd.1 (by rintro rfl;exact qK zk hj) (by rintro rfl;exact qK zk hj)) hO.third.obj (au rfl fun w' hS'=>by have q:=hS'.cell (i:=0) rfl;go_simp;rfl) ?_;refine mK 2 (fun w'=>bI w' (w.heap.size+1) 27 #[.slice vb B.length vd]) rfl zk (fun _ _ _ h=>h) (fun j w' hj hd=>hd.2 (by rintro rfl;exact qK zk hj)) hO.swap.obj (au rfl fun w' hS'=>by have q:=hS'.cell (i:=0) rfl;go_simp;rfl) ?_;refine bz 1 zk (aB rfl rfl (dI (by go_simp) (HA.out _ hO.inn) ?_));rintro e w1 ⟨r1,rfl,hb1,hr1⟩;have hO2:=hO.call hb1;have hle:=Mem.eO (w:=w1) hO.inn;refine ⟨_,rfl,.inr ⟨fun _ _=>hO2.third.obj,fun _=>hO2.swap.obj⟩,?_⟩;go_simp;refine bz 3 zk (aB rfl rfl (dI (by go_simp) (HB.out _ _ hO2.inn hle) ?_));rintro e w2 ⟨r2,rfl,hb2,hr2⟩;have hO3:=hO2.call hb2;have hle2:=Mem.eO (w:=w2) hO2.inn;refine ⟨_,rfl,.inr ⟨fun _ _=>hO3.third.obj,fun _=>hO3.swap.obj⟩,?_⟩;obtain⟨xa,xc,rfl⟩:∃xa xc,r1=.slice xa (cZ A).length xc:=by obtain⟨x,y,e,-⟩:=hr1;exact⟨x,y,e⟩
  obtain⟨ya,yc,rfl⟩:∃xa xc,r2=.slice xa (cZ B).length xc:=by obtain⟨x,y,e,-⟩:=hr2;exact⟨x,y,e⟩
  go_simp;have f1:=hO3.third.obj.frozen 0;have c1:=hO3.third.obj.cell (i:=0) rfl;have hO4:=hO3.third.set 0 (.slice xa (cZ A).length xc);have f3:=hO4.third.obj.frozen 0;have c3:=hO4.third.obj.cell (i:=0) rfl;have hO6:=(hO4.third.set 0 (.slice ya (cZ B).length yc)).third;refine bz 4 zk (aB rfl rfl (aS zg ⟨.inr ⟨fun h=>absurd rfl h,fun _=>hO4.third.obj⟩,?_⟩));refine bz 5 zk (aB rfl rfl (aS zg ⟨.inr ⟨fun _ h=>absurd rfl h,fun h=>absurd rfl h⟩,?_⟩));refine iA zk ?_ _;exact hX.out _ _ rfl ⟨_,_,_,rfl,hO6,aK hle2 hr1,hr2⟩
 rintro z vs w1 - ⟨r1,r2,mk,rfl,hO,hr1,hr2⟩;simp[litL,lk];clear HO HA HB;have hgA:=iV A;have hgB:=iV B;have hgAl:=iq A;have hgBl:=iq B;have hsemA:∀x,aJ (cZ A) 0 x=Sem A x:=fun x=>by
  unfold cZ Sem;by_cases h:Canon A
  ·simp[aN h]
  ·simp[aL h];exact dC x
 have hsemB:∀x,aJ (cZ B) 0 x=Sem B x:=fun x=>by
  unfold cZ Sem;by_cases h:Canon B
  ·simp[aN h]
  ·simp[aL h];exact dC x
 have HG:=zh (zi hgA (zi hgB (zi hsemA hsemB)));clear hgA hgB hsemA hsemB;have hmul:((cZ A).length+2)*((cZ B).length+2)≤(A.length+2)*(B.length+2):=Nat.mul_le_mul zo zo;generalize cZ A=A' at *
 generalize cZ B=B' at *
 have hO2:=(((hO.al #[.int .i64 0,.int .i64 0] 155).QL).al #[.slice (some ⟨w1.heap.size,0,none⟩) 1 1] 156).swap.eH 66 2;have hsz:(w1.alloc (.cells #[.int .i64 0,.int .i64 0] 155)).heap.size=w1.heap.size+1:=by simp
 rw[hsz] at hO2;have HO2:=zh (zi hO2 (BC (A:=A') (B:=B') (op:=f) (st:=(0,0)) (by simp only;omega)));have HR1:=zh (zi hr1 hr2);obtain⟨xa,xc,rfl,-⟩:=hr1;obtain⟨ya,yc,rfl,-⟩:=hr2;clear hO2 hO hsz;go_wp2;generalize w1.heap.size=N at *
 refine ay [2,3,4,6,7,8,9,10] (fun n vs wr=>∃(k:Nat) (l:List (Int × Int)) (out:Table) (vl vo:Value) (xs:List Value) (mk':Mem),n=1000001 - k ∧
  vs=[.func (.func fi) #[] #[],.pointer (some ⟨w.heap.size,0,none⟩),.pointer (some ⟨w.heap.size+1,0,none⟩),.pointer (some ⟨w.heap.size+2,0,none⟩),.pointer (some ⟨N+1,0,none⟩),.func (.func 190) #[] #[.pointer (some ⟨N+1,0,none⟩)],vo,.int .i64 k] ∧
  Own w m wr mk' [.row vo 66 2 k xs,.row vl 155 2 l.length (dV l),.obj (N+1) 156 #[vl],.obj (w.heap.size+2) 27 #[.slice none 0 0],.obj (w.heap.size+1) 27 #[.slice ya B'.length yc],.obj w.heap.size 27 #[.slice xa A'.length xc]] ∧
  jX mk' xs out∧mk.le mk'∧jE A' B' f (0,0) l out∧out.length=k) ?_ ?_
 ·refine ⟨_,0,[(0,0)],[],.slice (some ⟨N,0,none⟩) 1 1,.slice none 0 0,[],mk,rfl,?_,HO2.out.1,jX.nil _,Mem.le_refl _,HO2.out.2,rfl⟩
  rfl
 clear HO2;rintro X z n vs wr hX - ⟨k,l,out,vl,vo,xs,mk',rfl,rfl,hO,hrow,hmk,hPI,hol⟩;simp[litL,lk];obtain⟨vla,vlc,rfl⟩:=aO hO.swap.row;have hob:=hO.third.obj;have b1:=hob.cell (i:=0) rfl;have b2:=hob.lt;have hpl:=mG hPI.nodup hPI.rng;have hkl:=hPI.le;by_cases hlt:k<l.length
 ·obtain⟨vlb,rfl⟩:=jH hO.swap.row zo;have hpc:=lZ l k hlt;have r1:=aX hO.swap.row hpc.1;have r2:=aX hO.swap.row hpc.2;have rl:=(World.ownsRow.lt hO.swap.row _ rfl).2;have hlk:l[k]?=some l[k]:=by simp[hlt]
  have hrng:=hPI.rng l[k] (List.getElem_mem hlt);have HP:=zh (zi hPI (zi hol hlk));generalize l[k]=p at *
  obtain⟨pa,pb⟩:=p;simp only at r1 r2 hrng;have hO2:=hO.al #[.int .i64 pa,.int .i64 pb] 155;have HO2:=zh hO2;clear hO2 hO hPI hol hlk hpc hob;go_wp2;generalize hW2:wr.alloc (.cells #[.int .i64 pa,.int .i64 pb] 155)=w2 at *
  generalize wr.heap.size=P at *
  refine aA [2,3,4,6,7,8,9,10,11,12] (fun vs w'=>∃S:Nat,
   vs=[.func (.func fi) #[] #[],.pointer (some ⟨w.heap.size,0,none⟩),.pointer (some ⟨w.heap.size+1,0,none⟩),.pointer (some ⟨w.heap.size+2,0,none⟩),.pointer (some ⟨N+1,0,none⟩),.func (.func 190) #[] #[.pointer (some ⟨N+1,0,none⟩)],vo,.int .i64 k,.pointer (some ⟨P,0,none⟩),.pointer (some ⟨S,0,none⟩)] ∧
   Own w m w' mk' [.obj S 66 #[.bool (f (bG A' pa) (bG B' pb)),.slice none 0 0],.obj P 155 #[.int .i64 pa,.int .i64 pb],.row vo 66 2 k xs,.row (.slice (some ⟨vlb,0,none⟩) l.length vlc) 155 2 l.length (dV l),.obj (N+1) 156 #[.slice (some ⟨vlb,0,none⟩) l.length vlc],.obj (w.heap.size+2) 27 #[.slice none 0 0],.obj (w.heap.size+1) 27 #[.slice ya B'.length yc],.obj w.heap.size 27 #[.slice xa A'.length xc]]) ?_ ?_
  ·intro Y hY;refine fw (fun w'=>bI w' w.heap.size 27 #[.slice xa A'.length xc]∧bI w' (w.heap.size+1) 27 #[.slice ya B'.length yc]∧bI w' P 155 #[.int .i64 pa,.int .i64 pb]) 12 zk ?_;have hO:=HO2.out.dr;generalize w2.drew=w3 at *
   have mkS:∀{w':World} {L:List Cl.Item},Own w m w' mk' L→Item.obj w.heap.size 27 #[.slice xa A'.length xc]∈L→Item.obj (w.heap.size+1) 27 #[.slice ya B'.length yc]∈L→Item.obj P 155 #[.int .i64 pa,.int .i64 pb]∈L →
    (bI w' w.heap.size 27 #[.slice xa A'.length xc]∧bI w' (w.heap.size+1) 27 #[.slice ya B'.length yc]∧bI w' P 155 #[.int .i64 pa,.int .i64 pb]):=
    fun h h1 h2 h3=>⟨h.fI h1,h.fI h2,h.fI h3⟩
   have hS:=mkS hO zS zS zS;refine az 0 rfl zk (fun _ _ _ h=>h) hS (au rfl fun w' hS'=>by have q:=hS'.1.cell (i:=0) rfl;have q1:=hS'.2.1.cell (i:=0) rfl;have q2:=hS'.2.2.cell (i:=0) rfl;have q3:=hS'.2.2.cell (i:=1) rfl;go_simp;rfl) ?_;refine az 1 rfl zk (fun _ _ _ h=>h) hS (au rfl fun w' hS'=>by have q:=hS'.1.cell (i:=0) rfl;have q1:=hS'.2.1.cell (i:=0) rfl;have q2:=hS'.2.2.cell (i:=0) rfl;have q3:=hS'.2.2.cell (i:=1) rfl;go_simp;rfl) ?_;refine az 2 rfl zk (fun _ _ _ h=>h) hS (au rfl fun w' hS'=>by have q:=hS'.1.cell (i:=0) rfl;have q1:=hS'.2.1.cell (i:=0) rfl;have q2:=hS'.2.2.cell (i:=0) rfl;have q3:=hS'.2.2.cell (i:=1) rfl;go_simp;rfl) ?_;refine az 3 rfl zk (fun _ _ _ h=>h) hS (au rfl fun w' hS'=>by have q:=hS'.1.cell (i:=0) rfl;have q1:=hS'.2.1.cell (i:=0) rfl;have q2:=hS'.2.2.cell (i:=0) rfl;have q3:=hS'.2.2.cell (i:=1) rfl;go_simp;rfl) ?_;refine az 5 rfl zk (fun _ _ _ h=>h) hS (au rfl fun w' hS'=>by have q:=hS'.1.cell (i:=0) rfl;have q1:=hS'.2.1.cell (i:=0) rfl;have q2:=hS'.2.2.cell (i:=0) rfl;have q3:=hS'.2.2.cell (i:=1) rfl;go_simp;rfl) ?_;refine az 6 rfl zk (fun _ _ _ h=>h) hS (au rfl fun w' hS'=>by have q:=hS'.1.cell (i:=0) rfl;have q1:=hS'.2.1.cell (i:=0) rfl;have q2:=hS'.2.2.cell (i:=0) rfl;have q3:=hS'.2.2.cell (i:=1) rfl;go_simp;rfl) ?_;refine az 7 rfl zk (fun _ _ _ h=>h) hS (au rfl fun w' hS'=>by have q:=hS'.1.cell (i:=0) rfl;have q1:=hS'.2.1.cell (i:=0) rfl;have q2:=hS'.2.2.cell (i:=0) rfl;have q3:=hS'.2.2.cell (i:=1) rfl;go_simp;rfl) ?_;clear hS;refine qJ 4 11 zk ?_ ?_
   ·skip
    refine aB rfl rfl (dI (by go_simp) (jQ (.slice xa A'.length xc) A' pa mk _ (Mem.dK hmk hO.inn) HR1.out.1 zo zo) ?_);rintro e wF1 ⟨rfl,hb'⟩;have hF1:=hO.move hb';refine ⟨_,rfl,andS (mkS hF1 zS zS zS) fun _=>?_⟩;clear hO hb';go_simp;refine qJ 8 11 zk ?_ ?_
    ·skip
     refine aB rfl rfl (dI (by go_simp) (jQ (.slice ya B'.length yc) B' pb mk _ (Mem.dK hmk hF1.inn) HR1.out.2 zo zo) ?_);rintro e wF2 ⟨rfl,hb'⟩;have hF2:=hF1.move hb';refine ⟨_,rfl,andS (mkS hF2 zS zS zS) fun _=>?_⟩;clear hF1 hb';go_simp;refine qJ 9 11 zk ?_ ?_
     ·skip
      refine aB rfl rfl (dI (by have hc:=fun w'=>hcf.out (bG A' pa) (bG B' pb) w';go_simp;rfl) (hf (bG A' pa) (bG B' pb) _) ?_);rintro e wF3 ⟨rfl,hb'⟩;have hF3:=hF2.move hb';refine ⟨_,rfl,andS (mkS hF3 zS zS zS) fun _=>?_⟩;clear hF2 hb';go_simp;refine qJ 10 11 zk ?_ ?_
      ·skip
       refine aB rfl rfl (aD (by go_simp;first | exact⟨rfl,rfl⟩ | rfl) (andS (mkS hF3 zS zS zS) fun _=>?_));have hF4:=hF3;clear hF3;go_simp;refine aG 11 zk ?_;have hF5:=hF4.al #[.bool false,.slice none 0 0] 66;refine aB rfl rfl (aD (by go_simp;first | exact⟨rfl,rfl⟩ | rfl) (andS (mkS hF5 zS zS zS) fun _=>?_));clear hF4;go_simp;generalize wF3.alloc (.cells #[.bool false,.slice none 0 0] 66)=wF5 at *
       generalize wF3.heap.size=S at *
       have hE0:=hF5.obj.frozen 0;have hE1:=hF5.obj.frozen 1;have hE2:=hF5.obj.cell (i:=0) rfl;have hE3:=hF5.obj.cell (i:=1) rfl;have hE4:=hF5.obj.lt;have hZ:=(hF5.set 0 (.bool (f (bG A' pa) (bG B' pb)))).set 1 (.slice none 0 0);refine aG 12 zk (aB rfl rfl (aS zg (ji rfl ?_)));refine dS zk ?_ _;exact hY.out _ _ rfl ⟨S,rfl,hZ⟩
      ·skip
       have hF6:=hF3.al #[.bool false,.slice none 0 0] 66;refine aB rfl rfl (aD (by go_simp;first | exact⟨rfl,rfl⟩ | rfl) (andS (mkS hF6 zS zS zS) fun _=>?_));clear hF3;go_simp;generalize wF3.alloc (.cells #[.bool false,.slice none 0 0] 66)=wF6 at *
       generalize wF3.heap.size=S at *
       refine aG 10 zk ?_;refine aB rfl rfl (aD (by go_simp;first | exact⟨rfl,rfl⟩ | rfl) (andS (mkS hF6 zS zS zS) fun _=>?_));have hF7:=hF6;clear hF6;go_simp;have hE0:=hF7.obj.frozen 0;have hE1:=hF7.obj.frozen 1;have hE2:=hF7.obj.cell (i:=0) rfl;have hE3:=hF7.obj.cell (i:=1) rfl;have hE4:=hF7.obj.lt;have hZ:=(hF7.set 0 (.bool (f (bG A' pa) (bG B' pb)))).set 1 (.slice none 0 0);refine aG 12 zk (aB rfl rfl (aS zg (ji rfl ?_)));refine dS zk ?_ _;exact hY.out _ _ rfl ⟨S,rfl,hZ⟩
     ·skip
      have hF8:=hF2.al #[.bool false,.slice none 0 0] 66;refine aB rfl rfl (aD (by go_simp;first | exact⟨rfl,rfl⟩ | rfl) (andS (mkS hF8 zS zS zS) fun _=>?_));clear hF2;go_simp;generalize wF2.alloc (.cells #[.bool false,.slice none 0 0] 66)=wF8 at *
      generalize wF2.heap.size=S at *
      refine aG 9 zk ?_;refine aB rfl rfl (dI (by have hc:=fun w'=>hcf.out (bG A' pa) (bG B' pb) w';go_simp;rfl) (hf (bG A' pa) (bG B' pb) _) ?_);rintro e wF9 ⟨rfl,hb'⟩;have hF9:=hF8.move hb';refine ⟨_,rfl,andS (mkS hF9 zS zS zS) fun _=>?_⟩;clear hF8 hb';go_simp;refine aG 10 zk ?_;refine aB rfl rfl (aD (by go_simp;first | exact⟨rfl,rfl⟩ | rfl) (andS (mkS hF9 zS zS zS) fun _=>?_));have hF10:=hF9;clear hF9;go_simp;have hE0:=hF10.obj.frozen 0;have hE1:=hF10.obj.frozen 1;have hE2:=hF10.obj.cell (i:=0) rfl;have hE3:=hF10.obj.cell (i:=1) rfl;have hE4:=hF10.obj.lt;have hZ:=(hF10.set 0 (.bool (f (bG A' pa) (bG B' pb)))).set 1 (.slice none 0 0);refine aG 12 zk (aB rfl rfl (aS zg (ji rfl ?_)));refine dS zk ?_ _;exact hY.out _ _ rfl ⟨S,rfl,hZ⟩
    ·skip
     have hF11:=hF1.al #[.bool false,.slice none 0 0] 66;refine aB rfl rfl (aD (by go_simp;first | exact⟨rfl,rfl⟩ | rfl) (andS (mkS hF11 zS zS zS) fun _=>?_));clear hF1;go_simp;generalize wF1.alloc (.cells #[.bool false,.slice none 0 0] 66)=wF11 at *
     generalize wF1.heap.size=S at *
     refine aG 8 zk ?_;refine aB rfl rfl (dI (by go_simp) (jQ (.slice ya B'.length yc) B' pb mk _ (Mem.dK hmk hF11.inn) HR1.out.2 zo zo) ?_);rintro e wF12 ⟨rfl,hb'⟩;have hF12:=hF11.move hb';refine ⟨_,rfl,andS (mkS hF12 zS zS zS) fun _=>?_⟩;clear hF11 hb';go_simp;refine aG 9 zk ?_;refine aB rfl rfl (dI (by have hc:=fun w'=>hcf.out (bG A' pa) (bG B' pb) w';go_simp;rfl) (hf (bG A' pa) (bG B' pb) _) ?_);rintro e wF13 ⟨rfl,hb'⟩;have hF13:=hF12.move hb';refine ⟨_,rfl,andS (mkS hF13 zS zS zS) fun _=>?_⟩;clear hF12 hb';go_simp;refine aG 10 zk ?_;refine aB rfl rfl (aD (by go_simp;first | exact⟨rfl,rfl⟩ | rfl) (andS (mkS hF13 zS zS zS) fun _=>?_));have hF14:=hF13;clear hF13;go_simp;have hE0:=hF14.obj.frozen 0;have hE1:=hF14.obj.frozen 1;have hE2:=hF14.obj.cell (i:=0) rfl;have hE3:=hF14.obj.cell (i:=1) rfl;have hE4:=hF14.obj.lt;have hZ:=(hF14.set 0 (.bool (f (bG A' pa) (bG B' pb)))).set 1 (.slice none 0 0);refine aG 12 zk (aB rfl rfl (aS zg (ji rfl ?_)));refine dS zk ?_ _;exact hY.out _ _ rfl ⟨S,rfl,hZ⟩
   ·skip
    have hF15:=hO.al #[.bool false,.slice none 0 0] 66;refine aB rfl rfl (aD (by go_simp;first | exact⟨rfl,rfl⟩ | rfl) (andS (mkS hF15 zS zS zS) fun _=>?_));clear hO;go_simp;generalize w3.alloc (.cells #[.bool false,.slice none 0 0] 66)=wF15 at *
    generalize w3.heap.size=S at *
    refine aG 4 zk ?_;refine aB rfl rfl (dI (by go_simp) (jQ (.slice xa A'.length xc) A' pa mk _ (Mem.dK hmk hF15.inn) HR1.out.1 zo zo) ?_);rintro e wF16 ⟨rfl,hb'⟩;have hF16:=hF15.move hb';refine ⟨_,rfl,andS (mkS hF16 zS zS zS) fun _=>?_⟩;clear hF15 hb';go_simp;refine aG 8 zk ?_;refine aB rfl rfl (dI (by go_simp) (jQ (.slice ya B'.length yc) B' pb mk _ (Mem.dK hmk hF16.inn) HR1.out.2 zo zo) ?_);rintro e wF17 ⟨rfl,hb'⟩;have hF17:=hF16.move hb';refine ⟨_,rfl,andS (mkS hF17 zS zS zS) fun _=>?_⟩;clear hF16 hb';go_simp;refine aG 9 zk ?_;refine aB rfl rfl (dI (by have hc:=fun w'=>hcf.out (bG A' pa) (bG B' pb) w';go_simp;rfl) (hf (bG A' pa) (bG B' pb) _) ?_);rintro e wF18 ⟨rfl,hb'⟩;have hF18:=hF17.move hb';refine ⟨_,rfl,andS (mkS hF18 zS zS zS) fun _=>?_⟩;clear hF17 hb';go_simp;refine aG 10 zk ?_;refine aB rfl rfl (aD (by go_simp;first | exact⟨rfl,rfl⟩ | rfl) (andS (mkS hF18 zS zS zS) fun _=>?_));have hF19:=hF18;clear hF18;go_simp;have hE0:=hF19.obj.frozen 0;have hE1:=hF19.obj.frozen 1;have hE2:=hF19.obj.cell (i:=0) rfl;have hE3:=hF19.obj.cell (i:=1) rfl;have hE4:=hF19.obj.lt;have hZ:=(hF19.set 0 (.bool (f (bG A' pa) (bG B' pb)))).set 1 (.slice none 0 0);refine aG 12 zk (aB rfl rfl (aS zg (ji rfl ?_)));refine dS zk ?_ _;exact hY.out _ _ rfl ⟨S,rfl,hZ⟩
  rintro z1 vs w3 - ⟨S,rfl,hO⟩;simp[litL,lk];have hO2:=hO.al Tryz.zeroCells160 160;have hg2:=hO2.obj.get;have hO3:=hO2.Sv (Tryz.zeroCells160.setIfInBounds 0 (.bool true));have hO4:=hO3;rw[LZ] at hO4;have HC1:=zh (Jz (.slice xa A'.length xc) A' pa w3.heap.size (fun b=>b=0) w _ m mk' _ hO4 (aK hmk HR1.out.1) zo zo zo);rw[← LZ] at HC1;have HC2:=zh (fun L P w' (h:Own w m w' mk' (.obj w3.heap.size 160 (marr P 256)::L))=>Jz (.slice ya B'.length yc) B' pb w3.heap.size P w w' m mk' L h (aK hmk HR1.out.2) zo zo zo);have HO3:=zh hO3;have q1:=(hO3.fI (g:=w.heap.size) (t:=27) (arr:=#[.slice xa A'.length xc]) zS).cell (i:=0) rfl;have q1l:=(hO3.fI (g:=w.heap.size) (t:=27) (arr:=#[.slice xa A'.length xc]) zS).lt;have q3:=(hO3.fI (g:=P) (t:=155) (arr:=#[.int .i64 pa,.int .i64 pb]) zS).cell (i:=0) rfl;have q3l:=(hO3.fI (g:=P) (t:=155) (arr:=#[.int .i64 pa,.int .i64 pb]) zS).lt;clear hO hO3 hO4 HO2 hO2
  go_wp2_with (refine wpList_store_row rfl 160 (.tmp 13) (.tmp 45) rfl w3.heap.size (Tryz.zeroCells160.setIfInBounds 0 (.bool true)) rfl rfl 160 Tryz.zeroCells160 hg2 zk zS zk ?_)
  clear hg2;refine HC1.out.mono ?_;rintro e w4 ⟨rfl,hO⟩;have q1:=(hO.fI (g:=w.heap.size+1) (t:=27) (arr:=#[.slice ya B'.length yc]) zS).cell (i:=0) rfl;have q1l:=(hO.fI (g:=w.heap.size+1) (t:=27) (arr:=#[.slice ya B'.length yc]) zS).lt;have q3:=(hO.fI (g:=P) (t:=155) (arr:=#[.int .i64 pa,.int .i64 pb]) zS).cell (i:=1) rfl;have q3l:=(hO.fI (g:=P) (t:=155) (arr:=#[.int .i64 pa,.int .i64 pb]) zS).lt;have HC3:=zh (HC2.out _ _ w4 hO);clear HO3 HC1 HC2 hO
  go_wp2_with fail
  refine HC3.out.mono ?_;rintro e w5 ⟨rfl,hO⟩;clear HC3 q1 q1l q3 q3l;generalize w3.heap.size=D at *
  obtain⟨PM,hPM⟩:∃PM:Nat→Prop,PM=fun b=>(b=0∨jg (esOf A' pa) b)∨jg (esOf B' pb) b:=⟨_,rfl⟩;rw[← hPM] at hO;have HPM:=zh hPM;have HO:=zh ((hO.perm (List.Perm.refl _)).eH 106 3);clear hPM hO;go_wp2;refine ay [2,3,4,6,7,8,9,10,11,12,13,54] (fun n vs w'=>∃(c:Nat) (l':List (Int × Int)) (vl' ve:Value) (es:List Ed),c≤256∧n=256 - c ∧
   vs=[.func (.func fi) #[] #[],.pointer (some ⟨w.heap.size,0,none⟩),.pointer (some ⟨w.heap.size+1,0,none⟩),.pointer (some ⟨w.heap.size+2,0,none⟩),.pointer (some ⟨N+1,0,none⟩),.func (.func 190) #[] #[.pointer (some ⟨N+1,0,none⟩)],vo,.int .i64 k,.pointer (some ⟨P,0,none⟩),.pointer (some ⟨S,0,none⟩),.pointer (some ⟨D,0,none⟩),.int .i64 c] ∧
   Own w m w' mk' [.row ve 106 3 es.length (dh es),.obj D 160 (marr PM 256),.obj S 66 #[.bool (f (bG A' pa) (bG B' pb)),ve],.obj P 155 #[.int .i64 pa,.int .i64 pb],.row vo 66 2 k xs,.row vl' 155 2 l'.length (dV l'),.obj (N+1) 156 #[vl'],.obj (w.heap.size+2) 27 #[.slice none 0 0],.obj (w.heap.size+1) 27 #[.slice ya B'.length yc],.obj w.heap.size 27 #[.slice xa A'.length xc]] ∧
   oL A' B' (pa,pb) l' es c∧jE A' B' f (0,0) l' out∧l'[k]?=some (pa,pb)) ?_ ?_
  ·exact⟨_,0,l,.slice (some ⟨vlb,0,none⟩) l.length vlc,.slice none 0 0,[],zo,rfl,rfl,HO.out,oL.start _ _ _ _,HP.out.1,HP.out.2.2⟩
  clear HO;rintro Y z2 n vs w6 hY - ⟨c,l',vl',ve,es,hc,rfl,rfl,hO,hcov,hPI,hlk⟩;simp[litL,lk];obtain⟨vla2,vlc2,rfl⟩:=aO (hO.lW (v:=vl') (t:=155) (size:=2) (n:=l'.length) (xs:=dV l') zS);obtain⟨vea,vec,rfl⟩:=aO hO.row;have hpl2:=mG hPI.nodup hPI.rng;have hok:=hcov.ok zo;have hel:=hok.2;have HC:=zh (zi hcov (zi hPI (zi hlk hok.1)));clear hcov hlk hok hPI;by_cases hlt2:c<256
  ·have m1:=(hO.fI (g:=D) (t:=160) (arr:=marr PM 256) zS).cell (jT hlt2);have m2:=(hO.fI (g:=D) (t:=160) (arr:=marr PM 256) zS).lt;obtain⟨bm,hbm⟩:∃b,tf (PM c)=b:=⟨_,rfl⟩;rw[hbm] at m1;have Hbm:=zh hbm;clear hbm
   go_upto_if 59 with (fail)
   refine aA [2,3,4,6,7,8,9,10,11,12,13,54,14] (fun vs w'=>∃(l2:List (Int × Int)) (vl2 ve2:Value) (fs:List Ed) (e:Ed),vs=[.func (.func fi) #[] #[],.pointer (some ⟨w.heap.size,0,none⟩),.pointer (some ⟨w.heap.size+1,0,none⟩),.pointer (some ⟨w.heap.size+2,0,none⟩),.pointer (some ⟨N+1,0,none⟩),.func (.func 190) #[] #[.pointer (some ⟨N+1,0,none⟩)],vo,.int .i64 k,.pointer (some ⟨P,0,none⟩),.pointer (some ⟨S,0,none⟩),.pointer (some ⟨D,0,none⟩),.int .i64 c,.int .i64 c] ∧
    Own w m w' mk' [.row ve2 106 3 (fs.length+1) (dh (fs ++ [e])),.obj D 160 (marr PM 256),.obj S 66 #[.bool (f (bG A' pa) (bG B' pb)),ve2],.obj P 155 #[.int .i64 pa,.int .i64 pb],.row vo 66 2 k xs,.row vl2 155 2 l2.length (dV l2),.obj (N+1) 156 #[vl2],.obj (w.heap.size+2) 27 #[.slice none 0 0],.obj (w.heap.size+1) 27 #[.slice ya B'.length yc],.obj w.heap.size 27 #[.slice xa A'.length xc]] ∧
    oL A' B' (pa,pb) l2 (fs ++ [⟨e.lo,c,e.to⟩]) (c+1)∧jE A' B' f (0,0) l2 out∧l2[k]?=some (pa,pb)) ?_ ?_
   ·intro V hV
    cases bm with
    | false=>
     have hnm:¬ PM c:=fun h=>by have:=Hbm.out;rw[aN h] at this;cases this
     have hun:0<c∧kV A' B' (pa,pb) c=kV A' B' (pa,pb) (c - 1):=by
      rw[HPM.out] at hnm;have h0:0<c:=by
       apply Classical.byContradiction;intro h;exact hnm (.inl (.inl zo))
      exact⟨h0,EI (p:=(pa,pb)) h0 hnm⟩
     have hes:∃fs e,es=fs ++ [e]∧e.hi+1=c:=by
      rcases HC.out.1.last with ⟨h,-⟩ | h
      ·omega
      ·exact h
     obtain⟨fs,e,rfl,he⟩:=hes;have hcw:=HC.out.1.widen he hlt2 hun.2;have Hfin:=zh (zi hcw hO);clear hcw hO hnm hun he;go_wp2;refine hV.out _ _ rfl ⟨l',.slice vla2 l'.length vlc2,.slice vea (fs ++ [e]).length vec,fs,e,rfl,?_,Hfin.out.1,HC.out.2.1,HC.out.2.2.1⟩;have:=Hfin.out.2
     simpa using this
    | true=>
     have hwu:IntKind.u8.wrap (c:Int)=(c:Int):=IntWalk.u8_in _ zo;have hO:=hO.dr;have HO:=zh hO;go_wp2;have hSt:∀{w':World} {L:List Cl.Item},Own w m w' mk' L→Item.obj w.heap.size 27 #[.slice xa A'.length xc]∈L→Item.obj (w.heap.size+1) 27 #[.slice ya B'.length yc]∈L→Item.obj P 155 #[.int .i64 pa,.int .i64 pb]∈L→Item.obj S 66 #[.bool (f (bG A' pa) (bG B' pb)),.slice vea es.length vec]∈L →
      (bI w' w.heap.size 27 #[.slice xa A'.length xc]∧bI w' (w.heap.size+1) 27 #[.slice ya B'.length yc]∧bI w' P 155 #[.int .i64 pa,.int .i64 pb]∧bI w' S 66 #[.bool (f (bG A' pa) (bG B' pb)),.slice vea es.length vec]):=
      fun h h1 h2 h3 h4=>⟨h.fI h1,h.fI h2,h.fI h3,h.fI h4⟩
     refine fw (fun w'=>bI w' w.heap.size 27 #[.slice xa A'.length xc]∧bI w' (w.heap.size+1) 27 #[.slice ya B'.length yc]∧bI w' P 155 #[.int .i64 pa,.int .i64 pb]∧bI w' S 66 #[.bool (f (bG A' pa) (bG B' pb)),.slice vea es.length vec]) 23 zk ?_;have hS:=hSt hO zS zS zS zS;refine az 0 rfl zk (fun _ _ _ h=>h) hS (au rfl fun w' hS'=>by have q:=hS'.1.cell (i:=0) rfl;have q1:=hS'.2.1.cell (i:=0) rfl;have q2:=hS'.2.2.1.cell (i:=0) rfl;have q3:=hS'.2.2.1.cell (i:=1) rfl;have q4:=hS'.2.2.2.cell (i:=1) rfl;go_simp;rfl) ?_;refine az 1 rfl zk (fun _ _ _ h=>h) hS (au rfl fun w' hS'=>by have q:=hS'.1.cell (i:=0) rfl;have q1:=hS'.2.1.cell (i:=0) rfl;have q2:=hS'.2.2.1.cell (i:=0) rfl;have q3:=hS'.2.2.1.cell (i:=1) rfl;have q4:=hS'.2.2.2.cell (i:=1) rfl;go_simp;rfl) ?_;refine az 2 rfl zk (fun _ _ _ h=>h) hS (au rfl fun w' hS'=>by have q:=hS'.1.cell (i:=0) rfl;have q1:=hS'.2.1.cell (i:=0) rfl;have q2:=hS'.2.2.1.cell (i:=0) rfl;have q3:=hS'.2.2.1.cell (i:=1) rfl;have q4:=hS'.2.2.2.cell (i:=1) rfl;go_simp;rfl) ?_;refine az 3 rfl zk (fun _ _ _ h=>h) hS (au rfl fun w' hS'=>by have q:=hS'.1.cell (i:=0) rfl;have q1:=hS'.2.1.cell (i:=0) rfl;have q2:=hS'.2.2.1.cell (i:=0) rfl;have q3:=hS'.2.2.1.cell (i:=1) rfl;have q4:=hS'.2.2.2.cell (i:=1) rfl;go_simp;rfl) ?_;refine az 4 rfl zk (fun _ _ _ h=>h) hS (au rfl fun w' hS'=>by have q:=hS'.1.cell (i:=0) rfl;have q1:=hS'.2.1.cell (i:=0) rfl;have q2:=hS'.2.2.1.cell (i:=0) rfl;have q3:=hS'.2.2.1.cell (i:=1) rfl;have q4:=hS'.2.2.2.cell (i:=1) rfl;go_simp;rfl) ?_;refine az 5 rfl zk (fun _ _ _ h=>h) hS (au rfl fun w' hS'=>by have q:=hS'.1.cell (i:=0) rfl;have q1:=hS'.2.1.cell (i:=0) rfl;have q2:=hS'.2.2.1.cell (i:=0) rfl;have q3:=hS'.2.2.1.cell (i:=1) rfl;have q4:=hS'.2.2.2.cell (i:=1) rfl;go_simp;rfl) ?_;refine az 6 rfl zk (fun _ _ _ h=>h) hS (au rfl fun w' hS'=>by have q:=hS'.1.cell (i:=0) rfl;have q1:=hS'.2.1.cell (i:=0) rfl;have q2:=hS'.2.2.1.cell (i:=0) rfl;have q3:=hS'.2.2.1.cell (i:=1) rfl;have q4:=hS'.2.2.2.cell (i:=1) rfl;go_simp;rfl) ?_;refine az 7 rfl zk (fun _ _ _ h=>h) hS (au rfl fun w' hS'=>by have q:=hS'.1.cell (i:=0) rfl;have q1:=hS'.2.1.cell (i:=0) rfl;have q2:=hS'.2.2.1.cell (i:=0) rfl;have q3:=hS'.2.2.1.cell (i:=1) rfl;have q4:=hS'.2.2.2.cell (i:=1) rfl;go_simp;rfl) ?_;refine az 8 rfl zk (fun _ _ _ h=>h) hS (au rfl fun w' hS'=>by have q:=hS'.1.cell (i:=0) rfl;have q1:=hS'.2.1.cell (i:=0) rfl;have q2:=hS'.2.2.1.cell (i:=0) rfl;have q3:=hS'.2.2.1.cell (i:=1) rfl;have q4:=hS'.2.2.2.cell (i:=1) rfl;go_simp;rfl) ?_;refine az 9 rfl zk (fun _ _ _ h=>h) hS (au rfl fun w' hS'=>by have q:=hS'.1.cell (i:=0) rfl;have q1:=hS'.2.1.cell (i:=0) rfl;have q2:=hS'.2.2.1.cell (i:=0) rfl;have q3:=hS'.2.2.1.cell (i:=1) rfl;have q4:=hS'.2.2.2.cell (i:=1) rfl;go_simp;rfl) ?_;refine az 11 rfl zk (fun _ _ _ h=>h) hS (au rfl fun w' hS'=>by have q:=hS'.1.cell (i:=0) rfl;have q1:=hS'.2.1.cell (i:=0) rfl;have q2:=hS'.2.2.1.cell (i:=0) rfl;have q3:=hS'.2.2.1.cell (i:=1) rfl;have q4:=hS'.2.2.2.cell (i:=1) rfl;go_simp;rfl) ?_;refine az 12 rfl zk (fun _ _ _ h=>h) hS (au rfl fun w' hS'=>by have q:=hS'.1.cell (i:=0) rfl;have q1:=hS'.2.1.cell (i:=0) rfl;have q2:=hS'.2.2.1.cell (i:=0) rfl;have q3:=hS'.2.2.1.cell (i:=1) rfl;have q4:=hS'.2.2.2.cell (i:=1) rfl;go_simp;rfl) ?_;refine az 13 rfl zk (fun _ _ _ h=>h) hS (au rfl fun w' hS'=>by have q:=hS'.1.cell (i:=0) rfl;have q1:=hS'.2.1.cell (i:=0) rfl;have q2:=hS'.2.2.1.cell (i:=0) rfl;have q3:=hS'.2.2.1.cell (i:=1) rfl;have q4:=hS'.2.2.2.cell (i:=1) rfl;go_simp;rfl) ?_;refine az 14 rfl zk (fun _ _ _ h=>h) hS (au rfl fun w' hS'=>by have q:=hS'.1.cell (i:=0) rfl;have q1:=hS'.2.1.cell (i:=0) rfl;have q2:=hS'.2.2.1.cell (i:=0) rfl;have q3:=hS'.2.2.1.cell (i:=1) rfl;have q4:=hS'.2.2.2.cell (i:=1) rfl;go_simp;rfl) ?_;refine az 15 rfl zk (fun _ _ _ h=>h) hS (au rfl fun w' hS'=>by have q:=hS'.1.cell (i:=0) rfl;have q1:=hS'.2.1.cell (i:=0) rfl;have q2:=hS'.2.2.1.cell (i:=0) rfl;have q3:=hS'.2.2.1.cell (i:=1) rfl;have q4:=hS'.2.2.2.cell (i:=1) rfl;go_simp;rfl) ?_;refine aG 10 zk (aB rfl rfl (dI (by go_simp) (IX (.slice xa A'.length xc) A' pa c mk _ (Mem.dK hmk hO.inn) HR1.out.1 zo zo) ?_));rintro e w7 ⟨rfl,hb7⟩;have hO2:=hO.move hb7;refine ⟨_,rfl,andS (hSt hO2 zS zS zS zS) fun _=>?_⟩;go_simp;refine aG 16 zk (aB rfl rfl (dI (by go_simp) (IX (.slice ya B'.length yc) B' pb c mk _ (Mem.dK hmk hO2.inn) HR1.out.2 zo zo) ?_));rintro e w8 ⟨rfl,hb8⟩;have hO3:=hO2.move hb8;refine ⟨_,rfl,andS (hSt hO3 zS zS zS zS) fun _=>?_⟩;go_simp;have hrA:=fQ HG.out.1.wf pa c;have hrB:=fQ HG.out.2.1.wf pb c;have hps:kV A' B' (pa,pb) c=(bL A' pa c,bL B' pb c):=rfl;have hpr:(-1≤(kV A' B' (pa,pb) c).1∧(kV A' B' (pa,pb) c).1≤A'.length)∧(-1≤(kV A' B' (pa,pb) c).2∧(kV A' B' (pa,pb) c).2≤B'.length):=by
      rw[hps];simp only;omega
     have hPI2:=HC.out.2.1.add hpr;have hpk:∀q∈l',EM q:=fun q hq=>by
      have:=HC.out.2.1.rng q hq;exact⟨zo,zo,zo,zo⟩
     have hgt:=yX l' (kV A' B' (pa,pb) c);have hpre:=yV l' (kV A' B' (pa,pb) c);have hcs:=(HC.out.1.mono hpre).seg (h:=c) (Nat.le_refl _) hlt2 hgt (fun b h1 h2=>by rw[show b=c by omega]);have hlk2:(fE l' (kV A' B' (pa,pb) c))[k]?=some (pa,pb):=by
      obtain⟨x,hx⟩:=hpre;rw[← hx,List.getElem?_append_left (List.getElem?_eq_some_iff.1 HC.out.2.2.1).1];exact HC.out.2.2.1
     have hpno:=uB l' (kV A' B' (pa,pb) c);refine aG 17 zk (aB rfl rfl (aD (by go_simp;first | exact⟨rfl,rfl⟩ | rfl) (andS (hSt hO3 zS zS zS zS) fun _=>?_)));go_simp;have hq:=(hO3.pull (l₁:=[_,_,_,_,_,_])).pull (l₁:=[_,_,_,_,_,_]);refine aG 18 zk (aB rfl rfl (dI (by go_simp) (KC (N+1) (.slice vla2 l'.length vlc2) l' (kV A' B' (pa,pb) c) w w8 m mk' _ hq ⟨zo,zo,zo,zo⟩ hpk zo) ?_));rintro e w9 ⟨vl2,rfl,hq2⟩;have hO4:=(hq2.ym (l₁:=[_,_,_,_,_,_])).ym (l₁:=[_,_,_,_,_,_]);simp only[List.cons_append,List.nil_append] at hO4;refine ⟨_,rfl,andS (hSt hO4 zS zS zS zS) fun _=>?_⟩;generalize gY l' (kV A' B' (pa,pb) c)=t at *
     generalize fE l' (kV A' B' (pa,pb) c)=l2 at *
     clear hq hq2 hO3 hO2 hb7 hb8;go_simp;refine aG 19 zk (aB rfl rfl (aD (by go_simp;first | exact⟨rfl,rfl⟩ | rfl) (andS (hSt hO4 zS zS zS zS) fun _=>?_)));go_simp;have hO6:=hO4.al #[.int .u8 c,.int .u8 0,.int .i64 t] 106;refine aG 20 zk (aB rfl rfl (aD (by go_simp;first | exact⟨rfl,rfl⟩ | rfl) (andS (hSt hO6 zS zS zS zS) fun _=>?_)));go_simp;refine aG 21 zk (aB rfl rfl (eB mO (.tmp 61) (.tmp 80) rfl (.slice vea es.length vec) es.length (dh es) rfl hO6.swap.row ⟨w9.heap.size,0,none⟩ 1 1 [.int .u8 c,.int .u8 0,.int .i64 t] rfl rfl (hO6.obj.news rfl) (by simp[Value.oneCell']) (by unfold maxLen;omega) zo (fun na' nc' w10 hown7 hgrow7 hrow7=>?_)));have hO7:=(hO6.swap.app hown7 hgrow7 hrow7 (Nat.le_refl _)).drop2;refine andS (hSt hO7 zS zS zS zS) fun hS3=>?_;go_simp;refine aG 22 zk (aB rfl rfl (aD (by go_simp;first | exact⟨rfl,rfl⟩ | rfl) (andS hS3 fun _=>?_)));go_simp;have f3:=hS3.2.2.2.frozen 1;have c3:=hS3.2.2.2.cell (i:=1) rfl;have hO8:=((hO7.third.set 1 (.slice na' (es.length+1) nc')).swap).third.swap;refine aG 23 zk (aB rfl rfl (aS zg (ji rfl ?_)));refine dS zk ?_ _;have Hfin:=zh (zi hO8 hcs);clear hO8 hO7 hO6 hO4 hO hS hS3 f3 c3 hown7 hgrow7 hrow7 hcs;refine hV.out _ _ rfl ⟨l2,vl2,.slice na' (es.length+1) nc',es,⟨c,0,t⟩,rfl,?_,Hfin.out.2,hPI2,hlk2⟩;have:=Hfin.out.1;simpa [fq] using this
   rintro z3 vs w7 - ⟨l2,vl2,ve2,fs,e,rfl,hO,hcov2,hPI2,hlk2⟩;simp[litL,lk];obtain⟨vea2,vec2,rfl⟩:=aO hO.row;obtain⟨eb,rfl⟩:=jH hO.row zo;have hwu:IntKind.u8.wrap (c:Int)=(c:Int):=IntWalk.u8_in _ zo;have s1:=hO.third.obj.cell (i:=1) rfl;have s2:=hO.third.obj.lt;have y1:=aX hO.row (jW (fs ++ [e]) fs.length zS).2.1;have y2:=dP hO.row (fs.length*3+1);have y3:=(World.ownsRow.lt hO.row _ rfl).2;have hlt5:fs.length<fs.length+1:=zo;have hfl:fs.length+1≤256:=by have:=(hcov2.ok (by have:=mG hPI2.nodup hPI2.rng;omega)).2;simpa using this
   have hO6:=hO.setRow (fs.length*3+1) (.int .u8 c);rw[tu] at hO6;have Hfin:=zh (zi hO6 (zi hcov2 (zi hPI2 hlk2)));clear hO6 hO hcov2 hPI2 hlk2;go_wp2;refine hY.out _ _ _ zo rfl ⟨c+1,l2,vl2,.slice (some ⟨eb,0,none⟩) (fs.length+1) vec2,fs ++ [⟨e.lo,c,e.to⟩],zo,rfl,rfl,?_,Hfin.out.2.1,Hfin.out.2.2.1,Hfin.out.2.2.2⟩;have:=Hfin.out.1;simpa using this
  ·obtain rfl:c=256:=zo;have hPIn:=HC.out.2.1.push (p:=(pa,pb)) (by rw[HP.out.2.1];exact HC.out.2.2.1) HC.out.1;have hes:=fU (l:=es) (m:=mk') hO.row HC.out.2.2.2;have hmk2:=Mem.eD (w:=w6) hO.free;have hrow2:=(hrow.mono hmk2).push (s:=⟨f (bG A' pa) (bG B' pb),es⟩) hes;have hO2:=hO.bD;have s0:=hO2.swap.obj.cell (i:=0) rfl;have s1:=hO2.swap.obj.cell (i:=1) rfl;have sl:=hO2.swap.obj.lt;obtain⟨voa,voc,rfl⟩:=aO (hO2.lW (v:=vo) (t:=66) (size:=2) (n:=k) (xs:=xs) zS);have hO3:=hO2.al #[.bool (f (bG A' pa) (bG B' pb)),.slice vea es.length vec] 66;have hO4:=hO3.pull (l₁:=[_,_,_,_]);have hvr:=hO4.row;have hnews:=hO3.obj.news rfl;have Hk:=zh (zi hrow2 (zi (Mem.le_trans hmk hmk2) hPIn));clear hrow2 hes hmk2 hO2 hO hPIn hO3;generalize mk'.addv w6 (.slice vea es.length vec)=mk2 at *
   go_wp2_with (at_builtin;refine aC iH rfl (.tmp 94) (.tmp 96) rfl (.slice voa k voc) k xs rfl hvr ⟨w6.heap.size,0,none⟩ 1 1 [.bool (f (bG A' pa) (bG B' pb)),.slice vea es.length vec] rfl rfl hnews (by simp[Value.oneCell']) (by unfold maxLen;omega) zo ?_)
   intro xa' xc' w7 hown7 hgrow7 hrow7;have hO5:=(hO4.app hown7 hgrow7 hrow7 zS).drop2.drop2.drop2.drop2;have HO5:=zh hO5;clear hown7 hgrow7 hrow7 hO4 hO5 hvr hnews;go_wp2;refine hX.out _ _ _ zo rfl ⟨k+1,l',out ++ [⟨f (bG A' pa) (bG B' pb),es⟩],.slice vla2 l'.length vlc2,.slice xa' (k+1) xc',_,mk2,rfl,rfl,HO5.out,Hk.out.1,Hk.out.2.1,Hk.out.2.2,?_⟩;rw[List.length_append,HP.out.2.1];rfl
 ·have hkl2:k=l.length:=zo;have hdone:=hPI.done hff zo;obtain⟨voa,voc,rfl⟩:=aO hO.row;have hst:=dZ (l:=out) (m:=mk') (by rw[hol];exact hO.row) hrow hO.free;have hO2:=hO.bD;have hml:m.le (mk'.addv wr (.slice voa k voc)):=Mem.le_trans hO.ext.le (Mem.eD hO.free);have HM:=zh (pI (.slice voa k voc) out _ wr hO2.inn (htab.le hml) hst zo);have HO2:=zh hO2;have HD:=zh (zi hdone hol);clear hO2 hst hml hO hdone hol hob hPI hrow hkl2
  go_wp2_with fail
  refine HM.out.mono ?_;rintro e w2 ⟨r,C,rfl,hb2,hst,hClen,hmin,hnot⟩;have hwf:=HD.out.1.1;rw[aN hwf];obtain⟨ra,rc,rfl⟩:∃ra rc,r=.slice ra C.length rc:=by obtain⟨x,y,e,-⟩:=hst;exact⟨x,y,e⟩
  have hO3:=HO2.out.call hb2;have hO4:=(hO3.pull (l₁:=[_,_])).al #[.slice ra C.length rc] 27;have g1:=hO4.swap.obj.cell (i:=0) rfl;have g2:=hO4.swap.obj.frozen 0;have g3:=hO4.swap.obj.lt;have hO5:=hO4.swap.set 0 (.slice ra C.length rc);have g4:=hO5.obj.cell (i:=0) rfl;have hfin:=aK hO5.done hst;have Hk:=zh (zi hO5.below (zi hfin (zi (hmin hwf) hClen)));clear hO5 hO4 hO3 hfin hmin hnot hst hClen HO2 hwf;go_wp2;refine bodyPost_ret (v:=.agg #[.slice ra C.length rc]) (by simp[results,Tryz.results127,go_sem,g4]) rfl ?_;refine hR.out _ _ ⟨_,C,rfl,Hk.out.1,Hk.out.2.1,⟨Hk.out.2.2.1.canon,fun x=>?_⟩,?_⟩
  ·rw[Hk.out.2.2.1.lang,HD.out.1.2.2.2.2,HG.out.2.2.1,HG.out.2.2.2]
  ·have h1:=Hk.out.2.2.2;have h2:=HD.out.2;omega
end Cl
