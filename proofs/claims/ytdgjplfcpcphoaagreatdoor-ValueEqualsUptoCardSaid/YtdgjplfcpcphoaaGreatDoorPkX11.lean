/- Lemmas for the proofs of chapter 11. -/
import Derived.Test.YtdgjplfcpcphoaaGreatDoorProg
import Derived.BigQuiet
import Derived.Deep.Cut
import Derived.Deep.QuietTactic
import Derived.Laws.StructEq
import Derived.Lib.AppendStr
import Derived.Lib.Builder
import Derived.Lib.Hide
import Derived.Lib.ItoaLen
import Derived.Maps.OwnOps
import Derived.Maps.OwnSet
import Derived.OrdersHeld
import Derived.Outline
import Derived.StillTailTactics
import Derived.StringKeys
import Derived.WalkKit
import Derived.WalkLawsBesides
import Derived.WalkSpells
import Derived.Deep.RegionHeld
import Derived.Shelf.Strings.Builder1
import Derived.Shelf.Small.Wraps
import Derived.Shelf.LaysM
import Derived.Shelf.Strconv.Itoa3
import Derived.Laws.EntriesVeiled
import Derived.RegionTactic
import Derived.Test.YtdgjplfcpcphoaaGreatDoorZz
import Derived.Test.YtdgjplfcpcphoaaGreatDoorPkX3
import Derived.Test.YtdgjplfcpcphoaaGreatDoorPkX5
import Derived.Test.YtdgjplfcpcphoaaGreatDoorPkX1
import Derived.Test.YtdgjplfcpcphoaaGreatDoorPkX2
import Derived.Test.YtdgjplfcpcphoaaGreatDoorPkX10
import Derived.Test.YtdgjplfcpcphoaaGreatDoorPkX4
import Derived.Test.YtdgjplfcpcphoaaGreatDoorPkX9
import Derived.Test.YtdgjplfcpcphoaaGreatDoorPkX6
set_option maxRecDepth 100000
set_option maxHeartbeats 16000000
namespace Cl
open Go Go.RowKit Go.Proofs
structure NV (l C:Table):Prop where
 canon:Canon C
 lang:∀x,aF C 0 x=aF l 0 x
theorem fE (m:Mem):aR m (.slice none 0 0) []:=⟨none,0,rfl,Nat.le_refl _,by simp[maxLen],fun h=>absurd rfl h⟩
theorem yH (v0:Value) (l:Table) (m:Mem) (w:World) (hm:m.inn w) (htab:TabM m) (hl:aR m v0 l) (hlen:l.length≤1000000) :
 Calls Tryz.prog 197 #[v0] w fun e w'=>∃r C,e=.returned (.tuple #[.agg #[r],.int .i64 (if tf (WF l)=true then 0 else 11)])∧Below w.heap.size w w'∧aR (m.grow w w') r C∧C.length≤l.length+1 ∧
  (WF l→NV l C)∧(¬ WF l→C=[]):=by
 have hl0:=hl;obtain⟨a,c,rfl,h1,h2,h3⟩:=hl;unfold maxLen at h2;have HW:=zh (fun w (hw:m.inn w)=>mP (.slice a l.length c) l m w hw hl0);refine ay fun R hR=>?_;have hO:=(Own.start hm).al #[.slice none 0 0] 27;have HO:=zh hO;clear hO
 go_enter Tryz.func197,Tryz.ntmps197
 go_wp2_with fail
 refine (HW.out _ (Mem.cz HO.out.ext.le HO.out.inn)).mono ?_;rintro e w1 ⟨rfl,hb1⟩;have hO1:=HO.out.move hb1;clear HO hb1;by_cases hwf:WF l
 ·rw[aI hwf];by_cases h0:l.length=0
  ·have hln:l=[]:=List.eq_nil_of_length_eq_zero h0;have hO2:=hO1.set 0 (.slice none 0 0);have g1:=hO1.obj.cell (i:=0) rfl;have g2:=hO1.obj.frozen 0;have g3:=hO1.obj.lt;have g4:=hO2.obj.cell (i:=0) rfl;have Hk:=zh (zi hO2 hln);have hdec:((l.length:Int)==0)=true:=by simp[h0]
   clear hO1 hO2 hln h0;go_wp2;refine bodyPost_ret (v:=.tuple #[.agg #[.slice none 0 0],.int .i64 0]) (by simp[results,Tryz.results197,go_sem,g1]) rfl ?_;refine hR.out _ _ ⟨_,[],by rw[aI hwf];rfl,Hk.out.1.below,fE _,zS,fun _=>⟨jQ,fun x=>?_⟩,fun _=>rfl⟩;rw[Hk.out.2]
  ·have hdec:((l.length:Int)==0)=false:=beq_eq_false_iff_ne.2 zo;have HC:=zh (Bj (.slice a l.length c) l m w1 (Mem.cz hO1.ext.le hO1.inn) hl0 hwf hlen);have HO1:=zh hO1;clear hO1
   go_wp2_with fail
   refine HC.out.mono ?_;rintro e w2 ⟨g,mk,vc,vn,va,rfl,hO2,k1,k2,k3⟩;have hO3:=HO1.out.join hO2;have hle:=hO2.ext.le;have hH:=yC hwf hlen;have HR:=zh (FX g vc vn va l (bG l 256) (dY l (bG l 256)) (l.map (·.accept) ++ [false]) _ _ hH m mk w w2 [.obj w.heap.size 27 #[.slice none 0 0]] (htab.le hle) hO3 k2 k3);clear hO3 hO2 HC HO1
   go_wp2_with fail
   refine HR.out.mono ?_;rintro e w3 ⟨mk2,vk,cls,rfl,hO4,hle2,k4,hcls⟩;have q0:=hO4.obj.cell (i:=0) rfl;have hO5:=hO4.fZ;have hle3:=Mem.gZ (w:=w3) hO4.gq;have htabAt:TabAt (mk2.add w3 g) g (bG l 256) (dY l (bG l 256)) (l.map (·.accept) ++ [false]) cls:=by
    refine ⟨vc,vn,va,vk,Mem.dw hO4.obj rfl,Mem.dw hO4.obj rfl,Mem.dw hO4.obj rfl,Mem.dw hO4.obj rfl,?_,?_,?_,?_⟩
    ·exact dC (Mem.le_trans hle2 hle3) k1
    ·exact mr (Mem.le_trans hle2 hle3) k2
    ·exact gM (Mem.le_trans hle2 hle3) k3
    ·exact dC hle3 k4
   have HN:=zh (yF g l (bG l 256) (dY l (bG l 256)) (l.map (·.accept) ++ [false]) cls _ _ hH (pM l) hcls
    (fun lv hlv hh=>DI hwf hlen hcls hlv hh) (fun lv hlv hh=>Bg hwf hlen hcls hlv hh) (mk2.add w3 g) w3 hO5.inn htabAt)
   have HO5:=zh hO5;clear hO5 hO4 HR htabAt hH q0
   go_wp2_with fail
   refine HN.out.mono ?_;rintro e w4 ⟨r,C,rfl,hb4,hst,hcan,hlang,hClen⟩;have hO6:=HO5.out.call hb4;obtain⟨ra,rc,rfl⟩:∃ra rc,r=.slice ra C.length rc:=by obtain⟨x,y,e,-⟩:=hst;exact⟨x,y,e⟩
   have g1:=hO6.obj.cell (i:=0) rfl;have g2:=hO6.obj.frozen 0;have g3:=hO6.obj.lt;have hO7:=hO6.set 0 (.slice ra C.length rc);have g4:=hO7.obj.cell (i:=0) rfl;have hfin:=bu hO7.done hst;rw[jl] at hClen;have Hk:=zh (zi hO7.below (zi hfin (zi hcan (zi hlang hClen))));clear hO7 hO6 hfin hcan hlang hst hClen HO5;go_wp2;refine bodyPost_ret (v:=.tuple #[.agg #[.slice ra C.length rc],.int .i64 0]) (by simp[results,Tryz.results197,go_sem,g4]) rfl ?_;exact hR.out _ _ ⟨_,C,by rw[aI hwf];rfl,Hk.out.1,Hk.out.2.1,Hk.out.2.2.2.2,fun _=>⟨Hk.out.2.2.1,Hk.out.2.2.2.1⟩,fun h=>absurd hwf h⟩
 ·rw[az hwf];have hO2:=hO1.set 0 (.slice none 0 0);have g1:=hO1.obj.cell (i:=0) rfl;have g2:=hO1.obj.frozen 0;have g3:=hO1.obj.lt;have g4:=hO2.obj.cell (i:=0) rfl;have Hk:=zh (zi hO2 hwf);clear hO1 hO2 hwf;go_wp2;refine bodyPost_ret (v:=.tuple #[.agg #[.slice none 0 0],.int .i64 11]) (by simp[results,Tryz.results197,go_sem,g1]) rfl ?_;exact hR.out _ _ ⟨_,[],by rw[az Hk.out.2];rfl,Hk.out.1.below,fE _,zS,fun h=>absurd h Hk.out.2,fun _=>rfl⟩
noncomputable def kQ (l:Table):Table:=if tf (Canon l)=true then l else []
theorem De (l:Table):Canon (kQ l):=by
 unfold kQ
 split
 ·rename_i h;exact zB.1 h
 ·exact jQ
theorem LV {l:Table} (h:Canon l):kQ l=l:=by simp[kQ,aI h]
theorem J6 (l:Table):(kQ l).length≤l.length:=by
 unfold kQ;split <;> simp
theorem pU {l C:Table} (h1:WF l→NV l C) (hw:WF l):Canon l↔l=C:=
 ⟨fun h=>Br h (h1 hw).canon fun x=>((h1 hw).lang x).symm,fun h=>by rw[h];exact (h1 hw).canon⟩
theorem oz (v0:Value) (l:Table) (m:Mem) (w:World) (hm:m.inn w) (htab:TabM m) (hl:aR m v0 l) (hlen:l.length≤1000000) :
 Calls Tryz.prog 157 #[.agg #[v0]] w fun e w'=>e=.returned (.bool (tf (Canon l)))∧Below w.heap.size w w':=by
 have hl0:=hl;obtain⟨a,c,rfl,h1,h2,h3⟩:=hl;refine ay fun R hR=>?_;have hO:=(Own.start hm).al #[.slice a l.length c] 27;have HM:=zh (yH (.slice a l.length c) l m _ hO.inn htab hl0 hlen);have HO:=zh hO;clear hO
 go_enter Tryz.func157,Tryz.ntmps157
 go_wp2_with fail
 refine HM.out.mono ?_;rintro e w1 ⟨r,C,rfl,hb1,hst,hClen,hmin,hnot⟩;have hO1:=HO.out.call hb1;have hle:=hO1.ext.le;obtain⟨ra,rc,rfl⟩:∃ra rc,r=.slice ra C.length rc:=by obtain⟨x,y,e,-⟩:=hst;exact⟨x,y,e⟩
 have hO2:=hO1.al #[.slice ra C.length rc] 27;have g1:=hO2.swap.obj.cell (i:=0) rfl;have g2:=hO2.swap.obj.lt;have HS:=zh (qM (.slice a l.length c) (.slice ra C.length rc) l C _ _ hO2.inn (bu hle hl0) hst);have HO2:=zh hO2;clear hO1 hO2 HM HO;by_cases hwf:WF l
 ·rw[aI hwf];have hci:=pU hmin hwf;have Hk:=zh (zi hci (zi hmin hnot));clear hmin hnot hci
  go_wp2_with fail
  refine HS.out.mono ?_;rintro e w3 ⟨rfl,hb3⟩;have hb4:=(HO2.out.move hb3).below;go_wp2;exact hR.out _ _ ⟨aJ (by rw[aZ Hk.out.1]),hb4⟩
 ·rw[az hwf];have Hk:=zh (zi hwf (zi hmin hnot));clear hmin hnot hwf;go_wp2;exact hR.out _ _ ⟨aJ (by rw[az (fun h=>Hk.out.1 h.wf)]),HO2.out.below⟩
theorem LU (v0:Value) (l:Table) (m:Mem) (w:World) (hm:m.inn w) (htab:TabM m) (hl:aR m v0 l) (hlen:l.length≤1000000) :
 Calls Tryz.prog 159 #[.agg #[v0]] w fun e w'=>∃r,e=.returned (.agg #[r])∧Below w.heap.size w w'∧aR (m.grow w w') r (kQ l):=by
 have hl0:=hl;obtain⟨a,c,rfl,h1,h2,h3⟩:=hl;refine ay fun R hR=>?_;have hO:=((Own.start hm).al #[.slice a l.length c] 27).al #[.slice none 0 0] 27;have hsz:(w.alloc (.cells #[.slice a l.length c] 27)).heap.size=w.heap.size+1:=by simp
 rw[hsz] at hO;have HV:=zh (oz (.slice a l.length c) l m _ hO.inn htab hl0 hlen);have HO:=zh hO;clear hO hsz
 go_enter Tryz.func159,Tryz.ntmps159
 go_wp2_with fail
 refine HV.out.mono ?_;rintro e w1 ⟨rfl,hb1⟩;have hO1:=HO.out.move hb1;have g1:=hO1.swap.obj.cell (i:=0) rfl;have g2:=hO1.obj.cell (i:=0) rfl;have g3:=hO1.obj.frozen 0;have g4:=hO1.obj.lt;clear HO HV hb1;by_cases hc:Canon l
 ·have hO2:=hO1.set 0 (.slice a l.length c);have g5:=hO2.obj.cell (i:=0) rfl;have Hk:=zh (zi hO2 hc);rw[aI hc];clear hO1 hO2 hc;go_wp2;refine bodyPost_ret (v:=.agg #[.slice a l.length c]) (by simp[results,Tryz.results159,go_sem,g5]) rfl ?_;exact hR.out _ _ ⟨_,rfl,Hk.out.1.below,by rw[LV Hk.out.2];exact bu Hk.out.1.done hl0⟩
 ·have hO2:=hO1.set 0 (.slice none 0 0);have g5:=hO2.obj.cell (i:=0) rfl;have Hk:=zh (zi hO2 hc);rw[az hc];clear hO1 hO2 hc;go_wp2;refine bodyPost_ret (v:=.agg #[.slice none 0 0]) (by simp[results,Tryz.results159,go_sem,g2]) rfl ?_;exact hR.out _ _ ⟨_,rfl,Hk.out.1.below,by rw[kQ,az Hk.out.2];exact fE _⟩
theorem iJ {w:World} {t:TypeId} {size:Nat} {a:Option Addr} {n c:Nat} {xs:List Value} (h:w.ownsRow 0 t size (.slice a n c) n xs) (hn:0<n):∃b,a=some ⟨b,0,none⟩:=by
 rcases h.2 with ⟨h,-⟩ | ⟨gg,cap,cur,h,-⟩
 ·injection h with h1 h2 h3;omega
 ·injection h with h1 h2 h3;exact⟨_,h1⟩
def gH (l:Table):Prop:=(∀s∈l,s.edges.length≤10)∧l.length≤8
theorem BI (v0:Value) (l:Table) (m:Mem) (w:World) (hm:m.inn w) (hl:aR m v0 l) :
 Calls Tryz.prog 69 #[.agg #[v0]] w fun e w'=>e=.returned (.bool (tf (gH l)))∧Below w.heap.size w w':=by
 obtain⟨a,c,rfl,h1,h2,h3⟩:=hl;unfold maxLen at h2;refine ay fun R hR=>?_
 go_enter Tryz.func69,Tryz.ntmps69
 go_wp2;refine au [1,6,7,8] (fun n vs wr=>∃k:Nat,k≤l.length∧n=l.length - k∧vs=[.pointer (some ⟨w.heap.size,0,none⟩),.slice a l.length c,.int .i64 l.length,.int .i64 k] ∧
  Own w m wr m [.obj w.heap.size 27 #[.slice a l.length c]]∧∀j,(h:j<k)→(h':j<l.length)→(l[j]).edges.length≤10) ?_ ?_
 ·exact⟨_,0,Nat.zero_le _,rfl,rfl,(Own.start hm).al _ _,fun j h=>zo⟩
 rintro X z n vs wr hX - ⟨k,hk,rfl,rfl,hO,hall⟩;simp[litL,lk];have HA:=zh hall;clear hall;by_cases hlt:k<l.length
 ·obtain⟨b,off,rfl,h4⟩:=h3 (by intro h;simp[h] at hlt);obtain⟨g1,ve,g2,ea,ec,rfl,g4,g5,g6⟩:=h4 k hlt;have c1:=Mem.aj hO.inn g1;have c2:=Mem.aj hO.inn g2;have c3:=Mem.av hO.inn g1;unfold maxLen at g5;have HO:=zh (hO.al' (.cells #[.bool l[k].accept,.slice ea l[k].edges.length ec] 80));clear hO h3 h4;by_cases hbig:10<l[k].edges.length
  ·have hdec:decide ((10:Int)<(l[k].edges.length:Int))=true:=decide_eq_true zo;have Hb:=zh hbig;clear hbig;go_wp2;refine hR.out _ _ ⟨aJ ?_,HO.out.below⟩;rw[az];intro hs;have:=hs.1 l[k] (List.getElem_mem hlt);have:=Hb.out;omega
  ·have hdec:decide ((10:Int)<(l[k].edges.length:Int))=false:=decide_eq_false zo;go_wp2;refine hX.out _ _ _ zo rfl ⟨k+1,zo,rfl,rfl,HO.out,fun j hj hj'=>?_⟩;by_cases e:j=k
   ·subst e;omega
   ·exact HA.out j zo hj'
 ·obtain rfl:k=l.length:=zo;have g1:=hO.obj.cell (i:=0) rfl;have g2:=hO.obj.lt;have HO:=zh hO;clear hO;go_wp2;refine hR.out _ _ ⟨aJ ?_,HO.out.below⟩;by_cases h8:l.length≤8
  ·rw[decide_eq_true zo,aI];exact⟨fun s hs=>by obtain⟨i,hi,rfl⟩:=List.mem_iff_getElem.1 hs;exact HA.out i hi hi,h8⟩
  ·rw[decide_eq_false zo,az];exact fun h=>h8 h.2
theorem VAt.spell {m:Mem} {n:Nat} {x:Sl} {v:Vl} (k:VAt m n x v):∃a1 b1 a2 b2 a3 b3 a4 b4 a5 b5,x=⟨.slice a1 v.s.i.length b1,.slice a2 v.s.f.length b2,.slice a3 v.s.t.length b3,.slice a4 v.lists.length b4,.slice a5 v.structs.length b5⟩ ∧
 v.s.i.length≤maxLen∧v.s.f.length≤maxLen∧v.s.t.length≤maxLen∧v.lists.length≤maxLen∧v.structs.length≤maxLen:=by
 cases n with
 | zero=>exact k.elim
 | succ n=>
  obtain⟨⟨⟨a1,b1,e1,p1,q1,-⟩,⟨a2,b2,e2,p2,q2,-⟩,⟨a3,b3,e3,p3,q3,-⟩⟩,⟨a4,b4,e4,p4,q4,-⟩,⟨a5,b5,e5,p5,q5,-⟩⟩:=k;obtain⟨y1,y2,y3,y4,y5⟩:=x;simp only at e1 e2 e3 e4 e5;subst e1 e2 e3 e4 e5;exact⟨a1,b1,a2,b2,a3,b3,a4,b4,a5,b5,rfl,zo,zo,zo,zo,zo⟩
theorem VAt.sc {m:Mem} {n:Nat} {x:Sl} {v:Vl} (k:VAt m n x v):ScAt m x.i x.f x.t v.s:=by
 cases n with
 | zero=>exact k.elim
 | succ n=>exact k.1
theorem BR (a b:Bool) (w:World):Calls Tryz.prog 73 #[.bool a,.bool b] w fun e w'=>e=.returned (.int .i64 (yt a b))∧Below w.heap.size w w':=by
 refine ay fun R hR=>?_;cases a <;> cases b
 all_goals
  go_enter Tryz.func73,Tryz.ntmps73
  go_wp2;exact hR.out _ _ ⟨rfl,Below.refl _ _⟩
theorem Es (s:RS):tf (s=dJ)=(!s.nul && !s.fal && !s.tru&&decide ((s.i.length:Int)+s.f.length+s.t.length=0)):=by
 rw[Bool.eq_iff_iff];simp only[Bool.and_eq_true,Bool.not_eq_true',decide_eq_true_eq,zB];constructor
 ·rintro rfl;exact⟨⟨⟨rfl,rfl⟩,rfl⟩,rfl⟩
 ·rintro ⟨⟨⟨h1,h2⟩,h3⟩,h4⟩;obtain⟨a,b,c,i,f,t⟩:=s;simp only at h1 h2 h3 h4;subst h1 h2 h3;rw[List.eq_nil_of_length_eq_zero (show i.length=0 by omega),List.eq_nil_of_length_eq_zero (show f.length=0 by omega),List.eq_nil_of_length_eq_zero (show t.length=0 by omega)]
  rfl
theorem sN (vi vf vt:Value) (s:RS) (m:Mem) (w:World) (h:ScAt m vi vf vt s) (hl:s.i.length≤1000000∧s.f.length≤1000000∧s.t.length≤1000000) :
 Calls Tryz.prog 43 #[s.val vi vf vt] w fun e w'=>e=.returned (.bool (tf (s=dJ)))∧Below w.heap.size w w':=by
 rw[Es];obtain⟨⟨a1,b1,rfl,p1,q1,-⟩,⟨a2,b2,rfl,p2,q2,-⟩,⟨a3,b3,rfl,p3,q3,-⟩⟩:=h;unfold maxLen at q1 q2 q3;unfold RS.val;generalize s.nul=x1;generalize s.fal=x2;generalize s.tru=x3;generalize s.i.length=l1 at *
 generalize s.f.length=l2 at *
 generalize s.t.length=l3 at *
 refine ay fun R hR=>?_;cases x1 <;> cases x2 <;> cases x3
 all_goals
  go_enter Tryz.func43,Tryz.ntmps43
  go_wp2;exact hR.out _ _ ⟨aJ (by first | rfl | (simp[wrap64_id (show -9223372036854775808≤(l1:Int)+l2 by omega) zo,wrap64_id (show -9223372036854775808≤(l1:Int)+l2+l3 by omega) zo,beq_eq_decide])),bO (Below.refl _ _) _⟩
end Cl
