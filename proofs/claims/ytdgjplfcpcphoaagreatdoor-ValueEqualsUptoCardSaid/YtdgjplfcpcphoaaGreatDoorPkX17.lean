/- Lemmas for the proofs of chapter 11. -/
import Derived.Test.YtdgjplfcpcphoaaGreatDoorProg
import Derived.BigQuiet
import Derived.Deep.Cut
import Derived.Deep.QuietTactic
import Derived.Laws.StructEq
import Derived.Lib.AppendStr
import Derived.Lib.Builder
import Derived.Lib.Hide
import Derived.Lib.ItoaLen
import Derived.Maps.OwnOps
import Derived.Maps.OwnSet
import Derived.OrdersHeld
import Derived.Outline
import Derived.StillTailTactics
import Derived.StringKeys
import Derived.WalkKit
import Derived.WalkLawsBesides
import Derived.WalkSpells
import Derived.Deep.RegionHeld
import Derived.RangeFuncNested
import Derived.RangeFuncBound
import Derived.RangeFuncCalls
import Derived.RangeFuncLeaves
import Derived.OwnWalkIn
import Derived.TacticsInMore
import Derived.LoopNIn
import Derived.LoopIn
import Derived.Shelf.Strings.Builder1
import Derived.Shelf.Small.Wraps
import Derived.Shelf.LaysM
import Derived.Shelf.Strconv.Itoa3
import Derived.Shelf.Spec.SlicesGrow
import Derived.Shelf.SlSortCmp.WholeK
import Derived.RegionTactic
import Derived.ChangeAlike
import Derived.Laws.EntriesVeiled
import Derived.Laws.CopyOwn
import Derived.Laws.BytesArg
import Derived.Test.YtdgjplfcpcphoaaGreatDoorZz
import Derived.Test.YtdgjplfcpcphoaaGreatDoorPkX3
import Derived.Test.YtdgjplfcpcphoaaGreatDoorPkX4
import Derived.Test.YtdgjplfcpcphoaaGreatDoorPkX5
import Derived.Test.YtdgjplfcpcphoaaGreatDoorPkX1
import Derived.Test.YtdgjplfcpcphoaaGreatDoorPkX2
import Derived.Test.YtdgjplfcpcphoaaGreatDoorPkX10
import Derived.Test.YtdgjplfcpcphoaaGreatDoorPkX9
import Derived.Test.YtdgjplfcpcphoaaGreatDoorPkX16
import Derived.Test.YtdgjplfcpcphoaaGreatDoorPkX6
import Derived.Test.YtdgjplfcpcphoaaGreatDoorPkX7
import Derived.Test.YtdgjplfcpcphoaaGreatDoorPkX11
import Derived.Test.YtdgjplfcpcphoaaGreatDoorPkX8
import Derived.Test.YtdgjplfcpcphoaaGreatDoorPkX12
import Derived.Test.YtdgjplfcpcphoaaGreatDoorPkX13
import Derived.Test.YtdgjplfcpcphoaaGreatDoorPkX14
import Derived.Test.YtdgjplfcpcphoaaGreatDoorPkX15
set_option maxRecDepth 100000
set_option maxHeartbeats 16000000
namespace Cl
open Go Go.RowKit Go.Proofs
def ScV (s:RS) (M:Mem) (v:Value):Prop:=∃xa xb ya yb za zb,v=.agg #[.bool s.nul,.bool s.fal,.bool s.tru,.slice xa s.i.length xb,.slice ya s.f.length yb,.slice za s.t.length zb]∧ScAt M (.slice xa s.i.length xb) (.slice ya s.f.length yb) (.slice za s.t.length zb) s
theorem ScV.le {s:RS} {m m':Mem} (h:m.le m') {v:Value} (k:ScV s m v):ScV s m' v:=by
 obtain⟨a,b,c,d,e,f,h1,h2⟩:=k;exact⟨a,b,c,d,e,f,h1,h2.le h⟩
def lstD:Option El→Dt
 | none=>.mk 0 0 ⟨#[]⟩ [] [] []
 | some e=>elDt e
def ostr (o:Option (List UInt8)):ByteArray:=match o with | some x=>bstr x | none=>⟨#[]⟩
theorem Ns (o:Option (List UInt8)):optV o=.tuple #[.string (ostr o),.bool o.isSome]:=rfl
theorem Db {x:RS} (h0:x.nul=false) (h1:x.fal=false) (h2:x.tru=false) (h3:kL x.ns=none) {r:Option (List UInt8)} (h:lT (Sem x.t) r):jU x.has (r.map .str):=Gy h0 h1 h2 h3 h
theorem Ch (vi vf vt:Value) (s:RS) (m:Mem) (w:World) (hm:m.inn w) (htab:TabM m) (hs:ScAt m vi vf vt s) (hl:ScLe s 30000 100000) :
 Calls Tryz.prog 62 #[s.val vi vf vt] w fun e w'=>∃r,e=.returned (.tuple #[(lstD r).val (.slice none 0 0) (.slice none 0 0),.bool r.isSome])∧Below w.heap.size w w'∧jU (pI s).has r:=by
 have hO:=((Own.start hm).al #[.bool s.nul,.bool s.fal,.bool s.tru,vi,vf,vt] 29).al #[.int .i64 0,.int .i64 0,.string ⟨#[]⟩,.slice none 0 0,.slice none 0 0] 85;simp only[bB] at hO;have HG:=zh (FT vi vf vt s m _ hO.inn htab hs (hl.mono zo zo));have lx:=LX hl;obtain⟨a1,b1,a2,b2,a3,b3,rfl,rfl,rfl⟩:=hs.spell;unfold RS.val at HG ⊢;have HO:=zh hO;clear hO hs hl;generalize pI s=x at *
 have HC:=zh (zi (fun h:x.nul=true=>GA h) (zi (fun (h:x.nul=false) (h1:x.fal=true)=>GD h h1) (zi (fun (h:x.nul=false) (h1:x.fal=false) (h2:x.tru=true)=>Gx h h1 h2)
  (zi (fun (h:x.nul=false) (h1:x.fal=false) (h2:x.tru=false) u (h3:kL x.ns=some u)=>Gz h h1 h2 h3) (fun (h:x.nul=false) (h1:x.fal=false) (h2:x.tru=false) (h3:kL x.ns=none) r (h4:lT (Sem x.t) r)=>Db h h1 h2 h3 h4)))))
 have hli:=lx.i;have hlf:=lx.f;have hlt:=lx.t;clear lx;refine ay fun R hR=>?_
 go_enter Tryz.func62,Tryz.ntmps62
 go_wp2_with fail
 refine HG.out.mono ?_;rintro e w1 ⟨ri,rf,rt,rfl,hb1,hx⟩;have hO1:=(HO.out.call hb1).swap;obtain⟨ra,rb,rc,rd,re,rf',rfl,rfl,rfl⟩:=hx.spell;obtain⟨p0,p1,p2,p3,p4,p5,pf0,pf1,pf2,pf3,pf4,pf5⟩:=hO1.obj.cf6;have pl:=hO1.obj.lt;have hO2:=((((((hO1.set 0 (.bool x.nul)).set 1 (.bool x.fal)).set 2 (.bool x.tru)).set 3 (.slice ra x.i.length rb)).set 4 (.slice rc x.f.length rd)).set 5 (.slice re x.t.length rf'));have hO2:Own _ _ _ _ (.obj _ 29 #[.bool x.nul,.bool x.fal,.bool x.tru,.slice ra x.i.length rb,.slice rc x.f.length rd,.slice re x.t.length rf']::_):=hO2;have HN:=zh (CP _ _ x.i x.f _ _ hO2.inn hx.nums hli hlf);have HL:=zh (fun w' (h:Mem.inn _ w')=>yg _ x.t _ w' h (htab.le (Mem.dN HO.out.inn)) hx.t zo);have HO2:=zh hO2;generalize hns:kL (mkN x.i x.f)=rn at *
 have hns2:kL x.ns=rn:=hns;rw[hns2] at HC;clear hO1 hO2 HG HO hb1 hx htab hns hns2
 go_wp2_with fail
 refine HN.out.mono ?_;rintro e w2 ⟨rfl,hb2⟩;have hO:=HO2.out.move hb2;have q5:=hO.obj.cell (i:=5) rfl;have q6:=hO.obj.lt;have HO:=zh hO;clear hO HN HO2 hb2 p0 p1 p2 p3 p4 p5 pf0 pf1 pf2 pf3 pf4 pf5 pl
 go_wp2_with fail
 refine (HL.out _ HO.out.inn).mono ?_;rintro e w3 ⟨o,rfl,hb3,ho⟩;rw[Ns];have hO:=HO.out.move hb3;have HOS:=zh ho;have q0:=hO.obj.cell (i:=0) rfl;have q1:=hO.obj.cell (i:=1) rfl;have q2:=hO.obj.cell (i:=2) rfl;have q6:=hO.obj.lt;have hO:=hO.swap;clear HL HO hb3 ho q5;generalize x.nul=bn at *
 generalize x.fal=bf at *
 generalize x.tru=bt at *
 cases bn with
 | true=>
  obtain⟨g0,g1,g2,g3,g4,f0,f1,f2,f3,f4⟩:=hO.obj.cf5;have gl:=hO.obj.lt;have hO2:=((((hO.set 0 (.int .i64 1)).set 1 (.int .i64 0)).set 2 (.string ⟨#[]⟩)).set 3 (.slice none 0 0)).set 4 (.slice none 0 0);have hO2:Own _ _ _ _ (.obj _ 85 #[.int .i64 1,.int .i64 0,.string ⟨#[]⟩,.slice none 0 0,.slice none 0 0]::_):=hO2;obtain⟨k0,k1,k2,k3,k4⟩:=hO2.obj.cs5;have Hk:=zh (zi hO2.below (HC.out.1 rfl));clear hO hO2;go_wp2;refine bodyPost_ret (v:=.tuple #[.agg #[.int .i64 1,.int .i64 0,.string ⟨#[]⟩,.slice none 0 0,.slice none 0 0],.bool true]) (by simp[results,Tryz.results62,go_sem,k0,k1,k2,k3,k4]) rfl ?_
  exact hR.out _ _ ⟨some .nul,rfl,Hk.out.1,Hk.out.2⟩
 | false=>
  cases bf with
  | true=>
   obtain⟨g0,g1,g2,g3,g4,f0,f1,f2,f3,f4⟩:=hO.obj.cf5;have gl:=hO.obj.lt;have hO2:=((((hO.set 0 (.int .i64 2)).set 1 (.int .i64 0)).set 2 (.string ⟨#[]⟩)).set 3 (.slice none 0 0)).set 4 (.slice none 0 0);have hO2:Own _ _ _ _ (.obj _ 85 #[.int .i64 2,.int .i64 0,.string ⟨#[]⟩,.slice none 0 0,.slice none 0 0]::_):=hO2;obtain⟨k0,k1,k2,k3,k4⟩:=hO2.obj.cs5;have Hk:=zh (zi hO2.below (HC.out.2.1 rfl rfl));clear hO hO2;go_wp2;refine bodyPost_ret (v:=.tuple #[.agg #[.int .i64 2,.int .i64 0,.string ⟨#[]⟩,.slice none 0 0,.slice none 0 0],.bool true]) (by simp[results,Tryz.results62,go_sem,k0,k1,k2,k3,k4]) rfl ?_
   exact hR.out _ _ ⟨some .fal,rfl,Hk.out.1,Hk.out.2⟩
  | false=>
   cases bt with
   | true=>
    obtain⟨g0,g1,g2,g3,g4,f0,f1,f2,f3,f4⟩:=hO.obj.cf5;have gl:=hO.obj.lt;have hO2:=((((hO.set 0 (.int .i64 2)).set 1 (.int .i64 1)).set 2 (.string ⟨#[]⟩)).set 3 (.slice none 0 0)).set 4 (.slice none 0 0);have hO2:Own _ _ _ _ (.obj _ 85 #[.int .i64 2,.int .i64 1,.string ⟨#[]⟩,.slice none 0 0,.slice none 0 0]::_):=hO2;obtain⟨k0,k1,k2,k3,k4⟩:=hO2.obj.cs5;have Hk:=zh (zi hO2.below (HC.out.2.2.1 rfl rfl rfl));clear hO hO2;go_wp2;refine bodyPost_ret (v:=.tuple #[.agg #[.int .i64 2,.int .i64 1,.string ⟨#[]⟩,.slice none 0 0,.slice none 0 0],.bool true]) (by simp[results,Tryz.results62,go_sem,k0,k1,k2,k3,k4]) rfl ?_
    exact hR.out _ _ ⟨some .tru,rfl,Hk.out.1,Hk.out.2⟩
   | false=>
    cases rn with
    | some u=>
     obtain⟨g0,g1,g2,g3,g4,f0,f1,f2,f3,f4⟩:=hO.obj.cf5;have gl:=hO.obj.lt;have hO2:=((((hO.set 0 (.int .i64 3)).set 1 (.int .i64 u)).set 2 (.string ⟨#[]⟩)).set 3 (.slice none 0 0)).set 4 (.slice none 0 0);have hO2:Own _ _ _ _ (.obj _ 85 #[.int .i64 3,.int .i64 u,.string ⟨#[]⟩,.slice none 0 0,.slice none 0 0]::_):=hO2;obtain⟨k0,k1,k2,k3,k4⟩:=hO2.obj.cs5;have Hk:=zh (zi hO2.below (HC.out.2.2.2.1 rfl rfl rfl u rfl));clear hO hO2;go_wp2;refine bodyPost_ret (v:=.tuple #[.agg #[.int .i64 3,.int .i64 u,.string ⟨#[]⟩,.slice none 0 0,.slice none 0 0],.bool true]) (by simp[results,Tryz.results62,go_sem,k0,k1,k2,k3,k4]) rfl ?_
     exact hR.out _ _ ⟨some (.num u),rfl,Hk.out.1,Hk.out.2⟩
    | none=>
     cases o with
     | some z=>
      have hz:ostr (some z)=bstr z:=rfl;rw[hz];obtain⟨g0,g1,g2,g3,g4,f0,f1,f2,f3,f4⟩:=hO.obj.cf5;have gl:=hO.obj.lt;have hO2:=((((hO.set 0 (.int .i64 4)).set 1 (.int .i64 0)).set 2 (.string (bstr z))).set 3 (.slice none 0 0)).set 4 (.slice none 0 0);have hO2:Own _ _ _ _ (.obj _ 85 #[.int .i64 4,.int .i64 0,.string (bstr z),.slice none 0 0,.slice none 0 0]::_):=hO2;obtain⟨k0,k1,k2,k3,k4⟩:=hO2.obj.cs5;have Hk:=zh (zi hO2.below (HC.out.2.2.2.2 rfl rfl rfl rfl (some z) HOS.out));clear hO hO2;go_wp2;refine bodyPost_ret (v:=.tuple #[.agg #[.int .i64 4,.int .i64 0,.string (bstr z),.slice none 0 0,.slice none 0 0],.bool true]) (by simp[results,Tryz.results62,go_sem,k0,k1,k2,k3,k4]) rfl ?_
      exact hR.out _ _ ⟨some (.str z),rfl,Hk.out.1,Hk.out.2⟩
     | none=>
      have hz:ostr none=⟨#[]⟩:=rfl;rw[hz];obtain⟨g0,g1,g2,g3,g4,f0,f1,f2,f3,f4⟩:=hO.obj.cf5;have gl:=hO.obj.lt;have hO2:=((((hO.set 0 (.int .i64 0)).set 1 (.int .i64 0)).set 2 (.string ⟨#[]⟩)).set 3 (.slice none 0 0)).set 4 (.slice none 0 0);have hO2:Own _ _ _ _ (.obj _ 85 #[.int .i64 0,.int .i64 0,.string ⟨#[]⟩,.slice none 0 0,.slice none 0 0]::_):=hO2;obtain⟨k0,k1,k2,k3,k4⟩:=hO2.obj.cs5;have Hk:=zh (zi hO2.below (HC.out.2.2.2.2 rfl rfl rfl rfl none HOS.out));clear hO hO2;go_wp2;refine bodyPost_ret (v:=.tuple #[.agg #[.int .i64 0,.int .i64 0,.string ⟨#[]⟩,.slice none 0 0,.slice none 0 0],.bool false]) (by simp[results,Tryz.results62,go_sem,k0,k1,k2,k3,k4]) rfl ?_;exact hR.out _ _ ⟨none,rfl,Hk.out.1,Hk.out.2⟩
theorem Aw {s:RS} {r:Option El} (h:jU (pI s).has r):ng s = !r.isSome:=by
 cases r with
 | none=>rw[Dr h];rfl
 | some e=>rw[Dq h];rfl
theorem Ci (vi vf vt:Value) (s:RS) (m:Mem) (w:World) (hm:m.inn w) (htab:TabM m) (hs:ScAt m vi vf vt s) (hl:ScLe s 30000 100000) :
 Calls Tryz.prog 44 #[s.val vi vf vt] w fun e w'=>e=.returned (.bool (ng s))∧Below w.heap.size w w':=by
 have hO:=(Own.start hm).al #[.bool s.nul,.bool s.fal,.bool s.tru,vi,vf,vt] 29;have HL:=zh (Ch vi vf vt s m _ hO.inn htab hs hl);obtain⟨a1,b1,a2,b2,a3,b3,rfl,rfl,rfl⟩:=hs.spell;unfold RS.val at HL ⊢;have HO:=zh hO;clear hO hs;refine ay fun R hR=>?_
 go_enter Tryz.func44,Tryz.ntmps44
 go_wp2_with fail
 refine HL.out.mono ?_;rintro e w1 ⟨r,rfl,hb1,hr⟩;have HE:=zh (Aw hr);have HB:=zh (HO.out.move hb1).below;unfold Dt.val;generalize r.isSome=b at *
 generalize (lstD r).kind=k at *
 generalize (lstD r).num=n at *
 generalize (lstD r).str=st at *
 clear HO HL hb1 hr;go_wp2;exact hR.out _ _ ⟨aJ (by rw[HE.out]),bO HB.out _⟩
end Cl
