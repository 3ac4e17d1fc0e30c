/- Lemmas for the proofs of chapter 11. -/
import Derived.Test.YtdgjplfcpcphoaaGreatDoorProg
import Derived.BigQuiet
import Derived.Deep.Cut
import Derived.Deep.QuietTactic
import Derived.Laws.StructEq
import Derived.Lib.AppendStr
import Derived.Lib.Builder
import Derived.Lib.Hide
import Derived.Lib.ItoaLen
import Derived.Maps.OwnOps
import Derived.Maps.OwnSet
import Derived.OrdersHeld
import Derived.Outline
import Derived.StillTailTactics
import Derived.StringKeys
import Derived.WalkKit
import Derived.WalkLawsBesides
import Derived.WalkSpells
import Derived.Deep.RegionHeld
import Derived.RangeFuncNested
import Derived.RangeFuncBound
import Derived.RangeFuncCalls
import Derived.RangeFuncLeaves
import Derived.OwnWalkIn
import Derived.TacticsInMore
import Derived.LoopNIn
import Derived.LoopIn
import Derived.Shelf.Strings.Builder1
import Derived.Shelf.Small.Wraps
import Derived.Shelf.LaysM
import Derived.Shelf.Strconv.Itoa3
import Derived.Shelf.SlSortCmp.WholeK
import Derived.Laws.EntriesVeiled
import Derived.Laws.CopyOwn
import Derived.RegionTactic
import Derived.Test.YtdgjplfcpcphoaaGreatDoorZz
import Derived.Test.YtdgjplfcpcphoaaGreatDoorPkX3
import Derived.Test.YtdgjplfcpcphoaaGreatDoorPkX4
import Derived.Test.YtdgjplfcpcphoaaGreatDoorPkX5
import Derived.Test.YtdgjplfcpcphoaaGreatDoorPkX1
import Derived.Test.YtdgjplfcpcphoaaGreatDoorPkX2
import Derived.Test.YtdgjplfcpcphoaaGreatDoorPkX10
import Derived.Test.YtdgjplfcpcphoaaGreatDoorPkX9
import Derived.Test.YtdgjplfcpcphoaaGreatDoorPkX6
import Derived.Test.YtdgjplfcpcphoaaGreatDoorPkX7
import Derived.Test.YtdgjplfcpcphoaaGreatDoorPkX11
import Derived.Test.YtdgjplfcpcphoaaGreatDoorPkX8
set_option maxRecDepth 100000
set_option maxHeartbeats 16000000
namespace Cl
open Go Go.RowKit Go.Proofs
theorem vw {m:Mem} {v:Value} {l:Table} (h:aR m v l):∃a c,v=.slice a l.length c:=by obtain⟨x,y,e,-⟩:=h;exact⟨x,y,e⟩
theorem ScAt.spell {m:Mem} {vi vf vt:Value} {s:RS} (h:ScAt m vi vf vt s):∃a b c d e f,vi=.slice a s.i.length b∧vf=.slice c s.f.length d∧vt=.slice e s.t.length f:=by
 obtain⟨a,b,h1⟩:=bW h.i;obtain⟨c,d,h2⟩:=bW h.f;obtain⟨e,f,h3⟩:=vw h.t;exact⟨a,b,c,d,e,f,h1,h2,h3⟩
theorem ScAt.nums {m:Mem} {vi vf vt:Value} {s:RS} (h:ScAt m vi vf vt s):eF m vi vf s.i s.f:=⟨h.i,h.f⟩
structure ScLe (s:RS) (n t:Nat):Prop where
 i:s.i.length≤n
 f:s.f.length≤n
 t:s.t.length≤t
theorem ScLe.mono {s:RS} {n t n' t':Nat} (h:ScLe s n t) (h1:n≤n') (h2:t≤t'):ScLe s n' t':=⟨Nat.le_trans h.i h1,Nat.le_trans h.f h1,Nat.le_trans h.t h2⟩
theorem Kk (n t:Nat):ScLe dJ n t:=⟨Nat.zero_le _,Nat.zero_le _,Nat.zero_le _⟩
theorem LX {s:RS} {n t:Nat} (h:ScLe s n t):ScLe (pI s) n t:=by
 unfold pI
 split
 ·exact h
 ·exact Kk n t
theorem RS.zt (s:RS):s.iy↔(s.i=(mkN s.i s.f).i∧s.f=(mkN s.i s.f).rf)∧Canon s.t:=⟨fun h=>⟨⟨h.ei,h.ef⟩,h.ct⟩,fun h=>⟨h.1.1,h.1.2,h.2⟩⟩
theorem tH (vi vf vt:Value) (s:RS) (m:Mem) (w:World) (hm:m.inn w) (htab:TabM m) (hs:ScAt m vi vf vt s) (hl:ScLe s 100000 1000000) :
 Calls Tryz.prog 106 #[s.val vi vf vt] w fun e w'=>e=.returned (.bool (tf s.iy))∧Below w.heap.size w w':=by
 have hO:=(Own.start hm).al #[.bool s.nul,.bool s.fal,.bool s.tru,vi,vf,vt] 29;have HN:=zh (CK _ _ s.i s.f m _ hO.inn hs.nums hl.i hl.f);have HT:=zh (fun w' (h:m.inn w')=>oz _ s.t m w' h htab hs.t hl.t);have HE:=zh (RS.zt s);obtain⟨a1,b1,a2,b2,a3,b3,rfl,rfl,rfl⟩:=hs.spell;unfold RS.val;have HO:=zh hO;clear hO hs;generalize s.nul=bn at *
 generalize s.fal=bf at *
 generalize s.tru=bt at *
 refine ay fun R hR=>?_
 go_enter Tryz.func106,Tryz.ntmps106
 go_wp2_with fail
 refine HN.out.mono ?_;rintro e w1 ⟨rfl,hb1⟩;have hO:=HO.out.move hb1;clear HN HO hb1;by_cases h1:s.i=(mkN s.i s.f).i∧s.f=(mkN s.i s.f).rf
 ·rw[aI h1];have q5:=hO.obj.cell (i:=5) rfl;have q6:=hO.obj.lt;have HO:=zh hO;have HE2:=zh (show s.iy↔Canon s.t from HE.out.trans ⟨fun h=>h.2,fun h=>⟨h1,h⟩⟩);clear hO HE h1
  go_wp2_with fail
  refine (HT.out _ HO.out.inn).mono ?_;rintro e w2 ⟨rfl,hb2⟩;have HB:=zh (HO.out.move hb2).below;clear HO HT hb2 q5 q6;generalize hc:tf (Canon s.t)=tc at *
  have HC:=zh (show tc=tf s.iy by rw[← hc];exact (aZ HE2.out).symm);clear hc;go_wp2;exact hR.out _ _ ⟨aJ (by rw[← HC.out]),HB.out⟩
 ·rw[az h1];have HB:=zh hO.below;have HE2:=zh (show ¬ s.iy from fun h=>h1 (HE.out.1 h).1);clear hO HE h1 HT;go_wp2;exact hR.out _ _ ⟨aJ (by rw[az HE2.out]),HB.out⟩
theorem ScAt.empty (m:Mem):ScAt m (.slice none 0 0) (.slice none 0 0) (.slice none 0 0) dJ:=⟨iX m,iX m,fE m⟩
theorem FT (vi vf vt:Value) (s:RS) (m:Mem) (w:World) (hm:m.inn w) (htab:TabM m) (hs:ScAt m vi vf vt s) (hl:ScLe s 100000 1000000) :
 Calls Tryz.prog 92 #[s.val vi vf vt] w fun e w'=>∃ui uf ut,e=.returned ((pI s).val ui uf ut)∧Below w.heap.size w w'∧ScAt (m.grow w w') ui uf ut (pI s):=by
 have hO:=((Own.start hm).al #[.bool s.nul,.bool s.fal,.bool s.tru,vi,vf,vt] 29).al #[.bool false,.bool false,.bool false,.slice none 0 0,.slice none 0 0,.slice none 0 0] 29;simp only[bB] at hO;have HV:=zh (tH vi vf vt s m _ hO.inn htab hs hl);have HG:=zh (zi (fun h:s.iy=>EM h) (fun h:¬ s.iy=>J7 h));have HS:=zh hs;obtain⟨a1,b1,a2,b2,a3,b3,rfl,rfl,rfl⟩:=hs.spell;unfold RS.val at HV ⊢;have HO:=zh hO;clear hO hs;refine ay fun R hR=>?_
 go_enter Tryz.func92,Tryz.ntmps92
 go_wp2_with fail
 refine HV.out.mono ?_;rintro e w1 ⟨rfl,hb1⟩;have hO:=HO.out.move hb1;clear HV HO hb1;obtain⟨g0,g1,g2,g3,g4,g5,f0,f1,f2,f3,f4,f5⟩:=hO.obj.cf6;have gl:=hO.obj.lt;by_cases hv:s.iy
 ·rw[aI hv];obtain⟨q0,q1,q2,q3,q4,q5⟩:=hO.swap.obj.cs6;have ql:=hO.swap.obj.lt;have hO2:=(((((hO.set 0 (.bool s.nul)).set 1 (.bool s.fal)).set 2 (.bool s.tru)).set 3 (.slice a1 s.i.length b1)).set 4 (.slice a2 s.f.length b2)).set 5 (.slice a3 s.t.length b3);obtain⟨k0,k1,k2,k3,k4,k5⟩:=hO2.obj.cs6;have Hk:=zh (zi hO2.below (zi (HS.out.le hO2.done) (HG.out.1 hv)));clear hO hO2 HG hv;go_wp2;refine bodyPost_ret (v:=.agg #[.bool s.nul,.bool s.fal,.bool s.tru,.slice a1 s.i.length b1,.slice a2 s.f.length b2,.slice a3 s.t.length b3]) (by simp[results,Tryz.results92,go_sem,k0,k1,k2,k3,k4,k5]) rfl ?_;exact hR.out _ _ ⟨_,_,_,by rw[Hk.out.2.2],Hk.out.1,by rw[Hk.out.2.2];exact Hk.out.2.1⟩
 ·rw[az hv];have hO2:=(((((hO.set 0 (.bool false)).set 1 (.bool false)).set 2 (.bool false)).set 3 (.slice none 0 0)).set 4 (.slice none 0 0)).set 5 (.slice none 0 0);obtain⟨k0,k1,k2,k3,k4,k5⟩:=hO2.obj.cs6;have Hk:=zh (zi hO2.below (HG.out.2 hv));clear hO hO2 HG hv;go_wp2;refine bodyPost_ret (v:=.agg #[.bool false,.bool false,.bool false,.slice none 0 0,.slice none 0 0,.slice none 0 0]) (by simp[results,Tryz.results92,go_sem,k0,k1,k2,k3,k4,k5]) rfl ?_;exact hR.out _ _ ⟨_,_,_,by rw[Hk.out.2];rfl,Hk.out.1,by rw[Hk.out.2];exact ScAt.empty _⟩
theorem RS.eq_iff (a b:RS):a=b↔a.nul=b.nul∧a.fal=b.fal∧a.tru=b.tru∧(a.i=b.i∧a.f=b.f)∧a.t=b.t:=by
 constructor
 ·rintro rfl;exact⟨rfl,rfl,rfl,⟨rfl,rfl⟩,rfl⟩
 ·rintro ⟨h1,h2,h3,⟨h4,h5⟩,h6⟩;obtain⟨n,f,t,i,g,T⟩:=a;obtain⟨n',f',t',i',g',T'⟩:=b;simp only at h1 h2 h3 h4 h5 h6;rw[h1,h2,h3,h4,h5,h6]
def MZ (s:RS):Prop:=s.i.length≤8∧s.f.length≤8∧gH s.t
end Cl
