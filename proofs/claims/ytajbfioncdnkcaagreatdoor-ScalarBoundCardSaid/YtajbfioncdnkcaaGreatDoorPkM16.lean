/- Lemmas for the proofs of chapter 11. -/
import Derived.Test.YtajbfioncdnkcaaGreatDoorProg
import Derived.BigQuiet
import Derived.Deep.Cut
import Derived.Deep.QuietTactic
import Derived.Laws.StructEq
import Derived.Lib.AppendStr
import Derived.Lib.Builder
import Derived.Lib.Hide
import Derived.Lib.ItoaLen
import Derived.Maps.OwnOps
import Derived.Maps.OwnSet
import Derived.OrdersHeld
import Derived.Outline
import Derived.StillTailTactics
import Derived.StringKeys
import Derived.WalkKit
import Derived.WalkLawsBesides
import Derived.WalkSpells
import Derived.Deep.RegionHeld
import Derived.RangeFuncNested
import Derived.RangeFuncBound
import Derived.RangeFuncCalls
import Derived.RangeFuncLeaves
import Derived.OwnWalkIn
import Derived.TacticsInMore
import Derived.LoopNIn
import Derived.LoopIn
import Derived.Shelf.Strings.Builder1
import Derived.Shelf.Small.Wraps
import Derived.Shelf.LaysM
import Derived.Shelf.Strconv.Itoa3
import Derived.Shelf.SlSortCmp.WholeK
import Derived.Laws.EntriesVeiled
import Derived.Laws.CopyOwn
import Derived.RegionTactic
import Derived.ChangeAlike
import Derived.Shelf.Spec.SlicesGrow
import Derived.Laws.BytesArg
import Derived.Test.YtajbfioncdnkcaaGreatDoorZz
import Derived.Test.YtajbfioncdnkcaaGreatDoorPkM3
import Derived.Test.YtajbfioncdnkcaaGreatDoorPkM4
import Derived.Test.YtajbfioncdnkcaaGreatDoorPkM1
import Derived.Test.YtajbfioncdnkcaaGreatDoorPkM2
import Derived.Test.YtajbfioncdnkcaaGreatDoorPkM8
import Derived.Test.YtajbfioncdnkcaaGreatDoorPkM7
import Derived.Test.YtajbfioncdnkcaaGreatDoorPkM6
import Derived.Test.YtajbfioncdnkcaaGreatDoorPkM9
import Derived.Test.YtajbfioncdnkcaaGreatDoorPkM5
import Derived.Test.YtajbfioncdnkcaaGreatDoorPkM10
import Derived.Test.YtajbfioncdnkcaaGreatDoorPkM11
import Derived.Test.YtajbfioncdnkcaaGreatDoorPkM12
import Derived.Test.YtajbfioncdnkcaaGreatDoorPkM13
import Derived.Test.YtajbfioncdnkcaaGreatDoorPkM14
import Derived.Test.YtajbfioncdnkcaaGreatDoorPkM15
set_option maxRecDepth 100000
set_option maxHeartbeats 16000000
namespace Cl
open Go Go.RowKit Go.Proofs
theorem eU {m:Mem} {v:Value} {l:Table} (h:aI m v l):∃a c,v=.slice a l.length c:=by obtain⟨x,y,e,-⟩:=h;exact⟨x,y,e⟩
theorem ScAt.spell {m:Mem} {vi vf vt:Value} {s:RS} (h:ScAt m vi vf vt s):∃a b c d e f,vi=.slice a s.i.length b∧vf=.slice c s.f.length d∧vt=.slice e s.t.length f:=by
 obtain⟨a,b,h1⟩:=bZ h.i;obtain⟨c,d,h2⟩:=bZ h.f;obtain⟨e,f,h3⟩:=eU h.t;exact⟨a,b,c,d,e,f,h1,h2,h3⟩
theorem ScAt.nums {m:Mem} {vi vf vt:Value} {s:RS} (h:ScAt m vi vf vt s):bF m vi vf s.i s.f:=⟨h.i,h.f⟩
structure ScLe (s:RS) (n t:Nat):Prop where
 i:s.i.length≤n
 f:s.f.length≤n
 t:s.t.length≤t
theorem ScLe.mono {s:RS} {n t n' t':Nat} (h:ScLe s n t) (h1:n≤n') (h2:t≤t'):ScLe s n' t':=⟨Nat.le_trans h.i h1,Nat.le_trans h.f h1,Nat.le_trans h.t h2⟩
theorem fK (n t:Nat):ScLe dO n t:=⟨Nat.zero_le _,Nat.zero_le _,Nat.zero_le _⟩
theorem kE {s:RS} {n t:Nat} (h:ScLe s n t):ScLe (bU s) n t:=by
 unfold bU
 split
 ·exact h
 ·exact fK n t
theorem RS.DZ (s:RS):s.gK↔(s.i=(mkN s.i s.f).i∧s.f=(mkN s.i s.f).rf)∧Canon s.t:=⟨fun h=>⟨⟨h.ei,h.ef⟩,h.ct⟩,fun h=>⟨h.1.1,h.1.2,h.2⟩⟩
theorem fC (vi vf vt:Value) (s:RS) (m:Mem) (w:World) (hm:m.inn w) (htab:TabM m) (hs:ScAt m vi vf vt s) (hl:ScLe s 100000 1000000) :
 Calls Tryz.prog 19 #[s.val vi vf vt] w fun e w'=>e=.returned (.bool (tf s.gK))∧Below w.heap.size w w':=by
 have hO:=(Own.start hm).al #[.bool s.nul,.bool s.fal,.bool s.tru,vi,vf,vt] 29;have HN:=zh (GV _ _ s.i s.f m _ hO.inn hs.nums hl.i hl.f);have HT:=zh (fun w' (h:m.inn w')=>Ap _ s.t m w' h htab hs.t hl.t);have HE:=zh (RS.DZ s);obtain⟨a1,b1,a2,b2,a3,b3,rfl,rfl,rfl⟩:=hs.spell;unfold RS.val;have HO:=zh hO;clear hO hs;generalize s.nul=bn at *
 generalize s.fal=bf at *
 generalize s.tru=bt at *
 refine aj fun R hR=>?_
 go_enter Tryz.func19,Tryz.ntmps19
 go_wp2_with fail
 refine HN.out.mono ?_;rintro e w1 ⟨rfl,hb1⟩;have hO:=HO.out.move hb1;clear HN HO hb1;by_cases h1:s.i=(mkN s.i s.f).i∧s.f=(mkN s.i s.f).rf
 ·rw[aN h1];have q5:=hO.obj.cell (i:=5) rfl;have q6:=hO.obj.lt;have HO:=zh hO;have HE2:=zh (show s.gK↔Canon s.t from HE.out.trans ⟨fun h=>h.2,fun h=>⟨h1,h⟩⟩);clear hO HE h1
  go_wp2_with fail
  refine (HT.out _ HO.out.inn).mono ?_;rintro e w2 ⟨rfl,hb2⟩;have HB:=zh (HO.out.move hb2).below;clear HO HT hb2 q5 q6;generalize hc:tf (Canon s.t)=tc at *
  have HC:=zh (show tc=tf s.gK by rw[← hc];exact (fT HE2.out).symm);clear hc;go_wp2;exact hR.out _ _ ⟨aQ (by rw[← HC.out]),HB.out⟩
 ·rw[aL h1];have HB:=zh hO.below;have HE2:=zh (show ¬ s.gK from fun h=>h1 (HE.out.1 h).1);clear hO HE h1 HT;go_wp2;exact hR.out _ _ ⟨aQ (by rw[aL HE2.out]),HB.out⟩
theorem ScAt.empty (m:Mem):ScAt m (.slice none 0 0) (.slice none 0 0) (.slice none 0 0) dO:=⟨aR m,aR m,aZ m⟩
theorem vO (vi vf vt:Value) (s:RS) (m:Mem) (w:World) (hm:m.inn w) (htab:TabM m) (hs:ScAt m vi vf vt s) (hl:ScLe s 100000 1000000) :
 Calls Tryz.prog 90 #[s.val vi vf vt] w fun e w'=>∃ui uf ut,e=.returned ((bU s).val ui uf ut)∧Below w.heap.size w w'∧ScAt (m.grow w w') ui uf ut (bU s):=by
 have hO:=((Own.start hm).al #[.bool s.nul,.bool s.fal,.bool s.tru,vi,vf,vt] 29).al #[.bool false,.bool false,.bool false,.slice none 0 0,.slice none 0 0,.slice none 0 0] 29;simp only[df] at hO;have HV:=zh (fC vi vf vt s m _ hO.inn htab hs hl);have HG:=zh (zi (fun h:s.gK=>jJ h) (fun h:¬ s.gK=>zL h));have HS:=zh hs;obtain⟨a1,b1,a2,b2,a3,b3,rfl,rfl,rfl⟩:=hs.spell;unfold RS.val at HV ⊢;have HO:=zh hO;clear hO hs;refine aj fun R hR=>?_
 go_enter Tryz.func90,Tryz.ntmps90
 go_wp2_with fail
 refine HV.out.mono ?_;rintro e w1 ⟨rfl,hb1⟩;have hO:=HO.out.move hb1;clear HV HO hb1;obtain⟨g0,g1,g2,g3,g4,g5,f0,f1,f2,f3,f4,f5⟩:=hO.obj.cf6;have gl:=hO.obj.lt;by_cases hv:s.gK
 ·rw[aN hv];obtain⟨q0,q1,q2,q3,q4,q5⟩:=hO.swap.obj.cs6;have ql:=hO.swap.obj.lt;have hO2:=(((((hO.set 0 (.bool s.nul)).set 1 (.bool s.fal)).set 2 (.bool s.tru)).set 3 (.slice a1 s.i.length b1)).set 4 (.slice a2 s.f.length b2)).set 5 (.slice a3 s.t.length b3);obtain⟨k0,k1,k2,k3,k4,k5⟩:=hO2.obj.cs6;have Hk:=zh (zi hO2.below (zi (HS.out.le hO2.done) (HG.out.1 hv)));clear hO hO2 HG hv;go_wp2;refine bodyPost_ret (v:=.agg #[.bool s.nul,.bool s.fal,.bool s.tru,.slice a1 s.i.length b1,.slice a2 s.f.length b2,.slice a3 s.t.length b3]) (by simp[results,Tryz.results90,go_sem,k0,k1,k2,k3,k4,k5]) rfl ?_;exact hR.out _ _ ⟨_,_,_,by rw[Hk.out.2.2],Hk.out.1,by rw[Hk.out.2.2];exact Hk.out.2.1⟩
 ·rw[aL hv];have hO2:=(((((hO.set 0 (.bool false)).set 1 (.bool false)).set 2 (.bool false)).set 3 (.slice none 0 0)).set 4 (.slice none 0 0)).set 5 (.slice none 0 0);obtain⟨k0,k1,k2,k3,k4,k5⟩:=hO2.obj.cs6;have Hk:=zh (zi hO2.below (HG.out.2 hv));clear hO hO2 HG hv;go_wp2;refine bodyPost_ret (v:=.agg #[.bool false,.bool false,.bool false,.slice none 0 0,.slice none 0 0,.slice none 0 0]) (by simp[results,Tryz.results90,go_sem,k0,k1,k2,k3,k4,k5]) rfl ?_;exact hR.out _ _ ⟨_,_,_,by rw[Hk.out.2];rfl,Hk.out.1,by rw[Hk.out.2];exact ScAt.empty _⟩
theorem RS.eq_iff (a b:RS):a=b↔a.nul=b.nul∧a.fal=b.fal∧a.tru=b.tru∧(a.i=b.i∧a.f=b.f)∧a.t=b.t:=by
 constructor
 ·rintro rfl;exact⟨rfl,rfl,rfl,⟨rfl,rfl⟩,rfl⟩
 ·rintro ⟨h1,h2,h3,⟨h4,h5⟩,h6⟩;obtain⟨n,f,t,i,g,T⟩:=a;obtain⟨n',f',t',i',g',T'⟩:=b;simp only at h1 h2 h3 h4 h5 h6;rw[h1,h2,h3,h4,h5,h6]
theorem Cq (m:Mem) (w:World) (_:m.inn w) :
 Calls Tryz.prog 56 #[] w fun e w'=>∃r,e=.returned (.agg #[r])∧Below w.heap.size w w'∧aI (m.grow w w') r allT:=by
 refine (Aq w).mono ?_;rintro e w' ⟨g1,g2,rfl,hb,h1,h2,h3,h4,h5⟩;refine ⟨_,rfl,hb,?_⟩;refine ⟨some ⟨g2,0,none⟩,1,rfl,Nat.le_refl _,by simp[maxLen],fun _=>⟨g2,0,rfl,fun i hi=>?_⟩⟩;obtain rfl:i=0:=by simp[allT] at hi;omega
 refine ⟨dH h2 (h5.cell (i:=0) rfl),.slice (some ⟨g1,0,none⟩) 1 1,dH h2 (h5.cell (i:=1) rfl),?_⟩;refine ⟨some ⟨g1,0,none⟩,1,rfl,Nat.le_refl _,by simp[maxLen],fun _=>⟨g1,0,rfl,fun i hi=>?_⟩⟩;obtain rfl:i=0:=by simp[allT] at hi;omega
 exact⟨dH h1 (h4.cell (i:=0) rfl),dH h1 (h4.cell (i:=1) rfl),dH h1 (h4.cell (i:=2) rfl),by simp[allT]⟩
def allS:RS:=⟨true,true,true,eY,nU,allT⟩
theorem R4:allS=⟨true,true,true,allN.i,allN.rf,allT⟩:=by rw[P6,Me];rfl
theorem nX:ScIs elOk allS:=by
 rw[R4];exact ja (by simp[elOk]) (by simp[elOk]) (by simp[elOk]) IG Qv O6.canon (fun w=>by simp[Dz,elOk])
theorem qF:ScLe allS 1 1:=⟨Nat.le_refl _,Nat.le_refl _,Nat.le_refl _⟩
theorem oh (m:Mem) (w:World) (hm:m.inn w) :
 Calls Tryz.prog 22 #[] w fun e w'=>∃ui uf ut,e=.returned (allS.val ui uf ut)∧Below w.heap.size w w'∧ScAt (m.grow w w') ui uf ut allS:=by
 have hO:=(Own.start hm).al #[.bool false,.bool false,.bool false,.slice none 0 0,.slice none 0 0,.slice none 0 0] 29;have HI:=zh (zn m _ hO.inn);have HO:=zh hO;clear hO;refine aj fun R hR=>?_
 go_enter Tryz.func22,Tryz.ntmps22
 go_wp2_with fail
 refine HI.out.mono ?_;rintro e w1 ⟨ri,rf,rfl,hb1,hr1⟩;have hO1:=HO.out.call hb1;have HT:=zh (Cq _ w1 hO1.inn);obtain⟨a,c,b,d,rfl,rfl⟩:=hr1.spell;have HO1:=zh (zi hr1 hO1);clear HI HO hb1 hr1 hO1
 go_wp2_with fail
 refine HT.out.mono ?_;rintro e w2 ⟨rt,rfl,hb2,hr2⟩;have hO:=HO1.out.2.call hb2;have hN:=HO1.out.1.le (Mem.eO HO1.out.2.inn (w:=w2));obtain⟨ta,tc,rfl⟩:=eU hr2;obtain⟨g0,g1,g2,g3,g4,g5,f0,f1,f2,f3,f4,f5⟩:=hO.obj.cf6;have gl:=hO.obj.lt;have hO2:=(((((hO.set 0 (.bool true)).set 1 (.bool true)).set 2 (.bool true)).set 3 (.slice a eY.length c)).set 4 (.slice b nU.length d)).set 5 (.slice ta allT.length tc);obtain⟨k0,k1,k2,k3,k4,k5⟩:=hO2.obj.cs6;have hS:ScAt _ _ _ _ allS:=⟨hN.i,hN.f,hr2⟩;have Hk:=zh (zi hO2.below (hS.le hO2.done));clear hO hO2 hS hN hr2 hb2 HT HO1;go_wp2;refine bodyPost_ret (v:=.agg #[.bool true,.bool true,.bool true,.slice a eY.length c,.slice b nU.length d,.slice ta allT.length tc]) (by simp[results,Tryz.results22,go_sem,k0,k1,k2,k3,k4,k5]) rfl ?_;exact hR.out _ _ ⟨_,_,_,rfl,Hk.out.1,Hk.out.2⟩
def ScV (s:RS) (M:Mem) (v:Value):Prop:=∃xa xb ya yb za zb,v=.agg #[.bool s.nul,.bool s.fal,.bool s.tru,.slice xa s.i.length xb,.slice ya s.f.length yb,.slice za s.t.length zb]∧ScAt M (.slice xa s.i.length xb) (.slice ya s.f.length yb) (.slice za s.t.length zb) s
theorem qh {M:Mem} {vi vf vt:Value} {s:RS} (h:ScAt M vi vf vt s):ScV s M (s.val vi vf vt):=by
 obtain⟨a,b,c,d,e,f,rfl,rfl,rfl⟩:=h.spell;exact⟨a,b,c,d,e,f,rfl,h⟩
theorem ScV.le {s:RS} {m m':Mem} (h:m.le m') {v:Value} (k:ScV s m v):ScV s m' v:=by
 obtain⟨a,b,c,d,e,f,h1,h2⟩:=k;exact⟨a,b,c,d,e,f,h1,h2.le h⟩
def ScRV (p:El→Prop) (n t:Nat) (M:Mem) (v:Value):Prop:=∃s,ScV s M v∧ScIs p s∧ScLe s n t
structure JM (f1 f2 f3:FuncId) (bop:Bool→Bool→Bool) (nop:NS→NS→NS) (lop:Bool→Bool→Bool) (pop:Prop→Prop→Prop):Prop where
 c1:∀p q w,Calls Tryz.prog f1 #[.bool p,.bool q] w fun e w'=>e=.returned (.bool (bop p q))∧w'=w
 c2:∀(vi vf ui uf:Value) (I F J G:List Spn) (m:Mem) (w:World),m.inn w→bF m vi vf I F→bF m ui uf J G→I.length≤250→F.length≤250→J.length≤250→G.length≤250 →
  Calls Tryz.prog f2 #[.agg #[vi,vf],.agg #[ui,uf]] w fun e w'=>∃ri rf,e=.returned (.agg #[ri,rf])∧Below w.heap.size w w'∧bF (m.grow w w') ri rf (nop (mkN I F) (mkN J G)).i (nop (mkN I F) (mkN J G)).rf
 c3:∀(v0 v1:Value) (A B:Table) (m:Mem) (w:World),m.inn w→TabM m→aI m v0 A→aI m v1 B→Fits A B →
  Calls Tryz.prog f3 #[.agg #[v0],.agg #[v1]] w fun e w'=>∃r C,e=.returned (.agg #[r])∧Below w.heap.size w w'∧aI (m.grow w w') r C∧dX (fun z=>lop (Sem A z) (Sem B z)) C∧C.length≤(A.length+2)*(B.length+2)+1
 e1:∀(args:Array Value) (w:World),(callFunc f1 args).run Tryz.prog w=.ok (.enter f1 args) w
 e2:∀(args:Array Value) (w:World),(callFunc f2 args).run Tryz.prog w=.ok (.enter f2 args) w
 e3:∀(args:Array Value) (w:World),(callFunc f3 args).run Tryz.prog w=.ok (.enter f3 args) w
 ok:∀{x y:NS},NSok x→NSok y→NSok (nop x y)
 has:∀{x y:NS},NSok x→NSok y→∀u,(nop x y).has u↔pop (x.has u) (y.has u)
 le:∀{x y:NS} {k n:Nat},x.Le k→y.Le n→(nop x y).Le (k+n+4)
 bp:∀p q,bop p q=true↔pop (p=true) (q=true)
 lp:∀p q,lop p q=true↔pop (p=true) (q=true)
theorem vP {f1 f2 f3:FuncId} {bop:Bool→Bool→Bool} {nop:NS→NS→NS} {lop:Bool→Bool→Bool} {pop:Prop→Prop→Prop} (HO0:JM f1 f2 f3 bop nop lop pop) (vi vf vt:Value) (A:RS) (ui uf ut:Value) (B:RS) (na ta nb tb:Nat) (m:Mem) (w:World) (hm:m.inn w) (htab:TabM m) (ha:ScAt m vi vf vt A) (hb:ScAt m ui uf ut B) (la:ScLe A na ta) (lb:ScLe B nb tb) (hn1:na≤250) (hn2:nb≤250) (ht:(ta+2)*(tb+2)≤1000000) :
 Calls Tryz.prog 71 #[A.val vi vf vt,B.val ui uf ut,.func (.func f1) #[] #[],.func (.func f2) #[] #[],.func (.func f3) #[] #[]] w fun e w'=>∃s si sf st,e=.returned (s.val si sf st)∧Below w.heap.size w w'∧ScAt (m.grow w w') si sf st s∧ScIs (fun e=>pop ((bU A).has e) ((bU B).has e)) s∧ScLe s (na+nb+4) ((ta+2)*(tb+2)+1):=by
 have hta:ta+2≤(ta+2)*(tb+2):=Nat.le_mul_of_pos_right _ zo;have htb:tb+2≤(ta+2)*(tb+2):=Nat.le_mul_of_pos_left _ zo;have hO:=(((Own.start hm).al #[.bool A.nul,.bool A.fal,.bool A.tru,vi,vf,vt] 29).al #[.bool B.nul,.bool B.fal,.bool B.tru,ui,uf,ut] 29).al #[.bool false,.bool false,.bool false,.slice none 0 0,.slice none 0 0,.slice none 0 0] 29;simp only[df] at hO;have HGA:=zh (fun w' (h:m.inn w')=>vO vi vf vt A m w' h htab ha (la.mono zo zo));have HGB:=zh (fun w' (h:m.inn w')=>vO ui uf ut B m w' h htab hb (lb.mono zo zo));have lx:=kE la;have ly:=kE lb;have HT:=zh htab;have HO0:=zh HO0;obtain⟨aa,ab,ac,ad,ae,af,rfl,rfl,rfl⟩:=ha.spell;obtain⟨ba,bb,bc,bd,be,bf,rfl,rfl,rfl⟩:=hb.spell;unfold RS.val at HGA HGB ⊢;have HO:=zh hO;clear hO ha hb la lb hta htb;generalize bU A=x at *
 generalize bU B=y at *
 refine aj fun R hR=>?_
 go_enter Tryz.func71,Tryz.ntmps71
 go_upto_region 1 with (fail)
 refine aA [2,3,4,5,6,10] (fun vs w'=>∃(mk:Mem) (xa xc xe ya yc ye:Option Addr) (xb xd xf yb yd yf:Nat),vs=[.func (.func f1) #[] #[],.func (.func f2) #[] #[],.func (.func f3) #[] #[],.pointer (some ⟨w.heap.size,0,none⟩),.pointer (some ⟨w.heap.size+1,0,none⟩),.pointer (some ⟨w.heap.size+1+1,0,none⟩)] ∧
  ScAt mk (.slice xa x.i.length xb) (.slice xc x.f.length xd) (.slice xe x.t.length xf) x∧ScAt mk (.slice ya y.i.length yb) (.slice yc y.f.length yd) (.slice ye y.t.length yf) y∧m.le mk ∧
  Own w m w' mk [.obj (w.heap.size+1) 29 #[.bool y.nul,.bool y.fal,.bool y.tru,.slice ya y.i.length yb,.slice yc y.f.length yd,.slice ye y.t.length yf],.obj w.heap.size 29 #[.bool x.nul,.bool x.fal,.bool x.tru,.slice xa x.i.length xb,.slice xc x.f.length xd,.slice xe x.t.length xf],.obj (w.heap.size+1+1) 29 #[.bool false,.bool false,.bool false,.slice none 0 0,.slice none 0 0,.slice none 0 0]]) ?_ ?_
 ·intro X hX;refine aM 4 5 (fun j=>[Fact.is (·=.agg #[.bool A.nul,.bool A.fal,.bool A.tru,.slice aa A.i.length ab,.slice ac A.f.length ad,.slice ae A.t.length af]),Fact.mem m [1] (ScV x),Fact.is (·=.agg #[.bool B.nul,.bool B.fal,.bool B.tru,.slice ba B.i.length bb,.slice bc B.f.length bd,.slice be B.t.length bf]),Fact.mem m [3] (ScV y)].getD j Fact.any) zk zk ?_ ?_
  ·intro i hi o win a wr ho RA;have HO2:=HO.out.dr.move RA.below;obtain⟨p0,p1,p2,p3,p4,p5⟩:=HO2.third.obj.cs6;have pl:=HO2.third.obj.lt;obtain⟨q0,q1,q2,q3,q4,q5⟩:=HO2.swap.obj.cs6;have ql:=HO2.swap.obj.lt;rcases (show i=0∨i=1∨i=2∨i=3 by omega) with rfl | rfl | rfl | rfl
   ·have e5:=RA.k 5;cases ho;exact wv rfl rfl rfl
   ·have e11:a.tmps.getD 11 undef=_:=RA.d 0 rfl;cases ho;refine we rfl rfl (HGA.out wr HO2.inn) ?_;rintro e w' ⟨ri,rf,rt,rfl,hb,hn⟩;exact⟨_,rfl,_,rfl,hb,bH ScV.le HO2.inn hb (qh hn)⟩
   ·have e6:=RA.k 6;cases ho;exact wv rfl rfl rfl
   ·have e13:a.tmps.getD 13 undef=_:=RA.d 2 rfl;cases ho;refine we rfl rfl (HGB.out wr HO2.inn) ?_;rintro e w' ⟨ri,rf,rt,rfl,hb,hn⟩;exact⟨_,rfl,_,rfl,hb,bH ScV.le HO2.inn hb (qh hn)⟩
  ·intro win a wr E;have e2:=E.keep 2 zk;have e3:=E.keep 3 zk;have e4:=E.keep 4 zk;have e5:=E.keep 5 zk;have e6:=E.keep 6 zk;have e10:=E.keep 10 zk;have e12:(Fact.mem m [1] (ScV x)).holds (a.tmps.getD 12 undef) win wr:=E.fact 1 _ zo rfl;have e14:(Fact.mem m [3] (ScV y)).holds (a.tmps.getD 14 undef) win wr:=E.fact 3 _ zo rfl;obtain⟨xa,xb,xc,xd,xe,xf,k1,st1⟩:ScV _ _ _:=e12;obtain⟨ya,yb,yc,yd,ye,yf,k2,st2⟩:ScV _ _ _:=e14;have hmw:=(HO.out.dr.move E.below).inn;have st1:=st1.le (Mem.cO (es:=[1,3]) hmw win zS);have st2:=st2.le (Mem.cO (es:=[1,3]) hmw win zS);have hle:=Mem.dw hmw win [1,3];have hO1:=HO.out.dr.region E.below win [1,3] (fun d hd=>(E.rng d (by simp at hd;omega)).1);have HE:=zh E;generalize m.wins wr win [1,3]=mk2 at *
   have HK:=zh (zi st1 (zi st2 hle));clear E st1 st2 hle hmw;obtain⟨p0,p1,p2,p3,p4,p5,pf0,pf1,pf2,pf3,pf4,pf5⟩:=hO1.third.obj.cf6;have pl:=hO1.third.obj.lt;obtain⟨q0,q1,q2,q3,q4,q5,qf0,qf1,qf2,qf3,qf4,qf5⟩:=hO1.swap.obj.cf6;have ql:=hO1.swap.obj.lt;have hO3:=((((((hO1.third.set 0 (.bool x.nul)).set 1 (.bool x.fal)).set 2 (.bool x.tru)).set 3 (.slice xa x.i.length xb)).set 4 (.slice xc x.f.length xd)).set 5 (.slice xe x.t.length xf));have HO4:=zh ((((((hO3.third.set 0 (.bool y.nul)).set 1 (.bool y.fal)).set 2 (.bool y.tru)).set 3 (.slice ya y.i.length yb)).set 4 (.slice yc y.f.length yd)).set 5 (.slice ye y.t.length yf));clear hO1 hO3;refine bR 4 zk (aB rfl rfl (aS zg ?_));refine bR 5 zk (aB rfl rfl (aS zg ?_));obtain⟨t,d⟩:=a;obtain rfl:d=[]:=HE.out.defers;refine aV zk (hX.out _ _ HE.out.size ⟨mk2,xa,xc,xe,ya,yc,ye,xb,xd,xf,yb,yd,yf,?_,HK.out.1,HK.out.2.1,HK.out.2.2,HO4.out⟩) _;simp only[List.map_cons,List.map_nil,e2,e3,e4,e5,e6,e10]
   rfl
 rintro z2 vs w2 - ⟨mk,xa,xc,xe,ya,yc,ye,xb,xd,xf,yb,yd,yf,rfl,hx,hy,hle,hO⟩;simp[litL,lk];have HX:=zh (zi hx (zi hy (HT.out.le hle)));have HO2:=zh hO;have HL:=zh (zi lx ly);have hmul:(x.t.length+2)*(y.t.length+2)≤(ta+2)*(tb+2):=Nat.mul_le_mul (Nat.add_le_add_right lx.t 2) (Nat.add_le_add_right ly.t 2);have hF:Fits x.t y.t:=Fits.of lx.t ly.t ht;have HF:=zh hF;have hli:=lx.i;have hlf:=lx.f;have hli2:=ly.i;have hlf2:=ly.f;have hNl:=HO0.out.le (fF hli hlf) (fF hli2 hlf2);have hN1:=hNl.i;have hN2:=hNl.f;rw[← NS.ky] at hN2;clear hO hx hy hle HO HGA HGB HT lx ly hF hNl
 go_upto_region 2 with (fail)
 refine aA [10] (fun vs w'=>∃(mk':Mem) (s:RS) (ra rc re:Option Addr) (rb rd rf:Nat),vs=[.pointer (some ⟨w.heap.size+1+1,0,none⟩)] ∧
  ScAt mk' (.slice ra s.i.length rb) (.slice rc s.f.length rd) (.slice re s.t.length rf) s∧ScIs (fun e=>pop (x.has e) (y.has e)) s∧ScLe s (na+nb+4) ((ta+2)*(tb+2)+1) ∧
  Own w m w' mk' [.obj (w.heap.size+1+1) 29 #[.bool s.nul,.bool s.fal,.bool s.tru,.slice ra s.i.length rb,.slice rc s.f.length rd,.slice re s.t.length rf]]) ?_ ?_
 ·intro X hX;refine aM 31 6 (fun j=>[Fact.is (·=.func (.func f1) #[] #[]),Fact.is (·=.pointer (some ⟨w.heap.size,0,none⟩)),Fact.is (·=.bool x.nul),Fact.is (·=.pointer (some ⟨w.heap.size+1,0,none⟩)),Fact.is (·=.bool y.nul),Fact.is (·=.bool (bop x.nul y.nul)),Fact.is (·=.func (.func f1) #[] #[]),Fact.is (·=.pointer (some ⟨w.heap.size,1,none⟩)),Fact.is (·=.bool x.fal),Fact.is (·=.pointer (some ⟨w.heap.size+1,1,none⟩)),Fact.is (·=.bool y.fal),Fact.is (·=.bool (bop x.fal y.fal)),Fact.is (·=.func (.func f1) #[] #[]),Fact.is (·=.pointer (some ⟨w.heap.size,2,none⟩)),Fact.is (·=.bool x.tru),Fact.is (·=.pointer (some ⟨w.heap.size+1,2,none⟩)),Fact.is (·=.bool y.tru),Fact.is (·=.bool (bop x.tru y.tru)),Fact.is (·=.func (.func f2) #[] #[]),Fact.is (·=.pointer (some ⟨w.heap.size,3,none⟩)),Fact.is (·=.agg #[.slice xa x.i.length xb,.slice xc x.f.length xd]),Fact.is (·=.pointer (some ⟨w.heap.size+1,3,none⟩)),Fact.is (·=.agg #[.slice ya y.i.length yb,.slice yc y.f.length yd]),Fact.mem mk [23] (NumV (nop x.ns y.ns).i (nop x.ns y.ns).rf),Fact.is (·=.func (.func f3) #[] #[]),Fact.is (·=.pointer (some ⟨w.heap.size,5,none⟩)),Fact.is (·=.agg #[.slice xe x.t.length xf]),Fact.is (·=.pointer (some ⟨w.heap.size+1,5,none⟩)),Fact.is (·=.agg #[.slice ye y.t.length yf]),Fact.mem mk [29] (vF (fun z=>lop (Sem x.t z) (Sem y.t z)) ((ta+2)*(tb+2)+1)),Fact.mem mk [23,29] (ScRV (fun e=>pop (x.has e) (y.has e)) (na+nb+4) ((ta+2)*(tb+2)+1))].getD j Fact.any) zk zk ?_ ?_
  ·intro i hi o win a wr ho RA;have HO3:=HO2.out.dr.move RA.below;have cf1:=HO0.out.e1;have cf2:=HO0.out.e2;have cf3:=HO0.out.e3;obtain⟨p0,p1,p2,p3,p4,p5⟩:=HO3.swap.obj.cs6;have pl:=HO3.swap.obj.lt;obtain⟨q0,q1,q2,q3,q4,q5⟩:=HO3.obj.cs6;have ql:=HO3.obj.lt;rcases (show i=0∨i=1∨i=2∨i=3∨i=4∨i=5∨i=6∨i=7∨i=8∨i=9∨i=10∨i=11∨i=12∨i=13∨i=14∨i=15∨i=16∨i=17∨i=18∨i=19∨i=20∨i=21∨i=22∨i=23∨i=24∨i=25∨i=26∨i=27∨i=28∨i=29∨i=30 by omega) with rfl | rfl | rfl | rfl | rfl | rfl | rfl | rfl | rfl | rfl | rfl | rfl | rfl | rfl | rfl | rfl | rfl | rfl | rfl | rfl | rfl | rfl | rfl | rfl | rfl | rfl | rfl | rfl | rfl | rfl | rfl
   ·have e2:=RA.k 2;cases ho;exact wv rfl rfl rfl
   ·have e5:=RA.k 5;cases ho;exact wv rfl rfl rfl
   ·have e16:a.tmps.getD 16 undef=_:=RA.d 1 rfl;cases ho;exact wv rfl rfl rfl
   ·have e6:=RA.k 6;cases ho;exact wv rfl rfl rfl
   ·have e18:a.tmps.getD 18 undef=_:=RA.d 3 rfl;cases ho;exact wv rfl rfl rfl
   ·have e15:a.tmps.getD 15 undef=_:=RA.d 0 rfl;have e17:a.tmps.getD 17 undef=_:=RA.d 2 rfl;have e19:a.tmps.getD 19 undef=_:=RA.d 4 rfl;cases ho;refine we rfl rfl (HO0.out.c1 x.nul y.nul wr) ?_;rintro e w' ⟨rfl,rfl⟩;exact⟨_,rfl,_,rfl,Below.refl _ _,rfl⟩
   ·have e2:=RA.k 2;cases ho;exact wv rfl rfl rfl
   ·have e5:=RA.k 5;cases ho;exact wv rfl rfl rfl
   ·have e22:a.tmps.getD 22 undef=_:=RA.d 7 rfl;cases ho;exact wv rfl rfl rfl
   ·have e6:=RA.k 6;cases ho;exact wv rfl rfl rfl
   ·have e24:a.tmps.getD 24 undef=_:=RA.d 9 rfl;cases ho;exact wv rfl rfl rfl
   ·have e21:a.tmps.getD 21 undef=_:=RA.d 6 rfl;have e23:a.tmps.getD 23 undef=_:=RA.d 8 rfl;have e25:a.tmps.getD 25 undef=_:=RA.d 10 rfl;cases ho;refine we rfl rfl (HO0.out.c1 x.fal y.fal wr) ?_;rintro e w' ⟨rfl,rfl⟩;exact⟨_,rfl,_,rfl,Below.refl _ _,rfl⟩
   ·have e2:=RA.k 2;cases ho;exact wv rfl rfl rfl
   ·have e5:=RA.k 5;cases ho;exact wv rfl rfl rfl
   ·have e28:a.tmps.getD 28 undef=_:=RA.d 13 rfl;cases ho;exact wv rfl rfl rfl
   ·have e6:=RA.k 6;cases ho;exact wv rfl rfl rfl
   ·have e30:a.tmps.getD 30 undef=_:=RA.d 15 rfl;cases ho;exact wv rfl rfl rfl
   ·have e27:a.tmps.getD 27 undef=_:=RA.d 12 rfl;have e29:a.tmps.getD 29 undef=_:=RA.d 14 rfl;have e31:a.tmps.getD 31 undef=_:=RA.d 16 rfl;cases ho;refine we rfl rfl (HO0.out.c1 x.tru y.tru wr) ?_;rintro e w' ⟨rfl,rfl⟩;exact⟨_,rfl,_,rfl,Below.refl _ _,rfl⟩
   ·have e3:=RA.k 3;cases ho;exact wv rfl rfl rfl
   ·have e5:=RA.k 5;cases ho;exact wv rfl rfl rfl
   ·have e34:a.tmps.getD 34 undef=_:=RA.d 19 rfl;cases ho;exact wv rfl rfl rfl
   ·have e6:=RA.k 6;cases ho;exact wv rfl rfl rfl
   ·have e36:a.tmps.getD 36 undef=_:=RA.d 21 rfl;cases ho;exact wv rfl rfl rfl
   ·have e33:a.tmps.getD 33 undef=_:=RA.d 18 rfl;have e35:a.tmps.getD 35 undef=_:=RA.d 20 rfl;have e37:a.tmps.getD 37 undef=_:=RA.d 22 rfl;cases ho;refine we rfl rfl (HO0.out.c2 _ _ _ _ x.i x.f y.i y.f mk wr HO3.inn HX.out.1.nums HX.out.2.1.nums zo zo zo zo) ?_;rintro e w' ⟨ri,rf,rfl,hb,hn⟩;exact⟨_,rfl,_,rfl,hb,bH NumV.le HO3.inn hb (iD hn)⟩
   ·have e4:=RA.k 4;cases ho;exact wv rfl rfl rfl
   ·have e5:=RA.k 5;cases ho;exact wv rfl rfl rfl
   ·have e40:a.tmps.getD 40 undef=_:=RA.d 25 rfl;cases ho;exact wv rfl rfl rfl
   ·have e6:=RA.k 6;cases ho;exact wv rfl rfl rfl
   ·have e42:a.tmps.getD 42 undef=_:=RA.d 27 rfl;cases ho;exact wv rfl rfl rfl
   ·have e39:a.tmps.getD 39 undef=_:=RA.d 24 rfl;have e41:a.tmps.getD 41 undef=_:=RA.d 26 rfl;have e43:a.tmps.getD 43 undef=_:=RA.d 28 rfl;cases ho;refine we rfl rfl (HO0.out.c3 _ _ x.t y.t mk wr HO3.inn HX.out.2.2 HX.out.1.t HX.out.2.1.t HF.out) ?_;rintro e w' ⟨r,C,rfl,hb,hst,hl,hn⟩;exact⟨_,rfl,_,rfl,hb,xW HO3.inn hb hst hl zo⟩
   ·have e20:a.tmps.getD 20 undef=_:=RA.d 5 rfl;have e26:a.tmps.getD 26 undef=_:=RA.d 11 rfl;have e32:a.tmps.getD 32 undef=_:=RA.d 17 rfl;have e38:(Fact.mem mk [23] (NumV (nop x.ns y.ns).i (nop x.ns y.ns).rf)).holds (a.tmps.getD 38 undef) win wr:=RA.d 23 rfl;have e44:(Fact.mem mk [29] (vF (fun z=>lop (Sem x.t z) (Sem y.t z)) ((ta+2)*(tb+2)+1))).holds (a.tmps.getD 44 undef) win wr:=RA.d 29 rfl;have f32:=(Array.getD_eq_getD_getElem? (xs:=a.tmps) (i:=32) (d:=undef)).symm.trans e32;have f20:=(Array.getD_eq_getD_getElem? (xs:=a.tmps) (i:=20) (d:=undef)).symm.trans e20;have f26:=(Array.getD_eq_getD_getElem? (xs:=a.tmps) (i:=26) (d:=undef)).symm.trans e26;cases ho;obtain⟨r1,s1,r2,s2,k1,t1⟩:NumV _ _ _ _:=e38;obtain⟨r3,s3,C,k2,t2,l2,n2⟩:vF _ _ _ _:=e44;have f38:=(Array.getD_eq_getD_getElem? (xs:=a.tmps) (i:=38) (d:=undef)).symm.trans k1;have f44:=(Array.getD_eq_getD_getElem? (xs:=a.tmps) (i:=44) (d:=undef)).symm.trans k2;have t1:=t1.le (Mem.cO (es:=[23,29]) HO3.inn win zS);have t2:=aK (Mem.cO (es:=[23,29]) HO3.inn win zS) t2;have hS:ScIs (fun e=>pop (x.has e) (y.has e)) ⟨bop x.nul y.nul,bop x.fal y.fal,bop x.tru y.tru,(nop x.ns y.ns).i,(nop x.ns y.ns).rf,C⟩:=CG (a:=x) (b:=y) pop (HO0.out.bp _ _) (HO0.out.bp _ _) (HO0.out.bp _ _) (HO0.out.ok x.lJ y.lJ) (HO0.out.has x.lJ y.lJ) l2.canon (fun z=>by rw[l2.sem];exact HO0.out.lp _ _);exact aB rfl rfl (aD zg ⟨_,rfl,Below.refl _ _,oU [23,29] (R:=ScRV _ _ _) win zS (fun d hd=>(RA.rng d (by simp at hd;rcases hd with rfl | rfl <;> kernel_rfl)).2.2) ⟨_,⟨r1,s1,r2,s2,r3,s3,rfl,⟨t1.i,t1.f,t2⟩⟩,hS,⟨by show (nop x.ns y.ns).i.length≤_;unfold RS.ns;omega,by show (nop x.ns y.ns).rf.length≤_;unfold RS.ns;omega,n2⟩⟩⟩)
  ·intro win a wr E;have e10:=E.keep 10 zk;have e45:(Fact.mem mk [23,29] (ScRV (fun e=>pop (x.has e) (y.has e)) (na+nb+4) ((ta+2)*(tb+2)+1))).holds (a.tmps.getD 45 undef) win wr:=E.fact 30 _ zo rfl;obtain⟨s,⟨ra,rb,rc,rd,re,rf,k1,st1⟩,hS,hL⟩:ScRV _ _ _ _ _:=e45;have hO1:=HO2.out.dr.region E.below win [23,29] (fun d hd=>(E.rng d (by simp at hd;omega)).1);have HE:=zh E;generalize mk.wins wr win [23,29]=mk2 at *
   have HK:=zh (zi st1 (zi hS hL));clear E st1 hS hL;obtain⟨p0,p1,p2,p3,p4,p5,pf0,pf1,pf2,pf3,pf4,pf5⟩:=hO1.third.obj.cf6;have pl:=hO1.third.obj.lt;have HO4:=zh ((((((hO1.third.set 0 (.bool s.nul)).set 1 (.bool s.fal)).set 2 (.bool s.tru)).set 3 (.slice ra s.i.length rb)).set 4 (.slice rc s.f.length rd)).set 5 (.slice re s.t.length rf));clear hO1;refine bR 31 zk (aB rfl rfl (aS zg ?_));obtain⟨t,d⟩:=a;obtain rfl:d=[]:=HE.out.defers;refine aV zk (hX.out _ _ HE.out.size ⟨mk2,s,ra,rc,re,rb,rd,rf,?_,HK.out.1,HK.out.2.1,HK.out.2.2,HO4.out.drop2.drop2⟩) _;simp only[List.map_cons,List.map_nil,e10]
   rfl
 rintro z3 vs w3 - ⟨mk',s,ra,rc,re,rb,rd,rf,rfl,hs,hS,hL,hO⟩;simp[litL,lk];obtain⟨g0,g1,g2,g3,g4,g5⟩:=hO.obj.cs6;have gl:=hO.obj.lt;have Hk:=zh (zi hO.below (zi (hs.le hO.done) (zi hS hL)));clear hO hs hS hL HO2 HX HF HL hmul hN1 hN2;go_wp2;refine bodyPost_ret (v:=.agg #[.bool s.nul,.bool s.fal,.bool s.tru,.slice ra s.i.length rb,.slice rc s.f.length rd,.slice re s.t.length rf]) (by simp[results,Tryz.results71,go_sem,g0,g1,g2,g3,g4,g5]) rfl ?_;exact hR.out _ _ ⟨s,_,_,_,rfl,Hk.out.1,Hk.out.2.1,Hk.out.2.2.1,Hk.out.2.2.2⟩
theorem Kc (p q:Bool) (w:World):Calls Tryz.prog 76 #[.bool p,.bool q] w fun e w'=>e=.returned (.bool (p&&q))∧w'=w:=by
 refine aj fun R hR=>?_;cases p
 ·go_enter Tryz.func76,Tryz.ntmps76
  go_wp2;exact hR.out _ _ ⟨rfl,rfl⟩
 ·go_enter Tryz.func76,Tryz.ntmps76
  go_wp2;exact hR.out _ _ ⟨by simp <;> rfl,rfl⟩
theorem Tq:JM 76 77 78 (fun p q=>(p&&q)) andN (fun p q=>(p&&q)) (fun p q=>p∧q) where
 c1:=Kc
 c2:=fun vi vf ui uf I F J G m w hm h1 h2 l1 l2 l3 l4=>ER vi vf ui uf I F J G m w hm h1 h2 zo zo zo zo
 c3:=fun v0 v1 A B m w hm ht hA hB hF=>H7 v0 v1 A B m w hm ht hA hB hF
 e1:=fun _ _=>by go_simp
 e2:=fun _ _=>by go_simp
 e3:=fun _ _=>by go_simp
 ok:=fun hx hy=>Dy hx hy
 has:=fun hx hy u=>x9 hx hy u
 le:=fun hx hy=>(IE hx hy).mono zo
 bp:=by intro p q;cases p <;> cases q <;> simp
 lp:=by intro p q;cases p <;> cases q <;> simp
theorem iM (vi vf vt:Value) (A:RS) (ui uf ut:Value) (B:RS) (na ta nb tb:Nat) (m:Mem) (w:World) (hm:m.inn w) (htab:TabM m) (ha:ScAt m vi vf vt A) (hb:ScAt m ui uf ut B) (la:ScLe A na ta) (lb:ScLe B nb tb) (hn1:na≤250) (hn2:nb≤250) (ht:(ta+2)*(tb+2)≤1000000) :
 Calls Tryz.prog 31 #[A.val vi vf vt,B.val ui uf ut] w fun e w'=>∃s si sf st,e=.returned (s.val si sf st)∧Below w.heap.size w w'∧ScAt (m.grow w w') si sf st s∧ScIs (fun e=>(bU A).has e∧(bU B).has e) s∧ScLe s (na+nb+4) ((ta+2)*(tb+2)+1):=by
 have hO:=(((Own.start hm).al #[.bool A.nul,.bool A.fal,.bool A.tru,vi,vf,vt] 29).al #[.bool B.nul,.bool B.fal,.bool B.tru,ui,uf,ut] 29).al #[.bool false,.bool false,.bool false,.slice none 0 0,.slice none 0 0,.slice none 0 0] 29;simp only[df] at hO;have HC:=zh (vP Tq vi vf vt A ui uf ut B na ta nb tb m _ hO.inn htab ha hb la lb hn1 hn2 ht);obtain⟨aa,ab,ac,ad,ae,af,rfl,rfl,rfl⟩:=ha.spell;obtain⟨ba,bb,bc,bd,be,bf,rfl,rfl,rfl⟩:=hb.spell;unfold RS.val at HC ⊢;have HO:=zh hO;clear hO ha hb la lb;refine aj fun R hR=>?_
 go_enter Tryz.func31,Tryz.ntmps31
 go_wp2_with fail
 refine HC.out.mono ?_;rintro e w1 ⟨s,si,sf,st,rfl,hb1,hs,hS,hL⟩;obtain⟨ra,rb,rc,rd,re,rf,rfl,rfl,rfl⟩:=hs.spell;have hO1:=HO.out.call hb1;obtain⟨p0,p1,p2,p3,p4,p5,pf0,pf1,pf2,pf3,pf4,pf5⟩:=hO1.obj.cf6;have pl:=hO1.obj.lt;have hO4:=((((((hO1.set 0 (.bool s.nul)).set 1 (.bool s.fal)).set 2 (.bool s.tru)).set 3 (.slice ra s.i.length rb)).set 4 (.slice rc s.f.length rd)).set 5 (.slice re s.t.length rf));obtain⟨g0,g1,g2,g3,g4,g5⟩:=hO4.obj.cs6;have gl:=hO4.obj.lt;have Hk:=zh (zi hO4.below (zi (hs.le hO4.done) (zi hS hL)));clear hO1 hO4 hs hS hL HC HO hb1;go_wp2;refine bodyPost_ret (v:=.agg #[.bool s.nul,.bool s.fal,.bool s.tru,.slice ra s.i.length rb,.slice rc s.f.length rd,.slice re s.t.length rf]) (by simp[results,Tryz.results31,go_sem,g0,g1,g2,g3,g4,g5]) rfl ?_;exact hR.out _ _ ⟨s,_,_,_,rfl,Hk.out.1,Hk.out.2.1,Hk.out.2.2.1,Hk.out.2.2.2⟩
theorem En (p q:Bool) (w:World):Calls Tryz.prog 72 #[.bool p,.bool q] w fun e w'=>e=.returned (.bool (p && !q))∧w'=w:=by
 refine aj fun R hR=>?_;cases p
 ·go_enter Tryz.func72,Tryz.ntmps72
  go_wp2;exact hR.out _ _ ⟨rfl,rfl⟩
 ·go_enter Tryz.func72,Tryz.ntmps72
  go_wp2;exact hR.out _ _ ⟨by simp <;> rfl,rfl⟩
theorem Rj:JM 72 73 74 (fun p q=>(p && !q)) eT (fun p q=>(p && !q)) (fun p q=>p∧¬ q) where
 c1:=En
 c2:=fun vi vf ui uf I F J G m w hm h1 h2 l1 l2 l3 l4=>sH vi vf I F ui uf J G m w hm h1 h2 zo zo zo zo
 c3:=fun v0 v1 A B m w hm ht hA hB hF=>mh v0 v1 A B m w hm ht hA hB hF
 e1:=fun _ _=>by go_simp
 e2:=fun _ _=>by go_simp
 e3:=fun _ _=>by go_simp
 ok:=fun hx hy=>il hx hy
 has:=fun hx hy u=>gu hx hy u
 le:=fun hx hy=>(uH hx hy).mono zo
 bp:=by intro p q;cases p <;> cases q <;> simp
 lp:=by intro p q;cases p <;> cases q <;> simp
theorem jU (vi vf vt:Value) (A:RS) (ui uf ut:Value) (B:RS) (na ta nb tb:Nat) (m:Mem) (w:World) (hm:m.inn w) (htab:TabM m) (ha:ScAt m vi vf vt A) (hb:ScAt m ui uf ut B) (la:ScLe A na ta) (lb:ScLe B nb tb) (hn1:na≤250) (hn2:nb≤250) (ht:(ta+2)*(tb+2)≤1000000) :
 Calls Tryz.prog 27 #[A.val vi vf vt,B.val ui uf ut] w fun e w'=>∃s si sf st,e=.returned (s.val si sf st)∧Below w.heap.size w w'∧ScAt (m.grow w w') si sf st s∧ScIs (fun e=>(bU A).has e∧¬ (bU B).has e) s∧ScLe s (na+nb+4) ((ta+2)*(tb+2)+1):=by
 have hO:=(((Own.start hm).al #[.bool A.nul,.bool A.fal,.bool A.tru,vi,vf,vt] 29).al #[.bool B.nul,.bool B.fal,.bool B.tru,ui,uf,ut] 29).al #[.bool false,.bool false,.bool false,.slice none 0 0,.slice none 0 0,.slice none 0 0] 29;simp only[df] at hO;have HC:=zh (vP Rj vi vf vt A ui uf ut B na ta nb tb m _ hO.inn htab ha hb la lb hn1 hn2 ht);obtain⟨aa,ab,ac,ad,ae,af,rfl,rfl,rfl⟩:=ha.spell;obtain⟨ba,bb,bc,bd,be,bf,rfl,rfl,rfl⟩:=hb.spell;unfold RS.val at HC ⊢;have HO:=zh hO;clear hO ha hb la lb;refine aj fun R hR=>?_
 go_enter Tryz.func27,Tryz.ntmps27
 go_wp2_with fail
 refine HC.out.mono ?_;rintro e w1 ⟨s,si,sf,st,rfl,hb1,hs,hS,hL⟩;obtain⟨ra,rb,rc,rd,re,rf,rfl,rfl,rfl⟩:=hs.spell;have hO1:=HO.out.call hb1;obtain⟨p0,p1,p2,p3,p4,p5,pf0,pf1,pf2,pf3,pf4,pf5⟩:=hO1.obj.cf6;have pl:=hO1.obj.lt;have hO4:=((((((hO1.set 0 (.bool s.nul)).set 1 (.bool s.fal)).set 2 (.bool s.tru)).set 3 (.slice ra s.i.length rb)).set 4 (.slice rc s.f.length rd)).set 5 (.slice re s.t.length rf));obtain⟨g0,g1,g2,g3,g4,g5⟩:=hO4.obj.cs6;have gl:=hO4.obj.lt;have Hk:=zh (zi hO4.below (zi (hs.le hO4.done) (zi hS hL)));clear hO1 hO4 hs hS hL HC HO hb1;go_wp2;refine bodyPost_ret (v:=.agg #[.bool s.nul,.bool s.fal,.bool s.tru,.slice ra s.i.length rb,.slice rc s.f.length rd,.slice re s.t.length rf]) (by simp[results,Tryz.results27,go_sem,g0,g1,g2,g3,g4,g5]) rfl ?_;exact hR.out _ _ ⟨s,_,_,_,rfl,Hk.out.1,Hk.out.2.1,Hk.out.2.2.1,Hk.out.2.2.2⟩
def typS (n:List UInt8):RS:=
 if n=[110,117,108,108] then ⟨true,false,false,[],[],[]⟩ else if n=[98,111,111,108] then ⟨false,true,true,[],[],[]⟩ else if n=[105,110,116] then ⟨false,false,false,eY,[],[]⟩
 else if n=[110,117,109,98,101,114] then ⟨false,false,false,eY,nU,[]⟩ else if n=[115,116,114,105,110,103] then ⟨false,false,false,[],[],allT⟩ else dO
def typE (n:List UInt8):Int:=if n=[110,117,108,108]∨n=[98,111,111,108]∨n=[105,110,116]∨n=[110,117,109,98,101,114]∨n=[115,116,114,105,110,103] then 0 else 5
theorem Bp (n:ByteArray) (m:Mem) (w:World) (hm:m.inn w) :
 Calls Tryz.prog 15 #[.string n] w fun e w'=>∃si sf st,e=.returned (.tuple #[(typS n.toList).val si sf st,.int .i64 (typE n.toList)])∧Below w.heap.size w w'∧ScAt (m.grow w w') si sf st (typS n.toList):=by
 have hO:=(Own.start hm).al #[.bool false,.bool false,.bool false,.slice none 0 0,.slice none 0 0,.slice none 0 0] 29;have HO:=zh hO;clear hO;refine aj fun R hR=>?_
 go_enter Tryz.func15,Tryz.ntmps15
 go_upto_region 1 with (fail)
 refine aA [2,4] (fun vs w'=>vs=[.pointer (some ⟨w.heap.size,0,none⟩),.string n]∧Own w m w' m [.obj w.heap.size 29 #[.bool false,.bool false,.bool false,.slice none 0 0,.slice none 0 0,.slice none 0 0]]) ?_ ?_
 ·intro Y hY;go_wp2;exact hY.out _ _ rfl ⟨rfl,HO.out⟩
 rintro z0 vs w0 - ⟨rfl,hO⟩;simp[litL,lk];have HI:=zh (BM m _ hO.inn);have HA:=zh (zn m _ hO.inn);have HL:=zh (Cq m _ hO.inn);clear HO;have HO:=zh hO;clear hO;by_cases h0:n.toList=[110,117,108,108]
 ·have b0:(n.toList==[110,117,108,108])=true:=by simp[h0]
  have HF:=zh (show typS n.toList=⟨true,false,false,[],[],[]⟩∧typE n.toList=0 from ⟨by unfold typS;simp[h0],by unfold typE;simp[h0]⟩);clear h0;have hO:=HO.out;have hS:ScAt m (.slice none 0 0) (.slice none 0 0) (.slice none 0 0) ⟨true,false,false,[],[],[]⟩:=⟨aR m,aR m,aZ m⟩;clear HO HI HA HL;obtain⟨g0,g1,g2,g3,g4,g5,gf0,gf1,gf2,gf3,gf4,gf5⟩:=hO.obj.cf6;have gl:=hO.obj.lt;have hO2:Own _ _ _ _ (.obj _ 29 #[.bool true,.bool false,.bool false,.slice none 0 0,.slice none 0 0,.slice none 0 0]::_):=((((((hO.set 0 (.bool true)).set 1 (.bool false)).set 2 (.bool false)).set 3 (.slice none 0 0)).set 4 (.slice none 0 0)).set 5 (.slice none 0 0));obtain⟨k0,k1,k2,k3,k4,k5⟩:=hO2.obj.cs6;have Hk:=zh (zi hO2.below (hS.le hO2.done));clear hO hO2 hS;go_wp2;refine bodyPost_ret (v:=.tuple #[.agg #[.bool true,.bool false,.bool false,.slice none 0 0,.slice none 0 0,.slice none 0 0],.int .i64 0]) (by simp[results,Tryz.results15,go_sem,k0,k1,k2,k3,k4,k5]) rfl ?_;exact hR.out _ _ ⟨_,_,_,by rw[HF.out.1,HF.out.2];rfl,Hk.out.1,by rw[HF.out.1];exact Hk.out.2⟩
 ·have b0:(n.toList==[110,117,108,108])=false:=by simp[h0]
  by_cases h1:n.toList=[98,111,111,108]
  ·have b1:(n.toList==[98,111,111,108])=true:=by simp[h1]
   have HF:=zh (show typS n.toList=⟨false,true,true,[],[],[]⟩∧typE n.toList=0 from ⟨by unfold typS;simp[h1],by unfold typE;simp[h1]⟩);clear h0 h1;have hO:=HO.out;have hS:ScAt m (.slice none 0 0) (.slice none 0 0) (.slice none 0 0) ⟨false,true,true,[],[],[]⟩:=⟨aR m,aR m,aZ m⟩;clear HO HI HA HL;obtain⟨g0,g1,g2,g3,g4,g5,gf0,gf1,gf2,gf3,gf4,gf5⟩:=hO.obj.cf6;have gl:=hO.obj.lt;have hO2:Own _ _ _ _ (.obj _ 29 #[.bool false,.bool true,.bool true,.slice none 0 0,.slice none 0 0,.slice none 0 0]::_):=((((((hO.set 0 (.bool false)).set 1 (.bool true)).set 2 (.bool true)).set 3 (.slice none 0 0)).set 4 (.slice none 0 0)).set 5 (.slice none 0 0));obtain⟨k0,k1,k2,k3,k4,k5⟩:=hO2.obj.cs6;have Hk:=zh (zi hO2.below (hS.le hO2.done));clear hO hO2 hS;go_wp2;refine bodyPost_ret (v:=.tuple #[.agg #[.bool false,.bool true,.bool true,.slice none 0 0,.slice none 0 0,.slice none 0 0],.int .i64 0]) (by simp[results,Tryz.results15,go_sem,k0,k1,k2,k3,k4,k5]) rfl ?_;exact hR.out _ _ ⟨_,_,_,by rw[HF.out.1,HF.out.2];rfl,Hk.out.1,by rw[HF.out.1];exact Hk.out.2⟩
  ·have b1:(n.toList==[98,111,111,108])=false:=by simp[h1]
   by_cases h2:n.toList=[105,110,116]
   ·have b2:(n.toList==[105,110,116])=true:=by simp[h2]
    have HF:=zh (show typS n.toList=⟨false,false,false,eY,[],[]⟩∧typE n.toList=0 from ⟨by unfold typS;simp[h2],by unfold typE;simp[h2]⟩);clear h0 h1 h2
    go_wp2_with fail
    refine HI.out.mono ?_;rintro e w1 ⟨ri,rfl,hb1,hr⟩;have hO:=HO.out.call hb1;have hS:ScAt _ ri (.slice none 0 0) (.slice none 0 0) ⟨false,false,false,eY,[],[]⟩:=⟨hr,aR _,aZ _⟩;obtain⟨xa,xc,rfl⟩:=bZ hr;clear HO HI HA HL hb1 hr;obtain⟨g0,g1,g2,g3,g4,g5,gf0,gf1,gf2,gf3,gf4,gf5⟩:=hO.obj.cf6;have gl:=hO.obj.lt;have hO2:Own _ _ _ _ (.obj _ 29 #[.bool false,.bool false,.bool false,.slice xa eY.length xc,.slice none 0 0,.slice none 0 0]::_):=((((((hO.set 0 (.bool false)).set 1 (.bool false)).set 2 (.bool false)).set 3 (.slice xa eY.length xc)).set 4 (.slice none 0 0)).set 5 (.slice none 0 0));obtain⟨k0,k1,k2,k3,k4,k5⟩:=hO2.obj.cs6;have Hk:=zh (zi hO2.below (hS.le hO2.done));clear hO hO2 hS;go_wp2;refine bodyPost_ret (v:=.tuple #[.agg #[.bool false,.bool false,.bool false,.slice xa eY.length xc,.slice none 0 0,.slice none 0 0],.int .i64 0]) (by simp[results,Tryz.results15,go_sem,k0,k1,k2,k3,k4,k5]) rfl ?_;exact hR.out _ _ ⟨_,_,_,by rw[HF.out.1,HF.out.2];rfl,Hk.out.1,by rw[HF.out.1];exact Hk.out.2⟩
   ·have b2:(n.toList==[105,110,116])=false:=by simp[h2]
    by_cases h3:n.toList=[110,117,109,98,101,114]
    ·have b3:(n.toList==[110,117,109,98,101,114])=true:=by simp[h3]
     have HF:=zh (show typS n.toList=⟨false,false,false,eY,nU,[]⟩∧typE n.toList=0 from ⟨by unfold typS;simp[h3],by unfold typE;simp[h3]⟩);clear h0 h1 h2 h3
     go_wp2_with fail
     refine HA.out.mono ?_;rintro e w1 ⟨ri,rf,rfl,hb1,hr⟩;have hO:=HO.out.call hb1;have hS:ScAt _ ri rf (.slice none 0 0) ⟨false,false,false,eY,nU,[]⟩:=⟨hr.i,hr.f,aZ _⟩;obtain⟨xa,xc,ya,yc,rfl,rfl⟩:=hr.spell;clear HO HI HA HL hb1 hr;obtain⟨g0,g1,g2,g3,g4,g5,gf0,gf1,gf2,gf3,gf4,gf5⟩:=hO.obj.cf6;have gl:=hO.obj.lt;have hO2:Own _ _ _ _ (.obj _ 29 #[.bool false,.bool false,.bool false,.slice xa eY.length xc,.slice ya nU.length yc,.slice none 0 0]::_):=((((((hO.set 0 (.bool false)).set 1 (.bool false)).set 2 (.bool false)).set 3 (.slice xa eY.length xc)).set 4 (.slice ya nU.length yc)).set 5 (.slice none 0 0));obtain⟨k0,k1,k2,k3,k4,k5⟩:=hO2.obj.cs6;have Hk:=zh (zi hO2.below (hS.le hO2.done));clear hO hO2 hS;go_wp2;refine bodyPost_ret (v:=.tuple #[.agg #[.bool false,.bool false,.bool false,.slice xa eY.length xc,.slice ya nU.length yc,.slice none 0 0],.int .i64 0]) (by simp[results,Tryz.results15,go_sem,k0,k1,k2,k3,k4,k5]) rfl ?_;exact hR.out _ _ ⟨_,_,_,by rw[HF.out.1,HF.out.2];rfl,Hk.out.1,by rw[HF.out.1];exact Hk.out.2⟩
    ·have b3:(n.toList==[110,117,109,98,101,114])=false:=by simp[h3]
     by_cases h4:n.toList=[115,116,114,105,110,103]
     ·have b4:(n.toList==[115,116,114,105,110,103])=true:=by simp[h4]
      have HF:=zh (show typS n.toList=⟨false,false,false,[],[],allT⟩∧typE n.toList=0 from ⟨by unfold typS;simp[h4],by unfold typE;simp[h4]⟩);clear h0 h1 h2 h3 h4
      go_wp2_with fail
      refine HL.out.mono ?_;rintro e w1 ⟨rt,rfl,hb1,hr⟩;have hO:=HO.out.call hb1;have hS:ScAt _ (.slice none 0 0) (.slice none 0 0) rt ⟨false,false,false,[],[],allT⟩:=⟨aR _,aR _,hr⟩;obtain⟨za,zc,rfl⟩:=eU hr;clear HO HI HA HL hb1 hr;obtain⟨g0,g1,g2,g3,g4,g5,gf0,gf1,gf2,gf3,gf4,gf5⟩:=hO.obj.cf6;have gl:=hO.obj.lt;have hO2:Own _ _ _ _ (.obj _ 29 #[.bool false,.bool false,.bool false,.slice none 0 0,.slice none 0 0,.slice za (List.length allT) zc]::_):=((((((hO.set 0 (.bool false)).set 1 (.bool false)).set 2 (.bool false)).set 3 (.slice none 0 0)).set 4 (.slice none 0 0)).set 5 (.slice za (List.length allT) zc));obtain⟨k0,k1,k2,k3,k4,k5⟩:=hO2.obj.cs6;have Hk:=zh (zi hO2.below (hS.le hO2.done));clear hO hO2 hS;go_wp2;refine bodyPost_ret (v:=.tuple #[.agg #[.bool false,.bool false,.bool false,.slice none 0 0,.slice none 0 0,.slice za (List.length allT) zc],.int .i64 0]) (by simp[results,Tryz.results15,go_sem,k0,k1,k2,k3,k4,k5]) rfl ?_;exact hR.out _ _ ⟨_,_,_,by rw[HF.out.1,HF.out.2];rfl,Hk.out.1,by rw[HF.out.1];exact Hk.out.2⟩
     ·have b4:(n.toList==[115,116,114,105,110,103])=false:=by simp[h4]
      have HF:=zh (show typS n.toList=dO∧typE n.toList=5 from ⟨by unfold typS;simp[h0,h1,h2,h3,h4],by unfold typE;simp[h0,h1,h2,h3,h4]⟩);clear h0 h1 h2 h3 h4;have hO:=HO.out;have hS:ScAt m (.slice none 0 0) (.slice none 0 0) (.slice none 0 0) dO:=⟨aR m,aR m,aZ m⟩;clear HO HI HA HL;obtain⟨g0,g1,g2,g3,g4,g5,gf0,gf1,gf2,gf3,gf4,gf5⟩:=hO.obj.cf6;have gl:=hO.obj.lt;have hO2:Own _ _ _ _ (.obj _ 29 #[.bool false,.bool false,.bool false,.slice none 0 0,.slice none 0 0,.slice none 0 0]::_):=((((((hO.set 0 (.bool false)).set 1 (.bool false)).set 2 (.bool false)).set 3 (.slice none 0 0)).set 4 (.slice none 0 0)).set 5 (.slice none 0 0));obtain⟨k0,k1,k2,k3,k4,k5⟩:=hO2.obj.cs6;have Hk:=zh (zi hO2.below (hS.le hO2.done));clear hO hO2 hS;go_wp2;refine bodyPost_ret (v:=.tuple #[.agg #[.bool false,.bool false,.bool false,.slice none 0 0,.slice none 0 0,.slice none 0 0],.int .i64 5]) (by simp[results,Tryz.results15,go_sem,k0,k1,k2,k3,k4,k5]) rfl ?_;exact hR.out _ _ ⟨_,_,_,by rw[HF.out.1,HF.out.2];rfl,Hk.out.1,by rw[HF.out.1];exact Hk.out.2⟩
def lstD:Option El→Dt
 | none=>.mk 0 0 ⟨#[]⟩ [] [] []
 | some e=>elDt e
def ostr (o:Option (List UInt8)):ByteArray:=match o with | some x=>bstr x | none=>⟨#[]⟩
theorem Rh (o:Option (List UInt8)):optV o=.tuple #[.string (ostr o),.bool o.isSome]:=rfl
theorem Ic {x:RS} (h0:x.nul=false) (h1:x.fal=false) (h2:x.tru=false) (h3:gz x.ns=none) {r:Option (List UInt8)} (h:kI (Sem x.t) r):gP x.has (r.map .str):=KP h0 h1 h2 h3 h
theorem mQ (vi vf vt:Value) (s:RS) (m:Mem) (w:World) (hm:m.inn w) (htab:TabM m) (hs:ScAt m vi vf vt s) (hl:ScLe s 30000 100000) :
 Calls Tryz.prog 39 #[s.val vi vf vt] w fun e w'=>∃r,e=.returned (.tuple #[(lstD r).val (.slice none 0 0) (.slice none 0 0),.bool r.isSome])∧Below w.heap.size w w'∧gP (bU s).has r:=by
 have hO:=((Own.start hm).al #[.bool s.nul,.bool s.fal,.bool s.tru,vi,vf,vt] 29).al #[.int .i64 0,.int .i64 0,.string ⟨#[]⟩,.slice none 0 0,.slice none 0 0] 33;simp only[df] at hO;have HG:=zh (vO vi vf vt s m _ hO.inn htab hs (hl.mono zo zo));have lx:=kE hl;obtain⟨a1,b1,a2,b2,a3,b3,rfl,rfl,rfl⟩:=hs.spell;unfold RS.val at HG ⊢;have HO:=zh hO;clear hO hs hl;generalize bU s=x at *
 have HC:=zh (zi (fun h:x.nul=true=>KR h) (zi (fun (h:x.nul=false) (h1:x.fal=true)=>KS h h1) (zi (fun (h:x.nul=false) (h1:x.fal=false) (h2:x.tru=true)=>KO h h1 h2)
  (zi (fun (h:x.nul=false) (h1:x.fal=false) (h2:x.tru=false) u (h3:gz x.ns=some u)=>KQ h h1 h2 h3) (fun (h:x.nul=false) (h1:x.fal=false) (h2:x.tru=false) (h3:gz x.ns=none) r (h4:kI (Sem x.t) r)=>Ic h h1 h2 h3 h4)))))
 have hli:=lx.i;have hlf:=lx.f;have hlt:=lx.t;clear lx;refine aj fun R hR=>?_
 go_enter Tryz.func39,Tryz.ntmps39
 go_wp2_with fail
 refine HG.out.mono ?_;rintro e w1 ⟨ri,rf,rt,rfl,hb1,hx⟩;have hO1:=(HO.out.call hb1).swap;obtain⟨ra,rb,rc,rd,re,rf',rfl,rfl,rfl⟩:=hx.spell;obtain⟨p0,p1,p2,p3,p4,p5,pf0,pf1,pf2,pf3,pf4,pf5⟩:=hO1.obj.cf6;have pl:=hO1.obj.lt;have hO2:=((((((hO1.set 0 (.bool x.nul)).set 1 (.bool x.fal)).set 2 (.bool x.tru)).set 3 (.slice ra x.i.length rb)).set 4 (.slice rc x.f.length rd)).set 5 (.slice re x.t.length rf'));have hO2:Own _ _ _ _ (.obj _ 29 #[.bool x.nul,.bool x.fal,.bool x.tru,.slice ra x.i.length rb,.slice rc x.f.length rd,.slice re x.t.length rf']::_):=hO2;have HN:=zh (sI _ _ x.i x.f _ _ hO2.inn hx.nums hli hlf);have HL:=zh (fun w' (h:Mem.inn _ w')=>oZ _ x.t _ w' h (htab.le (Mem.eO HO.out.inn)) hx.t zo);have HO2:=zh hO2;generalize hns:gz (mkN x.i x.f)=rn at *
 have hns2:gz x.ns=rn:=hns;rw[hns2] at HC;clear hO1 hO2 HG HO hb1 hx htab hns hns2
 go_wp2_with fail
 refine HN.out.mono ?_;rintro e w2 ⟨rfl,hb2⟩;have hO:=HO2.out.move hb2;have q5:=hO.obj.cell (i:=5) rfl;have q6:=hO.obj.lt;have HO:=zh hO;clear hO HN HO2 hb2 p0 p1 p2 p3 p4 p5 pf0 pf1 pf2 pf3 pf4 pf5 pl
 go_wp2_with fail
 refine (HL.out _ HO.out.inn).mono ?_;rintro e w3 ⟨o,rfl,hb3,ho⟩;rw[Rh];have hO:=HO.out.move hb3;have HOS:=zh ho;have q0:=hO.obj.cell (i:=0) rfl;have q1:=hO.obj.cell (i:=1) rfl;have q2:=hO.obj.cell (i:=2) rfl;have q6:=hO.obj.lt;have hO:=hO.swap;clear HL HO hb3 ho q5;generalize x.nul=bn at *
 generalize x.fal=bf at *
 generalize x.tru=bt at *
 cases bn with
 | true=>
  obtain⟨g0,g1,g2,g3,g4,f0,f1,f2,f3,f4⟩:=hO.obj.cf5;have gl:=hO.obj.lt;have hO2:=((((hO.set 0 (.int .i64 1)).set 1 (.int .i64 0)).set 2 (.string ⟨#[]⟩)).set 3 (.slice none 0 0)).set 4 (.slice none 0 0);have hO2:Own _ _ _ _ (.obj _ 33 #[.int .i64 1,.int .i64 0,.string ⟨#[]⟩,.slice none 0 0,.slice none 0 0]::_):=hO2;obtain⟨k0,k1,k2,k3,k4⟩:=hO2.obj.cs5;have Hk:=zh (zi hO2.below (HC.out.1 rfl));clear hO hO2;go_wp2;refine bodyPost_ret (v:=.tuple #[.agg #[.int .i64 1,.int .i64 0,.string ⟨#[]⟩,.slice none 0 0,.slice none 0 0],.bool true]) (by simp[results,Tryz.results39,go_sem,k0,k1,k2,k3,k4]) rfl ?_
  exact hR.out _ _ ⟨some .nul,rfl,Hk.out.1,Hk.out.2⟩
 | false=>
  cases bf with
  | true=>
   obtain⟨g0,g1,g2,g3,g4,f0,f1,f2,f3,f4⟩:=hO.obj.cf5;have gl:=hO.obj.lt;have hO2:=((((hO.set 0 (.int .i64 2)).set 1 (.int .i64 0)).set 2 (.string ⟨#[]⟩)).set 3 (.slice none 0 0)).set 4 (.slice none 0 0);have hO2:Own _ _ _ _ (.obj _ 33 #[.int .i64 2,.int .i64 0,.string ⟨#[]⟩,.slice none 0 0,.slice none 0 0]::_):=hO2;obtain⟨k0,k1,k2,k3,k4⟩:=hO2.obj.cs5;have Hk:=zh (zi hO2.below (HC.out.2.1 rfl rfl));clear hO hO2;go_wp2;refine bodyPost_ret (v:=.tuple #[.agg #[.int .i64 2,.int .i64 0,.string ⟨#[]⟩,.slice none 0 0,.slice none 0 0],.bool true]) (by simp[results,Tryz.results39,go_sem,k0,k1,k2,k3,k4]) rfl ?_
   exact hR.out _ _ ⟨some .fal,rfl,Hk.out.1,Hk.out.2⟩
  | false=>
   cases bt with
   | true=>
    obtain⟨g0,g1,g2,g3,g4,f0,f1,f2,f3,f4⟩:=hO.obj.cf5;have gl:=hO.obj.lt;have hO2:=((((hO.set 0 (.int .i64 2)).set 1 (.int .i64 1)).set 2 (.string ⟨#[]⟩)).set 3 (.slice none 0 0)).set 4 (.slice none 0 0);have hO2:Own _ _ _ _ (.obj _ 33 #[.int .i64 2,.int .i64 1,.string ⟨#[]⟩,.slice none 0 0,.slice none 0 0]::_):=hO2;obtain⟨k0,k1,k2,k3,k4⟩:=hO2.obj.cs5;have Hk:=zh (zi hO2.below (HC.out.2.2.1 rfl rfl rfl));clear hO hO2;go_wp2;refine bodyPost_ret (v:=.tuple #[.agg #[.int .i64 2,.int .i64 1,.string ⟨#[]⟩,.slice none 0 0,.slice none 0 0],.bool true]) (by simp[results,Tryz.results39,go_sem,k0,k1,k2,k3,k4]) rfl ?_
    exact hR.out _ _ ⟨some .tru,rfl,Hk.out.1,Hk.out.2⟩
   | false=>
    cases rn with
    | some u=>
     obtain⟨g0,g1,g2,g3,g4,f0,f1,f2,f3,f4⟩:=hO.obj.cf5;have gl:=hO.obj.lt;have hO2:=((((hO.set 0 (.int .i64 3)).set 1 (.int .i64 u)).set 2 (.string ⟨#[]⟩)).set 3 (.slice none 0 0)).set 4 (.slice none 0 0);have hO2:Own _ _ _ _ (.obj _ 33 #[.int .i64 3,.int .i64 u,.string ⟨#[]⟩,.slice none 0 0,.slice none 0 0]::_):=hO2;obtain⟨k0,k1,k2,k3,k4⟩:=hO2.obj.cs5;have Hk:=zh (zi hO2.below (HC.out.2.2.2.1 rfl rfl rfl u rfl));clear hO hO2;go_wp2;refine bodyPost_ret (v:=.tuple #[.agg #[.int .i64 3,.int .i64 u,.string ⟨#[]⟩,.slice none 0 0,.slice none 0 0],.bool true]) (by simp[results,Tryz.results39,go_sem,k0,k1,k2,k3,k4]) rfl ?_
     exact hR.out _ _ ⟨some (.num u),rfl,Hk.out.1,Hk.out.2⟩
    | none=>
     cases o with
     | some z=>
      have hz:ostr (some z)=bstr z:=rfl;rw[hz];obtain⟨g0,g1,g2,g3,g4,f0,f1,f2,f3,f4⟩:=hO.obj.cf5;have gl:=hO.obj.lt;have hO2:=((((hO.set 0 (.int .i64 4)).set 1 (.int .i64 0)).set 2 (.string (bstr z))).set 3 (.slice none 0 0)).set 4 (.slice none 0 0);have hO2:Own _ _ _ _ (.obj _ 33 #[.int .i64 4,.int .i64 0,.string (bstr z),.slice none 0 0,.slice none 0 0]::_):=hO2;obtain⟨k0,k1,k2,k3,k4⟩:=hO2.obj.cs5;have Hk:=zh (zi hO2.below (HC.out.2.2.2.2 rfl rfl rfl rfl (some z) HOS.out));clear hO hO2;go_wp2;refine bodyPost_ret (v:=.tuple #[.agg #[.int .i64 4,.int .i64 0,.string (bstr z),.slice none 0 0,.slice none 0 0],.bool true]) (by simp[results,Tryz.results39,go_sem,k0,k1,k2,k3,k4]) rfl ?_
      exact hR.out _ _ ⟨some (.str z),rfl,Hk.out.1,Hk.out.2⟩
     | none=>
      have hz:ostr none=⟨#[]⟩:=rfl;rw[hz];obtain⟨g0,g1,g2,g3,g4,f0,f1,f2,f3,f4⟩:=hO.obj.cf5;have gl:=hO.obj.lt;have hO2:=((((hO.set 0 (.int .i64 0)).set 1 (.int .i64 0)).set 2 (.string ⟨#[]⟩)).set 3 (.slice none 0 0)).set 4 (.slice none 0 0);have hO2:Own _ _ _ _ (.obj _ 33 #[.int .i64 0,.int .i64 0,.string ⟨#[]⟩,.slice none 0 0,.slice none 0 0]::_):=hO2;obtain⟨k0,k1,k2,k3,k4⟩:=hO2.obj.cs5;have Hk:=zh (zi hO2.below (HC.out.2.2.2.2 rfl rfl rfl rfl none HOS.out));clear hO hO2;go_wp2;refine bodyPost_ret (v:=.tuple #[.agg #[.int .i64 0,.int .i64 0,.string ⟨#[]⟩,.slice none 0 0,.slice none 0 0],.bool false]) (by simp[results,Tryz.results39,go_sem,k0,k1,k2,k3,k4]) rfl ?_;exact hR.out _ _ ⟨none,rfl,Hk.out.1,Hk.out.2⟩
theorem Fb {s:RS} {r:Option El} (h:gP (bU s).has r):nk s = !r.isSome:=by
 cases r with
 | none=>rw[zW h];rfl
 | some e=>rw[sZ h];rfl
theorem gT (vi vf vt:Value) (s:RS) (m:Mem) (w:World) (hm:m.inn w) (htab:TabM m) (hs:ScAt m vi vf vt s) (hl:ScLe s 30000 100000) :
 Calls Tryz.prog 26 #[s.val vi vf vt] w fun e w'=>e=.returned (.bool (nk s))∧Below w.heap.size w w':=by
 have hO:=(Own.start hm).al #[.bool s.nul,.bool s.fal,.bool s.tru,vi,vf,vt] 29;have HL:=zh (mQ vi vf vt s m _ hO.inn htab hs hl);obtain⟨a1,b1,a2,b2,a3,b3,rfl,rfl,rfl⟩:=hs.spell;unfold RS.val at HL ⊢;have HO:=zh hO;clear hO hs;refine aj fun R hR=>?_
 go_enter Tryz.func26,Tryz.ntmps26
 go_wp2_with fail
 refine HL.out.mono ?_;rintro e w1 ⟨r,rfl,hb1,hr⟩;have HE:=zh (Fb hr);have HB:=zh (HO.out.move hb1).below;unfold Dt.val;generalize r.isSome=b at *
 generalize (lstD r).kind=k at *
 generalize (lstD r).num=n at *
 generalize (lstD r).str=st at *
 clear HO HL hb1 hr;go_wp2;exact hR.out _ _ ⟨aQ (by rw[HE.out]),aP HB.out _⟩
theorem ik (vi vf vt:Value) (A:RS) (ui uf ut:Value) (B:RS) (na ta nb tb:Nat) (m:Mem) (w:World) (hm:m.inn w) (htab:TabM m) (ha:ScAt m vi vf vt A) (hb:ScAt m ui uf ut B) (la:ScLe A na ta) (lb:ScLe B nb tb) (hn1:na≤250) (hn2:nb≤250) (ht:(ta+2)*(tb+2)≤99999) :
 Calls Tryz.prog 36 #[A.val vi vf vt,B.val ui uf ut] w fun e w'=>e=.returned (.bool (subB A B))∧Below w.heap.size w w':=by
 have hO:=((Own.start hm).al #[.bool A.nul,.bool A.fal,.bool A.tru,vi,vf,vt] 29).al #[.bool B.nul,.bool B.fal,.bool B.tru,ui,uf,ut] 29;simp only[df] at hO;have HC:=zh (jU vi vf vt A ui uf ut B na ta nb tb m _ hO.inn htab ha hb la lb hn1 hn2 zo);obtain⟨aa,ab,ac,ad,ae,af,rfl,rfl,rfl⟩:=ha.spell;obtain⟨ba,bb,bc,bd,be,bf,rfl,rfl,rfl⟩:=hb.spell;unfold RS.val at HC ⊢;have HO:=zh hO;clear hO ha hb la lb;refine aj fun R hR=>?_
 go_enter Tryz.func36,Tryz.ntmps36
 go_wp2_with fail
 refine HC.out.mono ?_;rintro e w1 ⟨s,si,sf,st,rfl,hb1,hs,hS,hL⟩;have hO1:=HO.out.call hb1;have HM:=zh (gT si sf st s _ w1 hO1.inn (htab.le hO1.ext.1) hs (hL.mono zo zo));rw[yx hS] at HM;obtain⟨ra,rb,rc,rd,re,rf,rfl,rfl,rfl⟩:=hs.spell;unfold RS.val at HM;have HO1:=zh hO1;clear HC HO hb1 hs hS hL hO1
 go_wp2_with fail
 refine HM.out.mono ?_;rintro e w2 ⟨rfl,hb2⟩;have HB:=zh (HO1.out.move hb2).below;clear HM HO1 hb2;generalize subB A B=bo at *
 go_wp2;exact hR.out _ _ ⟨rfl,HB.out⟩
theorem wR (op:ByteArray) (n:Int) (s0:ByteArray) (ai am:Option Addr) (li ci lm cm:Nat) (m:Mem) (w:World) (hm:m.inn w) (h1 : -9223372036854775808≤n) (h2:n≤9223372036854775807) :
 Calls Tryz.prog 60 #[.string op,.agg #[.int .i64 3,.int .i64 n,.string s0,.slice ai li ci,.slice am lm cm]] w fun e w'=>∃ri rf,e=.returned (.tuple #[.agg #[.bool false,.bool false,.bool false,ri,rf,.slice none 0 0],.int .i64 (bndE op.toList n)])∧Below w.heap.size w w'∧bF (m.grow w w') ri rf (bndN op.toList n).i (bndN op.toList n).rf:=by
 have hO:=((Own.start hm).al #[.int .i64 3,.int .i64 n,.string s0,.slice ai li ci,.slice am lm cm] 33).al #[.bool false,.bool false,.bool false,.slice none 0 0,.slice none 0 0,.slice none 0 0] 29;simp only[df] at hO;have HB:=zh (GX op n m _ hO.inn h1 h2);have HO:=zh hO;clear hO;refine aj fun R hR=>?_;generalize bndE op.toList n=er at *
 generalize bndN op.toList n=x at *
 go_enter Tryz.func60,Tryz.ntmps60
 go_wp2_with fail
 refine HB.out.mono ?_;rintro e w1 ⟨ri,rf,rfl,hb1,hS⟩;obtain⟨xa,xc,ya,yc,rfl,rfl⟩:=hS.spell;have hO1:=((HO.out.call hb1).al #[.slice xa x.i.length xc,.slice ya x.rf.length yc] 24).swap;have HS:=zh hS;have HO1:=zh hO1;clear HB HO hb1 hS hO1
 go_upto_region 3 with (fail)
 generalize hW:w1.alloc (.cells #[.slice xa x.i.length xc,.slice ya x.rf.length yc] 24)=w2 at *
 generalize w1.heap.size=gx at *
 have hO:=HO1.out;have hS:=HS.out;have q0:=hO.swap.obj.cell (i:=0) rfl;have q1:=hO.swap.obj.cell (i:=1) rfl;have q2:=hO.swap.obj.lt;clear HO1 HS hW;obtain⟨g0,g1,g2,g3,g4,g5,gf0,gf1,gf2,gf3,gf4,gf5⟩:=hO.obj.cf6;have gl:=hO.obj.lt;have hO2:Own _ _ _ _ (.obj _ 29 #[.bool false,.bool false,.bool false,.slice xa x.i.length xc,.slice ya x.rf.length yc,.slice none 0 0]::_):=((((((hO.set 0 (.bool false)).set 1 (.bool false)).set 2 (.bool false)).set 3 (.slice xa x.i.length xc)).set 4 (.slice ya x.rf.length yc)).set 5 (.slice none 0 0));obtain⟨k0,k1,k2,k3,k4,k5⟩:=hO2.obj.cs6;have Hk:=zh (zi hO2.below (hS.le hO2.done));clear hO2 hS hO;go_wp2;refine bodyPost_ret (v:=.tuple #[.agg #[.bool false,.bool false,.bool false,.slice xa x.i.length xc,.slice ya x.rf.length yc,.slice none 0 0],.int .i64 er]) (by simp[results,Tryz.results60,go_sem,k0,k1,k2,k3,k4,k5]) rfl ?_;exact hR.out _ _ ⟨_,_,rfl,Hk.out.1,Hk.out.2⟩
theorem Em (op:ByteArray) (k n:Int) (s0:ByteArray) (ai am:Option Addr) (li ci lm cm:Nat) (m:Mem) (w:World) (hm:m.inn w) (htab:TabM m) (hk:k≠3) (hop:op.size≤1000) (hs:s0.size≤1000) :
 Calls Tryz.prog 60 #[.string op,.agg #[.int .i64 k,.int .i64 n,.string s0,.slice ai li ci,.slice am lm cm]] w fun e w'=>∃rt C,e=.returned (.tuple #[.agg #[.bool false,.bool false,.bool false,.slice none 0 0,.slice none 0 0,rt],.int .i64 (if (dx op.toList s0.data.toList).isSome then 0 else 8)])∧Below w.heap.size w w'∧aI (m.grow w w') rt C ∧
  (∀f,dx op.toList s0.data.toList=some f→dX f C)∧(dx op.toList s0.data.toList=none→C=[])∧C.length≤3*(s0.size+5)+1:=by
 have hO:=((Own.start hm).al #[.int .i64 k,.int .i64 n,.string s0,.slice ai li ci,.slice am lm cm] 33).al #[.bool false,.bool false,.bool false,.slice none 0 0,.slice none 0 0,.slice none 0 0] 29;simp only[df] at hO;have HB:=zh (Hz op s0 m _ hO.inn htab hop hs);have HO:=zh hO;have hd3:(k==3)=false:=beq_eq_false_iff_ne.2 hk;clear hO hk;refine aj fun R hR=>?_;generalize (if (dx op.toList s0.data.toList).isSome then (0:Int) else 8)=er at *
 go_enter Tryz.func60,Tryz.ntmps60
 go_wp2_with fail
 refine HB.out.mono ?_;rintro e w1 ⟨rt,C,rfl,hb1,hS,hp⟩;obtain⟨xa,xc,rfl⟩:=eU hS;have hO1:=((HO.out.call hb1).al #[.slice xa C.length xc] 27).swap;have HS:=zh hS;have HP:=zh hp;have HO1:=zh hO1;clear HB HO hb1 hS hO1 hp
 go_upto_region 5 with (fail)
 generalize hW:w1.alloc (.cells #[.slice xa C.length xc] 27)=w2 at *
 generalize w1.heap.size=gx at *
 have hO:=HO1.out;have hS:ScAt _ (.slice none 0 0) (.slice none 0 0) (.slice xa C.length xc) ⟨false,false,false,[],[],C⟩:=⟨aR _,aR _,HS.out⟩;have q0:=hO.swap.obj.cell (i:=0) rfl;have q2:=hO.swap.obj.lt;clear HO1 HS hW;obtain⟨g0,g1,g2,g3,g4,g5,gf0,gf1,gf2,gf3,gf4,gf5⟩:=hO.obj.cf6;have gl:=hO.obj.lt;have hO2:Own _ _ _ _ (.obj _ 29 #[.bool false,.bool false,.bool false,.slice none 0 0,.slice none 0 0,.slice xa C.length xc]::_):=((((((hO.set 0 (.bool false)).set 1 (.bool false)).set 2 (.bool false)).set 3 (.slice none 0 0)).set 4 (.slice none 0 0)).set 5 (.slice xa C.length xc));obtain⟨k0,k1,k2,k3,k4,k5⟩:=hO2.obj.cs6;have Hk:=zh (zi hO2.below (hS.le hO2.done));clear hO2 hS hO;go_wp2;refine bodyPost_ret (v:=.tuple #[.agg #[.bool false,.bool false,.bool false,.slice none 0 0,.slice none 0 0,.slice xa C.length xc],.int .i64 er]) (by simp[results,Tryz.results60,go_sem,k0,k1,k2,k3,k4,k5]) rfl ?_;exact hR.out _ _ ⟨_,C,rfl,Hk.out.1,Hk.out.2.t,HP.out⟩
theorem AO (op:ByteArray) (he:op.toList=[61,61]) (k n:Int) (s0:ByteArray) (ai am:Option Addr) (li ci lm cm:Nat) (m:Mem) (w:World) (hm:m.inn w) (hk:k≠3) (hs:s0.size≤1000) :
 Calls Tryz.prog 60 #[.string op,.agg #[.int .i64 k,.int .i64 n,.string s0,.slice ai li ci,.slice am lm cm]] w fun e w'=>∃rt C,e=.returned (.tuple #[.agg #[.bool false,.bool false,.bool false,.slice none 0 0,.slice none 0 0,rt],.int .i64 (if (dx op.toList s0.data.toList).isSome then 0 else 8)])∧Below w.heap.size w w'∧aI (m.grow w w') rt C ∧
  (∀f,dx op.toList s0.data.toList=some f→dX f C)∧(dx op.toList s0.data.toList=none→C=[])∧C.length≤3*(s0.size+5)+1:=by
 have hO:=((Own.start hm).al #[.int .i64 k,.int .i64 n,.string s0,.slice ai li ci,.slice am lm cm] 33).al #[.bool false,.bool false,.bool false,.slice none 0 0,.slice none 0 0,.slice none 0 0] 29;simp only[df] at hO;have HB:=zh (De op s0 he m _ hO.inn hs);have HO:=zh hO;have hd3:(k==3)=false:=beq_eq_false_iff_ne.2 hk;clear hO hk he;refine aj fun R hR=>?_;generalize (if (dx op.toList s0.data.toList).isSome then (0:Int) else 8)=er at *
 go_enter Tryz.func60,Tryz.ntmps60
 go_wp2_with fail
 refine HB.out.mono ?_;rintro e w1 ⟨rt,C,rfl,hb1,hS,hp⟩;obtain⟨xa,xc,rfl⟩:=eU hS;have hO1:=((HO.out.call hb1).al #[.slice xa C.length xc] 27).swap;have HS:=zh hS;have HP:=zh hp;have HO1:=zh hO1;clear HB HO hb1 hS hO1 hp
 go_upto_region 5 with (fail)
 generalize hW:w1.alloc (.cells #[.slice xa C.length xc] 27)=w2 at *
 generalize w1.heap.size=gx at *
 have hO:=HO1.out;have hS:ScAt _ (.slice none 0 0) (.slice none 0 0) (.slice xa C.length xc) ⟨false,false,false,[],[],C⟩:=⟨aR _,aR _,HS.out⟩;have q0:=hO.swap.obj.cell (i:=0) rfl;have q2:=hO.swap.obj.lt;clear HO1 HS hW;obtain⟨g0,g1,g2,g3,g4,g5,gf0,gf1,gf2,gf3,gf4,gf5⟩:=hO.obj.cf6;have gl:=hO.obj.lt;have hO2:Own _ _ _ _ (.obj _ 29 #[.bool false,.bool false,.bool false,.slice none 0 0,.slice none 0 0,.slice xa C.length xc]::_):=((((((hO.set 0 (.bool false)).set 1 (.bool false)).set 2 (.bool false)).set 3 (.slice none 0 0)).set 4 (.slice none 0 0)).set 5 (.slice xa C.length xc));obtain⟨k0,k1,k2,k3,k4,k5⟩:=hO2.obj.cs6;have Hk:=zh (zi hO2.below (hS.le hO2.done));clear hO2 hS hO;go_wp2;refine bodyPost_ret (v:=.tuple #[.agg #[.bool false,.bool false,.bool false,.slice none 0 0,.slice none 0 0,.slice xa C.length xc],.int .i64 er]) (by simp[results,Tryz.results60,go_sem,k0,k1,k2,k3,k4,k5]) rfl ?_;exact hR.out _ _ ⟨_,C,rfl,Hk.out.1,Hk.out.2.t,HP.out⟩
theorem zf:(⟨#[61,61]⟩:ByteArray).toList=[61,61]:=by rw[ByteArray.toList_eq]
theorem JC {n:Int} (h:bP n):bndE (⟨#[61,61]⟩:ByteArray).toList n=0∧bndN (⟨#[61,61]⟩:ByteArray).toList n=eqN n:=by
 rw[zf];obtain⟨h1,h2⟩:=vB (op:=[61,61]) zD h;exact⟨h1,h2.trans (by simp[fo,opLt,opLe,opGt,opGe,opEq])⟩
theorem Qr (z:List UInt8):dx (⟨#[61,61]⟩:ByteArray).toList z=some fun v=>decide (v=z):=by
 rw[zf];simp[dx]
theorem IQ {z:ByteArray} {C:Table} (h:dX (fun v=>decide (v=z.data.toList)) C):C.length=z.size+1:=by
 rw[Hy h (pV _),iK];rfl
theorem nK (vi vm:Value) (d:Dt) (m:Mem) (w:World) (hm:m.inn w) (htab:TabM m) (hd:DtAt m vi vm d) (hc:cnt d≤1000000) (hs:d.str.size≤1000) :
 Calls Tryz.prog 17 #[d.val vi vm] w fun e w'=>∃s si sf st,e=.returned (.tuple #[s.val si sf st,.int .i64 (ofE d)])∧Below w.heap.size w w'∧ScAt (m.grow w w') si sf st s∧ScIs (fun e=>dtEl d=some e) s∧ScLe s 1 (d.str.size+1):=by
 have hO:=((Own.start hm).al #[.int .i64 d.kind,.int .i64 d.num,.string d.str,vi,vm] 33).al #[.bool false,.bool false,.bool false,.slice none 0 0,.slice none 0 0,.slice none 0 0] 29;simp only[df] at hO;have HC:=zh (kG vi vm d m _ hO.inn hd hc);have HOK:=zh (zi (fun h:chkD d 1=0=>uD h) (fun h:chkD d 1≠0=>CQ h));have hnr:=hd.ok.n;obtain⟨ai,ci,am,cm,rfl,rfl⟩:=hd.slices;have HT:=zh htab;unfold Dt.val at HC ⊢;have HO:=zh hO;clear hO hd hc htab;generalize chkD d 1=cx at *
 generalize ofE d=er at *
 generalize dtEl d=de at *
 generalize d.kind=k at *
 generalize d.num=n at *
 generalize d.str=s0 at *
 generalize d.items.length=li at *
 generalize d.bv.length=lm at *
 refine aj fun R hR=>?_
 go_enter Tryz.func17,Tryz.ntmps17
 go_wp2_with fail
 refine HC.out.mono ?_;rintro e w1 ⟨rfl,hb1⟩;have hO:=HO.out.move hb1;clear HC HO hb1;by_cases hcx:cx=0
 ·have hq:=HOK.out.1 hcx;subst hcx;obtain⟨q0,q1,q2,q3,q4⟩:=hO.swap.obj.cs5;have q5:=hO.swap.obj.lt;clear HOK
  cases hq with
  | nul hk h he=>
   subst hk;subst h;subst he;have hS:ScAt m (.slice none 0 0) (.slice none 0 0) (.slice none 0 0) ⟨true,false,false,[],[],[]⟩:=⟨aR m,aR m,aZ m⟩;clear HT;obtain⟨g0,g1,g2,g3,g4,g5,gf0,gf1,gf2,gf3,gf4,gf5⟩:=hO.obj.cf6;have gl:=hO.obj.lt;have hO2:Own _ _ _ _ (.obj _ 29 #[.bool true,.bool false,.bool false,.slice none 0 0,.slice none 0 0,.slice none 0 0]::_):=((((((hO.set 0 (.bool true)).set 1 (.bool false)).set 2 (.bool false)).set 3 (.slice none 0 0)).set 4 (.slice none 0 0)).set 5 (.slice none 0 0));obtain⟨k0,k1,k2,k3,k4,k5⟩:=hO2.obj.cs6;have Hk:=zh (zi hO2.below (hS.le hO2.done));clear hO2 hS hO;go_wp2;refine bodyPost_ret (v:=.tuple #[.agg #[.bool true,.bool false,.bool false,.slice none 0 0,.slice none 0 0,.slice none 0 0],.int .i64 0]) (by simp[results,Tryz.results17,go_sem,k0,k1,k2,k3,k4,k5]) rfl ?_
   exact hR.out _ _ ⟨⟨true,false,false,[],[],[]⟩,_,_,_,rfl,Hk.out.1,Hk.out.2,Nl,⟨zS,zS,zS⟩⟩
  | fal hk hn h he=>
   subst hk;subst hn;subst h;subst he;have hS:ScAt m (.slice none 0 0) (.slice none 0 0) (.slice none 0 0) ⟨false,true,false,[],[],[]⟩:=⟨aR m,aR m,aZ m⟩;clear HT;obtain⟨g0,g1,g2,g3,g4,g5,gf0,gf1,gf2,gf3,gf4,gf5⟩:=hO.obj.cf6;have gl:=hO.obj.lt;have hO2:Own _ _ _ _ (.obj _ 29 #[.bool false,.bool true,.bool false,.slice none 0 0,.slice none 0 0,.slice none 0 0]::_):=((((((hO.set 0 (.bool false)).set 1 (.bool true)).set 2 (.bool false)).set 3 (.slice none 0 0)).set 4 (.slice none 0 0)).set 5 (.slice none 0 0));obtain⟨k0,k1,k2,k3,k4,k5⟩:=hO2.obj.cs6;have Hk:=zh (zi hO2.below (hS.le hO2.done));clear hO2 hS hO;go_wp2;refine bodyPost_ret (v:=.tuple #[.agg #[.bool false,.bool true,.bool false,.slice none 0 0,.slice none 0 0,.slice none 0 0],.int .i64 0]) (by simp[results,Tryz.results17,go_sem,k0,k1,k2,k3,k4,k5]) rfl ?_
   exact hR.out _ _ ⟨⟨false,true,false,[],[],[]⟩,_,_,_,rfl,Hk.out.1,Hk.out.2,Np,⟨zS,zS,zS⟩⟩
  | tru hk hn h he=>
   subst hk;subst hn;subst h;subst he;have hS:ScAt m (.slice none 0 0) (.slice none 0 0) (.slice none 0 0) ⟨false,false,true,[],[],[]⟩:=⟨aR m,aR m,aZ m⟩;clear HT;obtain⟨g0,g1,g2,g3,g4,g5,gf0,gf1,gf2,gf3,gf4,gf5⟩:=hO.obj.cf6;have gl:=hO.obj.lt;have hO2:Own _ _ _ _ (.obj _ 29 #[.bool false,.bool false,.bool true,.slice none 0 0,.slice none 0 0,.slice none 0 0]::_):=((((((hO.set 0 (.bool false)).set 1 (.bool false)).set 2 (.bool true)).set 3 (.slice none 0 0)).set 4 (.slice none 0 0)).set 5 (.slice none 0 0));obtain⟨k0,k1,k2,k3,k4,k5⟩:=hO2.obj.cs6;have Hk:=zh (zi hO2.below (hS.le hO2.done));clear hO2 hS hO;go_wp2;refine bodyPost_ret (v:=.tuple #[.agg #[.bool false,.bool false,.bool true,.slice none 0 0,.slice none 0 0,.slice none 0 0],.int .i64 0]) (by simp[results,Tryz.results17,go_sem,k0,k1,k2,k3,k4,k5]) rfl ?_
   exact hR.out _ _ ⟨⟨false,false,true,[],[],[]⟩,_,_,_,rfl,Hk.out.1,Hk.out.2,Nh,⟨zS,zS,zS⟩⟩
  | num hk hv h he=>
   subst hk h he;have HB:=zh (wR ⟨#[61,61]⟩ n s0 ai am li ci lm cm m _ hO.inn hnr.1 hnr.2);rw[(JC hv).1,(JC hv).2] at HB;have HI:=zh (Nk hv);have HEL:=zh (show (eqN n).i.length≤1∧(eqN n).rf.length≤1 from ⟨(fF (k:=1) zS zS).i,by rw[NS.ky];exact (fF (k:=1) zS zS).f⟩);have HO:=zh hO;clear hO HT hv;generalize eqN n=x at *
   go_wp2_with fail
   refine HB.out.mono ?_;rintro e w2 ⟨ri,rf,rfl,hb2,hn⟩;obtain⟨xa,xc,ya,yc,rfl,rfl⟩:=hn.spell;have hO:=HO.out.call hb2;have hS:ScAt _ (.slice xa x.i.length xc) (.slice ya x.rf.length yc) (.slice none 0 0) ⟨false,false,false,x.i,x.rf,[]⟩:=⟨hn.i,hn.f,aZ _⟩;clear HB HO hb2 hn;obtain⟨g0,g1,g2,g3,g4,g5,gf0,gf1,gf2,gf3,gf4,gf5⟩:=hO.obj.cf6;have gl:=hO.obj.lt;have hO2:Own _ _ _ _ (.obj _ 29 #[.bool false,.bool false,.bool false,.slice xa x.i.length xc,.slice ya x.rf.length yc,.slice none 0 0]::_):=((((((hO.set 0 (.bool false)).set 1 (.bool false)).set 2 (.bool false)).set 3 (.slice xa x.i.length xc)).set 4 (.slice ya x.rf.length yc)).set 5 (.slice none 0 0));obtain⟨k0,k1,k2,k3,k4,k5⟩:=hO2.obj.cs6;have Hk:=zh (zi hO2.below (hS.le hO2.done));clear hO2 hS hO;go_wp2;refine bodyPost_ret (v:=.tuple #[.agg #[.bool false,.bool false,.bool false,.slice xa x.i.length xc,.slice ya x.rf.length yc,.slice none 0 0],.int .i64 0]) (by simp[results,Tryz.results17,go_sem,k0,k1,k2,k3,k4,k5]) rfl ?_
   exact hR.out _ _ ⟨⟨false,false,false,x.i,x.rf,[]⟩,_,_,_,rfl,Hk.out.1,Hk.out.2,HI.out,⟨HEL.out.1,HEL.out.2,zS⟩⟩
  | str hk h he=>
   subst hk h he;have HB:=zh (AO ⟨#[61,61]⟩ zf 4 n s0 ai am li ci lm cm m _ hO.inn zD hs);rw[Qr] at HB;have HO:=zh hO;clear hO HT
   go_wp2_with fail
   refine HB.out.mono ?_;rintro e w2 ⟨rt,C,rfl,hb2,hst,hl,-⟩;have HI:=zh (zi (Ni (hl _ rfl)) (IQ (hl _ rfl)));obtain⟨xa,xc,rfl⟩:=eU hst;have hO:=HO.out.call hb2;have hS:ScAt _ (.slice none 0 0) (.slice none 0 0) (.slice xa C.length xc) ⟨false,false,false,[],[],C⟩:=⟨aR _,aR _,hst⟩;clear HB HO hb2 hst hl;obtain⟨g0,g1,g2,g3,g4,g5,gf0,gf1,gf2,gf3,gf4,gf5⟩:=hO.obj.cf6;have gl:=hO.obj.lt;have hO2:Own _ _ _ _ (.obj _ 29 #[.bool false,.bool false,.bool false,.slice none 0 0,.slice none 0 0,.slice xa C.length xc]::_):=((((((hO.set 0 (.bool false)).set 1 (.bool false)).set 2 (.bool false)).set 3 (.slice none 0 0)).set 4 (.slice none 0 0)).set 5 (.slice xa C.length xc));obtain⟨k0,k1,k2,k3,k4,k5⟩:=hO2.obj.cs6;have Hk:=zh (zi hO2.below (hS.le hO2.done));clear hO2 hS hO;go_wp2;refine bodyPost_ret (v:=.tuple #[.agg #[.bool false,.bool false,.bool false,.slice none 0 0,.slice none 0 0,.slice xa C.length xc],.int .i64 0]) (by simp[results,Tryz.results17,go_sem,k0,k1,k2,k3,k4,k5]) rfl ?_
   exact hR.out _ _ ⟨⟨false,false,false,[],[],C⟩,_,_,_,rfl,Hk.out.1,Hk.out.2,HI.out.1,⟨zS,zS,by show C.length≤_;rw[HI.out.2];exact Nat.le_refl _⟩⟩
  | parts hk h he=>
   subst h he;have hS:ScAt m (.slice none 0 0) (.slice none 0 0) (.slice none 0 0) dO:=ScAt.empty m;clear HT;rcases hk with rfl | rfl
   ·have g0:=hO.obj.cell (i:=0) rfl;have g1:=hO.obj.cell (i:=1) rfl;have g2:=hO.obj.cell (i:=2) rfl;have g3:=hO.obj.cell (i:=3) rfl;have g4:=hO.obj.cell (i:=4) rfl;have g5:=hO.obj.cell (i:=5) rfl;obtain⟨gf0,gf1,gf2,gf3,gf4,gf5⟩:=hO.obj.fr6;have gl:=hO.obj.lt;have hO2:Own _ _ _ _ (.obj _ 29 #[.bool false,.bool false,.bool false,.slice none 0 0,.slice none 0 0,.slice none 0 0]::_):=((((((hO.set 0 (.bool false)).set 1 (.bool false)).set 2 (.bool false)).set 3 (.slice none 0 0)).set 4 (.slice none 0 0)).set 5 (.slice none 0 0));obtain⟨k0,k1,k2,k3,k4,k5⟩:=hO2.obj.cs6;have Hk:=zh (zi hO2.below (hS.le hO2.done));clear hO2 hS hO;go_wp2;refine bodyPost_ret (v:=.tuple #[.agg #[.bool false,.bool false,.bool false,.slice none 0 0,.slice none 0 0,.slice none 0 0],.int .i64 11]) (by simp[results,Tryz.results17,go_sem,k0,k1,k2,k3,k4,k5]) rfl ?_;exact hR.out _ _ ⟨dO,_,_,_,rfl,Hk.out.1,Hk.out.2,qY,fK _ _⟩
   ·have g0:=hO.obj.cell (i:=0) rfl;have g1:=hO.obj.cell (i:=1) rfl;have g2:=hO.obj.cell (i:=2) rfl;have g3:=hO.obj.cell (i:=3) rfl;have g4:=hO.obj.cell (i:=4) rfl;have g5:=hO.obj.cell (i:=5) rfl;obtain⟨gf0,gf1,gf2,gf3,gf4,gf5⟩:=hO.obj.fr6;have gl:=hO.obj.lt;have hO2:Own _ _ _ _ (.obj _ 29 #[.bool false,.bool false,.bool false,.slice none 0 0,.slice none 0 0,.slice none 0 0]::_):=((((((hO.set 0 (.bool false)).set 1 (.bool false)).set 2 (.bool false)).set 3 (.slice none 0 0)).set 4 (.slice none 0 0)).set 5 (.slice none 0 0));obtain⟨k0,k1,k2,k3,k4,k5⟩:=hO2.obj.cs6;have Hk:=zh (zi hO2.below (hS.le hO2.done));clear hO2 hS hO;go_wp2;refine bodyPost_ret (v:=.tuple #[.agg #[.bool false,.bool false,.bool false,.slice none 0 0,.slice none 0 0,.slice none 0 0],.int .i64 11]) (by simp[results,Tryz.results17,go_sem,k0,k1,k2,k3,k4,k5]) rfl ?_;exact hR.out _ _ ⟨dO,_,_,_,rfl,Hk.out.1,Hk.out.2,qY,fK _ _⟩
 ·obtain⟨h1,h2⟩:=HOK.out.2 hcx;subst h1 h2;have hne:(er != 0)=true:=by simpa using hcx
  have hS:ScAt m (.slice none 0 0) (.slice none 0 0) (.slice none 0 0) dO:=ScAt.empty m;clear HT HOK hcx;obtain⟨g0,g1,g2,g3,g4,g5,gf0,gf1,gf2,gf3,gf4,gf5⟩:=hO.obj.cf6;have gl:=hO.obj.lt;have hO2:Own _ _ _ _ (.obj _ 29 #[.bool false,.bool false,.bool false,.slice none 0 0,.slice none 0 0,.slice none 0 0]::_):=((((((hO.set 0 (.bool false)).set 1 (.bool false)).set 2 (.bool false)).set 3 (.slice none 0 0)).set 4 (.slice none 0 0)).set 5 (.slice none 0 0));obtain⟨k0,k1,k2,k3,k4,k5⟩:=hO2.obj.cs6;have Hk:=zh (zi hO2.below (hS.le hO2.done));clear hO2 hS hO;go_wp2;refine bodyPost_ret (v:=.tuple #[.agg #[.bool false,.bool false,.bool false,.slice none 0 0,.slice none 0 0,.slice none 0 0],.int .i64 er]) (by simp[results,Tryz.results17,go_sem,k0,k1,k2,k3,k4,k5]) rfl ?_;exact hR.out _ _ ⟨dO,_,_,_,rfl,Hk.out.1,Hk.out.2,qY,fK _ _⟩
def xN (p:El→Prop) (r:Option El):Prop:=(∃e,r=some e∧p e∧∀x,p x→x=e)∨(r=none∧¬ ∃e,p e∧∀x,p x→x=e)
theorem wQ {p:El→Prop} {r s:Option El} (h:xN p r) (k:xN p s):r=s:=by
 rcases h with ⟨e,rfl,h1,h2⟩ | ⟨rfl,h1⟩ <;> rcases k with ⟨f,rfl,k1,k2⟩ | ⟨rfl,k1⟩
 ·rw[k2 e h1]
 ·exact absurd ⟨e,h1,h2⟩ k1
 ·exact absurd ⟨f,k1,k2⟩ h1
 ·rfl
theorem J7 {p:El→Prop} (h:gP p none):xN p none:=.inr ⟨rfl,fun ⟨e,he,_⟩=>h e he⟩
theorem J6 {p:El→Prop} {e:El} (h:gP p (some e)) (k:∀x,p x→x=e):xN p (some e):=.inl ⟨e,rfl,h.1,k⟩
theorem MI {p:El→Prop} {e:El} (h:gP p (some e)) (k:¬ ∀x,p x→x=e):xN p none:=.inr ⟨rfl,fun ⟨_,_,hx⟩=>k fun x hp=>(hx x hp).trans (hx e h.1).symm⟩
theorem sM {e:El} (h:elOk e):dtEl (lstD (some e))=some e:=qC e h
theorem mI (r:Option El):(lstD r).items=[]∧(lstD r).bv=[]∧cnt (lstD r)=1:=by
 cases r with
 | none=>exact⟨rfl,rfl,rfl⟩
 | some e=>cases e <;> exact⟨rfl,rfl,rfl⟩
theorem NH {s:RS} {n t:Nat} (hl:ScLe s n t) {z:List UInt8} (h:gP (bU s).has (some (.str z))):z.length<t:=by
 have hc:=(zK s).ct;have h1:aJ (bU s).t 0 z=true:=by rw[← gD hc];exact h.1
 have h2:=(kE hl).t;apply Classical.byContradiction;intro hn;obtain⟨y,hy,hlt,-⟩:=pump h1 zo;rcases h.2 (.str y) (by show Sem _ _=true;rw[gD hc];exact hy) with e | e
 ·injection e with e;rw[e] at hlt;omega
 ·rcases (show slt z y from e) with k | k <;> omega
theorem xU {s:RS} {n t:Nat} (hl:ScLe s n t) {e:El} (h:gP (bU s).has (some e)):(lstD (some e)).str.size≤t:=by
 cases e with
 | str z=>have:=NH hl h;show z.length≤t;omega
 | _=>exact Nat.zero_le _
theorem NF (m:Mem) {e:El} (h:elOk e) (hz:(lstD (some e)).str.size≤maxLen):DtAt m (.slice none 0 0) (.slice none 0 0) (lstD (some e)):=by
 cases e with
 | num u=>have hu:bP u:=h;unfold bP maxU at hu;exact DtAt.leaf m 3 u _ zo zo hz
 | nul=>exact DtAt.leaf m 1 0 _ zo zo hz
 | fal=>exact DtAt.leaf m 2 0 _ zo zo hz
 | tru=>exact DtAt.leaf m 2 1 _ zo zo hz
 | str z=>exact DtAt.leaf m 4 0 _ zo zo hz
theorem J4 {s one:RS} {e:El} (hk:elOk e) (ho:ScIs (fun x=>dtEl (lstD (some e))=some x) one):subB s one=tf (∀x,(bU s).has x→x=e):=by
 unfold subB;refine fT ⟨fun h x hx=>?_,fun h x hx=>?_⟩
 ·have:=(ho.mem x).1 (by rw[← jJ ho.valid];exact h x hx);rw[sM hk] at this;cases this;rfl
 ·rw[jJ ho.valid,ho.mem,h x hx,sM hk]
theorem qi (vi vf vt:Value) (s:RS) (n t:Nat) (m:Mem) (w:World) (hm:m.inn w) (htab:TabM m) (hs:ScAt m vi vf vt s) (hl:ScLe s n t) (hn:n≤250) (ht:(t+2)*(t+3)≤99999) :
 Calls Tryz.prog 40 #[s.val vi vf vt] w fun e w'=>∃r,e=.returned (.tuple #[(lstD r).val (.slice none 0 0) (.slice none 0 0),.bool r.isSome])∧Below w.heap.size w w'∧xN (bU s).has r:=by
 have htt:t≤400:=by
  have:(t+2)*1≤(t+2)*(t+3):=Nat.mul_le_mul_left _ zo;apply Classical.byContradiction;intro h;have:=Nat.mul_le_mul (show 403≤t+2 by omega) (show 404≤t+3 by omega);omega
 have hO:=((Own.start hm).al #[.bool s.nul,.bool s.fal,.bool s.tru,vi,vf,vt] 29).al #[.int .i64 0,.int .i64 0,.string ⟨#[]⟩,.slice none 0 0,.slice none 0 0] 33;simp only[df] at hO;have HL:=zh (mQ vi vf vt s m _ hO.inn htab hs (hl.mono zo zo));have HF:=zh (fun e (h:gP (bU s).has (some e)) w' (hi:m.inn w')=>nK (.slice none 0 0) (.slice none 0 0) (lstD (some e)) m w' hi htab (NF m (zH h.1) (Nat.le_trans (xU hl h) (by simp[maxLen];omega))) (by rw[(mI _).2.2];omega) (Nat.le_trans (xU hl h) zo));have HS:=zh (fun e (h:gP (bU s).has (some e)) (one:RS) si sf st (mk:Mem) w' (hi:mk.inn w') (hle:m.le mk) (h1:ScAt mk si sf st one) (h2:ScIs (fun x=>dtEl (lstD (some e))=some x) one) (h3:ScLe one 1 ((lstD (some e)).str.size+1))=>by
  have h4:=ik vi vf vt s si sf st one n t 1 (t+1) mk w' hi (htab.le hle) (hs.le hle) h1 hl (h3.mono (Nat.le_refl _) (by have:=xU hl h;omega)) hn zo ht;rw[J4 (zH h.1) h2] at h4;exact h4)
 obtain⟨a1,b1,a2,b2,a3,b3,rfl,rfl,rfl⟩:=hs.spell;unfold RS.val at HL HS ⊢;unfold Dt.val at HF;have HO:=zh hO;clear hO hs hl htab;refine aj fun R hR=>?_
 go_enter Tryz.func40,Tryz.ntmps40
 go_wp2_with fail
 refine HL.out.mono ?_;rintro e w1 ⟨r,rfl,hb1,hr⟩;have hO1:=(HO.out.move hb1);unfold Dt.val
 cases r with
 | none=>
  have hO:=(hO1.al #[.int .i64 0,.int .i64 0,.string ⟨#[]⟩,.slice none 0 0,.slice none 0 0] 33).swap;have HC:=zh (J7 hr);have e1:(lstD none).kind=0:=rfl;have e2:(lstD none).num=0:=rfl;have e3:(lstD none).str=⟨#[]⟩:=rfl;have e4:(none:Option El).isSome=false:=rfl;rw[e1,e2,e3,e4];clear HL HO HF HS hb1 hr hO1 e1 e2 e3 e4;obtain⟨g0,g1,g2,g3,g4,f0,f1,f2,f3,f4⟩:=hO.obj.cf5;have gl:=hO.obj.lt;have hO2:=((((hO.set 0 (.int .i64 0)).set 1 (.int .i64 0)).set 2 (.string ⟨#[]⟩)).set 3 (.slice none 0 0)).set 4 (.slice none 0 0);have hO2:Own _ _ _ _ (.obj _ 33 #[.int .i64 0,.int .i64 0,.string ⟨#[]⟩,.slice none 0 0,.slice none 0 0]::_):=hO2;obtain⟨k0,k1,k2,k3,k4⟩:=hO2.obj.cs5;have Hk:=zh (zi hO2.below (HC.out));clear hO hO2;go_wp2;refine bodyPost_ret (v:=.tuple #[.agg #[.int .i64 0,.int .i64 0,.string ⟨#[]⟩,.slice none 0 0,.slice none 0 0],.bool false]) (by simp[results,Tryz.results40,go_sem,k0,k1,k2,k3,k4]) rfl ?_
  exact hR.out _ _ ⟨none,rfl,Hk.out.1,Hk.out.2⟩
 | some e0=>
  have hO2:=hO1.al #[.int .i64 (lstD (some e0)).kind,.int .i64 (lstD (some e0)).num,.string (lstD (some e0)).str,.slice none 0 0,.slice none 0 0] 33;have HF2:=zh (HF.out e0 hr _ hO2.inn);have HS2:=zh (HS.out e0 hr);have HC:=zh (zi (fun h=>J6 hr h) (fun h=>MI hr h));generalize hk:(lstD (some e0)).kind=dk at *
  generalize hn0:(lstD (some e0)).num=dn at *
  generalize hz:(lstD (some e0)).str=dz at *
  have HE:=zh (zi hk (zi hn0 hz));have e4:(some e0:Option El).isSome=true:=rfl;rw[e4];obtain⟨q0,q1,q2,q3,q4⟩:=hO2.obj.cs5;have HO2:=zh hO2;clear HL HO HF HS hb1 hr hO1 hk hn0 hz hO2 e4
  go_wp2_with fail
  refine HF2.out.mono ?_;rintro e w2 ⟨one,si,sf,st,rfl,hb2,h1,h2,h3⟩;obtain⟨xa,xb,xc,xd,xe,xf,rfl,rfl,rfl⟩:=h1.spell;unfold RS.val;have hO3:=(HO2.out.call hb2).al #[.bool one.nul,.bool one.fal,.bool one.tru,.slice xa one.i.length xb,.slice xc one.f.length xd,.slice xe one.t.length xf] 29;have HS3:=zh (HS2.out one _ _ _ _ _ hO3.inn hO3.ext.1 h1 h2 h3);clear HS2 HF2 q0 q1 q2 q3 q4;obtain⟨q0,q1,q2,q3,q4,q5⟩:=hO3.obj.cs6;have q6:=hO3.obj.lt;have p0:=(HO2.out.call hb2).third.obj.cell (i:=0) rfl;have p1:=(HO2.out.call hb2).third.obj.cell (i:=1) rfl;have p2:=(HO2.out.call hb2).third.obj.cell (i:=2) rfl;have p3:=(HO2.out.call hb2).third.obj.cell (i:=3) rfl;have p4:=(HO2.out.call hb2).third.obj.cell (i:=4) rfl;have p5:=(HO2.out.call hb2).third.obj.cell (i:=5) rfl;have p6:=(HO2.out.call hb2).third.obj.lt;have HO3:=zh hO3;clear HO2 hb2 h1 h2 h3 hO3
  go_wp2_with fail
  refine HS3.out.mono ?_;rintro e w3 ⟨rfl,hb3⟩;have hO4:=(HO3.out.move hb3);have HC2:=zh (zi (fun h:tf (∀x,(bU s).has x→x=e0)=true=>HC.out.1 (yw.1 h)) (fun h:tf (∀x,(bU s).has x→x=e0)=false=>HC.out.2 (fun k=>by rw[aN k] at h;cases h)));generalize tf (∀x,(bU s).has x→x=e0)=bo at *
  have hO5:=hO4.swap;have hO:=hO4.third;clear HS3 HO3 hb3 HC q0 q1 q2 q3 q4 q5 q6 p0 p1 p2 p3 p4 p5 p6
  cases bo with
  | true=>
   obtain⟨z0,z1,z2,z3,z4⟩:=hO5.obj.cs5;clear hO4 hO5;obtain⟨g0,g1,g2,g3,g4,f0,f1,f2,f3,f4⟩:=hO.obj.cf5;have gl:=hO.obj.lt;have hO2:=((((hO.set 0 (.int .i64 dk)).set 1 (.int .i64 dn)).set 2 (.string dz)).set 3 (.slice none 0 0)).set 4 (.slice none 0 0);have hO2:Own _ _ _ _ (.obj _ 33 #[.int .i64 dk,.int .i64 dn,.string dz,.slice none 0 0,.slice none 0 0]::_):=hO2;obtain⟨k0,k1,k2,k3,k4⟩:=hO2.obj.cs5;have Hk:=zh (zi hO2.below (HC2.out.1 rfl));clear hO hO2;go_wp2;refine bodyPost_ret (v:=.tuple #[.agg #[.int .i64 dk,.int .i64 dn,.string dz,.slice none 0 0,.slice none 0 0],.bool true]) (by simp[results,Tryz.results40,go_sem,k0,k1,k2,k3,k4]) rfl ?_
   exact hR.out _ _ ⟨some e0,by unfold Dt.val;rw[HE.out.1,HE.out.2.1,HE.out.2.2];rfl,Hk.out.1,Hk.out.2⟩
  | false=>
   clear hO4 hO5;obtain⟨g0,g1,g2,g3,g4,f0,f1,f2,f3,f4⟩:=hO.obj.cf5;have gl:=hO.obj.lt;have hO2:=((((hO.set 0 (.int .i64 0)).set 1 (.int .i64 0)).set 2 (.string ⟨#[]⟩)).set 3 (.slice none 0 0)).set 4 (.slice none 0 0);have hO2:Own _ _ _ _ (.obj _ 33 #[.int .i64 0,.int .i64 0,.string ⟨#[]⟩,.slice none 0 0,.slice none 0 0]::_):=hO2;obtain⟨k0,k1,k2,k3,k4⟩:=hO2.obj.cs5;have Hk:=zh (zi hO2.below (HC2.out.2 rfl));clear hO hO2;go_wp2;refine bodyPost_ret (v:=.tuple #[.agg #[.int .i64 0,.int .i64 0,.string ⟨#[]⟩,.slice none 0 0,.slice none 0 0],.bool false]) (by simp[results,Tryz.results40,go_sem,k0,k1,k2,k3,k4]) rfl ?_;exact hR.out _ _ ⟨none,rfl,Hk.out.1,Hk.out.2⟩
end Cl
