/- Lemmas for the proofs of chapter 11. -/
import Derived.Test.YtajbfioncdnkcaaGreatDoorProg
import Derived.BigQuiet
import Derived.Deep.Cut
import Derived.Deep.QuietTactic
import Derived.Laws.StructEq
import Derived.Lib.AppendStr
import Derived.Lib.Builder
import Derived.Lib.Hide
import Derived.Lib.ItoaLen
import Derived.Maps.OwnOps
import Derived.Maps.OwnSet
import Derived.OrdersHeld
import Derived.Outline
import Derived.StillTailTactics
import Derived.StringKeys
import Derived.WalkKit
import Derived.WalkLawsBesides
import Derived.WalkSpells
import Derived.Deep.RegionHeld
import Derived.RangeFuncNested
import Derived.RangeFuncBound
import Derived.RangeFuncCalls
import Derived.RangeFuncLeaves
import Derived.OwnWalkIn
import Derived.TacticsInMore
import Derived.LoopNIn
import Derived.LoopIn
import Derived.Shelf.Strings.Builder1
import Derived.Shelf.Small.Wraps
import Derived.Shelf.LaysM
import Derived.Shelf.Strconv.Itoa3
import Derived.Shelf.SlSortCmp.WholeK
import Derived.Laws.EntriesVeiled
import Derived.RegionTactic
import Derived.Laws.CopyOwn
import Derived.Shelf.Spec.SlicesGrow
import Derived.ChangeAlike
import Derived.Laws.BytesArg
import Derived.Test.YtajbfioncdnkcaaGreatDoorZz
import Derived.Test.YtajbfioncdnkcaaGreatDoorPkM3
import Derived.Test.YtajbfioncdnkcaaGreatDoorPkM4
import Derived.Test.YtajbfioncdnkcaaGreatDoorPkM1
import Derived.Test.YtajbfioncdnkcaaGreatDoorPkM2
import Derived.Test.YtajbfioncdnkcaaGreatDoorPkM8
import Derived.Test.YtajbfioncdnkcaaGreatDoorPkM7
import Derived.Test.YtajbfioncdnkcaaGreatDoorPkM6
import Derived.Test.YtajbfioncdnkcaaGreatDoorPkM9
import Derived.Test.YtajbfioncdnkcaaGreatDoorPkM5
import Derived.Test.YtajbfioncdnkcaaGreatDoorPkM10
import Derived.Test.YtajbfioncdnkcaaGreatDoorPkM11
import Derived.Test.YtajbfioncdnkcaaGreatDoorPkM16
import Derived.Test.YtajbfioncdnkcaaGreatDoorPkM12
import Derived.Test.YtajbfioncdnkcaaGreatDoorPkM13
import Derived.Test.YtajbfioncdnkcaaGreatDoorPkM14
import Derived.Test.YtajbfioncdnkcaaGreatDoorPkM15
import Derived.Test.YtajbfioncdnkcaaGreatDoorPkM17
set_option maxRecDepth 100000
set_option maxHeartbeats 16000000
namespace Cl
open Go Go.RowKit Go.Proofs
def numD (n:Int):Dt:=.mk 3 n ⟨#[]⟩ [] [] []
def txtD (s:ByteArray):Dt:=.mk 4 0 s [] [] []
theorem zz (n:Int) (w:World) (h : -100≤n) (h2:n≤100) :
 Calls Tryz.prog 52 #[.int .i64 n] w fun e w'=>e=.returned ((numD (n*10000)).val (.slice none 0 0) (.slice none 0 0))∧Below w.heap.size w w':=by
 have hO2:=(Own.start (Mem.ow w)).al #[.int .i64 3,.int .i64 (n*10000),.string ⟨#[]⟩,.slice none 0 0,.slice none 0 0] 33;obtain⟨k0,k1,k2,k3,k4⟩:=hO2.obj.cs5;have Hk:=zh hO2.below;clear hO2;refine aj fun R hR=>?_
 go_enter Tryz.func52,Tryz.ntmps52
 go_wp2;refine bodyPost_ret (v:=.agg #[.int .i64 3,.int .i64 (n*10000),.string ⟨#[]⟩,.slice none 0 0,.slice none 0 0]) (by simp[results,Tryz.results52,go_sem,k0,k1,k2,k3,k4]) rfl ?_;exact hR.out _ _ ⟨rfl,Hk.out⟩
theorem Db (s:ByteArray) (w:World) :
 Calls Tryz.prog 53 #[.string s] w fun e w'=>e=.returned ((txtD s).val (.slice none 0 0) (.slice none 0 0))∧Below w.heap.size w w':=by
 have hO2:=(Own.start (Mem.ow w)).al #[.int .i64 4,.int .i64 0,.string s,.slice none 0 0,.slice none 0 0] 33;obtain⟨k0,k1,k2,k3,k4⟩:=hO2.obj.cs5;have Hk:=zh hO2.below;clear hO2;refine aj fun R hR=>?_
 go_enter Tryz.func53,Tryz.ntmps53
 go_wp2;refine bodyPost_ret (v:=.agg #[.int .i64 4,.int .i64 0,.string s,.slice none 0 0,.slice none 0 0]) (by simp[results,Tryz.results53,go_sem,k0,k1,k2,k3,k4]) rfl ?_;exact hR.out _ _ ⟨rfl,Hk.out⟩
structure ScB (m:Mem) (g:Nat) (s:RS) (vi vf vt:Value):Prop where
 c0:m.cell g 0=some (.bool s.nul)
 c1:m.cell g 1=some (.bool s.fal)
 c2:m.cell g 2=some (.bool s.tru)
 c3:m.cell g 3=some vi
 c4:m.cell g 4=some vf
 c5:m.cell g 5=some vt
 at':ScAt m vi vf vt s
theorem ScB.le {m m':Mem} (h:m.le m') {g:Nat} {s:RS} {vi vf vt:Value} (k:ScB m g s vi vf vt):ScB m' g s vi vf vt:=
 ⟨Mem.aF h k.c0,Mem.aF h k.c1,Mem.aF h k.c2,Mem.aF h k.c3,Mem.aF h k.c4,Mem.aF h k.c5,k.at'.le h⟩
structure DtB (m:Mem) (g:Nat) (d:Dt) (vi vm:Value):Prop where
 c0:m.cell g 0=some (.int .i64 d.kind)
 c1:m.cell g 1=some (.int .i64 d.num)
 c2:m.cell g 2=some (.string d.str)
 c3:m.cell g 3=some vi
 c4:m.cell g 4=some vm
 at':DtAt m vi vm d
theorem DtB.le {m m':Mem} (h:m.le m') {g:Nat} {d:Dt} {vi vm:Value} (k:DtB m g d vi vm):DtB m' g d vi vm:=
 ⟨Mem.aF h k.c0,Mem.aF h k.c1,Mem.aF h k.c2,Mem.aF h k.c3,Mem.aF h k.c4,k.at'.le h⟩
theorem kZ {w0 w:World} {m mk:Mem} {L:List Item} {vi vf vt:Value} {s:RS} (t:TypeId) (h:Own w0 m w mk L) (hs:ScAt mk vi vf vt s) :
 ∃mk',mk.le mk'∧ScB mk' w.heap.size s vi vf vt∧Own w0 m (w.alloc (.cells #[.bool s.nul,.bool s.fal,.bool s.tru,vi,vf,vt] t)) mk' L:=by
 have hO:=h.al #[.bool s.nul,.bool s.fal,.bool s.tru,vi,vf,vt] t;exact⟨_,Mem.jw hO.iC,⟨Mem.cz hO.obj rfl,Mem.cz hO.obj rfl,Mem.cz hO.obj rfl,Mem.cz hO.obj rfl,Mem.cz hO.obj rfl,Mem.cz hO.obj rfl,hs.le (Mem.jw hO.iC)⟩,hO.ib⟩
theorem lC {w0 w:World} {m mk:Mem} {L:List Item} {vi vm:Value} {d:Dt} (t:TypeId) (h:Own w0 m w mk L) (hs:DtAt mk vi vm d) :
 ∃mk',mk.le mk'∧DtB mk' w.heap.size d vi vm∧Own w0 m (w.alloc (.cells #[.int .i64 d.kind,.int .i64 d.num,.string d.str,vi,vm] t)) mk' L:=by
 have hO:=h.al #[.int .i64 d.kind,.int .i64 d.num,.string d.str,vi,vm] t;exact⟨_,Mem.jw hO.iC,⟨Mem.cz hO.obj rfl,Mem.cz hO.obj rfl,Mem.cz hO.obj rfl,Mem.cz hO.obj rfl,Mem.cz hO.obj rfl,hs.le (Mem.jw hO.iC)⟩,hO.ib⟩
theorem iJ {w0 w w':World} {m mk:Mem} {L:List Item} {vi vf vt:Value} {s:RS} (t:TypeId) (h:Own w0 m w mk L) (hb:Below w.heap.size w w') (hs:ScAt (mk.grow w w') vi vf vt s) :
 ∃mk',mk.le mk'∧ScB mk' w'.heap.size s vi vf vt∧Own w0 m (w'.alloc (.cells #[.bool s.nul,.bool s.fal,.bool s.tru,vi,vf,vt] t)) mk' L:=by
 obtain⟨mk',h1,h2,h3⟩:=kZ t (h.call hb) hs;exact⟨mk',Mem.le_trans (Mem.eO h.inn) h1,h2,h3⟩
theorem ScRV.le {p:El→Prop} {n t:Nat} {m m':Mem} (h:m.le m') {v:Value} (k:ScRV p n t m v):ScRV p n t m' v:=by
 obtain⟨s,h1,h2⟩:=k;exact⟨s,h1.le h,h2⟩
theorem ScIs.good {p:El→Prop} {s:RS} (h:ScIs p s) (e:El):(bU s).has e↔p e:=by rw[jJ h.valid];exact h.mem e
theorem oW (n x:Int) (hx:n*10000=x) (w:World) (h : -100≤n) (h2:n≤100) :
 Calls Tryz.prog 52 #[.int .i64 n] w fun e w'=>e=.returned (.agg #[.int .i64 3,.int .i64 x,.string ⟨#[]⟩,.slice none 0 0,.slice none 0 0])∧Below w.heap.size w w':=by
 subst hx;exact zz n w h h2
theorem sN (s:ByteArray) (w:World) :
 Calls Tryz.prog 53 #[.string s] w fun e w'=>e=.returned (.agg #[.int .i64 4,.int .i64 0,.string s,.slice none 0 0,.slice none 0 0])∧Below w.heap.size w w':=Db s w
theorem CR (m:Mem) {u:Int} (h:bP u):DtAt m (.slice none 0 0) (.slice none 0 0) (numD u):=DtAt.leaf m 3 u ⟨#[]⟩ zo (by unfold bP maxU at h;omega) (Nat.zero_le _)
theorem Cw (m:Mem) {s:ByteArray} (h:s.size≤maxLen):DtAt m (.slice none 0 0) (.slice none 0 0) (txtD s):=DtAt.leaf m 4 0 s zo zo h
theorem zm {u:Int} (h:bP u):dtEl (numD u)=some (.num u):=qC (.num u) h
theorem yt (z:List UInt8):dtEl (txtD ⟨z.toArray⟩)=some (.str z):=qC (.str z) trivial
theorem TH:jL [62] (numD 50000)=0:=by
 unfold jL;rw[if_neg (by rw[iI.2 ⟨_,zm (u:=50000) zD⟩];simp)]
 rfl
theorem TG:jL [60] (elDt .tru)=11:=by
 unfold jL;rw[if_neg (by rw[iI.2 ⟨_,qC .tru trivial⟩];simp)]
 rfl
theorem TF:jL [61,61] (numD 10000)=8:=by
 unfold jL;rw[if_neg (by rw[iI.2 ⟨_,zm (u:=10000) zD⟩];simp)]
 rfl
theorem TE:jL [33,61] (elDt .nul)=0:=by
 unfold jL;rw[if_neg (by rw[iI.2 ⟨_,qC .nul trivial⟩];simp)]
 rfl
theorem Q3:ScIs (fun e=>∃u,e=.num u∧bP u∧u % 10000=0) (typS [105,110,116]):=by
 have e1:typS [105,110,116]=⟨false,false,false,DU.i,DU.rf,[]⟩:=rfl;rw[e1];refine ja zS zS zS Md (fun u=>?_) eu (fun w=>by simp[gD eu,dC]);rw[JP];constructor
 ·rintro ⟨h1,h2⟩;exact⟨u,rfl,h1,h2⟩
 ·rintro ⟨v,h,h1,h2⟩;cases h;exact⟨h1,h2⟩
theorem Qx {s1 s3:RS} (h1:ScIs (gV [62] (numD 50000)) s1) (h3:ScIs (fun e=>(bU s1).has e∧(bU (typS [105,110,116])).has e) s3) {r:Option El} (hr:gP (bU s3).has r):r=some (.num 60000):=by
 refine oV hr (II fun e=>?_);rw[h3.good,h1.good,Q3.good];unfold gV;rw[zm (u:=50000) zD];constructor
 ·rintro ⟨h,u,rfl,hv,hm⟩;have:50000<u:=h.2;exact⟨u,rfl,hv,this,hm⟩
 ·rintro ⟨u,rfl,hv,hl,hm⟩;exact⟨⟨hv,hl⟩,u,rfl,hv,hm⟩
theorem O7 {s:RS} (h:ScIs (fun e=>dtEl (txtD ⟨#[97,98]⟩)=some e) s) {r:Option El} (hr:xN (bU s).has r):r=some (.str [97,98]):=by
 have hx:dtEl (txtD ⟨#[97,98]⟩)=some (.str [97,98]):=yt [97,98];refine wQ hr (.inl ⟨_,rfl,?_,fun x hx'=>?_⟩)
 ·rw[h.good,hx]
 ·rw[h.good,hx] at hx';cases hx';rfl
theorem R5 {s:RS} (h:ScIs (gV [33,61] (elDt .nul)) s):hasD s (elDt .fal)=true∧hasD s (elDt .nul)=false:=by
 have h2:∀e,(bU s).has e↔e≠.nul∧elOk e:=fun e=>by rw[h.good];exact vz (qC .nul trivial) e
 refine ⟨?_,?_⟩
 ·rw[jy (qC .fal trivial)];exact aN ((h2 _).2 ⟨zS,trivial⟩)
 ·rw[jy (qC .nul trivial)];exact aL fun k=>((h2 _).1 k).1 rfl
theorem Td:hasD allS (txtD ⟨#[]⟩)=true:=by
 rw[Jp nX];exact aN (iI.2 ⟨_,yt []⟩)
theorem Qy:nk dO=true:=aN fun e=>by rw[zV.good];exact id
theorem R6:tf (RS.gK ⟨false,false,false,[],[],[⟨false,[]⟩]⟩)=false:=aL fun h=>RN h.ct
theorem ScB.cw {m:Mem} {g:Nat} {s:RS} {vi vf vt:Value} {w:World} (h:ScB m g s vi vf vt) (k:m.inn w):w.cell? ⟨g,0,none⟩=some (.bool s.nul)∧w.cell? ⟨g,1,none⟩=some (.bool s.fal)∧w.cell? ⟨g,2,none⟩=some (.bool s.tru)∧w.cell? ⟨g,3,none⟩=some vi∧w.cell? ⟨g,4,none⟩=some vf∧w.cell? ⟨g,5,none⟩=some vt:=⟨Mem.av k h.c0,Mem.av k h.c1,Mem.av k h.c2,Mem.av k h.c3,Mem.av k h.c4,Mem.av k h.c5⟩
theorem DtB.cw {m:Mem} {g:Nat} {d:Dt} {vi vm:Value} {w:World} (h:DtB m g d vi vm) (k:m.inn w):w.cell? ⟨g,0,none⟩=some (.int .i64 d.kind)∧w.cell? ⟨g,1,none⟩=some (.int .i64 d.num)∧w.cell? ⟨g,2,none⟩=some (.string d.str)∧w.cell? ⟨g,3,none⟩=some vi∧w.cell? ⟨g,4,none⟩=some vm:=⟨Mem.av k h.c0,Mem.av k h.c1,Mem.av k h.c2,Mem.av k h.c3,Mem.av k h.c4⟩
theorem bJ (m:Mem) (w:World) (hm:m.inn w) (htab:TabM m) :
 Calls Tryz.prog 14 #[] w fun e w'=>e=.returned (.bool true)∧Below w.heap.size w w':=by
 have HT:=zh htab;have HO:=zh (Own.start hm);clear htab;refine aj fun R hR=>?_
 go_enter Tryz.func14,Tryz.ntmps14
 go_wp2_with fail
 refine (oW 5 50000 zD _ zD zD).mono ?_;rintro e w' ⟨rfl,hb⟩;have HO:=zh (HO.out.move hb);clear hb;have HB:=zh (kT ⟨#[62]⟩ (.slice none 0 0) (.slice none 0 0) (numD 50000) m _ HO.out.inn HT.out (CR _ zD) zD (Nat.zero_le _));rw[show ByteArray.toList ⟨#[62]⟩=[62] by rw[ByteArray.toList_eq],TH] at HB;unfold Dt.val at HB
 go_wp2_with fail
 refine HB.out.mono ?_;rintro e w1 ⟨s1,si,sf,st,rfl,hb,hn,hS,hL⟩;have H1:=zh (zi hS hL);obtain⟨pa,pb,pc,pd,pe,pf,rfl,rfl,rfl⟩:=hn.spell;unfold RS.val;obtain⟨m1,l1,b1,hO⟩:=iJ 29 HO.out hb hn;have HT:=zh (HT.out.le l1)
 go_upto_region 2 with (fail)
 generalize hW:w1.alloc (.cells #[.bool s1.nul,.bool s1.fal,.bool s1.tru,.slice pa s1.i.length pb,.slice pc s1.f.length pd,.slice pe s1.t.length pf] 29)=u1 at *
 generalize w1.heap.size=g1 at *
 have HO:=zh hO;clear hb hn hO hS hL HB hW l1;have HB:=zh (Bp ⟨#[105,110,116]⟩ m1 _ HO.out.inn);rw[show ByteArray.toList ⟨#[105,110,116]⟩=[105,110,116] by rw[ByteArray.toList_eq],show typE [105,110,116]=0 from rfl] at HB;have hI:ScLe (typS [105,110,116]) 1 1:=⟨Nat.le_refl _,Nat.zero_le _,Nat.zero_le _⟩;have HI:=zh hI;have HX:=zh (fun s3 r h3 (hr:gP (bU s3).has r)=>Qx H1.out.1 (s3:=s3) h3 (r:=r) hr);clear hI;generalize typS [105,110,116]=s2 at *
 go_wp2_with fail
 refine HB.out.mono ?_;rintro e w2 ⟨si,sf,st,rfl,hb,hn⟩;have hS:True:=trivial;have hL:True:=trivial;obtain⟨qa,qb,qc,qd,qe,qf,rfl,rfl,rfl⟩:=hn.spell;unfold RS.val;obtain⟨m2,l2,b2,hO⟩:=iJ 29 HO.out hb hn;have HT:=zh (HT.out.le l2);have b1:=b1.le l2
 go_upto_region 3 with (fail)
 generalize hW:w2.alloc (.cells #[.bool s2.nul,.bool s2.fal,.bool s2.tru,.slice qa s2.i.length qb,.slice qc s2.f.length qd,.slice qe s2.t.length qf] 29)=u2 at *
 generalize w2.heap.size=g2 at *
 have HO:=zh hO;clear hb hn hO hS hL HB hW l2;obtain⟨y0,y1,y2,y3,y4,y5⟩:=b1.cw HO.out.inn;have yl:=Mem.ak HO.out.inn b1.c0;obtain⟨z0,z1,z2,z3,z4,z5⟩:=b2.cw HO.out.inn;have zl:=Mem.ak HO.out.inn b2.c0;have HB:=zh (iM _ _ _ s1 _ _ _ s2 6 (3*((numD 50000).str.size+5)+1) 1 1 m2 _ HO.out.inn HT.out b1.at' b2.at' H1.out.2 HI.out zD zD zD);unfold RS.val at HB
 go_wp2_with fail
 refine HB.out.mono ?_;rintro e w3 ⟨s3,si,sf,st,rfl,hb,hn,hS,hL⟩;have hO:=HO.out.call hb;have HB2:=zh (mQ _ _ _ s3 _ _ hO.inn (HT.out.le (Mem.eO HO.out.inn)) hn (hL.mono zD zD));obtain⟨ra,rb,rc,rd,re,rf,rfl,rfl,rfl⟩:=hn.spell;unfold RS.val at HB2;have HX:=zh (fun r hr=>HX.out s3 r hS hr);have HT:=zh (HT.out.le (Mem.eO (w:=w3) HO.out.inn));have HO:=zh hO;clear hO hb hn hS hL HB H1 HI b1 b2;clear y0 y1 y2 y3 y4 y5 yl;clear z0 z1 z2 z3 z4 z5 zl
 go_wp2_with fail
 refine HB2.out.mono ?_;rintro e w4 ⟨r,rfl,hb,hr⟩;obtain rfl:=HX.out r hr;have hO1:=HO.out.move hb;have e4:(some (El.num 60000)).isSome=true:=rfl;have e5:(lstD (some (El.num 60000))).val (.slice none 0 0) (.slice none 0 0)=.agg #[.int .i64 3,.int .i64 60000,.string ⟨#[]⟩,.slice none 0 0,.slice none 0 0]:=rfl;rw[e4,e5];obtain⟨m3,l3,b3,hO⟩:=lC 33 hO1 (CR _ (u:=60000) zD);have HT:=zh (HT.out.le l3);have hO:Own _ _ (w4.alloc (.cells #[.int .i64 3,.int .i64 60000,.string ⟨#[]⟩,.slice none 0 0,.slice none 0 0] 33)) _ _:=hO
 go_upto_region 4 with (fail)
 generalize hW:w4.alloc (.cells #[.int .i64 3,.int .i64 60000,.string ⟨#[]⟩,.slice none 0 0,.slice none 0 0] 33)=u3 at *
 generalize w4.heap.size=g3 at *
 have HO:=zh hO;clear hO hO1 hb hr e4 e5 hW l3 HB2 HX
 go_wp2_with fail
 refine (sN ⟨#[97,98]⟩ _).mono ?_;rintro e w5 ⟨rfl,hb⟩;have HO:=zh (HO.out.move hb);clear hb;have HB:=zh (nK (.slice none 0 0) (.slice none 0 0) (txtD ⟨#[97,98]⟩) m3 _ HO.out.inn HT.out (Cw _ zD) zD zD);rw[show ofE (txtD ⟨#[97,98]⟩)=0 from iI.2 ⟨_,yt [97,98]⟩] at HB;unfold Dt.val at HB
 go_wp2_with fail
 refine HB.out.mono ?_;rintro e w6 ⟨s4,si,sf,st,rfl,hb,hn,hS,hL⟩;have H4:=zh (zi hS hL);obtain⟨ta,tb,tc,td,te,tf0,rfl,rfl,rfl⟩:=hn.spell;unfold RS.val;obtain⟨m6,l6,b6,hO⟩:=iJ 29 HO.out hb hn;have HT:=zh (HT.out.le l6);have b3:=b3.le l6
 go_upto_region 5 with (fail)
 generalize hW:w6.alloc (.cells #[.bool s4.nul,.bool s4.fal,.bool s4.tru,.slice ta s4.i.length tb,.slice tc s4.f.length td,.slice te s4.t.length tf0] 29)=u6 at *
 generalize w6.heap.size=g6 at *
 have HO:=zh hO;clear hb hn hO hS hL HB hW l6;obtain⟨z0,z1,z2,z3,z4,z5⟩:=b6.cw HO.out.inn;have zl:=Mem.ak HO.out.inn b6.c0;have HB:=zh (qi _ _ _ s4 1 3 m6 _ HO.out.inn HT.out b6.at' H4.out.2 zD zD);have HX:=zh (fun r hr=>O7 H4.out.1 (r:=r) hr);unfold RS.val at HB
 go_wp2_with fail
 refine HB.out.mono ?_;rintro e w7 ⟨r,rfl,hb,hr⟩;obtain rfl:=HX.out r hr;have hO1:=HO.out.move hb;have e4:(some (El.str [97,98])).isSome=true:=rfl;have e5:(lstD (some (El.str [97,98]))).val (.slice none 0 0) (.slice none 0 0)=.agg #[.int .i64 4,.int .i64 0,.string ⟨#[97,98]⟩,.slice none 0 0,.slice none 0 0]:=rfl;rw[e4,e5];obtain⟨m7,l7,b7,hO⟩:=lC 33 hO1 (Cw _ (s:=⟨#[97,98]⟩) zD);have HT:=zh (HT.out.le l7);have hO:Own _ _ (w7.alloc (.cells #[.int .i64 4,.int .i64 0,.string ⟨#[97,98]⟩,.slice none 0 0,.slice none 0 0] 33)) _ _:=hO;have b3:=b3.le l7
 go_upto_region 6 with (fail)
 generalize hW:w7.alloc (.cells #[.int .i64 4,.int .i64 0,.string ⟨#[97,98]⟩,.slice none 0 0,.slice none 0 0] 33)=u7 at *
 generalize w7.heap.size=g7 at *
 have HO:=zh hO;clear hO hO1 hb hr e4 e5 hW l7 HB HX H4 b6;clear z0 z1 z2 z3 z4 z5 zl;have HB:=zh (kT ⟨#[60]⟩ (.slice none 0 0) (.slice none 0 0) (elDt .tru) m7 _ HO.out.inn HT.out (DtAt.leaf _ 2 1 _ zD zD (Nat.zero_le _)) zD (Nat.zero_le _));rw[show ByteArray.toList ⟨#[60]⟩=[60] by rw[ByteArray.toList_eq],TG] at HB;unfold Dt.val at HB
 go_wp2_with fail
 refine HB.out.mono ?_;rintro e w8 ⟨s5,si,sf,st,rfl,hb,hn,hS,hL⟩;have H8:=zh (zi hS hL);obtain⟨pa,pb,pc,pd,pe,pf,rfl,rfl,rfl⟩:=hn.spell;unfold RS.val;obtain⟨m8,l8,b8,hO⟩:=iJ 29 HO.out hb hn;have HT:=zh (HT.out.le l8);have b3:=b3.le l8;have b7:=b7.le l8
 go_upto_region 7 with (fail)
 generalize hW:w8.alloc (.cells #[.bool s5.nul,.bool s5.fal,.bool s5.tru,.slice pa s5.i.length pb,.slice pc s5.f.length pd,.slice pe s5.t.length pf] 29)=u8 at *
 generalize w8.heap.size=g8 at *
 have HO:=zh hO;clear hb hn hO hS hL HB hW l8;clear H8 b8
 go_wp2_with fail
 refine (oW 1 10000 zD _ zD zD).mono ?_;rintro e w' ⟨rfl,hb⟩;have HO:=zh (HO.out.move hb);clear hb;have HB:=zh (kT ⟨#[61,61]⟩ (.slice none 0 0) (.slice none 0 0) (numD 10000) m8 _ HO.out.inn HT.out (CR _ zD) zD (Nat.zero_le _));rw[show ByteArray.toList ⟨#[61,61]⟩=[61,61] by rw[ByteArray.toList_eq],TF] at HB;unfold Dt.val at HB
 go_wp2_with fail
 refine HB.out.mono ?_;rintro e w9 ⟨s6,si,sf,st,rfl,hb,hn,hS,hL⟩;have H9:=zh (zi hS hL);obtain⟨pa,pb,pc,pd,pe,pf,rfl,rfl,rfl⟩:=hn.spell;unfold RS.val;obtain⟨m9,l9,b9,hO⟩:=iJ 29 HO.out hb hn;have HT:=zh (HT.out.le l9);have b3:=b3.le l9;have b7:=b7.le l9
 go_upto_region 8 with (fail)
 generalize hW:w9.alloc (.cells #[.bool s6.nul,.bool s6.fal,.bool s6.tru,.slice pa s6.i.length pb,.slice pc s6.f.length pd,.slice pe s6.t.length pf] 29)=u9 at *
 generalize w9.heap.size=g9 at *
 have HO:=zh hO;clear hb hn hO hS hL HB hW l9;clear H9 b9;have HB:=zh (kT ⟨#[33,61]⟩ (.slice none 0 0) (.slice none 0 0) (elDt .nul) m9 _ HO.out.inn HT.out (DtAt.leaf _ 1 0 _ zD zD (Nat.zero_le _)) zD (Nat.zero_le _));rw[show ByteArray.toList ⟨#[33,61]⟩=[33,61] by rw[ByteArray.toList_eq],TE] at HB;unfold Dt.val at HB
 go_wp2_with fail
 refine HB.out.mono ?_;rintro e w10 ⟨s7,si,sf,st,rfl,hb,hn,hS,hL⟩;have H10:=zh (zi hS hL);obtain⟨pa,pb,pc,pd,pe,pf,rfl,rfl,rfl⟩:=hn.spell;unfold RS.val;obtain⟨m10,l10,b10,hO⟩:=iJ 29 HO.out hb hn;have HT:=zh (HT.out.le l10);have b3:=b3.le l10;have b7:=b7.le l10
 go_upto_region 9 with (fail)
 generalize hW:w10.alloc (.cells #[.bool s7.nul,.bool s7.fal,.bool s7.tru,.slice pa s7.i.length pb,.slice pc s7.f.length pd,.slice pe s7.t.length pf] 29)=u10 at *
 generalize w10.heap.size=g10 at *
 have HO:=zh hO;clear hb hn hO hS hL HB hW l10;have HQ:=zh (zi (CR m10 (u:=60000) zD) (Cw m10 (s:=⟨#[97,98]⟩) zD));refine aA [15,99] (fun vs w'=>vs=[.pointer (some ⟨g10,0,none⟩),.bool false]∧Own w m w' m10 []) ?_ ?_
 ·intro X hX;refine aM 42 6 (fun j=>[Fact.is (·=.int .i64 0),Fact.is (·=.bool false),Fact.is (·=.bool false),Fact.is (·=.int .i64 0),Fact.is (·=.bool false),Fact.is (·=.bool false),Fact.is (·=.bool false),Fact.is (·=.bool true),Fact.is (·=.bool false),Fact.is (·=.bool false),Fact.is (·=.bool false),Fact.is (·=.agg #[.int .i64 3,.int .i64 60000,.string ⟨#[]⟩,.slice none 0 0,.slice none 0 0]),Fact.is (·=.agg #[.int .i64 3,.int .i64 60000,.string ⟨#[]⟩,.slice none 0 0,.slice none 0 0]),Fact.is (·=.bool true),Fact.is (·=.bool false),Fact.is (·=.bool false),Fact.is (·=.bool false),Fact.is (·=.int .i64 0),Fact.is (·=.bool false),Fact.is (·=.bool false),Fact.is (·=.bool false),Fact.is (·=.bool true),Fact.is (·=.bool false),Fact.is (·=.bool false),Fact.is (·=.bool false),Fact.is (·=.agg #[.int .i64 4,.int .i64 0,.string ⟨#[97,98]⟩,.slice none 0 0,.slice none 0 0]),Fact.is (·=.agg #[.int .i64 4,.int .i64 0,.string ⟨#[97,98]⟩,.slice none 0 0,.slice none 0 0]),Fact.is (·=.bool true),Fact.is (·=.bool false),Fact.is (·=.bool false),Fact.is (·=.bool false),Fact.is (·=.int .i64 11),Fact.is (·=.bool false),Fact.is (·=.bool false),Fact.is (·=.bool false),Fact.is (·=.int .i64 8),Fact.is (·=.bool false),Fact.is (·=.bool false),Fact.is (·=.bool false),Fact.is (·=.int .i64 0),Fact.is (·=.bool false),Fact.is (·=.bool false)].getD j Fact.any) zk zk ?_ ?_
  ·intro i hi o win a wr ho RA;have HO2:=HO.out.dr.move RA.below;have y0:wr.cell? ⟨g3,0,none⟩=some (.int .i64 3):=Mem.av HO2.inn b3.c0;have y1:wr.cell? ⟨g3,1,none⟩=some (.int .i64 60000):=Mem.av HO2.inn b3.c1;have y2:wr.cell? ⟨g3,2,none⟩=some (.string ⟨#[]⟩):=Mem.av HO2.inn b3.c2;have y3:wr.cell? ⟨g3,3,none⟩=some (.slice none 0 0):=Mem.av HO2.inn b3.c3;have y4:wr.cell? ⟨g3,4,none⟩=some (.slice none 0 0):=Mem.av HO2.inn b3.c4;have z0:wr.cell? ⟨g7,0,none⟩=some (.int .i64 4):=Mem.av HO2.inn b7.c0;have z1:wr.cell? ⟨g7,1,none⟩=some (.int .i64 0):=Mem.av HO2.inn b7.c1;have z2:wr.cell? ⟨g7,2,none⟩=some (.string ⟨#[97,98]⟩):=Mem.av HO2.inn b7.c2;have z3:wr.cell? ⟨g7,3,none⟩=some (.slice none 0 0):=Mem.av HO2.inn b7.c3;have z4:wr.cell? ⟨g7,4,none⟩=some (.slice none 0 0):=Mem.av HO2.inn b7.c4;rcases (show i=0∨i=1∨i=2∨i=3∨i=4∨i=5∨i=6∨i=7∨i=8∨i=9∨i=10∨i=11∨i=12∨i=13∨i=14∨i=15∨i=16∨i=17∨i=18∨i=19∨i=20∨i=21∨i=22∨i=23∨i=24∨i=25∨i=26∨i=27∨i=28∨i=29∨i=30∨i=31∨i=32∨i=33∨i=34∨i=35∨i=36∨i=37∨i=38∨i=39∨i=40∨i=41 by omega) with rfl | rfl | rfl | rfl | rfl | rfl | rfl | rfl | rfl | rfl | rfl | rfl | rfl | rfl | rfl | rfl | rfl | rfl | rfl | rfl | rfl | rfl | rfl | rfl | rfl | rfl | rfl | rfl | rfl | rfl | rfl | rfl | rfl | rfl | rfl | rfl | rfl | rfl | rfl | rfl | rfl | rfl
   ·have e2:=RA.k 2;cases ho;exact wv rfl rfl rfl
   ·have e58:a.tmps.getD 58 undef=_:=RA.d 0 rfl;cases ho;exact wv rfl rfl rfl
   ·have e59:a.tmps.getD 59 undef=_:=RA.d 1 rfl;cases ho;exact wv rfl rfl rfl
   ·have e4:=RA.k 4;have e60:a.tmps.getD 60 undef=_:=RA.d 2 rfl;cases ho;exact wy rfl rfl rfl e60 rfl
   ·have e61:a.tmps.getD 61 undef=_:=RA.d 3 rfl;have e60:a.tmps.getD 60 undef=_:=RA.d 2 rfl;cases ho;exact wy rfl rfl rfl e60 rfl
   ·have e60:a.tmps.getD 60 undef=_:=RA.d 2 rfl;have e62:a.tmps.getD 62 undef=_:=RA.d 4 rfl;cases ho;exact wv rfl rfl rfl
   ·have e63:a.tmps.getD 63 undef=_:=RA.d 5 rfl;cases ho;exact wv rfl rfl rfl
   ·have e6:=RA.k 6;have e64:a.tmps.getD 64 undef=_:=RA.d 6 rfl;cases ho;exact wy rfl rfl rfl e64 rfl
   ·have e65:a.tmps.getD 65 undef=_:=RA.d 7 rfl;have e64:a.tmps.getD 64 undef=_:=RA.d 6 rfl;cases ho;exact wy rfl rfl rfl e64 rfl
   ·have e64:a.tmps.getD 64 undef=_:=RA.d 6 rfl;have e66:a.tmps.getD 66 undef=_:=RA.d 8 rfl;cases ho;exact wv rfl rfl rfl
   ·have e67:a.tmps.getD 67 undef=_:=RA.d 9 rfl;cases ho;exact wv rfl rfl rfl
   ·have e5:=RA.k 5;have e68:a.tmps.getD 68 undef=_:=RA.d 10 rfl;cases ho;exact wy rfl rfl rfl e68 rfl
   ·have e68:a.tmps.getD 68 undef=_:=RA.d 10 rfl;cases ho;refine we2 rfl rfl rfl e68 (oW 6 60000 zD wr zD zD) ?_;rintro e w' ⟨rfl,hb⟩;exact⟨_,rfl,_,rfl,hb,rfl⟩
   ·have e69:a.tmps.getD 69 undef=_:=RA.d 11 rfl;have e70:a.tmps.getD 70 undef=_:=RA.d 12 rfl;have e68:a.tmps.getD 68 undef=_:=RA.d 10 rfl;cases ho;refine we2 rfl rfl rfl e68 (wV (.slice none 0 0) (.slice none 0 0) (.slice none 0 0) (.slice none 0 0) (numD 60000) (numD 60000) (.num 60000) m10 wr HO2.inn HQ.out.1 HQ.out.1 zD zD (zm zD)) ?_;rintro e w' ⟨rfl,hb⟩;exact⟨_,rfl,_,rfl,hb,congrArg Value.bool (aN (zm zD))⟩
   ·have e71:a.tmps.getD 71 undef=_:=RA.d 13 rfl;have e68:a.tmps.getD 68 undef=_:=RA.d 10 rfl;cases ho;exact wy rfl rfl rfl e68 rfl
   ·have e68:a.tmps.getD 68 undef=_:=RA.d 10 rfl;have e72:a.tmps.getD 72 undef=_:=RA.d 14 rfl;cases ho;exact wv rfl rfl rfl
   ·have e73:a.tmps.getD 73 undef=_:=RA.d 15 rfl;cases ho;exact wv rfl rfl rfl
   ·have e8:=RA.k 8;have e74:a.tmps.getD 74 undef=_:=RA.d 16 rfl;cases ho;exact wy rfl rfl rfl e74 rfl
   ·have e75:a.tmps.getD 75 undef=_:=RA.d 17 rfl;have e74:a.tmps.getD 74 undef=_:=RA.d 16 rfl;cases ho;exact wy rfl rfl rfl e74 rfl
   ·have e74:a.tmps.getD 74 undef=_:=RA.d 16 rfl;have e76:a.tmps.getD 76 undef=_:=RA.d 18 rfl;cases ho;exact wv rfl rfl rfl
   ·have e77:a.tmps.getD 77 undef=_:=RA.d 19 rfl;cases ho;exact wv rfl rfl rfl
   ·have e10:=RA.k 10;have e78:a.tmps.getD 78 undef=_:=RA.d 20 rfl;cases ho;exact wy rfl rfl rfl e78 rfl
   ·have e79:a.tmps.getD 79 undef=_:=RA.d 21 rfl;have e78:a.tmps.getD 78 undef=_:=RA.d 20 rfl;cases ho;exact wy rfl rfl rfl e78 rfl
   ·have e78:a.tmps.getD 78 undef=_:=RA.d 20 rfl;have e80:a.tmps.getD 80 undef=_:=RA.d 22 rfl;cases ho;exact wv rfl rfl rfl
   ·have e81:a.tmps.getD 81 undef=_:=RA.d 23 rfl;cases ho;exact wv rfl rfl rfl
   ·have e9:=RA.k 9;have e82:a.tmps.getD 82 undef=_:=RA.d 24 rfl;cases ho;exact wy rfl rfl rfl e82 rfl
   ·have e82:a.tmps.getD 82 undef=_:=RA.d 24 rfl;cases ho;refine we2 rfl rfl rfl e82 (sN ⟨#[97,98]⟩ wr) ?_;rintro e w' ⟨rfl,hb⟩;exact⟨_,rfl,_,rfl,hb,rfl⟩
   ·have e83:a.tmps.getD 83 undef=_:=RA.d 25 rfl;have e84:a.tmps.getD 84 undef=_:=RA.d 26 rfl;have e82:a.tmps.getD 82 undef=_:=RA.d 24 rfl;cases ho;refine we2 rfl rfl rfl e82 (wV (.slice none 0 0) (.slice none 0 0) (.slice none 0 0) (.slice none 0 0) (txtD ⟨#[97,98]⟩) (txtD ⟨#[97,98]⟩) (.str [97,98]) m10 wr HO2.inn HQ.out.2 HQ.out.2 zD zD (yt [97,98])) ?_;rintro e w' ⟨rfl,hb⟩;exact⟨_,rfl,_,rfl,hb,congrArg Value.bool (aN (yt [97,98]))⟩
   ·have e85:a.tmps.getD 85 undef=_:=RA.d 27 rfl;have e82:a.tmps.getD 82 undef=_:=RA.d 24 rfl;cases ho;exact wy rfl rfl rfl e82 rfl
   ·have e82:a.tmps.getD 82 undef=_:=RA.d 24 rfl;have e86:a.tmps.getD 86 undef=_:=RA.d 28 rfl;cases ho;exact wv rfl rfl rfl
   ·have e87:a.tmps.getD 87 undef=_:=RA.d 29 rfl;cases ho;exact wv rfl rfl rfl
   ·have e12:=RA.k 12;have e88:a.tmps.getD 88 undef=_:=RA.d 30 rfl;cases ho;exact wy rfl rfl rfl e88 rfl
   ·have e89:a.tmps.getD 89 undef=_:=RA.d 31 rfl;have e88:a.tmps.getD 88 undef=_:=RA.d 30 rfl;cases ho;exact wy rfl rfl rfl e88 rfl
   ·have e88:a.tmps.getD 88 undef=_:=RA.d 30 rfl;have e90:a.tmps.getD 90 undef=_:=RA.d 32 rfl;cases ho;exact wv rfl rfl rfl
   ·have e91:a.tmps.getD 91 undef=_:=RA.d 33 rfl;cases ho;exact wv rfl rfl rfl
   ·have e14:=RA.k 14;have e92:a.tmps.getD 92 undef=_:=RA.d 34 rfl;cases ho;exact wy rfl rfl rfl e92 rfl
   ·have e93:a.tmps.getD 93 undef=_:=RA.d 35 rfl;have e92:a.tmps.getD 92 undef=_:=RA.d 34 rfl;cases ho;exact wy rfl rfl rfl e92 rfl
   ·have e92:a.tmps.getD 92 undef=_:=RA.d 34 rfl;have e94:a.tmps.getD 94 undef=_:=RA.d 36 rfl;cases ho;exact wv rfl rfl rfl
   ·have e95:a.tmps.getD 95 undef=_:=RA.d 37 rfl;cases ho;exact wv rfl rfl rfl
   ·have e16:=RA.k 16;have e96:a.tmps.getD 96 undef=_:=RA.d 38 rfl;cases ho;exact wy rfl rfl rfl e96 rfl
   ·have e97:a.tmps.getD 97 undef=_:=RA.d 39 rfl;have e96:a.tmps.getD 96 undef=_:=RA.d 38 rfl;cases ho;exact wy rfl rfl rfl e96 rfl
   ·have e96:a.tmps.getD 96 undef=_:=RA.d 38 rfl;have e98:a.tmps.getD 98 undef=_:=RA.d 40 rfl;cases ho;exact wv rfl rfl rfl
  ·intro win a wr E;have e15:=E.keep 15 zk;have e99:a.tmps.getD 99 undef=.bool false:=E.fact 41 _ zo rfl;obtain⟨t,d⟩:=a;obtain rfl:d=[]:=E.defers;refine aV zk (hX.out _ _ E.size ⟨?_,HO.out.dr.move E.below⟩) _;simp only[List.map_cons,List.map_nil,e15,e99]
   rfl
 rintro z vs w0 - ⟨rfl,hO⟩;simp[litL,lk];have HO:=zh hO;have HN:=zh (R5 H10.out.1);have HL:=zh H10.out.2;clear hO b3 b7 HQ H10;obtain⟨y0,y1,y2,y3,y4,y5⟩:=b10.cw HO.out.inn;have yl:=Mem.ak HO.out.inn b10.c0;have HB:=zh (ek _ _ _ s7 (.slice none 0 0) (.slice none 0 0) (elDt .fal) 6 (3*((elDt .nul).str.size+5)+1) m10 _ HO.out.inn HT.out b10.at' (DtAt.leaf _ 2 0 _ zD zD (Nat.zero_le _)) zD zD HL.out zD zD)
 go_wp2_with fail
 refine HB.out.mono ?_;rintro e w1 ⟨rfl,hb⟩;rw[HN.out.1];have HO:=zh (HO.out.move hb);clear HB y0 y1 y2 y3 y4 y5 yl hb;obtain⟨y0,y1,y2,y3,y4,y5⟩:=b10.cw HO.out.inn;have yl:=Mem.ak HO.out.inn b10.c0;have HB:=zh (ek _ _ _ s7 (.slice none 0 0) (.slice none 0 0) (elDt .nul) 6 (3*((elDt .nul).str.size+5)+1) m10 _ HO.out.inn HT.out b10.at' (DtAt.leaf _ 1 0 _ zD zD (Nat.zero_le _)) zD zD HL.out zD zD)
 go_wp2_with fail
 refine HB.out.mono ?_;rintro e w2 ⟨rfl,hb⟩;rw[HN.out.2];have HO:=zh (HO.out.move hb);clear HB y0 y1 y2 y3 y4 y5 yl hb b10 HN HL
 go_wp2_with fail
 refine (oh m10 _ HO.out.inn).mono ?_;rintro e w3 ⟨ri,rf,rt,rfl,hb,hn⟩;have hO:=HO.out.call hb;have HT:=zh (HT.out.le (Mem.eO (w:=w3) HO.out.inn));have HO:=zh hO;generalize Mem.grow _ _ w3=m11 at *
 clear hO hb;have HN:=zh hn;clear hn
 go_wp2_with fail
 refine (sN ⟨#[]⟩ _).mono ?_;rintro e w4 ⟨rfl,hb⟩;have HO:=zh (HO.out.move hb);clear hb;have HB:=zh (ek _ _ _ allS (.slice none 0 0) (.slice none 0 0) (txtD ⟨#[]⟩) 1 1 m11 _ HO.out.inn HT.out HN.out (Cw _ (Nat.zero_le _)) zD zD qF zD zD)
 go_wp2_with fail
 refine HB.out.mono ?_;rintro e w5 ⟨rfl,hb⟩;rw[Td];have HO:=zh (HO.out.move hb);clear hb HB HN;have HB:=zh (gT (.slice none 0 0) (.slice none 0 0) (.slice none 0 0) dO m11 _ HO.out.inn HT.out (ScAt.empty _) (fK _ _))
 go_wp2_with fail
 refine HB.out.mono ?_;rintro e w6 ⟨rfl,hb⟩;rw[Qy];have HO:=zh (HO.out.move hb);clear hb HB;have hO:=HO.out.al #[.bool false,.slice none 0 0] 66;have hD:aI (m11.add (w6.alloc (.cells #[.bool false,.slice none 0 0] 66)) w6.heap.size) (.slice (some ⟨w6.heap.size,0,none⟩) 1 1) [⟨false,[]⟩]:=
  ⟨_,1,rfl,Nat.le_refl _,by simp[maxLen],fun _=>⟨w6.heap.size,0,rfl,fun i hi=>by
   obtain rfl:i=0:=by simp at hi;omega
   exact⟨Mem.cz hO.obj (i:=0) rfl,_,Mem.cz hO.obj (i:=1) rfl,none,0,rfl,Nat.le_refl _,by simp[maxLen],fun h=>absurd rfl h⟩⟩⟩
 have HB:=zh (fC (.slice none 0 0) (.slice none 0 0) _ ⟨false,false,false,[],[],[⟨false,[]⟩]⟩ _ _ hO.ib.inn (HT.out.le (Mem.jw hO.iC)) ⟨aR _,aR _,hD⟩ ⟨Nat.zero_le _,Nat.zero_le _,by decide⟩);have HO:=zh hO.tail;clear hO hD HT
 go_wp2_with fail
 refine HB.out.mono ?_;rintro e w7 ⟨rfl,hb⟩;rw[R6];have HE:=zh (HO.out.move hb).below;clear hb HB HO;go_wp2;exact hR.out _ _ ⟨rfl,HE.out⟩
end Cl
