/- Lemmas for the proofs of chapter 11. -/
import Derived.Test.YtjhipmdamaocmaaGreatDoorPkN25
import Derived.Test.YtjhipmdamaocmaaGreatDoorPkN27
set_option maxRecDepth 100000
set_option maxHeartbeats 16000000
namespace Cl
open Go Go.RowKit Go.Proofs
theorem oW {s:RS} {r:Option El} (h:fJ (dJ s).has r):∀e,r=some e→elOk e:=fun e he=>by subst he;exact Be h.1
theorem sW {s:RS} {r:Option El} (h:Ab (dJ s).has r):∀e,r=some e→elOk e:=fun e he=>by
 subst he;rcases h with ⟨e',h1,h2,-⟩ | ⟨h1,-⟩
 ·cases h1;exact Be h2
 ·cases h1
theorem M5 (m:Mem) {r:Option El} (h:∀e,r=some e→elOk e) (hz:(lstD r).str.size≤1000):DtAt m (.slice none 0 0) (.slice none 0 0) (lstD r):=by
 cases r with
 | none=>exact DtAt.leaf m 0 0 _ zo zo (zC _)
 | some e=>exact Gt m (h e rfl) (yE hz (by simp[maxLen]))
theorem vK (m:Mem) {e:Option El} (h:∀a,e=some a→elOk a) (hz:(lstD e).str.size≤1000):DtAt m (.slice none 0 0) (.slice none 0 0) (lstD e):=M5 m h hz
theorem xh {s:RS} (hl:ScLe s 8 8) {r:Option El} (h:fJ (dJ s).has r):(lstD r).str.size≤1000:=by
 cases r with
 | none=>exact zC _
 | some e=>exact yE (oV hl h) zo
theorem IA {s:RS} (hl:ScLe s 8 8) {r:Option El} (h:Ab (dJ s).has r):(lstD r).str.size≤1000:=by
 rcases h with ⟨e,rfl,h1,h2⟩ | ⟨rfl,-⟩
 ·exact xh hl (r:=some e) ⟨h1,fun x hx=>.inl (h2 x hx)⟩
 ·exact zC _
theorem sK (A1 A2 A3:Value) (A:RS) (B1 B2 B3:Value) (B:RS) (d1 d2:Value) (d:Dt) (m:Mem) (w:World) (hm:m.inn w) (htab:TabM m) (hA:ScAt m A1 A2 A3 A) (hB:ScAt m B1 B2 B3 B) (hd:DtAt m d1 d2 d) :
 Calls Tryz.prog 13 #[A.val A1 A2 A3,B.val B1 B2 B3,d.val d1 d2] w fun e w'=>e=.returned (.bool true)∧Below w.heap.size w w':=by
 obtain⟨zaa,zab,zac,zad,zae,zaf,rfl,rfl,rfl⟩:=hA.spell;obtain⟨zba,zbb,zbc,zbd,zbe,zbf,rfl,rfl,rfl⟩:=hB.spell;obtain⟨qda,qdb,qdc,qdd,rfl,rfl⟩:=hd.slices;have hO:=Own.start hm;have l0:=Mem.le_refl m;obtain⟨m1,k1,bA,hO⟩:=Hu 29 hO (hA.le l0);have l1:=Mem.le_trans l0 k1;obtain⟨m2,k2,bB,hO⟩:=Hu 29 hO (hB.le l1);have l2:=Mem.le_trans l1 k2;have bA:=bA.le k2;obtain⟨m3,k3,bd,hO⟩:=vO 68 hO (hd.le l2);have l3:=Mem.le_trans l2 k3;have bA:=bA.le k3;have bB:=bB.le k3;have HT:=zh (htab.le l3);simp only[bZ] at hO bB bd;have HO:=zh hO;clear hO htab hA hB hd l1 k1 l2 k2 l3 k3 l0;unfold RS.val;unfold Dt.val;refine aj fun R hR=>?_
 go_enter Tryz.func13,Tryz.ntmps13
 go_upto_region 1 with (fail)
 generalize hW:(((w.alloc (.cells #[.bool A.nul,.bool A.fal,.bool A.tru,.slice zaa A.i.length zab,.slice zac A.f.length zad,.slice zae A.t.length zaf] 29)).alloc (.cells #[.bool B.nul,.bool B.fal,.bool B.tru,.slice zba B.i.length zbb,.slice zbc B.f.length zbd,.slice zbe B.t.length zbf] 29)).alloc (.cells #[.int .i64 d.kind,.int .i64 d.num,.string d.str,.slice qda d.items.length qdb,.slice qdc d.bK.length qdd] 68))=w0 at *
 clear hW;refine aI [3,4,5,30] (fun vs w'=>∃c:Bool,vs=[.pointer (some ⟨w.heap.size,0,none⟩),.pointer (some ⟨w.heap.size+1,0,none⟩),.pointer (some ⟨w.heap.size+1+1,0,none⟩),.bool c]∧Own w m w' m3 []∧(c=false→(∀s∈[A,B],jF s)∧wo d=true∧d.str.size≤100)) ?_ ?_
 ·intro X hX;obtain⟨yA0,yA1,yA2,yA3,yA4,yA5⟩:=bA.cw HO.out.inn;have yAl:=Mem.ay HO.out.inn bA.c0;obtain⟨yB0,yB1,yB2,yB3,yB4,yB5⟩:=bB.cw HO.out.inn;have yBl:=Mem.ay HO.out.inn bB.c0;have hO2:=HO.out.al #[.bool A.nul,.bool A.fal,.bool A.tru,.slice zaa A.i.length zab,.slice zac A.f.length zad,.slice zae A.t.length zaf,.bool B.nul,.bool B.fal,.bool B.tru,.slice zba B.i.length zbb,.slice zbc B.f.length zbd,.slice zbe B.t.length zbf] 29;have HB:=zh (zq _ [A,B] _ _ hO2.iY.inn (QJ hO2 bA.at' bB.at'));have HO:=zh hO2.tail;clear hO2
  go_wp2_with fail
  refine HB.out.mono ?_;rintro e w3 ⟨rfl,hb⟩;have HO:=zh (HO.out.move hb);clear HB hb;clear yA0 yA1 yA2 yA3 yA4 yA5 yAl yB0 yB1 yB2 yB3 yB4 yB5 yBl;by_cases h:∀s∈[A,B],jF s
  case neg=>
   rw[aK h];clear h;go_wp2;exact hX.out _ _ rfl ⟨true,rfl,HO.out,fun h=>by cases h⟩
  rw[aN h];have HG0:=zh h;clear h;obtain⟨yd0,yd1,yd2,yd3,yd4⟩:=bd.cw HO.out.inn;have ydl:=Mem.ay HO.out.inn bd.c0;have HB:=zh (DR _ _ d m3 _ HO.out.inn bd.at')
  go_wp2_with fail
  refine HB.out.mono ?_;rintro e w3 ⟨rfl,hb⟩;have HO:=zh (HO.out.move hb);clear HB hb;clear yd0 yd1 yd2 yd3 yd4 ydl;by_cases h:wo d=true
  case neg=>
   rw[Bool.eq_false_iff.2 h];clear h;go_wp2;exact hX.out _ _ rfl ⟨true,rfl,HO.out,fun h=>by cases h⟩
  rw[h];have HG1:=zh h;clear h;have y2:=Mem.ak HO.out.inn bd.c2;have y0:=Mem.ay HO.out.inn bd.c0;by_cases h:d.str.size≤100
  case neg=>
   have hd:decide ((100:Int)<(d.str.size:Int))=true:=zL zo;clear h;go_wp2;exact hX.out _ _ rfl ⟨true,rfl,HO.out,fun h=>by cases h⟩
  have hd2:decide ((100:Int)<(d.str.size:Int))=false:=zK zo;have HG2:=zh h;clear h;go_wp2;exact hX.out _ _ rfl ⟨false,rfl,HO.out,fun _=>⟨HG0.out,HG1.out,HG2.out⟩⟩
 rintro z vs w1 - ⟨c,rfl,hO,hc⟩;simp[litL,lk];clear HO;have HO:=zh hO;have HC:=zh hc;clear hO hc
 cases c with
 | true=>
  clear HC
  go_wp2_with fail
  refine (pR m3 _ HO.out.inn HT.out).mono ?_;rintro e w2 ⟨rfl,hb⟩;have HE:=zh (HO.out.move hb).below;clear hb HO;go_wp2
  exact hR.out _ _ ⟨rfl,HE.out⟩
 | false=>
  obtain⟨g0,g1,g2⟩:=HC.out rfl;clear HC;have LA:=zh ((Dq g0).1);have LB:=zh ((Dq g0).2);clear g0;have Cd:=zh (JO g1);clear g1;have Zd:=zh g2;clear g2;obtain⟨yA0,yA1,yA2,yA3,yA4,yA5⟩:=bA.cw HO.out.inn;have yAl:=Mem.ay HO.out.inn bA.c0;have HB:=zh (uB _ _ _ A 8 8 m3 _ HO.out.inn HT.out bA.at' LA.out zo zo);unfold RS.val at HB
  go_wp2_with fail
  refine HB.out.mono ?_;rintro e w4 ⟨r,rfl,hb,hr⟩;clear yA0 yA1 yA2 yA3 yA4 yA5 yAl;have Hr:=zh hr;unfold Dt.val;obtain⟨m4,lk,bD0,hO⟩:=sG 68 HO.out hb (vK m3 (e:=r) (sW Hr.out) (IA LA.out Hr.out));have HT:=zh (HT.out.le lk);have bA:=bA.le lk;have bB:=bB.le lk;have bd:=bd.le lk
  go_upto_region 4 with (fail)
  generalize hW:w4.alloc (.cells #[.int .i64 (lstD r).kind,.int .i64 (lstD r).num,.string (lstD r).str,.slice none 0 0,.slice none 0 0] 68)=w4' at *
  generalize w4.heap.size=gD0 at *
  have HO:=zh hO;clear hb hO hr HB hW lk;obtain⟨yA0,yA1,yA2,yA3,yA4,yA5⟩:=bA.cw HO.out.inn;have yAl:=Mem.ay HO.out.inn bA.c0;have HB:=zh (BV _ _ _ A 8 8 m4 _ HO.out.inn HT.out bA.at' LA.out zo zo);unfold RS.val at HB
  go_wp2_with fail
  refine HB.out.mono ?_;rintro e w5 ⟨r2,rfl,hb,hr⟩;clear yA0 yA1 yA2 yA3 yA4 yA5 yAl;obtain rfl:=uz Hr.out hr;unfold Dt.val;obtain⟨m5,lk,bD1,hO⟩:=sG 68 HO.out hb (vK m4 (e:=r) (sW Hr.out) (IA LA.out Hr.out));have HT:=zh (HT.out.le lk);have bA:=bA.le lk;have bB:=bB.le lk;have bd:=bd.le lk;have bD0:=bD0.le lk
  go_upto_region 5 with (fail)
  generalize hW:w5.alloc (.cells #[.int .i64 (lstD r).kind,.int .i64 (lstD r).num,.string (lstD r).str,.slice none 0 0,.slice none 0 0] 68)=w5' at *
  generalize w5.heap.size=gD1 at *
  have HO:=zh hO;clear hb hO hr HB hW lk;obtain⟨yA0,yA1,yA2,yA3,yA4,yA5⟩:=bA.cw HO.out.inn;have yAl:=Mem.ay HO.out.inn bA.c0;have HB:=zh (mJ _ _ _ A m5 _ HO.out.inn HT.out bA.at' (LA.out.mono zo zo));unfold RS.val at HB
  go_wp2_with fail
  refine HB.out.mono ?_;rintro e w6 ⟨l,rfl,hb,hr⟩;clear yA0 yA1 yA2 yA3 yA4 yA5 yAl;have Hl:=zh hr;unfold Dt.val;obtain⟨m6,lk,bD2,hO⟩:=sG 68 HO.out hb (vK m5 (e:=l) (oW Hl.out) (xh LA.out Hl.out));have HT:=zh (HT.out.le lk);have bA:=bA.le lk;have bB:=bB.le lk;have bd:=bd.le lk;have bD0:=bD0.le lk;have bD1:=bD1.le lk
  go_upto_region 6 with (fail)
  generalize hW:w6.alloc (.cells #[.int .i64 (lstD l).kind,.int .i64 (lstD l).num,.string (lstD l).str,.slice none 0 0,.slice none 0 0] 68)=w6' at *
  generalize w6.heap.size=gD2 at *
  have HO:=zh hO;clear hb hO hr HB hW lk;obtain⟨yA0,yA1,yA2,yA3,yA4,yA5⟩:=bA.cw HO.out.inn;have yAl:=Mem.ay HO.out.inn bA.c0;have HB:=zh (uD _ _ _ A m6 _ HO.out.inn HT.out bA.at' (LA.out.mono zo zo));unfold RS.val at HB
  go_wp2_with fail
  refine HB.out.mono ?_;rintro e w7 ⟨l2,rfl,hb,hr⟩;clear yA0 yA1 yA2 yA3 yA4 yA5 yAl;obtain rfl:=rM Hl.out hr;unfold Dt.val;obtain⟨m7,lk,bD3,hO⟩:=sG 68 HO.out hb (vK m6 (e:=l) (oW Hl.out) (xh LA.out Hl.out));have HT:=zh (HT.out.le lk);have bA:=bA.le lk;have bB:=bB.le lk;have bd:=bd.le lk;have bD0:=bD0.le lk;have bD1:=bD1.le lk;have bD2:=bD2.le lk
  go_upto_region 7 with (fail)
  generalize hW:w7.alloc (.cells #[.int .i64 (lstD l).kind,.int .i64 (lstD l).num,.string (lstD l).str,.slice none 0 0,.slice none 0 0] 68)=w7' at *
  generalize w7.heap.size=gD3 at *
  have HO:=zh hO;clear hb hO hr HB hW lk;refine aI [3,4,5,95] (fun vs w'=>vs=[.pointer (some ⟨w.heap.size,0,none⟩),.pointer (some ⟨w.heap.size+1,0,none⟩),.pointer (some ⟨w.heap.size+1+1,0,none⟩),.bool false]∧Own w m w' m7 []) ?_ ?_
  ·intro X hX;have e1:(none:Option El).isSome=false:=rfl;have e2:∀e:El,(some e).isSome=true:=fun _=>rfl
   cases r with
   | none=>
    cases l with
    | none=>
     rw[e1];obtain⟨yD00,yD01,yD02,yD03,yD04⟩:=bD0.cw HO.out.inn;have yD0l:=Mem.ay HO.out.inn bD0.c0;have yD00:World.cell? _ ⟨_,0,none⟩=some (.int .i64 0):=yD00;obtain⟨yD20,yD21,yD22,yD23,yD24⟩:=bD2.cw HO.out.inn;have yD2l:=Mem.ay HO.out.inn bD2.c0;have yD20:World.cell? _ ⟨_,0,none⟩=some (.int .i64 0):=yD20;clear e1 e2;go_wp2
     exact hX.out _ _ rfl ⟨rfl,HO.out⟩
    | some z=>
     rw[e1,e2];clear e1 e2;obtain⟨yD20,yD21,yD22,yD23,yD24⟩:=bD2.cw HO.out.inn;have yD2l:=Mem.ay HO.out.inn bD2.c0;obtain⟨yD30,yD31,yD32,yD33,yD34⟩:=bD3.cw HO.out.inn;have yD3l:=Mem.ay HO.out.inn bD3.c0;have HB:=zh (je _ _ _ _ (lstD (some z)) (lstD (some z)) z m7 _ HO.out.inn bD2.at' bD3.at' (by rw[(ic _).2.2];omega) (by rw[(ic _).2.2];omega) (kR (oW Hl.out z rfl)));unfold Dt.val at HB
     go_wp2_with fail
     refine HB.out.mono ?_;rintro e w9 ⟨rfl,hb⟩;clear yD20 yD21 yD22 yD23 yD24 yD2l yD30 yD31 yD32 yD33 yD34 yD3l;rw[aN (kR (oW Hl.out z rfl))];have HO:=zh (HO.out.move hb);clear hb HB;obtain⟨yD00,yD01,yD02,yD03,yD04⟩:=bD0.cw HO.out.inn;have yD0l:=Mem.ay HO.out.inn bD0.c0;have yD00:World.cell? _ ⟨_,0,none⟩=some (.int .i64 0):=yD00;go_wp2
     exact hX.out _ _ rfl ⟨rfl,HO.out⟩
   | some z0=>
    cases l with
    | none=>
     rw[e1,e2];clear e1 e2;obtain⟨yD00,yD01,yD02,yD03,yD04⟩:=bD0.cw HO.out.inn;have yD0l:=Mem.ay HO.out.inn bD0.c0;obtain⟨yD10,yD11,yD12,yD13,yD14⟩:=bD1.cw HO.out.inn;have yD1l:=Mem.ay HO.out.inn bD1.c0;have HB:=zh (je _ _ _ _ (lstD (some z0)) (lstD (some z0)) z0 m7 _ HO.out.inn bD0.at' bD1.at' (by rw[(ic _).2.2];omega) (by rw[(ic _).2.2];omega) (kR (sW Hr.out z0 rfl)));unfold Dt.val at HB
     go_wp2_with fail
     refine HB.out.mono ?_;rintro e w9 ⟨rfl,hb⟩;clear yD00 yD01 yD02 yD03 yD04 yD0l yD10 yD11 yD12 yD13 yD14 yD1l;rw[aN (kR (sW Hr.out z0 rfl))];have HO:=zh (HO.out.move hb);clear hb HB;obtain⟨yD20,yD21,yD22,yD23,yD24⟩:=bD2.cw HO.out.inn;have yD2l:=Mem.ay HO.out.inn bD2.c0;have yD20:World.cell? _ ⟨_,0,none⟩=some (.int .i64 0):=yD20;go_wp2
     exact hX.out _ _ rfl ⟨rfl,HO.out⟩
    | some z=>
     rw[e2,e2];clear e1 e2;obtain⟨yD00,yD01,yD02,yD03,yD04⟩:=bD0.cw HO.out.inn;have yD0l:=Mem.ay HO.out.inn bD0.c0;obtain⟨yD10,yD11,yD12,yD13,yD14⟩:=bD1.cw HO.out.inn;have yD1l:=Mem.ay HO.out.inn bD1.c0;have HB:=zh (je _ _ _ _ (lstD (some z0)) (lstD (some z0)) z0 m7 _ HO.out.inn bD0.at' bD1.at' (by rw[(ic _).2.2];omega) (by rw[(ic _).2.2];omega) (kR (sW Hr.out z0 rfl)));unfold Dt.val at HB
     go_wp2_with fail
     refine HB.out.mono ?_;rintro e w9 ⟨rfl,hb⟩;clear yD00 yD01 yD02 yD03 yD04 yD0l yD10 yD11 yD12 yD13 yD14 yD1l;rw[aN (kR (sW Hr.out z0 rfl))];have HO:=zh (HO.out.move hb);clear hb HB;obtain⟨yD20,yD21,yD22,yD23,yD24⟩:=bD2.cw HO.out.inn;have yD2l:=Mem.ay HO.out.inn bD2.c0;obtain⟨yD30,yD31,yD32,yD33,yD34⟩:=bD3.cw HO.out.inn;have yD3l:=Mem.ay HO.out.inn bD3.c0;have HB:=zh (je _ _ _ _ (lstD (some z)) (lstD (some z)) z m7 _ HO.out.inn bD2.at' bD3.at' (by rw[(ic _).2.2];omega) (by rw[(ic _).2.2];omega) (kR (oW Hl.out z rfl)));unfold Dt.val at HB
     go_wp2_with fail
     refine HB.out.mono ?_;rintro e w10 ⟨rfl,hb⟩;clear yD20 yD21 yD22 yD23 yD24 yD2l yD30 yD31 yD32 yD33 yD34 yD3l;rw[aN (kR (oW Hl.out z rfl))];have HO:=zh (HO.out.move hb);clear hb HB;go_wp2;exact hX.out _ _ rfl ⟨rfl,HO.out⟩
  rintro z0 vs w11 - ⟨rfl,hO⟩;simp[litL,lk];clear HO;have HO:=zh hO;clear hO
  go_upto_region 9 with (fail)
  refine aI [6] (fun vs w'=>vs=[.bool true]∧Own w m w' m7 []) ?_ ?_
  ·intro X hX;refine aU 20 6 (fun j=>[Fact.is (·=.agg #[.bool A.nul,.bool A.fal,.bool A.tru,.slice zaa A.i.length zab,.slice zac A.f.length zad,.slice zae A.t.length zaf]),Fact.is (·=.agg #[.int .i64 d.kind,.int .i64 d.num,.string d.str,.slice qda d.items.length qdb,.slice qdc d.bK.length qdd]),Fact.is (·=.bool (hasD A d)),Fact.is (·=.agg #[.bool A.nul,.bool A.fal,.bool A.tru,.slice zaa A.i.length zab,.slice zac A.f.length zad,.slice zae A.t.length zaf]),Fact.is (·=.agg #[.int .i64 d.kind,.int .i64 d.num,.string d.str,.slice qda d.items.length qdb,.slice qdc d.bK.length qdd]),Fact.is (·=.bool (hasD A d)),Fact.is (·=.bool true),Fact.is (·=.bool true),Fact.is (·=.agg #[.bool A.nul,.bool A.fal,.bool A.tru,.slice zaa A.i.length zab,.slice zac A.f.length zad,.slice zae A.t.length zaf]),Fact.is (·=.agg #[.bool B.nul,.bool B.fal,.bool B.tru,.slice zba B.i.length zbb,.slice zbc B.f.length zbd,.slice zbe B.t.length zbf]),Fact.is (fun v=>∃c,v=.int .i64 c∧CmpS A B c),Fact.is (·=.agg #[.bool A.nul,.bool A.fal,.bool A.tru,.slice zaa A.i.length zab,.slice zac A.f.length zad,.slice zae A.t.length zaf]),Fact.is (·=.agg #[.bool B.nul,.bool B.fal,.bool B.tru,.slice zba B.i.length zbb,.slice zbc B.f.length zbd,.slice zbe B.t.length zbf]),Fact.is (fun v=>∃c,v=.int .i64 c∧CmpS A B c),Fact.is (·=.bool true),Fact.is (·=.bool true),Fact.is (·=.bool true),Fact.is (·=.bool true),Fact.is (·=.bool true),Fact.is (·=.bool true)].getD j Fact.any) zk zk ?_ ?_
   ·intro i hi o win a wr ho RA;have HO2:=HO.out.dr.move RA.below;obtain⟨y30,y31,y32,y33,y34,y35⟩:=bA.cw HO2.inn;have y3l:=Mem.ay HO2.inn bA.c0;obtain⟨y40,y41,y42,y43,y44,y45⟩:=bB.cw HO2.inn;have y4l:=Mem.ay HO2.inn bB.c0;obtain⟨y50,y51,y52,y53,y54⟩:=bd.cw HO2.inn;have y5l:=Mem.ay HO2.inn bd.c0;rcases (show i=0∨i=1∨i=2∨i=3∨i=4∨i=5∨i=6∨i=7∨i=8∨i=9∨i=10∨i=11∨i=12∨i=13∨i=14∨i=15∨i=16∨i=17∨i=18∨i=19 by omega) with rfl | rfl | rfl | rfl | rfl | rfl | rfl | rfl | rfl | rfl | rfl | rfl | rfl | rfl | rfl | rfl | rfl | rfl | rfl | rfl
    ·have e3:=RA.k 3;cases ho;exact wv rfl rfl rfl
    ·have e5:=RA.k 5;cases ho;exact wv rfl rfl rfl
    ·have e96:a.tmps.getD 96 undef=_:=RA.d 0 rfl;have e97:a.tmps.getD 97 undef=_:=RA.d 1 rfl;cases ho;refine we rfl rfl (q9 _ _ _ A _ _ d 8 8 m7 wr HO2.inn HT.out bA.at' bd.at' (by have:=Cd.out;omega) (by have:=Zd.out;omega) LA.out zo (yE (Nat.mul_le_mul_right _ (show d.str.size+1+2≤100+3 by have:=Zd.out;omega)) zo)) ?_;rintro e w' ⟨rfl,hb⟩;exact⟨_,rfl,_,rfl,hb,rfl⟩
    ·have e3:=RA.k 3;cases ho;exact wv rfl rfl rfl
    ·have e5:=RA.k 5;cases ho;exact wv rfl rfl rfl
    ·have e99:a.tmps.getD 99 undef=_:=RA.d 3 rfl;have e100:a.tmps.getD 100 undef=_:=RA.d 4 rfl;cases ho;refine we rfl rfl (J6 _ _ _ A _ _ d m7 wr HO2.inn HT.out bA.at' bd.at' (by have:=Cd.out;omega) ((LA.out).mono zo zo)) ?_;rintro e w' ⟨rfl,hb⟩;exact⟨_,rfl,_,rfl,hb,rfl⟩
    ·have e98:a.tmps.getD 98 undef=_:=RA.d 2 rfl;have e101:a.tmps.getD 101 undef=_:=RA.d 5 rfl;cases ho;exact wv rfl rfl rfl
    ·have e102:a.tmps.getD 102 undef=_:=RA.d 6 rfl;cases ho;exact wv rfl rfl rfl
    ·have e3:=RA.k 3;have e103:a.tmps.getD 103 undef=_:=RA.d 7 rfl;cases ho;exact wy rfl rfl rfl e103 rfl
    ·have e4:=RA.k 4;have e103:a.tmps.getD 103 undef=_:=RA.d 7 rfl;cases ho;exact wy rfl rfl rfl e103 rfl
    ·have e104:a.tmps.getD 104 undef=_:=RA.d 8 rfl;have e105:a.tmps.getD 105 undef=_:=RA.d 9 rfl;have e103:a.tmps.getD 103 undef=_:=RA.d 7 rfl;cases ho;refine we2 rfl rfl rfl e103 (BR _ _ _ A _ _ _ B 8 8 8 8 m7 wr HO2.inn HT.out bA.at' bB.at' LA.out LB.out zo zo zo) ?_;rintro e w' ⟨c,rfl,hb,hc⟩;exact⟨_,rfl,_,rfl,hb,c,rfl,hc⟩
    ·have e3:=RA.k 3;have e103:a.tmps.getD 103 undef=_:=RA.d 7 rfl;cases ho;exact wy rfl rfl rfl e103 rfl
    ·have e4:=RA.k 4;have e103:a.tmps.getD 103 undef=_:=RA.d 7 rfl;cases ho;exact wy rfl rfl rfl e103 rfl
    ·have e107:a.tmps.getD 107 undef=_:=RA.d 11 rfl;have e108:a.tmps.getD 108 undef=_:=RA.d 12 rfl;have e103:a.tmps.getD 103 undef=_:=RA.d 7 rfl;cases ho;refine we2 rfl rfl rfl e103 (y8 _ _ _ A _ _ _ B 8 8 8 8 m7 wr HO2.inn HT.out bA.at' bB.at' LA.out LB.out zo zo zo) ?_;rintro e w' ⟨c,rfl,hb,hc⟩;exact⟨_,rfl,_,rfl,hb,c,rfl,hc⟩
    ·have e106:(Fact.is (fun v=>∃c,v=.int .i64 c∧CmpS A B c)).holds (a.tmps.getD 106 undef) win wr:=RA.d 10 rfl;have e109:(Fact.is (fun v=>∃c,v=.int .i64 c∧CmpS A B c)).holds (a.tmps.getD 109 undef) win wr:=RA.d 13 rfl;have e103:a.tmps.getD 103 undef=_:=RA.d 7 rfl;cases ho;obtain⟨c,e106,h1⟩:∃c,_∧_:=e106;obtain⟨c2,e109,h2⟩:∃c,_∧_:=e109;obtain rfl:=G8 h1 h2;exact lh rfl (lN rfl rfl e103) (aP zg ⟨_,rfl,zP _ _,congrArg Value.bool (beq_self_eq_true c)⟩)
    ·have e103:a.tmps.getD 103 undef=_:=RA.d 7 rfl;have e110:a.tmps.getD 110 undef=_:=RA.d 14 rfl;cases ho;exact wv rfl rfl rfl
    ·have e111:a.tmps.getD 111 undef=_:=RA.d 15 rfl;cases ho;exact wv rfl rfl rfl
    ·have e112:a.tmps.getD 112 undef=_:=RA.d 16 rfl;cases ho;refine we2 rfl rfl rfl e112 (pR m7 wr HO2.inn HT.out) ?_;rintro e w' ⟨rfl,hb⟩;exact⟨_,rfl,_,rfl,hb,rfl⟩
    ·have e112:a.tmps.getD 112 undef=_:=RA.d 16 rfl;have e113:a.tmps.getD 113 undef=_:=RA.d 17 rfl;cases ho;exact wv rfl rfl rfl
    ·have e114:a.tmps.getD 114 undef=_:=RA.d 18 rfl;cases ho;exact wv rfl rfl rfl
   ·intro win a wr E;have e6:a.tmps.getD 6 undef=.bool true:=E.fact 19 _ zo rfl;obtain⟨t,d⟩:=a;obtain rfl:d=[]:=E.defers;refine bS zk (hX.out _ _ E.size ⟨?_,HO.out.dr.move E.below⟩) _;simp only[yG,List.map_nil,e6]
    first | done | rfl
  rintro z' vs w9 - ⟨rfl,hO⟩;simp[litL,lk];have HE:=zh hO.below;clear hO HO;go_wp2;exact hR.out _ _ ⟨rfl,HE.out⟩
end Cl
