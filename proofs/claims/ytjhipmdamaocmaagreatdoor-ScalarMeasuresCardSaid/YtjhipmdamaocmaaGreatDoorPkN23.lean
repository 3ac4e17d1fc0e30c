/- Lemmas for the proofs of chapter 11. -/
import Derived.Test.YtjhipmdamaocmaaGreatDoorPkN19
import Derived.Test.YtjhipmdamaocmaaGreatDoorPkN16
import Derived.Test.YtjhipmdamaocmaaGreatDoorPkN20
import Derived.Test.YtjhipmdamaocmaaGreatDoorPkN22
set_option maxRecDepth 100000
set_option maxHeartbeats 16000000
namespace Cl
open Go Go.RowKit Go.Proofs
theorem Ka (v0:Value) (l:Table) (m:Mem) (w:World) (hm:m.inn w) (_:TabM m) (hl:aG m v0 l) (hlen:l.length≤1000000) :
 Calls Tryz.prog 105 #[.agg #[v0]] w fun e w'=>e=.returned (.bool (tf (Canon l)))∧Below w.heap.size w w':=uI v0 l m w hm hl hlen
theorem fB {m:Mem} {v:Value} {l:Table} (h:aG m v l):∃a c,v=.slice a l.length c:=by obtain⟨x,y,e,-⟩:=h;exact⟨x,y,e⟩
theorem ScAt.spell {m:Mem} {vi vf vt:Value} {s:RS} (h:ScAt m vi vf vt s):∃a b c d e f,vi=.slice a s.i.length b∧vf=.slice c s.f.length d∧vt=.slice e s.t.length f:=by
 obtain⟨a,b,h1⟩:=bO h.i;obtain⟨c,d,h2⟩:=bO h.f;obtain⟨e,f,h3⟩:=fB h.t;exact⟨a,b,c,d,e,f,h1,h2,h3⟩
theorem ScAt.nums {m:Mem} {vi vf vt:Value} {s:RS} (h:ScAt m vi vf vt s):bu m vi vf s.i s.f:=⟨h.i,h.f⟩
structure ScLe (s:RS) (n t:Nat):Prop where
 i:s.i.length≤n
 f:s.f.length≤n
 t:s.t.length≤t
theorem ScLe.mono {s:RS} {n t n' t':Nat} (h:ScLe s n t) (h1:n≤n') (h2:t≤t'):ScLe s n' t':=⟨yE h.i h1,yE h.f h1,yE h.t h2⟩
theorem gI (n t:Nat):ScLe dY n t:=⟨zC _,zC _,zC _⟩
theorem rP {s:RS} {n t:Nat} (h:ScLe s n t):ScLe (dJ s) n t:=by
 unfold dJ
 split
 ·exact h
 ·exact gI n t
theorem RS.De (s:RS):s.gK↔(s.i=(mkN s.i s.f).i∧s.f=(mkN s.i s.f).rf)∧Canon s.t:=⟨fun h=>⟨⟨h.ei,h.ef⟩,h.ct⟩,fun h=>⟨h.1.1,h.1.2,h.2⟩⟩
theorem mI (vi vf vt:Value) (s:RS) (m:Mem) (w:World) (hm:m.inn w) (htab:TabM m) (hs:ScAt m vi vf vt s) (hl:ScLe s 100000 1000000) :
 Calls Tryz.prog 84 #[s.val vi vf vt] w fun e w'=>e=.returned (.bool (tf s.gK))∧Below w.heap.size w w':=by
 have hO:=(Own.start hm).al #[.bool s.nul,.bool s.fal,.bool s.tru,vi,vf,vt] 29;have HN:=zh (Gh _ _ s.i s.f m _ hO.inn hs.nums hl.i hl.f);have HT:=zh (fun w' (h:m.inn w')=>ym _ s.t m w' h htab hs.t hl.t);have HE:=zh (RS.De s);obtain⟨a1,b1,a2,b2,a3,b3,rfl,rfl,rfl⟩:=hs.spell;unfold RS.val;have HO:=zh hO;clear hO hs;generalize s.nul=bn at *
 generalize s.fal=bf at *
 generalize s.tru=bt at *
 refine aj fun R hR=>?_
 go_enter Tryz.func84,Tryz.ntmps84
 go_wp2_with fail
 refine HN.out.mono ?_;rintro e w1 ⟨rfl,hb1⟩;have hO:=HO.out.move hb1;clear HN HO hb1;by_cases h1:s.i=(mkN s.i s.f).i∧s.f=(mkN s.i s.f).rf
 ·rw[aN h1];have q5:=hO.obj.c 5;have q6:=hO.obj.lt;have HO:=zh hO;have HE2:=zh (show s.gK↔Canon s.t from HE.out.trans ⟨fun h=>h.2,fun h=>⟨h1,h⟩⟩);clear hO HE h1
  go_wp2_with fail
  refine (HT.out _ HO.out.inn).mono ?_;rintro e w2 ⟨rfl,hb2⟩;have HB:=zh (HO.out.move hb2).below;clear HO HT hb2 q5 q6;generalize hc:tf (Canon s.t)=tc at *
  have HC:=zh (show tc=tf s.gK by rw[← hc];exact (fK HE2.out).symm);clear hc;go_wp2;exact hR.out _ _ ⟨aL (by rw[← HC.out]),HB.out⟩
 ·rw[aK h1];have HB:=zh hO.below;have HE2:=zh (show ¬ s.gK from fun h=>h1 (HE.out.1 h).1);clear hO HE h1 HT;go_wp2;exact hR.out _ _ ⟨aL (by rw[aK HE2.out]),HB.out⟩
theorem lu (vi vf vt:Value) (s:RS) (m:Mem) (w:World) (hm:m.inn w) (htab:TabM m) (hs:ScAt m vi vf vt s) (hl:ScLe s 100000 1000000) :
 Calls Tryz.prog 58 #[s.val vi vf vt] w fun e w'=>e=.returned (.bool (tf s.gK))∧Below w.heap.size w w':=by
 have hO:=(Own.start hm).al #[.bool s.nul,.bool s.fal,.bool s.tru,vi,vf,vt] 29;have HN:=zh (DW _ _ s.i s.f m _ hO.inn hs.nums hl.i hl.f);have HT:=zh (fun w' (h:m.inn w')=>Ka _ s.t m w' h htab hs.t hl.t);have HE:=zh (RS.De s);obtain⟨a1,b1,a2,b2,a3,b3,rfl,rfl,rfl⟩:=hs.spell;unfold RS.val;have HO:=zh hO;clear hO hs;generalize s.nul=bn at *
 generalize s.fal=bf at *
 generalize s.tru=bt at *
 refine aj fun R hR=>?_
 go_enter Tryz.func58,Tryz.ntmps58
 go_wp2_with fail
 refine HN.out.mono ?_;rintro e w1 ⟨rfl,hb1⟩;have hO:=HO.out.move hb1;clear HN HO hb1;by_cases h1:s.i=(mkN s.i s.f).i∧s.f=(mkN s.i s.f).rf
 ·rw[aN h1];have q5:=hO.obj.c 5;have q6:=hO.obj.lt;have HO:=zh hO;have HE2:=zh (show s.gK↔Canon s.t from HE.out.trans ⟨fun h=>h.2,fun h=>⟨h1,h⟩⟩);clear hO HE h1
  go_wp2_with fail
  refine (HT.out _ HO.out.inn).mono ?_;rintro e w2 ⟨rfl,hb2⟩;have HB:=zh (HO.out.move hb2).below;clear HO HT hb2 q5 q6;generalize hc:tf (Canon s.t)=tc at *
  have HC:=zh (show tc=tf s.gK by rw[← hc];exact (fK HE2.out).symm);clear hc;go_wp2;exact hR.out _ _ ⟨aL (by rw[← HC.out]),HB.out⟩
 ·rw[aK h1];have HB:=zh hO.below;have HE2:=zh (show ¬ s.gK from fun h=>h1 (HE.out.1 h).1);clear hO HE h1 HT;go_wp2;exact hR.out _ _ ⟨aL (by rw[aK HE2.out]),HB.out⟩
theorem ScAt.empty (m:Mem):ScAt m (.slice none 0 0) (.slice none 0 0) (.slice none 0 0) dY:=⟨aV m,aV m,bC m⟩
theorem sZ (vi vf vt:Value) (s:RS) (m:Mem) (w:World) (hm:m.inn w) (htab:TabM m) (hs:ScAt m vi vf vt s) (hl:ScLe s 100000 1000000) :
 Calls Tryz.prog 88 #[s.val vi vf vt] w fun e w'=>∃ui uf ut,e=.returned ((dJ s).val ui uf ut)∧Below w.heap.size w w'∧ScAt (m.grow w w') ui uf ut (dJ s):=by
 have hO:=((Own.start hm).al #[.bool s.nul,.bool s.fal,.bool s.tru,vi,vf,vt] 29).al #[.bool false,.bool false,.bool false,.slice none 0 0,.slice none 0 0,.slice none 0 0] 29;simp only[bZ] at hO;have HV:=zh (mI vi vf vt s m _ hO.inn htab hs hl);have HG:=zh (zi (fun h:s.gK=>iX h) (fun h:¬ s.gK=>rQ h));have HS:=zh hs;obtain⟨a1,b1,a2,b2,a3,b3,rfl,rfl,rfl⟩:=hs.spell;unfold RS.val at HV ⊢;have HO:=zh hO;clear hO hs;refine aj fun R hR=>?_
 go_enter Tryz.func88,Tryz.ntmps88
 go_wp2_with fail
 refine HV.out.mono ?_;rintro e w1 ⟨rfl,hb1⟩;have hO:=HO.out.move hb1;clear HV HO hb1;obtain⟨g0,g1,g2,g3,g4,g5,f0,f1,f2,f3,f4,f5⟩:=hO.obj.cf6;have gl:=hO.obj.lt;by_cases hv:s.gK
 ·rw[aN hv];obtain⟨q0,q1,q2,q3,q4,q5⟩:=hO.swap.obj.cs6;have ql:=hO.swap.obj.lt;have hO2:=(((((hO.set 0 (.bool s.nul)).set 1 (.bool s.fal)).set 2 (.bool s.tru)).set 3 (.slice a1 s.i.length b1)).set 4 (.slice a2 s.f.length b2)).set 5 (.slice a3 s.t.length b3);obtain⟨k0,k1,k2,k3,k4,k5⟩:=hO2.obj.cs6;have Hk:=zh (zi hO2.below (zi (HS.out.le hO2.done) (HG.out.1 hv)));clear hO hO2 HG hv;go_wp2;refine yQ (v:=.agg #[.bool s.nul,.bool s.fal,.bool s.tru,.slice a1 s.i.length b1,.slice a2 s.f.length b2,.slice a3 s.t.length b3]) (by simp[results,Tryz.results88,go_sem,k0,k1,k2,k3,k4,k5]) rfl ?_;exact hR.out _ _ ⟨_,_,_,by rw[Hk.out.2.2],Hk.out.1,by rw[Hk.out.2.2];exact Hk.out.2.1⟩
 ·rw[aK hv];have hO2:=(((((hO.set 0 (.bool false)).set 1 (.bool false)).set 2 (.bool false)).set 3 (.slice none 0 0)).set 4 (.slice none 0 0)).set 5 (.slice none 0 0);obtain⟨k0,k1,k2,k3,k4,k5⟩:=hO2.obj.cs6;have Hk:=zh (zi hO2.below (HG.out.2 hv));clear hO hO2 HG hv;go_wp2;refine yQ (v:=.agg #[.bool false,.bool false,.bool false,.slice none 0 0,.slice none 0 0,.slice none 0 0]) (by simp[results,Tryz.results88,go_sem,k0,k1,k2,k3,k4,k5]) rfl ?_;exact hR.out _ _ ⟨_,_,_,by rw[Hk.out.2];rfl,Hk.out.1,by rw[Hk.out.2];exact ScAt.empty _⟩
theorem y7 (vi vf vt:Value) (s:RS) (m:Mem) (w:World) (hm:m.inn w) (htab:TabM m) (hs:ScAt m vi vf vt s) (hl:ScLe s 100000 1000000) :
 Calls Tryz.prog 91 #[s.val vi vf vt] w fun e w'=>∃ui uf ut,e=.returned ((dJ s).val ui uf ut)∧Below w.heap.size w w'∧ScAt (m.grow w w') ui uf ut (dJ s):=by
 have hO:=((Own.start hm).al #[.bool s.nul,.bool s.fal,.bool s.tru,vi,vf,vt] 29).al #[.bool false,.bool false,.bool false,.slice none 0 0,.slice none 0 0,.slice none 0 0] 29;simp only[bZ] at hO;have HV:=zh (lu vi vf vt s m _ hO.inn htab hs hl);have HG:=zh (zi (fun h:s.gK=>iX h) (fun h:¬ s.gK=>rQ h));have HS:=zh hs;obtain⟨a1,b1,a2,b2,a3,b3,rfl,rfl,rfl⟩:=hs.spell;unfold RS.val at HV ⊢;have HO:=zh hO;clear hO hs;refine aj fun R hR=>?_
 go_enter Tryz.func91,Tryz.ntmps91
 go_wp2_with fail
 refine HV.out.mono ?_;rintro e w1 ⟨rfl,hb1⟩;have hO:=HO.out.move hb1;clear HV HO hb1;obtain⟨g0,g1,g2,g3,g4,g5,f0,f1,f2,f3,f4,f5⟩:=hO.obj.cf6;have gl:=hO.obj.lt;by_cases hv:s.gK
 ·rw[aN hv];obtain⟨q0,q1,q2,q3,q4,q5⟩:=hO.swap.obj.cs6;have ql:=hO.swap.obj.lt;have hO2:=(((((hO.set 0 (.bool s.nul)).set 1 (.bool s.fal)).set 2 (.bool s.tru)).set 3 (.slice a1 s.i.length b1)).set 4 (.slice a2 s.f.length b2)).set 5 (.slice a3 s.t.length b3);obtain⟨k0,k1,k2,k3,k4,k5⟩:=hO2.obj.cs6;have Hk:=zh (zi hO2.below (zi (HS.out.le hO2.done) (HG.out.1 hv)));clear hO hO2 HG hv;go_wp2;refine yQ (v:=.agg #[.bool s.nul,.bool s.fal,.bool s.tru,.slice a1 s.i.length b1,.slice a2 s.f.length b2,.slice a3 s.t.length b3]) (by simp[results,Tryz.results91,go_sem,k0,k1,k2,k3,k4,k5]) rfl ?_;exact hR.out _ _ ⟨_,_,_,by rw[Hk.out.2.2],Hk.out.1,by rw[Hk.out.2.2];exact Hk.out.2.1⟩
 ·rw[aK hv];have hO2:=(((((hO.set 0 (.bool false)).set 1 (.bool false)).set 2 (.bool false)).set 3 (.slice none 0 0)).set 4 (.slice none 0 0)).set 5 (.slice none 0 0);obtain⟨k0,k1,k2,k3,k4,k5⟩:=hO2.obj.cs6;have Hk:=zh (zi hO2.below (HG.out.2 hv));clear hO hO2 HG hv;go_wp2;refine yQ (v:=.agg #[.bool false,.bool false,.bool false,.slice none 0 0,.slice none 0 0,.slice none 0 0]) (by simp[results,Tryz.results91,go_sem,k0,k1,k2,k3,k4,k5]) rfl ?_;exact hR.out _ _ ⟨_,_,_,by rw[Hk.out.2];rfl,Hk.out.1,by rw[Hk.out.2];exact ScAt.empty _⟩
theorem RS.eq_iff (a b:RS):a=b↔a.nul=b.nul∧a.fal=b.fal∧a.tru=b.tru∧(a.i=b.i∧a.f=b.f)∧a.t=b.t:=by
 constructor
 ·rintro rfl;exact⟨rfl,rfl,rfl,⟨rfl,rfl⟩,rfl⟩
 ·rintro ⟨h1,h2,h3,⟨h4,h5⟩,h6⟩;obtain⟨n,f,t,i,g,T⟩:=a;obtain⟨n',f',t',i',g',T'⟩:=b;simp only at h1 h2 h3 h4 h5 h6;rw[h1,h2,h3,h4,h5,h6]
theorem F5 (vi vf vt ui uf ut:Value) (a b:RS) (m:Mem) (w:World) (hm:m.inn w) (ha:ScAt m vi vf vt a) (hb:ScAt m ui uf ut b) :
 Calls Tryz.prog 87 #[a.val vi vf vt,b.val ui uf ut] w fun e w'=>e=.returned (.bool (tf (a=b)))∧Below w.heap.size w w':=by
 have hO:=((Own.start hm).al #[.bool a.nul,.bool a.fal,.bool a.tru,vi,vf,vt] 29).al #[.bool b.nul,.bool b.fal,.bool b.tru,ui,uf,ut] 29;simp only[bZ] at hO;have HN:=zh (wJ _ _ _ _ a.i a.f b.i b.f m _ hO.inn ha.nums hb.nums);have HT:=zh (fun w' (h:m.inn w')=>wM _ _ a.t b.t m w' h ha.t hb.t);have HE:=zh (RS.eq_iff a b);obtain⟨a1,b1,a2,b2,a3,b3,rfl,rfl,rfl⟩:=ha.spell;obtain⟨c1,d1,c2,d2,c3,d3,rfl,rfl,rfl⟩:=hb.spell;unfold RS.val;have HO:=zh hO;clear hO ha hb;refine aj fun R hR=>?_;by_cases h1:a.nul=b.nul
 ·by_cases h2:a.fal=b.fal
  ·by_cases h3:a.tru=b.tru
   ·have HE2:=zh (show a=b↔(a.i=b.i∧a.f=b.f)∧a.t=b.t from HE.out.trans ⟨fun h=>h.2.2.2,fun h=>⟨h1,h2,h3,h⟩⟩);have e1:(a.nul==b.nul)=true:=by simp[h1]
    have e2:(a.fal==b.fal)=true:=by simp[h2]
    have e3:(a.tru==b.tru)=true:=by simp[h3]
    clear h1 h2 h3 HE;generalize a.nul=an at *
    generalize b.nul=bn at *
    generalize a.fal=af at *
    generalize b.fal=bf at *
    generalize a.tru=at' at *
    generalize b.tru=bt at *
    go_enter Tryz.func87,Tryz.ntmps87
    go_wp2_with fail
    refine HN.out.mono ?_;rintro e w1 ⟨rfl,hb1⟩;have hO:=HO.out.move hb1;clear HN HO hb1;by_cases h4:a.i=b.i∧a.f=b.f
    ·rw[aN h4];have q5:=hO.obj.c 5;have q6:=hO.obj.lt;have p5:=hO.swap.obj.c 5;have p6:=hO.swap.obj.lt;have HO:=zh hO;have HE3:=zh (show a=b↔a.t=b.t from HE2.out.trans ⟨fun h=>h.2,fun h=>⟨h4,h⟩⟩);clear hO HE2 h4
     go_wp2_with fail
     refine (HT.out _ HO.out.inn).mono ?_;rintro e w2 ⟨rfl,hb2⟩;have HB:=zh (HO.out.move hb2).below;clear HO HT hb2 q5 q6 p5 p6;generalize hc:tf (a.t=b.t)=tc at *
     have HC:=zh (show tc=tf (a=b) by rw[← hc];exact (fK HE3.out).symm);clear hc;go_wp2;exact hR.out _ _ ⟨aL (by rw[← HC.out]),HB.out⟩
    ·rw[aK h4];have HB:=zh hO.below;have HE3:=zh (show ¬ a=b from fun h=>h4 (HE2.out.1 h).1);clear hO HE2 h4 HT;go_wp2;exact hR.out _ _ ⟨aL (by rw[aK HE3.out]),HB.out⟩
   ·have HE3:=zh (show ¬ a=b from fun h=>h3 (HE.out.1 h).2.2.1);have HB:=zh HO.out.below;have e1:(a.nul==b.nul)=true:=by simp[h1]
    have e2:(a.fal==b.fal)=true:=by simp[h2]
    have e3:(a.tru==b.tru)=false:=by simp[h3]
    clear h1 h2 h3 HE HO HN HT
    go_enter Tryz.func87,Tryz.ntmps87
    go_wp2;exact hR.out _ _ ⟨aL (by rw[aK HE3.out]),HB.out⟩
  ·have HE3:=zh (show ¬ a=b from fun h=>h2 (HE.out.1 h).2.1);have HB:=zh HO.out.below;have e1:(a.nul==b.nul)=true:=by simp[h1]
   have e2:(a.fal==b.fal)=false:=by simp[h2]
   clear h1 h2 HE HO HN HT
   go_enter Tryz.func87,Tryz.ntmps87
   go_wp2;exact hR.out _ _ ⟨aL (by rw[aK HE3.out]),HB.out⟩
 ·have HE3:=zh (show ¬ a=b from fun h=>h1 (HE.out.1 h).1);have HB:=zh HO.out.below;have e1:(a.nul==b.nul)=false:=by simp[h1]
  clear h1 HE HO HN HT
  go_enter Tryz.func87,Tryz.ntmps87
  go_wp2;exact hR.out _ _ ⟨aL (by rw[aK HE3.out]),HB.out⟩
def jF (s:RS):Prop:=s.i.length≤8∧s.f.length≤8∧Fw s.t
theorem DL (vi vf vt:Value) (s:RS) (m:Mem) (w:World) (hm:m.inn w) (hs:ScAt m vi vf vt s) :
 Calls Tryz.prog 74 #[s.val vi vf vt] w fun e w'=>e=.returned (.bool (tf (jF s)))∧Below w.heap.size w w':=by
 have hO:=(Own.start hm).al #[.bool s.nul,.bool s.fal,.bool s.tru,vi,vf,vt] 29;have HT:=zh (OJ _ s.t m _ hO.inn hs.t);have HE:=zh (show jF s↔s.i.length≤8∧s.f.length≤8∧Fw s.t from Iff.rfl);obtain⟨a1,b1,a2,b2,a3,b3,rfl,rfl,rfl⟩:=hs.spell;unfold RS.val;have HO:=zh hO;clear hO hs;refine aj fun R hR=>?_;by_cases h1:s.i.length≤8
 ·have e1:decide ((s.i.length:Int)≤8)=true:=zL zo;by_cases h2:s.f.length≤8
  ·have e2:decide ((s.f.length:Int)≤8)=true:=zL zo;have HE3:=zh (show jF s↔Fw s.t from HE.out.trans ⟨fun h=>h.2.2,fun h=>⟨h1,h2,h⟩⟩);clear h1 h2 HE;generalize s.i.length=li at *
   generalize s.f.length=lf at *
   go_enter Tryz.func74,Tryz.ntmps74
   go_wp2_with fail
   refine HT.out.mono ?_;rintro e w2 ⟨rfl,hb2⟩;have HB:=zh (HO.out.move hb2).below;clear HO HT hb2;generalize hc:tf (Fw s.t)=tc at *
   have HC:=zh (show tc=tf (jF s) by rw[← hc];exact (fK HE3.out).symm);clear hc;go_wp2;exact hR.out _ _ ⟨aL (by rw[← HC.out]),HB.out⟩
  ·have e2:decide ((s.f.length:Int)≤8)=false:=zK zo;have HE3:=zh (show ¬ jF s from fun h=>h2 (HE.out.1 h).2.1);have HB:=zh HO.out.below;clear h1 h2 HE HT HO;generalize s.i.length=li at *
   generalize s.f.length=lf at *
   go_enter Tryz.func74,Tryz.ntmps74
   go_wp2;exact hR.out _ _ ⟨aL (by rw[aK HE3.out]),HB.out⟩
 ·have e1:decide ((s.i.length:Int)≤8)=false:=zK zo;have HE3:=zh (show ¬ jF s from fun h=>h1 (HE.out.1 h).1);have HB:=zh HO.out.below;clear h1 HE HT HO;generalize s.i.length=li at *
  generalize s.f.length=lf at *
  go_enter Tryz.func74,Tryz.ntmps74
  go_wp2;exact hR.out _ _ ⟨aL (by rw[aK HE3.out]),HB.out⟩
def firB (a b:Bool):Int:=if a=b then 0 else if a then -1 else 1
theorem DN (a b:Bool) (w:World):Calls Tryz.prog 100 #[.bool a,.bool b] w fun e w'=>e=.returned (.int .i64 (firB a b))∧w'=w:=by
 refine aj fun R hR=>?_;cases a <;> cases b
 all_goals go_enter Tryz.func100,Tryz.ntmps100
 all_goals go_wp2
 all_goals exact hR.out _ _ ⟨rfl,rfl⟩
theorem Bz (m:Mem) (w:World) (_:m.inn w) :
 Calls Tryz.prog 134 #[] w fun e w'=>∃r,e=.returned (.agg #[r])∧Below w.heap.size w w'∧aG (m.grow w w') r allT:=by
 refine (yo w).mono ?_;rintro e w' ⟨g1,g2,rfl,hb,h1,h2,h3,h4,h5⟩;refine ⟨_,rfl,hb,?_⟩;refine ⟨some ⟨g2,0,none⟩,1,rfl,zG _,by simp[maxLen],fun _=>⟨g2,0,rfl,fun i hi=>?_⟩⟩;obtain rfl:i=0:=by simp[allT] at hi;omega
 refine ⟨fe h2 (h5.cell (i:=0) rfl),.slice (some ⟨g1,0,none⟩) 1 1,fe h2 (h5.cell (i:=1) rfl),?_⟩;refine ⟨some ⟨g1,0,none⟩,1,rfl,zG _,by simp[maxLen],fun _=>⟨g1,0,rfl,fun i hi=>?_⟩⟩;obtain rfl:i=0:=by simp[allT] at hi;omega
 exact⟨fe h1 (h4.cell (i:=0) rfl),fe h1 (h4.cell (i:=1) rfl),fe h1 (h4.cell (i:=2) rfl),by simp[allT]⟩
def allS:RS:=⟨true,true,true,iw,uZ,allT⟩
theorem Ru:allS=⟨true,true,true,allN.i,allN.rf,allT⟩:=by rw[PI,Lp];rfl
theorem Ie:ScIs elOk allS:=by
 rw[Ru];exact gZ (by simp[elOk]) (by simp[elOk]) (by simp[elOk]) Ig Qc OA.canon (fun w=>by simp[Js,elOk])
theorem OC:ScLe allS 1 1:=⟨zG _,zG _,zG _⟩
theorem Dz (m:Mem) (w:World) (hm:m.inn w) :
 Calls Tryz.prog 83 #[] w fun e w'=>∃ui uf ut,e=.returned (allS.val ui uf ut)∧Below w.heap.size w w'∧ScAt (m.grow w w') ui uf ut allS:=by
 have hO:=(Own.start hm).al #[.bool false,.bool false,.bool false,.slice none 0 0,.slice none 0 0,.slice none 0 0] 29;have HI:=zh (wX m _ hO.inn);have HO:=zh hO;clear hO;refine aj fun R hR=>?_
 go_enter Tryz.func83,Tryz.ntmps83
 go_wp2_with fail
 refine HI.out.mono ?_;rintro e w1 ⟨ri,rf,rfl,hb1,hr1⟩;have hO1:=HO.out.call hb1;have HT:=zh (Bz _ w1 hO1.inn);obtain⟨a,c,b,d,rfl,rfl⟩:=hr1.spell;have HO1:=zh (zi hr1 hO1);clear HI HO hb1 hr1 hO1
 go_wp2_with fail
 refine HT.out.mono ?_;rintro e w2 ⟨rt,rfl,hb2,hr2⟩;have hO:=HO1.out.2.call hb2;have hN:=HO1.out.1.le (Mem.dF HO1.out.2.inn (w:=w2));obtain⟨ta,tc,rfl⟩:=fB hr2;obtain⟨g0,g1,g2,g3,g4,g5,f0,f1,f2,f3,f4,f5⟩:=hO.obj.cf6;have gl:=hO.obj.lt;have hO2:=(((((hO.set 0 (.bool true)).set 1 (.bool true)).set 2 (.bool true)).set 3 (.slice a iw.length c)).set 4 (.slice b uZ.length d)).set 5 (.slice ta allT.length tc);obtain⟨k0,k1,k2,k3,k4,k5⟩:=hO2.obj.cs6;have hS:ScAt _ _ _ _ allS:=⟨hN.i,hN.f,hr2⟩;have Hk:=zh (zi hO2.below (hS.le hO2.done));clear hO hO2 hS hN hr2 hb2 HT HO1;go_wp2;refine yQ (v:=.agg #[.bool true,.bool true,.bool true,.slice a iw.length c,.slice b uZ.length d,.slice ta allT.length tc]) (by simp[results,Tryz.results83,go_sem,k0,k1,k2,k3,k4,k5]) rfl ?_;exact hR.out _ _ ⟨_,_,_,rfl,Hk.out.1,Hk.out.2⟩
def ScV (s:RS) (M:Mem) (v:Value):Prop:=∃xa xb ya yb za zb,v=.agg #[.bool s.nul,.bool s.fal,.bool s.tru,.slice xa s.i.length xb,.slice ya s.f.length yb,.slice za s.t.length zb]∧ScAt M (.slice xa s.i.length xb) (.slice ya s.f.length yb) (.slice za s.t.length zb) s
theorem Mf {M:Mem} {vi vf vt:Value} {s:RS} (h:ScAt M vi vf vt s):ScV s M (s.val vi vf vt):=by
 obtain⟨a,b,c,d,e,f,rfl,rfl,rfl⟩:=h.spell;exact⟨a,b,c,d,e,f,rfl,h⟩
theorem ScV.le {s:RS} {m m':Mem} (h:m.le m') {v:Value} (k:ScV s m v):ScV s m' v:=by
 obtain⟨a,b,c,d,e,f,h1,h2⟩:=k;exact⟨a,b,c,d,e,f,h1,h2.le h⟩
def ScRV (p:El→Prop) (n t:Nat) (M:Mem) (v:Value):Prop:=∃s,ScV s M v∧ScIs p s∧ScLe s n t
structure OQ (f1 f2 f3:FuncId) (bop:Bool→Bool→Bool) (nop:NS→NS→NS) (lop:Bool→Bool→Bool) (pop:Prop→Prop→Prop):Prop where
 c1:∀p q w,Calls Tryz.prog f1 #[.bool p,.bool q] w fun e w'=>e=.returned (.bool (bop p q))∧w'=w
 c2:∀(vi vf ui uf:Value) (I F J G:List Spn) (m:Mem) (w:World),m.inn w→bu m vi vf I F→bu m ui uf J G→I.length≤250→F.length≤250→J.length≤250→G.length≤250 →
  Calls Tryz.prog f2 #[.agg #[vi,vf],.agg #[ui,uf]] w fun e w'=>∃ri rf,e=.returned (.agg #[ri,rf])∧Below w.heap.size w w'∧bu (m.grow w w') ri rf (nop (mkN I F) (mkN J G)).i (nop (mkN I F) (mkN J G)).rf
 c3:∀(v0 v1:Value) (A B:Table) (m:Mem) (w:World),m.inn w→TabM m→aG m v0 A→aG m v1 B→Fits A B →
  Calls Tryz.prog f3 #[.agg #[v0],.agg #[v1]] w fun e w'=>∃r C,e=.returned (.agg #[r])∧Below w.heap.size w w'∧aG (m.grow w w') r C∧eQ (fun z=>lop (Sem A z) (Sem B z)) C∧C.length≤(A.length+2)*(B.length+2)+1
 e1:∀(args:Array Value) (w:World),(callFunc f1 args).run Tryz.prog w=.ok (.enter f1 args) w
 e2:∀(args:Array Value) (w:World),(callFunc f2 args).run Tryz.prog w=.ok (.enter f2 args) w
 e3:∀(args:Array Value) (w:World),(callFunc f3 args).run Tryz.prog w=.ok (.enter f3 args) w
 ok:∀{x y:NS},NSok x→NSok y→NSok (nop x y)
 has:∀{x y:NS},NSok x→NSok y→∀u,(nop x y).has u↔pop (x.has u) (y.has u)
 le:∀{x y:NS} {k n:Nat},x.Le k→y.Le n→(nop x y).Le (k+n+4)
 bp:∀p q,bop p q=true↔pop (p=true) (q=true)
 lp:∀p q,lop p q=true↔pop (p=true) (q=true)
theorem Ao {f1 f2 f3:FuncId} {bop:Bool→Bool→Bool} {nop:NS→NS→NS} {lop:Bool→Bool→Bool} {pop:Prop→Prop→Prop} (HO0:OQ f1 f2 f3 bop nop lop pop) (vi vf vt:Value) (A:RS) (ui uf ut:Value) (B:RS) (na ta nb tb:Nat) (m:Mem) (w:World) (hm:m.inn w) (htab:TabM m) (ha:ScAt m vi vf vt A) (hb:ScAt m ui uf ut B) (la:ScLe A na ta) (lb:ScLe B nb tb) (hn1:na≤250) (hn2:nb≤250) (ht:(ta+2)*(tb+2)≤1000000) :
 Calls Tryz.prog 135 #[A.val vi vf vt,B.val ui uf ut,.func (.func f1) #[] #[],.func (.func f2) #[] #[],.func (.func f3) #[] #[]] w fun e w'=>∃s si sf st,e=.returned (s.val si sf st)∧Below w.heap.size w w'∧ScAt (m.grow w w') si sf st s∧ScIs (fun e=>pop ((dJ A).has e) ((dJ B).has e)) s∧ScLe s (na+nb+4) ((ta+2)*(tb+2)+1):=by
 have hta:ta+2≤(ta+2)*(tb+2):=Nat.le_mul_of_pos_right _ zo;have htb:tb+2≤(ta+2)*(tb+2):=Nat.le_mul_of_pos_left _ zo;have hO:=(((Own.start hm).al #[.bool A.nul,.bool A.fal,.bool A.tru,vi,vf,vt] 29).al #[.bool B.nul,.bool B.fal,.bool B.tru,ui,uf,ut] 29).al #[.bool false,.bool false,.bool false,.slice none 0 0,.slice none 0 0,.slice none 0 0] 29;simp only[bZ] at hO;have HGA:=zh (fun w' (h:m.inn w')=>sZ vi vf vt A m w' h htab ha (la.mono zo zo));have HGB:=zh (fun w' (h:m.inn w')=>sZ ui uf ut B m w' h htab hb (lb.mono zo zo));have lx:=rP la;have ly:=rP lb;have HT:=zh htab;have HO0:=zh HO0;obtain⟨aa,ab,ac,ad,ae,af,rfl,rfl,rfl⟩:=ha.spell;obtain⟨ba,bb,bc,bd,be,bf,rfl,rfl,rfl⟩:=hb.spell;unfold RS.val at HGA HGB ⊢;have HO:=zh hO;clear hO ha hb la lb hta htb;generalize dJ A=x at *
 generalize dJ B=y at *
 refine aj fun R hR=>?_
 go_enter Tryz.func135,Tryz.ntmps135
 go_upto_region 1 with (fail)
 refine aI [2,3,4,5,6,10] (fun vs w'=>∃(mk:Mem) (xa xc xe ya yc ye:Option Addr) (xb xd xf yb yd yf:Nat),vs=[.func (.func f1) #[] #[],.func (.func f2) #[] #[],.func (.func f3) #[] #[],.pointer (some ⟨w.heap.size,0,none⟩),.pointer (some ⟨w.heap.size+1,0,none⟩),.pointer (some ⟨w.heap.size+1+1,0,none⟩)] ∧
  ScAt mk (.slice xa x.i.length xb) (.slice xc x.f.length xd) (.slice xe x.t.length xf) x∧ScAt mk (.slice ya y.i.length yb) (.slice yc y.f.length yd) (.slice ye y.t.length yf) y∧m.le mk ∧
  Own w m w' mk [.obj (w.heap.size+1) 29 #[.bool y.nul,.bool y.fal,.bool y.tru,.slice ya y.i.length yb,.slice yc y.f.length yd,.slice ye y.t.length yf],.obj w.heap.size 29 #[.bool x.nul,.bool x.fal,.bool x.tru,.slice xa x.i.length xb,.slice xc x.f.length xd,.slice xe x.t.length xf],.obj (w.heap.size+1+1) 29 #[.bool false,.bool false,.bool false,.slice none 0 0,.slice none 0 0,.slice none 0 0]]) ?_ ?_
 ·intro X hX;refine aU 4 5 (fun j=>[Fact.is (·=.agg #[.bool A.nul,.bool A.fal,.bool A.tru,.slice aa A.i.length ab,.slice ac A.f.length ad,.slice ae A.t.length af]),Fact.mem m [1] (ScV x),Fact.is (·=.agg #[.bool B.nul,.bool B.fal,.bool B.tru,.slice ba B.i.length bb,.slice bc B.f.length bd,.slice be B.t.length bf]),Fact.mem m [3] (ScV y)].getD j Fact.any) zk zk ?_ ?_
  ·intro i hi o win a wr ho RA;have HO2:=HO.out.dr.move RA.below;obtain⟨p0,p1,p2,p3,p4,p5⟩:=HO2.third.obj.cs6;have pl:=HO2.third.obj.lt;obtain⟨q0,q1,q2,q3,q4,q5⟩:=HO2.swap.obj.cs6;have ql:=HO2.swap.obj.lt;rcases (show i=0∨i=1∨i=2∨i=3 by omega) with rfl | rfl | rfl | rfl
   ·have e5:=RA.k 5;cases ho;exact wv rfl rfl rfl
   ·have e11:a.tmps.getD 11 undef=_:=RA.d 0 rfl;cases ho;refine we rfl rfl (HGA.out wr HO2.inn) ?_;rintro e w' ⟨ri,rf,rt,rfl,hb,hn⟩;exact⟨_,rfl,_,rfl,hb,fQ ScV.le HO2.inn hb (Mf hn)⟩
   ·have e6:=RA.k 6;cases ho;exact wv rfl rfl rfl
   ·have e13:a.tmps.getD 13 undef=_:=RA.d 2 rfl;cases ho;refine we rfl rfl (HGB.out wr HO2.inn) ?_;rintro e w' ⟨ri,rf,rt,rfl,hb,hn⟩;exact⟨_,rfl,_,rfl,hb,fQ ScV.le HO2.inn hb (Mf hn)⟩
  ·intro win a wr E;have e2:=E.keep 2 zk;have e3:=E.keep 3 zk;have e4:=E.keep 4 zk;have e5:=E.keep 5 zk;have e6:=E.keep 6 zk;have e10:=E.keep 10 zk;have e12:(Fact.mem m [1] (ScV x)).holds (a.tmps.getD 12 undef) win wr:=E.fact 1 _ zo rfl;have e14:(Fact.mem m [3] (ScV y)).holds (a.tmps.getD 14 undef) win wr:=E.fact 3 _ zo rfl;obtain⟨xa,xb,xc,xd,xe,xf,k1,st1⟩:ScV _ _ _:=e12;obtain⟨ya,yb,yc,yd,ye,yf,k2,st2⟩:ScV _ _ _:=e14;have hmw:=(HO.out.dr.move E.below).inn;have st1:=st1.le (Mem.fE (es:=[1,3]) hmw win zS);have st2:=st2.le (Mem.fE (es:=[1,3]) hmw win zS);have hle:=Mem.jq hmw win [1,3];have hO1:=HO.out.dr.region E.below win [1,3] (fun d hd=>(E.rng d (by simp at hd;omega)).1);have HE:=zh E;generalize m.wins wr win [1,3]=mk2 at *
   have HK:=zh (zi st1 (zi st2 hle));clear E st1 st2 hle hmw;obtain⟨p0,p1,p2,p3,p4,p5,pf0,pf1,pf2,pf3,pf4,pf5⟩:=hO1.third.obj.cf6;have pl:=hO1.third.obj.lt;obtain⟨q0,q1,q2,q3,q4,q5,qf0,qf1,qf2,qf3,qf4,qf5⟩:=hO1.swap.obj.cf6;have ql:=hO1.swap.obj.lt;have hO3:=((((((hO1.third.set 0 (.bool x.nul)).set 1 (.bool x.fal)).set 2 (.bool x.tru)).set 3 (.slice xa x.i.length xb)).set 4 (.slice xc x.f.length xd)).set 5 (.slice xe x.t.length xf));have HO4:=zh ((((((hO3.third.set 0 (.bool y.nul)).set 1 (.bool y.fal)).set 2 (.bool y.tru)).set 3 (.slice ya y.i.length yb)).set 4 (.slice yc y.f.length yd)).set 5 (.slice ye y.t.length yf));clear hO1 hO3;refine dQ 4 zk (aF rfl rfl (aZ zg ?_));refine dQ 5 zk (aF rfl rfl (aZ zg ?_));obtain⟨t,d⟩:=a;obtain rfl:d=[]:=HE.out.defers;refine bS zk (hX.out _ _ HE.out.size ⟨mk2,xa,xc,xe,ya,yc,ye,xb,xd,xf,yb,yd,yf,?_,HK.out.1,HK.out.2.1,HK.out.2.2,HO4.out⟩) _;simp only[yG,List.map_nil,e2,e3,e4,e5,e6,e10]
   rfl
 rintro z2 vs w2 - ⟨mk,xa,xc,xe,ya,yc,ye,xb,xd,xf,yb,yd,yf,rfl,hx,hy,hle,hO⟩;simp[litL,lk];have HX:=zh (zi hx (zi hy (HT.out.le hle)));have HO2:=zh hO;have HL:=zh (zi lx ly);have hmul:(x.t.length+2)*(y.t.length+2)≤(ta+2)*(tb+2):=Nat.mul_le_mul (Nat.add_le_add_right lx.t 2) (Nat.add_le_add_right ly.t 2);have hF:Fits x.t y.t:=Fits.of lx.t ly.t ht;have HF:=zh hF;have hli:=lx.i;have hlf:=lx.f;have hli2:=ly.i;have hlf2:=ly.f;have hNl:=HO0.out.le (eu hli hlf) (eu hli2 hlf2);have hN1:=hNl.i;have hN2:=hNl.f;rw[← NS.jR] at hN2;clear hO hx hy hle HO HGA HGB HT lx ly hF hNl
 go_upto_region 2 with (fail)
 refine aI [10] (fun vs w'=>∃(mk':Mem) (s:RS) (ra rc re:Option Addr) (rb rd rf:Nat),vs=[.pointer (some ⟨w.heap.size+1+1,0,none⟩)] ∧
  ScAt mk' (.slice ra s.i.length rb) (.slice rc s.f.length rd) (.slice re s.t.length rf) s∧ScIs (fun e=>pop (x.has e) (y.has e)) s∧ScLe s (na+nb+4) ((ta+2)*(tb+2)+1) ∧
  Own w m w' mk' [.obj (w.heap.size+1+1) 29 #[.bool s.nul,.bool s.fal,.bool s.tru,.slice ra s.i.length rb,.slice rc s.f.length rd,.slice re s.t.length rf]]) ?_ ?_
 ·intro X hX;refine aU 31 6 (fun j=>[Fact.is (·=.func (.func f1) #[] #[]),Fact.is (·=.pointer (some ⟨w.heap.size,0,none⟩)),Fact.is (·=.bool x.nul),Fact.is (·=.pointer (some ⟨w.heap.size+1,0,none⟩)),Fact.is (·=.bool y.nul),Fact.is (·=.bool (bop x.nul y.nul)),Fact.is (·=.func (.func f1) #[] #[]),Fact.is (·=.pointer (some ⟨w.heap.size,1,none⟩)),Fact.is (·=.bool x.fal),Fact.is (·=.pointer (some ⟨w.heap.size+1,1,none⟩)),Fact.is (·=.bool y.fal),Fact.is (·=.bool (bop x.fal y.fal)),Fact.is (·=.func (.func f1) #[] #[]),Fact.is (·=.pointer (some ⟨w.heap.size,2,none⟩)),Fact.is (·=.bool x.tru),Fact.is (·=.pointer (some ⟨w.heap.size+1,2,none⟩)),Fact.is (·=.bool y.tru),Fact.is (·=.bool (bop x.tru y.tru)),Fact.is (·=.func (.func f2) #[] #[]),Fact.is (·=.pointer (some ⟨w.heap.size,3,none⟩)),Fact.is (·=.agg #[.slice xa x.i.length xb,.slice xc x.f.length xd]),Fact.is (·=.pointer (some ⟨w.heap.size+1,3,none⟩)),Fact.is (·=.agg #[.slice ya y.i.length yb,.slice yc y.f.length yd]),Fact.mem mk [23] (NumV (nop x.ns y.ns).i (nop x.ns y.ns).rf),Fact.is (·=.func (.func f3) #[] #[]),Fact.is (·=.pointer (some ⟨w.heap.size,5,none⟩)),Fact.is (·=.agg #[.slice xe x.t.length xf]),Fact.is (·=.pointer (some ⟨w.heap.size+1,5,none⟩)),Fact.is (·=.agg #[.slice ye y.t.length yf]),Fact.mem mk [29] (OO (fun z=>lop (Sem x.t z) (Sem y.t z)) ((ta+2)*(tb+2)+1)),Fact.mem mk [23,29] (ScRV (fun e=>pop (x.has e) (y.has e)) (na+nb+4) ((ta+2)*(tb+2)+1))].getD j Fact.any) zk zk ?_ ?_
  ·intro i hi o win a wr ho RA;have HO3:=HO2.out.dr.move RA.below;have cf1:=HO0.out.e1;have cf2:=HO0.out.e2;have cf3:=HO0.out.e3;obtain⟨p0,p1,p2,p3,p4,p5⟩:=HO3.swap.obj.cs6;have pl:=HO3.swap.obj.lt;obtain⟨q0,q1,q2,q3,q4,q5⟩:=HO3.obj.cs6;have ql:=HO3.obj.lt;rcases (show i=0∨i=1∨i=2∨i=3∨i=4∨i=5∨i=6∨i=7∨i=8∨i=9∨i=10∨i=11∨i=12∨i=13∨i=14∨i=15∨i=16∨i=17∨i=18∨i=19∨i=20∨i=21∨i=22∨i=23∨i=24∨i=25∨i=26∨i=27∨i=28∨i=29∨i=30 by omega) with rfl | rfl | rfl | rfl | rfl | rfl | rfl | rfl | rfl | rfl | rfl | rfl | rfl | rfl | rfl | rfl | rfl | rfl | rfl | rfl | rfl | rfl | rfl | rfl | rfl | rfl | rfl | rfl | rfl | rfl | rfl
   ·have e2:=RA.k 2;cases ho;exact wv rfl rfl rfl
   ·have e5:=RA.k 5;cases ho;exact wv rfl rfl rfl
   ·have e16:a.tmps.getD 16 undef=_:=RA.d 1 rfl;cases ho;exact wv rfl rfl rfl
   ·have e6:=RA.k 6;cases ho;exact wv rfl rfl rfl
   ·have e18:a.tmps.getD 18 undef=_:=RA.d 3 rfl;cases ho;exact wv rfl rfl rfl
   ·have e15:a.tmps.getD 15 undef=_:=RA.d 0 rfl;have e17:a.tmps.getD 17 undef=_:=RA.d 2 rfl;have e19:a.tmps.getD 19 undef=_:=RA.d 4 rfl;cases ho;refine we rfl rfl (HO0.out.c1 x.nul y.nul wr) ?_;rintro e w' ⟨rfl,rfl⟩;exact⟨_,rfl,_,rfl,zP _ _,rfl⟩
   ·have e2:=RA.k 2;cases ho;exact wv rfl rfl rfl
   ·have e5:=RA.k 5;cases ho;exact wv rfl rfl rfl
   ·have e22:a.tmps.getD 22 undef=_:=RA.d 7 rfl;cases ho;exact wv rfl rfl rfl
   ·have e6:=RA.k 6;cases ho;exact wv rfl rfl rfl
   ·have e24:a.tmps.getD 24 undef=_:=RA.d 9 rfl;cases ho;exact wv rfl rfl rfl
   ·have e21:a.tmps.getD 21 undef=_:=RA.d 6 rfl;have e23:a.tmps.getD 23 undef=_:=RA.d 8 rfl;have e25:a.tmps.getD 25 undef=_:=RA.d 10 rfl;cases ho;refine we rfl rfl (HO0.out.c1 x.fal y.fal wr) ?_;rintro e w' ⟨rfl,rfl⟩;exact⟨_,rfl,_,rfl,zP _ _,rfl⟩
   ·have e2:=RA.k 2;cases ho;exact wv rfl rfl rfl
   ·have e5:=RA.k 5;cases ho;exact wv rfl rfl rfl
   ·have e28:a.tmps.getD 28 undef=_:=RA.d 13 rfl;cases ho;exact wv rfl rfl rfl
   ·have e6:=RA.k 6;cases ho;exact wv rfl rfl rfl
   ·have e30:a.tmps.getD 30 undef=_:=RA.d 15 rfl;cases ho;exact wv rfl rfl rfl
   ·have e27:a.tmps.getD 27 undef=_:=RA.d 12 rfl;have e29:a.tmps.getD 29 undef=_:=RA.d 14 rfl;have e31:a.tmps.getD 31 undef=_:=RA.d 16 rfl;cases ho;refine we rfl rfl (HO0.out.c1 x.tru y.tru wr) ?_;rintro e w' ⟨rfl,rfl⟩;exact⟨_,rfl,_,rfl,zP _ _,rfl⟩
   ·have e3:=RA.k 3;cases ho;exact wv rfl rfl rfl
   ·have e5:=RA.k 5;cases ho;exact wv rfl rfl rfl
   ·have e34:a.tmps.getD 34 undef=_:=RA.d 19 rfl;cases ho;exact wv rfl rfl rfl
   ·have e6:=RA.k 6;cases ho;exact wv rfl rfl rfl
   ·have e36:a.tmps.getD 36 undef=_:=RA.d 21 rfl;cases ho;exact wv rfl rfl rfl
   ·have e33:a.tmps.getD 33 undef=_:=RA.d 18 rfl;have e35:a.tmps.getD 35 undef=_:=RA.d 20 rfl;have e37:a.tmps.getD 37 undef=_:=RA.d 22 rfl;cases ho;refine we rfl rfl (HO0.out.c2 _ _ _ _ x.i x.f y.i y.f mk wr HO3.inn HX.out.1.nums HX.out.2.1.nums zo zo zo zo) ?_;rintro e w' ⟨ri,rf,rfl,hb,hn⟩;exact⟨_,rfl,_,rfl,hb,fQ NumV.le HO3.inn hb (gB hn)⟩
   ·have e4:=RA.k 4;cases ho;exact wv rfl rfl rfl
   ·have e5:=RA.k 5;cases ho;exact wv rfl rfl rfl
   ·have e40:a.tmps.getD 40 undef=_:=RA.d 25 rfl;cases ho;exact wv rfl rfl rfl
   ·have e6:=RA.k 6;cases ho;exact wv rfl rfl rfl
   ·have e42:a.tmps.getD 42 undef=_:=RA.d 27 rfl;cases ho;exact wv rfl rfl rfl
   ·have e39:a.tmps.getD 39 undef=_:=RA.d 24 rfl;have e41:a.tmps.getD 41 undef=_:=RA.d 26 rfl;have e43:a.tmps.getD 43 undef=_:=RA.d 28 rfl;cases ho;refine we rfl rfl (HO0.out.c3 _ _ x.t y.t mk wr HO3.inn HX.out.2.2 HX.out.1.t HX.out.2.1.t HF.out) ?_;rintro e w' ⟨r,C,rfl,hb,hst,hl,hn⟩;exact⟨_,rfl,_,rfl,hb,Px HO3.inn hb hst hl zo⟩
   ·have e20:a.tmps.getD 20 undef=_:=RA.d 5 rfl;have e26:a.tmps.getD 26 undef=_:=RA.d 11 rfl;have e32:a.tmps.getD 32 undef=_:=RA.d 17 rfl;have e38:(Fact.mem mk [23] (NumV (nop x.ns y.ns).i (nop x.ns y.ns).rf)).holds (a.tmps.getD 38 undef) win wr:=RA.d 23 rfl;have e44:(Fact.mem mk [29] (OO (fun z=>lop (Sem x.t z) (Sem y.t z)) ((ta+2)*(tb+2)+1))).holds (a.tmps.getD 44 undef) win wr:=RA.d 29 rfl;have f32:=(zT (xs:=a.tmps) (i:=32) (d:=undef)).symm.trans e32;have f20:=(zT (xs:=a.tmps) (i:=20) (d:=undef)).symm.trans e20;have f26:=(zT (xs:=a.tmps) (i:=26) (d:=undef)).symm.trans e26;cases ho;obtain⟨r1,s1,r2,s2,k1,t1⟩:NumV _ _ _ _:=e38;obtain⟨r3,s3,C,k2,t2,l2,n2⟩:OO _ _ _ _:=e44;have f38:=(zT (xs:=a.tmps) (i:=38) (d:=undef)).symm.trans k1;have f44:=(zT (xs:=a.tmps) (i:=44) (d:=undef)).symm.trans k2;have t1:=t1.le (Mem.fE (es:=[23,29]) HO3.inn win zS);have t2:=aJ (Mem.fE (es:=[23,29]) HO3.inn win zS) t2;have hS:ScIs (fun e=>pop (x.has e) (y.has e)) ⟨bop x.nul y.nul,bop x.fal y.fal,bop x.tru y.tru,(nop x.ns y.ns).i,(nop x.ns y.ns).rf,C⟩:=QK (a:=x) (b:=y) pop (HO0.out.bp _ _) (HO0.out.bp _ _) (HO0.out.bp _ _) (HO0.out.ok x.qx y.qx) (HO0.out.has x.qx y.qx) l2.canon (fun z=>by rw[l2.sem];exact HO0.out.lp _ _);exact aF rfl rfl (aP zg ⟨_,rfl,zP _ _,vJ [23,29] (R:=ScRV _ _ _) win zS (fun d hd=>(RA.rng d (by simp at hd;rcases hd with rfl | rfl <;> kernel_rfl)).2.2) ⟨_,⟨r1,s1,r2,s2,r3,s3,rfl,⟨t1.i,t1.f,t2⟩⟩,hS,⟨by show (nop x.ns y.ns).i.length≤_;unfold RS.ns;omega,by show (nop x.ns y.ns).rf.length≤_;unfold RS.ns;omega,n2⟩⟩⟩)
  ·intro win a wr E;have e10:=E.keep 10 zk;have e45:(Fact.mem mk [23,29] (ScRV (fun e=>pop (x.has e) (y.has e)) (na+nb+4) ((ta+2)*(tb+2)+1))).holds (a.tmps.getD 45 undef) win wr:=E.fact 30 _ zo rfl;obtain⟨s,⟨ra,rb,rc,rd,re,rf,k1,st1⟩,hS,hL⟩:ScRV _ _ _ _ _:=e45;have hO1:=HO2.out.dr.region E.below win [23,29] (fun d hd=>(E.rng d (by simp at hd;omega)).1);have HE:=zh E;generalize mk.wins wr win [23,29]=mk2 at *
   have HK:=zh (zi st1 (zi hS hL));clear E st1 hS hL;obtain⟨p0,p1,p2,p3,p4,p5,pf0,pf1,pf2,pf3,pf4,pf5⟩:=hO1.third.obj.cf6;have pl:=hO1.third.obj.lt;have HO4:=zh ((((((hO1.third.set 0 (.bool s.nul)).set 1 (.bool s.fal)).set 2 (.bool s.tru)).set 3 (.slice ra s.i.length rb)).set 4 (.slice rc s.f.length rd)).set 5 (.slice re s.t.length rf));clear hO1;refine dQ 31 zk (aF rfl rfl (aZ zg ?_));obtain⟨t,d⟩:=a;obtain rfl:d=[]:=HE.out.defers;refine bS zk (hX.out _ _ HE.out.size ⟨mk2,s,ra,rc,re,rb,rd,rf,?_,HK.out.1,HK.out.2.1,HK.out.2.2,HO4.out.drop2.drop2⟩) _;simp only[yG,List.map_nil,e10]
   rfl
 rintro z3 vs w3 - ⟨mk',s,ra,rc,re,rb,rd,rf,rfl,hs,hS,hL,hO⟩;simp[litL,lk];obtain⟨g0,g1,g2,g3,g4,g5⟩:=hO.obj.cs6;have gl:=hO.obj.lt;have Hk:=zh (zi hO.below (zi (hs.le hO.done) (zi hS hL)));clear hO hs hS hL HO2 HX HF HL hmul hN1 hN2;go_wp2;refine yQ (v:=.agg #[.bool s.nul,.bool s.fal,.bool s.tru,.slice ra s.i.length rb,.slice rc s.f.length rd,.slice re s.t.length rf]) (by simp[results,Tryz.results135,go_sem,g0,g1,g2,g3,g4,g5]) rfl ?_;exact hR.out _ _ ⟨s,_,_,_,rfl,Hk.out.1,Hk.out.2.1,Hk.out.2.2.1,Hk.out.2.2.2⟩
theorem JW (p q:Bool) (w:World):Calls Tryz.prog 136 #[.bool p,.bool q] w fun e w'=>e=.returned (.bool (p&&q))∧w'=w:=by
 refine aj fun R hR=>?_;cases p
 ·go_enter Tryz.func136,Tryz.ntmps136
  go_wp2;exact hR.out _ _ ⟨rfl,rfl⟩
 ·go_enter Tryz.func136,Tryz.ntmps136
  go_wp2;exact hR.out _ _ ⟨by simp <;> rfl,rfl⟩
theorem Sw:OQ 136 137 138 (fun p q=>(p&&q)) andN (fun p q=>(p&&q)) (fun p q=>p∧q) where
 c1:=JW
 c2:=fun vi vf ui uf I F J G m w hm h1 h2 l1 l2 l3 l4=>Ej vi vf ui uf I F J G m w hm h1 h2 zo zo zo zo
 c3:=fun v0 v1 A B m w hm ht hA hB hF=>Gz v0 v1 A B m w hm ht hA hB hF
 e1:=fun _ _=>by go_simp
 e2:=fun _ _=>by go_simp
 e3:=fun _ _=>by go_simp
 ok:=fun hx hy=>Ic hx hy
 has:=fun hx hy u=>CL hx hy u
 le:=fun hx hy=>(Ox hx hy).mono zo
 bp:=by intro p q;cases p <;> cases q <;> simp
 lp:=by intro p q;cases p <;> cases q <;> simp
theorem Mh (vi vf vt:Value) (A:RS) (ui uf ut:Value) (B:RS) (na ta nb tb:Nat) (m:Mem) (w:World) (hm:m.inn w) (htab:TabM m) (ha:ScAt m vi vf vt A) (hb:ScAt m ui uf ut B) (la:ScLe A na ta) (lb:ScLe B nb tb) (hn1:na≤250) (hn2:nb≤250) (ht:(ta+2)*(tb+2)≤1000000) :
 Calls Tryz.prog 80 #[A.val vi vf vt,B.val ui uf ut] w fun e w'=>∃s si sf st,e=.returned (s.val si sf st)∧Below w.heap.size w w'∧ScAt (m.grow w w') si sf st s∧ScIs (fun e=>(dJ A).has e∧(dJ B).has e) s∧ScLe s (na+nb+4) ((ta+2)*(tb+2)+1):=by
 have hO:=(((Own.start hm).al #[.bool A.nul,.bool A.fal,.bool A.tru,vi,vf,vt] 29).al #[.bool B.nul,.bool B.fal,.bool B.tru,ui,uf,ut] 29).al #[.bool false,.bool false,.bool false,.slice none 0 0,.slice none 0 0,.slice none 0 0] 29;simp only[bZ] at hO;have HC:=zh (Ao Sw vi vf vt A ui uf ut B na ta nb tb m _ hO.inn htab ha hb la lb hn1 hn2 ht);obtain⟨aa,ab,ac,ad,ae,af,rfl,rfl,rfl⟩:=ha.spell;obtain⟨ba,bb,bc,bd,be,bf,rfl,rfl,rfl⟩:=hb.spell;unfold RS.val at HC ⊢;have HO:=zh hO;clear hO ha hb la lb;refine aj fun R hR=>?_
 go_enter Tryz.func80,Tryz.ntmps80
 go_wp2_with fail
 refine HC.out.mono ?_;rintro e w1 ⟨s,si,sf,st,rfl,hb1,hs,hS,hL⟩;obtain⟨ra,rb,rc,rd,re,rf,rfl,rfl,rfl⟩:=hs.spell;have hO1:=HO.out.call hb1;obtain⟨p0,p1,p2,p3,p4,p5,pf0,pf1,pf2,pf3,pf4,pf5⟩:=hO1.obj.cf6;have pl:=hO1.obj.lt;have hO4:=((((((hO1.set 0 (.bool s.nul)).set 1 (.bool s.fal)).set 2 (.bool s.tru)).set 3 (.slice ra s.i.length rb)).set 4 (.slice rc s.f.length rd)).set 5 (.slice re s.t.length rf));obtain⟨g0,g1,g2,g3,g4,g5⟩:=hO4.obj.cs6;have gl:=hO4.obj.lt;have Hk:=zh (zi hO4.below (zi (hs.le hO4.done) (zi hS hL)));clear hO1 hO4 hs hS hL HC HO hb1;go_wp2;refine yQ (v:=.agg #[.bool s.nul,.bool s.fal,.bool s.tru,.slice ra s.i.length rb,.slice rc s.f.length rd,.slice re s.t.length rf]) (by simp[results,Tryz.results80,go_sem,g0,g1,g2,g3,g4,g5]) rfl ?_;exact hR.out _ _ ⟨s,_,_,_,rfl,Hk.out.1,Hk.out.2.1,Hk.out.2.2.1,Hk.out.2.2.2⟩
theorem Dy (p q:Bool) (w:World):Calls Tryz.prog 200 #[.bool p,.bool q] w fun e w'=>e=.returned (.bool (p && !q))∧w'=w:=by
 refine aj fun R hR=>?_;cases p
 ·go_enter Tryz.func200,Tryz.ntmps200
  go_wp2;exact hR.out _ _ ⟨rfl,rfl⟩
 ·go_enter Tryz.func200,Tryz.ntmps200
  go_wp2;exact hR.out _ _ ⟨by simp <;> rfl,rfl⟩
theorem QQ:OQ 200 159 161 (fun p q=>(p && !q)) bY (fun p q=>(p && !q)) (fun p q=>p∧¬ q) where
 c1:=Dy
 c2:=fun vi vf ui uf I F J G m w hm h1 h2 l1 l2 l3 l4=>qy vi vf I F ui uf J G m w hm h1 h2 zo zo zo zo
 c3:=fun v0 v1 A B m w hm ht hA hB hF=>kr v0 v1 A B m w hm ht hA hB hF
 e1:=fun _ _=>by go_simp
 e2:=fun _ _=>by go_simp
 e3:=fun _ _=>by go_simp
 ok:=fun hx hy=>dX hx hy
 has:=fun hx hy u=>eO hx hy u
 le:=fun hx hy=>(nW hx hy).mono zo
 bp:=by intro p q;cases p <;> cases q <;> simp
 lp:=by intro p q;cases p <;> cases q <;> simp
theorem ww (vi vf vt:Value) (A:RS) (ui uf ut:Value) (B:RS) (na ta nb tb:Nat) (m:Mem) (w:World) (hm:m.inn w) (htab:TabM m) (ha:ScAt m vi vf vt A) (hb:ScAt m ui uf ut B) (la:ScLe A na ta) (lb:ScLe B nb tb) (hn1:na≤250) (hn2:nb≤250) (ht:(ta+2)*(tb+2)≤1000000) :
 Calls Tryz.prog 130 #[A.val vi vf vt,B.val ui uf ut] w fun e w'=>∃s si sf st,e=.returned (s.val si sf st)∧Below w.heap.size w w'∧ScAt (m.grow w w') si sf st s∧ScIs (fun e=>(dJ A).has e∧¬ (dJ B).has e) s∧ScLe s (na+nb+4) ((ta+2)*(tb+2)+1):=by
 have hO:=(((Own.start hm).al #[.bool A.nul,.bool A.fal,.bool A.tru,vi,vf,vt] 29).al #[.bool B.nul,.bool B.fal,.bool B.tru,ui,uf,ut] 29).al #[.bool false,.bool false,.bool false,.slice none 0 0,.slice none 0 0,.slice none 0 0] 29;simp only[bZ] at hO;have HC:=zh (Ao QQ vi vf vt A ui uf ut B na ta nb tb m _ hO.inn htab ha hb la lb hn1 hn2 ht);obtain⟨aa,ab,ac,ad,ae,af,rfl,rfl,rfl⟩:=ha.spell;obtain⟨ba,bb,bc,bd,be,bf,rfl,rfl,rfl⟩:=hb.spell;unfold RS.val at HC ⊢;have HO:=zh hO;clear hO ha hb la lb;refine aj fun R hR=>?_
 go_enter Tryz.func130,Tryz.ntmps130
 go_wp2_with fail
 refine HC.out.mono ?_;rintro e w1 ⟨s,si,sf,st,rfl,hb1,hs,hS,hL⟩;obtain⟨ra,rb,rc,rd,re,rf,rfl,rfl,rfl⟩:=hs.spell;have hO1:=HO.out.call hb1;obtain⟨p0,p1,p2,p3,p4,p5,pf0,pf1,pf2,pf3,pf4,pf5⟩:=hO1.obj.cf6;have pl:=hO1.obj.lt;have hO4:=((((((hO1.set 0 (.bool s.nul)).set 1 (.bool s.fal)).set 2 (.bool s.tru)).set 3 (.slice ra s.i.length rb)).set 4 (.slice rc s.f.length rd)).set 5 (.slice re s.t.length rf));obtain⟨g0,g1,g2,g3,g4,g5⟩:=hO4.obj.cs6;have gl:=hO4.obj.lt;have Hk:=zh (zi hO4.below (zi (hs.le hO4.done) (zi hS hL)));clear hO1 hO4 hs hS hL HC HO hb1;go_wp2;refine yQ (v:=.agg #[.bool s.nul,.bool s.fal,.bool s.tru,.slice ra s.i.length rb,.slice rc s.f.length rd,.slice re s.t.length rf]) (by simp[results,Tryz.results130,go_sem,g0,g1,g2,g3,g4,g5]) rfl ?_;exact hR.out _ _ ⟨s,_,_,_,rfl,Hk.out.1,Hk.out.2.1,Hk.out.2.2.1,Hk.out.2.2.2⟩
def typS (n:List UInt8):RS:=
 if n=[110,117,108,108] then ⟨true,false,false,[],[],[]⟩ else if n=[98,111,111,108] then ⟨false,true,true,[],[],[]⟩ else if n=[105,110,116] then ⟨false,false,false,iw,[],[]⟩
 else if n=[110,117,109,98,101,114] then ⟨false,false,false,iw,uZ,[]⟩ else if n=[115,116,114,105,110,103] then ⟨false,false,false,[],[],allT⟩ else dY
def typE (n:List UInt8):Int:=if n=[110,117,108,108]∨n=[98,111,111,108]∨n=[105,110,116]∨n=[110,117,109,98,101,114]∨n=[115,116,114,105,110,103] then 0 else 5
theorem JV (n:ByteArray) (m:Mem) (w:World) (hm:m.inn w) :
 Calls Tryz.prog 79 #[.string n] w fun e w'=>∃si sf st,e=.returned (.tuple #[(typS n.toList).val si sf st,.int .i64 (typE n.toList)])∧Below w.heap.size w w'∧ScAt (m.grow w w') si sf st (typS n.toList):=by
 have hO:=(Own.start hm).al #[.bool false,.bool false,.bool false,.slice none 0 0,.slice none 0 0,.slice none 0 0] 29;have HO:=zh hO;clear hO;refine aj fun R hR=>?_
 go_enter Tryz.func79,Tryz.ntmps79
 go_upto_region 1 with (fail)
 refine aI [2,4] (fun vs w'=>vs=[.pointer (some ⟨w.heap.size,0,none⟩),.string n]∧Own w m w' m [.obj w.heap.size 29 #[.bool false,.bool false,.bool false,.slice none 0 0,.slice none 0 0,.slice none 0 0]]) ?_ ?_
 ·intro Y hY;go_wp2;exact hY.out _ _ rfl ⟨rfl,HO.out⟩
 rintro z0 vs w0 - ⟨rfl,hO⟩;simp[litL,lk];have HI:=zh (AV m _ hO.inn);have HA:=zh (wX m _ hO.inn);have HL:=zh (Bz m _ hO.inn);clear HO;have HO:=zh hO;clear hO;by_cases h0:n.toList=[110,117,108,108]
 ·have b0:(n.toList==[110,117,108,108])=true:=by simp[h0]
  have HF:=zh (show typS n.toList=⟨true,false,false,[],[],[]⟩∧typE n.toList=0 from ⟨by unfold typS;simp[h0],by unfold typE;simp[h0]⟩);clear h0;have hO:=HO.out;have hS:ScAt m (.slice none 0 0) (.slice none 0 0) (.slice none 0 0) ⟨true,false,false,[],[],[]⟩:=⟨aV m,aV m,bC m⟩;clear HO HI HA HL;obtain⟨g0,g1,g2,g3,g4,g5,gf0,gf1,gf2,gf3,gf4,gf5⟩:=hO.obj.cf6;have gl:=hO.obj.lt;have hO2:Own _ _ _ _ (.obj _ 29 #[.bool true,.bool false,.bool false,.slice none 0 0,.slice none 0 0,.slice none 0 0]::_):=((((((hO.set 0 (.bool true)).set 1 (.bool false)).set 2 (.bool false)).set 3 (.slice none 0 0)).set 4 (.slice none 0 0)).set 5 (.slice none 0 0));obtain⟨k0,k1,k2,k3,k4,k5⟩:=hO2.obj.cs6;have Hk:=zh (zi hO2.below (hS.le hO2.done));clear hO hO2 hS;go_wp2;refine yQ (v:=.tuple #[.agg #[.bool true,.bool false,.bool false,.slice none 0 0,.slice none 0 0,.slice none 0 0],.int .i64 0]) (by simp[results,Tryz.results79,go_sem,k0,k1,k2,k3,k4,k5]) rfl ?_;exact hR.out _ _ ⟨_,_,_,by rw[HF.out.1,HF.out.2];rfl,Hk.out.1,by rw[HF.out.1];exact Hk.out.2⟩
 ·have b0:(n.toList==[110,117,108,108])=false:=by simp[h0]
  by_cases h1:n.toList=[98,111,111,108]
  ·have b1:(n.toList==[98,111,111,108])=true:=by simp[h1]
   have HF:=zh (show typS n.toList=⟨false,true,true,[],[],[]⟩∧typE n.toList=0 from ⟨by unfold typS;simp[h1],by unfold typE;simp[h1]⟩);clear h0 h1;have hO:=HO.out;have hS:ScAt m (.slice none 0 0) (.slice none 0 0) (.slice none 0 0) ⟨false,true,true,[],[],[]⟩:=⟨aV m,aV m,bC m⟩;clear HO HI HA HL;obtain⟨g0,g1,g2,g3,g4,g5,gf0,gf1,gf2,gf3,gf4,gf5⟩:=hO.obj.cf6;have gl:=hO.obj.lt;have hO2:Own _ _ _ _ (.obj _ 29 #[.bool false,.bool true,.bool true,.slice none 0 0,.slice none 0 0,.slice none 0 0]::_):=((((((hO.set 0 (.bool false)).set 1 (.bool true)).set 2 (.bool true)).set 3 (.slice none 0 0)).set 4 (.slice none 0 0)).set 5 (.slice none 0 0));obtain⟨k0,k1,k2,k3,k4,k5⟩:=hO2.obj.cs6;have Hk:=zh (zi hO2.below (hS.le hO2.done));clear hO hO2 hS;go_wp2;refine yQ (v:=.tuple #[.agg #[.bool false,.bool true,.bool true,.slice none 0 0,.slice none 0 0,.slice none 0 0],.int .i64 0]) (by simp[results,Tryz.results79,go_sem,k0,k1,k2,k3,k4,k5]) rfl ?_;exact hR.out _ _ ⟨_,_,_,by rw[HF.out.1,HF.out.2];rfl,Hk.out.1,by rw[HF.out.1];exact Hk.out.2⟩
  ·have b1:(n.toList==[98,111,111,108])=false:=by simp[h1]
   by_cases h2:n.toList=[105,110,116]
   ·have b2:(n.toList==[105,110,116])=true:=by simp[h2]
    have HF:=zh (show typS n.toList=⟨false,false,false,iw,[],[]⟩∧typE n.toList=0 from ⟨by unfold typS;simp[h2],by unfold typE;simp[h2]⟩);clear h0 h1 h2
    go_wp2_with fail
    refine HI.out.mono ?_;rintro e w1 ⟨ri,rfl,hb1,hr⟩;have hO:=HO.out.call hb1;have hS:ScAt _ ri (.slice none 0 0) (.slice none 0 0) ⟨false,false,false,iw,[],[]⟩:=⟨hr,aV _,bC _⟩;obtain⟨xa,xc,rfl⟩:=bO hr;clear HO HI HA HL hb1 hr;obtain⟨g0,g1,g2,g3,g4,g5,gf0,gf1,gf2,gf3,gf4,gf5⟩:=hO.obj.cf6;have gl:=hO.obj.lt;have hO2:Own _ _ _ _ (.obj _ 29 #[.bool false,.bool false,.bool false,.slice xa iw.length xc,.slice none 0 0,.slice none 0 0]::_):=((((((hO.set 0 (.bool false)).set 1 (.bool false)).set 2 (.bool false)).set 3 (.slice xa iw.length xc)).set 4 (.slice none 0 0)).set 5 (.slice none 0 0));obtain⟨k0,k1,k2,k3,k4,k5⟩:=hO2.obj.cs6;have Hk:=zh (zi hO2.below (hS.le hO2.done));clear hO hO2 hS;go_wp2;refine yQ (v:=.tuple #[.agg #[.bool false,.bool false,.bool false,.slice xa iw.length xc,.slice none 0 0,.slice none 0 0],.int .i64 0]) (by simp[results,Tryz.results79,go_sem,k0,k1,k2,k3,k4,k5]) rfl ?_;exact hR.out _ _ ⟨_,_,_,by rw[HF.out.1,HF.out.2];rfl,Hk.out.1,by rw[HF.out.1];exact Hk.out.2⟩
   ·have b2:(n.toList==[105,110,116])=false:=by simp[h2]
    by_cases h3:n.toList=[110,117,109,98,101,114]
    ·have b3:(n.toList==[110,117,109,98,101,114])=true:=by simp[h3]
     have HF:=zh (show typS n.toList=⟨false,false,false,iw,uZ,[]⟩∧typE n.toList=0 from ⟨by unfold typS;simp[h3],by unfold typE;simp[h3]⟩);clear h0 h1 h2 h3
     go_wp2_with fail
     refine HA.out.mono ?_;rintro e w1 ⟨ri,rf,rfl,hb1,hr⟩;have hO:=HO.out.call hb1;have hS:ScAt _ ri rf (.slice none 0 0) ⟨false,false,false,iw,uZ,[]⟩:=⟨hr.i,hr.f,bC _⟩;obtain⟨xa,xc,ya,yc,rfl,rfl⟩:=hr.spell;clear HO HI HA HL hb1 hr;obtain⟨g0,g1,g2,g3,g4,g5,gf0,gf1,gf2,gf3,gf4,gf5⟩:=hO.obj.cf6;have gl:=hO.obj.lt;have hO2:Own _ _ _ _ (.obj _ 29 #[.bool false,.bool false,.bool false,.slice xa iw.length xc,.slice ya uZ.length yc,.slice none 0 0]::_):=((((((hO.set 0 (.bool false)).set 1 (.bool false)).set 2 (.bool false)).set 3 (.slice xa iw.length xc)).set 4 (.slice ya uZ.length yc)).set 5 (.slice none 0 0));obtain⟨k0,k1,k2,k3,k4,k5⟩:=hO2.obj.cs6;have Hk:=zh (zi hO2.below (hS.le hO2.done));clear hO hO2 hS;go_wp2;refine yQ (v:=.tuple #[.agg #[.bool false,.bool false,.bool false,.slice xa iw.length xc,.slice ya uZ.length yc,.slice none 0 0],.int .i64 0]) (by simp[results,Tryz.results79,go_sem,k0,k1,k2,k3,k4,k5]) rfl ?_;exact hR.out _ _ ⟨_,_,_,by rw[HF.out.1,HF.out.2];rfl,Hk.out.1,by rw[HF.out.1];exact Hk.out.2⟩
    ·have b3:(n.toList==[110,117,109,98,101,114])=false:=by simp[h3]
     by_cases h4:n.toList=[115,116,114,105,110,103]
     ·have b4:(n.toList==[115,116,114,105,110,103])=true:=by simp[h4]
      have HF:=zh (show typS n.toList=⟨false,false,false,[],[],allT⟩∧typE n.toList=0 from ⟨by unfold typS;simp[h4],by unfold typE;simp[h4]⟩);clear h0 h1 h2 h3 h4
      go_wp2_with fail
      refine HL.out.mono ?_;rintro e w1 ⟨rt,rfl,hb1,hr⟩;have hO:=HO.out.call hb1;have hS:ScAt _ (.slice none 0 0) (.slice none 0 0) rt ⟨false,false,false,[],[],allT⟩:=⟨aV _,aV _,hr⟩;obtain⟨za,zc,rfl⟩:=fB hr;clear HO HI HA HL hb1 hr;obtain⟨g0,g1,g2,g3,g4,g5,gf0,gf1,gf2,gf3,gf4,gf5⟩:=hO.obj.cf6;have gl:=hO.obj.lt;have hO2:Own _ _ _ _ (.obj _ 29 #[.bool false,.bool false,.bool false,.slice none 0 0,.slice none 0 0,.slice za (List.length allT) zc]::_):=((((((hO.set 0 (.bool false)).set 1 (.bool false)).set 2 (.bool false)).set 3 (.slice none 0 0)).set 4 (.slice none 0 0)).set 5 (.slice za (List.length allT) zc));obtain⟨k0,k1,k2,k3,k4,k5⟩:=hO2.obj.cs6;have Hk:=zh (zi hO2.below (hS.le hO2.done));clear hO hO2 hS;go_wp2;refine yQ (v:=.tuple #[.agg #[.bool false,.bool false,.bool false,.slice none 0 0,.slice none 0 0,.slice za (List.length allT) zc],.int .i64 0]) (by simp[results,Tryz.results79,go_sem,k0,k1,k2,k3,k4,k5]) rfl ?_;exact hR.out _ _ ⟨_,_,_,by rw[HF.out.1,HF.out.2];rfl,Hk.out.1,by rw[HF.out.1];exact Hk.out.2⟩
     ·have b4:(n.toList==[115,116,114,105,110,103])=false:=by simp[h4]
      have HF:=zh (show typS n.toList=dY∧typE n.toList=5 from ⟨by unfold typS;simp[h0,h1,h2,h3,h4],by unfold typE;simp[h0,h1,h2,h3,h4]⟩);clear h0 h1 h2 h3 h4;have hO:=HO.out;have hS:ScAt m (.slice none 0 0) (.slice none 0 0) (.slice none 0 0) dY:=⟨aV m,aV m,bC m⟩;clear HO HI HA HL;obtain⟨g0,g1,g2,g3,g4,g5,gf0,gf1,gf2,gf3,gf4,gf5⟩:=hO.obj.cf6;have gl:=hO.obj.lt;have hO2:Own _ _ _ _ (.obj _ 29 #[.bool false,.bool false,.bool false,.slice none 0 0,.slice none 0 0,.slice none 0 0]::_):=((((((hO.set 0 (.bool false)).set 1 (.bool false)).set 2 (.bool false)).set 3 (.slice none 0 0)).set 4 (.slice none 0 0)).set 5 (.slice none 0 0));obtain⟨k0,k1,k2,k3,k4,k5⟩:=hO2.obj.cs6;have Hk:=zh (zi hO2.below (hS.le hO2.done));clear hO hO2 hS;go_wp2;refine yQ (v:=.tuple #[.agg #[.bool false,.bool false,.bool false,.slice none 0 0,.slice none 0 0,.slice none 0 0],.int .i64 5]) (by simp[results,Tryz.results79,go_sem,k0,k1,k2,k3,k4,k5]) rfl ?_;exact hR.out _ _ ⟨_,_,_,by rw[HF.out.1,HF.out.2];rfl,Hk.out.1,by rw[HF.out.1];exact Hk.out.2⟩
def lstD:Option El→Dt
 | none=>.mk 0 0 ⟨#[]⟩ [] [] []
 | some e=>elDt e
def ostr (o:Option (List UInt8)):ByteArray:=match o with | some x=>bstr x | none=>⟨#[]⟩
theorem MF (o:Option (List UInt8)):optV o=.tuple #[.string (ostr o),.bool o.isSome]:=rfl
theorem xC {x:RS} (h0:x.nul=false) (h1:x.fal=false) (h2:x.tru=false) (h3:bR x.ns=none) {r:Option (List UInt8)} (h:fT (Sem x.t) r):fJ x.has (r.map .str):=Kw h0 h1 h2 h3 h
theorem mJ (vi vf vt:Value) (s:RS) (m:Mem) (w:World) (hm:m.inn w) (htab:TabM m) (hs:ScAt m vi vf vt s) (hl:ScLe s 30000 100000) :
 Calls Tryz.prog 48 #[s.val vi vf vt] w fun e w'=>∃r,e=.returned (.tuple #[(lstD r).val (.slice none 0 0) (.slice none 0 0),.bool r.isSome])∧Below w.heap.size w w'∧fJ (dJ s).has r:=by
 have hO:=((Own.start hm).al #[.bool s.nul,.bool s.fal,.bool s.tru,vi,vf,vt] 29).al #[.int .i64 0,.int .i64 0,.string ⟨#[]⟩,.slice none 0 0,.slice none 0 0] 68;simp only[bZ] at hO;have HG:=zh (sZ vi vf vt s m _ hO.inn htab hs (hl.mono zo zo));have lx:=rP hl;obtain⟨a1,b1,a2,b2,a3,b3,rfl,rfl,rfl⟩:=hs.spell;unfold RS.val at HG ⊢;have HO:=zh hO;clear hO hs hl;generalize dJ s=x at *
 have HC:=zh (zi (fun h:x.nul=true=>Ba h) (zi (fun (h:x.nul=false) (h1:x.fal=true)=>Bb h h1) (zi (fun (h:x.nul=false) (h1:x.fal=false) (h2:x.tru=true)=>A8 h h1 h2)
  (zi (fun (h:x.nul=false) (h1:x.fal=false) (h2:x.tru=false) u (h3:bR x.ns=some u)=>A9 h h1 h2 h3) (fun (h:x.nul=false) (h1:x.fal=false) (h2:x.tru=false) (h3:bR x.ns=none) r (h4:fT (Sem x.t) r)=>xC h h1 h2 h3 h4)))))
 have hli:=lx.i;have hlf:=lx.f;have hlt:=lx.t;clear lx;refine aj fun R hR=>?_
 go_enter Tryz.func48,Tryz.ntmps48
 go_wp2_with fail
 refine HG.out.mono ?_;rintro e w1 ⟨ri,rf,rt,rfl,hb1,hx⟩;have hO1:=(HO.out.call hb1).swap;obtain⟨ra,rb,rc,rd,re,rf',rfl,rfl,rfl⟩:=hx.spell;obtain⟨p0,p1,p2,p3,p4,p5,pf0,pf1,pf2,pf3,pf4,pf5⟩:=hO1.obj.cf6;have pl:=hO1.obj.lt;have hO2:=((((((hO1.set 0 (.bool x.nul)).set 1 (.bool x.fal)).set 2 (.bool x.tru)).set 3 (.slice ra x.i.length rb)).set 4 (.slice rc x.f.length rd)).set 5 (.slice re x.t.length rf'));have hO2:Own _ _ _ _ (.obj _ 29 #[.bool x.nul,.bool x.fal,.bool x.tru,.slice ra x.i.length rb,.slice rc x.f.length rd,.slice re x.t.length rf']::_):=hO2;have HN:=zh (qz _ _ x.i x.f _ _ hO2.inn hx.nums hli hlf);have HL:=zh (fun w' (h:Mem.inn _ w')=>mQ _ x.t _ w' h (htab.le (Mem.dF HO.out.inn)) hx.t zo);have HO2:=zh hO2;generalize hns:bR (mkN x.i x.f)=rn at *
 have hns2:bR x.ns=rn:=hns;rw[hns2] at HC;clear hO1 hO2 HG HO hb1 hx htab hns hns2
 go_wp2_with fail
 refine HN.out.mono ?_;rintro e w2 ⟨rfl,hb2⟩;have hO:=HO2.out.move hb2;have q5:=hO.obj.c 5;have q6:=hO.obj.lt;have HO:=zh hO;clear hO HN HO2 hb2 p0 p1 p2 p3 p4 p5 pf0 pf1 pf2 pf3 pf4 pf5 pl
 go_wp2_with fail
 refine (HL.out _ HO.out.inn).mono ?_;rintro e w3 ⟨o,rfl,hb3,ho⟩;rw[MF];have hO:=HO.out.move hb3;have HOS:=zh ho;have q0:=hO.obj.c 0;have q1:=hO.obj.c 1;have q2:=hO.obj.c 2;have q6:=hO.obj.lt;have hO:=hO.swap;clear HL HO hb3 ho q5;generalize x.nul=bn at *
 generalize x.fal=bf at *
 generalize x.tru=bt at *
 cases bn with
 | true=>
  obtain⟨g0,g1,g2,g3,g4,f0,f1,f2,f3,f4⟩:=hO.obj.cf5;have gl:=hO.obj.lt;have hO2:=((((hO.set 0 (.int .i64 1)).set 1 (.int .i64 0)).set 2 (.string ⟨#[]⟩)).set 3 (.slice none 0 0)).set 4 (.slice none 0 0);have hO2:Own _ _ _ _ (.obj _ 68 #[.int .i64 1,.int .i64 0,.string ⟨#[]⟩,.slice none 0 0,.slice none 0 0]::_):=hO2;obtain⟨k0,k1,k2,k3,k4⟩:=hO2.obj.cs5;have Hk:=zh (zi hO2.below (HC.out.1 rfl));clear hO hO2;go_wp2;refine yQ (v:=.tuple #[.agg #[.int .i64 1,.int .i64 0,.string ⟨#[]⟩,.slice none 0 0,.slice none 0 0],.bool true]) (by simp[results,Tryz.results48,go_sem,k0,k1,k2,k3,k4]) rfl ?_
  exact hR.out _ _ ⟨some .nul,rfl,Hk.out.1,Hk.out.2⟩
 | false=>
  cases bf with
  | true=>
   obtain⟨g0,g1,g2,g3,g4,f0,f1,f2,f3,f4⟩:=hO.obj.cf5;have gl:=hO.obj.lt;have hO2:=((((hO.set 0 (.int .i64 2)).set 1 (.int .i64 0)).set 2 (.string ⟨#[]⟩)).set 3 (.slice none 0 0)).set 4 (.slice none 0 0);have hO2:Own _ _ _ _ (.obj _ 68 #[.int .i64 2,.int .i64 0,.string ⟨#[]⟩,.slice none 0 0,.slice none 0 0]::_):=hO2;obtain⟨k0,k1,k2,k3,k4⟩:=hO2.obj.cs5;have Hk:=zh (zi hO2.below (HC.out.2.1 rfl rfl));clear hO hO2;go_wp2;refine yQ (v:=.tuple #[.agg #[.int .i64 2,.int .i64 0,.string ⟨#[]⟩,.slice none 0 0,.slice none 0 0],.bool true]) (by simp[results,Tryz.results48,go_sem,k0,k1,k2,k3,k4]) rfl ?_
   exact hR.out _ _ ⟨some .fal,rfl,Hk.out.1,Hk.out.2⟩
  | false=>
   cases bt with
   | true=>
    obtain⟨g0,g1,g2,g3,g4,f0,f1,f2,f3,f4⟩:=hO.obj.cf5;have gl:=hO.obj.lt;have hO2:=((((hO.set 0 (.int .i64 2)).set 1 (.int .i64 1)).set 2 (.string ⟨#[]⟩)).set 3 (.slice none 0 0)).set 4 (.slice none 0 0);have hO2:Own _ _ _ _ (.obj _ 68 #[.int .i64 2,.int .i64 1,.string ⟨#[]⟩,.slice none 0 0,.slice none 0 0]::_):=hO2;obtain⟨k0,k1,k2,k3,k4⟩:=hO2.obj.cs5;have Hk:=zh (zi hO2.below (HC.out.2.2.1 rfl rfl rfl));clear hO hO2;go_wp2;refine yQ (v:=.tuple #[.agg #[.int .i64 2,.int .i64 1,.string ⟨#[]⟩,.slice none 0 0,.slice none 0 0],.bool true]) (by simp[results,Tryz.results48,go_sem,k0,k1,k2,k3,k4]) rfl ?_
    exact hR.out _ _ ⟨some .tru,rfl,Hk.out.1,Hk.out.2⟩
   | false=>
    cases rn with
    | some u=>
     obtain⟨g0,g1,g2,g3,g4,f0,f1,f2,f3,f4⟩:=hO.obj.cf5;have gl:=hO.obj.lt;have hO2:=((((hO.set 0 (.int .i64 3)).set 1 (.int .i64 u)).set 2 (.string ⟨#[]⟩)).set 3 (.slice none 0 0)).set 4 (.slice none 0 0);have hO2:Own _ _ _ _ (.obj _ 68 #[.int .i64 3,.int .i64 u,.string ⟨#[]⟩,.slice none 0 0,.slice none 0 0]::_):=hO2;obtain⟨k0,k1,k2,k3,k4⟩:=hO2.obj.cs5;have Hk:=zh (zi hO2.below (HC.out.2.2.2.1 rfl rfl rfl u rfl));clear hO hO2;go_wp2;refine yQ (v:=.tuple #[.agg #[.int .i64 3,.int .i64 u,.string ⟨#[]⟩,.slice none 0 0,.slice none 0 0],.bool true]) (by simp[results,Tryz.results48,go_sem,k0,k1,k2,k3,k4]) rfl ?_
     exact hR.out _ _ ⟨some (.num u),rfl,Hk.out.1,Hk.out.2⟩
    | none=>
     cases o with
     | some z=>
      have hz:ostr (some z)=bstr z:=rfl;rw[hz];obtain⟨g0,g1,g2,g3,g4,f0,f1,f2,f3,f4⟩:=hO.obj.cf5;have gl:=hO.obj.lt;have hO2:=((((hO.set 0 (.int .i64 4)).set 1 (.int .i64 0)).set 2 (.string (bstr z))).set 3 (.slice none 0 0)).set 4 (.slice none 0 0);have hO2:Own _ _ _ _ (.obj _ 68 #[.int .i64 4,.int .i64 0,.string (bstr z),.slice none 0 0,.slice none 0 0]::_):=hO2;obtain⟨k0,k1,k2,k3,k4⟩:=hO2.obj.cs5;have Hk:=zh (zi hO2.below (HC.out.2.2.2.2 rfl rfl rfl rfl (some z) HOS.out));clear hO hO2;go_wp2;refine yQ (v:=.tuple #[.agg #[.int .i64 4,.int .i64 0,.string (bstr z),.slice none 0 0,.slice none 0 0],.bool true]) (by simp[results,Tryz.results48,go_sem,k0,k1,k2,k3,k4]) rfl ?_
      exact hR.out _ _ ⟨some (.str z),rfl,Hk.out.1,Hk.out.2⟩
     | none=>
      have hz:ostr none=⟨#[]⟩:=rfl;rw[hz];obtain⟨g0,g1,g2,g3,g4,f0,f1,f2,f3,f4⟩:=hO.obj.cf5;have gl:=hO.obj.lt;have hO2:=((((hO.set 0 (.int .i64 0)).set 1 (.int .i64 0)).set 2 (.string ⟨#[]⟩)).set 3 (.slice none 0 0)).set 4 (.slice none 0 0);have hO2:Own _ _ _ _ (.obj _ 68 #[.int .i64 0,.int .i64 0,.string ⟨#[]⟩,.slice none 0 0,.slice none 0 0]::_):=hO2;obtain⟨k0,k1,k2,k3,k4⟩:=hO2.obj.cs5;have Hk:=zh (zi hO2.below (HC.out.2.2.2.2 rfl rfl rfl rfl none HOS.out));clear hO hO2;go_wp2;refine yQ (v:=.tuple #[.agg #[.int .i64 0,.int .i64 0,.string ⟨#[]⟩,.slice none 0 0,.slice none 0 0],.bool false]) (by simp[results,Tryz.results48,go_sem,k0,k1,k2,k3,k4]) rfl ?_;exact hR.out _ _ ⟨none,rfl,Hk.out.1,Hk.out.2⟩
theorem uD (vi vf vt:Value) (s:RS) (m:Mem) (w:World) (hm:m.inn w) (htab:TabM m) (hs:ScAt m vi vf vt s) (hl:ScLe s 30000 100000) :
 Calls Tryz.prog 49 #[s.val vi vf vt] w fun e w'=>∃r,e=.returned (.tuple #[(lstD r).val (.slice none 0 0) (.slice none 0 0),.bool r.isSome])∧Below w.heap.size w w'∧fJ (dJ s).has r:=by
 have hO:=((Own.start hm).al #[.bool s.nul,.bool s.fal,.bool s.tru,vi,vf,vt] 29).al #[.int .i64 0,.int .i64 0,.string ⟨#[]⟩,.slice none 0 0,.slice none 0 0] 68;simp only[bZ] at hO;have HG:=zh (y7 vi vf vt s m _ hO.inn htab hs (hl.mono zo zo));have lx:=rP hl;obtain⟨a1,b1,a2,b2,a3,b3,rfl,rfl,rfl⟩:=hs.spell;unfold RS.val at HG ⊢;have HO:=zh hO;clear hO hs hl htab;generalize dJ s=x at *
 have HC:=zh (zi (fun h:x.nul=true=>Ba h) (zi (fun (h:x.nul=false) (h1:x.fal=true)=>Bb h h1) (zi (fun (h:x.nul=false) (h1:x.fal=false) (h2:x.tru=true)=>A8 h h1 h2)
  (zi (fun (h:x.nul=false) (h1:x.fal=false) (h2:x.tru=false) u (h3:bR x.ns=some u)=>A9 h h1 h2 h3) (fun (h:x.nul=false) (h1:x.fal=false) (h2:x.tru=false) (h3:bR x.ns=none) r (h4:fT (Sem x.t) r)=>xC h h1 h2 h3 h4)))))
 have hli:=lx.i;have hlf:=lx.f;have hlt:=lx.t;clear lx;refine aj fun R hR=>?_
 go_enter Tryz.func49,Tryz.ntmps49
 go_wp2_with fail
 refine HG.out.mono ?_;rintro e w1 ⟨ri,rf,rt,rfl,hb1,hx⟩;have hO1:=HO.out.call hb1;obtain⟨ra,rb,rc,rd,re,rf',rfl,rfl,rfl⟩:=hx.spell;have hO2:=(hO1.al #[.bool x.nul,.bool x.fal,.bool x.tru,.slice ra x.i.length rb,.slice rc x.f.length rd,.slice re x.t.length rf'] 29).swap;have HN:=zh (fun w' (h:Mem.inn _ w')=>uF _ _ x.i x.f _ w' h hx.nums zo zo);have HL:=zh (fun w' (h:Mem.inn _ w')=>nT _ x.t _ w' h hx.t zo);generalize m.grow _ w1=mk at *
 have q0:=hO2.swap.obj.c 0;have HO2:=zh hO2;generalize hns:bR (mkN x.i x.f)=rn at *
 have hns2:bR x.ns=rn:=hns;rw[hns2] at HC;generalize x.nul=bn at *
 generalize x.fal=bf at *
 generalize x.tru=bt at *
 clear hO1 HG HO hb1 hx hns hns2
 cases bn with
 | true=>
  have hO:=hO2;clear hO2 HN HL;obtain⟨g0,g1,g2,g3,g4,f0,f1,f2,f3,f4⟩:=hO.obj.cf5;have gl:=hO.obj.lt;have hO2:=((((hO.set 0 (.int .i64 1)).set 1 (.int .i64 0)).set 2 (.string ⟨#[]⟩)).set 3 (.slice none 0 0)).set 4 (.slice none 0 0);have hO2:Own _ _ _ _ (.obj _ 68 #[.int .i64 1,.int .i64 0,.string ⟨#[]⟩,.slice none 0 0,.slice none 0 0]::_):=hO2;obtain⟨k0,k1,k2,k3,k4⟩:=hO2.obj.cs5;have Hk:=zh (zi hO2.below (HC.out.1 rfl));clear hO hO2;go_wp2;refine yQ (v:=.tuple #[.agg #[.int .i64 1,.int .i64 0,.string ⟨#[]⟩,.slice none 0 0,.slice none 0 0],.bool true]) (by simp[results,Tryz.results49,go_sem,k0,k1,k2,k3,k4]) rfl ?_
  exact hR.out _ _ ⟨some .nul,rfl,Hk.out.1,Hk.out.2⟩
 | false=>
  cases bf with
  | true=>
   have hO:=hO2;clear hO2 HN HL;obtain⟨g0,g1,g2,g3,g4,f0,f1,f2,f3,f4⟩:=hO.obj.cf5;have gl:=hO.obj.lt;have hO2:=((((hO.set 0 (.int .i64 2)).set 1 (.int .i64 0)).set 2 (.string ⟨#[]⟩)).set 3 (.slice none 0 0)).set 4 (.slice none 0 0);have hO2:Own _ _ _ _ (.obj _ 68 #[.int .i64 2,.int .i64 0,.string ⟨#[]⟩,.slice none 0 0,.slice none 0 0]::_):=hO2;obtain⟨k0,k1,k2,k3,k4⟩:=hO2.obj.cs5;have Hk:=zh (zi hO2.below (HC.out.2.1 rfl rfl));clear hO hO2;go_wp2;refine yQ (v:=.tuple #[.agg #[.int .i64 2,.int .i64 0,.string ⟨#[]⟩,.slice none 0 0,.slice none 0 0],.bool true]) (by simp[results,Tryz.results49,go_sem,k0,k1,k2,k3,k4]) rfl ?_
   exact hR.out _ _ ⟨some .fal,rfl,Hk.out.1,Hk.out.2⟩
  | false=>
   cases bt with
   | true=>
    have hO:=hO2;clear hO2 HN HL;obtain⟨g0,g1,g2,g3,g4,f0,f1,f2,f3,f4⟩:=hO.obj.cf5;have gl:=hO.obj.lt;have hO2:=((((hO.set 0 (.int .i64 2)).set 1 (.int .i64 1)).set 2 (.string ⟨#[]⟩)).set 3 (.slice none 0 0)).set 4 (.slice none 0 0);have hO2:Own _ _ _ _ (.obj _ 68 #[.int .i64 2,.int .i64 1,.string ⟨#[]⟩,.slice none 0 0,.slice none 0 0]::_):=hO2;obtain⟨k0,k1,k2,k3,k4⟩:=hO2.obj.cs5;have Hk:=zh (zi hO2.below (HC.out.2.2.1 rfl rfl rfl));clear hO hO2;go_wp2;refine yQ (v:=.tuple #[.agg #[.int .i64 2,.int .i64 1,.string ⟨#[]⟩,.slice none 0 0,.slice none 0 0],.bool true]) (by simp[results,Tryz.results49,go_sem,k0,k1,k2,k3,k4]) rfl ?_
    exact hR.out _ _ ⟨some .tru,rfl,Hk.out.1,Hk.out.2⟩
   | false=>
    have HC4:=zh (fun u (h:rn=some u)=>HC.out.2.2.2.1 rfl rfl rfl u h);have HC5:=zh (fun (h:rn=none) r (h4:fT (Sem x.t) r)=>HC.out.2.2.2.2 rfl rfl rfl h r h4);clear hO2 HC
    go_wp2_with fail
    refine (HN.out _ HO2.out.inn).mono ?_;rintro e w2 ⟨rfl,hb2⟩;have hO:=HO2.out.move hb2;clear HN HO2 hb2 q0
    cases rn with
    | some u=>
     clear HL;obtain⟨g0,g1,g2,g3,g4,f0,f1,f2,f3,f4⟩:=hO.obj.cf5;have gl:=hO.obj.lt;have hO2:=((((hO.set 0 (.int .i64 3)).set 1 (.int .i64 u)).set 2 (.string ⟨#[]⟩)).set 3 (.slice none 0 0)).set 4 (.slice none 0 0);have hO2:Own _ _ _ _ (.obj _ 68 #[.int .i64 3,.int .i64 u,.string ⟨#[]⟩,.slice none 0 0,.slice none 0 0]::_):=hO2;obtain⟨k0,k1,k2,k3,k4⟩:=hO2.obj.cs5;have Hk:=zh (zi hO2.below (HC4.out u rfl));clear hO hO2;go_wp2;refine yQ (v:=.tuple #[.agg #[.int .i64 3,.int .i64 u,.string ⟨#[]⟩,.slice none 0 0,.slice none 0 0],.bool true]) (by simp[results,Tryz.results49,go_sem,k0,k1,k2,k3,k4]) rfl ?_
     exact hR.out _ _ ⟨some (.num u),rfl,Hk.out.1,Hk.out.2⟩
    | none=>
     have HC6:=zh (fun r (h4:fT (Sem x.t) r)=>HC5.out rfl r h4);clear HC4 HC5;have q5:=hO.swap.obj.c 5;have q6:=hO.swap.obj.lt;have HO:=zh hO;clear hO
     go_wp2_with fail
     refine (HL.out _ HO.out.inn).mono ?_;rintro e w3 ⟨o,rfl,hb3,ho⟩;rw[MF];have hO:=HO.out.move hb3;have HOS:=zh ho;clear HL HO hb3 ho q5 q6
     cases o with
     | some z=>
      have hz:ostr (some z)=bstr z:=rfl;rw[hz];obtain⟨g0,g1,g2,g3,g4,f0,f1,f2,f3,f4⟩:=hO.obj.cf5;have gl:=hO.obj.lt;have hO2:=((((hO.set 0 (.int .i64 4)).set 1 (.int .i64 0)).set 2 (.string (bstr z))).set 3 (.slice none 0 0)).set 4 (.slice none 0 0);have hO2:Own _ _ _ _ (.obj _ 68 #[.int .i64 4,.int .i64 0,.string (bstr z),.slice none 0 0,.slice none 0 0]::_):=hO2;obtain⟨k0,k1,k2,k3,k4⟩:=hO2.obj.cs5;have Hk:=zh (zi hO2.below (HC6.out (some z) HOS.out));clear hO hO2;go_wp2;refine yQ (v:=.tuple #[.agg #[.int .i64 4,.int .i64 0,.string (bstr z),.slice none 0 0,.slice none 0 0],.bool true]) (by simp[results,Tryz.results49,go_sem,k0,k1,k2,k3,k4]) rfl ?_
      exact hR.out _ _ ⟨some (.str z),rfl,Hk.out.1,Hk.out.2⟩
     | none=>
      have hz:ostr none=⟨#[]⟩:=rfl;rw[hz];obtain⟨g0,g1,g2,g3,g4,f0,f1,f2,f3,f4⟩:=hO.obj.cf5;have gl:=hO.obj.lt;have hO2:=((((hO.set 0 (.int .i64 0)).set 1 (.int .i64 0)).set 2 (.string ⟨#[]⟩)).set 3 (.slice none 0 0)).set 4 (.slice none 0 0);have hO2:Own _ _ _ _ (.obj _ 68 #[.int .i64 0,.int .i64 0,.string ⟨#[]⟩,.slice none 0 0,.slice none 0 0]::_):=hO2;obtain⟨k0,k1,k2,k3,k4⟩:=hO2.obj.cs5;have Hk:=zh (zi hO2.below (HC6.out none HOS.out));clear hO hO2;go_wp2;refine yQ (v:=.tuple #[.agg #[.int .i64 0,.int .i64 0,.string ⟨#[]⟩,.slice none 0 0,.slice none 0 0],.bool false]) (by simp[results,Tryz.results49,go_sem,k0,k1,k2,k3,k4]) rfl ?_;exact hR.out _ _ ⟨none,rfl,Hk.out.1,Hk.out.2⟩
theorem Ey {s:RS} {r:Option El} (h:fJ (dJ s).has r):Bi s = !r.isSome:=by
 cases r with
 | none=>rw[GN h];rfl
 | some e=>rw[GM h];rfl
theorem wz (vi vf vt:Value) (s:RS) (m:Mem) (w:World) (hm:m.inn w) (htab:TabM m) (hs:ScAt m vi vf vt s) (hl:ScLe s 30000 100000) :
 Calls Tryz.prog 57 #[s.val vi vf vt] w fun e w'=>e=.returned (.bool (Bi s))∧Below w.heap.size w w':=by
 have hO:=(Own.start hm).al #[.bool s.nul,.bool s.fal,.bool s.tru,vi,vf,vt] 29;have HL:=zh (mJ vi vf vt s m _ hO.inn htab hs hl);obtain⟨a1,b1,a2,b2,a3,b3,rfl,rfl,rfl⟩:=hs.spell;unfold RS.val at HL ⊢;have HO:=zh hO;clear hO hs;refine aj fun R hR=>?_
 go_enter Tryz.func57,Tryz.ntmps57
 go_wp2_with fail
 refine HL.out.mono ?_;rintro e w1 ⟨r,rfl,hb1,hr⟩;have HE:=zh (Ey hr);have HB:=zh (HO.out.move hb1).below;unfold Dt.val;generalize r.isSome=b at *
 generalize (lstD r).kind=k at *
 generalize (lstD r).num=n at *
 generalize (lstD r).str=st at *
 clear HO HL hb1 hr;go_wp2;exact hR.out _ _ ⟨aL (by rw[HE.out]),aR HB.out _⟩
theorem uA (vi vf vt:Value) (A:RS) (ui uf ut:Value) (B:RS) (na ta nb tb:Nat) (m:Mem) (w:World) (hm:m.inn w) (htab:TabM m) (ha:ScAt m vi vf vt A) (hb:ScAt m ui uf ut B) (la:ScLe A na ta) (lb:ScLe B nb tb) (hn1:na≤250) (hn2:nb≤250) (ht:(ta+2)*(tb+2)≤99999) :
 Calls Tryz.prog 85 #[A.val vi vf vt,B.val ui uf ut] w fun e w'=>e=.returned (.bool (subB A B))∧Below w.heap.size w w':=by
 have hO:=((Own.start hm).al #[.bool A.nul,.bool A.fal,.bool A.tru,vi,vf,vt] 29).al #[.bool B.nul,.bool B.fal,.bool B.tru,ui,uf,ut] 29;simp only[bZ] at hO;have HC:=zh (ww vi vf vt A ui uf ut B na ta nb tb m _ hO.inn htab ha hb la lb hn1 hn2 zo);obtain⟨aa,ab,ac,ad,ae,af,rfl,rfl,rfl⟩:=ha.spell;obtain⟨ba,bb,bc,bd,be,bf,rfl,rfl,rfl⟩:=hb.spell;unfold RS.val at HC ⊢;have HO:=zh hO;clear hO ha hb la lb;refine aj fun R hR=>?_
 go_enter Tryz.func85,Tryz.ntmps85
 go_wp2_with fail
 refine HC.out.mono ?_;rintro e w1 ⟨s,si,sf,st,rfl,hb1,hs,hS,hL⟩;have hO1:=HO.out.call hb1;have HM:=zh (wz si sf st s _ w1 hO1.inn (htab.le hO1.ext.1) hs (hL.mono zo zo));rw[LU hS] at HM;obtain⟨ra,rb,rc,rd,re,rf,rfl,rfl,rfl⟩:=hs.spell;unfold RS.val at HM;have HO1:=zh hO1;clear HC HO hb1 hs hS hL hO1
 go_wp2_with fail
 refine HM.out.mono ?_;rintro e w2 ⟨rfl,hb2⟩;have HB:=zh (HO1.out.move hb2).below;clear HM HO1 hb2;generalize subB A B=bo at *
 go_wp2;exact hR.out _ _ ⟨rfl,HB.out⟩
theorem uC (op:ByteArray) (n:Int) (s0:ByteArray) (ai am:Option Addr) (li ci lm cm:Nat) (m:Mem) (w:World) (hm:m.inn w) (h1 : -9223372036854775808≤n) (h2:n≤9223372036854775807) :
 Calls Tryz.prog 131 #[.string op,.agg #[.int .i64 3,.int .i64 n,.string s0,.slice ai li ci,.slice am lm cm]] w fun e w'=>∃ri rf,e=.returned (.tuple #[.agg #[.bool false,.bool false,.bool false,ri,rf,.slice none 0 0],.int .i64 (bndE op.toList n)])∧Below w.heap.size w w'∧bu (m.grow w w') ri rf (bndN op.toList n).i (bndN op.toList n).rf:=by
 have hO:=((Own.start hm).al #[.int .i64 3,.int .i64 n,.string s0,.slice ai li ci,.slice am lm cm] 68).al #[.bool false,.bool false,.bool false,.slice none 0 0,.slice none 0 0,.slice none 0 0] 29;simp only[bZ] at hO;have HB:=zh (Gi op n m _ hO.inn h1 h2);have HO:=zh hO;clear hO;refine aj fun R hR=>?_;generalize bndE op.toList n=er at *
 generalize bndN op.toList n=x at *
 go_enter Tryz.func131,Tryz.ntmps131
 go_wp2_with fail
 refine HB.out.mono ?_;rintro e w1 ⟨ri,rf,rfl,hb1,hS⟩;obtain⟨xa,xc,ya,yc,rfl,rfl⟩:=hS.spell;have hO1:=((HO.out.call hb1).al #[.slice xa x.i.length xc,.slice ya x.rf.length yc] 24).swap;have HS:=zh hS;have HO1:=zh hO1;clear HB HO hb1 hS hO1
 go_upto_region 3 with (fail)
 generalize hW:w1.alloc (.cells #[.slice xa x.i.length xc,.slice ya x.rf.length yc] 24)=w2 at *
 generalize w1.heap.size=gx at *
 have hO:=HO1.out;have hS:=HS.out;have q0:=hO.swap.obj.c 0;have q1:=hO.swap.obj.c 1;have q2:=hO.swap.obj.lt;clear HO1 HS hW;obtain⟨g0,g1,g2,g3,g4,g5,gf0,gf1,gf2,gf3,gf4,gf5⟩:=hO.obj.cf6;have gl:=hO.obj.lt;have hO2:Own _ _ _ _ (.obj _ 29 #[.bool false,.bool false,.bool false,.slice xa x.i.length xc,.slice ya x.rf.length yc,.slice none 0 0]::_):=((((((hO.set 0 (.bool false)).set 1 (.bool false)).set 2 (.bool false)).set 3 (.slice xa x.i.length xc)).set 4 (.slice ya x.rf.length yc)).set 5 (.slice none 0 0));obtain⟨k0,k1,k2,k3,k4,k5⟩:=hO2.obj.cs6;have Hk:=zh (zi hO2.below (hS.le hO2.done));clear hO2 hS hO;go_wp2;refine yQ (v:=.tuple #[.agg #[.bool false,.bool false,.bool false,.slice xa x.i.length xc,.slice ya x.rf.length yc,.slice none 0 0],.int .i64 er]) (by simp[results,Tryz.results131,go_sem,k0,k1,k2,k3,k4,k5]) rfl ?_;exact hR.out _ _ ⟨_,_,rfl,Hk.out.1,Hk.out.2⟩
theorem Dx (op:ByteArray) (k n:Int) (s0:ByteArray) (ai am:Option Addr) (li ci lm cm:Nat) (m:Mem) (w:World) (hm:m.inn w) (htab:TabM m) (hk:k≠3) (hop:op.size≤1000) (hs:s0.size≤1000) :
 Calls Tryz.prog 131 #[.string op,.agg #[.int .i64 k,.int .i64 n,.string s0,.slice ai li ci,.slice am lm cm]] w fun e w'=>∃rt C,e=.returned (.tuple #[.agg #[.bool false,.bool false,.bool false,.slice none 0 0,.slice none 0 0,rt],.int .i64 (if (eF op.toList s0.data.toList).isSome then 0 else 8)])∧Below w.heap.size w w'∧aG (m.grow w w') rt C ∧
  (∀f,eF op.toList s0.data.toList=some f→eQ f C)∧(eF op.toList s0.data.toList=none→C=[])∧C.length≤3*(s0.size+5)+1:=by
 have hO:=((Own.start hm).al #[.int .i64 k,.int .i64 n,.string s0,.slice ai li ci,.slice am lm cm] 68).al #[.bool false,.bool false,.bool false,.slice none 0 0,.slice none 0 0,.slice none 0 0] 29;simp only[bZ] at hO;have HB:=zh (Gy op s0 m _ hO.inn htab hop hs);have HO:=zh hO;have hd3:(k==3)=false:=beq_eq_false_iff_ne.2 hk;clear hO hk;refine aj fun R hR=>?_;generalize (if (eF op.toList s0.data.toList).isSome then (0:Int) else 8)=er at *
 go_enter Tryz.func131,Tryz.ntmps131
 go_wp2_with fail
 refine HB.out.mono ?_;rintro e w1 ⟨rt,C,rfl,hb1,hS,hp⟩;obtain⟨xa,xc,rfl⟩:=fB hS;have hO1:=((HO.out.call hb1).al #[.slice xa C.length xc] 27).swap;have HS:=zh hS;have HP:=zh hp;have HO1:=zh hO1;clear HB HO hb1 hS hO1 hp
 go_upto_region 5 with (fail)
 generalize hW:w1.alloc (.cells #[.slice xa C.length xc] 27)=w2 at *
 generalize w1.heap.size=gx at *
 have hO:=HO1.out;have hS:ScAt _ (.slice none 0 0) (.slice none 0 0) (.slice xa C.length xc) ⟨false,false,false,[],[],C⟩:=⟨aV _,aV _,HS.out⟩;have q0:=hO.swap.obj.c 0;have q2:=hO.swap.obj.lt;clear HO1 HS hW;obtain⟨g0,g1,g2,g3,g4,g5,gf0,gf1,gf2,gf3,gf4,gf5⟩:=hO.obj.cf6;have gl:=hO.obj.lt;have hO2:Own _ _ _ _ (.obj _ 29 #[.bool false,.bool false,.bool false,.slice none 0 0,.slice none 0 0,.slice xa C.length xc]::_):=((((((hO.set 0 (.bool false)).set 1 (.bool false)).set 2 (.bool false)).set 3 (.slice none 0 0)).set 4 (.slice none 0 0)).set 5 (.slice xa C.length xc));obtain⟨k0,k1,k2,k3,k4,k5⟩:=hO2.obj.cs6;have Hk:=zh (zi hO2.below (hS.le hO2.done));clear hO2 hS hO;go_wp2;refine yQ (v:=.tuple #[.agg #[.bool false,.bool false,.bool false,.slice none 0 0,.slice none 0 0,.slice xa C.length xc],.int .i64 er]) (by simp[results,Tryz.results131,go_sem,k0,k1,k2,k3,k4,k5]) rfl ?_;exact hR.out _ _ ⟨_,C,rfl,Hk.out.1,Hk.out.2.t,HP.out⟩
theorem yY (op:ByteArray) (he:op.toList=[61,61]) (k n:Int) (s0:ByteArray) (ai am:Option Addr) (li ci lm cm:Nat) (m:Mem) (w:World) (hm:m.inn w) (hk:k≠3) (hs:s0.size≤1000) :
 Calls Tryz.prog 131 #[.string op,.agg #[.int .i64 k,.int .i64 n,.string s0,.slice ai li ci,.slice am lm cm]] w fun e w'=>∃rt C,e=.returned (.tuple #[.agg #[.bool false,.bool false,.bool false,.slice none 0 0,.slice none 0 0,rt],.int .i64 (if (eF op.toList s0.data.toList).isSome then 0 else 8)])∧Below w.heap.size w w'∧aG (m.grow w w') rt C ∧
  (∀f,eF op.toList s0.data.toList=some f→eQ f C)∧(eF op.toList s0.data.toList=none→C=[])∧C.length≤3*(s0.size+5)+1:=by
 have hO:=((Own.start hm).al #[.int .i64 k,.int .i64 n,.string s0,.slice ai li ci,.slice am lm cm] 68).al #[.bool false,.bool false,.bool false,.slice none 0 0,.slice none 0 0,.slice none 0 0] 29;simp only[bZ] at hO;have HB:=zh (Cn op s0 he m _ hO.inn hs);have HO:=zh hO;have hd3:(k==3)=false:=beq_eq_false_iff_ne.2 hk;clear hO hk he;refine aj fun R hR=>?_;generalize (if (eF op.toList s0.data.toList).isSome then (0:Int) else 8)=er at *
 go_enter Tryz.func131,Tryz.ntmps131
 go_wp2_with fail
 refine HB.out.mono ?_;rintro e w1 ⟨rt,C,rfl,hb1,hS,hp⟩;obtain⟨xa,xc,rfl⟩:=fB hS;have hO1:=((HO.out.call hb1).al #[.slice xa C.length xc] 27).swap;have HS:=zh hS;have HP:=zh hp;have HO1:=zh hO1;clear HB HO hb1 hS hO1 hp
 go_upto_region 5 with (fail)
 generalize hW:w1.alloc (.cells #[.slice xa C.length xc] 27)=w2 at *
 generalize w1.heap.size=gx at *
 have hO:=HO1.out;have hS:ScAt _ (.slice none 0 0) (.slice none 0 0) (.slice xa C.length xc) ⟨false,false,false,[],[],C⟩:=⟨aV _,aV _,HS.out⟩;have q0:=hO.swap.obj.c 0;have q2:=hO.swap.obj.lt;clear HO1 HS hW;obtain⟨g0,g1,g2,g3,g4,g5,gf0,gf1,gf2,gf3,gf4,gf5⟩:=hO.obj.cf6;have gl:=hO.obj.lt;have hO2:Own _ _ _ _ (.obj _ 29 #[.bool false,.bool false,.bool false,.slice none 0 0,.slice none 0 0,.slice xa C.length xc]::_):=((((((hO.set 0 (.bool false)).set 1 (.bool false)).set 2 (.bool false)).set 3 (.slice none 0 0)).set 4 (.slice none 0 0)).set 5 (.slice xa C.length xc));obtain⟨k0,k1,k2,k3,k4,k5⟩:=hO2.obj.cs6;have Hk:=zh (zi hO2.below (hS.le hO2.done));clear hO2 hS hO;go_wp2;refine yQ (v:=.tuple #[.agg #[.bool false,.bool false,.bool false,.slice none 0 0,.slice none 0 0,.slice xa C.length xc],.int .i64 er]) (by simp[results,Tryz.results131,go_sem,k0,k1,k2,k3,k4,k5]) rfl ?_;exact hR.out _ _ ⟨_,C,rfl,Hk.out.1,Hk.out.2.t,HP.out⟩
end Cl
