/- Lemmas for the proofs of chapter 11. -/
import Derived.Test.YtjhipmdamaocmaaGreatDoorPkN24
set_option maxRecDepth 100000
set_option maxHeartbeats 16000000
namespace Cl
open Go Go.RowKit Go.Proofs
def numD (n:Int):Dt:=.mk 3 n ⟨#[]⟩ [] [] []
def txtD (s:ByteArray):Dt:=.mk 4 0 s [] [] []
theorem xx (n:Int) (w:World) (h : -100≤n) (h2:n≤100) :
 Calls Tryz.prog 78 #[.int .i64 n] w fun e w'=>e=.returned ((numD (n*10000)).val (.slice none 0 0) (.slice none 0 0))∧Below w.heap.size w w':=by
 have hO2:=(Own.start (Mem.Ef w)).al #[.int .i64 3,.int .i64 (n*10000),.string ⟨#[]⟩,.slice none 0 0,.slice none 0 0] 68;obtain⟨k0,k1,k2,k3,k4⟩:=hO2.obj.cs5;have Hk:=zh hO2.below;clear hO2;refine aj fun R hR=>?_
 go_enter Tryz.func78,Tryz.ntmps78
 go_wp2;refine yQ (v:=.agg #[.int .i64 3,.int .i64 (n*10000),.string ⟨#[]⟩,.slice none 0 0,.slice none 0 0]) (by simp[results,Tryz.results78,go_sem,k0,k1,k2,k3,k4]) rfl ?_;exact hR.out _ _ ⟨rfl,Hk.out⟩
theorem Ck (s:ByteArray) (w:World) :
 Calls Tryz.prog 82 #[.string s] w fun e w'=>e=.returned ((txtD s).val (.slice none 0 0) (.slice none 0 0))∧Below w.heap.size w w':=by
 have hO2:=(Own.start (Mem.Ef w)).al #[.int .i64 4,.int .i64 0,.string s,.slice none 0 0,.slice none 0 0] 68;obtain⟨k0,k1,k2,k3,k4⟩:=hO2.obj.cs5;have Hk:=zh hO2.below;clear hO2;refine aj fun R hR=>?_
 go_enter Tryz.func82,Tryz.ntmps82
 go_wp2;refine yQ (v:=.agg #[.int .i64 4,.int .i64 0,.string s,.slice none 0 0,.slice none 0 0]) (by simp[results,Tryz.results82,go_sem,k0,k1,k2,k3,k4]) rfl ?_;exact hR.out _ _ ⟨rfl,Hk.out⟩
structure ScC (m:Mem) (b o:Nat) (s:RS) (vi vf vt:Value):Prop where
 c0:m.cell b o=some (.bool s.nul)
 c1:m.cell b (o+1)=some (.bool s.fal)
 c2:m.cell b (o+2)=some (.bool s.tru)
 c3:m.cell b (o+3)=some vi
 c4:m.cell b (o+4)=some vf
 c5:m.cell b (o+5)=some vt
 at':ScAt m vi vf vt s
def Sj (m:Mem) (v:Value) (l:List RS):Prop:=Mem.slice (fun b o s=>∃vi vf vt,ScC m b o s vi vf vt) 6 v l
theorem zq (v:Value) (l:List RS) (m:Mem) (w:World) (hm:m.inn w) (hl:Sj m v l) :
 Calls Tryz.prog 43 #[v] w fun e w'=>e=.returned (.bool (tf (∀s∈l,jF s)))∧Below w.heap.size w w':=by
 obtain⟨a,c,rfl,h1,h2,h3⟩:=hl;unfold maxLen at h2;have HO:=zh (Own.start hm);have H3:=zh h3;clear h3;refine aj fun R hR=>?_
 go_enter Tryz.func43,Tryz.ntmps43
 go_wp2;refine au [5,6,7] (fun n vs wr=>∃k:Nat,k≤l.length∧n=l.length - k∧vs=[.slice a l.length c,.int .i64 l.length,.int .i64 k]∧(∀s∈l.take k,jF s)∧Own w m wr m []) ?_ ?_
 ·exact⟨_,0,zC _,rfl,rfl,zS,HO.out⟩
 rintro X z n vs wr hX - ⟨k,hk,rfl,rfl,hrel,hO⟩;have Hrel:=zh hrel;clear hrel HO;simp[litL,lk];by_cases hlt:k<l.length
 ·obtain⟨b,off,rfl,h4⟩:=H3.out (by intro h;simp[h] at hlt);obtain⟨vi,vf,vt,hg⟩:=h4 k hlt;have r0:=Mem.ak hO.inn hg.c0;have r1:=Mem.ak hO.inn hg.c1;have r2:=Mem.ak hO.inn hg.c2;have r3:=Mem.ak hO.inn hg.c3;have r4:=Mem.ak hO.inn hg.c4;have r5:=Mem.ak hO.inn hg.c5;have rl:=Mem.ay hO.inn hg.c0;have HD:=zh (zi (fun (h:jF l[k]) s (hs:s∈l.take (k+1))=>show jF s by
   rw[zF hlt] at hs;rcases List.mem_append.1 hs with hs | hs
   ·exact Hrel.out s hs
   ·rw[List.mem_singleton.1 hs];exact h) (fun (h:¬ jF l[k]) (hs:∀s∈l,jF s)=>h (hs _ (zB hlt))))
  have hat:=hg.at';obtain⟨a1,b1,a2,b2,a3,b3,rfl,rfl,rfl⟩:=hat.spell;have hO2:=hO.al #[.bool (l[k]).nul,.bool (l[k]).fal,.bool (l[k]).tru,.slice a1 (l[k]).i.length b1,.slice a2 (l[k]).f.length b2,.slice a3 (l[k]).t.length b3] 29;have HS:=zh (DL _ _ _ l[k] m _ hO2.inn hat);unfold RS.val at HS;clear h4 hg hat;generalize l[k]=q at *
  obtain⟨q0,q1,q2,q3,q4,q5⟩:=hO2.obj.cs6;have q6:=hO2.obj.lt;have HO2:=zh hO2.tail;clear hO hO2
  go_wp2_with fail
  refine HS.out.mono ?_;rintro e w2 ⟨rfl,hb2⟩;have HO3:=zh (HO2.out.move hb2);clear HS HO2 hb2;by_cases hs:jF q
  ·rw[aN hs];have HN:=zh (HD.out.1 hs);clear hs HD;go_wp2;exact hX.out _ _ _ zo rfl ⟨k+1,zo,rfl,rfl,HN.out,HO3.out⟩
  ·rw[aK hs];have HN:=zh (HD.out.2 hs);clear hs HD;go_wp2;exact hR.out _ _ ⟨aL (by rw[aK HN.out]),HO3.out.below⟩
 ·obtain rfl:k=l.length:=zo;have Hk:=zh hO.below;have HN:=zh (show ∀s∈l,jF s by have:=Hrel.out;rwa [yB] at this);clear hO;go_wp2;exact hR.out _ _ ⟨aL (by rw[aN HN.out]),Hk.out⟩
theorem QJ {w0 w:World} {m mk:Mem} {L:List Item} {g:Nat} {t:TypeId} {vi vf vt ui uf ut:Value} {A B:RS} (h:Own w0 m w mk (.obj g t #[.bool A.nul,.bool A.fal,.bool A.tru,vi,vf,vt,.bool B.nul,.bool B.fal,.bool B.tru,ui,uf,ut]::L)) (hA:ScAt mk vi vf vt A) (hB:ScAt mk ui uf ut B) :
 Sj (mk.add w g) (.slice (some ⟨g,0,none⟩) 2 2) [A,B]:=by
 have hle:=Mem.jE (w:=w) h.iO;have c {i v} (hi:_=some v):=Mem.bW (m:=mk) h.obj (i:=i) hi;refine ⟨_,2,rfl,zG _,by simp[maxLen],fun _=>⟨g,0,rfl,fun i hi=>?_⟩⟩;rcases (show i=0∨i=1 by simp at hi;omega) with rfl | rfl
 ·exact⟨vi,vf,vt,c (i:=0) rfl,c (i:=1) rfl,c (i:=2) rfl,c (i:=3) rfl,c (i:=4) rfl,c (i:=5) rfl,hA.le hle⟩
 ·exact⟨ui,uf,ut,c (i:=6) rfl,c (i:=7) rfl,c (i:=8) rfl,c (i:=9) rfl,c (i:=10) rfl,c (i:=11) rfl,hB.le hle⟩
structure ScB (m:Mem) (g:Nat) (s:RS) (vi vf vt:Value):Prop where
 c0:m.cell g 0=some (.bool s.nul)
 c1:m.cell g 1=some (.bool s.fal)
 c2:m.cell g 2=some (.bool s.tru)
 c3:m.cell g 3=some vi
 c4:m.cell g 4=some vf
 c5:m.cell g 5=some vt
 at':ScAt m vi vf vt s
theorem ScB.le {m m':Mem} (h:m.le m') {g:Nat} {s:RS} {vi vf vt:Value} (k:ScB m g s vi vf vt):ScB m' g s vi vf vt:=
 ⟨Mem.aB h k.c0,Mem.aB h k.c1,Mem.aB h k.c2,Mem.aB h k.c3,Mem.aB h k.c4,Mem.aB h k.c5,k.at'.le h⟩
structure DtB (m:Mem) (g:Nat) (d:Dt) (vi vm:Value):Prop where
 c0:m.cell g 0=some (.int .i64 d.kind)
 c1:m.cell g 1=some (.int .i64 d.num)
 c2:m.cell g 2=some (.string d.str)
 c3:m.cell g 3=some vi
 c4:m.cell g 4=some vm
 at':DtAt m vi vm d
theorem DtB.le {m m':Mem} (h:m.le m') {g:Nat} {d:Dt} {vi vm:Value} (k:DtB m g d vi vm):DtB m' g d vi vm:=
 ⟨Mem.aB h k.c0,Mem.aB h k.c1,Mem.aB h k.c2,Mem.aB h k.c3,Mem.aB h k.c4,k.at'.le h⟩
theorem Hu {w0 w:World} {m mk:Mem} {L:List Item} {vi vf vt:Value} {s:RS} (t:TypeId) (h:Own w0 m w mk L) (hs:ScAt mk vi vf vt s) :
 ∃mk',mk.le mk'∧ScB mk' w.heap.size s vi vf vt∧Own w0 m (w.alloc (.cells #[.bool s.nul,.bool s.fal,.bool s.tru,vi,vf,vt] t)) mk' L:=by
 have hO:=h.al #[.bool s.nul,.bool s.fal,.bool s.tru,vi,vf,vt] t;exact⟨_,Mem.jE hO.iO,⟨Mem.bW hO.obj rfl,Mem.bW hO.obj rfl,Mem.bW hO.obj rfl,Mem.bW hO.obj rfl,Mem.bW hO.obj rfl,Mem.bW hO.obj rfl,hs.le (Mem.jE hO.iO)⟩,hO.iY⟩
theorem vO {w0 w:World} {m mk:Mem} {L:List Item} {vi vm:Value} {d:Dt} (t:TypeId) (h:Own w0 m w mk L) (hs:DtAt mk vi vm d) :
 ∃mk',mk.le mk'∧DtB mk' w.heap.size d vi vm∧Own w0 m (w.alloc (.cells #[.int .i64 d.kind,.int .i64 d.num,.string d.str,vi,vm] t)) mk' L:=by
 have hO:=h.al #[.int .i64 d.kind,.int .i64 d.num,.string d.str,vi,vm] t;exact⟨_,Mem.jE hO.iO,⟨Mem.bW hO.obj rfl,Mem.bW hO.obj rfl,Mem.bW hO.obj rfl,Mem.bW hO.obj rfl,Mem.bW hO.obj rfl,hs.le (Mem.jE hO.iO)⟩,hO.iY⟩
theorem pq {w0 w w':World} {m mk:Mem} {L:List Item} {vi vf vt:Value} {s:RS} (t:TypeId) (h:Own w0 m w mk L) (hb:Below w.heap.size w w') (hs:ScAt (mk.grow w w') vi vf vt s) :
 ∃mk',mk.le mk'∧ScB mk' w'.heap.size s vi vf vt∧Own w0 m (w'.alloc (.cells #[.bool s.nul,.bool s.fal,.bool s.tru,vi,vf,vt] t)) mk' L:=by
 obtain⟨mk',h1,h2,h3⟩:=Hu t (h.call hb) hs;exact⟨mk',Mem.le_trans (Mem.dF h.inn) h1,h2,h3⟩
theorem sG {w0 w w':World} {m mk:Mem} {L:List Item} {vi vm:Value} {d:Dt} (t:TypeId) (h:Own w0 m w mk L) (hb:Below w.heap.size w w') (hs:DtAt mk vi vm d) :
 ∃mk',mk.le mk'∧DtB mk' w'.heap.size d vi vm∧Own w0 m (w'.alloc (.cells #[.int .i64 d.kind,.int .i64 d.num,.string d.str,vi,vm] t)) mk' L:=by
 obtain⟨mk',h1,h2,h3⟩:=vO t (h.call hb) (hs.le (Mem.dF h.inn));exact⟨mk',Mem.le_trans (Mem.dF h.inn) h1,h2,h3⟩
theorem ScRV.le {p:El→Prop} {n t:Nat} {m m':Mem} (h:m.le m') {v:Value} (k:ScRV p n t m v):ScRV p n t m' v:=by
 obtain⟨s,h1,h2⟩:=k;exact⟨s,h1.le h,h2⟩
theorem ScIs.good {p:El→Prop} {s:RS} (h:ScIs p s) (e:El):(dJ s).has e↔p e:=by rw[iX h.valid];exact h.mem e
theorem Iz {s:RS} (h:jF s):ScLe s 8 8:=⟨h.1,h.2.1,h.2.2.2⟩
theorem Dq {A B:RS} (h:∀s∈[A,B],jF s):ScLe A 8 8∧ScLe B 8 8:=⟨Iz (h A zS),Iz (h B zS)⟩
theorem mP (n x:Int) (hx:n*10000=x) (w:World) (h : -100≤n) (h2:n≤100) :
 Calls Tryz.prog 78 #[.int .i64 n] w fun e w'=>e=.returned (.agg #[.int .i64 3,.int .i64 x,.string ⟨#[]⟩,.slice none 0 0,.slice none 0 0])∧Below w.heap.size w w':=by
 subst hx;exact xx n w h h2
theorem qC (s:ByteArray) (w:World) :
 Calls Tryz.prog 82 #[.string s] w fun e w'=>e=.returned (.agg #[.int .i64 4,.int .i64 0,.string s,.slice none 0 0,.slice none 0 0])∧Below w.heap.size w w':=Ck s w
theorem Cb (m:Mem) {u:Int} (h:bG u):DtAt m (.slice none 0 0) (.slice none 0 0) (numD u):=DtAt.leaf m 3 u ⟨#[]⟩ zo (by unfold bG maxU at h;omega) (zC _)
theorem BH (m:Mem) {s:ByteArray} (h:s.size≤maxLen):DtAt m (.slice none 0 0) (.slice none 0 0) (txtD s):=DtAt.leaf m 4 0 s zo zo h
theorem wW {u:Int} (h:bG u):dtEl (numD u)=some (.num u):=oh (.num u) h
theorem vW (z:List UInt8):dtEl (txtD ⟨z.toArray⟩)=some (.str z):=oh (.str z) trivial
theorem SQ:oq [62] (numD 50000)=0:=by
 unfold oq;rw[zH (by rw[j6.2 ⟨_,wW (u:=50000) zD⟩];simp)]
 rfl
theorem SN:oq [60] (elDt .tru)=11:=by
 unfold oq;rw[zH (by rw[j6.2 ⟨_,oh .tru trivial⟩];simp)]
 rfl
theorem SL:oq [61,61] (numD 10000)=8:=by
 unfold oq;rw[zH (by rw[j6.2 ⟨_,wW (u:=10000) zD⟩];simp)]
 rfl
theorem SK:oq [33,61] (elDt .nul)=0:=by
 unfold oq;rw[zH (by rw[j6.2 ⟨_,oh .nul trivial⟩];simp)]
 rfl
theorem Qy:ScIs (fun e=>∃u,e=.num u∧bG u∧u % 10000=0) (typS [105,110,116]):=by
 have e1:typS [105,110,116]=⟨false,false,false,C9.i,C9.rf,[]⟩:=rfl;rw[e1];refine gZ zS zS zS Lm (fun u=>?_) dM (fun w=>by simp[fF dM,cu]);rw[JD];constructor
 ·rintro ⟨h1,h2⟩;exact⟨u,rfl,h1,h2⟩
 ·rintro ⟨v,h,h1,h2⟩;cases h;exact⟨h1,h2⟩
theorem Qe {s1 s3:RS} (h1:ScIs (jy [62] (numD 50000)) s1) (h3:ScIs (fun e=>(dJ s1).has e∧(dJ (typS [105,110,116])).has e) s3) {r:Option El} (hr:fJ (dJ s3).has r):r=some (.num 60000):=by
 refine rM hr (Ih fun e=>?_);rw[h3.good,h1.good,Qy.good];unfold jy;rw[wW (u:=50000) zD];constructor
 ·rintro ⟨h,u,rfl,hv,hm⟩;have:50000<u:=h.2;exact⟨u,rfl,hv,this,hm⟩
 ·rintro ⟨u,rfl,hv,hl,hm⟩;exact⟨⟨hv,hl⟩,u,rfl,hv,hm⟩
theorem OD {s:RS} (h:ScIs (fun e=>dtEl (txtD ⟨#[97,98]⟩)=some e) s) {r:Option El} (hr:Ab (dJ s).has r):r=some (.str [97,98]):=by
 have hx:dtEl (txtD ⟨#[97,98]⟩)=some (.str [97,98]):=vW [97,98];refine uz hr (.inl ⟨_,rfl,?_,fun x hx'=>?_⟩)
 ·rw[h.good,hx]
 ·rw[h.good,hx] at hx';cases hx';rfl
theorem Rv {s:RS} (h:ScIs (jy [33,61] (elDt .nul)) s):hasD s (elDt .fal)=true∧hasD s (elDt .nul)=false:=by
 have h2:∀e,(dJ s).has e↔e≠.nul∧elOk e:=fun e=>by rw[h.good];exact Fg (oh .nul trivial) e
 refine ⟨?_,?_⟩
 ·rw[nZ (oh .fal trivial)];exact aN ((h2 _).2 ⟨zS,trivial⟩)
 ·rw[nZ (oh .nul trivial)];exact aK fun k=>((h2 _).1 k).1 rfl
theorem Sg:hasD allS (txtD ⟨#[]⟩)=true:=by
 rw[PG Ie];exact aN (j6.2 ⟨_,vW []⟩)
theorem Qf:Bi dY=true:=aN fun e=>by rw[xQ.good];exact id
theorem Rw:tf (RS.gK ⟨false,false,false,[],[],[⟨false,[]⟩]⟩)=false:=aK fun h=>Rh h.ct
theorem ScB.cw {m:Mem} {g:Nat} {s:RS} {vi vf vt:Value} {w:World} (h:ScB m g s vi vf vt) (k:m.inn w):w.cell? ⟨g,0,none⟩=some (.bool s.nul)∧w.cell? ⟨g,1,none⟩=some (.bool s.fal)∧w.cell? ⟨g,2,none⟩=some (.bool s.tru)∧w.cell? ⟨g,3,none⟩=some vi∧w.cell? ⟨g,4,none⟩=some vf∧w.cell? ⟨g,5,none⟩=some vt:=⟨Mem.ak k h.c0,Mem.ak k h.c1,Mem.ak k h.c2,Mem.ak k h.c3,Mem.ak k h.c4,Mem.ak k h.c5⟩
theorem DtB.cw {m:Mem} {g:Nat} {d:Dt} {vi vm:Value} {w:World} (h:DtB m g d vi vm) (k:m.inn w):w.cell? ⟨g,0,none⟩=some (.int .i64 d.kind)∧w.cell? ⟨g,1,none⟩=some (.int .i64 d.num)∧w.cell? ⟨g,2,none⟩=some (.string d.str)∧w.cell? ⟨g,3,none⟩=some vi∧w.cell? ⟨g,4,none⟩=some vm:=⟨Mem.ak k h.c0,Mem.ak k h.c1,Mem.ak k h.c2,Mem.ak k h.c3,Mem.ak k h.c4⟩
theorem pR (m:Mem) (w:World) (hm:m.inn w) (htab:TabM m) :
 Calls Tryz.prog 45 #[] w fun e w'=>e=.returned (.bool true)∧Below w.heap.size w w':=by
 have HT:=zh htab;have HO:=zh (Own.start hm);clear htab;refine aj fun R hR=>?_
 go_enter Tryz.func45,Tryz.ntmps45
 go_wp2_with fail
 refine (mP 5 50000 zD _ zD zD).mono ?_;rintro e w' ⟨rfl,hb⟩;have HO:=zh (HO.out.move hb);clear hb;have HB:=zh (mK ⟨#[62]⟩ (.slice none 0 0) (.slice none 0 0) (numD 50000) m _ HO.out.inn HT.out (Cb _ zD) zD (zC _));rw[show ByteArray.toList ⟨#[62]⟩=[62] by rw[ByteArray.toList_eq],SQ] at HB;unfold Dt.val at HB
 go_wp2_with fail
 refine HB.out.mono ?_;rintro e w1 ⟨s1,si,sf,st,rfl,hb,hn,hS,hL⟩;have H1:=zh (zi hS hL);obtain⟨pa,pb,pc,pd,pe,pf,rfl,rfl,rfl⟩:=hn.spell;unfold RS.val;obtain⟨m1,l1,b1,hO⟩:=pq 29 HO.out hb hn;have HT:=zh (HT.out.le l1)
 go_upto_region 2 with (fail)
 generalize hW:w1.alloc (.cells #[.bool s1.nul,.bool s1.fal,.bool s1.tru,.slice pa s1.i.length pb,.slice pc s1.f.length pd,.slice pe s1.t.length pf] 29)=u1 at *
 generalize w1.heap.size=g1 at *
 have HO:=zh hO;clear hb hn hO hS hL HB hW l1;have HB:=zh (JV ⟨#[105,110,116]⟩ m1 _ HO.out.inn);rw[show ByteArray.toList ⟨#[105,110,116]⟩=[105,110,116] by rw[ByteArray.toList_eq],show typE [105,110,116]=0 from rfl] at HB;have hI:ScLe (typS [105,110,116]) 1 1:=⟨zG _,zC _,zC _⟩;have HI:=zh hI;have HX:=zh (fun s3 r h3 (hr:fJ (dJ s3).has r)=>Qe H1.out.1 (s3:=s3) h3 (r:=r) hr);clear hI;generalize typS [105,110,116]=s2 at *
 go_wp2_with fail
 refine HB.out.mono ?_;rintro e w2 ⟨si,sf,st,rfl,hb,hn⟩;have hS:True:=trivial;have hL:True:=trivial;obtain⟨qa,qb,qc,qd,qe,qf,rfl,rfl,rfl⟩:=hn.spell;unfold RS.val;obtain⟨m2,l2,b2,hO⟩:=pq 29 HO.out hb hn;have HT:=zh (HT.out.le l2);have b1:=b1.le l2
 go_upto_region 3 with (fail)
 generalize hW:w2.alloc (.cells #[.bool s2.nul,.bool s2.fal,.bool s2.tru,.slice qa s2.i.length qb,.slice qc s2.f.length qd,.slice qe s2.t.length qf] 29)=u2 at *
 generalize w2.heap.size=g2 at *
 have HO:=zh hO;clear hb hn hO hS hL HB hW l2;obtain⟨y0,y1,y2,y3,y4,y5⟩:=b1.cw HO.out.inn;have yl:=Mem.ay HO.out.inn b1.c0;obtain⟨z0,z1,z2,z3,z4,z5⟩:=b2.cw HO.out.inn;have zl:=Mem.ay HO.out.inn b2.c0;have HB:=zh (Mh _ _ _ s1 _ _ _ s2 6 (3*((numD 50000).str.size+5)+1) 1 1 m2 _ HO.out.inn HT.out b1.at' b2.at' H1.out.2 HI.out zD zD zD);unfold RS.val at HB
 go_wp2_with fail
 refine HB.out.mono ?_;rintro e w3 ⟨s3,si,sf,st,rfl,hb,hn,hS,hL⟩;have hO:=HO.out.call hb;have HB2:=zh (mJ _ _ _ s3 _ _ hO.inn (HT.out.le (Mem.dF HO.out.inn)) hn (hL.mono zD zD));obtain⟨ra,rb,rc,rd,re,rf,rfl,rfl,rfl⟩:=hn.spell;unfold RS.val at HB2;have HX:=zh (fun r hr=>HX.out s3 r hS hr);have HT:=zh (HT.out.le (Mem.dF (w:=w3) HO.out.inn));have HO:=zh hO;clear hO hb hn hS hL HB H1 HI b1 b2;clear y0 y1 y2 y3 y4 y5 yl;clear z0 z1 z2 z3 z4 z5 zl
 go_wp2_with fail
 refine HB2.out.mono ?_;rintro e w4 ⟨r,rfl,hb,hr⟩;obtain rfl:=HX.out r hr;have hO1:=HO.out.move hb;have e4:(some (El.num 60000)).isSome=true:=rfl;have e5:(lstD (some (El.num 60000))).val (.slice none 0 0) (.slice none 0 0)=.agg #[.int .i64 3,.int .i64 60000,.string ⟨#[]⟩,.slice none 0 0,.slice none 0 0]:=rfl;rw[e4,e5];obtain⟨m3,l3,b3,hO⟩:=vO 68 hO1 (Cb _ (u:=60000) zD);have HT:=zh (HT.out.le l3);have hO:Own _ _ (w4.alloc (.cells #[.int .i64 3,.int .i64 60000,.string ⟨#[]⟩,.slice none 0 0,.slice none 0 0] 68)) _ _:=hO
 go_upto_region 4 with (fail)
 generalize hW:w4.alloc (.cells #[.int .i64 3,.int .i64 60000,.string ⟨#[]⟩,.slice none 0 0,.slice none 0 0] 68)=u3 at *
 generalize w4.heap.size=g3 at *
 have HO:=zh hO;clear hO hO1 hb hr e4 e5 hW l3 HB2 HX
 go_wp2_with fail
 refine (qC ⟨#[97,98]⟩ _).mono ?_;rintro e w5 ⟨rfl,hb⟩;have HO:=zh (HO.out.move hb);clear hb;have HB:=zh (vG (.slice none 0 0) (.slice none 0 0) (txtD ⟨#[97,98]⟩) m3 _ HO.out.inn HT.out (BH _ zD) zD zD);rw[show ofE (txtD ⟨#[97,98]⟩)=0 from j6.2 ⟨_,vW [97,98]⟩] at HB;unfold Dt.val at HB
 go_wp2_with fail
 refine HB.out.mono ?_;rintro e w6 ⟨s4,si,sf,st,rfl,hb,hn,hS,hL⟩;have H4:=zh (zi hS hL);obtain⟨ta,tb,tc,td,te,tf0,rfl,rfl,rfl⟩:=hn.spell;unfold RS.val;obtain⟨m6,l6,b6,hO⟩:=pq 29 HO.out hb hn;have HT:=zh (HT.out.le l6);have b3:=b3.le l6
 go_upto_region 5 with (fail)
 generalize hW:w6.alloc (.cells #[.bool s4.nul,.bool s4.fal,.bool s4.tru,.slice ta s4.i.length tb,.slice tc s4.f.length td,.slice te s4.t.length tf0] 29)=u6 at *
 generalize w6.heap.size=g6 at *
 have HO:=zh hO;clear hb hn hO hS hL HB hW l6;obtain⟨z0,z1,z2,z3,z4,z5⟩:=b6.cw HO.out.inn;have zl:=Mem.ay HO.out.inn b6.c0;have HB:=zh (uB _ _ _ s4 1 3 m6 _ HO.out.inn HT.out b6.at' H4.out.2 zD zD);have HX:=zh (fun r hr=>OD H4.out.1 (r:=r) hr);unfold RS.val at HB
 go_wp2_with fail
 refine HB.out.mono ?_;rintro e w7 ⟨r,rfl,hb,hr⟩;obtain rfl:=HX.out r hr;have hO1:=HO.out.move hb;have e4:(some (El.str [97,98])).isSome=true:=rfl;have e5:(lstD (some (El.str [97,98]))).val (.slice none 0 0) (.slice none 0 0)=.agg #[.int .i64 4,.int .i64 0,.string ⟨#[97,98]⟩,.slice none 0 0,.slice none 0 0]:=rfl;rw[e4,e5];obtain⟨m7,l7,b7,hO⟩:=vO 68 hO1 (BH _ (s:=⟨#[97,98]⟩) zD);have HT:=zh (HT.out.le l7);have hO:Own _ _ (w7.alloc (.cells #[.int .i64 4,.int .i64 0,.string ⟨#[97,98]⟩,.slice none 0 0,.slice none 0 0] 68)) _ _:=hO;have b3:=b3.le l7
 go_upto_region 6 with (fail)
 generalize hW:w7.alloc (.cells #[.int .i64 4,.int .i64 0,.string ⟨#[97,98]⟩,.slice none 0 0,.slice none 0 0] 68)=u7 at *
 generalize w7.heap.size=g7 at *
 have HO:=zh hO;clear hO hO1 hb hr e4 e5 hW l7 HB HX H4 b6;clear z0 z1 z2 z3 z4 z5 zl;have HB:=zh (mK ⟨#[60]⟩ (.slice none 0 0) (.slice none 0 0) (elDt .tru) m7 _ HO.out.inn HT.out (DtAt.leaf _ 2 1 _ zD zD (zC _)) zD (zC _));rw[show ByteArray.toList ⟨#[60]⟩=[60] by rw[ByteArray.toList_eq],SN] at HB;unfold Dt.val at HB
 go_wp2_with fail
 refine HB.out.mono ?_;rintro e w8 ⟨s5,si,sf,st,rfl,hb,hn,hS,hL⟩;have H8:=zh (zi hS hL);obtain⟨pa,pb,pc,pd,pe,pf,rfl,rfl,rfl⟩:=hn.spell;unfold RS.val;obtain⟨m8,l8,b8,hO⟩:=pq 29 HO.out hb hn;have HT:=zh (HT.out.le l8);have b3:=b3.le l8;have b7:=b7.le l8
 go_upto_region 7 with (fail)
 generalize hW:w8.alloc (.cells #[.bool s5.nul,.bool s5.fal,.bool s5.tru,.slice pa s5.i.length pb,.slice pc s5.f.length pd,.slice pe s5.t.length pf] 29)=u8 at *
 generalize w8.heap.size=g8 at *
 have HO:=zh hO;clear hb hn hO hS hL HB hW l8;clear H8 b8
 go_wp2_with fail
 refine (mP 1 10000 zD _ zD zD).mono ?_;rintro e w' ⟨rfl,hb⟩;have HO:=zh (HO.out.move hb);clear hb;have HB:=zh (mK ⟨#[61,61]⟩ (.slice none 0 0) (.slice none 0 0) (numD 10000) m8 _ HO.out.inn HT.out (Cb _ zD) zD (zC _));rw[show ByteArray.toList ⟨#[61,61]⟩=[61,61] by rw[ByteArray.toList_eq],SL] at HB;unfold Dt.val at HB
 go_wp2_with fail
 refine HB.out.mono ?_;rintro e w9 ⟨s6,si,sf,st,rfl,hb,hn,hS,hL⟩;have H9:=zh (zi hS hL);obtain⟨pa,pb,pc,pd,pe,pf,rfl,rfl,rfl⟩:=hn.spell;unfold RS.val;obtain⟨m9,l9,b9,hO⟩:=pq 29 HO.out hb hn;have HT:=zh (HT.out.le l9);have b3:=b3.le l9;have b7:=b7.le l9
 go_upto_region 8 with (fail)
 generalize hW:w9.alloc (.cells #[.bool s6.nul,.bool s6.fal,.bool s6.tru,.slice pa s6.i.length pb,.slice pc s6.f.length pd,.slice pe s6.t.length pf] 29)=u9 at *
 generalize w9.heap.size=g9 at *
 have HO:=zh hO;clear hb hn hO hS hL HB hW l9;clear H9 b9;have HB:=zh (mK ⟨#[33,61]⟩ (.slice none 0 0) (.slice none 0 0) (elDt .nul) m9 _ HO.out.inn HT.out (DtAt.leaf _ 1 0 _ zD zD (zC _)) zD (zC _));rw[show ByteArray.toList ⟨#[33,61]⟩=[33,61] by rw[ByteArray.toList_eq],SK] at HB;unfold Dt.val at HB
 go_wp2_with fail
 refine HB.out.mono ?_;rintro e w10 ⟨s7,si,sf,st,rfl,hb,hn,hS,hL⟩;have H10:=zh (zi hS hL);obtain⟨pa,pb,pc,pd,pe,pf,rfl,rfl,rfl⟩:=hn.spell;unfold RS.val;obtain⟨m10,l10,b10,hO⟩:=pq 29 HO.out hb hn;have HT:=zh (HT.out.le l10);have b3:=b3.le l10;have b7:=b7.le l10
 go_upto_region 9 with (fail)
 generalize hW:w10.alloc (.cells #[.bool s7.nul,.bool s7.fal,.bool s7.tru,.slice pa s7.i.length pb,.slice pc s7.f.length pd,.slice pe s7.t.length pf] 29)=u10 at *
 generalize w10.heap.size=g10 at *
 have HO:=zh hO;clear hb hn hO hS hL HB hW l10;have HQ:=zh (zi (Cb m10 (u:=60000) zD) (BH m10 (s:=⟨#[97,98]⟩) zD));refine aI [15,99] (fun vs w'=>vs=[.pointer (some ⟨g10,0,none⟩),.bool false]∧Own w m w' m10 []) ?_ ?_
 ·intro X hX;refine aU 42 6 (fun j=>[Fact.is (·=.int .i64 0),Fact.is (·=.bool false),Fact.is (·=.bool false),Fact.is (·=.int .i64 0),Fact.is (·=.bool false),Fact.is (·=.bool false),Fact.is (·=.bool false),Fact.is (·=.bool true),Fact.is (·=.bool false),Fact.is (·=.bool false),Fact.is (·=.bool false),Fact.is (·=.agg #[.int .i64 3,.int .i64 60000,.string ⟨#[]⟩,.slice none 0 0,.slice none 0 0]),Fact.is (·=.agg #[.int .i64 3,.int .i64 60000,.string ⟨#[]⟩,.slice none 0 0,.slice none 0 0]),Fact.is (·=.bool true),Fact.is (·=.bool false),Fact.is (·=.bool false),Fact.is (·=.bool false),Fact.is (·=.int .i64 0),Fact.is (·=.bool false),Fact.is (·=.bool false),Fact.is (·=.bool false),Fact.is (·=.bool true),Fact.is (·=.bool false),Fact.is (·=.bool false),Fact.is (·=.bool false),Fact.is (·=.agg #[.int .i64 4,.int .i64 0,.string ⟨#[97,98]⟩,.slice none 0 0,.slice none 0 0]),Fact.is (·=.agg #[.int .i64 4,.int .i64 0,.string ⟨#[97,98]⟩,.slice none 0 0,.slice none 0 0]),Fact.is (·=.bool true),Fact.is (·=.bool false),Fact.is (·=.bool false),Fact.is (·=.bool false),Fact.is (·=.int .i64 11),Fact.is (·=.bool false),Fact.is (·=.bool false),Fact.is (·=.bool false),Fact.is (·=.int .i64 8),Fact.is (·=.bool false),Fact.is (·=.bool false),Fact.is (·=.bool false),Fact.is (·=.int .i64 0),Fact.is (·=.bool false),Fact.is (·=.bool false)].getD j Fact.any) zk zk ?_ ?_
  ·intro i hi o win a wr ho RA;have HO2:=HO.out.dr.move RA.below;have y0:wr.cell? ⟨g3,0,none⟩=some (.int .i64 3):=Mem.ak HO2.inn b3.c0;have y1:wr.cell? ⟨g3,1,none⟩=some (.int .i64 60000):=Mem.ak HO2.inn b3.c1;have y2:wr.cell? ⟨g3,2,none⟩=some (.string ⟨#[]⟩):=Mem.ak HO2.inn b3.c2;have y3:wr.cell? ⟨g3,3,none⟩=some (.slice none 0 0):=Mem.ak HO2.inn b3.c3;have y4:wr.cell? ⟨g3,4,none⟩=some (.slice none 0 0):=Mem.ak HO2.inn b3.c4;have z0:wr.cell? ⟨g7,0,none⟩=some (.int .i64 4):=Mem.ak HO2.inn b7.c0;have z1:wr.cell? ⟨g7,1,none⟩=some (.int .i64 0):=Mem.ak HO2.inn b7.c1;have z2:wr.cell? ⟨g7,2,none⟩=some (.string ⟨#[97,98]⟩):=Mem.ak HO2.inn b7.c2;have z3:wr.cell? ⟨g7,3,none⟩=some (.slice none 0 0):=Mem.ak HO2.inn b7.c3;have z4:wr.cell? ⟨g7,4,none⟩=some (.slice none 0 0):=Mem.ak HO2.inn b7.c4;rcases (show i=0∨i=1∨i=2∨i=3∨i=4∨i=5∨i=6∨i=7∨i=8∨i=9∨i=10∨i=11∨i=12∨i=13∨i=14∨i=15∨i=16∨i=17∨i=18∨i=19∨i=20∨i=21∨i=22∨i=23∨i=24∨i=25∨i=26∨i=27∨i=28∨i=29∨i=30∨i=31∨i=32∨i=33∨i=34∨i=35∨i=36∨i=37∨i=38∨i=39∨i=40∨i=41 by omega) with rfl | rfl | rfl | rfl | rfl | rfl | rfl | rfl | rfl | rfl | rfl | rfl | rfl | rfl | rfl | rfl | rfl | rfl | rfl | rfl | rfl | rfl | rfl | rfl | rfl | rfl | rfl | rfl | rfl | rfl | rfl | rfl | rfl | rfl | rfl | rfl | rfl | rfl | rfl | rfl | rfl | rfl
   ·have e2:=RA.k 2;cases ho;exact wv rfl rfl rfl
   ·have e58:a.tmps.getD 58 undef=_:=RA.d 0 rfl;cases ho;exact wv rfl rfl rfl
   ·have e59:a.tmps.getD 59 undef=_:=RA.d 1 rfl;cases ho;exact wv rfl rfl rfl
   ·have e4:=RA.k 4;have e60:a.tmps.getD 60 undef=_:=RA.d 2 rfl;cases ho;exact wy rfl rfl rfl e60 rfl
   ·have e61:a.tmps.getD 61 undef=_:=RA.d 3 rfl;have e60:a.tmps.getD 60 undef=_:=RA.d 2 rfl;cases ho;exact wy rfl rfl rfl e60 rfl
   ·have e60:a.tmps.getD 60 undef=_:=RA.d 2 rfl;have e62:a.tmps.getD 62 undef=_:=RA.d 4 rfl;cases ho;exact wv rfl rfl rfl
   ·have e63:a.tmps.getD 63 undef=_:=RA.d 5 rfl;cases ho;exact wv rfl rfl rfl
   ·have e6:=RA.k 6;have e64:a.tmps.getD 64 undef=_:=RA.d 6 rfl;cases ho;exact wy rfl rfl rfl e64 rfl
   ·have e65:a.tmps.getD 65 undef=_:=RA.d 7 rfl;have e64:a.tmps.getD 64 undef=_:=RA.d 6 rfl;cases ho;exact wy rfl rfl rfl e64 rfl
   ·have e64:a.tmps.getD 64 undef=_:=RA.d 6 rfl;have e66:a.tmps.getD 66 undef=_:=RA.d 8 rfl;cases ho;exact wv rfl rfl rfl
   ·have e67:a.tmps.getD 67 undef=_:=RA.d 9 rfl;cases ho;exact wv rfl rfl rfl
   ·have e5:=RA.k 5;have e68:a.tmps.getD 68 undef=_:=RA.d 10 rfl;cases ho;exact wy rfl rfl rfl e68 rfl
   ·have e68:a.tmps.getD 68 undef=_:=RA.d 10 rfl;cases ho;refine we2 rfl rfl rfl e68 (mP 6 60000 zD wr zD zD) ?_;rintro e w' ⟨rfl,hb⟩;exact⟨_,rfl,_,rfl,hb,rfl⟩
   ·have e69:a.tmps.getD 69 undef=_:=RA.d 11 rfl;have e70:a.tmps.getD 70 undef=_:=RA.d 12 rfl;have e68:a.tmps.getD 68 undef=_:=RA.d 10 rfl;cases ho;refine we2 rfl rfl rfl e68 (je (.slice none 0 0) (.slice none 0 0) (.slice none 0 0) (.slice none 0 0) (numD 60000) (numD 60000) (.num 60000) m10 wr HO2.inn HQ.out.1 HQ.out.1 zD zD (wW zD)) ?_;rintro e w' ⟨rfl,hb⟩;exact⟨_,rfl,_,rfl,hb,congrArg Value.bool (aN (wW zD))⟩
   ·have e71:a.tmps.getD 71 undef=_:=RA.d 13 rfl;have e68:a.tmps.getD 68 undef=_:=RA.d 10 rfl;cases ho;exact wy rfl rfl rfl e68 rfl
   ·have e68:a.tmps.getD 68 undef=_:=RA.d 10 rfl;have e72:a.tmps.getD 72 undef=_:=RA.d 14 rfl;cases ho;exact wv rfl rfl rfl
   ·have e73:a.tmps.getD 73 undef=_:=RA.d 15 rfl;cases ho;exact wv rfl rfl rfl
   ·have e8:=RA.k 8;have e74:a.tmps.getD 74 undef=_:=RA.d 16 rfl;cases ho;exact wy rfl rfl rfl e74 rfl
   ·have e75:a.tmps.getD 75 undef=_:=RA.d 17 rfl;have e74:a.tmps.getD 74 undef=_:=RA.d 16 rfl;cases ho;exact wy rfl rfl rfl e74 rfl
   ·have e74:a.tmps.getD 74 undef=_:=RA.d 16 rfl;have e76:a.tmps.getD 76 undef=_:=RA.d 18 rfl;cases ho;exact wv rfl rfl rfl
   ·have e77:a.tmps.getD 77 undef=_:=RA.d 19 rfl;cases ho;exact wv rfl rfl rfl
   ·have e10:=RA.k 10;have e78:a.tmps.getD 78 undef=_:=RA.d 20 rfl;cases ho;exact wy rfl rfl rfl e78 rfl
   ·have e79:a.tmps.getD 79 undef=_:=RA.d 21 rfl;have e78:a.tmps.getD 78 undef=_:=RA.d 20 rfl;cases ho;exact wy rfl rfl rfl e78 rfl
   ·have e78:a.tmps.getD 78 undef=_:=RA.d 20 rfl;have e80:a.tmps.getD 80 undef=_:=RA.d 22 rfl;cases ho;exact wv rfl rfl rfl
   ·have e81:a.tmps.getD 81 undef=_:=RA.d 23 rfl;cases ho;exact wv rfl rfl rfl
   ·have e9:=RA.k 9;have e82:a.tmps.getD 82 undef=_:=RA.d 24 rfl;cases ho;exact wy rfl rfl rfl e82 rfl
   ·have e82:a.tmps.getD 82 undef=_:=RA.d 24 rfl;cases ho;refine we2 rfl rfl rfl e82 (qC ⟨#[97,98]⟩ wr) ?_;rintro e w' ⟨rfl,hb⟩;exact⟨_,rfl,_,rfl,hb,rfl⟩
   ·have e83:a.tmps.getD 83 undef=_:=RA.d 25 rfl;have e84:a.tmps.getD 84 undef=_:=RA.d 26 rfl;have e82:a.tmps.getD 82 undef=_:=RA.d 24 rfl;cases ho;refine we2 rfl rfl rfl e82 (je (.slice none 0 0) (.slice none 0 0) (.slice none 0 0) (.slice none 0 0) (txtD ⟨#[97,98]⟩) (txtD ⟨#[97,98]⟩) (.str [97,98]) m10 wr HO2.inn HQ.out.2 HQ.out.2 zD zD (vW [97,98])) ?_;rintro e w' ⟨rfl,hb⟩;exact⟨_,rfl,_,rfl,hb,congrArg Value.bool (aN (vW [97,98]))⟩
   ·have e85:a.tmps.getD 85 undef=_:=RA.d 27 rfl;have e82:a.tmps.getD 82 undef=_:=RA.d 24 rfl;cases ho;exact wy rfl rfl rfl e82 rfl
   ·have e82:a.tmps.getD 82 undef=_:=RA.d 24 rfl;have e86:a.tmps.getD 86 undef=_:=RA.d 28 rfl;cases ho;exact wv rfl rfl rfl
   ·have e87:a.tmps.getD 87 undef=_:=RA.d 29 rfl;cases ho;exact wv rfl rfl rfl
   ·have e12:=RA.k 12;have e88:a.tmps.getD 88 undef=_:=RA.d 30 rfl;cases ho;exact wy rfl rfl rfl e88 rfl
   ·have e89:a.tmps.getD 89 undef=_:=RA.d 31 rfl;have e88:a.tmps.getD 88 undef=_:=RA.d 30 rfl;cases ho;exact wy rfl rfl rfl e88 rfl
   ·have e88:a.tmps.getD 88 undef=_:=RA.d 30 rfl;have e90:a.tmps.getD 90 undef=_:=RA.d 32 rfl;cases ho;exact wv rfl rfl rfl
   ·have e91:a.tmps.getD 91 undef=_:=RA.d 33 rfl;cases ho;exact wv rfl rfl rfl
   ·have e14:=RA.k 14;have e92:a.tmps.getD 92 undef=_:=RA.d 34 rfl;cases ho;exact wy rfl rfl rfl e92 rfl
   ·have e93:a.tmps.getD 93 undef=_:=RA.d 35 rfl;have e92:a.tmps.getD 92 undef=_:=RA.d 34 rfl;cases ho;exact wy rfl rfl rfl e92 rfl
   ·have e92:a.tmps.getD 92 undef=_:=RA.d 34 rfl;have e94:a.tmps.getD 94 undef=_:=RA.d 36 rfl;cases ho;exact wv rfl rfl rfl
   ·have e95:a.tmps.getD 95 undef=_:=RA.d 37 rfl;cases ho;exact wv rfl rfl rfl
   ·have e16:=RA.k 16;have e96:a.tmps.getD 96 undef=_:=RA.d 38 rfl;cases ho;exact wy rfl rfl rfl e96 rfl
   ·have e97:a.tmps.getD 97 undef=_:=RA.d 39 rfl;have e96:a.tmps.getD 96 undef=_:=RA.d 38 rfl;cases ho;exact wy rfl rfl rfl e96 rfl
   ·have e96:a.tmps.getD 96 undef=_:=RA.d 38 rfl;have e98:a.tmps.getD 98 undef=_:=RA.d 40 rfl;cases ho;exact wv rfl rfl rfl
  ·intro win a wr E;have e15:=E.keep 15 zk;have e99:a.tmps.getD 99 undef=.bool false:=E.fact 41 _ zo rfl;obtain⟨t,d⟩:=a;obtain rfl:d=[]:=E.defers;refine bS zk (hX.out _ _ E.size ⟨?_,HO.out.dr.move E.below⟩) _;simp only[yG,List.map_nil,e15,e99]
   rfl
 rintro z vs w0 - ⟨rfl,hO⟩;simp[litL,lk];have HO:=zh hO;have HN:=zh (Rv H10.out.1);have HL:=zh H10.out.2;clear hO b3 b7 HQ H10;obtain⟨y0,y1,y2,y3,y4,y5⟩:=b10.cw HO.out.inn;have yl:=Mem.ay HO.out.inn b10.c0;have HB:=zh (q9 _ _ _ s7 (.slice none 0 0) (.slice none 0 0) (elDt .fal) 6 (3*((elDt .nul).str.size+5)+1) m10 _ HO.out.inn HT.out b10.at' (DtAt.leaf _ 2 0 _ zD zD (zC _)) zD zD HL.out zD zD)
 go_wp2_with fail
 refine HB.out.mono ?_;rintro e w1 ⟨rfl,hb⟩;rw[HN.out.1];have HO:=zh (HO.out.move hb);clear HB y0 y1 y2 y3 y4 y5 yl hb;obtain⟨y0,y1,y2,y3,y4,y5⟩:=b10.cw HO.out.inn;have yl:=Mem.ay HO.out.inn b10.c0;have HB:=zh (q9 _ _ _ s7 (.slice none 0 0) (.slice none 0 0) (elDt .nul) 6 (3*((elDt .nul).str.size+5)+1) m10 _ HO.out.inn HT.out b10.at' (DtAt.leaf _ 1 0 _ zD zD (zC _)) zD zD HL.out zD zD)
 go_wp2_with fail
 refine HB.out.mono ?_;rintro e w2 ⟨rfl,hb⟩;rw[HN.out.2];have HO:=zh (HO.out.move hb);clear HB y0 y1 y2 y3 y4 y5 yl hb b10 HN HL
 go_wp2_with fail
 refine (Dz m10 _ HO.out.inn).mono ?_;rintro e w3 ⟨ri,rf,rt,rfl,hb,hn⟩;have hO:=HO.out.call hb;have HT:=zh (HT.out.le (Mem.dF (w:=w3) HO.out.inn));have HO:=zh hO;generalize Mem.grow _ _ w3=m11 at *
 clear hO hb;have HN:=zh hn;clear hn
 go_wp2_with fail
 refine (qC ⟨#[]⟩ _).mono ?_;rintro e w4 ⟨rfl,hb⟩;have HO:=zh (HO.out.move hb);clear hb;have HB:=zh (q9 _ _ _ allS (.slice none 0 0) (.slice none 0 0) (txtD ⟨#[]⟩) 1 1 m11 _ HO.out.inn HT.out HN.out (BH _ (zC _)) zD zD OC zD zD)
 go_wp2_with fail
 refine HB.out.mono ?_;rintro e w5 ⟨rfl,hb⟩;rw[Sg];have HO:=zh (HO.out.move hb);clear hb HB HN;have HB:=zh (wz (.slice none 0 0) (.slice none 0 0) (.slice none 0 0) dY m11 _ HO.out.inn HT.out (ScAt.empty _) (gI _ _))
 go_wp2_with fail
 refine HB.out.mono ?_;rintro e w6 ⟨rfl,hb⟩;rw[Qf];have HO:=zh (HO.out.move hb);clear hb HB;have hO:=HO.out.al #[.bool false,.slice none 0 0] 92;have hD:aG (m11.add (w6.alloc (.cells #[.bool false,.slice none 0 0] 92)) w6.heap.size) (.slice (some ⟨w6.heap.size,0,none⟩) 1 1) [⟨false,[]⟩]:=
  ⟨_,1,rfl,zG _,by simp[maxLen],fun _=>⟨w6.heap.size,0,rfl,fun i hi=>by
   obtain rfl:i=0:=by simp at hi;omega
   exact⟨Mem.bW hO.obj (i:=0) rfl,_,Mem.bW hO.obj (i:=1) rfl,none,0,rfl,zG _,by simp[maxLen],fun h=>absurd rfl h⟩⟩⟩
 have HB:=zh (mI (.slice none 0 0) (.slice none 0 0) _ ⟨false,false,false,[],[],[⟨false,[]⟩]⟩ _ _ hO.iY.inn (HT.out.le (Mem.jE hO.iO)) ⟨aV _,aV _,hD⟩ ⟨zC _,zC _,by decide⟩);have HO:=zh hO.tail;clear hO hD HT
 go_wp2_with fail
 refine HB.out.mono ?_;rintro e w7 ⟨rfl,hb⟩;rw[Rw];have HE:=zh (HO.out.move hb).below;clear hb HB HO;go_wp2;exact hR.out _ _ ⟨rfl,HE.out⟩
end Cl
