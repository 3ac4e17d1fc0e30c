/- Lemmas for the proofs of chapter 11. -/
import Derived.Test.YtjhipmdamaocmaaGreatDoorPkN5
import Derived.Test.YtjhipmdamaocmaaGreatDoorPkN6
set_option maxRecDepth 100000
set_option maxHeartbeats 16000000
namespace Cl
open Go Go.RowKit Go.Proofs
def dlN (next:List (List Int)) (cls:List Int) (lv:List Bool) (s i:Nat):Option Nat:=if bt lv (cl cls (taN next s i).toNat)=true then some (taN next s i).toNat else none
def BB (f:Lit→Option Int) (cf:Nat→Int) (o:List Nat):Prop:=∀c:Int,f (.int .i64 c)=if posC cf o c<o.length then some ((posC cf o c:Nat):Int) else none
theorem AJ {f:Lit→Option Int} {cf:Nat→Int} {o:List Nat} (h:BB f cf o) (t:Nat) (hn:¬ posC cf o (cf t)<o.length):BB (fput f (.int .i64 (cf t)) o.length) cf (o ++ [t]):=by
 intro c;rw[Pf];by_cases e:c=cf t
 ·subst e;rw[rU,zH hn,zI rfl];simp
 ·rw[o7 f _ (by simpa using e),h c];by_cases d:posC cf o c<o.length
  ·rw[zI d,zI d,zI (by simp;omega)]
  ·have e':¬ cf t=c:=fun x=>e x.symm;rw[zH d,zH d,zH e',zH zS]
theorem Kg (cf:Nat→Int) (s:Nat):BB (fput (fun _=>none) (.int .i64 (cf s)) 0) cf [s]:=by
 have:=AJ (f:=fun _=>none) (cf:=cf) (o:=[]) (fun c=>by simp[posC]) s (by simp[posC]);simpa using this
def cZ (o:List Nat):List Value:=o.map fun (s:Nat)=>Value.int .i64 (s:Int)
theorem Own.pull {w0 w:World} {m mk:Mem} {l₁ l₂:List Cl.Item} {a:Cl.Item} (h:Own w0 m w mk (l₁ ++ a::l₂)):Own w0 m w mk (a::(l₁ ++ l₂)):=h.perm List.perm_middle.symm
theorem Own.vU {w0 w:World} {m mk:Mem} {l₁ l₂:List Cl.Item} {a:Cl.Item} (h:Own w0 m w mk (a::(l₁ ++ l₂))):Own w0 m w mk (l₁ ++ a::l₂):=h.perm List.perm_middle
theorem IX (fs:List Ed) (e:Ed) (t:Int) (b:Nat):(∃(fs':List Ed) (e':Ed),fs ++ [e]=fs' ++ [e']∧e'.to=t∧e'.hi+1=b)↔(e.to=t∧e.hi+1=b):=by
 constructor
 ·rintro ⟨fs',e',h,h1⟩;have:=congrArg List.getLast? h;simp at this;rw[this];exact h1
 ·intro h;exact⟨fs,e,rfl,h⟩
theorem qK (fs:List Ed) (e:Ed) (h:Nat):(bQ (fs ++ [e])).set (fs.length*3+1) (.int .u8 h)=bQ (fs ++ [⟨e.lo,h,e.to⟩]):=by
 rw[eT,eT,List.set_append_right _ _ (by rw[jQ];omega),jQ];simp
theorem Own.P9 {w0 w:World} {m mk:Mem} {L:List Cl.Item} {g:Nat} {t:TypeId} {x:Value} (h:Own w0 m w mk (.obj g t #[x]::L)):Own w0 m w mk (.row (.slice (some ⟨g,0,none⟩) 1 1) t 1 1 [x]::L):=by
 have hap:=List.pairwise_cons.1 h.apart;refine ⟨h.m0,h.below,h.ext,h.inn,?_,?_,.cons (fun b hb k h1 h2=>hap.1 b hb k h1 h2) hap.2⟩
 ·simp only[zV,forall_eq_or_imp];refine ⟨⟨rfl,.inr ⟨g,1,#[x],rfl,zC _,h.obj.get,zG _,by simp[maxLen],rfl,rfl⟩⟩,fun it hi=>h.ok it (zR _ hi)⟩
 ·simp only[zV,forall_eq_or_imp];exact⟨fun k hk=>h.fresh _ (yA ..) k hk,fun it hi=>h.fresh it (zR _ hi)⟩
structure OP (cuts:List Int) (lo hi:Nat→Nat):Prop where
 lo:∀i,(h:i<cuts.length)→cuts[i]=lo i
 hi:∀i,i<cuts.length→ES cuts i=hi i
theorem Bt (cf:Nat→Int) (dl:Nat→Nat→Option Nat) (lo hi:Nat→Nat) (ac:Nat→Bool) (K k:Nat) :
 dH cf dl lo hi ac K (k+1)=((bX cf dl lo hi ((dH cf dl lo hi ac K k).1.getD k 0) (dH cf dl lo hi ac K k).1 K).1,(dH cf dl lo hi ac K k).2 ++ [⟨ac ((dH cf dl lo hi ac K k).1.getD k 0),(bX cf dl lo hi ((dH cf dl lo hi ac K k).1.getD k 0) (dH cf dl lo hi ac K k).1 K).2⟩]):=rfl
theorem CE (g:Nat) (T:Table) (cuts:List Int) (next:List (List Int)) (acc:List Bool) (cls:List Int) (lo hi:Nat→Nat) (H:CU T cuts next acc lo hi) (hC:OP cuts lo hi) (hcls:uh T next.length cls)
 (hB:∀lv:List Bool,(∀c,bt lv c=true↔vD next acc cls c)→bt lv (cl cls 0)=true→qh T next.length (fun s=>cls.getD s 0) (dlN next cls lv) lo hi (fun s=>acc.getD s false) cuts.length)
 (hD:∀lv:List Bool,(∀c,bt lv c=true↔vD next acc cls c)→bt lv (cl cls 0)=false→∀w,aC T 0 w=false)
 (m:Mem) (w:World) (hm:m.inn w) (ht:TabAt m g cuts next acc cls) :
 Calls Tryz.prog 266 #[.pointer (some ⟨g,0,none⟩)] w fun e w'=>∃r C,e=.returned (.agg #[r])∧Below w.heap.size w w'∧aG (m.grow w w') r C∧Canon C∧(∀x,aC C 0 x=aC T 0 x)∧C.length≤next.length:=by
 have hpos:=H.pos;have hnlen:=H.nlen;have hclen:=H.clen;have hlive:=fun w (hw:m.inn w)=>Pp g cuts next acc cls m w hw ht H.alen hcls.len (fun r hr=>(H.rows r hr).2) hcls.rng H.nlen;have HL:=zh hlive;clear hlive;obtain⟨vc,vn,va,vk,e1,e2,e3,e4,⟨ca,cc,rfl,c1,c2,c3⟩,⟨na,nc,rfl,n1,n2,n3⟩,⟨aa,ac,rfl,a1,a2,a3⟩,⟨ka,kc,rfl,k1,k2,k3⟩⟩:=ht.ex;unfold maxLen at c2 n2 a2 k2;have hkl:=hcls.len;refine aj fun R hR=>?_;have hO:=(Own.start hm).al #[.slice none 0 0] 27;have HO:=zh hO;clear hO
 go_enter Tryz.func266,Tryz.ntmps266
 go_wp2_with fail
 refine (HL.out _ HO.out.inn).mono ?_;rintro e w1 ⟨r,lv,rfl,hb1,hr1,hlv,hlc⟩;have hO1:=HO.out.call hb1;have q3:=Mem.ak hm e4;obtain⟨kb,ko,rfl,k4⟩:=k3 (by intro h;simp[h] at hkl;omega);obtain⟨la,lc,rfl,l1,l2,l3⟩:=hr1;obtain⟨lb,lo',rfl,l4⟩:=l3 (by intro h;simp[h] at hlv;omega);have hk0:=hcls.rng cls[0] (zB zo);obtain⟨kn,hkn⟩:=zQ hk0.1;have d1:=k4 0 zo;rw[Nat.add_zero] at d1;have d1w:=Mem.ak (Mem.cK (Mem.le_trans (Mem.le_refl m) hO1.ext.le) hO1.inn) d1.1;have e4w:=Mem.ak (Mem.cK hO1.ext.le hO1.inn) e4;have egl:=Mem.ay (Mem.cK hO1.ext.le hO1.inn) e4;rw[hkn] at d1w hk0;have d2:=l4 kn zo;have d2w:=Mem.ak hO1.inn d2;have hcl0:bt lv (cl cls 0)=lv[kn]:=by
  have:cl cls 0=kn:=by simp[cl,show 0<cls.length by omega,hkn]
  rw[this,nH]
 have Hd:=zh (zi (hB lv hlc) (hD lv hlc));have Hcl:=zh hcl0;clear hcl0 hB hD hlc;generalize lv[kn]=b0 at *
 have hO1b:=hO1.obj.frozen 0;have hO1l:=hO1.obj.lt;have hO1c:=hO1.obj.c 0
 cases b0 with
 | false=>
  have hO2:=hO1.set 0 (.slice none 0 0);have Hfin:=zh hO2;clear hO2 hO1 HO;go_wp2;refine yQ (v:=.agg #[.slice none 0 0]) (by simp[results,Tryz.results266,go_sem,hO1c]) rfl ?_;refine hR.out _ _ ⟨_,[],rfl,Hfin.out.below,⟨none,0,rfl,zG _,by simp[maxLen],fun h=>absurd rfl h⟩,?_,fun x=>?_,zS⟩
  ·exact⟨fun s hs=>by simp at hs,fun s hs=>by simp at hs,fun s hs=>by simp at hs,fun k hk=>by simp at hk,fun i j hi=>by simp at hi,fun k b t hb ht=>by
    rw[dV [] k b zS] at ht;omega,fun t h1 h2=>by simp at h2⟩
  ·rw[Hd.out.2 Hcl.out x]
   exact fI [] 0 x zS
 | true=>
  have HB:=zh (Hd.out.1 Hcl.out);clear Hd Hcl;have hO2:=hO1.al #[.int .i64 0] 3;have hO3:=hO2.P9;have hO4:=hO3.BA (.map #[] 0);have hsz:(w1.alloc (.cells #[.int .i64 0] 3)).heap.size=w1.heap.size+1:=by simp
  rw[hsz] at hO4;have Hmm:=@run_makeMap Tryz.prog;have e4w2:=Mem.ak (Mem.cK hO4.ext.le hO4.inn) e4;have d1w2:=Mem.ak (Mem.cK hO4.ext.le hO4.inn) d1.1;rw[hkn] at d1w2;have hI:=IMap.made Tryz.prog 3 3;obtain⟨w5,ob5,hr5,hb5,hI5,hg5⟩:=hI.FT (Maps.int_keyed Tryz.underlying3) Tryz.underlying268 Tryz.underlying3 hO4.blob (by unfold maxLen;omega) (Maps.keyOf_int_mk Tryz.underlying3 (OX (n:=kn) zo)) (x:=0) zD;have hO5:=hO4.jm hb5 hg5;have HO5:=zh (zi hO5 hI5);clear hO5 hO4 hO3 hO2 hI5 hb5 hg5 hI;have hO6:=HO5.out.1.al #[.slice none 0 0] 27;have hI5:=HO5.out.2;simp only[Option.isSome_none] at hI5;clear HO5 hsz;have hO7:=(hO6.dI 92 2);have HO7:=zh (zi hO7 hI5);clear hO7 hO6 hI5;generalize hOo:w5.heap.size=Oo at *
  obtain⟨cf,hcf⟩:∃cf:Nat→Int,cf=fun s=>cls.getD s 0:=⟨_,rfl⟩;obtain⟨dl,hdl⟩:∃dl:Nat→Nat→Option Nat,dl=dlN next cls lv:=⟨_,rfl⟩;obtain⟨ah,hah⟩:∃ah:Nat→Bool,ah=fun s=>acc.getD s false:=⟨_,rfl⟩;rw[← hcf,← hdl,← hah] at HB;have hcf0:cf 0=kn:=by rw[hcf,← hkn];simp[show 0<cls.length by omega]
  have hI7:=HO7.out.2;rw[← hcf0] at hI7;have HI:=zh (fun k hk=>H7 (cf:=cf) (ac:=ah) HB.out.iv HB.out.pos (fun s i t h1 h2 h3=>(HB.out.some s i t h1 h2 h3).1) k hk);have Hfun:=zh (zi hcf (zi hdl hah));clear hcf hdl hah;go_wp2;refine au [0,2,3,4,5,6,7] (fun n vs wr=>∃(k:Nat) (vo vst:Value) (ob:Obj) (f:Lit→Option Int) (xs:List Value) (mk:Mem),
   (∀j,j<k→j<(dH cf dl lo hi ah cuts.length j).1.length)∧k≤(dH cf dl lo hi ah cuts.length k).1.length∧n=next.length - k ∧
   vs=[.pointer (some ⟨g,0,none⟩),.pointer (some ⟨w.heap.size,0,none⟩),.slice (some ⟨lb,lo',none⟩) next.length lc,vo,.map (some (w1.heap.size+1)),.pointer (some ⟨Oo,0,none⟩),.int .i64 k] ∧
   Own w m wr mk [.row vst 92 2 k xs,.obj Oo 27 #[vst],.blob (w1.heap.size+1) ob,.row vo 3 1 (dH cf dl lo hi ah cuts.length k).1.length (cZ (dH cf dl lo hi ah cuts.length k).1),.obj w.heap.size 27 #[.slice none 0 0]] ∧
   jA mk xs (dH cf dl lo hi ah cuts.length k).2∧IMap Tryz.prog 3 3 ob (dH cf dl lo hi ah cuts.length k).1.length (dH cf dl lo hi ah cuts.length k).1.length f∧BB f cf (dH cf dl lo hi ah cuts.length k).1 ∧
   (m.grow (w.alloc (.cells #[.slice none 0 0] 27)) w1).le mk) ?_ ?_
  ·exact⟨_,0,.slice (some ⟨w1.heap.size,0,none⟩) 1 1,.slice none 0 0,ob5,_,[],_,fun j hj=>zo,zC _,rfl,rfl,HO7.out.1,jA.nil _,hI7,Kg cf 0,Mem.le_refl _⟩
  clear HO7 hI7 hr5 d2w d1w d1w2 e4w e4w2 q3 hO1b hO1l hO1c;rintro X z n vs wr hX - ⟨k,vo,vst,ob,f,xs,mk,hk1,hk2,rfl,rfl,hO,hrow,hI,hOM,hmk⟩;simp[litL,lk];have hBI:=HI.out k hk1;obtain⟨voa,voc,rfl⟩:=aM hO.fourth.row;by_cases hlt:k<(dH cf dl lo hi ah cuts.length k).1.length
  ·have hsN:=hBI.lt _ (zB hlt);have hoN:=lK hBI.dif hBI.lt;have hmr:=Mem.cK hO.ext.le hO.inn;have hrowi:∃vo',voa=some ⟨vo',0,none⟩:=by
    rcases hO.fourth.row.2 with ⟨h,-⟩ | ⟨gg,cap,cur,h,-⟩
    ·injection h with h1 h2 h3;omega
    ·injection h with h1 h2 h3;exact⟨_,h1⟩
   obtain⟨vob,rfl⟩:=hrowi;have hr1s:(cZ (dH cf dl lo hi ah cuts.length k).1)[k]?=some (.int .i64 ((dH cf dl lo hi ah cuts.length k).1[k]:Nat)):=by simp[cZ,hlt]
   have r1:=aT (j:=k) hO.fourth.row hr1s;have hgd:(dH cf dl lo hi ah cuts.length k).1.getD k 0=(dH cf dl lo hi ah cuts.length k).1[k]:=by simp[hlt]
   have HBI:=zh hBI;clear hBI;have hl4:=fun c (h:c<lv.length)=>Mem.aB hmk (l4 c h);obtain⟨nb,no,rfl,n4⟩:=n3 (by intro h;simp[h] at hpos);obtain⟨ab,ao,rfl,a4⟩:=a3 (by intro h;have:=H.alen;simp[h] at this;omega);have hE:=Bt cf dl lo hi ah cuts.length k;rw[hgd] at hE;generalize (dH cf dl lo hi ah cuts.length k).1[k]=s at *
   have ha1:=a4 s (by have:=H.alen;omega);obtain⟨u,m1,ra,rc,rfl,m2,m3,m4⟩:=n4 s hsN;have ha1w:=Mem.ak hmr ha1;have ha1l:=Mem.ay hmr ha1;have m1w:=Mem.ak hmr m1;have e2w:=Mem.ak hmr e2;have e3w:=Mem.ak hmr e3;have e4w:=Mem.ak hmr e4;have egw:=Mem.ay hmr e4;have Hrows:=H.rows _ (zB hsN);have hahs:ah s=acc[s]'(by have:=H.alen;omega):=by
    have h1:=congrFun Hfun.out.2.2 s;have:s<acc.length:=by have:=H.alen;omega
    simpa [this] using h1
   rw[← hahs] at ha1w;unfold maxLen at m3;have hahN:s<acc.length:=by have:=H.alen;omega
   clear hahs ha1 hgd;generalize hrw:next[s]=row at *
   have Hob:=zh (show ∀j,j<k+1→j<(dH cf dl lo hi ah cuts.length j).1.length from fun j hj=>by
    by_cases c:j<k
    ·exact hk1 j c
    ·have:j=k:=zo;subst this;exact hlt)
   generalize dH cf dl lo hi ah cuts.length k=r at *
   obtain⟨o,out⟩:=r;simp only at *
   have hvo:=hO.fourth.row;have hol:=(World.ownsRow.lt hvo _ rfl).2;unfold maxLen at *
   go_wp2;refine aI [0,2,3,4,5,6,7,8] (fun vs w1'=>vs=[.pointer (some ⟨g,0,none⟩),.pointer (some ⟨w.heap.size,0,none⟩),.slice (some ⟨lb,lo',none⟩) next.length lc,.slice (some ⟨vob,0,none⟩) o.length voc,.map (some (w1.heap.size+1)),.pointer (some ⟨Oo,0,none⟩),.int .i64 k,.pointer (some ⟨wr.heap.size,0,none⟩)] ∧
    w1'=(wr.alloc (.cells #[.bool (ah s),.slice none 0 0] 92)).drew) ?_ ?_
   ·intro Y hY
    go_region
    all_goals exact hY.out _ _ rfl ⟨rfl,rfl⟩
   rintro z1 vs w1' - ⟨rfl,rfl⟩;simp[litL,lk];have hO1:=((hO.al #[.bool (ah s),.slice none 0 0] 92).dr).dI 133 3;have HO1:=zh hO1;clear hO1 hO;have hSz:wr.heap.size<(wr.alloc (.cells #[.bool (ah s),.slice none 0 0] 92)).drew.heap.size:=by simp
   generalize hS:wr.heap.size=S at *
   generalize (wr.alloc (.cells #[.bool (ah s),.slice none 0 0] 92)).drew=w2 at *
   have hmr2:=Mem.cK HO1.out.ext.le HO1.out.inn;have m1w:=Mem.ak hmr2 m1;have m1l:=Mem.ay hmr2 m1;have e2w:=Mem.ak hmr2 e2;have e2l:=Mem.ay hmr2 e2;have r1:=aT (j:=k) (u:=.int .i64 s) (HO1.out.jY (v:=.slice (some ⟨vob,0,none⟩) o.length voc) (t:=3) (size:=1) (n:=o.length) (xs:=cZ o) zS) hr1s;go_wp2
   go_quiet (fail)
   go_wp2;have hRI:∀i,i≤cuts.length→Jw cf dl lo hi cuts.length next.length s o i (bX cf dl lo hi s o i):=
    FV HB.out.iv HBI.out.dif HBI.out.lt (fun i t hi' ht=>(HB.out.some s i t hsN hi' ht).1)
   have HRI:=zh hRI;clear hRI;refine au [0,2,3,4,5,6,7,8,63,64,65] (fun n vs wr2=>∃(i:Nat) (vo ve:Value) (ob:Obj) (f:Lit→Option Int),i≤cuts.length∧n=cuts.length - i ∧
    vs=[.pointer (some ⟨g,0,none⟩),.pointer (some ⟨w.heap.size,0,none⟩),.slice (some ⟨lb,lo',none⟩) next.length lc,vo,.map (some (w1.heap.size+1)),.pointer (some ⟨Oo,0,none⟩),.int .i64 k,.pointer (some ⟨S,0,none⟩),.slice ra cuts.length rc,.int .i64 cuts.length,.int .i64 i] ∧
    Own w m wr2 mk [.row ve 133 3 (bX cf dl lo hi s o i).2.length (bQ (bX cf dl lo hi s o i).2),.obj S 92 #[.bool (ah s),ve],.row vst 92 2 k xs,.obj Oo 27 #[vst],.blob (w1.heap.size+1) ob,
     .row vo 3 1 (bX cf dl lo hi s o i).1.length (cZ (bX cf dl lo hi s o i).1),.obj w.heap.size 27 #[.slice none 0 0]] ∧
    IMap Tryz.prog 3 3 ob (bX cf dl lo hi s o i).1.length (bX cf dl lo hi s o i).1.length f∧BB f cf (bX cf dl lo hi s o i).1) ?_ ?_
   ·exact⟨_,0,.slice (some ⟨vob,0,none⟩) o.length voc,.slice none 0 0,ob,f,zC _,rfl,rfl,HO1.out.drN _,hI,hOM⟩
   clear HO1 hI hOM r1 m1w m1l e2w e2l hSz hmr2;rintro Y z2 n vs wr2 hY - ⟨i,vo,ve,ob,f,hi1,rfl,rfl,hO,hI,hOM⟩;simp[litL,lk];have hri:=HRI.out i hi1;obtain⟨voa,vocc,rfl⟩:=aM (hO.jY (v:=vo) (t:=3) (size:=1) (n:=(bX cf dl lo hi s o i).1.length) (xs:=cZ (bX cf dl lo hi s o i).1) zS);obtain⟨vea,vec,rfl⟩:=aM hO.row;have hqN:=lK hri.dif hri.lt;have hqe:=DI cf dl lo hi s o i;by_cases hlt3:i<cuts.length
   ·have hilr:i<row.length:=zo;obtain⟨rb,ro,rfl,m5⟩:=m4 (by intro h;simp[h] at hilr);have hmr3:=Mem.cK hO.ext.le hO.inn;have x1:=Mem.ak hmr3 (m5 i hilr).1;have hxr:=Hrows.2 row[i] (zB hilr);obtain⟨xn,hxn⟩:=zQ hxr.1;have hta:taN next s i=row[i]:=by
     unfold taN nx;have:next.getD s []=row:=by rw[← hrw];simp[hsN]
     rw[this];simp[hilr]
    rw[hxn] at x1 hxr hta;have hxl:xn<cls.length:=zo;have y1:=k4 xn hxl;have y1w:=Mem.ak hmr3 y1.1;have hyr:=hcls.rng cls[xn] (zB hxl);obtain⟨cn,hcn⟩:=zQ hyr.1;rw[hcn] at y1w hyr;have hcfx:cf xn=cn:=by
     have h1:=congrFun Hfun.out.1 xn;simpa [hxl,hcn] using h1
    have z1w:=Mem.ak hO.inn (hl4 cn zo);have hdlx:dl s i=if lv[cn]'zo=true then some xn else none:=by
     have h1:=congrFun (congrFun Hfun.out.2.1 s) i;rw[h1];unfold dlN;rw[hta];have h2:cl cls ((xn:Int).toNat)=cn:=by simp[cl,hxl,hcn]
     rw[h2,nH zo]
     rfl
    have e4w:=Mem.ak hmr3 e4;have egw:=Mem.ay hmr3 e4;generalize hlvb:lv[cn]'zo=b at *
    clear hta hcn hxn hlvb
    cases b with
    | false=>
     have hN:=Aq (cf:=cf) (lo:=lo) (hi:=hi) (o:=o) (by simpa using hdlx);have HN:=zh hN;clear hN hdlx hcfx;go_wp2;refine hY.out _ _ _ zo rfl ⟨i+1,.slice voa (bX cf dl lo hi s o i).1.length vocc,.slice vea (bX cf dl lo hi s o i).2.length vec,ob,f,zo,rfl,rfl,?_,?_,?_⟩
     ·rw[HN.out];exact hO
     ·rw[HN.out];exact hI
     ·rw[HN.out];exact hOM
    | true=>
     have hN:=Ap (cf:=cf) (lo:=lo) (hi:=hi) (o:=o) (t:=xn) (by simpa using hdlx);have hri2:=HRI.out (i+1) zo;have HN:=zh (zi hN (zi hri2 hri));clear hN hdlx hri2 hri;generalize bX cf dl lo hi s o i=q at *
     obtain⟨o',es⟩:=q;simp only at hO hI hOM hqN hqe;have hkey:=Maps.keyOf_int_mk Tryz.underlying3 (OX (n:=cn) zo);have hrun:=hI.Mi (Maps.int_keyed Tryz.underlying3) Tryz.underlying268 Tryz.underlying3 JB (hO.CK (g:=w1.heap.size+1) (o:=ob) zS) hkey
     go_upto_if 89 with (fail)
     refine aI [0,2,3,4,5,6,7,8,9,10,11,63,64,65] (fun vs w'=>∃(vo2:Value) (ob2:Obj) (f2:Lit→Option Int),
      vs=[.pointer (some ⟨g,0,none⟩),.pointer (some ⟨w.heap.size,0,none⟩),.slice (some ⟨lb,lo',none⟩) next.length lc,vo2,.map (some (w1.heap.size+1)),.pointer (some ⟨Oo,0,none⟩),.int .i64 k,.pointer (some ⟨S,0,none⟩),.int .i64 i,.int .i64 xn,.int .i64 cn,.slice (some ⟨rb,ro,none⟩) cuts.length rc,.int .i64 cuts.length,.int .i64 i] ∧
      Own w m w' mk [.row (.slice vea es.length vec) 133 3 es.length (bQ es),.obj S 92 #[.bool (ah s),.slice vea es.length vec],.row vst 92 2 k xs,.obj Oo 27 #[vst],.blob (w1.heap.size+1) ob2,
       .row vo2 3 1 (dw cf o' xn).length (cZ (dw cf o' xn)),.obj w.heap.size 27 #[.slice none 0 0]] ∧
      IMap Tryz.prog 3 3 ob2 (dw cf o' xn).length (dw cf o' xn).length f2∧BB f2 cf (dw cf o' xn)) ?_ ?_
     ·intro Z hZ;have hfc:=hOM (cn:Int);by_cases hp:posC cf o' cn<o'.length
      ·rw[zI hp] at hfc;have hoa:dw cf o' xn=o':=by
        unfold dw;rw[← Ga,hcfx,zI hp]
       have Hoa:=zh (zi hoa (zi hI hOM));rw[hfc];simp only[Option.isNone_some,Option.isSome_some,Option.getD_some];clear hoa hp hI hOM hrun hfc;go_wp2;refine hZ.out _ _ rfl ⟨.slice voa o'.length vocc,ob,f,rfl,?_,?_,?_⟩
       ·rw[Hoa.out.1];exact hO
       ·rw[Hoa.out.1];exact Hoa.out.2.1
       ·rw[Hoa.out.1];exact Hoa.out.2.2
      ·rw[zH hp] at hfc;have hoa:dw cf o' xn=o' ++ [xn]:=by
        unfold dw;rw[← Ga,hcfx,zH hp]
       have hOM2:=AJ hOM xn (by rw[hcfx];exact hp);rw[hcfx] at hOM2;have hO1:=hO.pull (l₁:=[_,_,_,_]);obtain⟨w4,ob4,hr4,hb4,hI4,hg4⟩:=hI.FT (Maps.int_keyed Tryz.underlying3) Tryz.underlying268 Tryz.underlying3 hO1.blob (by unfold maxLen;omega) hkey (OX (n:=o'.length) zo);rw[hfc] at hI4;simp only[Option.isSome_none] at hI4;have hO2:=(hO1.jm hb4 hg4).vU (l₁:=[_,_,_,_]);have hO3:=(hO2.al #[.int .i64 xn] 3);have Hk:=zh (zi hoa (zi hOM2 hI4));rw[hfc];simp only[Option.isNone_none,Option.isSome_none,Option.getD_none];clear hoa hOM2 hI4 hOM hI hrun hp hb4 hg4 hO1 hO2 hfc
       go_wp2_with (at_builtin;refine aA vV rfl (.tmp 94) (.tmp 96) rfl (.slice voa o'.length vocc) o'.length (cZ o') rfl (hO3.jY zS) ⟨w4.heap.size,0,none⟩ 1 1 [.int .i64 xn] rfl rfl (hO3.obj.news rfl) (by simp[Value.oneCell']) (by unfold maxLen;omega) zo ?_)
       intro va vc' w5 hown5 hgrow5 hrow5;have hO4:=(hO3.pull (l₁:=[_,_,_,_,_,_])).app hown5 hgrow5 hrow5 zS;have hO5:=hO4.vU (l₁:=[_,_,_,_,_,_]);have HO5:=zh hO5.tail;clear hO5 hO4 hO3 hown5 hgrow5 hrow5;go_wp2;refine hZ.out _ _ rfl ⟨.slice va (o'.length+1) vc',ob4,fput f (.int .i64 cn) o'.length,rfl,?_,?_,?_⟩
       ·rw[Hk.out.1];have:=HO5.out;simpa [cZ] using this
       ·rw[Hk.out.1];simpa using Hk.out.2.2
       ·rw[Hk.out.1];exact Hk.out.2.1
     rintro z3 vs w4 - ⟨vo2,ob2,f2,rfl,hO4,hI4,hOM4⟩;simp[litL,lk];clear hO hI hOM hrun;obtain⟨voa2,voc2,rfl⟩:=aM (hO4.jY (v:=vo2) (t:=3) (size:=1) (n:=(dw cf o' xn).length) (xs:=cZ (dw cf o' xn)) zS);have hap:=oQ cf o' xn;have hfp:=hOM4 (cn:Int);have hpc:posC cf (dw cf o' xn) cn=dL cf o' xn:=by rw[← hcfx,Ga];exact hap.1
     rw[hpc,zI hap.2] at hfp;have hlk:=fun nq=>hI4.FU (w:=w4.drewN nq) (Maps.int_keyed Tryz.underlying3) Tryz.underlying268 Tryz.underlying3 JB (hO4.CK (g:=w1.heap.size+1) (o:=ob2) zS) hkey;rw[hfp] at hlk;simp only[Option.getD_some] at hlk;generalize dL cf o' xn=p at *
     have hpN:p≤2000000:=by
      have:=HN.out.2.1.pre;have h2:=lK HN.out.2.1.dif HN.out.2.1.lt;rw[HN.out.1] at h2;simp only at h2;omega
     have s1:=(hO4.swap.obj).cell (i:=1) rfl;obtain⟨cb,co,rfl,c4⟩:=c3 (by intro h;simp[h] at hlt3);have hcell:=c4 i hlt3;rw[hC.lo i hlt3] at hcell;have hle:=HB.out.iv.le i hlt3;have hmr4:=Mem.cK hO4.ext.le hO4.inn;have c4w:=Mem.ak hmr4 hcell.1;have e1w:=Mem.ak hmr4 e1;have e1l:=Mem.ay hmr4 e1;have hedok:=vH (N:=next.length) HN.out.2.2 zo;simp only at hedok;clear e4w egw x1 y1w z1w;go_wp2;refine aI [0,2,3,4,5,6,7,8,9,10,11,14,63,64,65,134] (fun vs w'=>∃(bb:Bool) (nq:Nat),
      vs=[.pointer (some ⟨g,0,none⟩),.pointer (some ⟨w.heap.size,0,none⟩),.slice (some ⟨lb,lo',none⟩) next.length lc,.slice voa2 (dw cf o' xn).length voc2,.map (some (w1.heap.size+1)),.pointer (some ⟨Oo,0,none⟩),.int .i64 k,.pointer (some ⟨S,0,none⟩),.int .i64 i,.int .i64 xn,.int .i64 cn,.int .i64 es.length,.slice (some ⟨rb,ro,none⟩) cuts.length rc,.int .i64 cuts.length,.int .i64 i,.bool bb] ∧
      w'=w4.drewN nq∧(bb=true↔∃(fs:List Ed) (e:Ed),es=fs ++ [e]∧e.to=(p:Int)∧e.hi+1=lo i)) ?_ ?_
     ·intro Z hZ;rcases List.eq_nil_or_concat es with rfl | ⟨fs,e,he⟩
      ·refine wp_region_quiet_lit zk zk ?_
       repeat (any_goals (first | go_big_quiet_step (fail) | quiet_step (fail) | (refine wpQuiet_step (fun K hK=>?_);go_simp;split <;> (refine hK _ ?_;clear hK K))))
       all_goals (refine wpQuiet_nil ?_;intro _ hw';obtain⟨nq,hw''⟩:=hw';subst hw'')
       all_goals go_wp2
       all_goals exact hZ.out _ _ rfl ⟨false,nq,rfl,rfl,zS⟩
      ·rw[List.concat_eq_append] at he;subst he;have hvea:∃eb,vea=some ⟨eb,0,none⟩:=by
        rcases hO4.row.2 with ⟨h,-⟩ | ⟨gg,cap,cur,h,-⟩
        ·injection h with h1 h2 h3;simp at h2
        ·injection h with h1 h2 h3;exact⟨_,h1⟩
       obtain⟨eb,rfl⟩:=hvea;have hec:=ja (fs ++ [e]) fs.length zS;have hel:(fs ++ [e])[fs.length]'zS=e:=by simp
       rw[hel] at hec;have t1:=aT hO4.row hec.2.1;have t2:=aT hO4.row hec.2.2;have hek:=hedok e zS;clear hel hec;have hqe2:=hqe;simp only[zJ,yJ,List.length_nil] at hqe2;have hw1:IntKind.i64.wrap ((((fs ++ [e]).length:Nat):Int) - 1)=(fs.length:Int):=by
        rw[IntWalk.i64_in _ (by simp;omega)];simp
       have hw2:IntKind.i64.wrap ((e.hi:Int)+1)=(e.hi:Int)+1:=IntWalk.i64_in _ zo;have hw3:fs.length<(fs ++ [e]).length:=by simp
       have HL:=zh (IX fs e (p:Int) (lo i));refine wp_region_quiet_lit zk zk ?_
       repeat (any_goals (first | go_big_quiet_step (fail) | quiet_step (fail) | (refine wpQuiet_step (fun K hK=>?_);go_simp;split <;> (refine hK _ ?_;clear hK K))))
       all_goals (refine wpQuiet_nil ?_;intro _ hw';obtain⟨nq,hw''⟩:=hw';subst hw'')
       all_goals go_wp2
       all_goals first
        | (refine hZ.out _ _ rfl ⟨true,nq,zS,rfl,?_⟩;rw[HL.out];simp only[true_iff];omega)
        | (refine hZ.out _ _ rfl ⟨false,nq,zS,rfl,?_⟩;rw[HL.out];simp only[Bool.false_eq_true,false_iff];omega)
        | (refine hZ.out _ _ rfl ⟨(e.hi:Int)+1==(lo i:Int),nq,zS,rfl,?_⟩;rw[HL.out];simp only[beq_iff_eq];omega)
     rintro z5 vs w5 - ⟨bb,nq,rfl,rfl,hbb⟩;simp[litL,lk];have hO5:=(hO4.drN nq).dr;have hEnd:=fun w' (hw:m.inn w')=>Ra g cuts next acc cls i m w' hw ht hlt3 (fun h=>by
      have h1:=HB.out.iv.sep i (i+1) zo h;have h2:=HB.out.iv.le (i+1) h;have h3:=hC.lo (i+1) h;omega)
     rw[hC.hi i hlt3] at hEnd;have HEnd:=zh hEnd;clear hEnd c4w e1w e1l s1 hlk;have hle2:=HB.out.iv.le i hlt3
     cases bb with
     | true=>
      obtain⟨fs,e,hes,he1,he2⟩:=hbb.1 rfl;subst hes;have hvea:∃eb,vea=some ⟨eb,0,none⟩:=by
       rcases hO5.row.2 with ⟨h,-⟩ | ⟨gg,cap,cur,h,-⟩
       ·injection h with h1 h2 h3;simp at h2
       ·injection h with h1 h2 h3;exact⟨_,h1⟩
      obtain⟨eb,rfl⟩:=hvea;have hqe2:=hqe;simp only[zJ,yJ,List.length_nil] at hqe2;have hw1:IntKind.i64.wrap ((((fs ++ [e]).length:Nat):Int) - 1)=(fs.length:Int):=by
       rw[IntWalk.i64_in _ (by simp;omega)];simp
      have hw3:fs.length<(fs ++ [e]).length:=by simp
      have hw4:IntKind.i64.wrap (fs.length:Int)=(fs.length:Int):=IntWalk.i64_in _ zo;have hw5:(fs.length:Int)<(fs.length:Int)+1:=zo;have hpe:=Ay (lo:=lo i) (hi:=hi i) (fs:=fs) (zi he1 he2);have Hpe:=zh hpe;clear hpe he1 he2 hbb;go_wp2;have s1:=hO5.swap.obj.c 1;have hm5:=Mem.cK hO5.ext.le hO5.inn;have f1:=dh hO5.row (fs.length*3+1);have c1:=aT hO5.row (ja (fs ++ [e]) fs.length zS).2.1;have hO6:=hO5.setRow (fs.length*3+1) (.int .u8 (hi i));rw[qK] at hO6;have Hfin:=zh hO6;clear hO6 hO5 hO4;refine wp_region_still_tail 9 zk zk ?_;change wpStill _ _ (w4.drewN nq).drew (fun a'=>wpList _ _ _ _ a' (w4.drewN nq).drew) _ _;generalize (w4.drewN nq).drew=w6 at *
      simp only[List.take_succ_cons,List.take_zero,List.drop_succ_cons,List.drop_zero]
      repeat still_step
      still_call (HEnd.out _ hm5)
      repeat still_step
      refine wpStill_nil ?_;go_wp2;refine hY.out _ _ _ zo rfl ⟨i+1,.slice voa2 (dw cf o' xn).length voc2,.slice (some ⟨eb,0,none⟩) (fs ++ [e]).length vec,ob2,f2,zo,rfl,rfl,?_,?_,?_⟩
      ·rw[HN.out.1,Hpe.out];have:=Hfin.out;simpa using this
      ·rw[HN.out.1];exact hI4
      ·rw[HN.out.1];exact hOM4
     | false=>
      have hpe:jD es (lo i) (hi i) p=es ++ [⟨lo i,hi i,(p:Int)⟩]:=by
       rcases List.eq_nil_or_concat es with rfl | ⟨fs,e,he⟩
       ·rfl
       ·rw[List.concat_eq_append] at he;subst he;exact Az fun h=>by have:=hbb.2 ⟨fs,e,rfl,h.1,h.2⟩;cases this
      have Hpe:=zh hpe;clear hpe hbb;have hlk:=fun nq=>hI4.FU (w:=w4.drewN nq) (Maps.int_keyed Tryz.underlying3) Tryz.underlying268 Tryz.underlying3 JB (hO4.CK (g:=w1.heap.size+1) (o:=ob2) zS) hkey;rw[hfp] at hlk;simp only[Option.getD_some] at hlk;have hwu:IntKind.u8.wrap (lo i:Int)=(lo i:Int):=IntWalk.u8_in _ zo;have hO5:=hO4.drN (nq+1);have mkS:∀{w':World} {L:List Cl.Item},Own w m w' mk L→Item.obj S 92 #[.bool (ah s),.slice vea es.length vec]∈L→Item.blob (w1.heap.size+1) ob2∈L →
       (bE w' S 92 #[.bool (ah s),.slice vea es.length vec]∧w'.cell? ⟨g,0,none⟩=some (.slice (some ⟨cb,co,none⟩) cuts.length cc)∧w'.cell? ⟨cb,co+i,none⟩=some (.int .i64 (lo i))∧(Instr.lookup 268 (.map (some (w1.heap.size+1))) (.int .i64 cn) false).run Tryz.prog w'=.ok (.int .i64 p) w'):=by
       intro w' L hO h1 h2;refine ⟨hO.d9 h1,Mem.ak (Mem.cK hO.ext.le hO.inn) e1,Mem.ak (Mem.cK hO.ext.le hO.inn) hcell.1,?_⟩;have:=hI4.FU (Maps.int_keyed Tryz.underlying3) Tryz.underlying268 Tryz.underlying3 JB (hO.CK h2) hkey;rw[hfp] at this;exact this
      go_wp2;refine fo (fun w'=>bE w' S 92 #[.bool (ah s),.slice vea es.length vec]∧w'.cell? ⟨g,0,none⟩=some (.slice (some ⟨cb,co,none⟩) cuts.length cc)∧w'.cell? ⟨cb,co+i,none⟩=some (.int .i64 (lo i))∧(Instr.lookup 268 (.map (some (w1.heap.size+1))) (.int .i64 cn) false).run Tryz.prog w'=.ok (.int .i64 p) w') 20 zk ?_;have hS:=mkS hO5 zS zS;refine az 0 rfl zk (fun _ _ _ h=>h) hS (av rfl fun w' hS'=>by have q:=hS'.1.cell (i:=1) rfl;have q1:=hS'.2.1;have q2:=hS'.2.2.1;have q3:=hS'.2.2.2;go_simp;rfl) ?_;refine az 1 rfl zk (fun _ _ _ h=>h) hS (av rfl fun w' hS'=>by have q:=hS'.1.cell (i:=1) rfl;have q1:=hS'.2.1;have q2:=hS'.2.2.1;have q3:=hS'.2.2.2;go_simp;rfl) ?_;refine az 2 rfl zk (fun _ _ _ h=>h) hS (av rfl fun w' hS'=>by have q:=hS'.1.cell (i:=1) rfl;have q1:=hS'.2.1;have q2:=hS'.2.2.1;have q3:=hS'.2.2.2;go_simp;rfl) ?_;refine az 3 rfl zk (fun _ _ _ h=>h) hS (av rfl fun w' hS'=>by have q:=hS'.1.cell (i:=1) rfl;have q1:=hS'.2.1;have q2:=hS'.2.2.1;have q3:=hS'.2.2.2;go_simp;rfl) ?_;refine az 4 rfl zk (fun _ _ _ h=>h) hS (av rfl fun w' hS'=>by have q:=hS'.1.cell (i:=1) rfl;have q1:=hS'.2.1;have q2:=hS'.2.2.1;have q3:=hS'.2.2.2;go_simp;rfl) ?_;refine az 5 rfl zk (fun _ _ _ h=>h) hS (av rfl fun w' hS'=>by have q:=hS'.1.cell (i:=1) rfl;have q1:=hS'.2.1;have q2:=hS'.2.2.1;have q3:=hS'.2.2.2;go_simp;rfl) ?_;refine az 6 rfl zk (fun _ _ _ h=>h) hS (av rfl fun w' hS'=>by have q:=hS'.1.cell (i:=1) rfl;have q1:=hS'.2.1;have q2:=hS'.2.2.1;have q3:=hS'.2.2.2;go_simp;rfl) ?_;refine az 7 rfl zk (fun _ _ _ h=>h) hS (av rfl fun w' hS'=>by have q:=hS'.1.cell (i:=1) rfl;have q1:=hS'.2.1;have q2:=hS'.2.2.1;have q3:=hS'.2.2.2;go_simp;rfl) ?_;refine az 8 rfl zk (fun _ _ _ h=>h) hS (av rfl fun w' hS'=>by have q:=hS'.1.cell (i:=1) rfl;have q1:=hS'.2.1;have q2:=hS'.2.2.1;have q3:=hS'.2.2.2;go_simp;rfl) ?_;refine az 9 rfl zk (fun _ _ _ h=>h) hS (av rfl fun w' hS'=>by have q:=hS'.1.cell (i:=1) rfl;have q1:=hS'.2.1;have q2:=hS'.2.2.1;have q3:=hS'.2.2.2;go_simp;rfl) ?_;refine az 10 rfl zk (fun _ _ _ h=>h) hS (av rfl fun w' hS'=>by have q:=hS'.1.cell (i:=1) rfl;have q1:=hS'.2.1;have q2:=hS'.2.2.1;have q3:=hS'.2.2.2;go_simp;rfl) ?_;refine az 11 rfl zk (fun _ _ _ h=>h) hS (av rfl fun w' hS'=>by have q:=hS'.1.cell (i:=1) rfl;have q1:=hS'.2.1;have q2:=hS'.2.2.1;have q3:=hS'.2.2.2;go_simp;rfl) ?_;refine az 13 rfl zk (fun _ _ _ h=>h) hS (av rfl fun w' hS'=>by have q:=hS'.1.cell (i:=1) rfl;have q1:=hS'.2.1;have q2:=hS'.2.2.1;have q3:=hS'.2.2.2;go_simp;rfl) ?_;refine az 14 rfl zk (fun _ _ _ h=>h) hS (av rfl fun w' hS'=>by have q:=hS'.1.cell (i:=1) rfl;have q1:=hS'.2.1;have q2:=hS'.2.2.1;have q3:=hS'.2.2.2;go_simp;rfl) ?_;refine az 15 rfl zk (fun _ _ _ h=>h) hS (av rfl fun w' hS'=>by have q:=hS'.1.cell (i:=1) rfl;have q1:=hS'.2.1;have q2:=hS'.2.2.1;have q3:=hS'.2.2.2;go_simp;rfl) ?_;go_simp;refine aH 12 zk (aF rfl rfl (cO (by go_simp) (HEnd.out _ (Mem.cK hO5.ext.le hO5.inn)) ?_));rintro e' w6 ⟨rfl,rfl⟩;refine ⟨_,rfl,andS hS fun hS1=>?_⟩;go_simp;refine aH 16 zk (aF rfl rfl (aP (by go_simp;first | exact⟨rfl,rfl⟩ | rfl) (andS hS fun _=>?_)));go_simp;have hO6:=hO5.al #[.int .u8 (lo i),.int .u8 (hi i),.int .i64 p] 133;refine aH 17 zk (aF rfl rfl (aP (by go_simp;first | exact⟨rfl,rfl⟩ | rfl) (andS (mkS hO6 zS zS) fun _=>?_)));go_simp;refine aH 18 zk (aF rfl rfl (dR mF (.tmp 145) (.tmp 161) rfl (.slice vea es.length vec) es.length (bQ es) rfl hO6.swap.row ⟨w4.heap.size,0,none⟩ 1 1 [.int .u8 (lo i),.int .u8 (hi i),.int .i64 p] rfl rfl (hO6.obj.news rfl) (by simp[Value.oneCell']) (by unfold maxLen;omega) zo (fun na' nc' w7 hown7 hgrow7 hrow7=>?_)));have hO7:=hO6.swap.app hown7 hgrow7 hrow7 (zG _);refine andS (mkS hO7 zS zS) fun hS3=>?_;go_simp;refine aH 19 zk (aF rfl rfl (aP (by go_simp;first | exact⟨rfl,rfl⟩ | rfl) (andS hS3 fun _=>?_)));go_simp;have f3:=hS3.1.frozen 1;have c3:=hS3.1.cell (i:=1) rfl;refine aH 20 zk (aF rfl rfl (aZ (by go_simp;rfl) (iP rfl ?_)));refine dE zk ?_ _;have hO8:=((hO7.third.set 1 (.slice na' (es.length+1) nc')).kV).swap;have Hfin:=zh hO8;clear hO8 hO7 hO6 hO5 hO4 hS hS1 hS3 f3 c3 hown7 hgrow7 hrow7;go_wp2;refine hY.out _ _ _ zo rfl ⟨i+1,.slice voa2 (dw cf o' xn).length voc2,.slice na' (es.length+1) nc',ob2,f2,zo,rfl,rfl,?_,?_,?_⟩
      ·rw[HN.out.1,Hpe.out];have:=Hfin.out;simpa [eT] using this
      ·rw[HN.out.1];exact hI4
      ·rw[HN.out.1];exact hOM4
   ·obtain rfl:i=cuts.length:=zo;have s0:=hO.swap.obj.c 0;have s1:=hO.swap.obj.c 1;have sl:=hO.swap.obj.lt;have u0:=(hO.d9 (g:=Oo) (t:=27) (arr:=#[vst]) zS).cell (i:=0) rfl;have hes:=fC (l:=(bX cf dl lo hi s o cuts.length).2) (m:=mk) hO.row (vH (N:=next.length) hri zo);have hO2:=hO.bv;have hmk2:=Mem.dG (w:=wr2) hO.free;have hrow2:=(hrow.mono hmk2).push (s:=⟨ah s,(bX cf dl lo hi s o cuts.length).2⟩) hes;obtain⟨vsta,vstc,rfl⟩:=aM hO2.swap.row;have hO3:=hO2.al #[.bool (ah s),.slice vea (bX cf dl lo hi s o cuts.length).2.length vec] 92;have hoN2:=lK HBI.out.dif HBI.out.lt;simp only at hoN2;have Hk:=zh (zi hrow2 (zi (Mem.le_trans hmk hmk2) (zi hI hOM)));clear hrow2 hes hI hOM hmk2;generalize mk.addv wr2 (.slice vea (bX cf dl lo hi s o cuts.length).2.length vec)=mk2 at *
    have hnews:=hO3.obj.news rfl;have hvr:=hO3.third.row;clear hO hO2
    go_wp2_with (at_builtin;refine aA iJ rfl (.tmp 166) (.tmp 168) rfl (.slice vsta k vstc) k xs rfl hvr ⟨wr2.heap.size,0,none⟩ 1 1 [.bool (ah s),.slice vea (bX cf dl lo hi s o cuts.length).2.length vec] rfl rfl hnews (by simp[Value.oneCell']) (by unfold maxLen;omega) zo ?_)
    intro va vc w7 hown7 hgrow7 hrow7;have hO4:=(hO3.third.app hown7 hgrow7 hrow7 zS).fourth;clear hown7 hgrow7 hrow7 hO3 hvr hnews;have u2:=hO4.obj.c 0;have u3:=hO4.obj.frozen 0;have u4:=hO4.obj.lt;have hO5:=((hO4.set 0 (.slice va (k+1) vc)).swap).kV.kV;have HO5:=zh hO5;clear hO5 hO4;go_wp2;have hpre:=hri.pre.length_le;refine hX.out _ _ _ zo rfl ⟨k+1,.slice voa (bX cf dl lo hi s o cuts.length).1.length vocc,.slice va (k+1) vc,ob,f,xs ++ [.bool (ah s),.slice vea (bX cf dl lo hi s o cuts.length).2.length vec],mk2,?_,?_,rfl,rfl,?_,?_,?_,?_,Hk.out.2.1⟩
    ·exact Hob.out
    ·rw[hE];show k+1≤(bX cf dl lo hi s o cuts.length).1.length;omega
    ·rw[hE];exact HO5.out
    ·rw[hE];exact Hk.out.1
    ·rw[hE];exact Hk.out.2.2.1
    ·rw[hE];exact Hk.out.2.2.2
  ·have hkl2:(dH cf dl lo hi ah cuts.length k).1.length=k:=zo;have hcan:=Fq HB.out hk1 hkl2;have hNl:=lK hBI.dif hBI.lt;rw[hkl2] at hNl;have hclen:=hBI.len;generalize dH cf dl lo hi ah cuts.length k=r at *
   obtain⟨vsta,vstc,rfl⟩:=aM hO.row;have u1:=(hO.d9 (g:=Oo) (t:=27) (arr:=#[.slice vsta k vstc]) zS).cell (i:=0) rfl;have hO2:=(hO.pull (l₁:=[_,_,_,_]));have u2:=hO2.obj.c 0;have u3:=hO2.obj.frozen 0;have u4:=hO2.obj.lt;have hO3:=(hO2.set 0 (.slice vsta k vstc)).swap;have hst:=dK (l:=r.2) (m:=mk) (by rw[hclen];exact hO3.row) hrow hO3.free;have hst2:=aJ hO3.bv.done hst;have hbel:=hO3.below;have Hk:=zh (zi hcan (zi hst2 (zi hbel (zi hNl hclen))));clear hcan hst hst2 hbel hNl hclen hO3 hO2 hO hI hOM hBI hrow hkl2;go_wp2;refine yQ (v:=.agg #[.slice vsta k vstc]) (by simp[results,Tryz.results266,go_sem,u2]) rfl ?_;refine hR.out _ _ ⟨_,r.2,rfl,Hk.out.2.2.1,Hk.out.2.1,Hk.out.1.1,Hk.out.1.2,?_⟩;have h1:=Hk.out.2.2.2.1;have h2:=Hk.out.2.2.2.2;omega
theorem tO (es:List Ed) (b k:Nat) (h:k<es.length):aY (es.drop k) b=if (es[k]).lo≤b∧b≤(es[k]).hi then (es[k]).to else aY (es.drop (k+1)) b:=by
 rw[zZ h];rfl
theorem pX (v:Value) (l:Table) (m:Mem) (w:World) (hm:m.inn w) (hl:aG m v l) :
 Calls Tryz.prog 72 #[v] w fun e w'=>e=.returned (.bool (tf (WF l)))∧Below w.heap.size w w':=by
 obtain⟨a,c,rfl,h1,h2,h3⟩:=hl;unfold maxLen at h2;refine aj fun R hR=>?_
 go_enter Tryz.func72,Tryz.ntmps72
 go_wp2;refine au [0,7,8,9] (fun n vs wr=>∃k:Nat,k≤l.length∧n=l.length - k∧vs=[.slice a l.length c,.slice a l.length c,.int .i64 l.length,.int .i64 k]∧(WF l↔∀s∈l.drop k,bF l.length (-1) s.edges)∧Below w.heap.size w wr) ?_ ?_
 ·exact⟨_,0,zC _,rfl,rfl,Iff.rfl,zP _ _⟩
 rintro X z n vs wr hX - ⟨k,hk,rfl,rfl,hrel,hbel⟩;simp[litL,lk];have hmr:=Mem.bJ hm hbel;by_cases hlt:k<l.length
 ·obtain⟨b,off,rfl,h4⟩:=h3 (by intro h;simp[h] at hlt);obtain⟨h5,ve,h6,a',c',rfl,h7,h8,h9⟩:=h4 k hlt;have hb:=Mem.ay hmr h6;have c1:=Mem.ak hmr h5;have c2:=Mem.ak hmr h6;have Hs:=zh (Lu (n:=l.length) hlt);generalize l[k]=s at *
  unfold maxLen at h8;clear h4 h3;go_wp2;refine au [0,4,7,8,9,14,15,16] (fun n vs w2=>∃j:Nat,j≤s.edges.length∧n=s.edges.length - j∧vs=[.slice (some ⟨b,off,none⟩) l.length c,.pointer (some ⟨wr.heap.size,0,none⟩),.slice (some ⟨b,off,none⟩) l.length c,.int .i64 l.length,.int .i64 k,.slice a' s.edges.length c',.int .i64 s.edges.length,.int .i64 j]∧(bF l.length (-1) s.edges↔bF l.length (lU s.edges j) (s.edges.drop j))∧w2.cell? ⟨wr.heap.size,1,none⟩=some (.slice a' s.edges.length c')∧wr.heap.size<w2.heap.size∧Below w.heap.size w w2) ?_ ?_
  ·exact⟨_,0,zC _,rfl,rfl,Iff.rfl,zS,zS,aR hbel _⟩
  rintro Y z2 n vs w2 hY - ⟨j,hj,rfl,rfl,hrel2,hc2,hsz,hbel2⟩;simp[litL,lk];have hmr2:=Mem.bJ hm hbel2;by_cases hlt2:j<s.edges.length
  ·obtain⟨b',off',rfl,h10⟩:=h9 (by intro h;simp[h] at hlt2);obtain⟨g1,g2,g3,g4,g5,g6,g7⟩:=h10 j hlt2;have hb1:=Mem.ay hmr2 g1;have d1:=Mem.ak hmr2 g1;have d2:=Mem.ak hmr2 g2;have d3:=Mem.ak hmr2 g3;have Hw:=zh (uq (n:=l.length) hlt2);have hprev:0<j→w2.cell? ⟨b',off'+(j - 1)*3+1,none⟩=some (.int .u8 (s.edges[j - 1]).hi)∧lU s.edges j=(s.edges[j - 1]).hi:=by
    intro hj0;refine ⟨Mem.ak hmr2 (h10 (j - 1) zo).2.1,?_⟩;simp[lU,show 0<j∧j≤s.edges.length from ⟨hj0,zo⟩]
   go_wp2;refine wp_region_quiet_lit zk zk ?_
   repeat (any_goals (first | go_big_quiet_step (fail) | quiet_step (fail) | (refine wpQuiet_step (fun K hK=>?_);go_simp;split <;> (refine hK _ ?_;clear hK K))))
   all_goals (refine wpQuiet_nil ?_;intro _ hw';obtain⟨nq,hw''⟩:=hw';subst hw'')
   all_goals go_wp2
   all_goals first
    | exact hR.out _ _ ⟨aL (by
     rw[aK];intro hwf;obtain⟨q1,q2,q3,q4,-⟩:=Hw.out.1 (hrel2.1 (Hs.out.1 (hrel.1 hwf)).1)
     first
      | omega
      | (have:=(hprev (by assumption)).2;omega)),below_drewN (aR hbel2 _) _⟩
    | exact hY.out _ _ _ zo rfl ⟨j+1,zo,rfl,rfl,hrel2.trans (Hw.out.trans ⟨fun h=>h.2.2.2.2,fun h=>⟨zo,zo,zo,by
     first
      | (have:=(hprev (by assumption)).2;omega)
      | (have:=wO s.edges j zo;omega),h⟩⟩),
     by rw[World.cell?_drewN,World.cell?_alloc_past _ _ _ hsz];exact hc2,by simp;omega,below_drewN (aR hbel2 _) _⟩
  ·go_wp2;refine hX.out _ _ _ zo rfl ⟨k+1,zo,rfl,rfl,hrel.trans (Hs.out.trans ⟨fun h=>h.2,fun h=>⟨hrel2.2 ?_,h⟩⟩),hbel2⟩;rw[zO zo];trivial
 ·go_wp2;refine hR.out _ _ ⟨aL ?_,hbel⟩;rw[aN (hrel.2 (by rw[zO zo];simp))]
theorem yX (v:Value) (l:Table) (m:Mem) (w:World) (hm:m.inn w) (hl:aG m v l) :
 Calls Tryz.prog 125 #[v] w fun e w'=>e=.returned (.bool (tf (WF l)))∧Below w.heap.size w w':=by
 obtain⟨a,c,rfl,h1,h2,h3⟩:=hl;unfold maxLen at h2;refine aj fun R hR=>?_
 go_enter Tryz.func125,Tryz.ntmps125
 go_wp2;refine au [0,7,8,9] (fun n vs wr=>∃k:Nat,k≤l.length∧n=l.length - k∧vs=[.slice a l.length c,.slice a l.length c,.int .i64 l.length,.int .i64 k]∧(WF l↔∀s∈l.drop k,bF l.length (-1) s.edges)∧Below w.heap.size w wr) ?_ ?_
 ·exact⟨_,0,zC _,rfl,rfl,Iff.rfl,zP _ _⟩
 rintro X z n vs wr hX - ⟨k,hk,rfl,rfl,hrel,hbel⟩;simp[litL,lk];have hmr:=Mem.bJ hm hbel;by_cases hlt:k<l.length
 ·obtain⟨b,off,rfl,h4⟩:=h3 (by intro h;simp[h] at hlt);obtain⟨h5,ve,h6,a',c',rfl,h7,h8,h9⟩:=h4 k hlt;have hb:=Mem.ay hmr h6;have c1:=Mem.ak hmr h5;have c2:=Mem.ak hmr h6;have Hs:=zh (Lu (n:=l.length) hlt);generalize l[k]=s at *
  unfold maxLen at h8;clear h4 h3;go_wp2;refine au [0,4,7,8,9,14,15,16] (fun n vs w2=>∃j:Nat,j≤s.edges.length∧n=s.edges.length - j∧vs=[.slice (some ⟨b,off,none⟩) l.length c,.pointer (some ⟨wr.heap.size,0,none⟩),.slice (some ⟨b,off,none⟩) l.length c,.int .i64 l.length,.int .i64 k,.slice a' s.edges.length c',.int .i64 s.edges.length,.int .i64 j]∧(bF l.length (-1) s.edges↔bF l.length (lU s.edges j) (s.edges.drop j))∧w2.cell? ⟨wr.heap.size,1,none⟩=some (.slice a' s.edges.length c')∧wr.heap.size<w2.heap.size∧Below w.heap.size w w2) ?_ ?_
  ·exact⟨_,0,zC _,rfl,rfl,Iff.rfl,zS,zS,aR hbel _⟩
  rintro Y z2 n vs w2 hY - ⟨j,hj,rfl,rfl,hrel2,hc2,hsz,hbel2⟩;simp[litL,lk];have hmr2:=Mem.bJ hm hbel2;by_cases hlt2:j<s.edges.length
  ·obtain⟨b',off',rfl,h10⟩:=h9 (by intro h;simp[h] at hlt2);obtain⟨g1,g2,g3,g4,g5,g6,g7⟩:=h10 j hlt2;have hb1:=Mem.ay hmr2 g1;have d1:=Mem.ak hmr2 g1;have d2:=Mem.ak hmr2 g2;have d3:=Mem.ak hmr2 g3;have Hw:=zh (uq (n:=l.length) hlt2);have hprev:0<j→w2.cell? ⟨b',off'+(j - 1)*3+1,none⟩=some (.int .u8 (s.edges[j - 1]).hi)∧lU s.edges j=(s.edges[j - 1]).hi:=by
    intro hj0;refine ⟨Mem.ak hmr2 (h10 (j - 1) zo).2.1,?_⟩;simp[lU,show 0<j∧j≤s.edges.length from ⟨hj0,zo⟩]
   go_wp2;refine wp_region_quiet_lit zk zk ?_
   repeat (any_goals (first | go_big_quiet_step (fail) | quiet_step (fail) | (refine wpQuiet_step (fun K hK=>?_);go_simp;split <;> (refine hK _ ?_;clear hK K))))
   all_goals (refine wpQuiet_nil ?_;intro _ hw';obtain⟨nq,hw''⟩:=hw';subst hw'')
   all_goals go_wp2
   all_goals first
    | exact hR.out _ _ ⟨aL (by
     rw[aK];intro hwf;obtain⟨q1,q2,q3,q4,-⟩:=Hw.out.1 (hrel2.1 (Hs.out.1 (hrel.1 hwf)).1)
     first
      | omega
      | (have:=(hprev (by assumption)).2;omega)),below_drewN (aR hbel2 _) _⟩
    | exact hY.out _ _ _ zo rfl ⟨j+1,zo,rfl,rfl,hrel2.trans (Hw.out.trans ⟨fun h=>h.2.2.2.2,fun h=>⟨zo,zo,zo,by
     first
      | (have:=(hprev (by assumption)).2;omega)
      | (have:=wO s.edges j zo;omega),h⟩⟩),
     by rw[World.cell?_drewN,World.cell?_alloc_past _ _ _ hsz];exact hc2,by simp;omega,below_drewN (aR hbel2 _) _⟩
  ·go_wp2;refine hX.out _ _ _ zo rfl ⟨k+1,zo,rfl,rfl,hrel.trans (Hs.out.trans ⟨fun h=>h.2,fun h=>⟨hrel2.2 ?_,h⟩⟩),hbel2⟩;rw[zO zo];trivial
 ·go_wp2;refine hR.out _ _ ⟨aL ?_,hbel⟩;rw[aN (hrel.2 (by rw[zO zo];simp))]
theorem QF (v:Value) (l:Table) (s x:Nat) (m:Mem) (w:World) (hm:m.inn w) (hl:aG m v l) (hs:s<l.length) :
 Calls Tryz.prog 261 #[.agg #[v],.int .i64 s,.int .u8 x] w fun e w'=>e=.returned (.int .i64 (aY (l[s]).edges x))∧Below w.heap.size w w':=by
 obtain⟨a,c,rfl,h1,h2,h3⟩:=hl;obtain⟨b,off,rfl,h4⟩:=h3 (by intro h;simp[h] at hs);obtain⟨-,ve,h6,a',c',rfl,h7,h8,h9⟩:=h4 s hs;have hb:=Mem.ay hm h6;have hc:=Mem.ak hm h6;generalize l[s].edges=es at *
 clear h4 h3;unfold maxLen at h2 h8;refine aj fun R hR=>?_
 go_enter Tryz.func261,Tryz.ntmps261
 go_wp2;refine au [2,23,24,25] (fun n vs wr=>∃k:Nat,k≤es.length∧n=es.length - k∧vs=[.int .u8 x,.slice a' es.length c',.int .i64 es.length,.int .i64 k]∧aY es x=aY (es.drop k) x∧Below w.heap.size w wr) ?_ ?_
 ·exact⟨_,0,zC _,rfl,rfl,rfl,aR (zP _ _) _⟩
 rintro X z n vs wr hX - ⟨k,hk,rfl,rfl,hrel,hbel⟩;simp[litL,lk];have hmr:=Mem.bJ hm hbel;by_cases hlt:k<es.length
 ·obtain⟨b',off',rfl,h10⟩:=h9 (by intro h;simp[h] at hlt);obtain⟨g1,g2,g3,g4,g5,g6,g7⟩:=h10 k hlt;have hb1:=Mem.ay hmr g1;have c1:=Mem.ak hmr g1;have c2:=Mem.ak hmr g2;have c3:=Mem.ak hmr g3;have HD:=zh (tO es x k hlt);go_wp2
  ·exact hR.out _ _ ⟨dB (by rw[hrel,HD.out,zI ⟨by assumption,by assumption⟩]),aR hbel _⟩
  ·exact hX.out _ _ _ zo rfl ⟨k+1,zo,rfl,rfl,by rw[hrel,HD.out,zH zo],aR hbel _⟩
  ·exact hX.out _ _ _ zo rfl ⟨k+1,zo,rfl,rfl,by rw[hrel,HD.out,zH zo],aR hbel _⟩
 ·go_wp2;exact hR.out _ _ ⟨dB (by rw[hrel,zO zo];rfl),hbel⟩
theorem Iw (v:Value) (l:Table) (s:Int) (x:Nat) (m:Mem) (w:World) (hm:m.inn w) (hl:aG m v l) (hs1 : -9223372036854775808≤s) (hs2:s≤9223372036854775807) :
 Calls Tryz.prog 261 #[.agg #[v],.int .i64 s,.int .u8 x] w fun e w'=>e=.returned (.int .i64 (bD l s x))∧Below w.heap.size w w':=by
 by_cases h0:s<0
 ·rw[jl h0];refine aj fun R hR=>?_
  go_enter Tryz.func261,Tryz.ntmps261
  go_wp2;exact hR.out _ _ ⟨rfl,aR (zP _ _) _⟩
 ·obtain⟨n,rfl⟩:=zQ (by omega:0≤s);by_cases h1:n<l.length
  ·rw[dC l n x h1];exact QF v l n x m w hm hl h1
  ·rw[dV l n x zo];obtain⟨a,c,rfl,h1,h2,h3⟩:=hl;unfold maxLen at h2;refine aj fun R hR=>?_
   go_enter Tryz.func261,Tryz.ntmps261
   go_wp2;exact hR.out _ _ ⟨rfl,aR (zP _ _) _⟩
theorem CP (v:Value) (l:Table) (s:Int) (x:Nat) (m:Mem) (w:World) (hm:m.inn w) (hl:aG m v l) (hs1 : -9223372036854775808≤s) (hs2:s<l.length) :
 Calls Tryz.prog 73 #[v,.int .i64 s,.int .u8 x] w fun e w'=>e=.returned (.int .i64 (bD l s x))∧Below w.heap.size w w':=by
 by_cases h0:s<0
 ·rw[jl h0];refine aj fun R hR=>?_
  go_enter Tryz.func73,Tryz.ntmps73
  go_wp2;exact hR.out _ _ ⟨rfl,zP _ _⟩
 obtain⟨s,rfl⟩:=zQ (by omega:0≤s);have hs:s<l.length:=zo;rw[dC l s x hs];obtain⟨a,c,rfl,h1,h2,h3⟩:=hl;obtain⟨b,off,rfl,h4⟩:=h3 (by intro h;simp[h] at hs);obtain⟨-,ve,h6,a',c',rfl,h7,h8,h9⟩:=h4 s hs;have hb:=Mem.ay hm h6;have hc:=Mem.ak hm h6;generalize l[s].edges=es at *
 clear h4 h3;unfold maxLen at h2 h8;refine aj fun R hR=>?_
 go_enter Tryz.func73,Tryz.ntmps73
 go_wp2;refine au [2,15,16,17] (fun n vs wr=>∃k:Nat,k≤es.length∧n=es.length - k∧vs=[.int .u8 x,.slice a' es.length c',.int .i64 es.length,.int .i64 k]∧aY es x=aY (es.drop k) x∧Below w.heap.size w wr) ?_ ?_
 ·exact⟨_,0,zC _,rfl,rfl,rfl,zP _ _⟩
 rintro X z n vs wr hX - ⟨k,hk,rfl,rfl,hrel,hbel⟩;simp[litL,lk];have hmr:=Mem.bJ hm hbel;by_cases hlt:k<es.length
 ·obtain⟨b',off',rfl,h10⟩:=h9 (by intro h;simp[h] at hlt);obtain⟨g1,g2,g3,g4,g5,g6,g7⟩:=h10 k hlt;have hb1:=Mem.ay hmr g1;have c1:=Mem.ak hmr g1;have c2:=Mem.ak hmr g2;have c3:=Mem.ak hmr g3;have HD:=zh (tO es x k hlt);go_wp2
  ·exact hR.out _ _ ⟨dB (by rw[hrel,HD.out,zI ⟨by assumption,by assumption⟩]),aR hbel _⟩
  ·exact hX.out _ _ _ zo rfl ⟨k+1,zo,rfl,rfl,by rw[hrel,HD.out,zH zo],aR hbel _⟩
  ·exact hX.out _ _ _ zo rfl ⟨k+1,zo,rfl,rfl,by rw[hrel,HD.out,zH zo],aR hbel _⟩
 ·go_wp2;exact hR.out _ _ ⟨dB (by rw[hrel,zO zo];rfl),hbel⟩
theorem IQ (v:Value) (l:Table) (s:Int) (x:Nat) (m:Mem) (w:World) (hm:m.inn w) (hl:aG m v l) (hs1 : -9223372036854775808≤s) (hs2:s<l.length) :
 Calls Tryz.prog 290 #[.agg #[v],.int .i64 s,.int .i64 x] w fun e w'=>e=.returned (.int .i64 (bD l s x))∧Below w.heap.size w w':=by
 by_cases h0:s<0
 ·rw[jl h0];refine aj fun R hR=>?_
  go_enter Tryz.func290,Tryz.ntmps290
  go_wp2;exact hR.out _ _ ⟨rfl,aR (zP _ _) _⟩
 obtain⟨s,rfl⟩:=zQ (by omega:0≤s);have hs:s<l.length:=zo;rw[dC l s x hs];obtain⟨a,c,rfl,h1,h2,h3⟩:=hl;obtain⟨b,off,rfl,h4⟩:=h3 (by intro h;simp[h] at hs);obtain⟨-,ve,h6,a',c',rfl,h7,h8,h9⟩:=h4 s hs;have hb:=Mem.ay hm h6;generalize l[s].edges=es at *
 clear h4 h3;unfold maxLen at h2 h8;refine aj fun R hR=>?_
 go_enter Tryz.func290,Tryz.ntmps290
 go_wp2;have hbel0:Below w.heap.size w (w.alloc (Obj.cells #[.slice (some ⟨b,off,none⟩) l.length c] 27)):=aR (zP _ _) _;have hm1:=Mem.bJ hm hbel0;have d1:(w.alloc (Obj.cells #[.slice (some ⟨b,off,none⟩) l.length c] 27)).cell? ⟨w.heap.size,0,none⟩=some (.slice (some ⟨b,off,none⟩) l.length c):=by simp
 have d2:w.heap.size<(w.alloc (Obj.cells #[.slice (some ⟨b,off,none⟩) l.length c] 27)).heap.size:=by simp
 generalize hw1:w.alloc (Obj.cells #[.slice (some ⟨b,off,none⟩) l.length c] 27)=w1 at *
 clear hw1;refine au [1,2,3,7] (fun n vs wr=>∃k:Nat,k≤es.length∧n=es.length - k∧vs=[.int .i64 s,.int .i64 x,.pointer (some ⟨w.heap.size,0,none⟩),.int .i64 k]∧aY es x=aY (es.drop k) x∧Below w1.heap.size w1 wr) ?_ ?_
 ·exact⟨_,0,zC _,rfl,rfl,rfl,zP _ _⟩
 rintro X z n vs wr hX - ⟨k,hk,rfl,rfl,hrel,hbel⟩;simp[litL,lk];have hmr:=Mem.bJ hm1 hbel;have hc:=Mem.ak hmr h6;have hbr:=Mem.ay hmr h6;have d3:=(hbel.cell (p:=⟨w.heap.size,0,none⟩) d2).trans d1;have d4:w.heap.size<wr.heap.size:=Nat.lt_of_lt_of_le d2 hbel.size;by_cases hlt:k<es.length
 ·obtain⟨b',off',rfl,h10⟩:=h9 (by intro h;simp[h] at hlt);obtain⟨g1,g2,g3,g4,g5,g6,g7⟩:=h10 k hlt;have hb1:=Mem.ay hmr g1;have c1:=Mem.ak hmr g1;have c2:=Mem.ak hmr g2;have c3:=Mem.ak hmr g3;have HD:=zh (tO es x k hlt);go_wp2
  ·exact hR.out _ _ ⟨dB (by rw[hrel,HD.out,zI ⟨by assumption,by assumption⟩]),bU hbel0 (aR hbel _)⟩
  ·exact hX.out _ _ _ zo rfl ⟨k+1,zo,rfl,rfl,by rw[hrel,HD.out,zH zo],aR hbel _⟩
  ·exact hX.out _ _ _ zo rfl ⟨k+1,zo,rfl,rfl,by rw[hrel,HD.out,zH zo],aR hbel _⟩
 ·go_wp2;exact hR.out _ _ ⟨dB (by rw[hrel,zO zo];rfl),bU hbel0 hbel⟩
theorem uY (v:Value) (l:Table) (s:Int) (m:Mem) (w:World) (hm:m.inn w) (hl:aG m v l) (hs1 : -9223372036854775808≤s) (hs2:s<l.length) :
 Calls Tryz.prog 259 #[.agg #[v],.int .i64 s] w fun e w'=>e=.returned (.bool (bz l s))∧Below w.heap.size w w':=by
 by_cases h0:s<0
 ·have:bz l s=false:=by simp[bz,h0]
  rw[this];refine aj fun R hR=>?_
  go_enter Tryz.func259,Tryz.ntmps259
  go_wp2;exact hR.out _ _ ⟨rfl,aR (zP _ _) _⟩
 obtain⟨s,rfl⟩:=zQ (by omega:0≤s);have hs:s<l.length:=zo;rw[eZ l s hs];obtain⟨a,c,rfl,h1,h2,h3⟩:=hl;obtain⟨b,off,rfl,h4⟩:=h3 (by intro h;simp[h] at hs);obtain⟨h5,-⟩:=h4 s hs;have hb:=Mem.ay hm h5;have hc:=Mem.ak hm h5;clear h4 h3;unfold maxLen at h2;refine aj fun R hR=>?_
 go_enter Tryz.func259,Tryz.ntmps259
 go_wp2;exact hR.out _ _ ⟨rfl,aR (zP _ _) _⟩
theorem nS (v:Value) (l:Table) (s:Int) (m:Mem) (w:World) (hm:m.inn w) (hl:aG m v l) (hs1 : -9223372036854775808≤s) (hs2:s<l.length) :
 Calls Tryz.prog 288 #[.agg #[v],.int .i64 s] w fun e w'=>e=.returned (.bool (bz l s))∧Below w.heap.size w w':=by
 by_cases h0:s<0
 ·have:bz l s=false:=by simp[bz,h0]
  rw[this];refine aj fun R hR=>?_
  go_enter Tryz.func288,Tryz.ntmps288
  go_wp2;exact hR.out _ _ ⟨rfl,aR (zP _ _) _⟩
 obtain⟨s,rfl⟩:=zQ (by omega:0≤s);have hs:s<l.length:=zo;rw[eZ l s hs];obtain⟨a,c,rfl,h1,h2,h3⟩:=hl;obtain⟨b,off,rfl,h4⟩:=h3 (by intro h;simp[h] at hs);obtain⟨h5,-⟩:=h4 s hs;have hb:=Mem.ay hm h5;have hc:=Mem.ak hm h5;clear h4 h3;unfold maxLen at h2;refine aj fun R hR=>?_
 go_enter Tryz.func288,Tryz.ntmps288
 go_wp2;exact hR.out _ _ ⟨rfl,aR (zP _ _) _⟩
theorem Dm (v:Value) (l:Table) (m:Mem) (w:World) (hl:aG m v l) :
 Calls Tryz.prog 286 #[.agg #[v]] w fun e w'=>e=.returned (.int .i64 (if l.length=0 then -1 else 0))∧Below w.heap.size w w':=by
 obtain⟨a,c,rfl,h1,h2,h3⟩:=hl;unfold maxLen at h2;refine aj fun R hR=>?_
 go_enter Tryz.func286,Tryz.ntmps286
 go_wp2
 ·exact hR.out _ _ ⟨dB (by rw[zI (by have:=‹((l.length:Int)==0)=true›;simp at this;simp[this])]),aR (zP _ _) _⟩
 ·exact hR.out _ _ ⟨dB (by rw[zH (by have:=‹((l.length:Int)==0)=false›;simp at this;simp[this])]),aR (zP _ _) _⟩
theorem Qj (x y:Bool) (w:World) :
 Calls Tryz.prog 205 #[.bool x,.bool y] w fun e w'=>e=.returned (.bool (x&&y))∧Below w.heap.size w w':=by
 refine aj fun R hR=>?_;cases x <;> cases y
 all_goals
  go_enter Tryz.func205,Tryz.ntmps205
  go_wp2;exact hR.out _ _ ⟨rfl,zP _ _⟩
theorem Lf (x y:Bool) (w:World) :
 Calls Tryz.prog 227 #[.bool x,.bool y] w fun e w'=>e=.returned (.bool (x && !y))∧Below w.heap.size w w':=by
 refine aj fun R hR=>?_;cases x <;> cases y
 all_goals
  go_enter Tryz.func227,Tryz.ntmps227
  go_wp2;exact hR.out _ _ ⟨rfl,zP _ _⟩
def allT:Table:=[⟨true,[⟨0,255,0⟩]⟩]
theorem yo (w:World) :
 Calls Tryz.prog 134 #[] w fun e w'=>∃g1 g2,e=.returned (.agg #[.slice (some ⟨g2,0,none⟩) 1 1])∧Below w.heap.size w w'∧w.heap.size≤g1∧w.heap.size≤g2∧g1≠g2 ∧
  bE w' g1 133 #[.int .u8 0,.int .u8 255,.int .i64 0]∧bE w' g2 92 #[.bool true,.slice (some ⟨g1,0,none⟩) 1 1]:=by
 refine aj fun R hR=>?_
 go_enter Tryz.func134,Tryz.ntmps134
 go_wp2;refine yQ (v:=.agg #[.slice (some ⟨w.heap.size+1+1,0,none⟩) 1 1]) (by simp[results,Tryz.results134,go_sem]) rfl ?_;refine hR.out _ _ ⟨_,_,rfl,aR (aR (aR (zP _ _) _) _) _,?_,?_,?_,(bE.new _ _ _).al _,?_⟩
 ·simp <;> omega
 ·omega
 ·simp <;> omega
 ·have:=bE.new ((w.alloc (Obj.cells #[Value.slice (some { block:=w.heap.size+1+1,off:=0 }) 1 1] 27)).alloc (Obj.cells #[Value.int IntKind.u8 0,Value.int IntKind.u8 255,Value.int IntKind.i64 0] 133)) 92 #[Value.bool true,Value.slice (some { block:=w.heap.size+1,off:=0 }) 1 1];simpa using this
def nJ (s:List UInt8) (k:Nat):Table:=(List.range k).map fun i=>⟨false,[⟨(s.getD i 0).toNat,(s.getD i 0).toNat,(i+1:Nat)⟩]⟩
theorem Ah (s:List UInt8) (k:Nat):nJ s (k+1)=nJ s k ++ [⟨false,[⟨(s.getD k 0).toNat,(s.getD k 0).toNat,(k+1:Nat)⟩]⟩]:=by
 simp[nJ,List.range_succ]
theorem uk (s:List UInt8) (k:Nat):(nJ s k).length=k:=by simp[nJ]
theorem Gc {mk:Mem} {w:World} {g:Nat} {t:TypeId} {lo hi:Nat} {to:Int} (h:bE w g t #[.int .u8 lo,.int .u8 hi,.int .i64 to]) (hk:edOk ⟨lo,hi,to⟩):jv (mk.add w g) (.slice (some ⟨g,0,none⟩) 1 1) [⟨lo,hi,to⟩]:=by
 refine ⟨some ⟨g,0,none⟩,1,rfl,zS,by simp[maxLen],fun _=>⟨g,0,rfl,fun i hi=>?_⟩⟩;have:i=0:=by simpa using hi
 subst this;exact⟨Mem.bW h rfl,Mem.bW h rfl,Mem.bW h rfl,hk⟩
theorem Gn (mk:Mem):jv mk (.slice none 0 0) []:=⟨none,0,rfl,zS,by simp[maxLen],fun h=>absurd rfl h⟩
theorem F7 (s:ByteArray) (m:Mem) (w:World) (hm:m.inn w) (hs:s.size≤1000) :
 Calls Tryz.prog 143 #[.string s] w fun e w'=>∃r,e=.returned (.agg #[r])∧Below w.heap.size w w'∧aG (m.grow w w') r (nJ s.data.toList s.size ++ [⟨true,[]⟩]):=by
 refine aj fun R hR=>?_
 go_enter Tryz.func143,Tryz.ntmps143
 go_wp2;refine au [0,2,3,4] (fun n vs wr=>∃(k:Nat) (v:Value) (xs:List Value) (mk:Mem),k≤s.size∧n=s.size - k∧vs=[.string s,.pointer (some ⟨w.heap.size,0,none⟩),.pointer (some ⟨w.heap.size+1,0,none⟩),.int .i64 k] ∧
  Own w m wr mk [.obj (w.heap.size+1) 27 #[v],.row v 92 2 k xs,.obj w.heap.size 27 #[.slice none 0 0]]∧jA mk xs (nJ s.data.toList k)) ?_ ?_
 ·refine ⟨_,0,.slice none 0 0,[],m,zC _,rfl,rfl,?_,jA.nil m⟩;have:=(((Own.start hm).al #[.slice none 0 0] 27).al #[.slice none 0 0] 27).dI 92 2;simpa using this.swap
 rintro X z n vs wr hX - ⟨k,v,xs,mk,hk,rfl,rfl,hO,hrow⟩;simp[litL,lk];have ho2:=hO.obj;have c1:=ho2.cell (i:=0) (v:=v) rfl;have f1:=ho2.frozen 0;have l1:=ho2.lt;by_cases hlt:k<s.size
 ·go_wp2;have hw1:IntKind.i64.wrap ((k:Int)+1)=(k:Int)+1:=IntWalk.i64_in _ zo;refine fo (fun w'=>bE w' (w.heap.size+1) 27 #[v]) 16 zk ?_;have hS:bE wr.drew (w.heap.size+1) 27 #[v]:=ho2.dr;refine az 0 rfl zk (fun _ _ _ h=>h) hS (av rfl fun w' hS'=>by have q:=hS'.cell (i:=0) rfl;go_simp;rfl) ?_;refine az 1 rfl zk (fun _ _ _ h=>h) hS (av rfl fun w' hS'=>by have q:=hS'.cell (i:=0) rfl;go_simp;rfl) ?_;refine az 2 rfl zk (fun _ _ _ h=>h) hS (av rfl fun w' hS'=>by have q:=hS'.cell (i:=0) rfl;go_simp;rfl) ?_;refine az 3 rfl zk (fun _ _ _ h=>h) hS (av rfl fun w' hS'=>by have q:=hS'.cell (i:=0) rfl;go_simp;rfl) ?_;refine az 4 rfl zk (fun _ _ _ h=>h) hS (av rfl fun w' hS'=>by have q:=hS'.cell (i:=0) rfl;go_simp;rfl) ?_;refine az 5 rfl zk (fun _ _ _ h=>h) hS (av rfl fun w' hS'=>by have q:=hS'.cell (i:=0) rfl;go_simp;rfl) ?_;refine az 6 rfl zk (fun _ _ _ h=>h) hS (av rfl fun w' hS'=>by have q:=hS'.cell (i:=0) rfl;go_simp;rfl) ?_;refine az 7 rfl zk (fun _ _ _ h=>h) hS (av rfl fun w' hS'=>by have q:=hS'.cell (i:=0) rfl;go_simp;rfl) ?_;refine az 8 rfl zk (fun _ _ _ h=>h) hS (av rfl fun w' hS'=>by have q:=hS'.cell (i:=0) rfl;go_simp;rfl) ?_;refine az 9 rfl zk (fun _ _ _ h=>h) hS (av rfl fun w' hS'=>by have q:=hS'.cell (i:=0) rfl;go_simp;rfl) ?_;refine az 10 rfl zk (fun _ _ _ h=>h) hS (av rfl fun w' hS'=>by have q:=hS'.cell (i:=0) rfl;go_simp;rfl) ?_;refine aH 11 zk (aF rfl rfl (aP (by go_simp;exact⟨rfl,rfl⟩) (andS (ho2.al _).dr fun hS1=>?_)));refine az 12 rfl zk (fun _ _ _ h=>h) hS1 (av rfl fun w' hS'=>by have q:=hS'.cell (i:=0) rfl;go_simp;rfl) ?_;refine aH 13 zk (aF rfl rfl (aP (by go_simp;exact⟨rfl,rfl⟩) (andS ((ho2.al _).al _).dr fun hS2=>?_)));go_simp;have hO2:=((hO.al #[Value.int IntKind.u8 s[k].toNat,Value.int IntKind.u8 s[k].toNat,Value.int IntKind.i64 (k+1)] 133).al #[Value.bool false,Value.slice (some ⟨wr.heap.size,0,none⟩) 1 1] 92).dr;rw[show (wr.alloc (.cells #[Value.int IntKind.u8 s[k].toNat,Value.int IntKind.u8 s[k].toNat,Value.int IntKind.i64 (k+1)] 133)).heap.size=wr.heap.size+1 by simp] at hO2;have hO3:=hO2.tail.iY;have hed:=Gc (mk:=mk) (lo:=s[k].toNat) (hi:=s[k].toNat) (to:=(k:Int)+1) hO2.tail.obj ⟨s[k].toNat_lt,s[k].toNat_lt,by show _≤(k:Int)+1;omega,by show (k:Int)+1≤_;omega⟩;have hf:=hO2.tail.iO;refine aH 14 zk (aF rfl rfl (dR iJ (.tmp 12) (.tmp 24) rfl v k xs rfl hO3.swap.row ⟨wr.heap.size+1,0,none⟩ 1 1 [.bool false,.slice (some ⟨wr.heap.size,0,none⟩) 1 1] rfl rfl (hO2.obj.news rfl) (by simp[Value.oneCell']) (by unfold maxLen;omega) zo (fun va vc w3 hown3 hgrow hrow3=>?_)));have hO4:=hO3.swap.app hown3 hgrow hrow3 (zG _);refine andS hO4.swap.obj fun hS3=>?_;have f3:=hS3.frozen 0;have c3:=hS3.cell (i:=0) rfl;refine az 15 rfl zk (fun _ _ _ h=>h) hS3 (av rfl fun w' hS'=>by have q:=hS'.cell (i:=0) rfl;go_simp;rfl) ?_;refine aH 16 zk (aF rfl rfl (aZ (by go_simp;rfl) (iP rfl ?_)));refine dE zk ?_ _;have hO5:=hO4.swap.set 0 (.slice va (k+1) vc);have hrow5:=(hrow.mono (Mem.jE hf)).push (s:=⟨false,[⟨s[k].toNat,s[k].toNat,(k+1:Nat)⟩]⟩) hed;have Hfin:=zh (zi hO5 hrow5);clear hO5 hrow5 hO4 hO3 hO2 hO hed hf hown3 hgrow hrow3 hS hS1 hS2 hS3 f3 c3 ho2 c1 f1;go_wp2;refine hX.out _ _ _ zo rfl ⟨k+1,_,_,_,zo,rfl,rfl,Hfin.out.1,?_⟩;have hg:=Hfin.out.2;rw[Ah];have e:s.data.toList.getD k 0=s[k]:=by
   rw[yP];have:s.data.toList[k]?=some s[k]:=by
    rw[yC (by simpa using hlt)];rfl
   rw[this];rfl
  rw[e];exact hg
 ·obtain rfl:k=s.size:=zo;have hO1:=hO.al #[Value.bool true,Value.slice none 0 0] 92
  go_wp2_with (at_builtin;refine aA iJ rfl (.tmp 28) (.tmp 30) rfl v s.size xs rfl (hO1.third).row ⟨wr.heap.size,0,none⟩ 1 1 [.bool true,.slice none 0 0] rfl rfl (hO1.obj.news rfl) (by simp[Value.oneCell']) (by unfold maxLen;omega) zo ?_)
  intro va vc w3 hown3 hgrow hrow3;have hO2:=hO1.third.app hown3 hgrow hrow3 zS;have hS3:=hO2.third.obj;have f3:=hS3.frozen 0;have c3:=hS3.cell (i:=0) rfl;have l3:=hS3.lt;have g3:=hO2.fourth.obj.c 0;have g4:=hO2.fourth.obj.frozen 0;have g5:=hO2.fourth.obj.lt;have hO4:=(hO2.third.set 0 (.slice va (s.size+1) vc)).fourth.set 0 (.slice va (s.size+1) vc);have hrow4:=hrow.push (s:=(⟨true,[]⟩:Sn)) (Gn mk);have hO5:=hO4.third.bv;have hln:(nJ s.data.toList s.size ++ [(⟨true,[]⟩:Sn)]).length=s.size+1:=by simp[uk]
  have hst:=dK (l:=nJ s.data.toList s.size ++ [(⟨true,[]⟩:Sn)]) (by rw[hln];exact hO4.third.row) hrow4 hO4.third.free;have hfin:=aJ hO5.done hst;have Hfin:=zh (zi hO5.below hfin);clear hO5 hst hfin hO4 hrow4 hown3 hgrow hrow3 hO2 hO1 hO;go_wp2;refine yQ (v:=.agg #[.slice va (s.size+1) vc]) (by simp[results,Tryz.results143,go_sem,g3]) rfl ?_;exact hR.out _ _ ⟨_,rfl,Hfin.out.1,Hfin.out.2⟩
theorem Bw (s:ByteArray) (m:Mem) (w:World) (hm:m.inn w) (hs:s.size≤1000) :
 Calls Tryz.prog 256 #[.string s] w fun e w'=>∃r,e=.returned (.agg #[r])∧Below w.heap.size w w'∧aG (m.grow w w') r (nJ s.data.toList s.size ++ [⟨true,[]⟩]):=by
 refine aj fun R hR=>?_
 go_enter Tryz.func256,Tryz.ntmps256
 go_wp2;refine au [0,2,3,6,7] (fun n vs wr=>∃(k:Nat) (v:Value) (xs:List Value) (mk:Mem),k≤s.size∧n=s.size - k∧vs=[.string s,.pointer (some ⟨w.heap.size,0,none⟩),.pointer (some ⟨w.heap.size+1,0,none⟩),.int .i64 s.size,.int .i64 k] ∧
  Own w m wr mk [.obj (w.heap.size+1) 27 #[v],.row v 92 2 k xs,.obj w.heap.size 27 #[.slice none 0 0]]∧jA mk xs (nJ s.data.toList k)) ?_ ?_
 ·refine ⟨_,0,.slice none 0 0,[],m,zC _,rfl,rfl,?_,jA.nil m⟩;have:=(((Own.start hm).al #[.slice none 0 0] 27).al #[.slice none 0 0] 27).dI 92 2;simpa using this.swap
 rintro X z n vs wr hX - ⟨k,v,xs,mk,hk,rfl,rfl,hO,hrow⟩;simp[litL,lk];have ho2:=hO.obj;have c1:=ho2.cell (i:=0) (v:=v) rfl;have f1:=ho2.frozen 0;have l1:=ho2.lt;by_cases hlt:k<s.size
 ·go_wp2;have hw1:IntKind.i64.wrap ((k:Int)+1)=(k:Int)+1:=IntWalk.i64_in _ zo;refine fo (fun w'=>bE w' (w.heap.size+1) 27 #[v]) 16 zk ?_;have hS:bE wr.drew (w.heap.size+1) 27 #[v]:=ho2.dr;refine az 0 rfl zk (fun _ _ _ h=>h) hS (av rfl fun w' hS'=>by have q:=hS'.cell (i:=0) rfl;go_simp;rfl) ?_;refine az 1 rfl zk (fun _ _ _ h=>h) hS (av rfl fun w' hS'=>by have q:=hS'.cell (i:=0) rfl;go_simp;rfl) ?_;refine az 2 rfl zk (fun _ _ _ h=>h) hS (av rfl fun w' hS'=>by have q:=hS'.cell (i:=0) rfl;go_simp;rfl) ?_;refine az 3 rfl zk (fun _ _ _ h=>h) hS (av rfl fun w' hS'=>by have q:=hS'.cell (i:=0) rfl;go_simp;rfl) ?_;refine az 4 rfl zk (fun _ _ _ h=>h) hS (av rfl fun w' hS'=>by have q:=hS'.cell (i:=0) rfl;go_simp;rfl) ?_;refine az 5 rfl zk (fun _ _ _ h=>h) hS (av rfl fun w' hS'=>by have q:=hS'.cell (i:=0) rfl;go_simp;rfl) ?_;refine az 6 rfl zk (fun _ _ _ h=>h) hS (av rfl fun w' hS'=>by have q:=hS'.cell (i:=0) rfl;go_simp;rfl) ?_;refine az 7 rfl zk (fun _ _ _ h=>h) hS (av rfl fun w' hS'=>by have q:=hS'.cell (i:=0) rfl;go_simp;rfl) ?_;refine az 8 rfl zk (fun _ _ _ h=>h) hS (av rfl fun w' hS'=>by have q:=hS'.cell (i:=0) rfl;go_simp;rfl) ?_;refine az 9 rfl zk (fun _ _ _ h=>h) hS (av rfl fun w' hS'=>by have q:=hS'.cell (i:=0) rfl;go_simp;rfl) ?_;refine az 10 rfl zk (fun _ _ _ h=>h) hS (av rfl fun w' hS'=>by have q:=hS'.cell (i:=0) rfl;go_simp;rfl) ?_;refine aH 11 zk (aF rfl rfl (aP (by go_simp;exact⟨rfl,rfl⟩) (andS (ho2.al _).dr fun hS1=>?_)));refine az 12 rfl zk (fun _ _ _ h=>h) hS1 (av rfl fun w' hS'=>by have q:=hS'.cell (i:=0) rfl;go_simp;rfl) ?_;refine aH 13 zk (aF rfl rfl (aP (by go_simp;exact⟨rfl,rfl⟩) (andS ((ho2.al _).al _).dr fun hS2=>?_)));go_simp;have hO2:=((hO.al #[Value.int IntKind.u8 s[k].toNat,Value.int IntKind.u8 s[k].toNat,Value.int IntKind.i64 (k+1)] 133).al #[Value.bool false,Value.slice (some ⟨wr.heap.size,0,none⟩) 1 1] 92).dr;rw[show (wr.alloc (.cells #[Value.int IntKind.u8 s[k].toNat,Value.int IntKind.u8 s[k].toNat,Value.int IntKind.i64 (k+1)] 133)).heap.size=wr.heap.size+1 by simp] at hO2;have hO3:=hO2.tail.iY;have hed:=Gc (mk:=mk) (lo:=s[k].toNat) (hi:=s[k].toNat) (to:=(k:Int)+1) hO2.tail.obj ⟨s[k].toNat_lt,s[k].toNat_lt,by show _≤(k:Int)+1;omega,by show (k:Int)+1≤_;omega⟩;have hf:=hO2.tail.iO;refine aH 14 zk (aF rfl rfl (dR iJ (.tmp 11) (.tmp 23) rfl v k xs rfl hO3.swap.row ⟨wr.heap.size+1,0,none⟩ 1 1 [.bool false,.slice (some ⟨wr.heap.size,0,none⟩) 1 1] rfl rfl (hO2.obj.news rfl) (by simp[Value.oneCell']) (by unfold maxLen;omega) zo (fun va vc w3 hown3 hgrow hrow3=>?_)));have hO4:=hO3.swap.app hown3 hgrow hrow3 (zG _);refine andS hO4.swap.obj fun hS3=>?_;have f3:=hS3.frozen 0;have c3:=hS3.cell (i:=0) rfl;refine az 15 rfl zk (fun _ _ _ h=>h) hS3 (av rfl fun w' hS'=>by have q:=hS'.cell (i:=0) rfl;go_simp;rfl) ?_;refine aH 16 zk (aF rfl rfl (aZ (by go_simp;rfl) (iP rfl ?_)));refine dE zk ?_ _;have hO5:=hO4.swap.set 0 (.slice va (k+1) vc);have hrow5:=(hrow.mono (Mem.jE hf)).push (s:=⟨false,[⟨s[k].toNat,s[k].toNat,(k+1:Nat)⟩]⟩) hed;have Hfin:=zh (zi hO5 hrow5);clear hO5 hrow5 hO4 hO3 hO2 hO hed hf hown3 hgrow hrow3 hS hS1 hS2 hS3 f3 c3 ho2 c1 f1;go_wp2;refine hX.out _ _ _ zo rfl ⟨k+1,_,_,_,zo,rfl,rfl,Hfin.out.1,?_⟩;have hg:=Hfin.out.2;rw[Ah];have e:s.data.toList.getD k 0=s[k]:=by
   rw[yP];have:s.data.toList[k]?=some s[k]:=by
    rw[yC (by simpa using hlt)];rfl
   rw[this];rfl
  rw[e];exact hg
 ·obtain rfl:k=s.size:=zo;have hO1:=hO.al #[Value.bool true,Value.slice none 0 0] 92
  go_wp2_with (at_builtin;refine aA iJ rfl (.tmp 28) (.tmp 30) rfl v s.size xs rfl (hO1.third).row ⟨wr.heap.size,0,none⟩ 1 1 [.bool true,.slice none 0 0] rfl rfl (hO1.obj.news rfl) (by simp[Value.oneCell']) (by unfold maxLen;omega) zo ?_)
  intro va vc w3 hown3 hgrow hrow3;have hO2:=hO1.third.app hown3 hgrow hrow3 zS;have hS3:=hO2.third.obj;have f3:=hS3.frozen 0;have c3:=hS3.cell (i:=0) rfl;have l3:=hS3.lt;have g3:=hO2.fourth.obj.c 0;have g4:=hO2.fourth.obj.frozen 0;have g5:=hO2.fourth.obj.lt;have hO4:=(hO2.third.set 0 (.slice va (s.size+1) vc)).fourth.set 0 (.slice va (s.size+1) vc);have hrow4:=hrow.push (s:=(⟨true,[]⟩:Sn)) (Gn mk);have hO5:=hO4.third.bv;have hln:(nJ s.data.toList s.size ++ [(⟨true,[]⟩:Sn)]).length=s.size+1:=by simp[uk]
  have hst:=dK (l:=nJ s.data.toList s.size ++ [(⟨true,[]⟩:Sn)]) (by rw[hln];exact hO4.third.row) hrow4 hO4.third.free;have hfin:=aJ hO5.done hst;have Hfin:=zh (zi hO5.below hfin);clear hO5 hst hfin hO4 hrow4 hown3 hgrow hrow3 hO2 hO1 hO;go_wp2;refine yQ (v:=.agg #[.slice va (s.size+1) vc]) (by simp[results,Tryz.results256,go_sem,g3]) rfl ?_;exact hR.out _ _ ⟨_,rfl,Hfin.out.1,Hfin.out.2⟩
theorem KX (v0:Value) (l:Table) (m:Mem) (w:World) (hm:m.inn w) (hl:aG m v0 l) (hlen:l.length≤1000000) (hlen2:∀s∈l,s.edges.length≤1000000) :
 Calls Tryz.prog 226 #[.agg #[v0]] w fun e w'=>∃r,e=.returned (.agg #[r])∧Below w.heap.size w w'∧aG (m.grow w w') r l:=by
 obtain⟨a,c,rfl,h1,h2,h3⟩:=hl;unfold maxLen at h2;refine aj fun R hR=>?_
 go_enter Tryz.func226,Tryz.ntmps226
 go_wp2;refine au [2,3,7,8,9] (fun n vs wr=>∃(k:Nat) (v:Value) (xs:List Value) (mk:Mem),k≤l.length∧n=l.length - k∧vs=[.pointer (some ⟨w.heap.size+1,0,none⟩),.pointer (some ⟨w.heap.size+2,0,none⟩),.slice a l.length c,.int .i64 l.length,.int .i64 k] ∧
  Own w m wr mk [.obj (w.heap.size+2) 27 #[v],.row v 92 2 k xs,.obj (w.heap.size+1) 27 #[.slice none 0 0]]∧jA mk xs (l.take k)) ?_ ?_
 ·refine ⟨_,0,.slice none 0 0,[],m,zC _,rfl,rfl,?_,jA.nil m⟩;have:=((((Own.start hm).al' (.cells #[.slice a l.length c] 27)).al #[.slice none 0 0] 27).al #[.slice none 0 0] 27).dI 92 2;simpa using this.swap
 rintro X z n vs wr hX - ⟨k,v,xs,mk,hk,rfl,rfl,hO,hrow⟩;simp[litL,lk];have ho2:=hO.obj;by_cases hlt:k<l.length
 ·obtain⟨b,off,rfl,h4⟩:=h3 (by intro h;simp[h] at hlt);have hmr:=Mem.cK hO.ext.le hO.inn;obtain⟨g1,ve,g2,g3⟩:=h4 k hlt;have hc1:=Mem.ak hmr g1;have hc2:=Mem.ak hmr g2;have hb:=Mem.ay hmr g1;have hC:=fun w1 (h:mk.inn w1)=>OT ve l[k].edges mk w1 h (mo hO.ext.le g3) (by have:=hlen2 l[k] (zB hlt);omega);have HC:=zh hC;clear hC;obtain⟨ea,ec,rfl,-⟩:=g3;have l1:=ho2.lt;go_wp2;have hO1:=(hO.al #[.bool l[k].accept,.slice ea l[k].edges.length ec] 92).dr;refine fo (fun w'=>bE w' (w.heap.size+2) 27 #[v]∧bE w' wr.heap.size 92 #[.bool l[k].accept,.slice ea l[k].edges.length ec]) 11 zk ?_;have hS:=zi hO1.swap.obj hO1.obj;refine az 0 rfl zk (fun _ _ _ h=>h) hS (av rfl fun w' hS'=>by have q:=hS'.1.cell (i:=0) rfl;have q1:=hS'.2.cell (i:=0) rfl;have q2:=hS'.2.cell (i:=1) rfl;go_simp;rfl) ?_;refine az 1 rfl zk (fun _ _ _ h=>h) hS (av rfl fun w' hS'=>by have q:=hS'.1.cell (i:=0) rfl;have q1:=hS'.2.cell (i:=0) rfl;have q2:=hS'.2.cell (i:=1) rfl;go_simp;rfl) ?_;refine az 2 rfl zk (fun _ _ _ h=>h) hS (av rfl fun w' hS'=>by have q:=hS'.1.cell (i:=0) rfl;have q1:=hS'.2.cell (i:=0) rfl;have q2:=hS'.2.cell (i:=1) rfl;go_simp;rfl) ?_;refine az 3 rfl zk (fun _ _ _ h=>h) hS (av rfl fun w' hS'=>by have q:=hS'.1.cell (i:=0) rfl;have q1:=hS'.2.cell (i:=0) rfl;have q2:=hS'.2.cell (i:=1) rfl;go_simp;rfl) ?_;refine az 4 rfl zk (fun _ _ _ h=>h) hS (av rfl fun w' hS'=>by have q:=hS'.1.cell (i:=0) rfl;have q1:=hS'.2.cell (i:=0) rfl;have q2:=hS'.2.cell (i:=1) rfl;go_simp;rfl) ?_;refine az 5 rfl zk (fun _ _ _ h=>h) hS (av rfl fun w' hS'=>by have q:=hS'.1.cell (i:=0) rfl;have q1:=hS'.2.cell (i:=0) rfl;have q2:=hS'.2.cell (i:=1) rfl;go_simp;rfl) ?_;refine aH 6 zk (aF rfl rfl (cO (by go_simp) (HC.out _ hO1.inn) ?_));rintro e w1 ⟨r,rfl,hb1,hr1⟩;have hO2:=hO1.call hb1;refine ⟨r,rfl,andS (zi hO2.swap.obj hO2.obj) fun hS1=>?_⟩;obtain⟨ra,rc,rfl⟩:∃ra rc,r=.slice ra l[k].edges.length rc:=by obtain⟨x,y,e,-⟩:=hr1;exact⟨x,y,e⟩
  refine az 7 rfl zk (fun _ _ _ h=>h) hS1 (av rfl fun w' hS'=>by go_simp;rfl) ?_;refine aH 8 zk (aF rfl rfl (aP (by go_simp;exact⟨rfl,rfl⟩) (andS (zi (hO2.swap.obj.al _) (hO2.obj.al _)) fun hS2=>?_)));go_simp;have hO3:=hO2.al #[.bool l[k].accept,.slice ra l[k].edges.length rc] 92;refine aH 9 zk (aF rfl rfl (dR iJ (.tmp 14) (.tmp 21) rfl v k xs rfl hO3.fourth.row ⟨w1.heap.size,0,none⟩ 1 1 [.bool l[k].accept,.slice ra l[k].edges.length rc] rfl rfl (hO3.obj.news rfl) (by simp[Value.oneCell']) (by unfold maxLen;omega) zo (fun va vc w3 hown3 hgrow hrow3=>?_)));have hO4:=hO3.fourth.app hown3 hgrow hrow3 (zG _);refine andS (zi hO4.fourth.obj hO4.third.obj) fun hS3=>?_;refine az 10 rfl zk (fun _ _ _ h=>h) hS3 (av rfl fun w' hS'=>by go_simp;rfl) ?_;have f3:=hS3.1.frozen 0;have c3:=hS3.1.cell (i:=0) rfl;refine aH 11 zk (aF rfl rfl (aZ (by go_simp;rfl) (iP rfl ?_)));refine dE zk ?_ _;have hO5:=hO4.fourth.set 0 (.slice va (k+1) vc);have hrow5:=(hrow.mono (Mem.dF hO1.inn)).push (s:=l[k]) hr1;rw[← zF hlt] at hrow5;have Hfin:=zh (zi hO5.kV.kV hrow5);clear hO5 hrow5 hO4 hO3 hO2 hO1 hO hown3 hgrow hrow3 hS hS1 hS2 hS3 f3 c3 ho2 hrow hb1;go_wp2;exact hX.out _ _ _ zo rfl ⟨k+1,_,_,_,zo,rfl,rfl,Hfin.out.1,Hfin.out.2⟩
 ·obtain rfl:k=l.length:=zo;have c1:=hO.obj.c 0;have g3:=hO.third.obj.c 0;have g4:=hO.third.obj.frozen 0;obtain⟨va,vc,rfl⟩:=aM hO.swap.row;have hO4:=hO.third.set 0 (.slice va l.length vc);have hst:=dK (l:=l) hO4.third.row (by rw[yB] at hrow;exact hrow) hO4.third.free;have hfin:=aJ hO4.third.bv.done hst;have Hfin:=zh (zi hO4.below hfin);clear hst hfin hO4 hO ho2 hrow;go_wp2;refine yQ (v:=.agg #[.slice va l.length vc]) (by simp[results,Tryz.results226,go_sem,g3]) rfl ?_;exact hR.out _ _ ⟨_,rfl,Hfin.out.1,Hfin.out.2⟩
theorem Qs (e f:Ed):e=f↔(e.lo=f.lo∧e.hi=f.hi∧e.to=f.to):=by
 cases e;cases f;simp
theorem KP : (Tryz.prog.fieldsOf 133).toList = [⟨"Lo", 5, 0, false, "", "", 0⟩, ⟨"Hi", 5, 1, false, "", "", 1⟩, ⟨"To", 3, 2, false, "", "", 8⟩] := by
 kernel_rfl
theorem LY:Tryz.prog.stoodInHeld 133=false:=by kernel_rfl
theorem EI:Tryz.prog.eqGuardType Tryz.prog.depth 133=false:=by kernel_rfl
theorem Qw:Tryz.prog.underlying 133=some (.struct (Tryz.prog.fieldsOf 133)):=by kernel_rfl
theorem EW (a b c a' b' c':Int) (w:World):(Op.equalIn 10000 133 (.agg #[.int .u8 a,.int .u8 b,.int .i64 c]) (.agg #[.int .u8 a',.int .u8 b',.int .i64 c'])).run Tryz.prog w=.ok (a==a'&&(b==b'&&c==c')) w:=by
 rw[run_equalIn_agg w 9999 133 _ _ Qw LY,KP];have e1:=fun (d:Nat) (a b:Int) (w:World)=>run_equalIn_int (P:=Tryz.prog) w d 5 .u8 .u8 a b Tryz.underlying5;have e2:=fun (d:Nat) (a b:Int) (w:World)=>run_equalIn_int (P:=Tryz.prog) w d 3 .i64 .i64 a b Tryz.underlying3;simp only[Op.eqFields];simp[isAgg,go_sem,e1,e2];by_cases h1:a=a' <;> by_cases h2:b=b' <;> by_cases h3:c=c' <;> simp[h1,h2,h3]
theorem Ad (v:Value) (l:List Bool) (x:Bool) (m:Mem) (w:World) (hm:m.inn w) (hl:iq m v l) :
 Calls Tryz.prog 310 #[v,.bool x] w fun e w'=>e=.returned (.int .i64 (firstIdx (fun y=>x=y) l 0))∧Below w.heap.size w w':=by
 obtain⟨a,c,rfl,h1,h2,h3⟩:=hl;unfold maxLen at h2;refine aj fun R hR=>?_
 go_enter Tryz.func310,Tryz.ntmps310
 go_wp2;refine au [0,1,7,8] (fun n vs wr=>∃k:Nat,k≤l.length∧n=l.length - k∧vs=[.slice a l.length c,.bool x,.int .i64 l.length,.int .i64 k]∧firstIdx (fun y=>x=y) l 0=firstIdx (fun y=>x=y) (l.drop k) k∧Below w.heap.size w wr) ?_ ?_
 ·exact⟨_,0,zC _,rfl,rfl,rfl,zP _ _⟩
 rintro X z n vs wr hX - ⟨k,hk,rfl,rfl,hrel,hbel⟩;simp[litL,lk];have hmr:=Mem.bJ hm hbel;by_cases hlt:k<l.length
 ·obtain⟨b,off,rfl,h4⟩:=h3 (by intro h;simp[h] at hlt);have c1:=Mem.ak hmr (h4 k hlt);have HD:=zh (iM (fun y=>x=y) l k hlt);go_wp2
  all_goals first
   | exact hR.out _ _ ⟨dB (by rw[hrel,HD.out,zI (aN (by simp_all))]),hbel⟩
   | exact hX.out _ _ _ zo rfl ⟨k+1,zo,rfl,rfl,by rw[hrel,HD.out,zH (by rw[aK (by simp_all)];simp)],hbel⟩
 ·go_wp2;exact hR.out _ _ ⟨dB (by rw[hrel,zO zo];rfl),hbel⟩
theorem ug (v:Value) (l:List Bool) (x:Bool) (m:Mem) (w:World) (hm:m.inn w) (hl:iq m v l) :
 Calls Tryz.prog 276 #[v,.bool x] w fun e w'=>e=.returned (.bool (tf (x∈l)))∧Below w.heap.size w w':=by
 have hc:=Ad v l x m w hm hl;have hs:=kw (fun y=>x=y) l 0;refine aj fun R hR=>?_;generalize hr:firstIdx (fun y=>x=y) l 0=r at *
 have Hs:=zh hs;clear hs
 go_enter Tryz.func276,Tryz.ntmps276
 go_wp2_with fail
 refine hc.mono ?_;rintro e w' ⟨rfl,hbel⟩;go_wp2;refine hR.out _ _ ⟨aL ?_,hbel⟩;rcases Hs.out with ⟨h1,h2⟩ | ⟨i,h1,h2,h3,-⟩
 ·rw[aK (fun h=>h2 x h rfl)];simp[h1]
 ·rw[aN (by rw[h3];exact zB h1)];simp[h2]
theorem yx (v v':Value) (l l':List Ed) (m:Mem) (w:World) (hm:m.inn w) (hl:jv m v l) (hl':jv m v' l') :
 Calls Tryz.prog 269 #[v,v'] w fun e w'=>e=.returned (.bool (tf (l=l')))∧Below w.heap.size w w':=by
 obtain⟨a,c,rfl,h1,h2,h3⟩:=hl;obtain⟨a',c',rfl,h1',h2',h3'⟩:=hl';unfold maxLen at h2 h2';refine aj fun R hR=>?_;by_cases hlen:l.length=l'.length
 ·have hne:((l.length:Int) != (l'.length:Int))=false:=by simp[hlen]
  have Hlen:=zh hlen;clear hlen
  go_enter Tryz.func269,Tryz.ntmps269
  go_wp2;refine au [0,1,12,13] (fun n vs wr=>∃k:Nat,k≤l.length∧n=l.length - k∧vs=[.slice a l.length c,.slice a' l'.length c',.int .i64 l.length,.int .i64 k]∧(l=l'↔l.drop k=l'.drop k)∧Below w.heap.size w wr) ?_ ?_
  ·exact⟨_,0,zC _,rfl,rfl,Iff.rfl,zP _ _⟩
  rintro X z n vs wr hX - ⟨k,hk,rfl,rfl,hrel,hbel⟩;have Hrel:=zh hrel;clear hrel;simp[litL,lk];have hmr:=Mem.bJ hm hbel;by_cases hlt:k<l.length
  ·have hlt':k<l'.length:=by rw[← Hlen.out];exact hlt
   obtain⟨b,off,rfl,h4⟩:=h3 (by intro h;simp[h] at hlt);obtain⟨b',off',rfl,h4'⟩:=h3' (by intro h;simp[h] at hlt');obtain⟨g1,g2,g3,-⟩:=h4 k hlt;obtain⟨g1',g2',g3',-⟩:=h4' k hlt';have c1:=Mem.ak hmr g1;have c2:=Mem.ak hmr g2;have c3:=Mem.ak hmr g3;have c1':=Mem.ak hmr g1';have c2':=Mem.ak hmr g2';have c3':=Mem.ak hmr g3';have HD:=zh (kS l l' k hlt hlt');have hq:=fun w=>EW (l[k].lo) (l[k].hi) (l[k].to) (l'[k].lo) (l'[k].hi) (l'[k].to) w;have hgd:=EI;have He:=zh (Qs l[k] l'[k]);go_wp2
   go_quiet (fail)
   go_wp2
   ·refine hR.out _ _ ⟨aL ?_,below_drewN hbel _⟩;rw[aK];intro h;have h5:=He.out.1 (HD.out.1 (Hrel.out.1 h)).1;have h6:=‹(!(l[k].lo:Int)==(l'[k].lo:Int))=true∨_›;simp[h5] at h6
   ·refine hX.out _ _ _ zo rfl ⟨k+1,zo,rfl,rfl,?_,below_drewN hbel _⟩;have h6:=‹(!(l[k].lo:Int)==(l'[k].lo:Int))=false∧_›;simp at h6;exact Hrel.out.trans (HD.out.trans ⟨fun h=>h.2,fun h=>⟨He.out.2 zo,h⟩⟩)
  ·go_wp2;refine hR.out _ _ ⟨aL ?_,hbel⟩;rw[aN (Hrel.out.2 ?_)];rw[zO zo,zO (by rw[← Hlen.out];omega)]
 ·have hne:((l.length:Int) != (l'.length:Int))=true:=by simp;omega
  go_enter Tryz.func269,Tryz.ntmps269
  go_wp2;exact hR.out _ _ ⟨aL (by rw[aK (fun h=>hlen (by rw[h]))]),zP _ _⟩
theorem Si (e f:Sn):e=f↔(e.accept=f.accept∧e.edges=f.edges):=by
 cases e;cases f;simp
theorem OM (p p':Bool) (v v':Value) (l l':List Ed) (m:Mem) (w:World) (hm:m.inn w) (hl:jv m v l) (hl':jv m v' l') :
 Calls Tryz.prog 268 #[.agg #[.bool p,v],.agg #[.bool p',v']] w fun e w'=>e=.returned (.bool (tf ((⟨p,l⟩:Sn)=⟨p',l'⟩)))∧Below w.heap.size w w':=by
 refine aj fun R hR=>?_;have hb0:Below w.heap.size w ((w.alloc (.cells #[.bool p,v] 92)).alloc (.cells #[.bool p',v'] 92)):=aR (aR (zP _ _) _) _;have hc:=yx v v' l l' m _ (Mem.bJ hm hb0) hl hl';obtain⟨a,c,rfl,-⟩:=hl;obtain⟨a',c',rfl,-⟩:=hl';by_cases hp:p=p'
 ·have hd:(p==p')=true:=by simp[hp]
  have Hp:=zh hp;clear hp
  go_enter Tryz.func268,Tryz.ntmps268
  go_wp2_with fail
  refine hc.mono ?_;rintro e w' ⟨rfl,hbel⟩;go_wp2;refine hR.out _ _ ⟨aL (fK ?_),bU hb0 hbel⟩;simp[Hp.out]
 ·have hd:(p==p')=false:=by simp[hp]
  go_enter Tryz.func268,Tryz.ntmps268
  go_wp2;refine hR.out _ _ ⟨aL ?_,hb0⟩;rw[aK];simp[hp]
theorem CR (v v':Value) (l l':Table) (m:Mem) (w:World) (hm:m.inn w) (hl:aG m v l) (hl':aG m v' l') :
 Calls Tryz.prog 267 #[v,v',.func (.func 268) #[] #[]] w fun e w'=>e=.returned (.bool (tf (l=l')))∧Below w.heap.size w w':=by
 obtain⟨a,c,rfl,h1,h2,h3⟩:=hl;obtain⟨a',c',rfl,h1',h2',h3'⟩:=hl';unfold maxLen at h2 h2';refine aj fun R hR=>?_;by_cases hlen:l.length=l'.length
 ·have hne:((l.length:Int) != (l'.length:Int))=false:=by simp[hlen]
  have Hlen:=zh hlen;clear hlen
  go_enter Tryz.func267,Tryz.ntmps267
  go_wp2;refine au [0,1,2,15,16,17] (fun n vs wr=>∃k:Nat,k≤l.length∧n=l.length - k∧vs=[.slice a l.length c,.slice a' l'.length c',.func (.func 268) #[] #[],.slice a l.length c,.int .i64 l.length,.int .i64 k]∧(l=l'↔l.drop k=l'.drop k)∧Below w.heap.size w wr) ?_ ?_
  ·exact⟨_,0,zC _,rfl,rfl,Iff.rfl,zP _ _⟩
  rintro X z n vs wr hX - ⟨k,hk,rfl,rfl,hrel,hbel⟩;have Hrel:=zh hrel;clear hrel;simp[litL,lk];have hmr:=Mem.bJ hm hbel;by_cases hlt:k<l.length
  ·have hlt':k<l'.length:=by rw[← Hlen.out];exact hlt
   obtain⟨b,off,rfl,h4⟩:=h3 (by intro h;simp[h] at hlt);obtain⟨b',off',rfl,h4'⟩:=h3' (by intro h;simp[h] at hlt');obtain⟨g1,ve,g2,g3⟩:=h4 k hlt;obtain⟨g1',ve',g2',g3'⟩:=h4' k hlt';have HD:=zh (kS l l' k hlt hlt');have hcall:=fun w1 hm1=>OM l[k].accept l'[k].accept ve ve' l[k].edges l'[k].edges m w1 hm1 g3 g3';have Hc:=zh hcall;clear hcall;obtain⟨ua,uc,rfl,-⟩:=g3;obtain⟨ua',uc',rfl,-⟩:=g3';have c1:=Mem.ak hmr g1;have c2:=Mem.ak hmr g2;have c1':=Mem.ak hmr g1';have c2':=Mem.ak hmr g2';have hb1:=Mem.ay hmr g1;have hb1':=Mem.ay hmr g1'
   go_wp2_with fail
   refine (Hc.out _ (Mem.bJ hmr (aR (aR (zP _ _) _) _))).mono ?_;rintro e w' ⟨rfl,hbel2⟩;have hbel3:=bU (aR (aR hbel _) _) hbel2;clear hbel2;by_cases heq:(⟨l[k].accept,l[k].edges⟩:Sn)=⟨l'[k].accept,l'[k].edges⟩
   ·rw[aN heq];have Heq:=zh heq;clear heq;go_wp2;exact hX.out _ _ _ zo rfl ⟨k+1,zo,rfl,rfl,Hrel.out.trans (HD.out.trans ⟨fun h=>h.2,fun h=>⟨Heq.out,h⟩⟩),hbel3⟩
   ·rw[aK heq];go_wp2;exact hR.out _ _ ⟨aL (by rw[aK];intro h;exact heq (HD.out.1 (Hrel.out.1 h)).1),hbel3⟩
  ·go_wp2;refine hR.out _ _ ⟨aL ?_,hbel⟩;rw[aN (Hrel.out.2 ?_)];rw[zO zo,zO (by rw[← Hlen.out];omega)]
 ·have hne:((l.length:Int) != (l'.length:Int))=true:=by simp;omega
  go_enter Tryz.func267,Tryz.ntmps267
  go_wp2;exact hR.out _ _ ⟨aL (by rw[aK (fun h=>hlen (by rw[h]))]),zP _ _⟩
theorem Lc (v v':Value) (l l':Table) (m:Mem) (w:World) (hm:m.inn w) (hl:aG m v l) (hl':aG m v' l') :
 Calls Tryz.prog 209 #[.agg #[v],.agg #[v']] w fun e w'=>e=.returned (.bool (tf (l=l')))∧Below w.heap.size w w':=by
 refine aj fun R hR=>?_;have hb0:Below w.heap.size w ((w.alloc (.cells #[v] 27)).alloc (.cells #[v'] 27)):=aR (aR (zP _ _) _) _;have hc:=CR v v' l l' m _ (Mem.bJ hm hb0) hl hl';obtain⟨a,c,rfl,-⟩:=hl;obtain⟨a',c',rfl,-⟩:=hl'
 go_enter Tryz.func209,Tryz.ntmps209
 go_wp2_with fail
 refine hc.mono ?_;rintro e w' ⟨rfl,hbel⟩;go_wp2;exact hR.out _ _ ⟨rfl,bU hb0 hbel⟩
end Cl
