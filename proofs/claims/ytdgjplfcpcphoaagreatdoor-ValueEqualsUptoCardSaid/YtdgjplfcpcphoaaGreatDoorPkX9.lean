/- Lemmas for the proofs of chapter 11. -/
import Derived.Test.YtdgjplfcpcphoaaGreatDoorProg
import Derived.BigQuiet
import Derived.Deep.Cut
import Derived.Deep.QuietTactic
import Derived.Laws.StructEq
import Derived.Lib.AppendStr
import Derived.Lib.Builder
import Derived.Lib.Hide
import Derived.Lib.ItoaLen
import Derived.Maps.OwnOps
import Derived.Maps.OwnSet
import Derived.OrdersHeld
import Derived.Outline
import Derived.StillTailTactics
import Derived.StringKeys
import Derived.WalkKit
import Derived.WalkLawsBesides
import Derived.WalkSpells
import Derived.Deep.RegionHeld
import Derived.Shelf.Strings.Builder1
import Derived.Shelf.Small.Wraps
import Derived.Shelf.LaysM
import Derived.Shelf.Strconv.Itoa3
import Derived.Test.YtdgjplfcpcphoaaGreatDoorZz
import Derived.Test.YtdgjplfcpcphoaaGreatDoorPkX3
import Derived.Test.YtdgjplfcpcphoaaGreatDoorPkX5
import Derived.Test.YtdgjplfcpcphoaaGreatDoorPkX1
import Derived.Test.YtdgjplfcpcphoaaGreatDoorPkX2
import Derived.Test.YtdgjplfcpcphoaaGreatDoorPkX4
import Derived.Test.YtdgjplfcpcphoaaGreatDoorPkX6
set_option maxRecDepth 100000
set_option maxHeartbeats 16000000
namespace Cl
open Go Go.RowKit Go.Proofs
def dlN (next:List (List Int)) (cls:List Int) (lv:List Bool) (s i:Nat):Option Nat:=if bt lv (cl cls (taN next s i).toNat)=true then some (taN next s i).toNat else none
def xu (f:Lit→Option Int) (cf:Nat→Int) (o:List Nat):Prop:=∀c:Int,f (.int .i64 c)=if posC cf o c<o.length then some ((posC cf o c:Nat):Int) else none
theorem wF {f:Lit→Option Int} {cf:Nat→Int} {o:List Nat} (h:xu f cf o) (t:Nat) (hn:¬ posC cf o (cf t)<o.length):xu (fput f (.int .i64 (cf t)) o.length) cf (o ++ [t]):=by
 intro c;rw[Li];by_cases e:c=cf t
 ·subst e;rw[pJ,if_neg hn,if_pos rfl];simp
 ·rw[mD f _ (by simpa using e),h c];by_cases d:posC cf o c<o.length
  ·rw[if_pos d,if_pos d,if_pos (by simp;omega)]
  ·have e':¬ cf t=c:=fun x=>e x.symm;rw[if_neg d,if_neg d,if_neg e',if_neg zS]
theorem Gf (cf:Nat→Int) (s:Nat):xu (fput (fun _=>none) (.int .i64 (cf s)) 0) cf [s]:=by
 have:=wF (f:=fun _=>none) (cf:=cf) (o:=[]) (fun c=>by simp[posC]) s (by simp[posC]);simpa using this
def bL (o:List Nat):List Value:=o.map fun (s:Nat)=>Value.int .i64 (s:Int)
theorem Own.pull {w0 w:World} {m mk:Mem} {l₁ l₂:List Cl.Item} {a:Cl.Item} (h:Own w0 m w mk (l₁ ++ a::l₂)):Own w0 m w mk (a::(l₁ ++ l₂)):=h.perm List.perm_middle.symm
theorem Own.D6 {w0 w:World} {m mk:Mem} {l₁ l₂:List Cl.Item} {a:Cl.Item} (h:Own w0 m w mk (a::(l₁ ++ l₂))):Own w0 m w mk (l₁ ++ a::l₂):=h.perm List.perm_middle
theorem EB (fs:List Ed) (e:Ed) (t:Int) (b:Nat):(∃(fs':List Ed) (e':Ed),fs ++ [e]=fs' ++ [e']∧e'.to=t∧e'.hi+1=b)↔(e.to=t∧e.hi+1=b):=by
 constructor
 ·rintro ⟨fs',e',h,h1⟩;have:=congrArg List.getLast? h;simp at this;rw[this];exact h1
 ·intro h;exact⟨fs,e,rfl,h⟩
theorem uK (fs:List Ed) (e:Ed) (h:Nat):(dz (fs ++ [e])).set (fs.length*3+1) (.int .u8 h)=dz (fs ++ [⟨e.lo,h,e.to⟩]):=by
 rw[eY,eY,List.set_append_right _ _ (by rw[nk];omega),nk];simp
theorem Own.Mr {w0 w:World} {m mk:Mem} {L:List Cl.Item} {g:Nat} {t:TypeId} {x:Value} (h:Own w0 m w mk (.obj g t #[x]::L)):Own w0 m w mk (.row (.slice (some ⟨g,0,none⟩) 1 1) t 1 1 [x]::L):=by
 have hap:=List.pairwise_cons.1 h.apart;refine ⟨h.m0,h.below,h.ext,h.inn,?_,?_,.cons (fun b hb k h1 h2=>hap.1 b hb k h1 h2) hap.2⟩
 ·simp only[List.mem_cons,forall_eq_or_imp];refine ⟨⟨rfl,.inr ⟨g,1,#[x],rfl,Nat.zero_le _,h.obj.get,Nat.le_refl _,by simp[maxLen],rfl,rfl⟩⟩,fun it hi=>h.ok it (List.mem_cons_of_mem _ hi)⟩
 ·simp only[List.mem_cons,forall_eq_or_imp];exact⟨fun k hk=>h.fresh _ (List.mem_cons_self ..) k hk,fun it hi=>h.fresh it (List.mem_cons_of_mem _ hi)⟩
structure KW (cuts:List Int) (lo hi:Nat→Nat):Prop where
 lo:∀i,(h:i<cuts.length)→cuts[i]=lo i
 hi:∀i,i<cuts.length→Bb cuts i=hi i
theorem xm (cf:Nat→Int) (dl:Nat→Nat→Option Nat) (lo hi:Nat→Nat) (ac:Nat→Bool) (K k:Nat) :
 cO cf dl lo hi ac K (k+1)=((bI cf dl lo hi ((cO cf dl lo hi ac K k).1.getD k 0) (cO cf dl lo hi ac K k).1 K).1,(cO cf dl lo hi ac K k).2 ++ [⟨ac ((cO cf dl lo hi ac K k).1.getD k 0),(bI cf dl lo hi ((cO cf dl lo hi ac K k).1.getD k 0) (cO cf dl lo hi ac K k).1 K).2⟩]):=rfl
theorem yF (g:Nat) (T:Table) (cuts:List Int) (next:List (List Int)) (acc:List Bool) (cls:List Int) (lo hi:Nat→Nat) (H:yP T cuts next acc lo hi) (hC:KW cuts lo hi) (hcls:qR T next.length cls)
 (hB:∀lv:List Bool,(∀c,bt lv c=true↔rQ next acc cls c)→bt lv (cl cls 0)=true→nD T next.length (fun s=>cls.getD s 0) (dlN next cls lv) lo hi (fun s=>acc.getD s false) cuts.length)
 (hD:∀lv:List Bool,(∀c,bt lv c=true↔rQ next acc cls c)→bt lv (cl cls 0)=false→∀w,aF T 0 w=false)
 (m:Mem) (w:World) (hm:m.inn w) (ht:TabAt m g cuts next acc cls) :
 Calls Tryz.prog 226 #[.pointer (some ⟨g,0,none⟩)] w fun e w'=>∃r C,e=.returned (.agg #[r])∧Below w.heap.size w w'∧aR (m.grow w w') r C∧Canon C∧(∀x,aF C 0 x=aF T 0 x)∧C.length≤next.length:=by
 have hpos:=H.pos;have hnlen:=H.nlen;have hclen:=H.clen;have hlive:=fun w (hw:m.inn w)=>LC g cuts next acc cls m w hw ht H.alen hcls.len (fun r hr=>(H.rows r hr).2) hcls.rng H.nlen;have HL:=zh hlive;clear hlive;obtain⟨vc,vn,va,vk,e1,e2,e3,e4,⟨ca,cc,rfl,c1,c2,c3⟩,⟨na,nc,rfl,n1,n2,n3⟩,⟨aa,ac,rfl,a1,a2,a3⟩,⟨ka,kc,rfl,k1,k2,k3⟩⟩:=ht.ex;unfold maxLen at c2 n2 a2 k2;have hkl:=hcls.len;refine ay fun R hR=>?_;have hO:=(Own.start hm).al #[.slice none 0 0] 27;have HO:=zh hO;clear hO
 go_enter Tryz.func226,Tryz.ntmps226
 go_wp2_with fail
 refine (HL.out _ HO.out.inn).mono ?_;rintro e w1 ⟨r,lv,rfl,hb1,hr1,hlv,hlc⟩;have hO1:=HO.out.call hb1;have q3:=Mem.aj hm e4;obtain⟨kb,ko,rfl,k4⟩:=k3 (by intro h;simp[h] at hkl;omega);obtain⟨la,lc,rfl,l1,l2,l3⟩:=hr1;obtain⟨lb,lo',rfl,l4⟩:=l3 (by intro h;simp[h] at hlv;omega);have hk0:=hcls.rng cls[0] (List.getElem_mem zo);obtain⟨kn,hkn⟩:=Int.eq_ofNat_of_zero_le hk0.1;have d1:=k4 0 zo;rw[Nat.add_zero] at d1;have d1w:=Mem.aj (Mem.cz (Mem.le_trans (Mem.le_refl m) hO1.ext.le) hO1.inn) d1.1;have e4w:=Mem.aj (Mem.cz hO1.ext.le hO1.inn) e4;have egl:=Mem.av (Mem.cz hO1.ext.le hO1.inn) e4;rw[hkn] at d1w hk0;have d2:=l4 kn zo;have d2w:=Mem.aj hO1.inn d2;have hcl0:bt lv (cl cls 0)=lv[kn]:=by
  have:cl cls 0=kn:=by simp[cl,show 0<cls.length by omega,hkn]
  rw[this,kM]
 have Hd:=zh (zi (hB lv hlc) (hD lv hlc));have Hcl:=zh hcl0;clear hcl0 hB hD hlc;generalize lv[kn]=b0 at *
 have hO1b:=hO1.obj.frozen 0;have hO1l:=hO1.obj.lt;have hO1c:=hO1.obj.cell (i:=0) rfl
 cases b0 with
 | false=>
  have hO2:=hO1.set 0 (.slice none 0 0);have Hfin:=zh hO2;clear hO2 hO1 HO;go_wp2;refine bodyPost_ret (v:=.agg #[.slice none 0 0]) (by simp[results,Tryz.results226,go_sem,hO1c]) rfl ?_;refine hR.out _ _ ⟨_,[],rfl,Hfin.out.below,⟨none,0,rfl,Nat.le_refl _,by simp[maxLen],fun h=>absurd rfl h⟩,?_,fun x=>?_,zS⟩
  ·exact⟨fun s hs=>by simp at hs,fun s hs=>by simp at hs,fun s hs=>by simp at hs,fun k hk=>by simp at hk,fun i j hi=>by simp at hi,fun k b t hb ht=>by
    rw[dB [] k b zS] at ht;omega,fun t h1 h2=>by simp at h2⟩
  ·rw[Hd.out.2 Hcl.out x]
   exact dX [] 0 x zS
 | true=>
  have HB:=zh (Hd.out.1 Hcl.out);clear Hd Hcl;have hO2:=hO1.al #[.int .i64 0] 3;have hO3:=hO2.Mr;have hO4:=hO3.BB (.map #[] 0);have hsz:(w1.alloc (.cells #[.int .i64 0] 3)).heap.size=w1.heap.size+1:=by simp
  rw[hsz] at hO4;have Hmm:=@run_makeMap Tryz.prog;have e4w2:=Mem.aj (Mem.cz hO4.ext.le hO4.inn) e4;have d1w2:=Mem.aj (Mem.cz hO4.ext.le hO4.inn) d1.1;rw[hkn] at d1w2;have hI:=IMap.made Tryz.prog 3 3;obtain⟨w5,ob5,hr5,hb5,hI5,hg5⟩:=hI.run_put (Maps.int_keyed Tryz.underlying3) Tryz.underlying243 Tryz.underlying3 hO4.blob (by unfold maxLen;omega) (Maps.keyOf_int_mk Tryz.underlying3 (KZ (n:=kn) zo)) (x:=0) zD;have hO5:=hO4.iW hb5 hg5;have HO5:=zh (zi hO5 hI5);clear hO5 hO4 hO3 hO2 hI5 hb5 hg5 hI;have hO6:=HO5.out.1.al #[.slice none 0 0] 27;have hI5:=HO5.out.2;simp only[Option.isSome_none] at hI5;clear HO5 hsz;have hO7:=(hO6.dI 80 2);have HO7:=zh (zi hO7 hI5);clear hO7 hO6 hI5;generalize hOo:w5.heap.size=Oo at *
  obtain⟨cf,hcf⟩:∃cf:Nat→Int,cf=fun s=>cls.getD s 0:=⟨_,rfl⟩;obtain⟨dl,hdl⟩:∃dl:Nat→Nat→Option Nat,dl=dlN next cls lv:=⟨_,rfl⟩;obtain⟨ah,hah⟩:∃ah:Nat→Bool,ah=fun s=>acc.getD s false:=⟨_,rfl⟩;rw[← hcf,← hdl,← hah] at HB;have hcf0:cf 0=kn:=by rw[hcf,← hkn];simp[show 0<cls.length by omega]
  have hI7:=HO7.out.2;rw[← hcf0] at hI7;have HI:=zh (fun k hk=>DJ (cf:=cf) (ac:=ah) HB.out.iv HB.out.pos (fun s i t h1 h2 h3=>(HB.out.some s i t h1 h2 h3).1) k hk);have Hfun:=zh (zi hcf (zi hdl hah));clear hcf hdl hah;go_wp2;refine au [0,2,3,4,5,6,7] (fun n vs wr=>∃(k:Nat) (vo vst:Value) (ob:Obj) (f:Lit→Option Int) (xs:List Value) (mk:Mem),
   (∀j,j<k→j<(cO cf dl lo hi ah cuts.length j).1.length)∧k≤(cO cf dl lo hi ah cuts.length k).1.length∧n=next.length - k ∧
   vs=[.pointer (some ⟨g,0,none⟩),.pointer (some ⟨w.heap.size,0,none⟩),.slice (some ⟨lb,lo',none⟩) next.length lc,vo,.map (some (w1.heap.size+1)),.pointer (some ⟨Oo,0,none⟩),.int .i64 k] ∧
   Own w m wr mk [.row vst 80 2 k xs,.obj Oo 27 #[vst],.blob (w1.heap.size+1) ob,.row vo 3 1 (cO cf dl lo hi ah cuts.length k).1.length (bL (cO cf dl lo hi ah cuts.length k).1),.obj w.heap.size 27 #[.slice none 0 0]] ∧
   kI mk xs (cO cf dl lo hi ah cuts.length k).2∧IMap Tryz.prog 3 3 ob (cO cf dl lo hi ah cuts.length k).1.length (cO cf dl lo hi ah cuts.length k).1.length f∧xu f cf (cO cf dl lo hi ah cuts.length k).1 ∧
   (m.grow (w.alloc (.cells #[.slice none 0 0] 27)) w1).le mk) ?_ ?_
  ·exact⟨_,0,.slice (some ⟨w1.heap.size,0,none⟩) 1 1,.slice none 0 0,ob5,_,[],_,fun j hj=>zo,Nat.zero_le _,rfl,rfl,HO7.out.1,kI.nil _,hI7,Gf cf 0,Mem.le_refl _⟩
  clear HO7 hI7 hr5 d2w d1w d1w2 e4w e4w2 q3 hO1b hO1l hO1c;rintro X z n vs wr hX - ⟨k,vo,vst,ob,f,xs,mk,hk1,hk2,rfl,rfl,hO,hrow,hI,hOM,hmk⟩;simp[litL,lk];have hBI:=HI.out k hk1;obtain⟨voa,voc,rfl⟩:=aQ hO.fourth.row;by_cases hlt:k<(cO cf dl lo hi ah cuts.length k).1.length
  ·have hsN:=hBI.lt _ (List.getElem_mem hlt);have hoN:=jy hBI.dif hBI.lt;have hmr:=Mem.cz hO.ext.le hO.inn;have hrowi:∃vo',voa=some ⟨vo',0,none⟩:=by
    rcases hO.fourth.row.2 with ⟨h,-⟩ | ⟨gg,cap,cur,h,-⟩
    ·injection h with h1 h2 h3;omega
    ·injection h with h1 h2 h3;exact⟨_,h1⟩
   obtain⟨vob,rfl⟩:=hrowi;have hr1s:(bL (cO cf dl lo hi ah cuts.length k).1)[k]?=some (.int .i64 ((cO cf dl lo hi ah cuts.length k).1[k]:Nat)):=by simp[bL,hlt]
   have r1:=aP (j:=k) hO.fourth.row hr1s;have hgd:(cO cf dl lo hi ah cuts.length k).1.getD k 0=(cO cf dl lo hi ah cuts.length k).1[k]:=by simp[hlt]
   have HBI:=zh hBI;clear hBI;have hl4:=fun c (h:c<lv.length)=>Mem.aA hmk (l4 c h);obtain⟨nb,no,rfl,n4⟩:=n3 (by intro h;simp[h] at hpos);obtain⟨ab,ao,rfl,a4⟩:=a3 (by intro h;have:=H.alen;simp[h] at this;omega);have hE:=xm cf dl lo hi ah cuts.length k;rw[hgd] at hE;generalize (cO cf dl lo hi ah cuts.length k).1[k]=s at *
   have ha1:=a4 s (by have:=H.alen;omega);obtain⟨u,m1,ra,rc,rfl,m2,m3,m4⟩:=n4 s hsN;have ha1w:=Mem.aj hmr ha1;have ha1l:=Mem.av hmr ha1;have m1w:=Mem.aj hmr m1;have e2w:=Mem.aj hmr e2;have e3w:=Mem.aj hmr e3;have e4w:=Mem.aj hmr e4;have egw:=Mem.av hmr e4;have Hrows:=H.rows _ (List.getElem_mem hsN);have hahs:ah s=acc[s]'(by have:=H.alen;omega):=by
    have h1:=congrFun Hfun.out.2.2 s;have:s<acc.length:=by have:=H.alen;omega
    simpa [this] using h1
   rw[← hahs] at ha1w;unfold maxLen at m3;have hahN:s<acc.length:=by have:=H.alen;omega
   clear hahs ha1 hgd;generalize hrw:next[s]=row at *
   have Hob:=zh (show ∀j,j<k+1→j<(cO cf dl lo hi ah cuts.length j).1.length from fun j hj=>by
    by_cases c:j<k
    ·exact hk1 j c
    ·have:j=k:=zo;subst this;exact hlt)
   generalize cO cf dl lo hi ah cuts.length k=r at *
   obtain⟨o,out⟩:=r;simp only at *
   have hvo:=hO.fourth.row;have hol:=(World.ownsRow.lt hvo _ rfl).2;unfold maxLen at *
   go_wp2;refine aN [0,2,3,4,5,6,7,8] (fun vs w1'=>vs=[.pointer (some ⟨g,0,none⟩),.pointer (some ⟨w.heap.size,0,none⟩),.slice (some ⟨lb,lo',none⟩) next.length lc,.slice (some ⟨vob,0,none⟩) o.length voc,.map (some (w1.heap.size+1)),.pointer (some ⟨Oo,0,none⟩),.int .i64 k,.pointer (some ⟨wr.heap.size,0,none⟩)] ∧
    w1'=(wr.alloc (.cells #[.bool (ah s),.slice none 0 0] 80)).drew) ?_ ?_
   ·intro Y hY
    go_region
    all_goals exact hY.out _ _ rfl ⟨rfl,rfl⟩
   rintro z1 vs w1' - ⟨rfl,rfl⟩;simp[litL,lk];have hO1:=((hO.al #[.bool (ah s),.slice none 0 0] 80).dr).dI 104 3;have HO1:=zh hO1;clear hO1 hO;have hSz:wr.heap.size<(wr.alloc (.cells #[.bool (ah s),.slice none 0 0] 80)).drew.heap.size:=by simp
   generalize hS:wr.heap.size=S at *
   generalize (wr.alloc (.cells #[.bool (ah s),.slice none 0 0] 80)).drew=w2 at *
   have hmr2:=Mem.cz HO1.out.ext.le HO1.out.inn;have m1w:=Mem.aj hmr2 m1;have m1l:=Mem.av hmr2 m1;have e2w:=Mem.aj hmr2 e2;have e2l:=Mem.av hmr2 e2;have r1:=aP (j:=k) (u:=.int .i64 s) (HO1.out.jT (v:=.slice (some ⟨vob,0,none⟩) o.length voc) (t:=3) (size:=1) (n:=o.length) (xs:=bL o) zS) hr1s;go_wp2
   go_quiet (fail)
   go_wp2;have hRI:∀i,i≤cuts.length→Fa cf dl lo hi cuts.length next.length s o i (bI cf dl lo hi s o i):=
    Ck HB.out.iv HBI.out.dif HBI.out.lt (fun i t hi' ht=>(HB.out.some s i t hsN hi' ht).1)
   have HRI:=zh hRI;clear hRI;refine au [0,2,3,4,5,6,7,8,63,64,65] (fun n vs wr2=>∃(i:Nat) (vo ve:Value) (ob:Obj) (f:Lit→Option Int),i≤cuts.length∧n=cuts.length - i ∧
    vs=[.pointer (some ⟨g,0,none⟩),.pointer (some ⟨w.heap.size,0,none⟩),.slice (some ⟨lb,lo',none⟩) next.length lc,vo,.map (some (w1.heap.size+1)),.pointer (some ⟨Oo,0,none⟩),.int .i64 k,.pointer (some ⟨S,0,none⟩),.slice ra cuts.length rc,.int .i64 cuts.length,.int .i64 i] ∧
    Own w m wr2 mk [.row ve 104 3 (bI cf dl lo hi s o i).2.length (dz (bI cf dl lo hi s o i).2),.obj S 80 #[.bool (ah s),ve],.row vst 80 2 k xs,.obj Oo 27 #[vst],.blob (w1.heap.size+1) ob,
     .row vo 3 1 (bI cf dl lo hi s o i).1.length (bL (bI cf dl lo hi s o i).1),.obj w.heap.size 27 #[.slice none 0 0]] ∧
    IMap Tryz.prog 3 3 ob (bI cf dl lo hi s o i).1.length (bI cf dl lo hi s o i).1.length f∧xu f cf (bI cf dl lo hi s o i).1) ?_ ?_
   ·exact⟨_,0,.slice (some ⟨vob,0,none⟩) o.length voc,.slice none 0 0,ob,f,Nat.zero_le _,rfl,rfl,HO1.out.drN _,hI,hOM⟩
   clear HO1 hI hOM r1 m1w m1l e2w e2l hSz hmr2;rintro Y z2 n vs wr2 hY - ⟨i,vo,ve,ob,f,hi1,rfl,rfl,hO,hI,hOM⟩;simp[litL,lk];have hri:=HRI.out i hi1;obtain⟨voa,vocc,rfl⟩:=aQ (hO.jT (v:=vo) (t:=3) (size:=1) (n:=(bI cf dl lo hi s o i).1.length) (xs:=bL (bI cf dl lo hi s o i).1) zS);obtain⟨vea,vec,rfl⟩:=aQ hO.row;have hqN:=jy hri.dif hri.lt;have hqe:=zT cf dl lo hi s o i;by_cases hlt3:i<cuts.length
   ·have hilr:i<row.length:=zo;obtain⟨rb,ro,rfl,m5⟩:=m4 (by intro h;simp[h] at hilr);have hmr3:=Mem.cz hO.ext.le hO.inn;have x1:=Mem.aj hmr3 (m5 i hilr).1;have hxr:=Hrows.2 row[i] (List.getElem_mem hilr);obtain⟨xn,hxn⟩:=Int.eq_ofNat_of_zero_le hxr.1;have hta:taN next s i=row[i]:=by
     unfold taN nx;have:next.getD s []=row:=by rw[← hrw];simp[hsN]
     rw[this];simp[hilr]
    rw[hxn] at x1 hxr hta;have hxl:xn<cls.length:=zo;have y1:=k4 xn hxl;have y1w:=Mem.aj hmr3 y1.1;have hyr:=hcls.rng cls[xn] (List.getElem_mem hxl);obtain⟨cn,hcn⟩:=Int.eq_ofNat_of_zero_le hyr.1;rw[hcn] at y1w hyr;have hcfx:cf xn=cn:=by
     have h1:=congrFun Hfun.out.1 xn;simpa [hxl,hcn] using h1
    have z1w:=Mem.aj hO.inn (hl4 cn zo);have hdlx:dl s i=if lv[cn]'zo=true then some xn else none:=by
     have h1:=congrFun (congrFun Hfun.out.2.1 s) i;rw[h1];unfold dlN;rw[hta];have h2:cl cls ((xn:Int).toNat)=cn:=by simp[cl,hxl,hcn]
     rw[h2,kM zo]
     rfl
    have e4w:=Mem.aj hmr3 e4;have egw:=Mem.av hmr3 e4;generalize hlvb:lv[cn]'zo=b at *
    clear hta hcn hxn hlvb
    cases b with
    | false=>
     have hN:=ww (cf:=cf) (lo:=lo) (hi:=hi) (o:=o) (by simpa using hdlx);have HN:=zh hN;clear hN hdlx hcfx;go_wp2;refine hY.out _ _ _ zo rfl ⟨i+1,.slice voa (bI cf dl lo hi s o i).1.length vocc,.slice vea (bI cf dl lo hi s o i).2.length vec,ob,f,zo,rfl,rfl,?_,?_,?_⟩
     ·rw[HN.out];exact hO
     ·rw[HN.out];exact hI
     ·rw[HN.out];exact hOM
    | true=>
     have hN:=wu (cf:=cf) (lo:=lo) (hi:=hi) (o:=o) (t:=xn) (by simpa using hdlx);have hri2:=HRI.out (i+1) zo;have HN:=zh (zi hN (zi hri2 hri));clear hN hdlx hri2 hri;generalize bI cf dl lo hi s o i=q at *
     obtain⟨o',es⟩:=q;simp only at hO hI hOM hqN hqe;have hkey:=Maps.keyOf_int_mk Tryz.underlying3 (KZ (n:=cn) zo);have hrun:=hI.Jd (Maps.int_keyed Tryz.underlying3) Tryz.underlying243 Tryz.underlying3 Fh (hO.yJ (g:=w1.heap.size+1) (o:=ob) zS) hkey
     go_upto_if 89 with (fail)
     refine aN [0,2,3,4,5,6,7,8,9,10,11,63,64,65] (fun vs w'=>∃(vo2:Value) (ob2:Obj) (f2:Lit→Option Int),
      vs=[.pointer (some ⟨g,0,none⟩),.pointer (some ⟨w.heap.size,0,none⟩),.slice (some ⟨lb,lo',none⟩) next.length lc,vo2,.map (some (w1.heap.size+1)),.pointer (some ⟨Oo,0,none⟩),.int .i64 k,.pointer (some ⟨S,0,none⟩),.int .i64 i,.int .i64 xn,.int .i64 cn,.slice (some ⟨rb,ro,none⟩) cuts.length rc,.int .i64 cuts.length,.int .i64 i] ∧
      Own w m w' mk [.row (.slice vea es.length vec) 104 3 es.length (dz es),.obj S 80 #[.bool (ah s),.slice vea es.length vec],.row vst 80 2 k xs,.obj Oo 27 #[vst],.blob (w1.heap.size+1) ob2,
       .row vo2 3 1 (bS cf o' xn).length (bL (bS cf o' xn)),.obj w.heap.size 27 #[.slice none 0 0]] ∧
      IMap Tryz.prog 3 3 ob2 (bS cf o' xn).length (bS cf o' xn).length f2∧xu f2 cf (bS cf o' xn)) ?_ ?_
     ·intro Z hZ;have hfc:=hOM (cn:Int);by_cases hp:posC cf o' cn<o'.length
      ·rw[if_pos hp] at hfc;have hoa:bS cf o' xn=o':=by
        unfold bS;rw[← CB,hcfx,if_pos hp]
       have Hoa:=zh (zi hoa (zi hI hOM));rw[hfc];simp only[Option.isNone_some,Option.isSome_some,Option.getD_some];clear hoa hp hI hOM hrun hfc;go_wp2;refine hZ.out _ _ rfl ⟨.slice voa o'.length vocc,ob,f,rfl,?_,?_,?_⟩
       ·rw[Hoa.out.1];exact hO
       ·rw[Hoa.out.1];exact Hoa.out.2.1
       ·rw[Hoa.out.1];exact Hoa.out.2.2
      ·rw[if_neg hp] at hfc;have hoa:bS cf o' xn=o' ++ [xn]:=by
        unfold bS;rw[← CB,hcfx,if_neg hp]
       have hOM2:=wF hOM xn (by rw[hcfx];exact hp);rw[hcfx] at hOM2;have hO1:=hO.pull (l₁:=[_,_,_,_]);obtain⟨w4,ob4,hr4,hb4,hI4,hg4⟩:=hI.run_put (Maps.int_keyed Tryz.underlying3) Tryz.underlying243 Tryz.underlying3 hO1.blob (by unfold maxLen;omega) hkey (KZ (n:=o'.length) zo);rw[hfc] at hI4;simp only[Option.isSome_none] at hI4;have hO2:=(hO1.iW hb4 hg4).D6 (l₁:=[_,_,_,_]);have hO3:=(hO2.al #[.int .i64 xn] 3);have Hk:=zh (zi hoa (zi hOM2 hI4));rw[hfc];simp only[Option.isNone_none,Option.isSome_none,Option.getD_none];clear hoa hOM2 hI4 hOM hI hrun hp hb4 hg4 hO1 hO2 hfc
       go_wp2_with (at_builtin;refine aC oJ rfl (.tmp 94) (.tmp 96) rfl (.slice voa o'.length vocc) o'.length (bL o') rfl (hO3.jT zS) ⟨w4.heap.size,0,none⟩ 1 1 [.int .i64 xn] rfl rfl (hO3.obj.news rfl) (by simp[Value.oneCell']) (by unfold maxLen;omega) zo ?_)
       intro va vc' w5 hown5 hgrow5 hrow5;have hO4:=(hO3.pull (l₁:=[_,_,_,_,_,_])).app hown5 hgrow5 hrow5 zS;have hO5:=hO4.D6 (l₁:=[_,_,_,_,_,_]);have HO5:=zh hO5.tail;clear hO5 hO4 hO3 hown5 hgrow5 hrow5;go_wp2;refine hZ.out _ _ rfl ⟨.slice va (o'.length+1) vc',ob4,fput f (.int .i64 cn) o'.length,rfl,?_,?_,?_⟩
       ·rw[Hk.out.1];have:=HO5.out;simpa [bL] using this
       ·rw[Hk.out.1];simpa using Hk.out.2.2
       ·rw[Hk.out.1];exact Hk.out.2.1
     rintro z3 vs w4 - ⟨vo2,ob2,f2,rfl,hO4,hI4,hOM4⟩;simp[litL,lk];clear hO hI hOM hrun;obtain⟨voa2,voc2,rfl⟩:=aQ (hO4.jT (v:=vo2) (t:=3) (size:=1) (n:=(bS cf o' xn).length) (xs:=bL (bS cf o' xn)) zS);have hap:=l7 cf o' xn;have hfp:=hOM4 (cn:Int);have hpc:posC cf (bS cf o' xn) cn=df cf o' xn:=by rw[← hcfx,CB];exact hap.1
     rw[hpc,if_pos hap.2] at hfp;have hlk:=fun nq=>hI4.run_get (w:=w4.drewN nq) (Maps.int_keyed Tryz.underlying3) Tryz.underlying243 Tryz.underlying3 Fh (hO4.yJ (g:=w1.heap.size+1) (o:=ob2) zS) hkey;rw[hfp] at hlk;simp only[Option.getD_some] at hlk;generalize df cf o' xn=p at *
     have hpN:p≤2000000:=by
      have:=HN.out.2.1.pre;have h2:=jy HN.out.2.1.dif HN.out.2.1.lt;rw[HN.out.1] at h2;simp only at h2;omega
     have s1:=(hO4.swap.obj).cell (i:=1) rfl;obtain⟨cb,co,rfl,c4⟩:=c3 (by intro h;simp[h] at hlt3);have hcell:=c4 i hlt3;rw[hC.lo i hlt3] at hcell;have hle:=HB.out.iv.le i hlt3;have hmr4:=Mem.cz hO4.ext.le hO4.inn;have c4w:=Mem.aj hmr4 hcell.1;have e1w:=Mem.aj hmr4 e1;have e1l:=Mem.av hmr4 e1;have hedok:=rZ (N:=next.length) HN.out.2.2 zo;simp only at hedok;clear e4w egw x1 y1w z1w;go_wp2;refine aN [0,2,3,4,5,6,7,8,9,10,11,14,63,64,65,134] (fun vs w'=>∃(bb:Bool) (nq:Nat),
      vs=[.pointer (some ⟨g,0,none⟩),.pointer (some ⟨w.heap.size,0,none⟩),.slice (some ⟨lb,lo',none⟩) next.length lc,.slice voa2 (bS cf o' xn).length voc2,.map (some (w1.heap.size+1)),.pointer (some ⟨Oo,0,none⟩),.int .i64 k,.pointer (some ⟨S,0,none⟩),.int .i64 i,.int .i64 xn,.int .i64 cn,.int .i64 es.length,.slice (some ⟨rb,ro,none⟩) cuts.length rc,.int .i64 cuts.length,.int .i64 i,.bool bb] ∧
      w'=w4.drewN nq∧(bb=true↔∃(fs:List Ed) (e:Ed),es=fs ++ [e]∧e.to=(p:Int)∧e.hi+1=lo i)) ?_ ?_
     ·intro Z hZ;rcases List.eq_nil_or_concat es with rfl | ⟨fs,e,he⟩
      ·refine wp_region_quiet_lit zk zk ?_
       repeat (any_goals (first | go_big_quiet_step (fail) | quiet_step (fail) | (refine wpQuiet_step (fun K hK=>?_);go_simp;split <;> (refine hK _ ?_;clear hK K))))
       all_goals (refine wpQuiet_nil ?_;intro _ hw';obtain⟨nq,hw''⟩:=hw';subst hw'')
       all_goals go_wp2
       all_goals exact hZ.out _ _ rfl ⟨false,nq,rfl,rfl,zS⟩
      ·rw[List.concat_eq_append] at he;subst he;have hvea:∃eb,vea=some ⟨eb,0,none⟩:=by
        rcases hO4.row.2 with ⟨h,-⟩ | ⟨gg,cap,cur,h,-⟩
        ·injection h with h1 h2 h3;simp at h2
        ·injection h with h1 h2 h3;exact⟨_,h1⟩
       obtain⟨eb,rfl⟩:=hvea;have hec:=jb (fs ++ [e]) fs.length zS;have hel:(fs ++ [e])[fs.length]'zS=e:=by simp
       rw[hel] at hec;have t1:=aP hO4.row hec.2.1;have t2:=aP hO4.row hec.2.2;have hek:=hedok e zS;clear hel hec;have hqe2:=hqe;simp only[List.length_append,List.length_cons,List.length_nil] at hqe2;have hw1:IntKind.i64.wrap ((((fs ++ [e]).length:Nat):Int) - 1)=(fs.length:Int):=by
        rw[IntWalk.i64_in _ (by simp;omega)];simp
       have hw2:IntKind.i64.wrap ((e.hi:Int)+1)=(e.hi:Int)+1:=IntWalk.i64_in _ zo;have hw3:fs.length<(fs ++ [e]).length:=by simp
       have HL:=zh (EB fs e (p:Int) (lo i));refine wp_region_quiet_lit zk zk ?_
       repeat (any_goals (first | go_big_quiet_step (fail) | quiet_step (fail) | (refine wpQuiet_step (fun K hK=>?_);go_simp;split <;> (refine hK _ ?_;clear hK K))))
       all_goals (refine wpQuiet_nil ?_;intro _ hw';obtain⟨nq,hw''⟩:=hw';subst hw'')
       all_goals go_wp2
       all_goals first
        | (refine hZ.out _ _ rfl ⟨true,nq,zS,rfl,?_⟩;rw[HL.out];simp only[true_iff];omega)
        | (refine hZ.out _ _ rfl ⟨false,nq,zS,rfl,?_⟩;rw[HL.out];simp only[Bool.false_eq_true,false_iff];omega)
        | (refine hZ.out _ _ rfl ⟨(e.hi:Int)+1==(lo i:Int),nq,zS,rfl,?_⟩;rw[HL.out];simp only[beq_iff_eq];omega)
     rintro z5 vs w5 - ⟨bb,nq,rfl,rfl,hbb⟩;simp[litL,lk];have hO5:=(hO4.drN nq).dr;have hEnd:=fun w' (hw:m.inn w')=>NJ g cuts next acc cls i m w' hw ht hlt3 (fun h=>by
      have h1:=HB.out.iv.sep i (i+1) zo h;have h2:=HB.out.iv.le (i+1) h;have h3:=hC.lo (i+1) h;omega)
     rw[hC.hi i hlt3] at hEnd;have HEnd:=zh hEnd;clear hEnd c4w e1w e1l s1 hlk;have hle2:=HB.out.iv.le i hlt3
     cases bb with
     | true=>
      obtain⟨fs,e,hes,he1,he2⟩:=hbb.1 rfl;subst hes;have hvea:∃eb,vea=some ⟨eb,0,none⟩:=by
       rcases hO5.row.2 with ⟨h,-⟩ | ⟨gg,cap,cur,h,-⟩
       ·injection h with h1 h2 h3;simp at h2
       ·injection h with h1 h2 h3;exact⟨_,h1⟩
      obtain⟨eb,rfl⟩:=hvea;have hqe2:=hqe;simp only[List.length_append,List.length_cons,List.length_nil] at hqe2;have hw1:IntKind.i64.wrap ((((fs ++ [e]).length:Nat):Int) - 1)=(fs.length:Int):=by
       rw[IntWalk.i64_in _ (by simp;omega)];simp
      have hw3:fs.length<(fs ++ [e]).length:=by simp
      have hw4:IntKind.i64.wrap (fs.length:Int)=(fs.length:Int):=IntWalk.i64_in _ zo;have hw5:(fs.length:Int)<(fs.length:Int)+1:=zo;have hpe:=wC (lo:=lo i) (hi:=hi i) (fs:=fs) (zi he1 he2);have Hpe:=zh hpe;clear hpe he1 he2 hbb;go_wp2;have s1:=hO5.swap.obj.cell (i:=1) rfl;have hm5:=Mem.cz hO5.ext.le hO5.inn;have f1:=bU hO5.row (fs.length*3+1);have c1:=aP hO5.row (jb (fs ++ [e]) fs.length zS).2.1;have hO6:=hO5.setRow (fs.length*3+1) (.int .u8 (hi i));rw[uK] at hO6;have Hfin:=zh hO6;clear hO6 hO5 hO4;refine wp_region_still_tail 9 zk zk ?_;change wpStill _ _ (w4.drewN nq).drew (fun a'=>wpList _ _ _ _ a' (w4.drewN nq).drew) _ _;generalize (w4.drewN nq).drew=w6 at *
      simp only[List.take_succ_cons,List.take_zero,List.drop_succ_cons,List.drop_zero]
      repeat still_step
      still_call (HEnd.out _ hm5)
      repeat still_step
      refine wpStill_nil ?_;go_wp2;refine hY.out _ _ _ zo rfl ⟨i+1,.slice voa2 (bS cf o' xn).length voc2,.slice (some ⟨eb,0,none⟩) (fs ++ [e]).length vec,ob2,f2,zo,rfl,rfl,?_,?_,?_⟩
      ·rw[HN.out.1,Hpe.out];have:=Hfin.out;simpa using this
      ·rw[HN.out.1];exact hI4
      ·rw[HN.out.1];exact hOM4
     | false=>
      have hpe:gY es (lo i) (hi i) p=es ++ [⟨lo i,hi i,(p:Int)⟩]:=by
       rcases List.eq_nil_or_concat es with rfl | ⟨fs,e,he⟩
       ·rfl
       ·rw[List.concat_eq_append] at he;subst he;exact wD fun h=>by have:=hbb.2 ⟨fs,e,rfl,h.1,h.2⟩;cases this
      have Hpe:=zh hpe;clear hpe hbb;have hlk:=fun nq=>hI4.run_get (w:=w4.drewN nq) (Maps.int_keyed Tryz.underlying3) Tryz.underlying243 Tryz.underlying3 Fh (hO4.yJ (g:=w1.heap.size+1) (o:=ob2) zS) hkey;rw[hfp] at hlk;simp only[Option.getD_some] at hlk;have hwu:IntKind.u8.wrap (lo i:Int)=(lo i:Int):=IntWalk.u8_in _ zo;have hO5:=hO4.drN (nq+1);have mkS:∀{w':World} {L:List Cl.Item},Own w m w' mk L→Item.obj S 80 #[.bool (ah s),.slice vea es.length vec]∈L→Item.blob (w1.heap.size+1) ob2∈L →
       (bD w' S 80 #[.bool (ah s),.slice vea es.length vec]∧w'.cell? ⟨g,0,none⟩=some (.slice (some ⟨cb,co,none⟩) cuts.length cc)∧w'.cell? ⟨cb,co+i,none⟩=some (.int .i64 (lo i))∧(Instr.lookup 243 (.map (some (w1.heap.size+1))) (.int .i64 cn) false).run Tryz.prog w'=.ok (.int .i64 p) w'):=by
       intro w' L hO h1 h2;refine ⟨hO.p8 h1,Mem.aj (Mem.cz hO.ext.le hO.inn) e1,Mem.aj (Mem.cz hO.ext.le hO.inn) hcell.1,?_⟩;have:=hI4.run_get (Maps.int_keyed Tryz.underlying3) Tryz.underlying243 Tryz.underlying3 Fh (hO.yJ h2) hkey;rw[hfp] at this;exact this
      go_wp2;refine fq (fun w'=>bD w' S 80 #[.bool (ah s),.slice vea es.length vec]∧w'.cell? ⟨g,0,none⟩=some (.slice (some ⟨cb,co,none⟩) cuts.length cc)∧w'.cell? ⟨cb,co+i,none⟩=some (.int .i64 (lo i))∧(Instr.lookup 243 (.map (some (w1.heap.size+1))) (.int .i64 cn) false).run Tryz.prog w'=.ok (.int .i64 p) w') 20 zk ?_;have hS:=mkS hO5 zS zS;refine aD 0 rfl zk (fun _ _ _ h=>h) hS (aB rfl fun w' hS'=>by have q:=hS'.1.cell (i:=1) rfl;have q1:=hS'.2.1;have q2:=hS'.2.2.1;have q3:=hS'.2.2.2;go_simp;rfl) ?_;refine aD 1 rfl zk (fun _ _ _ h=>h) hS (aB rfl fun w' hS'=>by have q:=hS'.1.cell (i:=1) rfl;have q1:=hS'.2.1;have q2:=hS'.2.2.1;have q3:=hS'.2.2.2;go_simp;rfl) ?_;refine aD 2 rfl zk (fun _ _ _ h=>h) hS (aB rfl fun w' hS'=>by have q:=hS'.1.cell (i:=1) rfl;have q1:=hS'.2.1;have q2:=hS'.2.2.1;have q3:=hS'.2.2.2;go_simp;rfl) ?_;refine aD 3 rfl zk (fun _ _ _ h=>h) hS (aB rfl fun w' hS'=>by have q:=hS'.1.cell (i:=1) rfl;have q1:=hS'.2.1;have q2:=hS'.2.2.1;have q3:=hS'.2.2.2;go_simp;rfl) ?_;refine aD 4 rfl zk (fun _ _ _ h=>h) hS (aB rfl fun w' hS'=>by have q:=hS'.1.cell (i:=1) rfl;have q1:=hS'.2.1;have q2:=hS'.2.2.1;have q3:=hS'.2.2.2;go_simp;rfl) ?_;refine aD 5 rfl zk (fun _ _ _ h=>h) hS (aB rfl fun w' hS'=>by have q:=hS'.1.cell (i:=1) rfl;have q1:=hS'.2.1;have q2:=hS'.2.2.1;have q3:=hS'.2.2.2;go_simp;rfl) ?_;refine aD 6 rfl zk (fun _ _ _ h=>h) hS (aB rfl fun w' hS'=>by have q:=hS'.1.cell (i:=1) rfl;have q1:=hS'.2.1;have q2:=hS'.2.2.1;have q3:=hS'.2.2.2;go_simp;rfl) ?_;refine aD 7 rfl zk (fun _ _ _ h=>h) hS (aB rfl fun w' hS'=>by have q:=hS'.1.cell (i:=1) rfl;have q1:=hS'.2.1;have q2:=hS'.2.2.1;have q3:=hS'.2.2.2;go_simp;rfl) ?_;refine aD 8 rfl zk (fun _ _ _ h=>h) hS (aB rfl fun w' hS'=>by have q:=hS'.1.cell (i:=1) rfl;have q1:=hS'.2.1;have q2:=hS'.2.2.1;have q3:=hS'.2.2.2;go_simp;rfl) ?_;refine aD 9 rfl zk (fun _ _ _ h=>h) hS (aB rfl fun w' hS'=>by have q:=hS'.1.cell (i:=1) rfl;have q1:=hS'.2.1;have q2:=hS'.2.2.1;have q3:=hS'.2.2.2;go_simp;rfl) ?_;refine aD 10 rfl zk (fun _ _ _ h=>h) hS (aB rfl fun w' hS'=>by have q:=hS'.1.cell (i:=1) rfl;have q1:=hS'.2.1;have q2:=hS'.2.2.1;have q3:=hS'.2.2.2;go_simp;rfl) ?_;refine aD 11 rfl zk (fun _ _ _ h=>h) hS (aB rfl fun w' hS'=>by have q:=hS'.1.cell (i:=1) rfl;have q1:=hS'.2.1;have q2:=hS'.2.2.1;have q3:=hS'.2.2.2;go_simp;rfl) ?_;refine aD 13 rfl zk (fun _ _ _ h=>h) hS (aB rfl fun w' hS'=>by have q:=hS'.1.cell (i:=1) rfl;have q1:=hS'.2.1;have q2:=hS'.2.2.1;have q3:=hS'.2.2.2;go_simp;rfl) ?_;refine aD 14 rfl zk (fun _ _ _ h=>h) hS (aB rfl fun w' hS'=>by have q:=hS'.1.cell (i:=1) rfl;have q1:=hS'.2.1;have q2:=hS'.2.2.1;have q3:=hS'.2.2.2;go_simp;rfl) ?_;refine aD 15 rfl zk (fun _ _ _ h=>h) hS (aB rfl fun w' hS'=>by have q:=hS'.1.cell (i:=1) rfl;have q1:=hS'.2.1;have q2:=hS'.2.2.1;have q3:=hS'.2.2.2;go_simp;rfl) ?_;go_simp;refine aT 12 zk (aO rfl rfl (fQ (by go_simp) (HEnd.out _ (Mem.cz hO5.ext.le hO5.inn)) ?_));rintro e' w6 ⟨rfl,rfl⟩;refine ⟨_,rfl,andS hS fun hS1=>?_⟩;go_simp;refine aT 16 zk (aO rfl rfl (aK (by go_simp;first | exact⟨rfl,rfl⟩ | rfl) (andS hS fun _=>?_)));go_simp;have hO6:=hO5.al #[.int .u8 (lo i),.int .u8 (hi i),.int .i64 p] 104;refine aT 17 zk (aO rfl rfl (aK (by go_simp;first | exact⟨rfl,rfl⟩ | rfl) (andS (mkS hO6 zS zS) fun _=>?_)));go_simp;refine aT 18 zk (aO rfl rfl (eH xJ (.tmp 145) (.tmp 161) rfl (.slice vea es.length vec) es.length (dz es) rfl hO6.swap.row ⟨w4.heap.size,0,none⟩ 1 1 [.int .u8 (lo i),.int .u8 (hi i),.int .i64 p] rfl rfl (hO6.obj.news rfl) (by simp[Value.oneCell']) (by unfold maxLen;omega) zo (fun na' nc' w7 hown7 hgrow7 hrow7=>?_)));have hO7:=hO6.swap.app hown7 hgrow7 hrow7 (Nat.le_refl _);refine andS (mkS hO7 zS zS) fun hS3=>?_;go_simp;refine aT 19 zk (aO rfl rfl (aK (by go_simp;first | exact⟨rfl,rfl⟩ | rfl) (andS hS3 fun _=>?_)));go_simp;have f3:=hS3.1.frozen 1;have c3:=hS3.1.cell (i:=1) rfl;refine aT 20 zk (aO rfl rfl (iM (by go_simp;rfl) (lN rfl ?_)));refine fw zk ?_ _;have hO8:=((hO7.third.set 1 (.slice na' (es.length+1) nc')).jO).swap;have Hfin:=zh hO8;clear hO8 hO7 hO6 hO5 hO4 hS hS1 hS3 f3 c3 hown7 hgrow7 hrow7;go_wp2;refine hY.out _ _ _ zo rfl ⟨i+1,.slice voa2 (bS cf o' xn).length voc2,.slice na' (es.length+1) nc',ob2,f2,zo,rfl,rfl,?_,?_,?_⟩
      ·rw[HN.out.1,Hpe.out];have:=Hfin.out;simpa [eY] using this
      ·rw[HN.out.1];exact hI4
      ·rw[HN.out.1];exact hOM4
   ·obtain rfl:i=cuts.length:=zo;have s0:=hO.swap.obj.cell (i:=0) rfl;have s1:=hO.swap.obj.cell (i:=1) rfl;have sl:=hO.swap.obj.lt;have u0:=(hO.p8 (g:=Oo) (t:=27) (arr:=#[vst]) zS).cell (i:=0) rfl;have hes:=iD (l:=(bI cf dl lo hi s o cuts.length).2) (m:=mk) hO.row (rZ (N:=next.length) hri zo);have hO2:=hO.bg;have hmk2:=Mem.dh (w:=wr2) hO.free;have hrow2:=(hrow.mono hmk2).push (s:=⟨ah s,(bI cf dl lo hi s o cuts.length).2⟩) hes;obtain⟨vsta,vstc,rfl⟩:=aQ hO2.swap.row;have hO3:=hO2.al #[.bool (ah s),.slice vea (bI cf dl lo hi s o cuts.length).2.length vec] 80;have hoN2:=jy HBI.out.dif HBI.out.lt;simp only at hoN2;have Hk:=zh (zi hrow2 (zi (Mem.le_trans hmk hmk2) (zi hI hOM)));clear hrow2 hes hI hOM hmk2;generalize mk.addv wr2 (.slice vea (bI cf dl lo hi s o cuts.length).2.length vec)=mk2 at *
    have hnews:=hO3.obj.news rfl;have hvr:=hO3.third.row;clear hO hO2
    go_wp2_with (at_builtin;refine aC lY rfl (.tmp 166) (.tmp 168) rfl (.slice vsta k vstc) k xs rfl hvr ⟨wr2.heap.size,0,none⟩ 1 1 [.bool (ah s),.slice vea (bI cf dl lo hi s o cuts.length).2.length vec] rfl rfl hnews (by simp[Value.oneCell']) (by unfold maxLen;omega) zo ?_)
    intro va vc w7 hown7 hgrow7 hrow7;have hO4:=(hO3.third.app hown7 hgrow7 hrow7 zS).fourth;clear hown7 hgrow7 hrow7 hO3 hvr hnews;have u2:=hO4.obj.cell (i:=0) rfl;have u3:=hO4.obj.frozen 0;have u4:=hO4.obj.lt;have hO5:=((hO4.set 0 (.slice va (k+1) vc)).swap).jO.jO;have HO5:=zh hO5;clear hO5 hO4;go_wp2;have hpre:=hri.pre.length_le;refine hX.out _ _ _ zo rfl ⟨k+1,.slice voa (bI cf dl lo hi s o cuts.length).1.length vocc,.slice va (k+1) vc,ob,f,xs ++ [.bool (ah s),.slice vea (bI cf dl lo hi s o cuts.length).2.length vec],mk2,?_,?_,rfl,rfl,?_,?_,?_,?_,Hk.out.2.1⟩
    ·exact Hob.out
    ·rw[hE];show k+1≤(bI cf dl lo hi s o cuts.length).1.length;omega
    ·rw[hE];exact HO5.out
    ·rw[hE];exact Hk.out.1
    ·rw[hE];exact Hk.out.2.2.1
    ·rw[hE];exact Hk.out.2.2.2
  ·have hkl2:(cO cf dl lo hi ah cuts.length k).1.length=k:=zo;have hcan:=Bz HB.out hk1 hkl2;have hNl:=jy hBI.dif hBI.lt;rw[hkl2] at hNl;have hclen:=hBI.len;generalize cO cf dl lo hi ah cuts.length k=r at *
   obtain⟨vsta,vstc,rfl⟩:=aQ hO.row;have u1:=(hO.p8 (g:=Oo) (t:=27) (arr:=#[.slice vsta k vstc]) zS).cell (i:=0) rfl;have hO2:=(hO.pull (l₁:=[_,_,_,_]));have u2:=hO2.obj.cell (i:=0) rfl;have u3:=hO2.obj.frozen 0;have u4:=hO2.obj.lt;have hO3:=(hO2.set 0 (.slice vsta k vstc)).swap;have hst:=fD (l:=r.2) (m:=mk) (by rw[hclen];exact hO3.row) hrow hO3.free;have hst2:=bu hO3.bg.done hst;have hbel:=hO3.below;have Hk:=zh (zi hcan (zi hst2 (zi hbel (zi hNl hclen))));clear hcan hst hst2 hbel hNl hclen hO3 hO2 hO hI hOM hBI hrow hkl2;go_wp2;refine bodyPost_ret (v:=.agg #[.slice vsta k vstc]) (by simp[results,Tryz.results226,go_sem,u2]) rfl ?_;refine hR.out _ _ ⟨_,r.2,rfl,Hk.out.2.2.1,Hk.out.2.1,Hk.out.1.1,Hk.out.1.2,?_⟩;have h1:=Hk.out.2.2.2.1;have h2:=Hk.out.2.2.2.2;omega
theorem wZ (es:List Ed) (b k:Nat) (h:k<es.length):aS (es.drop k) b=if (es[k]).lo≤b∧b≤(es[k]).hi then (es[k]).to else aS (es.drop (k+1)) b:=by
 rw[List.drop_eq_getElem_cons h];rfl
theorem mP (v:Value) (l:Table) (m:Mem) (w:World) (hm:m.inn w) (hl:aR m v l) :
 Calls Tryz.prog 87 #[v] w fun e w'=>e=.returned (.bool (tf (WF l)))∧Below w.heap.size w w':=by
 obtain⟨a,c,rfl,h1,h2,h3⟩:=hl;unfold maxLen at h2;refine ay fun R hR=>?_
 go_enter Tryz.func87,Tryz.ntmps87
 go_wp2;refine au [0,7,8,9] (fun n vs wr=>∃k:Nat,k≤l.length∧n=l.length - k∧vs=[.slice a l.length c,.slice a l.length c,.int .i64 l.length,.int .i64 k]∧(WF l↔∀s∈l.drop k,aV l.length (-1) s.edges)∧Below w.heap.size w wr) ?_ ?_
 ·exact⟨_,0,Nat.zero_le _,rfl,rfl,Iff.rfl,Below.refl _ _⟩
 rintro X z n vs wr hX - ⟨k,hk,rfl,rfl,hrel,hbel⟩;simp[litL,lk];have hmr:=Mem.bE hm hbel;by_cases hlt:k<l.length
 ·obtain⟨b,off,rfl,h4⟩:=h3 (by intro h;simp[h] at hlt);obtain⟨h5,ve,h6,a',c',rfl,h7,h8,h9⟩:=h4 k hlt;have hb:=Mem.av hmr h6;have c1:=Mem.aj hmr h5;have c2:=Mem.aj hmr h6;have Hs:=zh (Ip (n:=l.length) hlt);generalize l[k]=s at *
  unfold maxLen at h8;clear h4 h3;go_wp2;refine au [0,4,7,8,9,14,15,16] (fun n vs w2=>∃j:Nat,j≤s.edges.length∧n=s.edges.length - j∧vs=[.slice (some ⟨b,off,none⟩) l.length c,.pointer (some ⟨wr.heap.size,0,none⟩),.slice (some ⟨b,off,none⟩) l.length c,.int .i64 l.length,.int .i64 k,.slice a' s.edges.length c',.int .i64 s.edges.length,.int .i64 j]∧(aV l.length (-1) s.edges↔aV l.length (jG s.edges j) (s.edges.drop j))∧w2.cell? ⟨wr.heap.size,1,none⟩=some (.slice a' s.edges.length c')∧wr.heap.size<w2.heap.size∧Below w.heap.size w w2) ?_ ?_
  ·exact⟨_,0,Nat.zero_le _,rfl,rfl,Iff.rfl,zS,zS,bO hbel _⟩
  rintro Y z2 n vs w2 hY - ⟨j,hj,rfl,rfl,hrel2,hc2,hsz,hbel2⟩;simp[litL,lk];have hmr2:=Mem.bE hm hbel2;by_cases hlt2:j<s.edges.length
  ·obtain⟨b',off',rfl,h10⟩:=h9 (by intro h;simp[h] at hlt2);obtain⟨g1,g2,g3,g4,g5,g6,g7⟩:=h10 j hlt2;have hb1:=Mem.av hmr2 g1;have d1:=Mem.aj hmr2 g1;have d2:=Mem.aj hmr2 g2;have d3:=Mem.aj hmr2 g3;have Hw:=zh (qV (n:=l.length) hlt2);have hprev:0<j→w2.cell? ⟨b',off'+(j - 1)*3+1,none⟩=some (.int .u8 (s.edges[j - 1]).hi)∧jG s.edges j=(s.edges[j - 1]).hi:=by
    intro hj0;refine ⟨Mem.aj hmr2 (h10 (j - 1) zo).2.1,?_⟩;simp[jG,show 0<j∧j≤s.edges.length from ⟨hj0,zo⟩]
   go_wp2;refine wp_region_quiet_lit zk zk ?_
   repeat (any_goals (first | go_big_quiet_step (fail) | quiet_step (fail) | (refine wpQuiet_step (fun K hK=>?_);go_simp;split <;> (refine hK _ ?_;clear hK K))))
   all_goals (refine wpQuiet_nil ?_;intro _ hw';obtain⟨nq,hw''⟩:=hw';subst hw'')
   all_goals go_wp2
   all_goals first
    | exact hR.out _ _ ⟨aJ (by
     rw[az];intro hwf;obtain⟨q1,q2,q3,q4,-⟩:=Hw.out.1 (hrel2.1 (Hs.out.1 (hrel.1 hwf)).1)
     first
      | omega
      | (have:=(hprev (by assumption)).2;omega)),below_drewN (bO hbel2 _) _⟩
    | exact hY.out _ _ _ zo rfl ⟨j+1,zo,rfl,rfl,hrel2.trans (Hw.out.trans ⟨fun h=>h.2.2.2.2,fun h=>⟨zo,zo,zo,by
     first
      | (have:=(hprev (by assumption)).2;omega)
      | (have:=tY s.edges j zo;omega),h⟩⟩),
     by rw[World.cell?_drewN,World.cell?_alloc_past _ _ _ hsz];exact hc2,by simp;omega,below_drewN (bO hbel2 _) _⟩
  ·go_wp2;refine hX.out _ _ _ zo rfl ⟨k+1,zo,rfl,rfl,hrel.trans (Hs.out.trans ⟨fun h=>h.2,fun h=>⟨hrel2.2 ?_,h⟩⟩),hbel2⟩;rw[List.drop_eq_nil_of_le zo];trivial
 ·go_wp2;refine hR.out _ _ ⟨aJ ?_,hbel⟩;rw[aI (hrel.2 (by rw[List.drop_eq_nil_of_le zo];simp))]
theorem Bi {w w':World} {m m1 mk:Mem} {g:Nat} {arr:Array Value} {vn va:Value} {xn xb:List Value} {ls:List (List Int)} {l:Table}
 (hO:Own w m w' mk [.obj g 238 arr,.row va 4 1 (l.length+1) xb,.row vn 135 1 (l.length+1) xn])
 (hxb:xb=(l.map (·.accept) ++ [false]).map Value.bool)
 (hr:jo mk xn ls) (hls:ls.length=l.length+1) (hle:m1.le mk) :
 ∃mk3,Own w m w' mk3 [.obj g 238 arr]∧m1.le mk3∧j5 mk3 vn ls∧fP mk3 va (l.map (·.accept) ++ [false]):=by
 have h1:=hO.swap;have hb:=gG (l:=l.map (·.accept) ++ [false]) (m:=mk) (by rw[← hxb];simpa using h1.row);have h2:=h1.bg.swap;have hr2:=hr.mono (Mem.dh (w:=w') h1.free);have hi:=mZ (l:=ls) (by rw[hls];exact h2.row) hr2 h2.free;exact⟨_,h2.bg,Mem.le_trans (Mem.le_trans hle (Mem.dh h1.free)) (Mem.dh h2.free),hi,gM (Mem.dh h2.free) hb⟩
theorem Bj (v0:Value) (l:Table) (m:Mem) (w:World) (hm:m.inn w) (hl:aR m v0 l) (hwf:WF l) (hlen:l.length≤1000000) :
 Calls Tryz.prog 224 #[v0] w fun e w'=>∃g mk vc vn va,e=.returned (.pointer (some ⟨g,0,none⟩))∧Own w m w' mk [.obj g 238 #[vc,vn,va,.slice none 0 0]] ∧
  dA mk vc (bG l 256)∧j5 mk vn (mG l (bG l 256) ++ [(bG l 256).map fun _=>(l.length:Int)])∧fP mk va (l.map (·.accept) ++ [false]):=by
 have hcut:=NL v0 l m w hm hl hwf;have hcle:=jP l 256;have hcrng:=lM l 256;generalize bG l 256=cuts at *
 obtain⟨a,c,rfl,h1,h2,h3⟩:=hl;unfold maxLen at h2;refine ay fun R hR=>?_
 go_enter Tryz.func224,Tryz.ntmps224
 go_wp2_with fail
 refine hcut.mono ?_;rintro e w1 ⟨r,rfl,hb1,hr1⟩;have hO0:=(Own.start hm).call hb1;obtain⟨ca,cc,rfl,c2,c3,c4⟩:=hr1;have hr1:dA (m.grow w w1) (.slice ca cuts.length cc) cuts:=⟨ca,cc,rfl,c2,c3,c4⟩;have hO1:=((hO0.al #[.slice ca cuts.length cc,.slice none 0 0,.slice none 0 0,.slice none 0 0] 238));go_wp2;refine au [0,3,4,20,21,22] (fun n vs wr=>∃(k:Nat) (vn va:Value) (xn:List Value) (mk:Mem),k≤l.length∧n=l.length - k∧vs=[.slice a l.length c,.pointer (some ⟨w1.heap.size,0,none⟩),.int .i64 l.length,.slice a l.length c,.int .i64 l.length,.int .i64 k] ∧
  Own w m wr mk [.obj w1.heap.size 238 #[.slice ca cuts.length cc,vn,va,.slice none 0 0],.row vn 135 1 k xn,.row va 4 1 k (((l.take k).map (·.accept)).map Value.bool)] ∧
  jo mk xn ((l.take k).map fun s=>kD l.length cuts s.edges)∧(m.grow w w1).le mk) ?_ ?_
 ·refine ⟨_,0,.slice none 0 0,.slice none 0 0,[],_,Nat.zero_le _,rfl,rfl,?_,jo.nil _,Mem.le_refl _⟩;exact ((hO1.dI 4 1).dI 135 1).third
 rintro X z n vs wr hX - ⟨k,vn,va,xn,mk,hk,rfl,rfl,hO,hrow,hmk⟩;simp[litL,lk];have hmr:=Mem.cz hO.ext.le hO.inn;have hcr:=dC hmk hr1;have q0:=hO.obj.cell (i:=0) rfl;have q1:=hO.obj.cell (i:=1) rfl;have q2:=hO.obj.cell (i:=2) rfl;have ql:=hO.obj.lt;by_cases hlt:k<l.length
 ·obtain⟨b,off,rfl,h4⟩:=h3 (by intro h;simp[h] at hlt);obtain⟨g1,ve,g2,ea,ec,rfl,g4,g5,g6⟩:=h4 k hlt;have hc1:=Mem.aj hmr g1;have hc2:=Mem.aj hmr g2;have hb:=Mem.av hmr g1;have hws:=hwf l[k] (List.getElem_mem hlt);have Htake:=zh (List.take_succ_eq_append_getElem hlt);generalize l[k]=s at *
  unfold maxLen at g5 c3;have hO2:=hO.al #[.bool s.accept,.slice ea s.edges.length ec] 80
  go_wp2_with (refine wpList_make_row wQ rfl (.tmp 30) (.tmp 30) rfl cuts.length rfl rfl zo (by unfold maxLen;omega) ?_)
  intro w2 hown2 hgrow2;have hO3:=hO2.make (by simpa using hown2) hgrow2;rw[Aa (goTo l.length s.edges)] at hO3;clear hown2 hgrow2;have hN:(wr.alloc (.cells #[.bool s.accept,.slice ea s.edges.length ec] 80)).heap.size=wr.heap.size+1:=by simp
  rw[hN] at hO3;clear hN;have p0:=hO3.third.obj.cell (i:=0) rfl;have pl:=hO3.third.obj.lt;go_wp2;refine au [0,3,4,6,7,20,21,22,35,36,37] (fun n vs w3=>∃(i:Nat),i≤cuts.length∧n=cuts.length - i ∧
   vs=[.slice (some ⟨b,off,none⟩) l.length c,.pointer (some ⟨w1.heap.size,0,none⟩),.int .i64 l.length,.pointer (some ⟨wr.heap.size,0,none⟩),.slice (some ⟨wr.heap.size+1,0,none⟩) cuts.length cuts.length,.slice (some ⟨b,off,none⟩) l.length c,.int .i64 l.length,.int .i64 k,.slice ca cuts.length cc,.int .i64 cuts.length,.int .i64 i] ∧
   Own w m w3 mk [.row (.slice (some ⟨wr.heap.size+1,0,none⟩) cuts.length cuts.length) 3 1 cuts.length (part (goTo l.length s.edges) cuts i),
    .obj wr.heap.size 80 #[.bool s.accept,.slice ea s.edges.length ec],.obj w1.heap.size 238 #[.slice ca cuts.length cc,vn,va,.slice none 0 0],.row vn 135 1 k xn,.row va 4 1 k (((l.take k).map (·.accept)).map Value.bool)]) ?_ ?_
  ·exact⟨_,0,Nat.zero_le _,rfl,rfl,hO3⟩
  rintro Y z2 n vs w3 hY - ⟨i,hi,rfl,rfl,hO4⟩;simp[litL,lk];by_cases hlt2:i<cuts.length
  ·obtain⟨cb,co,rfl,c5⟩:=c4 (by intro h;simp[h] at hlt2);have hcv:=(c5 i hlt2).1;have hcw:=Mem.aj hO4.inn (Mem.aA hmk hcv);have hrng:=hcrng cuts[i] (List.getElem_mem hlt2);obtain⟨cv,hcve⟩:=Int.eq_ofNat_of_zero_le hrng.1;have k1:=aP (j:=i) (u:=.int .i64 0) hO4.row (Ej hlt2);have k2:=bU hO4.row i;have k3:=hO4.swap.obj.cell (i:=1) rfl;have k4:=hO4.swap.obj.lt;have hO5:=hO4.setRow i (.int .i64 l.length);rw[Ei hlt2] at hO5;have HO5:=zh hO5;clear hO5;go_wp2;refine au [0,3,4,6,7,8,9,20,21,22,35,36,37,47,48,49] (fun n vs w4=>∃(j:Nat),j≤s.edges.length∧n=s.edges.length - j ∧
    vs=[.slice (some ⟨b,off,none⟩) l.length c,.pointer (some ⟨w1.heap.size,0,none⟩),.int .i64 l.length,.pointer (some ⟨wr.heap.size,0,none⟩),.slice (some ⟨wr.heap.size+1,0,none⟩) cuts.length cuts.length,.int .i64 i,.int .i64 cv,.slice (some ⟨b,off,none⟩) l.length c,.int .i64 l.length,.int .i64 k,.slice (some ⟨cb,co,none⟩) cuts.length cc,.int .i64 cuts.length,.int .i64 i,
     .slice ea s.edges.length ec,.int .i64 s.edges.length,.int .i64 j] ∧
    Own w m w4 mk [.row (.slice (some ⟨wr.heap.size+1,0,none⟩) cuts.length cuts.length) 3 1 cuts.length (ug (goTo l.length s.edges) cuts i (goTo l.length (s.edges.take j) cv)),
     .obj wr.heap.size 80 #[.bool s.accept,.slice ea s.edges.length ec],.obj w1.heap.size 238 #[.slice (some ⟨cb,co,none⟩) cuts.length cc,vn,va,.slice none 0 0],.row vn 135 1 k xn,.row va 4 1 k (((l.take k).map (·.accept)).map Value.bool)]) ?_ ?_
   ·refine ⟨_,0,Nat.zero_le _,rfl,rfl,?_⟩;have:goTo l.length (s.edges.take 0) cv=(l.length:Int):=by simp[goTo,aS]
    rw[this];exact HO5.out
   rintro Z z3 n vs w4 hZ - ⟨j,hj,rfl,rfl,hO6⟩;simp[litL,lk];by_cases hlt3:j<s.edges.length
   ·obtain⟨b',off',rfl,h10⟩:=g6 (by intro h;simp[h] at hlt3);obtain⟨e1,e2,e3,e4,e5,-⟩:=h10 j hlt3;have hm4:=Mem.cz hO6.ext.le hO6.inn;have d1:=Mem.aj hm4 e1;have d2:=Mem.aj hm4 e2;have d3:=Mem.aj hm4 e3;have hb4:=Mem.av hm4 e1;have Hgo:=zh (J8 hws hlt3 cv);have x1:=aP (j:=i) hO6.row (Ac hlt2 _);have x2:=bU hO6.row i;have x3:=hO6.swap.obj.lt;have x4:wr.heap.size+1<w4.heap.size:=(World.ownsRow.lt hO6.row _ rfl).2;go_wp2
    ·refine hZ.out _ _ _ zo rfl ⟨j+1,zo,rfl,rfl,?_⟩;rw[Hgo.out,if_pos ⟨by rw[Int.toNat_natCast];assumption,by rw[Int.toNat_natCast];assumption⟩,← Ab hlt2 (goTo l.length (s.edges.take j) cv)];exact (hO6.setRow i _).al' _
    ·refine hZ.out _ _ _ zo rfl ⟨j+1,zo,rfl,rfl,?_⟩;rw[Hgo.out,if_neg (by rw[Int.toNat_natCast];omega)];exact hO6.al' _
    ·refine hZ.out _ _ _ zo rfl ⟨j+1,zo,rfl,rfl,?_⟩;rw[Hgo.out,if_neg (by rw[Int.toNat_natCast];omega)];exact hO6.al' _
   ·go_wp2;refine hY.out _ _ _ zo rfl ⟨i+1,zo,rfl,rfl,?_⟩;rw[List.take_of_length_le (l:=s.edges) (i:=j) zo,← hcve,wE hlt2] at hO6;exact hO6
  ·obtain rfl:i=cuts.length:=zo;rw[En] at hO4;have hin:=bN (l:=kD l.length cuts s.edges) (m:=mk) (by simpa [kD] using hO4.row) (fun x hx=>by have:=pO hws cuts x hx;omega);have hrow2:=(hrow.mono (Mem.dh (w:=w3) hO4.free)).push hin;have hmk2:=Mem.le_trans hmk (Mem.dh (w:=w3) hO4.free);have hO8:=hO4.bg.al #[.slice (some ⟨wr.heap.size+1,0,none⟩) cuts.length cuts.length] 135;generalize mk.addv w3 (.slice (some ⟨wr.heap.size+1,0,none⟩) cuts.length cuts.length)=mk2 at *
   have y1:=hO4.third.obj.cell (i:=1) rfl;have yl:=hO4.third.obj.lt;clear hO4
   go_wp2_with (at_builtin;refine aC xI rfl (.tmp 76) (.tmp 78) rfl vn k xn rfl hO8.fourth.row ⟨w3.heap.size,0,none⟩ 1 1 [.slice (some ⟨wr.heap.size+1,0,none⟩) cuts.length cuts.length] rfl rfl (hO8.obj.news rfl) (by simp[Value.oneCell']) (by unfold maxLen;omega) zo ?_)
   intro na nc w5 hown5 hgrow5 hrow5;have hO9:=hO8.fourth.app hown5 hgrow5 hrow5 zS;clear hown5 hgrow5 hrow5 hO8;have hO10:=(hO9.fourth.set 1 (.slice na (k+1) nc)).jO;have u1:=hO9.fourth.obj.cell (i:=1) rfl;have u2:=hO9.fourth.obj.frozen 1;have ul:=hO9.fourth.obj.lt;have HO10:=zh hO10;clear hO10 hO9;go_wp2;have hO11:Own w m (w5.setCell ⟨w1.heap.size,1,none⟩ (.slice na (k+1) nc)) mk2 [.obj w1.heap.size 238 #[.slice ca cuts.length cc,.slice na (k+1) nc,va,.slice none 0 0],.row (.slice na (k+1) nc) 135 1 (k+1) (xn ++ [.slice (some ⟨wr.heap.size+1,0,none⟩) cuts.length cuts.length]),
    .obj wr.heap.size 80 #[.bool s.accept,.slice ea s.edges.length ec],.row va 4 1 k (((l.take k).map (·.accept)).map Value.bool)]:=HO10.out
   clear HO10;generalize w5.setCell ⟨w1.heap.size,1,none⟩ (.slice na (k+1) nc)=w6 at *
   have hO12:=(hO11.fourth.al #[.bool s.accept] 4).dr;refine fq (fun w'=>bD w' w1.heap.size 238 #[.slice ca cuts.length cc,.slice na (k+1) nc,va,.slice none 0 0]∧bD w' wr.heap.size 80 #[.bool s.accept,.slice ea s.edges.length ec]) 11 zk ?_;have hS:=zi (hO11.dr.obj) (hO11.dr.third.obj);refine aD 0 rfl zk (fun _ _ _ h=>h) hS (aB rfl fun w' hS'=>by have q:=hS'.1.cell (i:=2) rfl;have q1:=hS'.2.cell (i:=0) rfl;go_simp;rfl) ?_;refine aD 1 rfl zk (fun _ _ _ h=>h) hS (aB rfl fun w' hS'=>by have q:=hS'.1.cell (i:=2) rfl;have q1:=hS'.2.cell (i:=0) rfl;go_simp;rfl) ?_;refine aD 2 rfl zk (fun _ _ _ h=>h) hS (aB rfl fun w' hS'=>by have q:=hS'.1.cell (i:=2) rfl;have q1:=hS'.2.cell (i:=0) rfl;go_simp;rfl) ?_;refine aD 3 rfl zk (fun _ _ _ h=>h) hS (aB rfl fun w' hS'=>by have q:=hS'.1.cell (i:=2) rfl;have q1:=hS'.2.cell (i:=0) rfl;go_simp;rfl) ?_;refine aD 4 rfl zk (fun _ _ _ h=>h) hS (aB rfl fun w' hS'=>by have q:=hS'.1.cell (i:=2) rfl;have q1:=hS'.2.cell (i:=0) rfl;go_simp;rfl) ?_;refine aD 5 rfl zk (fun _ _ _ h=>h) hS (aB rfl fun w' hS'=>by have q:=hS'.1.cell (i:=2) rfl;have q1:=hS'.2.cell (i:=0) rfl;go_simp;rfl) ?_;refine aD 6 rfl zk (fun _ _ _ h=>h) hS (aB rfl fun w' hS'=>by have q:=hS'.1.cell (i:=2) rfl;have q1:=hS'.2.cell (i:=0) rfl;go_simp;rfl) ?_;refine aT 7 zk (aO rfl rfl (aK (by go_simp;exact⟨rfl,rfl⟩) (andS (zi (hS.1.al _) (hS.2.al _)) fun hS1=>?_)));go_simp;have hla:(((l.take k).map (·.accept)).map Value.bool).length=k:=by simp;omega
   refine aT 8 zk (aO rfl rfl (eH BU (.tmp 86) (.tmp 89) rfl va k _ rfl hO12.swap.row ⟨w6.heap.size,0,none⟩ 1 1 [.bool s.accept] rfl rfl (hO12.obj.news rfl) (by simp[Value.oneCell']) (by unfold maxLen;omega) zo (fun aa ac w7 hown7 hgrow7 hrow7=>?_)));have hO14:=hO12.swap.app hown7 hgrow7 hrow7 (Nat.le_refl _);refine andS (zi hO14.third.obj (hO14.at (g:=wr.heap.size) (t:=80) (arr:=#[.bool s.accept,.slice ea s.edges.length ec]) zS)) fun hS3=>?_;refine aT 9 zk (aO rfl rfl (aK (by go_simp;first | exact⟨rfl,rfl⟩ | rfl) (andS hS3 fun _=>?_)));refine aT 10 zk (aO rfl rfl (aK (by go_simp;first | exact⟨rfl,rfl⟩ | rfl) (andS hS3 fun _=>?_)));have f3:=hS3.1.frozen 2;have c3:=hS3.1.cell (i:=2) rfl;refine aT 11 zk (aO rfl rfl (iM (by go_simp;rfl) (lN rfl ?_)));refine fw zk ?_ _;have hO15:=((hO14.third.set 2 (.slice aa (k+1) ac)).jO.OE).Og;have Hfin:=zh (zi hO15 (zi hrow2 hmk2));clear hO15 hrow2 hmk2 hO14 hO12 hO11 hO hown7 hgrow7 hrow7 hS hS1 hS3 f3 c3 hrow;go_wp2;refine hX.out _ _ _ zo rfl ⟨k+1,.slice na (k+1) nc,.slice aa (k+1) ac,xn ++ [.slice (some ⟨wr.heap.size+1,0,none⟩) cuts.length cuts.length],mk2,zo,rfl,rfl,?_,?_,Hfin.out.2.2⟩
   ·have:=Hfin.out.1;rw[Htake.out];simpa using this
   ·rw[Htake.out,List.map_append];exact Hfin.out.2.1
 ·obtain rfl:k=l.length:=zo;rw[List.take_length] at hO hrow;have hla:((l.map (·.accept)).map Value.bool).length=l.length:=by simp
  have hO2:=hO
  go_wp2_with (refine wpList_make_row wQ rfl (.tmp 98) (.tmp 98) rfl cuts.length rfl rfl zo (by unfold maxLen;omega) ?_)
  intro w2 hown2 hgrow2;have hO3:=hO2.make (by simpa using hown2) hgrow2;rw[Aa (fun _=>(l.length:Int))] at hO3;clear hown2 hgrow2;go_wp2;refine au [0,3,4,12,101,102] (fun n vs w3=>∃(i:Nat),i≤cuts.length∧n=cuts.length - i ∧
   vs=[.slice a l.length c,.pointer (some ⟨w1.heap.size,0,none⟩),.int .i64 l.length,.slice (some ⟨wr.heap.size,0,none⟩) cuts.length cuts.length,.int .i64 cuts.length,.int .i64 i] ∧
   Own w m w3 mk [.row (.slice (some ⟨wr.heap.size,0,none⟩) cuts.length cuts.length) 3 1 cuts.length (part (fun _=>(l.length:Int)) cuts i),
    .obj w1.heap.size 238 #[.slice ca cuts.length cc,vn,va,.slice none 0 0],.row vn 135 1 l.length xn,.row va 4 1 l.length ((l.map (·.accept)).map Value.bool)]) ?_ ?_
  ·exact⟨_,0,Nat.zero_le _,rfl,rfl,hO3⟩
  rintro Y z2 n vs w3 hY - ⟨i,hi,rfl,rfl,hO4⟩;simp[litL,lk];by_cases hlt2:i<cuts.length
  ·have k1:=aP (j:=i) (u:=.int .i64 0) hO4.row (Ej hlt2);have k2:=bU hO4.row i;have hO5:=hO4.setRow i (.int .i64 l.length);rw[Ei hlt2] at hO5;have e5:=wE (f:=fun _=>(l.length:Int)) hlt2;rw[e5] at hO5;have HO5:=zh hO5;clear hO5 e5;go_wp2;exact hY.out _ _ _ zo rfl ⟨i+1,zo,rfl,rfl,HO5.out⟩
  ·obtain rfl:i=cuts.length:=zo;rw[En] at hO4;have hin:=bN (l:=cuts.map fun _=>(l.length:Int)) (m:=mk) (by simpa using hO4.row) (fun x hx=>by
    obtain⟨y,-,rfl⟩:=List.mem_map.1 hx;omega)
   have hrow2:=(hrow.mono (Mem.dh (w:=w3) hO4.free)).push hin;have hmk2:=Mem.le_trans hmk (Mem.dh (w:=w3) hO4.free);have hO8:=hO4.bg.al #[.slice (some ⟨wr.heap.size,0,none⟩) cuts.length cuts.length] 135;generalize mk.addv w3 (.slice (some ⟨wr.heap.size,0,none⟩) cuts.length cuts.length)=mk2 at *
   have y1:=hO4.swap.obj.cell (i:=1) rfl;have yl:=hO4.swap.obj.lt;clear hO4
   go_wp2_with (at_builtin;refine aC xI rfl (.tmp 114) (.tmp 116) rfl vn l.length xn rfl hO8.third.row ⟨w3.heap.size,0,none⟩ 1 1 [.slice (some ⟨wr.heap.size,0,none⟩) cuts.length cuts.length] rfl rfl (hO8.obj.news rfl) (by simp[Value.oneCell']) (by unfold maxLen;omega) zo ?_)
   intro na nc w5 hown5 hgrow5 hrow5;have hO9:=hO8.third.app hown5 hgrow5 hrow5 zS;clear hown5 hgrow5 hrow5 hO8;have hO10:=(hO9.third.set 1 (.slice na (l.length+1) nc)).jO;have u1:=hO9.third.obj.cell (i:=1) rfl;have u2:=hO9.third.obj.frozen 1;have u3:=hO9.third.obj.cell (i:=2) rfl;have ul:=hO9.third.obj.lt;have hO11:Own w m (w5.setCell ⟨w1.heap.size,1,none⟩ (.slice na (l.length+1) nc)) mk2 [.obj w1.heap.size 238 #[.slice ca cuts.length cc,.slice na (l.length+1) nc,va,.slice none 0 0],.row (.slice na (l.length+1) nc) 135 1 (l.length+1) (xn ++ [.slice (some ⟨wr.heap.size,0,none⟩) cuts.length cuts.length]),
    .row va 4 1 l.length ((l.map (·.accept)).map Value.bool)]:=hO10
   have HO11:=zh hO11;clear hO10 hO9 hO11;have hO12:=HO11.out.al #[.bool false] 4;have hsz:=hO12.obj.news rfl;rw[World.size_setCell] at hO12 hsz;have hO13:=zh hO12;clear hO12
   go_wp2_with (at_builtin;refine aC BU rfl (.tmp 124) (.tmp 125) rfl va l.length _ rfl hO13.out.fourth.row ⟨w5.heap.size,0,none⟩ 1 1 [.bool false] rfl rfl hsz (by simp[Value.oneCell']) (by unfold maxLen;omega) zo ?_)
   intro aa ac w7 hown7 hgrow7 hrow7;have hO14:=hO13.out.fourth.app hown7 hgrow7 hrow7 zS;clear hown7 hgrow7 hrow7 hsz HO11;have v1:=hO14.third.obj.cell (i:=2) rfl;have v2:=hO14.third.obj.frozen 2;have vl:=hO14.third.obj.lt;have hO15:=(hO14.third.set 2 (.slice aa (l.length+1) ac)).jO;have HO15:=zh hO15;clear hO15 hO14 hO13;go_wp2;have hO15:=HO15.out;obtain⟨mk3,z1,z2,z3,z4⟩:=Bi (arr:=#[.slice ca cuts.length cc,.slice na (l.length+1) nc,.slice aa (l.length+1) ac,.slice none 0 0]) (l:=l) hO15 zS hrow2 zS hmk2;exact hR.out _ _ ⟨w1.heap.size,mk3,_,_,_,rfl,z1,dC z2 hr1,z3,z4⟩
end Cl
