/- Lemmas for the proofs of chapter 11. -/
import Derived.Test.YtjhipmdamaocmaaGreatDoorPkN13
import Derived.Test.YtjhipmdamaocmaaGreatDoorPkN15
set_option maxRecDepth 100000
set_option maxHeartbeats 16000000
namespace Cl
open Go Go.RowKit Go.Proofs
theorem LG:gL Tryz.prog 65 68 5 80:=⟨Tryz.underlying65,zo,by
 obtain⟨i,h1,h2,h3,h4⟩:=info_parts (P:=Tryz.prog) (e:=68) (z:=.agg #[.int .i64 0,.int .i64 0,.string ⟨#[]⟩,.slice none 0 0,.slice none 0 0]) (size:=5) (bytes:=80) zk;exact⟨i,_,h1,h2,h3,h4,rfl⟩⟩
abbrev DV:=Dt × Value × Value
def zz (p:DV):List Value:=[.int .i64 p.1.kind,.int .i64 p.1.num,.string p.1.str,p.2.1,p.2.2]
def gJ (L:List DV):List Value:=L.flatMap zz
def DRow (m:Mem) (L:List DV):Prop:=∀p∈L,DtAt m p.2.1 p.2.2 p.1
theorem Cv (L M:List DV):gJ (L ++ M)=gJ L ++ gJ M:=by simp[gJ]
theorem rY:∀L:List DV,(gJ L).length=L.length*5
 | []=>rfl
 | p::L=>by
  have:=rY L;simp only[gJ,List.flatMap_cons,zJ,yJ] at *
  simp only[zz,yJ,List.length_nil];omega
theorem Bl:∀(L:List DV) (i:Nat) (h:i<L.length),(gJ L)[i*5]?=some (.int .i64 (L[i]).1.kind)∧(gJ L)[i*5+1]?=some (.int .i64 (L[i]).1.num)∧(gJ L)[i*5+2]?=some (.string (L[i]).1.str)∧(gJ L)[i*5+3]?=some (L[i]).2.1∧(gJ L)[i*5+4]?=some (L[i]).2.2
 | p::L,0,_=>by simp[gJ,zz]
 | p::L,i+1,h=>by
  have:=Bl L i (by simpa using h);have key:∀j,(gJ (p::L))[j+5]?=(gJ L)[j]?:=fun j=>by
   unfold gJ;rw[List.flatMap_cons,yI (by simp[zz])];simp[zz]
  rw[List.getElem_cons_succ,show (i+1)*5=i*5+5 by omega];exact⟨(key _).trans this.1,(key (i*5+1)).trans this.2.1,(key (i*5+2)).trans this.2.2.1,(key (i*5+3)).trans this.2.2.2.1,(key (i*5+4)).trans this.2.2.2.2⟩
theorem DtAt.slices {m:Mem} {vi vm:Value} {d:Dt} (h:DtAt m vi vm d):∃a c b e,vi=.slice a d.items.length c∧vm=.slice b d.bK.length e:=by
 obtain⟨a,c,h1,-⟩:=h.items;obtain⟨-,b,e,h2,-⟩:=h.members;exact⟨a,c,b,e,h1,h2⟩
theorem KU {m:Mem} {L:List DV} (h:DRow m L):∀u∈gJ L,u.oneCell'=true:=fun u hu=>by
 obtain⟨p,hp,hu⟩:=List.mem_flatMap.1 hu;obtain⟨a,c,b,e,h1,h2⟩:=(h p hp).slices;unfold zz at hu;rw[h1,h2] at hu;simp at hu;rcases hu with rfl | rfl | rfl | rfl | rfl <;> rfl
theorem NH {m:Mem} {b:Nat}:∀{l:List Dt} {off:Nat},(∀i (h:i<l.length),DAt m b (off+i*5) l[i])→∃L:List DV,L.map (·.1)=l∧DRow m L∧∀j u,(gJ L)[j]?=some u→m.cell b (off+j)=some u
 | [],off,_=>⟨[],rfl,(fun p h=>by cases h),fun j u h=>by simp[gJ] at h⟩
 | x::l,off,h=>by
  obtain⟨L,h1,h2,h3⟩:=NH (l:=l) (off:=off+5) fun i hi=>by
   have:=h (i+1) (by simpa using hi);rw[show off+(i+1)*5=off+5+i*5 by omega] at this;exact this
  obtain⟨vi,vm,c,hx⟩:=h 0 zS;simp only[Nat.zero_mul,Nat.add_zero,List.getElem_cons_zero] at c hx;refine ⟨(x,vi,vm)::L,by simp[h1],fun p hp=>?_,fun j u hj=>?_⟩
  ·rcases List.mem_cons.1 hp with rfl | hp
   ·exact hx
   ·exact h2 p hp
  ·simp only[gJ,List.flatMap_cons] at hj;by_cases hlt:j<5
   ·rw[yF (by simpa [zz] using hlt)] at hj;rcases (show j=0∨j=1∨j=2∨j=3∨j=4 by omega) with rfl | rfl | rfl | rfl | rfl <;> simp[zz] at hj <;> subst hj
    ·exact c.k
    ·exact c.n
    ·exact c.s
    ·exact c.i
    ·exact c.m
   ·rw[yI (by simp[zz];omega)] at hj;have:=h3 (j - 5) u (by unfold gJ;simpa [zz] using hj);rw[show off+5+(j - 5)=off+j by omega] at this;exact this
theorem GV {w:World} {t:TypeId} {v:Value} {L:List DV} {m:Mem} (hown:w.ownsRow 0 t 5 v L.length (gJ L)) (hr:DRow m L) (hf:m.free v):DsAt (m.addv w v) v (L.map (·.1)):=by
 show Mem.slice (DAt (m.addv w v)) 5 v (L.map (·.1));exact jc (R:=DAt (m.addv w v)) (l:=L.map (·.1)) (by rw[List.length_map];exact hown) fun g hg i h=>by
  have h':i<L.length:=by simpa using h
  obtain⟨h1,h2,h3,h4,h5⟩:=Bl L i h';rw[List.getElem_map];exact⟨L[i].2.1,L[i].2.2,⟨fw hown hg m h1,fw hown hg m h2,fw hown hg m h3,fw hown hg m h4,fw hown hg m h5⟩,(hr _ (zB h')).le (Mem.dG hf)⟩
theorem CV (v:Value) (l:List Dt) (m:Mem) (w:World) (hm:m.inn w) (hl:DsAt m v l) (hlen:l.length≤1000000) :
 Calls Tryz.prog 302 #[v] w fun e w'=>∃r L,e=.returned r∧L.map (·.1)=l∧DRow m L∧Own w m w' m [.row r 68 5 L.length (gJ L)]:=by
 obtain⟨a,c,rfl,h1,h2,h3⟩:=hl;unfold maxLen at h2;refine aj fun R hR=>?_
 cases a with
 | none=>
  have h0:l=[]:=by
   apply zN;intro hne;obtain⟨b,off,h,-⟩:=h3 hne;cases h
  subst h0;have hnil:=fun w=>Lib.run_eql_slice_nil (P:=Tryz.prog) w 65 68 none 0 c 0 0 Tryz.underlying65
  go_enter Tryz.func302,Tryz.ntmps302
  go_wp2
  exact hR.out _ _ ⟨_,[],rfl,rfl,(fun p h=>by cases h),(Own.start hm).dI _ _⟩
 | some ad=>
  have hnil:=fun w=>Lib.run_eql_slice_nil (P:=Tryz.prog) w 65 68 (some ad) l.length c 0 0 Tryz.underlying65;have hown:(w.alloc (.cells #[] 68)).ownsRow 0 68 5 (.slice (some ⟨w.heap.size,0,none⟩) 0 0) 0 []:=World.ownsRow_made w #[] 0 (zC _) (zC _) zS;have hO:Own w m (w.alloc (.cells #[] 68)) m [.row (.slice (some ⟨w.heap.size,0,none⟩) 0 0) 68 5 0 []]:=
   ((Own.start hm).al' _).cons hown (fun k hk=>by simp[Item.blk,Value.ownBlock] at hk;exact⟨zo,Mem.fU hm zo⟩) zS
  have hrow:∃L:List DV,L.map (·.1)=l∧DRow m L∧∀j u,(gJ L)[j]?=some u→(w.alloc (.cells #[] 68)).cell? (ad.add j)=some u:=by
   by_cases hne:l=[]
   ·subst hne;exact⟨[],rfl,(fun p h=>by cases h),fun j u h=>by simp[gJ] at h⟩
   ·obtain⟨b,off,he,h4⟩:=h3 hne;cases he;obtain⟨L,g1,g2,g3⟩:=NH h4;exact⟨L,g1,g2,fun j u hj=>by rw[Addr.add_lit];exact Mem.ak (Mem.Nf hm _) (g3 j u hj)⟩
  obtain⟨L,g1,g2,g3⟩:=hrow;have gl:L.length=l.length:=by rw[← g1,List.length_map]
  have HL:=zh (zi g1 (zi g2 gl));have g4:=KU g2;have g5:(gJ L).length=l.length*5:=by rw[rY,gl]
  clear g1 g2 h3
  go_enter Tryz.func302,Tryz.ntmps302
  go_wp2_with (at_builtin;refine aA LG rfl (.tmp 5) (.tmp 6) rfl (.slice (some ⟨w.heap.size,0,none⟩) 0 0) 0 [] rfl hown ad l.length c (gJ L) rfl g5 g3 g4 (by unfold maxLen;omega) zo ?_)
  intro va vc w' hown' hgrow hrow;have hO2:=hO.app hown' hgrow hrow zS;have HO2:=zh hO2;clear hO hO2 hown' hgrow hrow hown;go_wp2;refine hR.out _ _ ⟨_,L,rfl,HL.out.1,HL.out.2.1,?_⟩;rw[HL.out.2.2];exact HO2.out
theorem LV (s:ByteArray):s.toList.isEmpty=decide (s.size=0):=by
 rw[ByteArray.toList_eq];obtain⟨⟨l⟩⟩:=s;cases l <;> simp[ByteArray.size]
theorem vI (n:Nat):((n:Int)==0)=decide (n=0):=by
 rw[Bool.eq_iff_iff,beq_iff_eq,decide_eq_true_eq];omega
theorem EZ (k n:Int) (s:ByteArray) (ai am:Option Addr) (li ci lm cm:Nat) (w:World) :
 Calls Tryz.prog 301 #[.agg #[.int .i64 k,.int .i64 n,.string s,.slice ai li ci,.slice am lm cm]] w fun e w'=>e=.returned (.bool (iZ k n s.size li lm))∧Below w.heap.size w w':=by
 have hO:=(Own.start (Mem.Ef w)).al #[.int .i64 k,.int .i64 n,.string s,.slice ai li ci,.slice am lm cm] 68;have HO:=zh hO;clear hO;refine aj fun R hR=>?_
 go_enter Tryz.func301,Tryz.ntmps301
 go_upto_region 1 with (fail)
 refine aI [1,3,4,5,6] (fun vs w'=>vs=[.pointer (some ⟨w.heap.size,0,none⟩),.bool (decide (n=0)),.bool (decide (s.size=0)),.bool (decide (li=0)),.bool (decide (lm=0))]∧Own w (Mem.of w) w' (Mem.of w) [.obj w.heap.size 68 #[.int .i64 k,.int .i64 n,.string s,.slice ai li ci,.slice am lm cm]]) ?_ ?_
 ·intro Y hY;obtain⟨q0,q1,q2,q3,q4⟩:=HO.out.obj.cs5;have q5:=HO.out.obj.lt
  go_quiet (fail)
  go_wp2;refine hY.out _ _ rfl ⟨?_,HO.out.drN _⟩;show [Value.pointer (some ⟨w.heap.size,0,none⟩),Value.bool (n==0),Value.bool s.toList.isEmpty,Value.bool ((li:Int)==0),Value.bool ((lm:Int)==0)]=_;rw[LV,vI,vI]
  rfl
 rintro z vs w1 - ⟨rfl,hO⟩;generalize hbn:decide (n=0)=bn at *
 generalize hbs:decide (s.size=0)=bs at *
 generalize hbi:decide (li=0)=bi at *
 generalize hbm:decide (lm=0)=bm at *
 simp[litL,lk];have q0:=hO.obj.c 0;have q5:=hO.obj.lt;have HO1:=zh hO.below;have HP:=zh (show iZ k n s.size li lm=(decide (1≤k∧k≤6)&&(decide (k=2∨k=3) || bn)&&(decide (k=4) || bs)&&(decide (k=5) || bi)&&(decide (k=6) || bm)) by unfold iZ;rw[hbn,hbs,hbi,hbm]);clear hO HO;clear hbn hbs hbi hbm;go_wp2
 all_goals refine hR.out _ _ ⟨aL ?_,HO1.out⟩
 all_goals rw[HP.out]
 all_goals first
  | (simp_all;done)
  | (simp_all;omega)
  | (trace_state;done )
def kJ (k n:Int):Prop:=(k=2∧n≠0∧n≠1)∨(k=3∧¬ (-1000000000000000≤n∧n≤1000000000000000))
instance (k n:Int):Decidable (kJ k n):=by unfold kJ;infer_instance
theorem Ar {d:Dt}:ownE d=if iZ d.kind d.num d.str.size d.items.length d.bK.length=false then 11 else if kJ d.kind d.num then 1 else if twice d.labels then 6 else 0:=rfl
theorem GX (vi vm:Value) (d:Dt) (m:Mem) (w:World) (hm:m.inn w) (hd:DtAt m vi vm d) :
 Calls Tryz.prog 262 #[d.val vi vm] w fun e w'=>e=.returned (.int .i64 (ownE d))∧Below w.heap.size w w':=by
 have HE:=zh (Ar (d:=d));obtain⟨ai,ci,rfl,i1,i2,i3⟩:=hd.items;obtain⟨ml,am,cm,rfl,m1,m2,m3⟩:=hd.members;unfold maxLen at i2 m2;unfold Dt.val;generalize d.kind=k at *
 generalize d.num=n at *
 generalize d.str=s at *
 have HPl:=zh (fun w'=>EZ k n s ai am d.items.length ci d.bK.length cm w');generalize iZ k n s.size d.items.length d.bK.length=pl at *
 have HV:=zh (fun w'=>pV n w');have HO:=zh ((Own.start hm).al #[.int .i64 k,.int .i64 n,.string s,.slice ai d.items.length ci,.slice am d.bK.length cm] 68);clear hd i3;have HM3:=zh m3;clear m3;generalize d.items.length=li at *
 generalize d.labels=labs at *
 generalize d.bK=dts at *
 refine aj fun R hR=>?_
 go_enter Tryz.func262,Tryz.ntmps262
 go_wp2_with fail
 refine (HPl.out _).mono ?_;rintro e w1 ⟨rfl,hb1⟩;have hO:=HO.out.move hb1;clear HO HPl hb1
 cases pl with
 | false=>
  have HF:=zh hO.below;have HE2:=zh (show ownE d=11 by rw[HE.out];simp);clear hO HE;go_wp2
  exact hR.out _ _ ⟨by rw[HE2.out];rfl,HF.out⟩
 | true=>
  have q0:=hO.obj.c 0;have q1:=hO.obj.c 1;have q5:=hO.obj.lt;have HO:=zh hO;clear hO
  go_upto_region 3 with (fail)
  refine aI [1,8] (fun vs w'=>vs=[.pointer (some ⟨w.heap.size,0,none⟩),.bool (decide (kJ k n))]∧Own w m w' m [.obj w.heap.size 68 #[.int .i64 k,.int .i64 n,.string s,.slice ai li ci,.slice am dts.length cm]]) ?_ ?_
  ·intro Y hY;by_cases e3:k=3
   ·subst e3
    go_wp2_with fail
    refine (HV.out _).mono ?_;rintro e w2 ⟨rfl,hb2⟩;have HO2:=zh (HO.out.move hb2);have HR2:=zh (show decide (kJ 3 n) = !decide (bG n) by unfold kJ bG maxU;by_cases h:(-1000000000000000≤n∧n≤1000000000000000) <;> simp[h]);clear HO hb2 HV;go_wp2;refine hY.out _ _ rfl ⟨?_,HO2.out⟩;rw[HR2.out]
    rfl
   ·have hd3:(k==3)=false:=beq_eq_false_iff_ne.2 e3;have HR2:=zh (show decide (kJ k n)=((k==2)&&(!(n==0))&&(!(n==1))) by unfold kJ;rw[Bool.eq_iff_iff];simp[e3,and_assoc]);clear e3 HV;by_cases e2:k=2
    ·have hd2:(k==2)=true:=beq_iff_eq.2 e2;clear e2;go_wp2
     all_goals refine hY.out _ _ rfl ⟨?_,HO.out⟩
     all_goals rw[HR2.out]
     all_goals first
      | (simp_all;done)
      | (trace_state;done )
    ·have hd2:(k==2)=false:=beq_eq_false_iff_ne.2 e2;clear e2;go_wp2
     all_goals refine hY.out _ _ rfl ⟨?_,HO.out⟩
     all_goals rw[HR2.out]
     all_goals first
      | (simp_all;done)
      | (trace_state;done )
  rintro z vs w2 - ⟨rfl,hO⟩;have HO:=zh hO;clear hO q0 q1 q5;simp[litL,lk];by_cases hr:kJ k n
  ·rw[zL hr];have HF:=zh HO.out.below;have HE2:=zh (show ownE d=1 by rw[HE.out];simp[hr]);clear HO HE hr;go_wp2;exact hR.out _ _ ⟨by rw[HE2.out];rfl,HF.out⟩
  ·rw[zK hr];have HE2:=zh (show ownE d=if twice labs then 6 else 0 by rw[HE.out];simp[hr]);clear HE hr;go_wp2;refine au [1,3] (fun q vs wr=>∃i:Nat,i≤dts.length∧q=dts.length - i∧vs=[.pointer (some ⟨w.heap.size,0,none⟩),.int .i64 ((i:Int)+1)]∧twice labs=twice (labs.drop i) ∧
    Own w m wr m [.obj w.heap.size 68 #[.int .i64 k,.int .i64 n,.string s,.slice ai li ci,.slice am dts.length cm]]) ?_ ?_
   ·exact⟨_,0,zC _,rfl,rfl,rfl,HO.out⟩
   clear HO;rintro X z q vs wr hX - ⟨i,hi,rfl,rfl,ht,hO⟩;simp[litL,lk];have q4:=hO.obj.c 4;have q5:=hO.obj.lt;by_cases hlt:i+1<dts.length
   ·obtain⟨b,off,rfl,h6,h5⟩:=HM3.out (by intro h;simp[h] at hlt);clear h6;have ha:=h5 i zo;have hb:=h5 (i+1) zo;have hin:=Mem.cK hO.ext.1 hO.inn;have c1:=Mem.ak hO.inn ha.1;have c2:=Mem.ak hO.inn hb.1;have cl:=Mem.ay hO.inn ha.1;have HT:=zh (Ai labs i zo);have HO:=zh hO;have HH:=zh ht;clear hO ht ha hb h5 hin;rw[← ByteArray.toList_eq,← ByteArray.toList_eq] at HT;generalize labs[i]=la at *
    generalize labs[i+1]=lb at *
    go_wp2
    go_quiet (fail)
    go_wp2
    ·have h:(!Op.bytesLess la.toList lb.toList)=true:=zA;exact hR.out _ _ ⟨by rw[HE2.out,HH.out,HT.out,h];rfl,(HO.out.drN _).below⟩
    ·have h:(!Op.bytesLess la.toList lb.toList)=false:=zA;exact hX.out _ _ _ zo rfl ⟨i+1,zo,rfl,rfl,by rw[HH.out,HT.out,h];rfl,HO.out.drN _⟩
   ·have HF:=zh (zi (show ownE d=0 by rw[HE2.out,ht,Dg labs i zo];rfl) hO.below);clear hO ht;go_wp2;exact hR.out _ _ ⟨by rw[HF.out.1];rfl,HF.out.2⟩
theorem sj (d:Dt):cntL d.items+cntL d.bK+1=cnt d:=by rw[NU];omega
theorem vz (vi vm:Value) (d:Dt) (m:Mem) (w:World) (hm:m.inn w) (hd:DtAt m vi vm d) (hlen:d.items.length+d.bK.length≤1000000) :
 Calls Tryz.prog 263 #[d.val vi vm] w fun e w'=>∃r,e=.returned r∧Below w.heap.size w w'∧DsAt (m.grow w w') r (d.items ++ d.bK):=by
 have hi:=hd.items;obtain⟨ml,am,cm,rfl,m1,m2,m3⟩:=hd.members;obtain⟨ai,ci,_,_,rfl,-⟩:=hd.slices;unfold maxLen at m2;unfold Dt.val;generalize d.kind=k0 at *
 generalize d.num=n0 at *
 generalize d.str=s0 at *
 have hO:=(Own.start hm).al #[.int .i64 k0,.int .i64 n0,.string s0,.slice ai d.items.length ci,.slice am d.bK.length cm] 68;have HC:=zh (CV _ d.items m _ hO.inn hi zo);have HM3:=zh m3;have HO:=zh hO;clear hd m3 hi hO;generalize d.labels=labs at *
 generalize d.bK=dts at *
 generalize d.items=its at *
 refine aj fun R hR=>?_
 go_enter Tryz.func263,Tryz.ntmps263
 go_wp2_with fail
 refine HC.out.mono ?_;rintro e w1 ⟨r,L,rfl,g1,g2,hO1⟩;have hO2:=HO.out.join hO1;have q0:=hO2.swap.obj.c 4;have q5:=hO2.swap.obj.lt;have HO2:=zh (zi g1 (zi g2 hO2));obtain⟨ra,rc,rfl⟩:=aM hO1.row;clear HC HO g1 g2 hO1 hO2;go_wp2;refine au [3,10,11,12] (fun q vs wr=>∃(k:Nat) (vo:Value) (M:List DV),k≤dts.length∧q=dts.length - k∧vs=[vo,.slice am dts.length cm,.int .i64 dts.length,.int .i64 k] ∧
  M.map (·.1)=its ++ dts.take k∧DRow m M∧Own w m wr m [.row vo 68 5 M.length (gJ M)]) ?_ ?_
 ·exact⟨_,0,_,L,zC _,rfl,rfl,by rw[HO2.out.1];simp,HO2.out.2.1,HO2.out.2.2.drop2⟩
 clear HO2 q0 q5;rintro X z q vs wr hX - ⟨k,vo,M,hk,rfl,rfl,hM,hMr,hO⟩;simp[litL,lk];obtain⟨voa,voc,rfl⟩:=aM hO.row;have hml:M.length≤1000000:=by
  have:=congrArg List.length hM;rw[List.length_map,zJ,List.length_take] at this;omega
 by_cases hlt:k<dts.length
 ·obtain⟨b,off,rfl,h4,h5⟩:=HM3.out (by intro h;simp[h] at hlt);obtain⟨vi,vm,c,hx⟩:=h4 k hlt;have hkl:k<labs.length:=zo;have r0:=Mem.ak hO.inn (h5 k zo).1;have rl:=Mem.ay hO.inn (h5 k zo).1;have r1:=Mem.ak hO.inn c.k;have r2:=Mem.ak hO.inn c.n;have r3:=Mem.ak hO.inn c.s;have r4:=Mem.ak hO.inn c.i;have r5:=Mem.ak hO.inn c.m;obtain⟨xa,xc,xb,xe,rfl,rfl⟩:=hx.slices;have HM:=zh (zi hM (zi hMr (zi hx (zF hlt))));clear hM hMr hx h4 h5 c;generalize labs[k]'hkl=lab at *
  generalize dts[k]=x at *
  have hO1:=hO.al #[.string lab,.int .i64 x.kind,.int .i64 x.num,.string x.str,.slice xa x.items.length xc,.slice xb x.bK.length xe] 139;have hO2:=(hO1.al #[.int .i64 x.kind,.int .i64 x.num,.string x.str,.slice xa x.items.length xc,.slice xb x.bK.length xe] 68).third;simp only[bZ] at hO2;have hnews:=hO2.swap.obj.news rfl;clear hO hO1
  go_wp2_with (at_builtin;refine aA LG rfl (.tmp 16) (.tmp 19) rfl (.slice voa M.length voc) M.length _ rfl hO2.row ⟨_,0,none⟩ 1 1 [.int .i64 x.kind,.int .i64 x.num,.string x.str,.slice xa x.items.length xc,.slice xb x.bK.length xe] rfl rfl hnews (by simp[Value.oneCell']) (by unfold maxLen;omega) zo ?_)
  intro va vc w7 hown7 hgrow7 hrow7;have HO3:=zh (hO2.app hown7 hgrow7 hrow7 zS).drop2.drop2;clear hO2 hown7 hgrow7 hrow7 hnews r0 r1 r2 r3 r4 r5 rl;go_wp2;refine hX.out _ _ _ zo rfl ⟨k+1,_,M ++ [(x,.slice xa x.items.length xc,.slice xb x.bK.length xe)],zo,rfl,rfl,?_,?_,?_⟩
  ·rw[yD,HM.out.1,HM.out.2.2.2,List.append_assoc];rfl
  ·intro p hp;rcases List.mem_append.1 hp with hp | hp
   ·exact HM.out.2.1 p hp
   ·rw[zU] at hp;subst hp;exact HM.out.2.2.1
  ·rw[Cv,zJ];exact HO3.out
 ·obtain rfl:k=dts.length:=zo;rw[yB] at hM;have hst:=GV hO.row hMr hO.free;rw[hM] at hst;have Hfin:=zh (zi hO.below (hst.le hO.bv.done));clear hO hst hM hMr;go_wp2;exact hR.out _ _ ⟨_,rfl,Hfin.out.1,Hfin.out.2⟩
theorem uQ:∀(f v:Nat),f+v=17→∀(vi vm:Value) (d:Dt) (m:Mem) (w:World),m.inn w→DtAt m vi vm d→cnt d≤1000000 →
 Calls Tryz.prog 206 #[d.val vi vm,.int .i64 v] w fun e w'=>e=.returned (.int .i64 (chkD d v))∧Below w.heap.size w w'
 | 0,v,hv,vi,vm,d,m,w,hm,hd,hc=>by
  obtain rfl:v=17:=zo;have HE:=zh (show chkD d 17=9 by rw[x9];rfl);obtain⟨ai,ci,am,cm,rfl,rfl⟩:=hd.slices;unfold Dt.val;refine aj fun R hR=>?_
  go_enter Tryz.func206,Tryz.ntmps206
  go_wp2
  exact hR.out _ _ ⟨by rw[HE.out],aR (zP _ _) _⟩
 | f+1,v,hv,vi,vm,d,m,w,hm,hd,hc=>by
  have hcp:=sj d;have hli:=su d.items;have hld:=su d.bK;have HE:=zh (show chkD d v=if ownE d≠0 then ownE d else chkL (d.items ++ d.bK) (v+1) by rw[x9,zH zo]);have HOWN:=zh (fun w' (h:m.inn w')=>GX vi vm d m w' h hd);have HCH:=zh (fun w' (h:m.inn w')=>vz vi vm d m w' h hd zo);obtain⟨ai,ci,am,cm,rfl,rfl⟩:=hd.slices;unfold Dt.val at HOWN HCH ⊢;generalize hk0:d.kind=k0 at *
  generalize hn0:d.num=n0 at *
  generalize hs0:d.str=s0 at *
  have HO:=zh ((Own.start hm).al #[.int .i64 k0,.int .i64 n0,.string s0,.slice ai d.items.length ci,.slice am d.bK.length cm] 68);have hbnd:∀x∈d.items ++ d.bK,cnt x≤1000000:=fun x hx=>by
   rcases List.mem_append.1 hx with hx | hx
   ·obtain⟨i,hi,rfl⟩:=yR hx;have:=ky d.items i hi;omega
   ·obtain⟨i,hi,rfl⟩:=yR hx;have:=ky d.bK i hi;omega
  have HBN:=zh hbnd;clear hbnd hd hcp hk0 hn0 hs0;refine aj fun R hR=>?_;have hv16:(v:Int)≤16:=zo;have hdv:decide ((v:Int) > 16)=false:=zK zo
  go_enter Tryz.func206,Tryz.ntmps206
  go_wp2_with fail
  refine (HOWN.out _ HO.out.inn).mono ?_;rintro e w1 ⟨rfl,hb1⟩;have hO:=HO.out.move hb1;obtain⟨q0,q1,q2,q3,q4⟩:=hO.obj.cs5;have q5:=hO.obj.lt;by_cases ho:ownE d=0
  ·have HE2:=zh (show chkD d v=chkL (d.items ++ d.bK) (v+1) by rw[HE.out];simp[ho]);rw[ho];have HO2:=zh hO;clear hO HO HOWN hb1 HE ho
   go_wp2_with fail
   refine (HCH.out _ HO2.out.inn).mono ?_;rintro e w2 ⟨r,rfl,hb2,hr⟩;have hO3:=(HO2.out.call hb2).tail;obtain⟨ra,rc,rfl,i1,i2,i3⟩:=hr;unfold maxLen at i2;generalize m.grow w1 w2=mk at *
   have HO3:=zh hO3;generalize d.items ++ d.bK=l at *
   clear HCH HO2 hb2 hO3 q0 q1 q2 q3 q4 q5;go_wp2;refine au [1,17,18,19] (fun q vs wr=>∃(k:Nat),k≤l.length∧q=l.length - k∧vs=[.int .i64 v,.slice ra l.length rc,.int .i64 l.length,.int .i64 k] ∧
    chkL l (v+1)=chkL (l.drop k) (v+1)∧Own w m wr mk []) ?_ ?_
   ·exact⟨_,0,zC _,rfl,rfl,rfl,HO3.out⟩
   clear HO3;rintro X z q vs wr hX - ⟨k,hk,rfl,rfl,hch,hO⟩;simp[litL,lk];by_cases hlt:k<l.length
   ·obtain⟨b,off,rfl,h4⟩:=i3 (by intro h;simp[h] at hlt);obtain⟨xi,xm,c,hx⟩:=h4 k hlt;obtain⟨xa,xc,xb,xe,rfl,rfl⟩:=hx.slices;have r1:=Mem.ak hO.inn c.k;have r2:=Mem.ak hO.inn c.n;have r3:=Mem.ak hO.inn c.s;have r4:=Mem.ak hO.inn c.i;have r5:=Mem.ak hO.inn c.m;have rl:=Mem.ay hO.inn c.k;have HS:=zh (x8 l (v+1) k hlt);have hcx:=HBN.out l[k] (zB hlt);have hO2:=hO.al #[.int .i64 l[k].kind,.int .i64 l[k].num,.string l[k].str,.slice xa l[k].items.length xc,.slice xb l[k].bK.length xe] 68;have HX:=zh (uQ f (v+1) zo _ _ l[k] mk _ hO2.inn hx hcx);have HO2:=zh hO2.tail;have HC:=zh hch;clear h4 c hch hO hO2 hx hcx;generalize l[k]=x at *
    unfold Dt.val at HX;generalize hk0:x.kind=xk at *
    generalize hn0:x.num=xn at *
    generalize hs0:x.str=xs at *
    clear hk0 hn0 hs0
    go_wp2_with fail
    refine HX.out.mono ?_;rintro e w4 ⟨rfl,hb4⟩;have HO3:=zh (HO2.out.move hb4);clear HX HO2 hb4 r1 r2 r3 r4 r5 rl;by_cases he:chkD x (v+1)=0
    ·rw[he];have HS2:=zh (show chkL (l.drop k) (v+1)=chkL (l.drop (k+1)) (v+1) by rw[HS.out];simp[he]);clear he HS;go_wp2;exact hX.out _ _ _ zo rfl ⟨k+1,zo,rfl,rfl,HC.out.trans HS2.out,HO3.out⟩
    ·have HS2:=zh (show chkL (l.drop k) (v+1)=chkD x (v+1) by rw[HS.out];simp[he]);have hne:(chkD x (v+1) != 0)=true:=by simpa using he
     clear he HS;generalize chkD x (v+1)=ex at *
     go_wp2;exact hR.out _ _ ⟨by rw[HE2.out,HC.out,HS2.out];rfl,HO3.out.below⟩
   ·have HC:=zh (show chkL (l.drop k) (v+1)=0 by rw[zO zo];rfl);have HB:=zh hO.below;have HC2:=zh hch;clear hO hch;go_wp2;exact hR.out _ _ ⟨by rw[HE2.out,HC2.out,HC.out];rfl,HB.out⟩
  ·have HE2:=zh (show chkD d v=ownE d by rw[HE.out];simp[ho]);have hne:(ownE d != 0)=true:=by simpa using ho
   have HB:=zh hO.below;clear hO HO HOWN hb1 HE ho;generalize ownE d=ex at *
   go_wp2;exact hR.out _ _ ⟨by rw[HE2.out];rfl,HB.out⟩
theorem Cu (vi vm:Value) (d:Dt) (m:Mem) (w:World) (hm:m.inn w) (hd:DtAt m vi vm d) (hc:cnt d≤1000000) :
 Calls Tryz.prog 139 #[d.val vi vm] w fun e w'=>e=.returned (.int .i64 (chkD d 1))∧Below w.heap.size w w':=by
 have hO:=(Own.start hm).al #[.int .i64 d.kind,.int .i64 d.num,.string d.str,vi,vm] 68;have HC:=zh (uQ 16 1 rfl vi vm d m _ hO.inn hd hc);have HO:=zh hO;obtain⟨ai,ci,am,cm,rfl,rfl⟩:=hd.slices;unfold Dt.val at HC ⊢;clear hO hd;refine aj fun R hR=>?_
 go_enter Tryz.func139,Tryz.ntmps139
 go_wp2_with fail
 refine HC.out.mono ?_;rintro e w1 ⟨rfl,hb1⟩;have HB:=zh (HO.out.move hb1).below;clear HC HO hb1;go_wp2;exact hR.out _ _ ⟨rfl,HB.out⟩
theorem oK:∀(N:Nat) (vi vm:Value) (d:Dt) (most:Int) (m:Mem) (w:World),cnt d≤N→m.inn w→DtAt m vi vm d→0≤most→most≤1000 →
 Calls Tryz.prog 75 #[d.val vi vm,.int .i64 most] w fun e w'=>e=.returned (.int .i64 (kZ d most))∧Below w.heap.size w w'
 | 0,vi,vm,d,most,m,w,hc,hm,hd,h0,h1=>by
  have:=G7 d;omega
 | N+1,vi,vm,d,most,m,w,hc,hm,hd,h0,h1=>by
  have hcp:=sj d;have HE:=zh (O5 d most);have hbi:∀i (h:i<d.items.length),cnt d.items[i]≤N:=fun i hi=>by have:=ky d.items i hi;omega
  have hbm:∀i (h:i<d.bK.length),cnt d.bK[i]≤N:=fun i hi=>by have:=ky d.bK i hi;omega
  obtain⟨ai,ci,rfl,i1,i2,i3⟩:=hd.items;obtain⟨ml,am,cm,rfl,m1,m2,m3⟩:=hd.members;unfold maxLen at i2 m2;have hok:=hd.ok.s;unfold maxLen at hok;unfold Dt.val;generalize d.kind=k at *
  generalize d.num=n at *
  generalize d.str=s at *
  have HO:=zh ((Own.start hm).al #[.int .i64 k,.int .i64 n,.string s,.slice ai d.items.length ci,.slice am d.bK.length cm] 68);have HM3:=zh m3;have HI3:=zh i3;have HBN:=zh (zi hbi hbm);clear hd m3 i3 hbi hbm hcp;generalize kZ d most=SZ at *
  generalize d.labels=labs at *
  generalize d.bK=dts at *
  generalize d.items=its at *
  refine aj fun R hR=>?_
  go_enter Tryz.func75,Tryz.ntmps75
  go_wp2;refine au [1,2,5,6] (fun q vs wr=>∃(i:Nat) (c:Int),i≤its.length∧q=its.length - i∧vs=[.int .i64 most,.pointer (some ⟨w.heap.size,0,none⟩),.int .i64 c,.int .i64 (i:Int)]∧jk its most 1=jk (its.drop i) most c∧1≤c∧c≤most+1 ∧
   Own w m wr m [.obj w.heap.size 68 #[.int .i64 k,.int .i64 n,.string s,.slice ai its.length ci,.slice am dts.length cm]]) ?_ ?_
  ·exact⟨_,0,1,zC _,rfl,rfl,rfl,zo,zo,HO.out⟩
  clear HO;rintro X z q vs wr hX - ⟨i,c0,hi,rfl,rfl,hch,hc1,hc2,hO⟩;simp[litL,lk];have q3:=hO.obj.c 3;have q5:=hO.obj.lt;by_cases hgo:i<its.length∧c0≤most
  ·have hlt:=hgo.1;have hle:=hgo.2;have hdl:decide (c0≤most)=true:=zL hle;obtain⟨b,off,rfl,h4⟩:=HI3.out (by intro h;simp[h] at hlt);obtain⟨xi,xm,c,hx⟩:=h4 i hlt;obtain⟨xa,xc,xb,xe,rfl,rfl⟩:=hx.slices;have r1:=Mem.ak hO.inn c.k;have r2:=Mem.ak hO.inn c.n;have r3:=Mem.ak hO.inn c.s;have r4:=Mem.ak hO.inn c.i;have r5:=Mem.ak hO.inn c.m;have rl:=Mem.ay hO.inn c.k;have HS:=zh (sV its most c0 i hlt hle);have hcx:=HBN.out.1 i hlt;have hp1:=nM its[i] (most - c0);have hp2:=vF its[i] (most - c0) zo;have HX:=zh (oK N _ _ its[i] (most - c0) m _ hcx hO.inn hx zo zo);have HO2:=zh hO;have HC:=zh hch;clear h4 c hch hO hx hcx hgo;generalize its[i]=x at *
   unfold Dt.val at HX;generalize hk0:x.kind=xk at *
   generalize hn0:x.num=xn at *
   generalize hs0:x.str=xs at *
   clear hk0 hn0 hs0
   go_wp2_with fail
   refine HX.out.mono ?_;rintro e w4 ⟨rfl,hb4⟩;have HO3:=zh (HO2.out.move hb4);clear HX HO2 hb4 r1 r2 r3 r4 r5 rl q3 q5;generalize kZ x (most - c0)=sx at *
   go_wp2;exact hX.out _ _ _ zo rfl ⟨i+1,_,zo,rfl,rfl,HC.out.trans HS.out,zo,zo,HO3.out⟩
  ·have hS1:jk its most 1=c0:=by
    rw[hch];by_cases h:i<its.length
    ·exact sU _ _ _ (fun h2=>hgo ⟨h,h2⟩)
    ·rw[zO zo];rfl
   rw[hS1] at HE;have HO:=zh hO;have hdl:i<its.length→decide (c0≤most)=false:=fun h=>zK (fun h2=>hgo ⟨h,h2⟩);have Hgo:=zh hgo;clear hO hch hS1;by_cases hi2:i<its.length
   ·have hdl:=hdl hi2;clear hgo hX;go_wp2;refine au [1,2,5,7] (fun q vs wr=>∃(i:Nat) (c:Int),i≤dts.length∧q=dts.length - i∧vs=[.int .i64 most,.pointer (some ⟨w.heap.size,0,none⟩),.int .i64 c,.int .i64 (i:Int)]∧jk dts most c0=jk (dts.drop i) most c∧1≤c∧c≤most+1 ∧
     Own w m wr m [.obj w.heap.size 68 #[.int .i64 k,.int .i64 n,.string s,.slice ai its.length ci,.slice am dts.length cm]]) ?_ ?_
    ·exact⟨_,0,c0,zC _,rfl,rfl,rfl,zo,zo,HO.out⟩
    clear HO q3 q5;rintro V z q vs wr hV - ⟨i,c1,hi,rfl,rfl,hch,hc1,hc2,hO⟩;simp[litL,lk];have q4:=hO.obj.c 4;have q5:=hO.obj.lt;by_cases hgo:i<dts.length∧c1≤most
    ·have hlt:=hgo.1;have hle:=hgo.2;have hdl:decide (c1≤most)=true:=zL hle;obtain⟨b,off,rfl,h4,h5⟩:=HM3.out (by intro h;simp[h] at hlt);obtain⟨xi,xm,c,hx⟩:=h4 i hlt;obtain⟨xa,xc,xb,xe,rfl,rfl⟩:=hx.slices;have r1:=Mem.ak hO.inn c.k;have r2:=Mem.ak hO.inn c.n;have r3:=Mem.ak hO.inn c.s;have r4:=Mem.ak hO.inn c.i;have r5:=Mem.ak hO.inn c.m;have rl:=Mem.ay hO.inn c.k;have HS:=zh (sV dts most c1 i hlt hle);have hcx:=HBN.out.2 i hlt;have hp1:=nM dts[i] (most - c1);have hp2:=vF dts[i] (most - c1) zo;have HX:=zh (oK N _ _ dts[i] (most - c1) m _ hcx hO.inn hx zo zo);have HO2:=zh hO;have HC:=zh hch;clear h4 h5 c hch hO hx hcx hgo;generalize dts[i]=x at *
     unfold Dt.val at HX;generalize hk0:x.kind=xk at *
     generalize hn0:x.num=xn at *
     generalize hs0:x.str=xs at *
     clear hk0 hn0 hs0
     go_wp2_with fail
     refine HX.out.mono ?_;rintro e w4 ⟨rfl,hb4⟩;have HO3:=zh (HO2.out.move hb4);clear HX HO2 hb4 r1 r2 r3 r4 r5 rl q4 q5;generalize kZ x (most - c1)=sx at *
     go_wp2;exact hV.out _ _ _ zo rfl ⟨i+1,_,zo,rfl,rfl,HC.out.trans HS.out,zo,zo,HO3.out⟩
    ·have HS2:=zh (show SZ=c1 by
      rw[HE.out,hch];by_cases h:i<dts.length
      ·exact sU _ _ _ (fun h2=>hgo ⟨h,h2⟩)
      ·rw[zO zo];rfl)
     have HB:=zh hO.below;clear hO hch;by_cases hi3:i<dts.length
     ·have hdl:decide (c1≤most)=false:=zK (fun h2=>hgo ⟨hi3,h2⟩);clear hgo;go_wp2;exact hR.out _ _ ⟨by rw[HS2.out];rfl,HB.out⟩
     ·clear hgo;go_wp2;exact hR.out _ _ ⟨by rw[HS2.out];rfl,HB.out⟩
   ·clear hgo hdl hX;go_wp2;refine au [1,2,5,7] (fun q vs wr=>∃(i:Nat) (c:Int),i≤dts.length∧q=dts.length - i∧vs=[.int .i64 most,.pointer (some ⟨w.heap.size,0,none⟩),.int .i64 c,.int .i64 (i:Int)]∧jk dts most c0=jk (dts.drop i) most c∧1≤c∧c≤most+1 ∧
     Own w m wr m [.obj w.heap.size 68 #[.int .i64 k,.int .i64 n,.string s,.slice ai its.length ci,.slice am dts.length cm]]) ?_ ?_
    ·exact⟨_,0,c0,zC _,rfl,rfl,rfl,zo,zo,HO.out⟩
    clear HO q3 q5;rintro V z q vs wr hV - ⟨i,c1,hi,rfl,rfl,hch,hc1,hc2,hO⟩;simp[litL,lk];have q4:=hO.obj.c 4;have q5:=hO.obj.lt;by_cases hgo:i<dts.length∧c1≤most
    ·have hlt:=hgo.1;have hle:=hgo.2;have hdl:decide (c1≤most)=true:=zL hle;obtain⟨b,off,rfl,h4,h5⟩:=HM3.out (by intro h;simp[h] at hlt);obtain⟨xi,xm,c,hx⟩:=h4 i hlt;obtain⟨xa,xc,xb,xe,rfl,rfl⟩:=hx.slices;have r1:=Mem.ak hO.inn c.k;have r2:=Mem.ak hO.inn c.n;have r3:=Mem.ak hO.inn c.s;have r4:=Mem.ak hO.inn c.i;have r5:=Mem.ak hO.inn c.m;have rl:=Mem.ay hO.inn c.k;have HS:=zh (sV dts most c1 i hlt hle);have hcx:=HBN.out.2 i hlt;have hp1:=nM dts[i] (most - c1);have hp2:=vF dts[i] (most - c1) zo;have HX:=zh (oK N _ _ dts[i] (most - c1) m _ hcx hO.inn hx zo zo);have HO2:=zh hO;have HC:=zh hch;clear h4 h5 c hch hO hx hcx hgo;generalize dts[i]=x at *
     unfold Dt.val at HX;generalize hk0:x.kind=xk at *
     generalize hn0:x.num=xn at *
     generalize hs0:x.str=xs at *
     clear hk0 hn0 hs0
     go_wp2_with fail
     refine HX.out.mono ?_;rintro e w4 ⟨rfl,hb4⟩;have HO3:=zh (HO2.out.move hb4);clear HX HO2 hb4 r1 r2 r3 r4 r5 rl q4 q5;generalize kZ x (most - c1)=sx at *
     go_wp2;exact hV.out _ _ _ zo rfl ⟨i+1,_,zo,rfl,rfl,HC.out.trans HS.out,zo,zo,HO3.out⟩
    ·have HS2:=zh (show SZ=c1 by
      rw[HE.out,hch];by_cases h:i<dts.length
      ·exact sU _ _ _ (fun h2=>hgo ⟨h,h2⟩)
      ·rw[zO zo];rfl)
     have HB:=zh hO.below;clear hO hch;by_cases hi3:i<dts.length
     ·have hdl:decide (c1≤most)=false:=zK (fun h2=>hgo ⟨hi3,h2⟩);clear hgo;go_wp2;exact hR.out _ _ ⟨by rw[HS2.out];rfl,HB.out⟩
     ·clear hgo;go_wp2;exact hR.out _ _ ⟨by rw[HS2.out];rfl,HB.out⟩
theorem F6 (vi vm:Value) (d:Dt) (most:Int) (m:Mem) (w:World) (hm:m.inn w) (hd:DtAt m vi vm d) (h0:0≤most) (h1:most≤1000) :
 Calls Tryz.prog 75 #[d.val vi vm,.int .i64 most] w fun e w'=>e=.returned (.int .i64 (kZ d most))∧Below w.heap.size w w':=oK (cnt d) vi vm d most m w (zG _) hm hd h0 h1
theorem qp:∀(N:Nat) (vi vm:Value) (d:Dt) (m:Mem) (w:World),cnt d≤N→m.inn w→DtAt m vi vm d →
 Calls Tryz.prog 76 #[d.val vi vm] w fun e w'=>e=.returned (.bool (jX d))∧Below w.heap.size w w'
 | 0,vi,vm,d,m,w,hc,hm,hd=>by
  have:=G7 d;omega
 | N+1,vi,vm,d,m,w,hc,hm,hd=>by
  have hcp:=sj d;have HE:=zh (Ma d);have hbi:∀i (h:i<d.items.length),cnt d.items[i]≤N:=fun i hi=>by have:=ky d.items i hi;omega
  have hbm:∀i (h:i<d.bK.length),cnt d.bK[i]≤N:=fun i hi=>by have:=ky d.bK i hi;omega
  obtain⟨ai,ci,rfl,i1,i2,i3⟩:=hd.items;obtain⟨ml,am,cm,rfl,m1,m2,m3⟩:=hd.members;unfold maxLen at i2 m2;have hok:=hd.ok.s;unfold maxLen at hok;unfold Dt.val;generalize d.kind=k at *
  generalize d.num=n at *
  generalize d.str=s at *
  have HO:=zh ((Own.start hm).al #[.int .i64 k,.int .i64 n,.string s,.slice ai d.items.length ci,.slice am d.bK.length cm] 68);have HM3:=zh m3;have HI3:=zh i3;have HBN:=zh (zi hbi hbm);clear hd m3 i3 hbi hbm hcp;generalize jX d=SH at *
  generalize d.labels=labs at *
  generalize d.bK=dts at *
  generalize d.items=its at *
  refine aj fun R hR=>?_;by_cases hs:s.size≤80
  ·have hds:decide ((s.size:Int) > 80)=false:=zK zo;have HE2:=zh (show SH=(nN its&&kI labs dts) by rw[HE.out,zL hs];simp);clear hs HE
   go_enter Tryz.func76,Tryz.ntmps76
   go_wp2;refine au [1,3] (fun q vs wr=>∃(i:Nat),i≤its.length∧q=its.length - i∧vs=[.pointer (some ⟨w.heap.size,0,none⟩),.int .i64 (i:Int)]∧nN its=nN (its.drop i) ∧
    Own w m wr m [.obj w.heap.size 68 #[.int .i64 k,.int .i64 n,.string s,.slice ai its.length ci,.slice am dts.length cm]]) ?_ ?_
   ·exact⟨_,0,zC _,rfl,rfl,rfl,HO.out⟩
   clear HO;rintro X z q vs wr hX - ⟨i,hi,rfl,rfl,hch,hO⟩;simp[litL,lk];have q3:=hO.obj.c 3;have q5:=hO.obj.lt;by_cases hlt:i<its.length
   ·obtain⟨b,off,rfl,h4⟩:=HI3.out (by intro h;simp[h] at hlt);obtain⟨xi,xm,c,hx⟩:=h4 i hlt;obtain⟨xa,xc,xb,xe,rfl,rfl⟩:=hx.slices;have r1:=Mem.ak hO.inn c.k;have r2:=Mem.ak hO.inn c.n;have r3:=Mem.ak hO.inn c.s;have r4:=Mem.ak hO.inn c.i;have r5:=Mem.ak hO.inn c.m;have rl:=Mem.ay hO.inn c.k;have HS:=zh (FO its i hlt);have hcx:=HBN.out.1 i hlt;have HX:=zh (qp N _ _ its[i] m _ hcx hO.inn hx);have HO2:=zh hO;have HC:=zh hch;clear h4 c hch hO hx hcx;generalize its[i]=x at *
    unfold Dt.val at HX;generalize hk0:x.kind=xk at *
    generalize hn0:x.num=xn at *
    generalize hs0:x.str=xs at *
    clear hk0 hn0 hs0
    go_wp2_with fail
    refine HX.out.mono ?_;rintro e w4 ⟨rfl,hb4⟩;have HO3:=zh (HO2.out.move hb4);clear HX HO2 hb4 r1 r2 r3 r4 r5 rl q3 q5
    cases hsx:jX x with
    | true=>
     have HS2:=zh (show nN (its.drop i)=nN (its.drop (i+1)) by rw[HS.out,hsx];rfl);clear hsx HS;go_wp2
     exact hX.out _ _ _ zo rfl ⟨i+1,zo,rfl,rfl,HC.out.trans HS2.out,HO3.out⟩
    | false=>
     have HS2:=zh (show SH=false by rw[HE2.out,HC.out,HS.out,hsx];rfl);clear hsx HS;go_wp2;exact hR.out _ _ ⟨by rw[HS2.out];rfl,HO3.out.below⟩
   ·have HE3:=zh (show SH=kI labs dts by
     rw[HE2.out,hch,zO zo];rfl)
    have HO:=zh hO;clear hO hch hX;go_wp2;refine au [1,4] (fun q vs wr=>∃(i:Nat),i≤dts.length∧q=dts.length - i∧vs=[.pointer (some ⟨w.heap.size,0,none⟩),.int .i64 (i:Int)]∧kI labs dts=kI (labs.drop i) (dts.drop i) ∧
     Own w m wr m [.obj w.heap.size 68 #[.int .i64 k,.int .i64 n,.string s,.slice ai its.length ci,.slice am dts.length cm]]) ?_ ?_
    ·exact⟨_,0,zC _,rfl,rfl,rfl,HO.out⟩
    clear HO q3 q5;rintro V z q vs wr hV - ⟨i,hi,rfl,rfl,hch,hO⟩;simp[litL,lk];have q4:=hO.obj.c 4;have q5:=hO.obj.lt;by_cases hlt:i<dts.length
    ·obtain⟨b,off,rfl,h4,h5⟩:=HM3.out (by intro h;simp[h] at hlt);obtain⟨xi,xm,c,hx⟩:=h4 i hlt;obtain⟨xa,xc,xb,xe,rfl,rfl⟩:=hx.slices;have hll:i<labs.length:=zo;have r0:=Mem.ak hO.inn (h5 i hll).1;have r6:=(h5 i hll).2;unfold maxLen at r6;have r1:=Mem.ak hO.inn c.k;have r2:=Mem.ak hO.inn c.n;have r3:=Mem.ak hO.inn c.s;have r4:=Mem.ak hO.inn c.i;have r5:=Mem.ak hO.inn c.m;have rl:=Mem.ay hO.inn c.k;have HS:=zh (FN labs dts i hlt hll);have hcx:=HBN.out.2 i hlt;have HX:=zh (qp N _ _ dts[i] m _ hcx hO.inn hx);have HO2:=zh hO;have HC:=zh hch;clear h4 h5 c hch hO hx hcx;generalize dts[i]=x at *
     generalize labs[i]=lab at *
     unfold Dt.val at HX;generalize hk0:x.kind=xk at *
     generalize hn0:x.num=xn at *
     generalize hs0:x.str=xs at *
     clear hk0 hn0 hs0;by_cases hl:lab.size≤80
     ·have hdl:decide ((lab.size:Int) > 80)=false:=zK zo;have HS1:=zh (show kI (labs.drop i) (dts.drop i)=(jX x&&kI (labs.drop (i+1)) (dts.drop (i+1))) by rw[HS.out,zL hl];simp);clear hl HS
      go_wp2_with fail
      refine HX.out.mono ?_;rintro e w4 ⟨rfl,hb4⟩;have HO3:=zh (HO2.out.move hb4);clear HX HO2 hb4 r0 r1 r2 r3 r4 r5 rl q4 q5
      cases hsx:jX x with
      | true=>
       have HS2:=zh (show kI (labs.drop i) (dts.drop i)=kI (labs.drop (i+1)) (dts.drop (i+1)) by rw[HS1.out,hsx];rfl);clear hsx HS1;go_wp2
       exact hV.out _ _ _ zo rfl ⟨i+1,zo,rfl,rfl,HC.out.trans HS2.out,HO3.out⟩
      | false=>
       have HS2:=zh (show SH=false by rw[HE3.out,HC.out,HS1.out,hsx];rfl);clear hsx HS1;go_wp2;exact hR.out _ _ ⟨by rw[HS2.out];rfl,HO3.out.below⟩
     ·have hdl:decide ((lab.size:Int) > 80)=true:=zL zo;have HS2:=zh (show SH=false by rw[HE3.out,HC.out,HS.out,zK hl];rfl);clear hl HS HX;go_wp2;exact hR.out _ _ ⟨by rw[HS2.out];rfl,HO2.out.below⟩
    ·have HC:=zh (show SH=true by rw[HE3.out,hch,show List.drop i dts=[] from zO zo,JS]);have HB:=zh hO.below;clear hO hch;go_wp2;exact hR.out _ _ ⟨by rw[HC.out];rfl,HB.out⟩
  ·have hds:decide ((s.size:Int) > 80)=true:=zL zo;have HE2:=zh (show SH=false by rw[HE.out,zK hs];rfl);clear hs HE
   go_enter Tryz.func76,Tryz.ntmps76
   go_wp2;exact hR.out _ _ ⟨by rw[HE2.out];rfl,HO.out.below⟩
def wo (d:Dt):Bool:=decide (kZ d 40≤40)&&jX d
theorem DR (vi vm:Value) (d:Dt) (m:Mem) (w:World) (hm:m.inn w) (hd:DtAt m vi vm d) :
 Calls Tryz.prog 44 #[d.val vi vm] w fun e w'=>e=.returned (.bool (wo d))∧Below w.heap.size w w':=by
 have hO:=(Own.start hm).al #[.int .i64 d.kind,.int .i64 d.num,.string d.str,vi,vm] 68;have HC:=zh (F6 vi vm d 40 m _ hO.inn hd zo zo);have HD:=zh (fun w' (h:m.inn w')=>qp (cnt d) vi vm d m w' (zG _) h hd);have HO:=zh hO;obtain⟨ai,ci,am,cm,rfl,rfl⟩:=hd.slices;have HE:=zh (show wo d=(decide (kZ d 40≤40)&&jX d) from rfl);unfold Dt.val at HC HD ⊢;clear hO hd;generalize wo d=SM at *
 generalize kZ d 40=sz at *
 refine aj fun R hR=>?_
 go_enter Tryz.func44,Tryz.ntmps44
 go_wp2_with fail
 refine HC.out.mono ?_;rintro e w1 ⟨rfl,hb1⟩;have hO:=HO.out.move hb1;obtain⟨q0,q1,q2,q3,q4⟩:=hO.obj.cs5;have q5:=hO.obj.lt;have HO2:=zh hO;clear HC HO hb1 hO;by_cases hz:sz≤40
 ·have hdz:decide (sz≤40)=true:=zL hz;have HE2:=zh (show SM=jX d by rw[HE.out,hdz];rfl);clear hz HE
  go_wp2_with fail
  refine (HD.out _ HO2.out.inn).mono ?_;rintro e w2 ⟨rfl,hb2⟩;have HB:=zh (HO2.out.move hb2).below;clear HD HO2 hb2 q0 q1 q2 q3 q4 q5;generalize jX d=sd at *
  go_wp2;exact hR.out _ _ ⟨by rw[HE2.out];rfl,HB.out⟩
 ·have hdz:decide (sz≤40)=false:=zK hz;have HE2:=zh (show SM=false by rw[HE.out,hdz];rfl);have HB:=zh HO2.out.below;clear hz HE HD HO2;go_wp2;exact hR.out _ _ ⟨by rw[HE2.out];rfl,HB.out⟩
theorem JO {d:Dt} (h:wo d=true):cnt d≤40∧jX d=true:=by
 unfold wo at h;rw[Bool.and_eq_true,decide_eq_true_eq] at h;have:=Dr d 40 h.1;exact⟨zo,h.2⟩
theorem DT (k n:Int) (s:ByteArray) (ai am:Option Addr) (li ci lm cm:Nat) (w:World) :
 Calls Tryz.prog 223 #[.agg #[.int .i64 k,.int .i64 n,.string s,.slice ai li ci,.slice am lm cm]] w fun e w'=>e=.returned (.bool (iZ k n s.size li lm))∧Below w.heap.size w w':=by
 have hO:=(Own.start (Mem.Ef w)).al #[.int .i64 k,.int .i64 n,.string s,.slice ai li ci,.slice am lm cm] 68;clear hO;have HP:=zh (show iZ k n s.size li lm=(decide (1≤k∧k≤6)&&(decide (k=2∨k=3) || (n==0))&&(decide (k=4) || s.toList.isEmpty)&&(decide (k=5) || ((li:Int)==0))&&(decide (k=6) || ((lm:Int)==0))) by unfold iZ;rw[vI,vI,LV];rfl);refine aj fun R hR=>?_
 go_enter Tryz.func223,Tryz.ntmps223
 go_wp2
 all_goals refine hR.out _ _ ⟨aL ?_,aR (zP _ _) _⟩
 all_goals rw[HP.out]
 all_goals first
  | (simp_all;done)
  | (simp_all;omega)
  | (trace_state;done )
theorem qw:∀(f v:Nat),f+v=17→∀(vi vm:Value) (d:Dt) (m:Mem) (w:World),m.inn w→DtAt m vi vm d→cnt d≤1000000 →
 Calls Tryz.prog 156 #[d.val vi vm,.int .i64 v] w fun e w'=>e=.returned (.int .i64 (chkD d v))∧Below w.heap.size w w'
 | 0,v,hv,vi,vm,d,m,w,hm,hd,hc=>by
  obtain rfl:v=17:=zo;have HE:=zh (show chkD d 17=9 by rw[x9];rfl);obtain⟨ai,ci,am,cm,rfl,rfl⟩:=hd.slices;unfold Dt.val;refine aj fun R hR=>?_
  go_enter Tryz.func156,Tryz.ntmps156
  go_wp2
  exact hR.out _ _ ⟨by rw[HE.out],aR (zP _ _) _⟩
 | f+1,v,hv,vi,vm,d,m,w,hm,hd,hc=>by
  have hcp:=sj d;have hli:=su d.items;have hld:=su d.bK;have HE0:=zh (show chkD d v=if ownE d≠0 then ownE d else if chkL d.items (v+1)≠0 then chkL d.items (v+1) else chkL d.bK (v+1) by rw[x9,zH zo,qN]);have HE:=zh (Ar (d:=d));obtain⟨ai,ci,rfl,i1,i2,i3⟩:=hd.items;obtain⟨ml,am,cm,rfl,m1,m2,m3⟩:=hd.members;unfold maxLen at i2 m2;unfold Dt.val;have hbi:∀i (h:i<d.items.length),cnt d.items[i]≤1000000:=fun i hi=>by have:=ky d.items i hi;omega
  have hbm:∀i (h:i<d.bK.length),cnt d.bK[i]≤1000000:=fun i hi=>by have:=ky d.bK i hi;omega
  generalize d.kind=k at *
  generalize d.num=n at *
  generalize d.str=s at *
  have HPl:=zh (fun w'=>DT k n s ai am d.items.length ci d.bK.length cm w');generalize iZ k n s.size d.items.length d.bK.length=pl at *
  have HV:=zh (fun w'=>D6 n w');have HO:=zh ((Own.start hm).al #[.int .i64 k,.int .i64 n,.string s,.slice ai d.items.length ci,.slice am d.bK.length cm] 68);have HM3:=zh m3;have HI3:=zh i3;have HBN:=zh (zi hbi hbm);have hdv:decide ((v:Int) > 16)=false:=zK zo;clear hd m3 i3 hbi hbm hcp hc;generalize chkD d v=CHK at *
  generalize ownE d=OW at *
  generalize d.labels=labs at *
  generalize d.bK=dts at *
  generalize d.items=its at *
  refine aj fun R hR=>?_
  go_enter Tryz.func156,Tryz.ntmps156
  go_wp2_with fail
  refine (HPl.out _).mono ?_;rintro e w1 ⟨rfl,hb1⟩;have hO:=HO.out.move hb1;clear HO HPl hb1
  cases pl with
  | false=>
   have HF:=zh hO.below;have HE2:=zh (show CHK=11 by rw[HE0.out,HE.out];simp);clear hO HE HE0;go_wp2
   exact hR.out _ _ ⟨by rw[HE2.out];rfl,HF.out⟩
  | true=>
   have q0:=hO.obj.c 0;have q1:=hO.obj.c 1;have q5:=hO.obj.lt;have HO:=zh hO;clear hO
   go_upto_region 5 with (fail)
   refine aI [1,2,38] (fun vs w'=>vs=[.int .i64 v,.pointer (some ⟨w.heap.size,0,none⟩),.bool (decide (kJ k n))]∧Own w m w' m [.obj w.heap.size 68 #[.int .i64 k,.int .i64 n,.string s,.slice ai its.length ci,.slice am dts.length cm]]) ?_ ?_
   ·intro Y hY;by_cases e3:k=3
    ·subst e3
     go_wp2_with fail
     refine (HV.out _).mono ?_;rintro e w2 ⟨rfl,hb2⟩;have HO2:=zh (HO.out.move hb2);have HR2:=zh (show decide (kJ 3 n) = !decide (bG n) by unfold kJ bG maxU;by_cases h:(-1000000000000000≤n∧n≤1000000000000000) <;> simp[h]);clear HO hb2 HV;go_wp2;refine hY.out _ _ rfl ⟨?_,HO2.out⟩;rw[HR2.out]
     rfl
    ·have hd3:(k==3)=false:=beq_eq_false_iff_ne.2 e3;have HR2:=zh (show decide (kJ k n)=((k==2)&&(!(n==0))&&(!(n==1))) by unfold kJ;rw[Bool.eq_iff_iff];simp[e3,and_assoc]);clear e3 HV;by_cases e2:k=2
     ·have hd2:(k==2)=true:=beq_iff_eq.2 e2;clear e2;go_wp2
      all_goals refine hY.out _ _ rfl ⟨?_,HO.out⟩
      all_goals rw[HR2.out]
      all_goals first
       | (simp_all;done)
       | (trace_state;done )
     ·have hd2:(k==2)=false:=beq_eq_false_iff_ne.2 e2;clear e2;go_wp2
      all_goals refine hY.out _ _ rfl ⟨?_,HO.out⟩
      all_goals rw[HR2.out]
      all_goals first
       | (simp_all;done)
       | (trace_state;done )
   rintro z vs w2 - ⟨rfl,hO⟩;have HO:=zh hO;clear hO q0 q1 q5;simp[litL,lk];by_cases hr:kJ k n
   ·rw[zL hr];have HF:=zh HO.out.below;have HE2:=zh (show CHK=1 by rw[HE0.out,HE.out];simp[hr]);clear HO HE HE0 hr;go_wp2;exact hR.out _ _ ⟨by rw[HE2.out];rfl,HF.out⟩
   ·rw[zK hr];have HE2:=zh (show CHK=if twice labs then 6 else if chkL its (v+1)≠0 then chkL its (v+1) else chkL dts (v+1) by rw[HE0.out,HE.out];by_cases ht:twice labs <;> simp[hr,ht]);clear HE HE0 hr;go_wp2;refine au [1,2,5] (fun q vs wr=>∃i:Nat,i≤dts.length∧q=dts.length - i∧vs=[.int .i64 v,.pointer (some ⟨w.heap.size,0,none⟩),.int .i64 ((i:Int)+1)]∧twice labs=twice (labs.drop i) ∧
     Own w m wr m [.obj w.heap.size 68 #[.int .i64 k,.int .i64 n,.string s,.slice ai its.length ci,.slice am dts.length cm]]) ?_ ?_
    ·exact⟨_,0,zC _,rfl,rfl,rfl,HO.out⟩
    clear HO;rintro X z q vs wr hX - ⟨i,hi,rfl,rfl,ht,hO⟩;simp[litL,lk];have q4:=hO.obj.c 4;have q5:=hO.obj.lt;by_cases hlt:i+1<dts.length
    ·obtain⟨b,off,rfl,h6,h5⟩:=HM3.out (by intro h;simp[h] at hlt);clear h6;have ha:=h5 i zo;have hb:=h5 (i+1) zo;have c1:=Mem.ak hO.inn ha.1;have c2:=Mem.ak hO.inn hb.1;have cl:=Mem.ay hO.inn ha.1;have HT:=zh (Ai labs i zo);have HO:=zh hO;have HH:=zh ht;clear hO ht ha hb h5;rw[← ByteArray.toList_eq,← ByteArray.toList_eq] at HT;generalize labs[i]=la at *
     generalize labs[i+1]=lb at *
     go_wp2
     go_quiet (fail)
     go_wp2
     ·have h:(!Op.bytesLess la.toList lb.toList)=true:=zA;exact hR.out _ _ ⟨by rw[HE2.out,HH.out,HT.out,h];rfl,(HO.out.drN _).below⟩
     ·have h:(!Op.bytesLess la.toList lb.toList)=false:=zA;exact hX.out _ _ _ zo rfl ⟨i+1,zo,rfl,rfl,by rw[HH.out,HT.out,h];rfl,HO.out.drN _⟩
    ·have HE3:=zh (show CHK=if chkL its (v+1)≠0 then chkL its (v+1) else chkL dts (v+1) by rw[HE2.out,ht,Dg labs i zo];simp);have HO:=zh hO;clear hO ht HE2 hX;go_wp2;refine au [1,2,6] (fun q vs wr=>∃i:Nat,i≤its.length∧q=its.length - i∧vs=[.int .i64 v,.pointer (some ⟨w.heap.size,0,none⟩),.int .i64 (i:Int)]∧chkL its (v+1)=chkL (its.drop i) (v+1) ∧
      Own w m wr m [.obj w.heap.size 68 #[.int .i64 k,.int .i64 n,.string s,.slice ai its.length ci,.slice am dts.length cm]]) ?_ ?_
     ·exact⟨_,0,zC _,rfl,rfl,rfl,HO.out⟩
     clear HO q4 q5;rintro X z q vs wr hX - ⟨i,hi,rfl,rfl,hch,hO⟩;simp[litL,lk];have q3:=hO.obj.c 3;have q5:=hO.obj.lt;by_cases hlt:i<its.length
     ·obtain⟨b,off,rfl,h4⟩:=HI3.out (by intro h;simp[h] at hlt);obtain⟨xi,xm,c,hx⟩:=h4 i hlt;obtain⟨xa,xc,xb,xe,rfl,rfl⟩:=hx.slices;have r1:=Mem.ak hO.inn c.k;have r2:=Mem.ak hO.inn c.n;have r3:=Mem.ak hO.inn c.s;have r4:=Mem.ak hO.inn c.i;have r5:=Mem.ak hO.inn c.m;have rl:=Mem.ay hO.inn c.k;have HS:=zh (x8 its (v+1) i hlt);have hcx:=HBN.out.1 i hlt;have HX:=zh (qw f (v+1) zo _ _ its[i] m _ hO.inn hx hcx);have HO2:=zh hO;have HC:=zh hch;clear h4 c hch hO hx hcx;generalize its[i]=x at *
      unfold Dt.val at HX;generalize hk0:x.kind=xk at *
      generalize hn0:x.num=xn at *
      generalize hs0:x.str=xs at *
      clear hk0 hn0 hs0
      go_wp2_with fail
      refine HX.out.mono ?_;rintro e w4 ⟨rfl,hb4⟩;have HO3:=zh (HO2.out.move hb4);clear HX HO2 hb4 r1 r2 r3 r4 r5 rl q3 q5;by_cases he:chkD x (v+1)=0
      ·rw[he];have HS2:=zh (show chkL (its.drop i) (v+1)=chkL (its.drop (i+1)) (v+1) by rw[HS.out];simp[he]);clear he HS;go_wp2;exact hX.out _ _ _ zo rfl ⟨i+1,zo,rfl,rfl,HC.out.trans HS2.out,HO3.out⟩
      ·have HS2:=zh (show CHK=chkD x (v+1) by rw[HE3.out,HC.out,HS.out];simp[he]);have hne:(chkD x (v+1) != 0)=true:=by simpa using he
       clear he HS;generalize chkD x (v+1)=ex at *
       go_wp2;exact hR.out _ _ ⟨by rw[HS2.out];rfl,HO3.out.below⟩
     ·have HE4:=zh (show CHK=chkL dts (v+1) by
       rw[HE3.out,hch,zO zo];rfl)
      have HO:=zh hO;clear hO hch hX HE3;go_wp2;refine au [1,2,8] (fun q vs wr=>∃i:Nat,i≤dts.length∧q=dts.length - i∧vs=[.int .i64 v,.pointer (some ⟨w.heap.size,0,none⟩),.int .i64 (i:Int)]∧chkL dts (v+1)=chkL (dts.drop i) (v+1) ∧
       Own w m wr m [.obj w.heap.size 68 #[.int .i64 k,.int .i64 n,.string s,.slice ai its.length ci,.slice am dts.length cm]]) ?_ ?_
      ·exact⟨_,0,zC _,rfl,rfl,rfl,HO.out⟩
      clear HO q3 q5;rintro X z q vs wr hX - ⟨i,hi,rfl,rfl,hch,hO⟩;simp[litL,lk];have q4:=hO.obj.c 4;have q5:=hO.obj.lt;by_cases hlt:i<dts.length
      ·obtain⟨b,off,rfl,h4,h5⟩:=HM3.out (by intro h;simp[h] at hlt);obtain⟨xi,xm,c,hx⟩:=h4 i hlt;obtain⟨xa,xc,xb,xe,rfl,rfl⟩:=hx.slices;have r0:=Mem.ak hO.inn (h5 i zo).1;have r1:=Mem.ak hO.inn c.k;have r2:=Mem.ak hO.inn c.n;have r3:=Mem.ak hO.inn c.s;have r4:=Mem.ak hO.inn c.i;have r5:=Mem.ak hO.inn c.m;have rl:=Mem.ay hO.inn c.k;have HS:=zh (x8 dts (v+1) i hlt);have hcx:=HBN.out.2 i hlt;have HX:=zh (qw f (v+1) zo _ _ dts[i] m _ hO.inn hx hcx);have HO2:=zh hO;have HC:=zh hch;clear h4 h5 c hch hO hx hcx r0;generalize dts[i]=x at *
       unfold Dt.val at HX;generalize hk0:x.kind=xk at *
       generalize hn0:x.num=xn at *
       generalize hs0:x.str=xs at *
       clear hk0 hn0 hs0
       go_wp2_with fail
       refine HX.out.mono ?_;rintro e w4 ⟨rfl,hb4⟩;have HO3:=zh (HO2.out.move hb4);clear HX HO2 hb4 r1 r2 r3 r4 r5 rl q4 q5;by_cases he:chkD x (v+1)=0
       ·rw[he];have HS2:=zh (show chkL (dts.drop i) (v+1)=chkL (dts.drop (i+1)) (v+1) by rw[HS.out];simp[he]);clear he HS;go_wp2;exact hX.out _ _ _ zo rfl ⟨i+1,zo,rfl,rfl,HC.out.trans HS2.out,HO3.out⟩
       ·have HS2:=zh (show CHK=chkD x (v+1) by rw[HE4.out,HC.out,HS.out];simp[he]);have hne:(chkD x (v+1) != 0)=true:=by simpa using he
        clear he HS;generalize chkD x (v+1)=ex at *
        go_wp2;exact hR.out _ _ ⟨by rw[HS2.out];rfl,HO3.out.below⟩
      ·have HC:=zh (show CHK=0 by rw[HE4.out,hch,zO zo];rfl);have HB:=zh hO.below;clear hO hch;go_wp2;exact hR.out _ _ ⟨by rw[HC.out];rfl,HB.out⟩
theorem nP (vi vm:Value) (d:Dt) (m:Mem) (w:World) (hm:m.inn w) (hd:DtAt m vi vm d) (hc:cnt d≤1000000) :
 Calls Tryz.prog 96 #[d.val vi vm] w fun e w'=>e=.returned (.int .i64 (chkD d 1))∧Below w.heap.size w w':=by
 have hO:=(Own.start hm).al #[.int .i64 d.kind,.int .i64 d.num,.string d.str,vi,vm] 68;have HC:=zh (qw 16 1 rfl vi vm d m _ hO.inn hd hc);have HO:=zh hO;obtain⟨ai,ci,am,cm,rfl,rfl⟩:=hd.slices;unfold Dt.val at HC ⊢;clear hO hd;refine aj fun R hR=>?_
 go_enter Tryz.func96,Tryz.ntmps96
 go_wp2_with fail
 refine HC.out.mono ?_;rintro e w1 ⟨rfl,hb1⟩;have HB:=zh (HO.out.move hb1).below;clear HC HO hb1;go_wp2;exact hR.out _ _ ⟨rfl,HB.out⟩
theorem uE (vi vm:Value) (d:Dt) (m:Mem) (w:World) (hm:m.inn w) (hd:DtAt m vi vm d) (hc:cnt d≤1000000) :
 Calls Tryz.prog 94 #[d.val vi vm] w fun e w'=>e=.returned (.bool (decide (chkD d 1=0)))∧Below w.heap.size w w':=by
 have hO:=(Own.start hm).al #[.int .i64 d.kind,.int .i64 d.num,.string d.str,vi,vm] 68;have HC:=zh (nP vi vm d m _ hO.inn hd hc);have HO:=zh hO;obtain⟨ai,ci,am,cm,rfl,rfl⟩:=hd.slices;unfold Dt.val at HC ⊢;clear hO hd;refine aj fun R hR=>?_
 go_enter Tryz.func94,Tryz.ntmps94
 go_wp2_with fail
 refine HC.out.mono ?_;rintro e w1 ⟨rfl,hb1⟩;have HB:=zh (HO.out.move hb1).below;clear HC HO hb1;go_wp2;exact hR.out _ _ ⟨rfl,HB.out⟩
theorem kW (s t:Int):Lib.compareInt s t=0↔s=t:=by
 have hc:Lib.compareInt s t=if s<t then -1 else if t<s then 1 else 0:=by unfold Lib.compareInt;rfl
 rw[hc]
 split
 ·simp;omega
 ·split
  ·simp;omega
  ·simp;omega
theorem K9 {a b:ByteArray}:a.data.toList=b.data.toList↔a=b:=by
 constructor
 ·intro h;obtain⟨⟨x⟩⟩:=a;obtain⟨⟨y⟩⟩:=b;simpa using h
 ·rintro rfl;rfl
theorem Jg {d:Dt} {e:El} (hd:dtEl d=some e):chkD d 1=0:=by
 unfold dtEl at hd;by_cases h:chkD d 1=0
 ·exact h
 ·rw[zI h] at hd;cases hd
theorem NG {x:Dt} (h:chkD x 1≠0):dtEl x=none:=by unfold dtEl;rw[zI h]
theorem Av (a b:Int) (w:World):Calls Tryz.prog 122 #[.int .i64 a,.int .i64 b] w fun e w'=>e=.returned (.int .i64 (Lib.compareInt a b))∧w'=w:=by
 refine aj fun R hR=>?_;have hc:Lib.compareInt a b=if a<b then -1 else if b<a then 1 else 0:=by unfold Lib.compareInt;rfl
 rw[hc] at hR;clear hc
 go_enter Tryz.func122,Tryz.ntmps122
 go_wp2
 ·exact hR.out _ _ ⟨dB (by rw[zI zo]),rfl⟩
 ·exact hR.out _ _ ⟨dB (by rw[zH zo,zI zo]),rfl⟩
 ·exact hR.out _ _ ⟨dB (by rw[zH zo,zH zo]),rfl⟩
theorem J7 (s t:ByteArray) (w:World):Calls Tryz.prog 153 #[.string s,.string t] w fun e w'=>(∃c:Int,e=.returned (.int .i64 c)∧(c=0↔s=t))∧w'=w:=by
 refine aj fun R hR=>?_
 go_enter Tryz.func153,Tryz.ntmps153
 go_wp2
 ·have h:Op.bytesLess s.toList t.toList=true:=zA;exact hR.out _ _ ⟨⟨-1,rfl,by simp;rintro rfl;rw[Fj] at h;cases h⟩,rfl⟩
 ·have h2:(!s.toList==t.toList)=true:=zA;have h2:¬ s.toList=t.toList:=by simpa using h2
  exact hR.out _ _ ⟨⟨1,rfl,by simp;rintro rfl;exact h2 rfl⟩,rfl⟩
 ·have h2:(!s.toList==t.toList)=false:=zA;have h2:s.toList=t.toList:=by simpa using h2
  exact hR.out _ _ ⟨⟨0,rfl,by simp;exact K9.1 (by rw[ByteArray.toList_eq,ByteArray.toList_eq] at h2;exact h2)⟩,rfl⟩
structure Alike (kx nx kd nd:Int) (sx sd:ByteArray):Prop where
 k:1≤kd∧kd≤4
 n:kx=kd→kd=1∨kd=4→nx=nd
 s:kx=kd→kd≠4→sx=sd
theorem Qd {x d:Dt} {e:El} (hd:dtEl d=some e) (hx:chkD x 1=0):Alike x.kind x.num d.kind d.num x.str d.str:=by
 have hc:=Jg hd;obtain⟨h1,-,-⟩:=kL (qM hx);obtain⟨a1,a2,a3,a4,a5⟩:=oO h1;obtain⟨h2,-,-⟩:=kL (qM hc);obtain⟨b1,b2,b3,b4,b5⟩:=oO h2;have hk2:d.kind≠5∧d.kind≠6:=by
  unfold dtEl at hd;rw[zH (by simpa using hc)] at hd;constructor <;> intro h <;> simp[h] at hd
 refine ⟨zo,fun e h=>zo,fun e h=>?_⟩;have e1:=a3.resolve_left zo;have e2:=b3.resolve_left zo;have:∀s:ByteArray,s.size=0→s=⟨#[]⟩:=fun s h=>by
  obtain⟨⟨l⟩⟩:=s
  cases l with
  | nil=>rfl
  | cons a l=>simp[ByteArray.size] at h
 rw[this _ e1,this _ e2]
theorem wI (kx nx kd nd:Int) (sx sd:ByteArray) (xi xm di dm:Option Addr) (l1 c1 l2 c2 l3 c3 l4 c4:Nat) (w:World) (hA:Alike kx nx kd nd sx sd) :
 Calls Tryz.prog 95 #[.agg #[.int .i64 kx,.int .i64 nx,.string sx,.slice xi l1 c1,.slice xm l2 c2],.agg #[.int .i64 kd,.int .i64 nd,.string sd,.slice di l3 c3,.slice dm l4 c4]] w fun e w'=>(∃c:Int,e=.returned (.int .i64 c)∧(c=0↔kx=kd∧nx=nd∧sx=sd))∧Below w.heap.size w w':=by
 have HI:=zh (fun w'=>Av kx kd w');have HN:=zh (fun w'=>Av nx nd w');have HS:=zh (fun w'=>J7 sx sd w');have hb:Below w.heap.size w ((w.alloc (.cells #[.int .i64 kx,.int .i64 nx,.string sx,.slice xi l1 c1,.slice xm l2 c2] 68)).alloc (.cells #[.int .i64 kd,.int .i64 nd,.string sd,.slice di l3 c3,.slice dm l4 c4] 68)):=aR (aR (zP _ _) _) _;have HB:=zh hb;clear hb;refine aj fun R hR=>?_;by_cases hk:kx=kd
 ·have hkd:(kx != kd)=false:=by simp[hk]
  have HA:=zh hA;have HK:=zh hk;rcases (show kd=1∨kd=2∨kd=3∨kd=4 by have:=hA.k;omega) with h | h | h | h
  ·subst h;subst hk;clear hA HI HN HS
   go_enter Tryz.func95,Tryz.ntmps95
   go_wp2;exact hR.out _ _ ⟨⟨0,rfl,by simp[HA.out.n rfl (.inl rfl),HA.out.s rfl zD]⟩,HB.out⟩
  ·subst h;subst hk;clear hA HI HS
   go_enter Tryz.func95,Tryz.ntmps95
   go_wp2_with fail
   refine (HN.out _).mono ?_;rintro e w1 ⟨rfl,rfl⟩;have HC:=zh (kW nx nd);generalize Lib.compareInt nx nd=c at *
   clear HN;go_wp2;exact hR.out _ _ ⟨⟨c,rfl,by rw[HC.out];simp[HA.out.s rfl zD]⟩,HB.out⟩
  ·subst h;subst hk;clear hA HI HS
   go_enter Tryz.func95,Tryz.ntmps95
   go_wp2_with fail
   refine (HN.out _).mono ?_;rintro e w1 ⟨rfl,rfl⟩;have HC:=zh (kW nx nd);generalize Lib.compareInt nx nd=c at *
   clear HN;go_wp2;exact hR.out _ _ ⟨⟨c,rfl,by rw[HC.out];simp[HA.out.s rfl zD]⟩,HB.out⟩
  ·subst h;subst hk;clear hA HI HN
   go_enter Tryz.func95,Tryz.ntmps95
   go_wp2_with fail
   refine (HS.out _).mono ?_;rintro e w1 ⟨⟨c,rfl,hc⟩,rfl⟩;have HC:=zh hc;clear HS hc;go_wp2;exact hR.out _ _ ⟨⟨c,rfl,by rw[HC.out];simp[HA.out.n rfl (.inr rfl)]⟩,HB.out⟩
 ·have hkd:(kx != kd)=true:=by simp[hk]
  have HK:=zh hk;clear hA HN HS hk
  go_enter Tryz.func95,Tryz.ntmps95
  go_wp2_with fail
  refine (HI.out _).mono ?_;rintro e w1 ⟨rfl,rfl⟩;have HC:=zh (kW kx kd);generalize Lib.compareInt kx kd=c at *
  clear HI;go_wp2;exact hR.out _ _ ⟨⟨c,rfl,by rw[HC.out];simp[HK.out]⟩,HB.out⟩
theorem je (vi vm ui um:Value) (x d:Dt) (e0:El) (m:Mem) (w:World) (hm:m.inn w) (hx:DtAt m vi vm x) (hd:DtAt m ui um d) (hc:cnt x≤1000000) (hc2:cnt d≤1000000) (he:dtEl d=some e0) :
 Calls Tryz.prog 50 #[x.val vi vm,d.val ui um] w fun e w'=>e=.returned (.bool (tf (dtEl x=some e0)))∧Below w.heap.size w w':=by
 have hO:=((Own.start hm).al #[.int .i64 x.kind,.int .i64 x.num,.string x.str,vi,vm] 68).al #[.int .i64 d.kind,.int .i64 d.num,.string d.str,ui,um] 68;simp only[bZ] at hO;have HX:=zh (fun w' (h:m.inn w')=>uE vi vm x m w' h hx hc);have HD:=zh (fun w' (h:m.inn w')=>uE ui um d m w' h hd hc2);have hcd:=Jg he;rw[zL hcd] at HD;obtain⟨xa,xc,xm,xe,rfl,rfl⟩:=hx.slices;obtain⟨da,dc,dm,de,rfl,rfl⟩:=hd.slices;have HC:=zh (fun w' (h:chkD x 1=0)=>wI x.kind x.num d.kind d.num x.str d.str xa xm da dm x.items.length xc x.bK.length xe d.items.length dc d.bK.length de w' (Qd he h));have HE:=zh (zi (fun (h:chkD x 1≠0)=>NG h) (fun (h:chkD x 1=0)=>Re he h));unfold Dt.val at HX HD HC ⊢;have HO:=zh hO;clear hO hx hd hc hc2 he hcd;generalize chkD x 1=cx at *
 generalize dtEl x=ex at *
 generalize x.kind=kx at *
 generalize x.num=nx at *
 generalize x.str=sx at *
 generalize d.kind=kd at *
 generalize d.num=nd at *
 generalize d.str=sd at *
 refine aj fun R hR=>?_
 go_enter Tryz.func50,Tryz.ntmps50
 go_wp2_with fail
 refine (HX.out _ HO.out.inn).mono ?_;rintro e w1 ⟨rfl,hb1⟩;have hO:=HO.out.move hb1;clear HO hb1 HX;by_cases h0:cx=0
 ·have q0:=hO.obj.c 0;have q1:=hO.obj.c 1;have q2:=hO.obj.c 2;have q3:=hO.obj.c 3;have q4:=hO.obj.c 4;have q5:=hO.obj.lt;have HO:=zh hO;have HE2:=zh (HE.out.2 h0);have HC2:=zh (fun w'=>HC.out w' h0);rw[zL h0];clear hO HE HC h0
  go_wp2_with fail
  refine (HD.out _ HO.out.inn).mono ?_;rintro e w2 ⟨rfl,hb2⟩;have hO:=HO.out.move hb2;clear q0 q1 q2 q3 q4 q5 HO HD hb2;obtain⟨q0,q1,q2,q3,q4⟩:=hO.obj.cs5;have q5:=hO.obj.lt;obtain⟨p0,p1,p2,p3,p4⟩:=hO.swap.obj.cs5;have p5:=hO.swap.obj.lt;have HO:=zh hO;clear hO
  go_wp2_with fail
  refine (HC2.out _).mono ?_;rintro e w3 ⟨⟨cd,rfl,hcd⟩,hb3⟩;have HCD:=zh hcd;clear hcd;have HB:=zh (HO.out.move hb3).below;clear q0 q1 q2 q3 q4 q5 p0 p1 p2 p3 p4 p5 HO hb3 HC2;go_wp2;refine hR.out _ _ ⟨aL ?_,HB.out⟩;by_cases h:cd=0
  ·rw[aN (HE2.out.2 (HCD.out.1 h))];simp[h]
  ·rw[aK (fun h2=>h (HCD.out.2 (HE2.out.1 h2)))];simp[h]
 ·have HB:=zh hO.below;have HE2:=zh (HE.out.1 h0);rw[zK h0];clear hO HE HC h0 HD;go_wp2;exact hR.out _ _ ⟨aL (by rw[aK (by rw[HE2.out];exact fun h=>nomatch h)]),HB.out⟩
end Cl
