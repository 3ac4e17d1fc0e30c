/- Lemmas for the proofs of chapter 11. -/
import Derived.Test.YtjhipmdamaocmaaGreatDoorPkN10
import Derived.Test.YtjhipmdamaocmaaGreatDoorPkN9
import Derived.Test.YtjhipmdamaocmaaGreatDoorPkN11
set_option maxRecDepth 100000
set_option maxHeartbeats 16000000
namespace Cl
open Go Go.RowKit Go.Proofs
attribute [local go_sem] Oper.semAt_some
theorem pE {F:Fence} {d:Nat} {P:Program} {t e:TypeId} {size bytes:Nat} (S:gL P t e size bytes) {w:World} {ops:Array Oper} {rest:List Oper} {o:Oper} {a:Act} {Q:Exit→Act→World→Prop} (hgd:o.guard=none) (s x:Operand)
 (ho:o.op=.call { callee:=.builtin .append,args:=#[s,x],argTypes:=#[t,t] })
 (v:Value) (n:Nat) (xs:List Value) (hs:a.eval s=v) (hown:w.ownsRow 0 e size v n xs)
 (ad:Addr) (m c:Nat) (news:List Value) (hx:a.eval x=.slice (some ad) m c) (hl:news.length=m*size) (hnews:∀j u,news[j]?=some u→w.cell? (ad.add j)=some u) (h1:∀u∈news,u.oneCell'=true)
 (h63:n+m≤maxLen) (hbytes:(n+m)*bytes≤140737488355328)
 (h:∀va vc w',w'.ownsRow 0 e size (.slice va (n+m) vc) (n+m) (xs ++ news)→w.grownBy w' v.ownBlock→(∀k,(Value.slice va (n+m) vc).ownBlock=some k→v.ownBlock=some k∨w.heap.size≤k)→wpListIn F d P ops Q rest (a.put o.dst (.slice va (n+m) vc)) w'):wpListIn F d P ops Q (o::rest) a w:=by
 refine wpListIn_plain hgd fun K hK=>?_;obtain⟨v',w',hr,h2,h3,h4⟩:=iR S w o.type v n xs hown ad m c news hl hnews h1 h63 hbytes;obtain⟨va,vc,rfl⟩:=aM h2;refine ⟨?_,?_⟩
 ·simp[Oper.about,ho,resolve,Target.leads,Sem.run_pure]
 ·rw[Oper.semAt_plain F _ _ (by rw[ho];intro c hc';cases hc')];simp[execOp,ho,resolve,invoke,builtin,hs,hx,hr,Result.andThen];exact hK _ _ (h va vc w' h2 h3 h4)
def encY (x:Spn):Array Value:=#[.agg #[.int .i64 x.1,.int .i64 x.2]]
theorem Ny {y gl ga gp gn pf nf:Nat} {nx pv:Int→Int} (hN:oz nf nx) (hP:oz pf pv) {w0:World} {m mk:Mem} {B Bx:List Spn→List Item→Prop} {va:Value} {L1:List Item} {W:World} {l:List Spn} {lo hi:Int}
 (hY:CO Tryz.prog y encY w0 m mk (fun pre x=>pre ++ [x] <+: gD nx pv l lo hi) B Bx) (hBx:∀pre Lt,¬ Bx pre Lt) (cl:mk.cell gl 0=some va) (hl:bM mk va l) (ca:mk.cell ga 0=some (.int .i64 lo)) (cb:mk.cell ga 1=some (.int .i64 hi))
 (cp:mk.cell gp 0=some (.func (.func pf) #[] #[])) (cn:mk.cell gn 0=some (.func (.func nf) #[] #[])) (hin:∀s∈l,spIn s) (_:l.length≤1000000) (hB:B [] L1) (hO:Own w0 m W mk L1) :
 Calls Tryz.prog 313 #[.func (.yield y) #[] #[],.pointer (some ⟨ga,0,none⟩),.pointer (some ⟨gl,0,none⟩),.pointer (some ⟨gp,0,none⟩),.pointer (some ⟨gn,0,none⟩)] W
  (Jv w0 m mk B Bx (fun xs=>xs=gD nx pv l lo hi) (fun _=>False)):=by
 have HX:=zh (zi hY (zi hBx (zi cl (zi hl (zi ca (zi cb (zi cp (zi cn hin))))))));have c1:=Mem.ak hO.inn ca;have c2:=Mem.ay hO.inn ca;have c3:=Mem.ak hO.inn cl;have c4:=Mem.ay hO.inn cl;obtain⟨aa,ac,rfl,a1,a2,a3⟩:=hl;unfold maxLen at a2;have HO:=zh (zi hO hB);refine aj fun R hR=>?_;clear hO hB hY hBx cl ca cb cp cn hin
 go_enter Tryz.func313,Tryz.ntmps313
 go_wp2;refine au [0,1,3,4,6,13,14,15] (fun q vs W1=>∃(k:Nat) (lo':Int) (pre:List Spn) (mk1:Mem) (Lt:List Item),k≤l.length∧q=l.length - k∧vs=[.func (.yield y) #[] #[],.pointer (some ⟨ga,0,none⟩),.pointer (some ⟨gp,0,none⟩),.pointer (some ⟨gn,0,none⟩),.int .i64 lo',.slice aa l.length ac,.int .i64 l.length,.int .i64 k] ∧
  pre ++ gD nx pv (l.drop k) lo' hi=gD nx pv l lo hi∧B pre Lt∧Own w0 m W1 mk1 Lt∧mk.le mk1) ?_ ?_
 ·exact⟨_,0,lo,[],mk,L1,zC _,rfl,rfl,rfl,HO.out.2,HO.out.1,Mem.le_refl _⟩
 clear HO c1 c2 c3 c4;rintro X z q vs W1 hX - ⟨k,lo',pre,mk1,Lt,hk,rfl,rfl,hg,hB,hO,hle⟩;simp[litL,lk];have c1:=Mem.ak hO.inn (Mem.aB hle HX.out.2.2.2.2.1);have c2:=Mem.ay hO.inn (Mem.aB hle HX.out.2.2.2.2.1);by_cases hlt:k<l.length
 ·obtain⟨b,off,rfl,h4⟩:=a3 (by intro h;simp[h] at hlt);have hgk:=h4 k hlt;have hin:=Mem.cK hle hO.inn;have r1:=Mem.ak hin hgk.1;have r2:=Mem.ak hin hgk.2.1;have rl:=Mem.ay hin hgk.1;have c5:=Mem.ak hO.inn (Mem.aB hle HX.out.2.2.2.2.2.2.1);have c6:=Mem.ay hO.inn (Mem.aB hle HX.out.2.2.2.2.2.2.1);have hsp:=HX.out.2.2.2.2.2.2.2.2 l[k] (zB hlt);have hst:=KL nx pv l k hlt lo' hi;rw[hst] at hg;have HG:=zh (zi hg (zi hB hle));clear hg hB hst h4 hgk hin;generalize l[k]=s at *
  obtain⟨qa,qb⟩:=s;simp only at r1 r2;unfold spIn at hsp;simp only at hsp;have hcp:=fun w'=>hP.ent.out qa w';have hcn:=fun w'=>hN.ent.out qb w';have HO2:=zh (hO.al #[.int .i64 qa,.int .i64 qb] 153);clear hO
  go_wp2_with fail
  refine (hP.run qa _ zo zo).mono ?_;rintro e w2 ⟨rfl,hb2⟩;generalize hW2:W1.alloc (.cells #[.int .i64 qa,.int .i64 qb] 153)=w5 at *
  generalize W1.heap.size=S at *
  have hO3:=HO2.out.move hb2;have s1:=hO3.obj.c 0;have s2:=hO3.obj.c 1;have s3:=hO3.obj.lt;have HO3:=zh hO3;have HOn:=zh (hO3.al #[.int .i64 lo',.int .i64 (pv qa)] 153);clear HO2 hW2 hb2 c5 c6 r1 r2 rl hO3
  go_upto_region 5 with (fail)
  generalize hW3:w2.alloc (.cells #[.int .i64 lo',.int .i64 (pv qa)] 153)=w6 at *
  generalize w2.heap.size=G at *
  refine aI [0,1,3,4,6,8,13,14,15,35] (fun vs w'=>∃(mk2:Mem) (Lt2:List Item),vs=[.func (.yield y) #[] #[],.pointer (some ⟨ga,0,none⟩),.pointer (some ⟨gp,0,none⟩),.pointer (some ⟨gn,0,none⟩),.int .i64 lo',.pointer (some ⟨S,0,none⟩),.slice (some ⟨b,off,none⟩) l.length ac,.int .i64 l.length,.int .i64 k,.bool false] ∧
   B (pre ++ if lo'≤pv qa then [(lo',pv qa)] else []) Lt2∧Own w0 m w' mk2 (.obj S 153 #[.int .i64 qa,.int .i64 qb]::Lt2)∧mk.le mk2) ?_ ?_
  ·intro V hV;have d1:=HOn.out.obj.c 0;have d2:=HOn.out.obj.c 1;have d3:=HOn.out.obj.lt;by_cases hd:lo'≤pv qa
   ·have hdec:decide (lo'≤pv qa)=true:=zL hd;obtain⟨fn,tmps,assign,body,hy,hRR⟩:=HX.out.1 pre (lo',pv qa) w6 mk1 Lt [.obj S 153 #[.int .i64 qa,.int .i64 qb]] ⟨gD nx pv (l.drop (k+1)) (nx qb) hi,by rw[← HG.out.1,zI hd,List.append_assoc]⟩ HG.out.2.1 (HOn.out.tail.perm (List.perm_append_singleton _ _)) HG.out.2.2;simp only[encY] at hy;have Hd:=zh hd;clear hd;refine (wpIn_wide (n:=0)).1 ?_
    gi_wp2
    refine ⟨rfl,hRR.mono ?_⟩;rintro e W' (⟨rfl,mk',Lt',h1,h2,h3⟩ | ⟨rfl,mk',Lt',h1,h2,h3⟩)
    ·have Hk:=zh (zi h1 (zi (h2.perm (List.perm_append_singleton _ _).symm) h3));clear h1 h2 h3 d1 d2 d3
     gi_wp2
     refine hV.out _ _ rfl ⟨mk',Lt',rfl,?_,Hk.out.2.1,Mem.le_trans HG.out.2.2 Hk.out.2.2⟩;rw[zI Hd.out];exact Hk.out.1
    ·exact absurd h1 (HX.out.2.1 _ _)
   ·have hdec:decide (lo'≤pv qa)=false:=zK hd;have Hd:=zh hd;clear hd;go_wp2;refine hV.out _ _ rfl ⟨mk1,Lt,rfl,?_,HOn.out.tail,HG.out.2.2⟩;rw[zH (fun h=>absurd h (by have:=Hd.out;omega)),yM];exact HG.out.2.1
  rintro z4 vs w7 - ⟨mk2,Lt2,rfl,hB2,hO2,hle2⟩;simp[litL,lk];have c5:=Mem.ak hO2.inn (Mem.aB hle2 HX.out.2.2.2.2.2.2.2.1);have c6:=Mem.ay hO2.inn (Mem.aB hle2 HX.out.2.2.2.2.2.2.2.1);have s2:=hO2.obj.c 1;have s3:=hO2.obj.lt;have HO2:=zh (zi hO2 (zi hB2 hle2));clear hO2 hB2 hle2 HOn HO3 hW3 s1
  go_wp2_with fail
  refine (hN.run qb _ zo zo).mono ?_;rintro e w8 ⟨rfl,hb8⟩;have HO4:=zh (HO2.out.1.move hb8).tail;clear hb8 c5 c6 s2 s3;go_wp2;refine hX.out _ _ _ zo rfl ⟨k+1,nx qb,_,mk2,Lt2,zo,rfl,rfl,?_,HO2.out.2.1,HO4.out,HO2.out.2.2⟩;rw[List.append_assoc];exact HG.out.1
 ·obtain rfl:k=l.length:=zo;rw[zO (zG _)] at hg;simp only[gD] at hg;have c3:=Mem.ak hO.inn (Mem.aB hle HX.out.2.2.2.2.2.1);have HG:=zh (zi hg (zi hB hle));have HO:=zh hO;have HOn:=zh (hO.al #[.int .i64 lo',.int .i64 hi] 153);clear hg hB hO;by_cases hd:lo'≤hi
  ·have hdec:decide (lo'≤hi)=true:=zL hd;have Hd:=zh hd;clear hd
   go_upto_region 10 with (fail)
   generalize hW3:W1.alloc (.cells #[.int .i64 lo',.int .i64 hi] 153)=w6 at *
   generalize W1.heap.size=G at *
   obtain⟨fn,tmps,assign,body,hy,hRR⟩:=HX.out.1 pre (lo',hi) w6 mk1 Lt [] ⟨[],by rw[← HG.out.1,zI Hd.out,yM]⟩ HG.out.2.1 (by rw[yM];exact HOn.out.tail) HG.out.2.2;simp only[encY] at hy;have d1:=HOn.out.obj.c 0;have d2:=HOn.out.obj.c 1;have d3:=HOn.out.obj.lt;refine (wpIn_wide (n:=0)).1 ?_
   gi_wp2
   refine ⟨rfl,hRR.mono ?_⟩;rintro e W' (⟨rfl,mk',Lt',h1,h2,h3⟩ | ⟨rfl,mk',Lt',h1,h2,h3⟩)
   ·rw[yM] at h2;have Hk:=zh (zi h1 (zi h2 h3));clear h1 h2 h3 d1 d2 d3
    gi_wp2
    refine yQ (v:=.tuple #[]) (by simp[results,Tryz.results313,go_sem]) rfl ?_;refine hR.out _ _ ⟨⟨_,rfl⟩,.inl ⟨_,mk',Lt',?_,Hk.out.1,Hk.out.2.1,Mem.le_trans HG.out.2.2 Hk.out.2.2⟩⟩;rw[← HG.out.1,zI Hd.out]
   ·exact absurd h1 (HX.out.2.1 _ _)
  ·have hdec:decide (lo'≤hi)=false:=zK hd;have Hd:=zh hd;clear hd;go_wp2;refine yQ (v:=.tuple #[]) (by simp[results,Tryz.results313,go_sem]) rfl ?_;refine hR.out _ _ ⟨⟨_,rfl⟩,.inl ⟨pre,mk1,Lt,?_,HG.out.2.1,HOn.out.tail,HG.out.2.2⟩⟩;rw[← HG.out.1,zH (fun h=>absurd h (by have:=Hd.out;omega)),yM]
theorem Q7 (a:Option Addr) (n c:Nat) (lo hi:Int) (pf nf:Nat) (w:World) :
 Calls Tryz.prog 282 #[.slice a n c,.agg #[.int .i64 lo,.int .i64 hi],.func (.func nf) #[] #[],.func (.func pf) #[] #[]] w fun e w'=>
  e=.returned (.func (.func 313) #[] #[.pointer (some ⟨w.heap.size+1,0,none⟩),.pointer (some ⟨w.heap.size,0,none⟩),.pointer (some ⟨w.heap.size+1+1+1,0,none⟩),.pointer (some ⟨w.heap.size+1+1,0,none⟩)]) ∧
  w'=(((w.alloc (.cells #[.slice a n c] 22)).alloc (.cells #[.int .i64 lo,.int .i64 hi] 153)).alloc (.cells #[.func (.func nf) #[] #[]] 183)).alloc (.cells #[.func (.func pf) #[] #[]] 183):=by
 refine aj fun R hR=>?_
 go_enter Tryz.func282,Tryz.ntmps282
 go_wp2;exact hR.out _ _ ⟨rfl,rfl⟩
theorem ER:∀args w,(callFunc 313 args).run Tryz.prog w=.ok (.enter 313 args) w:=enters_of Tryz.func313 zk rfl
theorem rT (nx pv:Int→Int):∀(l:List Spn) (lo hi:Int),(gD nx pv l lo hi).length≤l.length+1
 | [],lo,hi=>by unfold gD;split <;> simp
 | s::r,lo,hi=>by
  have:=rT nx pv r (nx s.2) hi;unfold gD
  split <;> simp <;> omega
theorem Ae {gl ga gp gn pf nf:Nat} {nx pv:Int→Int} (hN:oz nf nx) (hP:oz pf pv) {m:Mem} {w:World} {va:Value} {l:List Spn} {lo hi:Int} (hm:m.inn w)
 (cl:m.cell gl 0=some va) (hl:bM m va l) (ca:m.cell ga 0=some (.int .i64 lo)) (cb:m.cell ga 1=some (.int .i64 hi))
 (cp:m.cell gp 0=some (.func (.func pf) #[] #[])) (cn:m.cell gn 0=some (.func (.func nf) #[] #[])) (hin:∀s∈l,spIn s) (hlen:l.length≤1000000) (hok:∀s∈gD nx pv l lo hi,spOk s) :
 Calls Tryz.prog 312 #[.slice none 0 0,.func (.func 313) #[] #[.pointer (some ⟨ga,0,none⟩),.pointer (some ⟨gl,0,none⟩),.pointer (some ⟨gp,0,none⟩),.pointer (some ⟨gn,0,none⟩)]] w fun e w'=>
  ∃r,e=.returned r∧Below w.heap.size w w'∧bM (m.grow w w') r (gD nx pv l lo hi):=by
 have hO:=((Own.start hm).al #[.slice none 0 0] 22).dI 153 2;have hgl:=rT nx pv l lo hi;have HS:=zh (zi hO (zi cl (zi hl (zi ca (zi cb (zi cp (zi cn (zi hin hok))))))));clear hO cl hl ca cb cp cn hin hok;generalize hG:w.heap.size=g at *
 refine aj fun R hR=>?_;refine (callsIn_wide (n:=0)).1 ?_;refine callsIn_of_wp_marks Tryz.func312 rfl trivial ?_;simp only[Tryz.ntmps312,List.size_toArray,yJ,List.length_nil,Nat.reduceAdd,Nat.reduceSub,Array.replicate_succ,Array.replicate_zero,List.push_toArray,List.append_toArray,List.nil_append,List.cons_append];refine wpIn_wide.2 ?_;go_wp2;refine (wpIn_wide (n:=0)).1 ?_;refine CX (gf:=313) (lb:=#[.pointer (some ⟨ga,0,none⟩),.pointer (some ⟨gl,0,none⟩),.pointer (some ⟨gp,0,none⟩),.pointer (some ⟨gn,0,none⟩)]) rfl ER (encs:=encY) (fun _=>rfl) HS.out.1
  (fun pre L=>∃v,L=[.row v 153 2 pre.length (aS pre),.obj g 22 #[v]]) (fun _ _ _=>False) (fun xs=>xs=gD nx pv l lo hi) (fun _=>False) (fun pre x=>pre ++ [x] <+: gD nx pv l lo hi) ⟨_,rfl⟩ ?seq
  (fun pre x a1 L=>∃(S:Nat) (v:Value),a1={ tmps:=#[.slice none 0 0,.func (.func 313) #[] #[.pointer (some ⟨ga,0,none⟩),.pointer (some ⟨gl,0,none⟩),.pointer (some ⟨gp,0,none⟩),.pointer (some ⟨gn,0,none⟩)],.pointer (some ⟨g,0,none⟩),undef,.slice none 0 0,.pointer (some ⟨S,0,none⟩),.func (.func 313) #[] #[.pointer (some ⟨ga,0,none⟩),.pointer (some ⟨gl,0,none⟩),.pointer (some ⟨gp,0,none⟩),.pointer (some ⟨gn,0,none⟩)],.agg #[.int .i64 x.1,.int .i64 x.2],undef,undef,undef,undef,undef],defers:=[] } ∧
   L=[.obj S 153 #[.int .i64 x.1,.int .i64 x.2],.row v 153 2 pre.length (aS pre),.obj g 22 #[v]]) ?assign ?body ?done ?stop
 case seq=>
  intro y W1 L1 B Bx hB hBI hBx hOw hY;exact Ny hN hP hY (fun pre Lt h=>(hBx pre Lt h).elim fun c h=>h.elim fun L h=>h) HS.out.2.1 HS.out.2.2.1 HS.out.2.2.2.1 HS.out.2.2.2.2.1 HS.out.2.2.2.2.2.1 HS.out.2.2.2.2.2.2.1 HS.out.2.2.2.2.2.2.2.1 hlen hB hOw
 case assign=>
  rintro y pre x W mk1 Lt Lr K - ⟨v,rfl⟩ hOw hle hK;have hO2:=hOw.al #[.int .i64 x.1,.int .i64 x.2] 153;have HK:=zh (hK _ _ _ ⟨_,v,rfl,rfl⟩ hO2);clear hK hO2 hOw;simp only[encY]
  gi_wp2
  exact HK.out
 case body=>
  rintro y pre x a1 W mk1 Lt Lr hC ⟨S,v,rfl,rfl⟩ hOw hle;simp only[List.cons_append,List.nil_append] at hOw;obtain⟨xa,xc,rfl⟩:=aM hOw.swap.row;have hpl:pre.length+1≤1000001:=by
   have h1:=hC.length_le;rw[zJ,List.length_singleton] at h1;omega
  have o1:=hOw.third.obj.c 0;have o2:=hOw.third.obj.lt;have o3:=hOw.third.obj.frozen 0;have s1:=hOw.obj.c 0;have s2:=hOw.obj.c 1;have s3:=hOw.obj.lt;have hO2:=(hOw.tail.al #[.int .i64 x.1,.int .i64 x.2] 153).swap;have hnews:=hO2.swap.obj.news rfl;clear hOw hC
  gi_wp2_with (gi_at_builtin;refine pE eX rfl (.tmp 8) (.tmp 10) rfl (.slice xa pre.length xc) pre.length (aS pre) rfl hO2.row ⟨W.heap.size,0,none⟩ 1 1 [.int .i64 x.1,.int .i64 x.2] rfl rfl hnews (by simp[Value.oneCell']) (by unfold maxLen;omega) zo ?_)
  intro ya yc w5 hown5 hgrow5 hrow5;have hO3:=(hO2.app hown5 hgrow5 hrow5 zS).drop2;have t1:=hO3.swap.obj.c 0;have t2:=hO3.swap.obj.lt;have t3:=hO3.swap.obj.frozen 0;have hO4:=(hO3.swap.set 0 (.slice ya (pre.length+1) yc)).swap;have HO4:=zh hO4;clear hO4 hO3 hO2 hown5 hgrow5 hrow5 hnews o1 o2 o3 s1 s2 s3
  gi_wp2
  unfold vQ;refine ⟨mk1,_,⟨.slice ya (pre.length+1) yc,rfl⟩,?_,Mem.le_refl _⟩;rw[zJ,aX];exact HO4.out
 case done=>
  rintro D xs W mk1 L rfl ⟨v,rfl⟩ hOw hle;obtain⟨xa,xc,rfl⟩:=aM hOw.swap.row;have o1:=hOw.third.obj.c 0;have o2:=hOw.third.obj.lt;have hbl:=hOw.blob;have hO2:=hOw.swap;have hst:=cz (m:=mk1) (l:=gD nx pv l lo hi) hO2.row HS.out.2.2.2.2.2.2.2.2;have hO3:=hO2.bv;have hO4:=hO3.jm (o':=.deferred none) (World.putObj_heap_same (Array.getElem?_eq_some_iff.1 hbl).1) (grownBy_putObj' _ _ _);have hfin2:=aW hO4.done hst;have Hk:=zh (zi hO4.below hfin2);clear hO4 hO3 hO2 hOw hst hfin2
  gi_wp2
  go_wp2;refine ⟨zS,.inl ⟨_,_,rfl,run_takeDeferred hbl,?_⟩⟩;exact⟨.slice xa (gD nx pv l lo hi).length xc,by simp[results,Tryz.results312,go_sem],hR.out _ _ ⟨_,rfl,by rw[← hG];exact Hk.out.1,Hk.out.2⟩⟩
 case stop=>rintro D c xs W mk1 L h;exact h.elim
theorem NSok.inI {x:NS} (h:NSok x):∀s∈x.i,spIn s:=fun s hs=>by
 have h1:=h.bi s hs;have h2:=h.ni.ok s hs;unfold spIn;simp only[fG] at h1;omega
theorem NSok.inF {x:NS} (h:NSok x):∀s∈x.rf,spIn s:=fun s hs=>by
 obtain⟨t,ht,rfl⟩:=Qm hs;have h1:=h.bf t ht;have h2:=h.nf.ok t ht;have e1:(eH t).1=bL t.1:=rfl;have e2:(eH t).2=bL t.2:=rfl;unfold spIn;rw[e1,e2];unfold bL;simp only[jT,nX] at h1;omega
theorem fe {m:Mem} {w w':World} {g i:Nat} {v:Value} (hg:w.heap.size≤g) (h:w'.cell? ⟨g,i,none⟩=some v):(m.grow w w').cell g i=some v:=by
 have e:m.grow w w' g=w'.heap[g]?:=by unfold Mem.grow;rw[zH zo]
 unfold Mem.cell;rw[e];unfold World.cell? at h;simp only at h;exact h
def GapV (nf pf:Nat) (l:List Spn) (lo hi:Int) (M:Mem) (v:Value):Prop:=∃(ga gl gp gn:Nat) (va:Value),v=.func (.func 313) #[] #[.pointer (some ⟨ga,0,none⟩),.pointer (some ⟨gl,0,none⟩),.pointer (some ⟨gp,0,none⟩),.pointer (some ⟨gn,0,none⟩)] ∧
 M.cell gl 0=some va∧bM M va l∧M.cell ga 0=some (.int .i64 lo)∧M.cell ga 1=some (.int .i64 hi)∧M.cell gp 0=some (.func (.func pf) #[] #[])∧M.cell gn 0=some (.func (.func nf) #[] #[])
theorem GapV.le {nf pf:Nat} {l:List Spn} {lo hi:Int} {m m':Mem} (h:m.le m') {v:Value} (k:GapV nf pf l lo hi m v):GapV nf pf l lo hi m' v:=by
 obtain⟨ga,gl,gp,gn,va,e,h1,h2,h3,h4,h5,h6⟩:=k;exact⟨ga,gl,gp,gn,va,e,Mem.aB h h1,aW h h2,Mem.aB h h3,Mem.aB h h4,Mem.aB h h5,Mem.aB h h6⟩
theorem Ja (va:Value) (l:List Spn) (lo hi:Int) (pf nf:Nat) (m:Mem) (w:World) (hm:m.inn w) (hl:bM m va l) :
 Calls Tryz.prog 282 #[va,.agg #[.int .i64 lo,.int .i64 hi],.func (.func nf) #[] #[],.func (.func pf) #[] #[]] w fun e w'=>∃v,e=.returned v∧Below w.heap.size w w'∧GapV nf pf l lo hi (m.grow w w') v:=by
 obtain⟨a,c,rfl⟩:=bO hl;refine (Q7 a l.length c lo hi pf nf w).mono ?_;rintro e w' ⟨rfl,rfl⟩;have hO:=((((Own.start hm).al #[.slice a l.length c] 22).al #[.int .i64 lo,.int .i64 hi] 153).al #[.func (.func nf) #[] #[]] 183).al #[.func (.func pf) #[] #[]] 183;have e1:(w.alloc (.cells #[.slice a l.length c] 22)).heap.size=w.heap.size+1:=by simp
 have e2:((w.alloc (.cells #[.slice a l.length c] 22)).alloc (.cells #[.int .i64 lo,.int .i64 hi] 153)).heap.size=w.heap.size+1+1:=by simp
 have e3:(((w.alloc (.cells #[.slice a l.length c] 22)).alloc (.cells #[.int .i64 lo,.int .i64 hi] 153)).alloc (.cells #[.func (.func nf) #[] #[]] 183)).heap.size=w.heap.size+1+1+1:=by simp
 rw[e3,e2,e1] at hO;refine ⟨_,rfl,hO.below,_,_,_,_,_,rfl,fe (zG _) (hO.fourth.obj.c 0),aW (Mem.dF hm) hl,fe zo (hO.third.obj.c 0),fe zo (hO.third.obj.c 1),
  fe zo (hO.obj.c 0),fe zo (hO.swap.obj.c 0)⟩
theorem yz {nf pf:Nat} {nx pv:Int→Int} (hN:oz nf nx) (hP:oz pf pv) {v:Value} {l:List Spn} {lo hi:Int} (m:Mem) (w:World) (hm:m.inn w) (hg:GapV nf pf l lo hi m v) (hin:∀s∈l,spIn s) (hlen:l.length≤1000000) (hok:∀s∈gD nx pv l lo hi,spOk s) :
 Calls Tryz.prog 281 #[v] w fun e w'=>∃r,e=.returned r∧Below w.heap.size w w'∧bM (m.grow w w') r (gD nx pv l lo hi):=by
 obtain⟨ga,gl,gp,gn,va,rfl,h1,h2,h3,h4,h5,h6⟩:=hg;have HA:=zh (Ae hN hP hm h1 h2 h3 h4 h5 h6 hin hlen hok);clear h1 h2 h3 h4 h5 h6;refine aj fun R hR=>?_
 go_enter Tryz.func281,Tryz.ntmps281
 go_wp2_with fail
 refine HA.out.mono ?_;rintro e w' ⟨r,rfl,hb,hr⟩;have Hk:=zh (zi hb hr);obtain⟨a,c,rfl⟩:=bO hr;clear hb hr HA;go_wp2;exact hR.out _ _ ⟨_,rfl,Hk.out.1,Hk.out.2⟩
theorem Ca {m:Mem} {g:Nat} {lo hi:Int} (h1:m.cell g 0=some (.int .i64 lo)) (h2:m.cell g 1=some (.int .i64 hi)) (hk:spOk (lo,hi)):bM m (.slice (some ⟨g,0,none⟩) 1 1) [(lo,hi)]:=by
 refine ⟨some ⟨g,0,none⟩,1,rfl,zG _,by simp[maxLen],fun _=>⟨g,0,rfl,fun i hi'=>?_⟩⟩;have:i=0:=by simpa using hi'
 subst this;exact⟨h1,h2,hk⟩
def iw:List Spn:=[(-100000000000,100000000000)]
def uZ:List Spn:=[(-999999999999999,999999999999999)]
theorem Lp:allN.i=iw:=rfl
theorem PI:allN.rf=uZ:=by decide
theorem AV (m:Mem) (w:World) (hm:m.inn w) :
 Calls Tryz.prog 132 #[] w fun e w'=>∃ri,e=.returned (.agg #[ri,.slice none 0 0])∧Below w.heap.size w w'∧bM (m.grow w w') ri iw:=by
 have hO:=((Own.start hm).al #[.slice (some ⟨w.heap.size+1,0,none⟩) 1 1,.slice none 0 0] 24).al #[.int .i64 (-100000000000),.int .i64 100000000000] 153;have e1:(w.alloc (.cells #[.slice (some ⟨w.heap.size+1,0,none⟩) 1 1,.slice none 0 0] 24)).heap.size=w.heap.size+1:=by simp
 rw[e1] at hO;have HO:=zh hO;have g1:=hO.swap.obj.c 0;have g2:=hO.swap.obj.c 1;clear hO e1;refine aj fun R hR=>?_
 go_enter Tryz.func132,Tryz.ntmps132
 go_wp2;refine yQ (v:=.agg #[.slice (some ⟨w.heap.size+1,0,none⟩) 1 1,.slice none 0 0]) (by simp[results,Tryz.results132,go_sem]) rfl ?_;exact hR.out _ _ ⟨_,rfl,HO.out.below,Ca (fe zo (HO.out.obj.c 0)) (fe zo (HO.out.obj.c 1)) (by unfold spOk;omega)⟩
theorem wX (m:Mem) (w:World) (hm:m.inn w) :
 Calls Tryz.prog 133 #[] w fun e w'=>∃ri rf,e=.returned (.agg #[ri,rf])∧Below w.heap.size w w'∧bu (m.grow w w') ri rf iw uZ:=by
 have hO:=(Own.start hm).al #[.slice none 0 0,.slice none 0 0] 24;have HI:=zh (AV m _ hO.inn);have HO:=zh hO;clear hO;refine aj fun R hR=>?_
 go_enter Tryz.func133,Tryz.ntmps133
 go_wp2_with fail
 refine HI.out.mono ?_;rintro e w1 ⟨ri,rfl,hb1,hr1⟩;have hO1:=HO.out.call hb1;obtain⟨a,c,rfl⟩:=bO hr1;have hO4:=((((hO1.set 0 (.slice a iw.length c)).set 1 (.slice (some ⟨w1.heap.size+1,0,none⟩) 1 1)).al #[.slice a iw.length c,.slice (some ⟨w1.heap.size+1,0,none⟩) 1 1] 24).al #[.int .i64 (-999999999999999),.int .i64 999999999999999] 153);have e1:(((w1.setCell ⟨w.heap.size,0,none⟩ (.slice a iw.length c)).setCell ⟨w.heap.size,1,none⟩ (.slice (some ⟨w1.heap.size+1,0,none⟩) 1 1)).alloc (.cells #[.slice a iw.length c,.slice (some ⟨w1.heap.size+1,0,none⟩) 1 1] 24)).heap.size=w1.heap.size+1:=by simp
 simp only[jd] at hO4 e1;rw[e1] at hO4;have hw0:=HO.out.obj.lt;have hsz:=hb1.size;have g0:=hO1.obj.c 0;have g1:=hO1.obj.c 1;have g2:=hO1.obj.frozen 0;have g3:=hO1.obj.frozen 1;have g4:=hO1.obj.lt;have g5:=hO4.third.obj.c 0;have g6:=hO4.third.obj.c 1;have hge:=HO.out.below.size;have hfin:bu (m.grow w _) _ _ iw uZ:=⟨aW hO4.done hr1,Ca (fe zo (hO4.obj.c 0)) (fe zo (hO4.obj.c 1)) (by unfold spOk;omega)⟩;have Hk:=zh (zi hO4.below hfin);clear hO1 hO4 hfin hr1 hb1 HI;go_wp2;refine yQ (v:=.agg #[.slice a iw.length c,.slice (some ⟨w1.heap.size+1,0,none⟩) 1 1]) (by simp[results,Tryz.results133,go_sem,g5,g6]) rfl ?_;exact hR.out _ _ ⟨_,_,rfl,Hk.out.1,Hk.out.2⟩
theorem yT (z:Array Value) (n:Nat):(Builtin.zeroCells z n).size=n*z.size:=by simp[Builtin.zeroCells]
theorem Qi {w0 w:World} {m mk:Mem} {L:List Item} (h:Own w0 m w mk L) (n:Nat) (hn:n≤1000000) :
 Calls Tryz.prog 317 #[.slice none 0 0,.int .i64 n] w fun e w'=>∃a c,e=.returned (.slice a 0 c)∧Own w0 m w' mk (.row (.slice a 0 c) 153 2 0 []::L):=by
 by_cases h0:n=0
 ·subst h0;refine Calls.mono (Any8.slices_Grow_room Tryz.Qn none 0 0 0 w (zG _) zo zo zo) ?_;rintro e w' ⟨rfl,rfl⟩;exact⟨none,0,rfl,h.dI _ _⟩
 ·obtain⟨i,hi,hz,hs,hb⟩:=info_parts vM;refine Calls.mono (Any8.slices_Grow_grow Tryz.Qn i (.agg #[.int .i64 0,.int .i64 0]) hi hz zo none 0 0 n [] w (zG _) zo (by rw[hb];omega) zo zS (fun _=>rfl) (fun a e=>by cases e)) ?_;rintro e w' ⟨rfl,rfl⟩;have hc:=grownCap_ge w (0+n) 0 153;have hm:=grownCap_le_maxLen w (0+n) 0 153 (by unfold maxLen;omega);have hO:=h.dr.al (([]:List Value).toArray ++ Builtin.zeroCells (Value.agg #[.int .i64 0,.int .i64 0]).cells (0+n - 0) ++ Builtin.zeroCells (Value.agg #[.int .i64 0,.int .i64 0]).cells (grownCap w (0+n) 0 153 - (0+n))) 153;refine ⟨_,_,rfl,?_⟩;refine hO.tail.cons (it:=.row _ _ _ _ _) ⟨rfl,.inr ⟨w.heap.size,grownCap w (0+n) 0 153,_,rfl,zC _,hO.obj.get,zC _,hm,?_,?_⟩⟩ (fun k hk=>hO.fresh _ (yA ..) k hk) (fun b hb'=>(List.pairwise_cons.1 hO.apart).1 b hb')
  ·simp only[Array.size_append,yT,List.size_toArray,List.length_nil];have:(Value.agg #[.int .i64 0,.int .i64 0]).cells.size=2:=rfl;rw[this];generalize grownCap w (0+n) 0 153=c at *
   omega
  ·simp
def catK (xs:List (List Spn)) (k:Nat):List Spn:=(xs.take k).flatten
theorem Fe (xs:List (List Spn)) (k:Nat) (h:k<xs.length):catK xs (k+1)=catK xs k ++ xs[k]:=by
 unfold catK;rw[zF h,List.flatten_append];simp
theorem CB (xs:List (List Spn)) (k:Nat):(catK xs k).length≤(catK xs xs.length).length:=by
 unfold catK;rw[yB];have:xs=xs.take k ++ xs.drop k:=(List.take_append_drop k xs).symm
 conv=>rhs;rw[this]
 rw[List.flatten_append,zJ];omega
theorem PY (xs:List (List Spn)):catK xs xs.length=xs.flatten:=by unfold catK;rw[yB]
theorem Oa (xs:List (List Spn)):catK xs 0=[]:=rfl
theorem Lg (g c:Nat) (xs:List (List Spn)) (m:Mem) (w:World) (hm:m.inn w) (hx:∀i (h:i<xs.length),∃u,m.cell g i=some u∧bM m u xs[i]) (hlen:(catK xs xs.length).length≤1000000) (hn:xs.length≤1000000) :
 Calls Tryz.prog 300 #[.slice (some ⟨g,0,none⟩) xs.length c] w fun e w'=>∃r,e=.returned r∧Below w.heap.size w w'∧bM (m.grow w w') r (catK xs xs.length):=by
 have HX:=zh hx;have hok:∀s∈catK xs xs.length,spOk s:=fun s hs=>by
  rw[PY] at hs;obtain⟨l,hl,hs⟩:=List.mem_flatten.1 hs;obtain⟨i,hi,rfl⟩:=yR hl;obtain⟨u,-,hu⟩:=hx i hi;exact jf hu s hs
 have HOK:=zh hok;clear hx hok;refine aj fun R hR=>?_
 go_enter Tryz.func300,Tryz.ntmps300
 go_wp2;refine au [0,3,9,10,11] (fun n vs wr=>∃k:Nat,k≤xs.length∧n=xs.length - k∧vs=[.slice (some ⟨g,0,none⟩) xs.length c,.int .i64 (catK xs k).length,.slice (some ⟨g,0,none⟩) xs.length c,.int .i64 xs.length,.int .i64 k] ∧
  Own w m wr m []) ?_ ?_
 ·exact⟨_,0,zC _,rfl,by rw[Oa];rfl,Own.start hm⟩
 rintro X z n vs wr hX - ⟨k,hk,rfl,rfl,hO⟩;simp[litL,lk];have htl:=CB xs k;by_cases hlt:k<xs.length
 ·obtain⟨u,hc,hu⟩:=HX.out k hlt;have r1:=Mem.ak hO.inn hc;have rl:=Mem.ay hO.inn hc;obtain⟨a,uc,rfl⟩:=bO hu;have hst:=congrArg List.length (Fe xs k hlt);rw[zJ] at hst;have htl2:=CB xs (k+1);have HO:=zh hO;have Hst:=zh hst;have hb:(catK xs k).length+xs[k].length≤1000000:=zo;generalize (catK xs k).length=T at *
  generalize xs[k].length=N at *
  clear hu hc hO hst htl2;go_wp2;exact hX.out _ _ _ zo rfl ⟨k+1,zo,rfl,by rw[Hst.out];rfl,HO.out⟩
 ·obtain rfl:k=xs.length:=zo;have HG:=zh (Qi hO (catK xs xs.length).length hlen);clear hO hX
  go_wp2_with fail
  refine HG.out.mono ?_;rintro e w2 ⟨a,d,rfl,hO⟩;have HO:=zh hO;clear HG hO;go_wp2;refine au [6,25,26,27] (fun n vs wr=>∃(k:Nat) (v:Value),k≤xs.length∧n=xs.length - k∧vs=[v,.slice (some ⟨g,0,none⟩) xs.length c,.int .i64 xs.length,.int .i64 k] ∧
   Own w m wr m [.row v 153 2 (catK xs k).length (aS (catK xs k))]) ?_ ?_
  ·exact⟨_,0,_,zC _,rfl,rfl,HO.out⟩
  clear HO;rintro X z n vs wr hX - ⟨k,v,hk,rfl,rfl,hO⟩;simp[litL,lk];obtain⟨va,vc,rfl⟩:=aM hO.row;by_cases hlt:k<xs.length
  ·obtain⟨u,hc,hu⟩:=HX.out k hlt;have r1:=Mem.ak hO.inn hc;have rl:=Mem.ay hO.inn hc;obtain⟨a,uc,rfl⟩:=bO hu;have hst:=Fe xs k hlt;have htl2:=CB xs (k+1);rw[hst,zJ] at htl2;have hnews:0<xs[k].length→∃ad,a=some ad∧∀j u,(aS xs[k])[j]?=some u→wr.cell? (ad.add j)=some u:=fun h=>by
    obtain⟨b,off,e,h2⟩:=tu hO.inn hu (by intro e;rw[e] at h;simp at h);exact⟨_,e,h2⟩
   have hone:∀v∈aS xs[k],v.oneCell'=true:=fun v hv=>by
    obtain⟨q,-,hq⟩:=List.mem_flatMap.1 hv;simp at hq;rcases hq with rfl | rfl <;> rfl
   have Hst:=zh hst;have HN:=zh (zi hnews hone);clear hst hnews hone hu hc;generalize catK xs k=S0 at *
   generalize xs[k]=q at *
   go_wp2_with (at_builtin;refine dS eX rfl (.tmp 31) (.tmp 32) rfl (.slice va S0.length vc) S0.length _ rfl hO.row a q.length uc (aS q) rfl (bN q) HN.out.1 HN.out.2 (by unfold maxLen;omega) zo ?_)
   intro va' vc' w7 hown7 hgrow7 hrow7;have hO3:=hO.app hown7 hgrow7 hrow7 (zG _);have HO3:=zh hO3;clear hO3 hO hown7 hgrow7 hrow7;go_wp2;refine hX.out _ _ _ zo rfl ⟨k+1,_,zo,rfl,rfl,?_⟩;rw[Hst.out,zJ];have e:aS (S0 ++ q)=aS S0 ++ aS q:=by simp[aS]
   rw[e];exact HO3.out
  ·obtain rfl:k=xs.length:=zo;have hst:=cz (m:=m) (l:=(catK xs xs.length)) hO.row HOK.out;have hfin:=aW hO.bv.done hst;have Hfin:=zh (zi hO.below hfin);clear hO hst hfin;go_wp2;exact hR.out _ _ ⟨_,rfl,Hfin.out.1,Hfin.out.2⟩
theorem qU {m:Mem} {w:World} {g:Nat} {t:TypeId} {arr:Array Value} (win:Win) {ds:List Nat} {d:Nat} (hd:d∈ds) (h1:(win d).1≤g) (h2:g<(win d).2) (ho:bE w g t arr) {i:Nat} {v:Value} (hi:arr[i]?=some v) :
 (m.wins w win ds).cell g i=some v:=by
 have:ds.any (fun d=>decide ((win d).1≤g∧g<(win d).2))=true:=List.any_eq_true.2 ⟨d,hd,by simp[h1,h2]⟩;have e:m.wins w win ds g=some (.cells arr t (0,0)):=by
  unfold Mem.wins;rw[zI this];exact ho.get
 unfold Mem.cell;rw[e];exact hi
theorem NQ (g:Nat) (v1 v2:Value) (I J:List Spn) (M:Mem) (w:World) (hm:M.inn w) (h1:bM M v1 I) (h2:bM M v2 J) (c1:M.cell g 0=some v1) (c2:M.cell g 1=some v2) (hlen:I.length+J.length≤1000000) :
 Calls Tryz.prog 300 #[.slice (some ⟨g,0,none⟩) 2 2] w fun e w'=>∃r,e=.returned r∧Below w.heap.size w w'∧bM (M.grow w w') r (I ++ J):=by
 have e:catK [I,J] [I,J].length=I ++ J:=by simp[catK]
 have:=Lg g 2 [I,J] M w hm (fun i hi=>by
  simp only[yJ,List.length_nil] at hi;rcases (show i=0∨i=1 by omega) with rfl | rfl
  ·exact⟨v1,c1,h1⟩
  ·exact⟨v2,c2,h2⟩) (by rw[e,zJ];exact hlen) zS
 rw[e] at this;exact this
theorem IM (vi vf ui uf:Value) (I F J G:List Spn) (m:Mem) (w:World) (hm:m.inn w) (h1:bu m vi vf I F) (h2:bu m ui uf J G) (hI:I.length≤30000) (hF:F.length≤30000) (hJ:J.length≤30000) (hG:G.length≤30000) :
 Calls Tryz.prog 253 #[.agg #[vi,vf],.agg #[ui,uf]] w fun e w'=>∃ri rf,e=.returned (.agg #[ri,rf])∧Below w.heap.size w w'∧bu (m.grow w w') ri rf (orN (mkN I F) (mkN J G)).i (orN (mkN I F) (mkN J G)).rf:=by
 have hO:=(((Own.start hm).al #[vi,vf] 24).al #[ui,uf] 24).al #[.slice none 0 0,.slice none 0 0] 24;have hsz1:(w.alloc (.cells #[vi,vf] 24)).heap.size=w.heap.size+1:=by simp
 have hsz2:((w.alloc (.cells #[vi,vf] 24)).alloc (.cells #[ui,uf] 24)).heap.size=w.heap.size+1+1:=by simp
 rw[hsz2,hsz1] at hO;obtain⟨a1,c1,b1,d1,rfl,rfl⟩:=h1.spell;obtain⟨a2,c2,b2,d2,rfl,rfl⟩:=h2.spell;have hraw:=Ql I F J G;have HO:=zh hO;have H1:=zh (zi h1 (zi h2 hraw));clear hO h1 h2 hsz1 hsz2 hraw;refine aj fun R hR=>?_;generalize orN (mkN I F) (mkN J G)=x at *
 go_enter Tryz.func253,Tryz.ntmps253
 go_upto_region 1 with (fail)
 refine aI [4] (fun vs w'=>∃(mk':Mem) (ra rb:Option Addr) (rc rd:Nat),vs=[.pointer (some ⟨w.heap.size+1+1,0,none⟩)] ∧
  Own w m w' mk' [.obj (w.heap.size+1+1) 24 #[.slice ra x.i.length rc,.slice rb x.rf.length rd]] ∧
  bu mk' (.slice ra x.i.length rc) (.slice rb x.rf.length rd) x.i x.rf) ?_ ?_
 ·intro X hX;refine aU 14 6 (fun j=>[Fact.is (·=.pointer (some ⟨w.heap.size,0,none⟩)),Fact.is (·=.slice a1 I.length c1),Fact.is (·=.pointer (some ⟨w.heap.size+1,0,none⟩)),Fact.is (·=.slice a2 J.length c2),Fact.sl 4 22 #[.slice a1 I.length c1,.slice a2 J.length c2] 2,Fact.mem m [5,4] (SpV (I ++ J)),Fact.is (·=.pointer (some ⟨w.heap.size,1,none⟩)),Fact.is (·=.slice b1 F.length d1),Fact.is (·=.pointer (some ⟨w.heap.size+1,1,none⟩)),Fact.is (·=.slice b2 G.length d2),Fact.sl 10 22 #[.slice b1 F.length d1,.slice b2 G.length d2] 2,Fact.mem m [11,10] (SpV (F ++ G)),Fact.mem m [5,4,11,10] (NumV (I ++ J) (F ++ G)),Fact.mem m [13,5,4,11,10] (NumV x.i x.rf)].getD j Fact.any) zk zk ?_ ?_
  ·intro i hi o win a wr ho RA;have HO2:=HO.out.dr.move RA.below;have q1:=HO2.swap.obj.c 0;have q2:=HO2.swap.obj.c 1;have q3:=HO2.third.obj.c 0;have q4:=HO2.third.obj.c 1;rcases (show i=0∨i=1∨i=2∨i=3∨i=4∨i=5∨i=6∨i=7∨i=8∨i=9∨i=10∨i=11∨i=12∨i=13 by omega) with rfl | rfl | rfl | rfl | rfl | rfl | rfl | rfl | rfl | rfl | rfl | rfl | rfl | rfl
   ·have e2:=RA.k 2;cases ho;exact wv rfl rfl rfl
   ·have e5:a.tmps.getD 5 undef=_:=RA.d 0 rfl;cases ho;exact wv rfl rfl rfl
   ·have e3:=RA.k 3;cases ho;exact wv rfl rfl rfl
   ·have e7:a.tmps.getD 7 undef=_:=RA.d 2 rfl;cases ho;exact wv rfl rfl rfl
   ·have e6:a.tmps.getD 6 undef=_:=RA.d 1 rfl;have e8:a.tmps.getD 8 undef=_:=RA.d 3 rfl;have f8:=(zT (xs:=a.tmps) (i:=8) (d:=undef)).symm.trans e8;have f6:=(zT (xs:=a.tmps) (i:=6) (d:=undef)).symm.trans e6;cases ho;exact aF rfl rfl (aP zg ⟨_,rfl,aR (zP _ _) _,O4 win⟩)
   ·have e9:(Fact.sl 4 22 #[.slice a1 I.length c1,.slice a2 J.length c2] 2).holds (a.tmps.getD 9 undef) win wr:=RA.d 4 rfl;cases ho;obtain⟨k1,n1,o1⟩:_∧_∧_:=e9;refine we rfl rfl (NQ (win 4).1 _ _ I J (m.wins wr win [4]) wr (Mem.eB HO2.inn win [4]) (aW (Mem.jq HO2.inn win [4]) H1.out.1.i) (aW (Mem.jq HO2.inn win [4]) H1.out.2.1.i) (qU win zS (zG _) zo o1 rfl) (qU win zS (zG _) zo o1 rfl) zo) ?_;rintro e w' ⟨r,rfl,hb,hn⟩;exact⟨_,rfl,_,rfl,hb,fZ (ds:=[4]) SpV.le HO2.inn zS (fun d hd=>(RA.rng d (by simp at hd;subst hd;kernel_rfl)).2.2) hb (nE hn)⟩
   ·have e2:=RA.k 2;cases ho;exact wv rfl rfl rfl
   ·have e11:a.tmps.getD 11 undef=_:=RA.d 6 rfl;cases ho;exact wv rfl rfl rfl
   ·have e3:=RA.k 3;cases ho;exact wv rfl rfl rfl
   ·have e13:a.tmps.getD 13 undef=_:=RA.d 8 rfl;cases ho;exact wv rfl rfl rfl
   ·have e12:a.tmps.getD 12 undef=_:=RA.d 7 rfl;have e14:a.tmps.getD 14 undef=_:=RA.d 9 rfl;have f12:=(zT (xs:=a.tmps) (i:=12) (d:=undef)).symm.trans e12;have f14:=(zT (xs:=a.tmps) (i:=14) (d:=undef)).symm.trans e14;cases ho;exact aF rfl rfl (aP zg ⟨_,rfl,aR (zP _ _) _,O4 win⟩)
   ·have e15:(Fact.sl 10 22 #[.slice b1 F.length d1,.slice b2 G.length d2] 2).holds (a.tmps.getD 15 undef) win wr:=RA.d 10 rfl;cases ho;obtain⟨k1,n1,o1⟩:_∧_∧_:=e15;refine we rfl rfl (NQ (win 10).1 _ _ F G (m.wins wr win [10]) wr (Mem.eB HO2.inn win [10]) (aW (Mem.jq HO2.inn win [10]) H1.out.1.f) (aW (Mem.jq HO2.inn win [10]) H1.out.2.1.f) (qU win zS (zG _) zo o1 rfl) (qU win zS (zG _) zo o1 rfl) zo) ?_;rintro e w' ⟨r,rfl,hb,hn⟩;exact⟨_,rfl,_,rfl,hb,fZ (ds:=[10]) SpV.le HO2.inn zS (fun d hd=>(RA.rng d (by simp at hd;subst hd;kernel_rfl)).2.2) hb (nE hn)⟩
   ·have e10:(Fact.mem m [5,4] (SpV (I ++ J))).holds (a.tmps.getD 10 undef) win wr:=RA.d 5 rfl;have e16:(Fact.mem m [11,10] (SpV (F ++ G))).holds (a.tmps.getD 16 undef) win wr:=RA.d 11 rfl;cases ho;obtain⟨r1,s1,k1,t1⟩:SpV _ _ _:=e10;obtain⟨r2,s2,k2,t2⟩:SpV _ _ _:=e16;have f15:=(zT (xs:=a.tmps) (i:=10) (d:=undef)).symm.trans k1;have f20:=(zT (xs:=a.tmps) (i:=16) (d:=undef)).symm.trans k2;have t1:=aW (Mem.fE (es:=[5,4,11,10]) HO2.inn win zS) t1;have t2:=aW (Mem.fE (es:=[5,4,11,10]) HO2.inn win zS) t2;rw[zJ] at k1 k2 f15 f20 t1 t2;exact aF rfl rfl (aP zg ⟨_,rfl,zP _ _,vJ [5,4,11,10] (R:=NumV (I ++ J) (F ++ G)) win zS (fun d hd=>(RA.rng d (by simp at hd;rcases hd with rfl | rfl | rfl | rfl <;> kernel_rfl)).2.2) ⟨r1,s1,r2,s2,by rw[zJ,zJ],by rw[zJ,zJ];exact⟨t1,t2⟩⟩⟩)
   ·have e17:(Fact.mem m [5,4,11,10] (NumV (I ++ J) (F ++ G))).holds (a.tmps.getD 17 undef) win wr:=RA.d 12 rfl;cases ho;obtain⟨r1,s1,r2,s2,k1,t1⟩:NumV _ _ _ _:=e17;refine we rfl rfl (ib _ _ _ _ _ wr (Mem.eB HO2.inn win [5,4,11,10]) t1 (by rw[zJ];omega) (by rw[zJ];omega)) ?_;rintro e w' ⟨ri,rf,rfl,hb,hn⟩;rw[H1.out.2.2] at hn;exact⟨_,rfl,_,rfl,hb,fZ (ds:=[5,4,11,10]) NumV.le HO2.inn zS (fun d hd=>(RA.rng d (by simp at hd;rcases hd with rfl | rfl | rfl | rfl <;> kernel_rfl)).2.2) hb (gB hn)⟩
  ·intro win a wr E;have e4:=E.keep 4 zk;have e18:(Fact.mem m [13,5,4,11,10] (NumV x.i x.rf)).holds (a.tmps.getD 18 undef) win wr:=E.fact 13 _ zo rfl;obtain⟨ra,rc,rb,rd,f1,st1⟩:NumV _ _ _ _:=e18;have hO1:=HO.out.drop2.drop2.dr.region E.below win [13,5,4,11,10] (fun d hd=>(E.rng d (by simp at hd;omega)).1);have HE:=zh E;generalize m.wins wr win [13,5,4,11,10]=mk2 at *
   have HK:=zh st1;clear E st1;have b1:=hO1.obj.frozen 0;have b1':=hO1.obj.frozen 1;have b2:=hO1.obj.c 0;have b2':=hO1.obj.c 1;have b3:=hO1.obj.lt;have hO3:=(hO1.set 0 (.slice ra x.i.length rc)).set 1 (.slice rb x.rf.length rd);refine dQ 14 zk (aF rfl rfl (aZ zg ?_));obtain⟨t,d⟩:=a;obtain rfl:d=[]:=HE.out.defers;refine bS zk (hX.out _ _ HE.out.size ⟨mk2,ra,rb,rc,rd,?_,hO3,HK.out⟩) _;simp only[yG,List.map_nil,e4]
   rfl
 rintro z2 vs w2 - ⟨mk',ra,rb,rc,rd,rfl,hO,hr⟩;simp[litL,lk];have g5:=hO.obj.c 0;have g6:=hO.obj.c 1;have Hk:=zh (zi hO.below (hr.le hO.done));clear hO hr HO;go_wp2;refine yQ (v:=.agg #[.slice ra x.i.length rc,.slice rb x.rf.length rd]) (by simp[results,Tryz.results253,go_sem,g5,g6]) rfl ?_;exact hR.out _ _ ⟨_,_,rfl,Hk.out.1,Hk.out.2⟩
theorem Ee {m:Mem} {v:Value} {lo hi:Int} (h:bM m v [(lo,hi)]):∃b off c,v=.slice (some ⟨b,off,none⟩) 1 c∧m.cell b off=some (.int .i64 lo)∧m.cell b (off+1)=some (.int .i64 hi)∧1≤c:=by
 obtain⟨a,c,rfl,h1,h2,h3⟩:=h;obtain⟨b,off,rfl,h4⟩:=h3 zS;have h5:=h4 0 zS;simp only[Nat.zero_mul,Nat.add_zero] at h5;exact⟨b,off,c,rfl,h5.1,h5.2.1,h1⟩
theorem rE (vi vf:Value) (I F:List Spn) (m:Mem) (w:World) (hm:m.inn w) (h1:bu m vi vf I F) (hI:I.length≤30000) (hF:F.length≤30000) :
 Calls Tryz.prog 225 #[.agg #[vi,vf]] w fun e w'=>∃ri rf,e=.returned (.agg #[ri,rf])∧Below w.heap.size w w'∧bu (m.grow w w') ri rf (notN (mkN I F)).i (notN (mkN I F)).rf:=by
 have hO:=((Own.start hm).al #[vi,vf] 24).al #[.slice none 0 0,.slice none 0 0] 24;have hsz1:(w.alloc (.cells #[vi,vf] 24)).heap.size=w.heap.size+1:=by simp
 rw[hsz1] at hO;obtain⟨a1,c1,b1,d1,rfl,rfl⟩:=h1.spell;have HM:=zh (ib _ _ I F m _ hO.inn h1 zo zo);have HO:=zh hO;clear hO h1 hsz1;have hxl:=eu hI hF;have hxo:=gG I F;have l1:=hxl.i;have l2:=hxl.f;rw[← NS.jR] at l2;have hraw:mkN (gD (fun n=>n+1) (fun n=>n - 1) (mkN I F).i (-100000000000) 100000000000) (gD iN gV (mkN I F).rf (-999999999999999) 999999999999999)=notN (mkN I F):=QR hxo;have hI2:=hxo.inI;have hF2:=hxo.inF;have hg1:∀s∈gD (fun n=>n+1) (fun n=>n - 1) (mkN I F).i (-100000000000) 100000000000,spOk s:=by
  rw[qG];exact fun s hs=>vZ ((ik hxo).inI s hs)
 have hg2:∀s∈gD iN gV (mkN I F).rf (-999999999999999) 999999999999999,spOk s:=by
  have e:gD iN gV (mkN I F).rf (-999999999999999) 999999999999999=(notN (mkN I F)).rf:=Nv _;rw[e];exact fun s hs=>vZ ((ik hxo).inF s hs)
 have hgl1:=rT (fun n=>n+1) (fun n=>n - 1) (mkN I F).i (-100000000000) 100000000000;have hgl2:=rT iN gV (mkN I F).rf (-999999999999999) 999999999999999;refine aj fun R hR=>?_;generalize mkN I F=x at *
 have HX:=zh (zi hraw (zi hI2 (zi hF2 (zi hg1 hg2))));clear hraw hI2 hF2 hg1 hg2 hxl hxo
 go_enter Tryz.func225,Tryz.ntmps225
 go_wp2_with fail
 refine HM.out.mono ?_;rintro e w1 ⟨ri,rf,rfl,hb1,hr1⟩;have hO1:=HO.out.call hb1;have HA:=zh (wX _ w1 hO1.inn);have HO1:=zh (zi hO1 hr1);obtain⟨xa,xc,ya,yc,rfl,rfl⟩:=hr1.spell;clear HM hO1 hr1 hb1 HO
 go_wp2_with fail
 refine HA.out.mono ?_;rintro e w2 ⟨ri,rf,rfl,hb2,hr2⟩;have hO2:=HO1.out.1.call hb2;have hr1:=HO1.out.2.le (Mem.dF HO1.out.1.inn (w:=w2));obtain⟨q1,o1,k1,rfl,z1,z2,z3⟩:=Ee hr2.i;obtain⟨q2,o2,k2,rfl,z4,z5,z6⟩:=Ee hr2.f;have hO3:=(hO2.al #[.slice xa x.i.length xc,.slice ya x.rf.length yc] 24).al #[.slice (some ⟨q1,o1,none⟩) 1 k1,.slice (some ⟨q2,o2,none⟩) 1 k2] 24;have e1:(w2.alloc (.cells #[.slice xa x.i.length xc,.slice ya x.rf.length yc] 24)).heap.size=w2.heap.size+1:=by simp
 rw[e1] at hO3;generalize ((m.grow (((w.alloc (.cells #[.slice a1 I.length c1,.slice b1 F.length d1] 24)).alloc (.cells #[.slice none 0 0,.slice none 0 0] 24))) w1).grow w1 w2)=mk at *
 have HO:=zh (zi hO3 (zi hr1 (zi z1 (zi z2 (zi z4 z5)))));clear hO2 hr1 hO3 hr2 hb2 HA HO1 z1 z2 z4 z5 e1
 go_upto_region 2 with (fail)
 generalize hW3:(w2.alloc (.cells #[.slice xa x.i.length xc,.slice ya x.rf.length yc] 24)).alloc (.cells #[.slice (some ⟨q1,o1,none⟩) 1 k1,.slice (some ⟨q2,o2,none⟩) 1 k2] 24)=w3 at *
 generalize w2.heap.size=S at *
 refine aI [2] (fun vs w'=>∃(mk':Mem) (ra rb:Option Addr) (rc rd:Nat),vs=[.pointer (some ⟨w.heap.size+1,0,none⟩)] ∧
  Own w m w' mk' [.obj (w.heap.size+1) 24 #[.slice ra (notN x).i.length rc,.slice rb (notN x).rf.length rd]] ∧
  bu mk' (.slice ra (notN x).i.length rc) (.slice rb (notN x).rf.length rd) (notN x).i (notN x).rf) ?_ ?_
 ·intro X hX;refine aU 18 6 (fun j=>[Fact.is (·=.pointer (some ⟨S,0,none⟩)),Fact.is (·=.slice xa x.i.length xc),Fact.is (·=.pointer (some ⟨S+1,0,none⟩)),Fact.is (·=.slice (some ⟨q1,o1,none⟩) 1 k1),Fact.is (·=.pointer (some ⟨q1,o1,none⟩)),Fact.is (·=.agg #[.int .i64 (-100000000000),.int .i64 100000000000]),Fact.mem mk [6] (GapV 214 283 x.i (-100000000000) 100000000000),Fact.mem mk [7,6] (SpV (gD (fun n=>n+1) (fun n=>n - 1) x.i (-100000000000) 100000000000)),Fact.is (·=.pointer (some ⟨S,1,none⟩)),Fact.is (·=.slice ya x.rf.length yc),Fact.is (·=.pointer (some ⟨S+1,1,none⟩)),Fact.is (·=.slice (some ⟨q2,o2,none⟩) 1 k2),Fact.is (·=.pointer (some ⟨q2,o2,none⟩)),Fact.is (·=.agg #[.int .i64 (-999999999999999),.int .i64 999999999999999]),Fact.mem mk [14] (GapV 215 284 x.rf (-999999999999999) 999999999999999),Fact.mem mk [15,14] (SpV (gD iN gV x.rf (-999999999999999) 999999999999999)),Fact.mem mk [7,6,15,14] (NumV (gD (fun n=>n+1) (fun n=>n - 1) x.i (-100000000000) 100000000000) (gD iN gV x.rf (-999999999999999) 999999999999999)),Fact.mem mk [17,7,6,15,14] (NumV (notN x).i (notN x).rf)].getD j Fact.any) zk zk ?_ ?_
  ·intro i hi o win a wr ho RA;have HO2:=HO.out.1.dr.move RA.below;have p1:=HO2.obj.c 0;have p2:=HO2.obj.c 1;have p3:=HO2.swap.obj.c 0;have p4:=HO2.swap.obj.c 1;have t1:=Mem.ak HO2.inn HO.out.2.2.1;have t2:=Mem.ak HO2.inn HO.out.2.2.2.1;have t3:=Mem.ak HO2.inn HO.out.2.2.2.2.1;have t4:=Mem.ak HO2.inn HO.out.2.2.2.2.2;have t5:=Mem.ay HO2.inn HO.out.2.2.1;have t6:=Mem.ay HO2.inn HO.out.2.2.2.2.1;rcases (show i=0∨i=1∨i=2∨i=3∨i=4∨i=5∨i=6∨i=7∨i=8∨i=9∨i=10∨i=11∨i=12∨i=13∨i=14∨i=15∨i=16∨i=17 by omega) with rfl | rfl | rfl | rfl | rfl | rfl | rfl | rfl | rfl | rfl | rfl | rfl | rfl | rfl | rfl | rfl | rfl | rfl
   ·have e3:=RA.k 3;cases ho;exact wv rfl rfl rfl
   ·have e8:a.tmps.getD 8 undef=_:=RA.d 0 rfl;cases ho;exact wv rfl rfl rfl
   ·have e4:=RA.k 4;cases ho;exact wv rfl rfl rfl
   ·have e10:a.tmps.getD 10 undef=_:=RA.d 2 rfl;cases ho;exact wv rfl rfl rfl
   ·have e11:a.tmps.getD 11 undef=_:=RA.d 3 rfl;cases ho;exact wv rfl rfl rfl
   ·have e12:a.tmps.getD 12 undef=_:=RA.d 4 rfl;cases ho;exact wv rfl rfl rfl
   ·have e9:a.tmps.getD 9 undef=_:=RA.d 1 rfl;have e13:a.tmps.getD 13 undef=_:=RA.d 5 rfl;cases ho;refine we rfl rfl (Ja _ x.i (-100000000000) 100000000000 283 214 mk wr HO2.inn HO.out.2.1.i) ?_;rintro e w' ⟨v,rfl,hb,hn⟩;exact⟨_,rfl,_,rfl,hb,fQ GapV.le HO2.inn hb hn⟩
   ·have e14:(Fact.mem mk [6] (GapV 214 283 x.i (-100000000000) 100000000000)).holds (a.tmps.getD 14 undef) win wr:=RA.d 6 rfl;cases ho;have k0:GapV 214 283 x.i (-100000000000) 100000000000 (mk.wins wr win [6]) (a.tmps.getD 14 undef):=e14;obtain⟨v14,hv14⟩:∃v,a.tmps.getD 14 undef=v:=⟨_,rfl⟩;rw[hv14] at k0;refine we rfl rfl (yz AX MR _ wr (Mem.eB HO2.inn win [6]) k0 HX.out.2.1 zo HX.out.2.2.2.1) ?_;rintro e w' ⟨r,rfl,hb,hn⟩;exact⟨_,rfl,_,rfl,hb,fZ (ds:=[6]) SpV.le HO2.inn zS (fun d hd=>(RA.rng d (by simp at hd;subst hd;kernel_rfl)).2.2) hb (nE hn)⟩
   ·have e3:=RA.k 3;cases ho;exact wv rfl rfl rfl
   ·have e16:a.tmps.getD 16 undef=_:=RA.d 8 rfl;cases ho;exact wv rfl rfl rfl
   ·have e4:=RA.k 4;cases ho;exact wv rfl rfl rfl
   ·have e18:a.tmps.getD 18 undef=_:=RA.d 10 rfl;cases ho;exact wv rfl rfl rfl
   ·have e19:a.tmps.getD 19 undef=_:=RA.d 11 rfl;cases ho;exact wv rfl rfl rfl
   ·have e20:a.tmps.getD 20 undef=_:=RA.d 12 rfl;cases ho;exact wv rfl rfl rfl
   ·have e17:a.tmps.getD 17 undef=_:=RA.d 9 rfl;have e21:a.tmps.getD 21 undef=_:=RA.d 13 rfl;cases ho;refine we rfl rfl (Ja _ x.rf (-999999999999999) 999999999999999 284 215 mk wr HO2.inn HO.out.2.1.f) ?_;rintro e w' ⟨v,rfl,hb,hn⟩;exact⟨_,rfl,_,rfl,hb,fQ GapV.le HO2.inn hb hn⟩
   ·have e22:(Fact.mem mk [14] (GapV 215 284 x.rf (-999999999999999) 999999999999999)).holds (a.tmps.getD 22 undef) win wr:=RA.d 14 rfl;cases ho;have k0:GapV 215 284 x.rf (-999999999999999) 999999999999999 (mk.wins wr win [14]) (a.tmps.getD 22 undef):=e22;obtain⟨v22,hv22⟩:∃v,a.tmps.getD 22 undef=v:=⟨_,rfl⟩;rw[hv22] at k0;refine we rfl rfl (yz AY Gp _ wr (Mem.eB HO2.inn win [14]) k0 HX.out.2.2.1 zo HX.out.2.2.2.2) ?_;rintro e w' ⟨r,rfl,hb,hn⟩;exact⟨_,rfl,_,rfl,hb,fZ (ds:=[14]) SpV.le HO2.inn zS (fun d hd=>(RA.rng d (by simp at hd;subst hd;kernel_rfl)).2.2) hb (nE hn)⟩
   ·have e15:(Fact.mem mk [7,6] (SpV (gD (fun n=>n+1) (fun n=>n - 1) x.i (-100000000000) 100000000000))).holds (a.tmps.getD 15 undef) win wr:=RA.d 7 rfl;have e23:(Fact.mem mk [15,14] (SpV (gD iN gV x.rf (-999999999999999) 999999999999999))).holds (a.tmps.getD 23 undef) win wr:=RA.d 15 rfl;cases ho;obtain⟨r1,s1,k1,t1⟩:SpV _ _ _:=e15;obtain⟨r2,s2,k2,t2⟩:SpV _ _ _:=e23;have f15:=(zT (xs:=a.tmps) (i:=15) (d:=undef)).symm.trans k1;have f20:=(zT (xs:=a.tmps) (i:=23) (d:=undef)).symm.trans k2;have t1:=aW (Mem.fE (es:=[7,6,15,14]) HO2.inn win zS) t1;have t2:=aW (Mem.fE (es:=[7,6,15,14]) HO2.inn win zS) t2;exact aF rfl rfl (aP zg ⟨_,rfl,zP _ _,vJ [7,6,15,14] (R:=NumV _ _) win zS (fun d hd=>(RA.rng d (by simp at hd;rcases hd with rfl | rfl | rfl | rfl <;> kernel_rfl)).2.2) ⟨r1,s1,r2,s2,rfl,t1,t2⟩⟩)
   ·have e24:(Fact.mem mk [7,6,15,14] (NumV (gD (fun n=>n+1) (fun n=>n - 1) x.i (-100000000000) 100000000000) (gD iN gV x.rf (-999999999999999) 999999999999999))).holds (a.tmps.getD 24 undef) win wr:=RA.d 16 rfl;cases ho;obtain⟨r1,s1,r2,s2,k1,t1⟩:NumV _ _ _ _:=e24;refine we rfl rfl (ib _ _ _ _ _ wr (Mem.eB HO2.inn win [7,6,15,14]) t1 zo zo) ?_;rintro e w' ⟨ri,rf,rfl,hb,hn⟩;rw[HX.out.1] at hn;exact⟨_,rfl,_,rfl,hb,fZ (ds:=[7,6,15,14]) NumV.le HO2.inn zS (fun d hd=>(RA.rng d (by simp at hd;rcases hd with rfl | rfl | rfl | rfl <;> kernel_rfl)).2.2) hb (gB hn)⟩
  ·intro win a wr E;have e2:=E.keep 2 zk;have e25:(Fact.mem mk [17,7,6,15,14] (NumV (notN x).i (notN x).rf)).holds (a.tmps.getD 25 undef) win wr:=E.fact 17 _ zo rfl;obtain⟨ra,rc,rb,rd,f1,st1⟩:NumV _ _ _ _:=e25;have hO1:=HO.out.1.tail.tail.drop2.dr.region E.below win [17,7,6,15,14] (fun d hd=>(E.rng d (by simp at hd;omega)).1);have HE:=zh E;generalize mk.wins wr win [17,7,6,15,14]=mk2 at *
   have HK:=zh st1;clear E st1;have b1:=hO1.obj.frozen 0;have b1':=hO1.obj.frozen 1;have b2:=hO1.obj.c 0;have b2':=hO1.obj.c 1;have b3:=hO1.obj.lt;have hO3:=(hO1.set 0 (.slice ra (notN x).i.length rc)).set 1 (.slice rb (notN x).rf.length rd);refine dQ 18 zk (aF rfl rfl (aZ zg ?_));obtain⟨t,d⟩:=a;obtain rfl:d=[]:=HE.out.defers;refine bS zk (hX.out _ _ HE.out.size ⟨mk2,ra,rb,rc,rd,?_,hO3,HK.out⟩) _;simp only[yG,List.map_nil,e2]
   rfl
 rintro z2 vs w4 - ⟨mk',ra,rb,rc,rd,rfl,hO,hr⟩;simp[litL,lk];have g5:=hO.obj.c 0;have g6:=hO.obj.c 1;have Hk:=zh (zi hO.below (hr.le hO.done));clear hO hr HO;go_wp2;refine yQ (v:=.agg #[.slice ra (notN x).i.length rc,.slice rb (notN x).rf.length rd]) (by simp[results,Tryz.results225,go_sem,g5,g6]) rfl ?_;exact hR.out _ _ ⟨_,_,rfl,Hk.out.1,Hk.out.2⟩
theorem qy (vi vf:Value) (I F:List Spn) (ui uf:Value) (J G:List Spn) (m:Mem) (w:World) (hm:m.inn w) (h1:bu m vi vf I F) (h2:bu m ui uf J G) (hI:I.length≤290) (hF:F.length≤290) (hJ:J.length≤290) (hG:G.length≤290) :
 Calls Tryz.prog 159 #[.agg #[vi,vf],.agg #[ui,uf]] w fun e w'=>∃ri rf,e=.returned (.agg #[ri,rf])∧Below w.heap.size w w'∧bu (m.grow w w') ri rf (bY (mkN I F) (mkN J G)).i (bY (mkN I F) (mkN J G)).rf:=by
 have hO:=(((Own.start hm).al #[vi,vf] 24).al #[ui,uf] 24).al #[.slice none 0 0,.slice none 0 0] 24;have hsz1:(w.alloc (.cells #[vi,vf] 24)).heap.size=w.heap.size+1:=by simp
 have hsz2:((w.alloc (.cells #[vi,vf] 24)).alloc (.cells #[ui,uf] 24)).heap.size=w.heap.size+1+1:=by simp
 rw[hsz2,hsz1] at hO;obtain⟨a1,c1,b1,d1,rfl,rfl⟩:=h1.spell;obtain⟨a2,c2,b2,d2,rfl,rfl⟩:=h2.spell;have hyo:=gG J G;have hnl:=jV (eu hJ hG);have l1:=hnl.i;have l2:=hnl.f;rw[← NS.jR] at l2;have hraw:andN (mkN I F) (mkN (notN (mkN J G)).i (notN (mkN J G)).rf)=bY (mkN I F) (mkN J G):=by rw[gF (ik hyo)];rfl
 clear hyo hnl;have HO:=zh hO;have H1:=zh (zi hraw (zi h1 h2));clear hO h1 h2 hsz1 hsz2 hraw;refine aj fun R hR=>?_;generalize bY (mkN I F) (mkN J G)=x at *
 go_enter Tryz.func159,Tryz.ntmps159
 go_upto_region 1 with (fail)
 refine aI [4] (fun vs w'=>∃(mk':Mem) (ra rb:Option Addr) (rc rd:Nat),vs=[.pointer (some ⟨w.heap.size+1+1,0,none⟩)] ∧
  Own w m w' mk' [.obj (w.heap.size+1+1) 24 #[.slice ra x.i.length rc,.slice rb x.rf.length rd]] ∧
  bu mk' (.slice ra x.i.length rc) (.slice rb x.rf.length rd) x.i x.rf) ?_ ?_
 ·intro X hX;refine aU 4 5 (fun j=>[Fact.is (·=.agg #[.slice a1 I.length c1,.slice b1 F.length d1]),Fact.is (·=.agg #[.slice a2 J.length c2,.slice b2 G.length d2]),Fact.mem m [2] (NumV (notN (mkN J G)).i (notN (mkN J G)).rf),Fact.mem m [3,2] (NumV x.i x.rf)].getD j Fact.any) zk zk ?_ ?_
  ·intro i hi o win a wr ho RA;have HO2:=HO.out.dr.move RA.below;have p1:=HO2.swap.obj.c 0;have p2:=HO2.swap.obj.c 1;have p3:=HO2.third.obj.c 0;have p4:=HO2.third.obj.c 1;rcases (show i=0∨i=1∨i=2∨i=3 by omega) with rfl | rfl | rfl | rfl
   ·have e2:=RA.k 2;cases ho;exact wv rfl rfl rfl
   ·have e3:=RA.k 3;cases ho;exact wv rfl rfl rfl
   ·have e6:a.tmps.getD 6 undef=_:=RA.d 1 rfl;cases ho;refine we rfl rfl (rE _ _ J G m wr HO2.inn H1.out.2.2 zo zo) ?_;rintro e w' ⟨ri,rf,rfl,hb,hn⟩;exact⟨_,rfl,_,rfl,hb,fQ NumV.le HO2.inn hb (gB hn)⟩
   ·have e5:a.tmps.getD 5 undef=_:=RA.d 0 rfl;have e7:(Fact.mem m [2] (NumV (notN (mkN J G)).i (notN (mkN J G)).rf)).holds (a.tmps.getD 7 undef) win wr:=RA.d 2 rfl;cases ho;obtain⟨r1,s1,r2,s2,k1,t1⟩:NumV _ _ _ _:=e7;refine we rfl rfl (Ej _ _ _ _ I F _ _ _ wr (Mem.eB HO2.inn win [2]) (H1.out.2.1.le (Mem.jq HO2.inn win [2])) t1 zo zo zo zo) ?_;rintro e w' ⟨ri,rf,rfl,hb,hn⟩;rw[H1.out.1] at hn;exact⟨_,rfl,_,rfl,hb,fZ (ds:=[2]) NumV.le HO2.inn zS (fun d hd=>(RA.rng d (by simp at hd;subst hd;kernel_rfl)).2.2) hb (gB hn)⟩
  ·intro win a wr E;have e4:=E.keep 4 zk;have e8:(Fact.mem m [3,2] (NumV x.i x.rf)).holds (a.tmps.getD 8 undef) win wr:=E.fact 3 _ zo rfl;obtain⟨ra,rc,rb,rd,f1,st1⟩:NumV _ _ _ _:=e8;have hO1:=HO.out.drop2.drop2.dr.region E.below win [3,2] (fun d hd=>(E.rng d (by simp at hd;omega)).1);have HE:=zh E;generalize m.wins wr win [3,2]=mk2 at *
   have HK:=zh st1;clear E st1;have b1:=hO1.obj.frozen 0;have b1':=hO1.obj.frozen 1;have b2:=hO1.obj.c 0;have b2':=hO1.obj.c 1;have b3:=hO1.obj.lt;have hO3:=(hO1.set 0 (.slice ra x.i.length rc)).set 1 (.slice rb x.rf.length rd);refine dQ 4 zk (aF rfl rfl (aZ zg ?_));obtain⟨t,d⟩:=a;obtain rfl:d=[]:=HE.out.defers;refine bS zk (hX.out _ _ HE.out.size ⟨mk2,ra,rb,rc,rd,?_,hO3,HK.out⟩) _;simp only[yG,List.map_nil,e4]
   rfl
 rintro z2 vs w2 - ⟨mk',ra,rb,rc,rd,rfl,hO,hr⟩;simp[litL,lk];have g5:=hO.obj.c 0;have g6:=hO.obj.c 1;have Hk:=zh (zi hO.below (hr.le hO.done));clear hO hr HO;go_wp2;refine yQ (v:=.agg #[.slice ra x.i.length rc,.slice rb x.rf.length rd]) (by simp[results,Tryz.results159,go_sem,g5,g6]) rfl ?_;exact hR.out _ _ ⟨_,_,rfl,Hk.out.1,Hk.out.2⟩
def Gb (r:Option Int):Prop:=∀u,r=some u → -1000000000000002≤u∧u≤1000000000000002
theorem tF {r:Option Int} {u:Int} (h:Gb r) (h1 : -1000000000000002≤u) (h2:u≤1000000000000002):Gb (dN [u] r):=by
 intro v hv
 cases r with
 | none=>simp only[dN] at hv;cases hv;exact⟨h1,h2⟩
 | some b=>
  simp only[dN] at hv
  split at hv
  ·cases hv;exact⟨h1,h2⟩
  ·exact h v hv
theorem MS {s:Spn} (h:spIn s) {mid:Int} (h1 : -2≤mid) (h2:mid≤2) : -1000000000000002≤df s mid∧df s mid≤1000000000000002:=by
 unfold spIn at h;unfold df
 split
 ·omega
 ·split <;> omega
theorem AU (u:Int) (gf gb:Nat) (r:Option Int) {w0 w:World} {m mk:Mem} {L:List Item} (hO:Own w0 m w mk (.obj gb 2 #[.int .i64 (r.getD 0)]::.obj gf 4 #[.bool r.isSome]::L))
 (h1 : -1000000000000002≤u) (h2:u≤1000000000000002) (hr:Gb r) :
 Calls Tryz.prog 146 #[.int .i64 u,.pointer (some ⟨gf,0,none⟩),.pointer (some ⟨gb,0,none⟩)] w fun e w'=>e=.returned (.tuple #[]) ∧
  Own w0 m w' mk (.obj gb 2 #[.int .i64 ((dN [u] r).getD 0)]::.obj gf 4 #[.bool (dN [u] r).isSome]::L):=by
 have c1:=hO.obj.c 0;have c2:=hO.swap.obj.c 0;have c3:=hO.obj.lt;have c4:=hO.swap.obj.lt;have c5:=hO.obj.frozen 0;have c6:=hO.swap.obj.frozen 0;have hne:gb≠gf:=fun e=>(List.pairwise_cons.1 hO.apart).1 _ (yA ..) gb rfl (by rw[e];rfl);have hne2:gf≠gb:=fun e=>hne e.symm
 cases r with
 | none=>
  have HO:=zh ((hO.set 0 (.int .i64 u)).swap.set 0 (.bool true)).swap;clear hO;refine aj fun R hR=>?_;simp only[Option.getD_none,Option.isSome_none] at c1 c2
  go_enter Tryz.func146,Tryz.ntmps146
  go_wp2;refine yQ (v:=.tuple #[]) (by simp[results,Tryz.results146,go_sem]) rfl ?_
  exact hR.out _ _ ⟨rfl,HO.out⟩
 | some b=>
  have hb:=hr b rfl;simp only[Option.getD_some,Option.isSome_some] at c1 c2;have HN:=zh (uK u b w h1 h2 hb.1 hb.2);have HO:=zh hO;clear hO c1 c2 c3 c4 c5 c6;have c1:=HO.out.obj.c 0;have c2:=HO.out.swap.obj.c 0;have c3:=HO.out.obj.lt;have c4:=HO.out.swap.obj.lt;simp only[Option.getD_some,Option.isSome_some] at c1 c2;refine aj fun R hR=>?_
  go_enter Tryz.func146,Tryz.ntmps146
  go_wp2_with fail
  refine HN.out.mono ?_;rintro e w1 ⟨rfl,hb1⟩;have hO1:=HO.out.move hb1;have d1:=hO1.obj.c 0;have d2:=hO1.swap.obj.c 0;have d3:=hO1.obj.lt;have d4:=hO1.swap.obj.lt;have d5:=hO1.obj.frozen 0;have d6:=hO1.swap.obj.frozen 0;by_cases hn:near u b
  ·rw[zL hn];have HO1:=zh ((hO1.set 0 (.int .i64 u)).swap.set 0 (.bool true)).swap;have HB:=zh (show dN [u] (some b)=some u from by simp[dN,hn]);clear hO1 HO hn HN;go_wp2;refine yQ (v:=.tuple #[]) (by simp[results,Tryz.results146,go_sem]) rfl ?_;refine hR.out _ _ ⟨rfl,?_⟩;rw[HB.out];exact HO1.out
  ·rw[zK hn];have HO1:=zh hO1;have HB:=zh (show dN [u] (some b)=some b from by simp[dN,hn]);clear hO1 HO hn HN;go_wp2;refine yQ (v:=.tuple #[]) (by simp[results,Tryz.results146,go_sem]) rfl ?_;refine hR.out _ _ ⟨rfl,?_⟩;rw[HB.out];exact HO1.out
theorem qz (vi vf:Value) (I F:List Spn) (m:Mem) (w:World) (hm:m.inn w) (h1:bu m vi vf I F) (hI:I.length≤30000) (hF:F.length≤30000) :
 Calls Tryz.prog 89 #[.agg #[vi,vf]] w fun e w'=>e=.returned (.tuple #[.int .i64 ((bR (mkN I F)).getD 0),.bool (bR (mkN I F)).isSome])∧Below w.heap.size w w':=by
 have hO:=(Own.start hm).al #[vi,vf] 24;have HM:=zh (ib _ _ I F m _ hO.inn h1 zo zo);obtain⟨a1,c1,b1,d1,rfl,rfl⟩:=h1.spell;have hxl:=eu hI hF;have hxo:=gG I F;have l1:=hxl.i;have l2:=hxl.f;rw[← NS.jR] at l2;have HX:=zh (zi hxo.inI (zi hxo.inF (fun s hs=>hxo.bi s hs)));have HO:=zh hO;clear hO h1 hxl hxo;generalize mkN I F=x at *
 refine aj fun R hR=>?_
 go_enter Tryz.func89,Tryz.ntmps89
 go_wp2_with fail
 refine HM.out.mono ?_;rintro e w1 ⟨ri,rf,rfl,hb1,hr1⟩;have hO1:=HO.out.call hb1;obtain⟨xa,xc,ya,yc,rfl,rfl⟩:=hr1.spell;have hO2:=((hO1.al #[.slice xa x.i.length xc,.slice ya x.rf.length yc] 24).al #[.int .i64 0] 2).al #[.bool false] 4;have e1:(w1.alloc (.cells #[.slice xa x.i.length xc,.slice ya x.rf.length yc] 24)).heap.size=w1.heap.size+1:=by simp
 have e2:((w1.alloc (.cells #[.slice xa x.i.length xc,.slice ya x.rf.length yc] 24)).alloc (.cells #[.int .i64 0] 2)).heap.size=w1.heap.size+1+1:=by simp
 rw[e2,e1] at hO2;generalize m.grow (w.alloc (.cells #[.slice a1 I.length c1,.slice b1 F.length d1] 24)) w1=mk at *
 have HK:=zh (zi hO2.swap.Sb hr1);clear hO1 hO2 hr1 hb1 HM HO e1 e2;go_wp2;generalize w1.heap.size=S at *
 refine au [4,5,6,7,16,17,18] (fun n vs wr=>∃(k:Nat) (r:Option Int),k≤x.i.length∧n=x.i.length - k∧vs=[.pointer (some ⟨S,0,none⟩),.pointer (some ⟨S+1,0,none⟩),.pointer (some ⟨S+1+1,0,none⟩),.func (.func 146) #[] #[.pointer (some ⟨S+1+1,0,none⟩),.pointer (some ⟨S+1,0,none⟩)],.slice xa x.i.length xc,.int .i64 x.i.length,.int .i64 k] ∧
  r=dN ((x.i.take k).map (fun s=>df s 0*10000)) none∧Gb r∧Own w m wr mk [.obj (S+1) 2 #[.int .i64 (r.getD 0)],.obj (S+1+1) 4 #[.bool r.isSome],.obj S 24 #[.slice xa x.i.length xc,.slice ya x.rf.length yc]]) ?_ ?_
 ·exact⟨_,0,none,zC _,rfl,rfl,rfl,(fun u h=>by cases h),HK.out.1⟩
 rintro X z n vs wr hX - ⟨k,r,hk,rfl,rfl,hr,hri,hO⟩;simp[litL,lk];by_cases hlt:k<x.i.length
 ·have hnums:=HK.out.2.i;obtain⟨ad,cc,e,q1,q2,q3⟩:=hnums;injection e with e1 e2 e3;subst e1;obtain⟨b,off,rfl,h4⟩:=q3 (by intro h;simp[h] at hlt);have hg:=h4 k hlt;have r1:=Mem.ak hO.inn hg.1;have r2:=Mem.ak hO.inn hg.2.1;have rl:=Mem.ay hO.inn hg.1;have hin:=HX.out.1 x.i[k] (zB hlt);have hstep:dN ((x.i.take (k+1)).map (fun s=>df s 0*10000)) none=dN [df x.i[k] 0*10000] r:=by
   rw[zF hlt,yD,kE,← hr]
   rfl
  have hbi:=HX.out.2.2 x.i[k] (zB hlt);simp only[fG] at hbi;have HS:=zh (zi hstep hri);clear hstep h4 hg q1 q2 q3 e3 hr hri;generalize x.i[k]=q at *
  obtain⟨qa,qb⟩:=q;simp only at r1 r2 hbi;have hO2:=hO.al #[.int .i64 qa,.int .i64 qb] 153;have HO2:=zh hO2;have HQ:=zh (fun w'=>rF (qa,qb) 0 w');have hnb:=MS hin (mid:=0) zo zo;have hnb2 : -100000000000≤df (qa,qb) 0∧df (qa,qb) 0≤100000000000:=by
   unfold spIn at hin;simp only at hin;have e:df (qa,qb) 0=if qa > 0 then qa else if qb<0 then qb else 0:=rfl;rw[e]
   split
   ·omega
   ·split <;> omega
  clear hO hO2 hin
  go_wp2_with fail
  refine (HQ.out _).mono ?_;rintro e w3 ⟨rfl,hb3⟩;have hO3:=(HO2.out.move hb3).tail;generalize hV:df (qa,qb) 0=nv at *
  have HT:=zh (AU (nv*10000) (S+1+1) (S+1) r hO3 zo zo HS.out.2);have HBI:=zh (tF (u:=nv*10000) HS.out.2 zo zo);clear hO3 HO2 hb3 r1 r2 rl HQ
  go_wp2_with fail
  refine HT.out.mono ?_;rintro e w4 ⟨rfl,hO4⟩;have HO4:=zh hO4;clear hO4 HT;go_wp2;refine hX.out _ _ _ zo rfl ⟨k+1,_,zo,rfl,rfl,HS.out.1.symm,?_,?_⟩
  ·first
    | exact HBI.out
    | (rw[hV];exact HBI.out)
  ·first
    | exact HO4.out
    | (rw[hV];exact HO4.out)
 ·obtain rfl:k=x.i.length:=zo;rw[yB] at hr;subst hr;have q1:=hO.third.obj.c 1;have q2:=hO.third.obj.lt;have HR:=zh (zi hO (zi hri True.intro));clear hO hri hX;go_wp2;refine au [4,5,6,7,29,30,31] (fun n vs wr=>∃(k:Nat) (r:Option Int),k≤x.rf.length∧n=x.rf.length - k∧vs=[.pointer (some ⟨S,0,none⟩),.pointer (some ⟨S+1,0,none⟩),.pointer (some ⟨S+1+1,0,none⟩),.func (.func 146) #[] #[.pointer (some ⟨S+1+1,0,none⟩),.pointer (some ⟨S+1,0,none⟩)],.slice ya x.rf.length yc,.int .i64 x.rf.length,.int .i64 k] ∧
   r=dN ((x.rf.take k).map (fun s=>df s 1)) (dN (x.i.map (fun s=>df s 0*10000)) none)∧Gb r∧Own w m wr mk [.obj (S+1) 2 #[.int .i64 (r.getD 0)],.obj (S+1+1) 4 #[.bool r.isSome],.obj S 24 #[.slice xa x.i.length xc,.slice ya x.rf.length yc]]) ?_ ?_
  ·exact⟨_,0,_,zC _,rfl,rfl,rfl,HR.out.2.1,HR.out.1⟩
  clear HR;rintro Y z n vs wr hY - ⟨k,r,hk,rfl,rfl,hr,hri,hO⟩;simp[litL,lk];by_cases hlt:k<x.rf.length
  ·have hnums:=HK.out.2.f;obtain⟨ad,cc,e,q1,q2,q3⟩:=hnums;injection e with e1 e2 e3;subst e1;obtain⟨b,off,rfl,h4⟩:=q3 (by intro h;simp[h] at hlt);have hg:=h4 k hlt;have r1:=Mem.ak hO.inn hg.1;have r2:=Mem.ak hO.inn hg.2.1;have rl:=Mem.ay hO.inn hg.1;have hin:=HX.out.2.1 x.rf[k] (zB hlt);have hstep:dN ((x.rf.take (k+1)).map (fun s=>df s 1)) (dN (x.i.map (fun s=>df s 0*10000)) none)=dN [df x.rf[k] 1] r:=by
    rw[zF hlt,yD,kE,← hr]
    rfl
   have HS:=zh (zi hstep hri);clear hstep h4 hg q1 q2 q3 e3 hr hri;generalize x.rf[k]=q at *
   obtain⟨qa,qb⟩:=q;simp only at r1 r2;have hO2:=hO.al #[.int .i64 qa,.int .i64 qb] 153;have HO2:=zh hO2;have HQ:=zh (fun w'=>rF (qa,qb) 1 w');have hnb:=MS hin (mid:=1) zo zo;clear hO hO2 hin
   go_wp2_with fail
   refine (HQ.out _).mono ?_;rintro e w3 ⟨rfl,hb3⟩;have hO3:=(HO2.out.move hb3).tail;generalize hV:df (qa,qb) 1=nv at *
   have HT:=zh (AU nv (S+1+1) (S+1) r hO3 zo zo HS.out.2);have HBI:=zh (tF (u:=nv) HS.out.2 zo zo);clear hO3 HO2 hb3 r1 r2 rl HQ
   go_wp2_with fail
   refine HT.out.mono ?_;rintro e w4 ⟨rfl,hO4⟩;have HO4:=zh hO4;clear hO4 HT;go_wp2;refine hY.out _ _ _ zo rfl ⟨k+1,_,zo,rfl,rfl,HS.out.1.symm,?_,?_⟩
   ·first
     | exact HBI.out
     | (rw[hV];exact HBI.out)
   ·first
     | exact HO4.out
     | (rw[hV];exact HO4.out)
  ·obtain rfl:k=x.rf.length:=zo;rw[yB] at hr;subst hr;have q1:=hO.obj.c 0;have q2:=hO.obj.lt;have q3:=hO.swap.obj.c 0;have q4:=hO.swap.obj.lt;have HB:=zh hO.below;have HL:=zh (show bR x=dN (x.rf.map (fun s=>df s 1)) (dN (x.i.map (fun s=>df s 0*10000)) none) from by unfold bR Sd;rw[kE]);rw[HL.out] at hR;generalize dN (x.rf.map (fun s=>df s 1)) (dN (x.i.map (fun s=>df s 0*10000)) none)=rr at *
   clear hO hri;go_wp2
   go_quiet (fail)
   go_wp2;exact hR.out _ _ ⟨rfl,below_drewN HB.out _⟩
theorem xI {α:Type} (p:α→Prop):∀(l:List α) (k:Nat),0≤firstIdx p l k↔∃x∈l,p x
 | [],k=>by unfold firstIdx;simp
 | x::l,k=>by
  unfold firstIdx;by_cases h:p x
  ·rw[zI (aN h)];simp[h]
  ·rw[zH (by rw[aK h];simp),xI p l (k+1)];simp[h]
theorem CQ (v:Value) (l:List ByteArray) (x:ByteArray) (m:Mem) (w:World) (hm:m.inn w) (hl:pG m v l) :
 Calls Tryz.prog 299 #[v,.string x] w fun e w'=>e=.returned (.int .i64 (firstIdx (fun y=>x.toList=y.toList) l 0))∧Below w.heap.size w w':=by
 obtain⟨a,c,rfl,h1,h2,h3⟩:=hl;unfold maxLen at h2;refine aj fun R hR=>?_
 go_enter Tryz.func299,Tryz.ntmps299
 go_wp2;refine au [0,1,7,8] (fun n vs wr=>∃k:Nat,k≤l.length∧n=l.length - k∧vs=[.slice a l.length c,.string x,.int .i64 l.length,.int .i64 k]∧firstIdx (fun y=>x.toList=y.toList) l 0=firstIdx (fun y=>x.toList=y.toList) (l.drop k) k∧Below w.heap.size w wr) ?_ ?_
 ·exact⟨_,0,zC _,rfl,rfl,rfl,zP _ _⟩
 rintro X z n vs wr hX - ⟨k,hk,rfl,rfl,hrel,hbel⟩;have Hrel:=zh hrel;clear hrel;simp[litL,lk];have hmr:=Mem.bJ hm hbel;by_cases hlt:k<l.length
 ·obtain⟨b,off,rfl,h4⟩:=h3 (by intro h;simp[h] at hlt);obtain⟨g1,-⟩:=h4 k hlt;have c1:=Mem.ak hmr g1;have cl:=Mem.ay hmr g1;have HD:=zh (iM (fun y=>x.toList=y.toList) l k hlt);clear h4;by_cases hx:x.toList=l[k].toList
  ·have hb1:(x.toList==l[k].toList)=true:=by simp[hx]
   have Hx:=zh hx;clear hx;go_wp2;exact hR.out _ _ ⟨dB (by rw[Hrel.out,HD.out,zI (aN Hx.out)]),hbel⟩
  ·have hb1:(x.toList==l[k].toList)=false:=by simp[hx]
   have Hx:=zh hx;clear hx;go_wp2;exact hX.out _ _ _ zo rfl ⟨k+1,zo,rfl,rfl,by rw[Hrel.out,HD.out,zH (by rw[aK Hx.out];simp)],hbel⟩
 ·go_wp2;exact hR.out _ _ ⟨dB (by rw[Hrel.out,zO zo];rfl),hbel⟩
theorem vE (v:Value) (l:List ByteArray) (x:ByteArray) (m:Mem) (w:World) (hm:m.inn w) (hl:pG m v l) :
 Calls Tryz.prog 250 #[v,.string x] w fun e w'=>e=.returned (.bool (tf (∃y∈l,x.toList=y.toList)))∧Below w.heap.size w w':=by
 have HI:=zh (CQ v l x m w hm hl);have HF:=zh (xI (fun y:ByteArray=>x.toList=y.toList) l 0);obtain⟨a,c,rfl,h1,h2,h3⟩:=hl;refine aj fun R hR=>?_
 go_enter Tryz.func250,Tryz.ntmps250
 go_wp2_with fail
 refine HI.out.mono ?_;rintro e w1 ⟨rfl,hb⟩;have HB:=zh hb;clear hb;generalize firstIdx (fun y:ByteArray=>x.toList=y.toList) l 0=i at *
 go_wp2;refine hR.out _ _ ⟨aL ?_,HB.out⟩;by_cases h:∃y∈l,x.toList=y.toList
 ·rw[aN h];exact zL (HF.out.2 h)
 ·rw[aK h];exact zK (fun h2=>h (HF.out.1 h2))
end Cl
