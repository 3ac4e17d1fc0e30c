/- Lemmas for the proofs of chapter 11. -/
import Derived.Shelf.Spec.SlicesGrow
import Derived.Test.YtjhipmdamaocmaaGreatDoorPkN4
set_option maxRecDepth 100000
set_option maxHeartbeats 16000000
namespace Cl
open Go Go.RowKit
def CO {α:Type} (P:Program) (l:Nat) (encs:α→Array Value) (w0:World) (m mk1:Mem) (C:List α→α→Prop) (B Bx:List α→List Item→Prop):Prop:=
 ∀(pre:List α) (x:α) (W:World) (mk:Mem) (Lt Lr:List Item),C pre x→B pre Lt→Own w0 m W mk (Lt ++ Lr)→mk1.le mk→YieldAt Fence.wide 0 P l (encs x) W fun e W'=>
  (e=.returned (.bool true)∧∃mk' Lt',B (pre ++ [x]) Lt'∧Own w0 m W' mk' (Lt' ++ Lr)∧mk.le mk') ∨
  (e=.returned (.bool false)∧∃mk' Lt',Bx (pre ++ [x]) Lt'∧Own w0 m W' mk' (Lt' ++ Lr)∧mk.le mk')
theorem CX {α:Type} {P:Program} {g:Operand} {ps:Array Tmp} {assign body:Code} {Q:Exit→Act→World→Prop} {a:Act} {w:World} {gf:Nat} {lb:Array Value}
 (hg:a.eval g=.func (.func gf) #[] lb) (eg:∀args w,(callFunc gf args).run P w=.ok (.enter gf args) w) {encs:α→Array Value} (hps:∀x,(encs x).size=ps.size)
 {w0:World} {m mk:Mem} {L0:List Item} (hO:Own w0 m w mk L0) (I:List α→List Item→Prop) (Ix:Code→List α→List Item→Prop) (S Sp:List α→Prop) (C:List α→α→Prop) (h0:I [] L0)
 (hseq:∀(l:Nat) (W1:World) (L1:List Item) (B Bx:List α→List Item→Prop),B [] L1→(∀pre Lt,B pre Lt→∃L,I pre L)→(∀pre Lt,Bx pre Lt→∃c L,Ix c pre L)→Own w0 m W1 mk L1→CO P l encs w0 m mk C B Bx →
  Calls P gf (#[.func (.yield l) #[] #[]] ++ lb) W1 (Jv w0 m mk B Bx S Sp))
 (J:List α→α→Act→List Item→Prop)
 (hassign:∀(l:Nat) (pre:List α) (x:α) (W:World) (mk1:Mem) (Lt Lr:List Item) (K:Act→World→Prop),C pre x→I pre Lt→Own w0 m W mk1 (Lt ++ Lr)→mk.le mk1 →
  (∀a1 W1 Lt1,J pre x a1 Lt1→Own w0 m W1 mk1 (Lt1 ++ Lr)→K a1 W1) →
  assign.wpIn (Fence.wide.inRound l) 0 P (Exit.then K (fun _ _ _=>False)) { tmps:=(ps.zip (encs x)).foldl (fun t (p,v)=>t.setIfInBounds p v) a.tmps,defers:=[] } W)
 (hbody:∀(l:Nat) (pre:List α) (x:α) (a1:Act) (W:World) (mk1:Mem) (Lt Lr:List Item),C pre x→J pre x a1 Lt→Own w0 m W mk1 (Lt ++ Lr)→mk.le mk1 →
  body.wpIn (Fence.wide.inRound l) 0 P (vQ w0 m mk1 Lr I Ix (pre ++ [x])) a1 W)
 (hdone:∀(D:Nat) (xs:List α) (W:World) (mk1:Mem) (L:List Item),S xs→I xs L→Own w0 m W mk1 (.blob D (.deferred (some []))::L)→mk.le mk1→Q .normal { a with defers:={ target:=.collected D,args:=#[] }::a.defers } W)
 (hstop:∀(D:Nat) (c:Code) (xs:List α) (W:World) (mk1:Mem) (L:List Item),Sp xs→Ix c xs L→Own w0 m W mk1 (.blob D (.deferred (some []))::L)→mk.le mk1 →
  c.wpIn Fence.wide 0 P Q { a with defers:={ target:=.collected D,args:=#[] }::a.defers } W) :
 (Code.rangeFunc g ps assign body).wpIn Fence.wide 0 P Q a w:=by
 refine wpIn_rangeFunc ?_;intro fn _;obtain⟨rec,hrec⟩:∃rec:LoopState→Option Code→Loop,rec=fun st pe=>{ state:=st,pending:=pe,fn,tmps:=a.tmps,params:=ps,assign,body,defers:=w.heap.size }:=⟨_,rfl⟩;have hO1:=(hO.BA (.deferred (some []))).BA (.loop (rec .ready none));have hsz:(w.alloc (.deferred (some []))).heap.size=w.heap.size+1:=by simp
 rw[hsz] at hO1;have hent:=run_enterLoop_outer (P:=P) (w:=w) fn a.tmps ps assign body;have hre:(Obj.loop { state:=.ready,pending:=none,fn,tmps:=a.tmps,params:=ps,assign,body,defers:=w.heap.size })=.loop (rec .ready none):=by rw[hrec]
 rw[hre] at hent;generalize (w.alloc (.deferred (some []))).alloc (.loop (rec .ready none))=W1 at *
 generalize w.heap.size=D at *
 have hround:CO P (D+1) encs w0 m mk C (fun pre Lt=>∃L,I pre L∧Lt=.blob (D+1) (.loop (rec .ready none))::.blob D (.deferred (some []))::L)
  (fun pre Lt=>∃c L,Ix c pre L∧Lt=.blob (D+1) (.loop (rec .done (some c)))::.blob D (.deferred (some []))::L):=by
  rintro pre x W mk1 Lt Lr hC ⟨L,hI,rfl⟩ hOw hle;have hl:=hOw.blob;have hy:=run_yield (P:=P) (args:=encs x) hl (by rw[hrec];exact hps x);rw[hrec] at hy;refine ⟨fn,_,assign,body,hy,roundIn_of_wpIn trivial (hassign _ pre x W mk1 L _ _ hC hI (hOw.perm (oP _ _ L Lr)) hle ?_)⟩;intro a1 W1' Lt1 hJ hOa;have hOw:=hOa.perm (oP _ _ Lt1 Lr).symm;have hl:=hOw.blob;refine ⟨_,run_beginRound hl (by rw[hrec]),?_⟩;have hO2:=hOw.jm (o':=.loop { rec .ready none with state:=.busy }) (World.putObj_heap_same (Array.getElem?_eq_some_iff.1 hl).1) (grownBy_putObj' _ _ _);have hO3:=hO2.perm (oP _ _ Lt1 Lr);refine wpIn_mono (hbody _ pre x a1 _ mk1 Lt1 _ hC hJ hO3 hle) ?_;have fin:∀(jump:Option Code) (W3:World) (mk2:Mem) (L2:List Item),Own w0 m W3 mk2 (L2 ++ (.blob (D+1) (.loop { rec .ready none with state:=.busy })::.blob D (.deferred (some []))::Lr)) →
   ∃W4,(Instr.endRound (D+1) jump).run P W3=.ok (.bool jump.isNone) W4∧Own w0 m W4 mk2 (.blob (D+1) (.loop (rec (if jump.isNone then .ready else .done) jump))::.blob D (.deferred (some []))::(L2 ++ Lr)):=by
   intro jump W3 mk2 L2 h3;have h4:=h3.perm (oP _ _ L2 Lr).symm;have hl3:=h4.blob;have hr:=run_endRound (P:=P) jump hl3;refine ⟨_,hr,?_⟩;have:=h4.jm (o':=.loop { rec .ready none with state:=if jump.isNone then .ready else .done,pending:=jump }) (World.putObj_heap_same (Array.getElem?_eq_some_iff.1 hl3).1) (grownBy_putObj' _ _ _);rw[hrec] at this ⊢;exact this
  rintro e a3 W3 hp
  cases e with
  | normal=>
   obtain⟨mk2,L2,hi,ho,hm⟩:=hp;obtain⟨W4,hr,ho4⟩:=fin none W3 mk2 L2 ho
   exact⟨_,_,hr,.inl ⟨rfl,mk2,_,⟨L2,hi,rfl⟩,ho4,hm⟩⟩
  | ret=>
   obtain⟨mk2,L2,hi,ho,hm⟩:=hp;obtain⟨W4,hr,ho4⟩:=fin (some .ret) W3 mk2 L2 ho
   exact⟨_,_,hr,.inr ⟨rfl,mk2,_,⟨.ret,L2,hi,rfl⟩,ho4,hm⟩⟩
  | exit id=>
   obtain⟨mk2,L2,hi,ho,hm⟩:=hp;obtain⟨W4,hr,ho4⟩:=fin (some (.exit id)) W3 mk2 L2 ho
   exact⟨_,_,hr,.inr ⟨rfl,mk2,_,⟨.exit id,L2,hi,rfl⟩,ho4,hm⟩⟩
  | goto t=>
   obtain⟨mk2,L2,hi,ho,hm⟩:=hp;obtain⟨W4,hr,ho4⟩:=fin (some (.goto t)) W3 mk2 L2 ho
   exact⟨_,_,hr,.inr ⟨rfl,mk2,_,⟨.goto t,L2,hi,rfl⟩,ho4,hm⟩⟩
  | panic ch=>exact hp.elim
  | outgrown=>exact hp.elim
 refine ⟨D+1,[{ target:=.collected D,args:=#[] }],W1,{ target:=.fn (.func gf) lb,args:=#[.func (.yield (D+1)) #[] #[]] },W1,gf,
  #[.func (.yield (D+1)) #[] #[]] ++ lb,W1,hent,?_,fun _ _=>trivial,?_,fun h=>absurd h (by simp[Fence.wide]),?_⟩
 ·simp only[resolve,hg];simp[go_sem]
 ·simp[invoke,go_sem,eg]
 ·refine callsIn_wide.2 ((hseq (D+1) W1 _ _ _ ⟨L0,h0,rfl⟩ (fun _ _ h=>h.elim fun L hL=>⟨L,hL.1⟩) (fun _ _ h=>h.elim fun c h=>h.elim fun L hL=>⟨c,L,hL.1⟩) hO1 hround).mono ?_);rintro e W3 ⟨⟨v,rfl⟩,hend⟩;rcases hend with ⟨xs,mk2,Lt,hS,⟨L,hI,rfl⟩,ho,hm⟩ | ⟨xs,mk2,Lt,hS,⟨c,L,hI,rfl⟩,ho,hm⟩
  ·have hl3:=ho.blob;have hO4:=ho.jm (o':=.loop { rec .ready none with state:=.exhausted }) (World.putObj_heap_same (Array.getElem?_eq_some_iff.1 hl3).1) (grownBy_putObj' _ _ _);refine ⟨none,_,?_,hdone D xs _ mk2 L hS hI hO4.tail hm⟩;have:=run_endLoop (P:=P) hl3 (by rw[hrec];simp);rw[this,hrec]
  ·have hl3:=ho.blob;have hO4:=ho.jm (o':=.loop { rec .done (some c) with state:=.exhausted }) (World.putObj_heap_same (Array.getElem?_eq_some_iff.1 hl3).1) (grownBy_putObj' _ _ _);refine ⟨some c,_,?_,hstop D c xs _ mk2 L hS hI hO4.tail hm⟩;have:=run_endLoop (P:=P) hl3 (by rw[hrec];simp);rw[this,hrec]
end Cl
namespace Go.Proofs
open Go.Shelf
def Tryz.KH:Go.Shelf.Ren:=⟨fun | 4=>317 | n=>n,fun | 22=>22 | 25=>153 | 3=>3 | 4=>4 | 9=>9 | 20=>20 | 0=>0 | 2=>2 | n=>n,fun | n=>n⟩
theorem Tryz.Qn:Go.Proofs.Lays8.n4 Tryz.prog Tryz.KH:={
 mixed:=by kernel_rfl
 f4:=⟨Tryz.f317.name,by decide,Tryz.func317.trans (congrArg some zk)⟩
 t0:=Tryz.underlying0
 a0:=Tryz.isAgg0
 z0:=Tryz.sizeOf0
 v0:=Tryz.zeroValue0
 t3:=Tryz.underlying3
 a3:=Tryz.isAgg3
 z3:=Tryz.sizeOf3
 v3:=Tryz.zeroValue3
 t4:=Tryz.underlying4
 a4:=Tryz.isAgg4
 z4:=Tryz.sizeOf4
 v4:=Tryz.zeroValue4
 t9:=Tryz.underlying9
 a9:=Tryz.isAgg9
 z9:=Tryz.sizeOf9
 v9:=Tryz.zeroValue9
 t20:=Tryz.underlying20
 a20:=Tryz.isAgg20
 z20:=Tryz.sizeOf20
 v20:=Tryz.zeroValue20
 t22:=Tryz.underlying22
 a22:=Tryz.isAgg22
 z22:=Tryz.sizeOf22
 v22:=Tryz.zeroValue22 }
end Go.Proofs
namespace Cl
open Go Go.RowKit
theorem wC {P:Program} {t e:TypeId} {size bytes:Nat} (S:gL P t e size bytes) (w:World) (ty:TypeId) (v:Value) (n:Nat) (xs:List Value) (hown:w.ownsRow 0 e size v n xs)
 (ad:Option Addr) (m c:Nat) (news:List Value) (hl:news.length=m*size) (hnews:0<m→∃a,ad=some a∧∀j u,news[j]?=some u→w.cell? (a.add j)=some u) (h1:∀u∈news,u.oneCell'=true)
 (h63:n+m≤maxLen) (hbytes:(n+m)*bytes≤140737488355328) :
 ∃v' w',(Builtin.append_ #[t,t] ty #[v,.slice ad m c]).run P w=.ok v' w'∧w'.ownsRow 0 e size v' (n+m) (xs ++ news)∧w.grownBy w' v.ownBlock ∧
  (∀k,v'.ownBlock=some k→v.ownBlock=some k∨w.heap.size≤k):=by
 cases ad with
 | some a=>
  refine iR S w ty v n xs hown a m c news hl ?_ h1 h63 hbytes;rcases Nat.eq_zero_or_pos m with h | h
  ·subst h;have:news=[]:=yH (by rw[hl,Nat.zero_mul]);subst this;intro j u hj;simp at hj
  ·obtain⟨a',e,h2⟩:=hnews h;cases e
   exact h2
 | none=>
  have hm:m=0:=by
   rcases Nat.eq_zero_or_pos m with h | h
   ·exact h
   ·obtain⟨a',e,-⟩:=hnews h;cases e
  subst hm;have:news=[]:=yH (by rw[hl,Nat.zero_mul]);subst this;obtain⟨i,z,hi,hz,hsize,hby,hzs⟩:=S.info;refine ⟨v,w,?_,by simpa using hown,World.grownBy.refl w _,fun k hk=>.inl hk⟩;rcases hown.2 with ⟨rfl,rfl⟩ | ⟨g,cap,cur,rfl,-,-,hnc,-⟩
  ·simp[Builtin.append_,run_underlying S.ht,Go.sizeOf,Go.typeInfo,hi,Builtin.lenOf,Builtin.firstCells]
  ·simp[Builtin.append_,run_underlying S.ht,Go.sizeOf,Go.typeInfo,hi,Builtin.lenOf,Builtin.firstCells,hnc,storeCells]
theorem dS {P:Program} {t e:TypeId} {size bytes:Nat} (S:gL P t e size bytes) {w:World} {ops:Array Oper} {rest:List Oper} {o:Oper} {a:Act} {Q:Exit→Act→World→Prop} (hgd:o.guard=none) (s x:Operand)
 (ho:o.op=.call { callee:=.builtin .append,args:=#[s,x],argTypes:=#[t,t] })
 (v:Value) (n:Nat) (xs:List Value) (hs:a.eval s=v) (hown:w.ownsRow 0 e size v n xs)
 (ad:Option Addr) (m c:Nat) (news:List Value) (hx:a.eval x=.slice ad m c) (hl:news.length=m*size) (hnews:0<m→∃a,ad=some a∧∀j u,news[j]?=some u→w.cell? (a.add j)=some u) (h1:∀u∈news,u.oneCell'=true)
 (h63:n+m≤maxLen) (hbytes:(n+m)*bytes≤140737488355328)
 (h:∀va vc w',w'.ownsRow 0 e size (.slice va (n+m) vc) (n+m) (xs ++ news)→w.grownBy w' v.ownBlock→(∀k,(Value.slice va (n+m) vc).ownBlock=some k→v.ownBlock=some k∨w.heap.size≤k)→wpList P ops Q rest (a.put o.dst (.slice va (n+m) vc)) w'):wpList P ops Q (o::rest) a w:=by
 refine wpList_plain hgd fun _ hK=>?_;obtain⟨v',w',hr,h2,h3,h4⟩:=wC S w o.type v n xs hown ad m c news hl hnews h1 h63 hbytes;obtain⟨va,vc,rfl⟩:=aM h2;unfold Oper.wp execOp;simp only[ho,resolve,invoke,builtin,Sem.run_bind,Sem.run_pure,Result.andThen_ok,List.map_toArray,yG,List.map_nil,hs,hx,hr];exact hK _ _ (h va vc w' h2 h3 h4)
theorem Dl {m:Mem} {w:World} (hm:m.inn w) {ad:Option Addr} {c:Nat} {l:List ByteArray} (h:pG m (.slice ad l.length c) l) :
 0<l.length→∃a,ad=some a∧∀j u,(l.map Value.string)[j]?=some u→w.cell? (a.add j)=some u:=fun hp=>by
 obtain⟨a',c',e,-,-,h4⟩:=h;cases e;obtain⟨b,off,rfl,h5⟩:=h4 (fun e=>by rw[e] at hp;cases hp);refine ⟨_,rfl,fun j u hj=>?_⟩;rw[Addr.add_lit];have hlt:j<l.length:=by
  have:=(List.getElem?_eq_some_iff.1 hj).1;simpa using this
 have:=Mem.ak hm (h5 j hlt).1;rw[this];simp[hlt] at hj;rw[hj]
theorem Mc {α:Type} {l:List α} {s:Nat} (h:s<l.length) (x:α):l.set s x=l.take s ++ x::l.drop (s+1):=by
 rw[List.set_eq_take_append_cons_drop,zI h]
theorem Mx {α:Type} {l:List α} {s:Nat} (h:s<l.length):l=l.take s ++ l[s]::l.drop (s+1):=by
 rw[← zZ h,List.take_append_drop]
section
variable {w0 w w':World} {m mk:Mem} {L:List Item}
theorem Own.FH {l:List Item} {s:Nat} (hs:s<l.length) (h:Own w0 m w mk (l ++ L)):Own w0 m w mk (l[s]::(l.take s ++ (l.drop (s+1) ++ L))):=by
 refine h.perm ?_;have e:l ++ L=l.take s ++ l[s]::(l.drop (s+1) ++ L):=by
  rw[← List.cons_append,← List.append_assoc,← Mx hs]
 rw[e];exact List.perm_middle.symm
theorem Own.setAt {l:List Item} {s:Nat} {it:Item} (hs:s<l.length) (h:Own w0 m w mk (l ++ L)) (hstep:∀L',Own w0 m w mk (l[s]::L')→Own w0 m w' mk (it::L')):Own w0 m w' mk (l.set s it ++ L):=by
 have h1:=hstep _ (h.FH hs);refine h1.perm ?_;rw[Mc hs,List.append_assoc,List.cons_append];exact List.perm_middle
end
theorem Own.fore {w0 w:World} {m mk:Mem} {l₁ l₂:List Item} {a:Item} (h:Own w0 m w mk (l₁ ++ a::l₂)):Own w0 m w mk (a::(l₁ ++ l₂)):=h.perm List.perm_middle.symm
theorem Own.RB {w0 w:World} {m mk:Mem} {l₁ l₂:List Item} {a:Item} (h:Own w0 m w mk (a::(l₁ ++ l₂))):Own w0 m w mk (l₁ ++ a::l₂):=h.perm List.perm_middle
theorem xH {m:Mem} {w w':World} {g i:Nat} {v:Value} (hg:w.heap.size≤g) (h:w'.cell? ⟨g,i,none⟩=some v):(m.grow w w').cell g i=some v:=by
 unfold World.cell? at h;unfold Mem.cell Mem.grow;rw[zH zo]
 split at h
 ·rename_i hb;rw[hb];simpa using h
 ·cases h
def brow (b:Nat→Nat→Bool) (M s:Nat):List Value:=(List.range (M+1)).map fun n=>.bool (b s n)
def rsl (g:Nat→Nat) (M s:Nat):Value:=.slice (some ⟨g s,0,none⟩) (M+1) (M+1)
def yZ (t:TypeId) (g:Nat→Nat) (b:Nat→Nat→Bool) (M s:Nat):Item:=.row (rsl g M s) t 1 (M+1) (brow b M s)
def dD (t:TypeId) (g:Nat→Nat) (b:Nat→Nat→Bool) (M N:Nat):List Item:=(List.range N).map (yZ t g b M)
def bset (b:Nat→Nat→Bool) (s n:Nat) (x:Bool):Nat→Nat→Bool:=fun s' n'=>if s'=s∧n'=n then x else b s' n'
theorem CG (b:Nat→Nat→Bool) {M s n:Nat} (h:n≤M):(brow b M s)[n]?=some (.bool (b s n)):=by
 have:n<M+1:=zo;simp[brow,this]
theorem P7 (b:Nat→Nat→Bool) {M s n:Nat} (x:Bool):(brow b M s).set n (.bool x)=brow (bset b s n x) M s:=by
 apply List.ext_getElem?;intro i;rw[List.getElem?_set];by_cases e:n=i
 ·subst e;by_cases h:n<M+1
  ·simp[brow,bset,h]
  ·simp[brow,h]
 ·rw[zH e];simp only[brow,List.getElem?_map,bset];by_cases h:i<M+1
  ·have:¬ i=n:=fun x=>e x.symm;simp[h,this]
  ·simp[h]
theorem Bq {b b':Nat→Nat→Bool} {M s:Nat} (h:∀n,n≤M→b s n=b' s n):brow b M s=brow b' M s:=by
 unfold brow;apply List.map_congr_left;intro n hn;rw[h n (by have:=List.mem_range.1 hn;omega)]
theorem gQ {t:TypeId} {g g':Nat→Nat} {b b':Nat→Nat→Bool} {M N:Nat} (hg:∀s,s<N→g s=g' s) (h:∀s n,s<N→n≤M→b s n=b' s n):dD t g b M N=dD t g' b' M N:=by
 unfold dD;apply List.map_congr_left;intro s hs;have hs:=List.mem_range.1 hs;unfold yZ rsl;rw[hg s hs,Bq fun n hn=>h s n hs hn]
theorem oJ (t:TypeId) (g:Nat→Nat) (b:Nat→Nat→Bool) (M N:Nat):(dD t g b M N).length=N:=by simp[dD]
theorem wE {t:TypeId} {g:Nat→Nat} {b:Nat→Nat→Bool} {M N s:Nat} (h:s<(dD t g b M N).length):(dD t g b M N)[s]=yZ t g b M s:=by simp[dD]
theorem JX {t:TypeId} {g:Nat→Nat} {b:Nat→Nat→Bool} {M N s n:Nat} (x:Bool):(dD t g b M N).set s (yZ t g (bset b s n x) M s)=dD t g (bset b s n x) M N:=by
 apply List.ext_getElem?;intro i;rw[List.getElem?_set];by_cases e:s=i
 ·subst e;rw[oJ];by_cases h:s<N
  ·simp[dD,h]
  ·simp[dD,h]
 ·rw[zH e];by_cases h:i<N
  ·simp only[dD,List.getElem?_map,List.getElem?_range h,Option.map_some,Option.some.injEq];unfold yZ;rw[Bq fun n' _=>?_];have:¬ i=s:=fun x=>e x.symm;simp[bset,this]
  ·simp[dD,h]
theorem FW (t:TypeId) (g:Nat→Nat) (b:Nat→Nat→Bool) (M N:Nat):dD t g b M (N+1)=dD t g b M N ++ [yZ t g b M N]:=by simp[dD,List.range_succ]
section
variable {w0 w w':World} {m mk:Mem} {L:List Item} {t:TypeId} {g:Nat→Nat} {b:Nat→Nat→Bool} {M N:Nat}
theorem Own.MZ {s:Nat} (h:Own w0 m w mk (dD t g b M N ++ L)) (hs:s<N):w.ownsRow 0 t 1 (rsl g M s) (M+1) (brow b M s):=by
 have:=h.FH (s:=s) (by rw[oJ];exact hs);rw[wE] at this;exact this.row
theorem Own.Gs {s n:Nat} (h:Own w0 m w mk (dD t g b M N ++ L)) (hs:s<N) (hn:n≤M):w.cell? ⟨g s,n,none⟩=some (.bool (b s n)):=aT (h.MZ hs) (CG b hn)
theorem Own.M0 {s:Nat} (h:Own w0 m w mk (dD t g b M N ++ L)) (hs:s<N) (n:Nat):w.frozen? ⟨g s,n,none⟩=false:=dh (h.MZ hs) n
theorem Own.R4 {s:Nat} (h:Own w0 m w mk (dD t g b M N ++ L)) (hs:s<N):g s<w.heap.size:=(World.ownsRow.lt (h.MZ hs) _ rfl).2
theorem Own.R3 {s:Nat} (h:Own w0 m w mk (dD t g b M N ++ L)) (hs:s<N):w0.heap.size≤g s:=by
 have:=h.FH (s:=s) (by rw[oJ];exact hs);rw[wE] at this;exact (this.fresh _ (yA ..) (g s) rfl).1
theorem Own.RZ {s n:Nat} (h:Own w0 m w mk (dD t g b M N ++ L)) (hs:s<N) (x:Bool):Own w0 m (w.setCell ⟨g s,n,none⟩ (.bool x)) mk (dD t g (bset b s n x) M N ++ L):=by
 rw[← JX x];refine h.setAt (by rw[oJ];exact hs) fun L' hL=>?_;rw[wE] at hL;have:=Own.setRow (g:=g s) (n:=M+1) (cap:=M+1) (xs:=brow b M s) hL n (.bool x);rw[P7] at this;exact this
theorem Own.QU {k:Nat} (h:Own w0 m w mk (yZ t g b M k::(dD t g b M k ++ L))):Own w0 m w mk (dD t g b M (k+1) ++ L):=by
 rw[FW,List.append_assoc];exact h.perm List.perm_middle
end
def outer (g:Nat→Nat) (M k N:Nat):List Value:=(List.range N).map fun s=>if s<k then rsl g M s else .slice none 0 0
theorem kM {g:Nat→Nat} {M k N s:Nat} (h:s<N):(outer g M k N)[s]?=some (if s<k then rsl g M s else .slice none 0 0):=by simp[outer,h]
theorem MB {g:Nat→Nat} {M k N:Nat} (x:Nat):(outer g M k N).set k (.slice (some ⟨x,0,none⟩) (M+1) (M+1))=outer (fun s=>if s=k then x else g s) M (k+1) N:=by
 apply List.ext_getElem?;intro i;rw[List.getElem?_set];by_cases h:i<N
 ·rw[kM h,kM h];have hl:(outer g M k N).length=N:=by simp[outer]
  by_cases e:k=i
  ·subst e;simp[hl,h,rsl]
  ·rw[zH e];have e':¬ i=k:=fun x=>e x.symm;by_cases h1:i<k
   ·simp[h1,e',rsl,show i<k+1 by omega]
   ·simp[h1,show ¬ i<k+1 by omega]
 ·have hl:(outer g M k N).length=N:=by simp[outer]
  have hl2:(outer (fun s=>if s=k then x else g s) M (k+1) N).length=N:=by simp[outer]
  have e1:(outer g M k N)[i]?=none:=List.getElem?_eq_none zo;have e2:(outer (fun s=>if s=k then x else g s) M (k+1) N)[i]?=none:=List.getElem?_eq_none zo;rw[e1,e2,hl];by_cases e:k=i
  ·rw[zI e,zH zo]
  ·rw[zH e]
end Cl
