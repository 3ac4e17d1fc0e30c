/- Lemmas for the proofs of chapter 11. -/
import Derived.Test.YtdgjplfcpcphoaaGreatDoorProg
import Derived.BigQuiet
import Derived.Deep.Cut
import Derived.Deep.QuietTactic
import Derived.Laws.StructEq
import Derived.Lib.AppendStr
import Derived.Lib.Builder
import Derived.Lib.Hide
import Derived.Lib.ItoaLen
import Derived.Maps.OwnOps
import Derived.Maps.OwnSet
import Derived.OrdersHeld
import Derived.Outline
import Derived.StillTailTactics
import Derived.StringKeys
import Derived.WalkKit
import Derived.WalkLawsBesides
import Derived.WalkSpells
import Derived.Deep.RegionHeld
import Derived.Shelf.Strings.Builder1
import Derived.Shelf.Small.Wraps
import Derived.Shelf.LaysM
import Derived.Shelf.Strconv.Itoa3
import Derived.RegionTactic
import Derived.ChangeAlike
import Derived.RangeFuncNested
import Derived.RangeFuncBound
import Derived.RangeFuncCalls
import Derived.RangeFuncLeaves
import Derived.OwnWalkIn
import Derived.TacticsInMore
import Derived.LoopNIn
import Derived.LoopIn
import Derived.Laws.BytesArg
import Derived.Laws.EntriesVeiled
import Derived.Test.YtdgjplfcpcphoaaGreatDoorZz
import Derived.Test.YtdgjplfcpcphoaaGreatDoorPkV3
import Derived.Test.YtdgjplfcpcphoaaGreatDoorPkV5
import Derived.Test.YtdgjplfcpcphoaaGreatDoorPkV1
import Derived.Test.YtdgjplfcpcphoaaGreatDoorPkV2
import Derived.Test.YtdgjplfcpcphoaaGreatDoorPkV10
import Derived.Test.YtdgjplfcpcphoaaGreatDoorPkV4
import Derived.Test.YtdgjplfcpcphoaaGreatDoorPkV9
import Derived.Test.YtdgjplfcpcphoaaGreatDoorPkV6
import Derived.Test.YtdgjplfcpcphoaaGreatDoorPkV11
import Derived.Test.YtdgjplfcpcphoaaGreatDoorPkV16
import Derived.Test.YtdgjplfcpcphoaaGreatDoorPkV14
import Derived.Test.YtdgjplfcpcphoaaGreatDoorPkV15
set_option maxRecDepth 100000
set_option maxHeartbeats 16000000
namespace Cl
open Go Go.RowKit Go.Proofs
theorem Lb (l:Table):mP (Sem l) (kG l):=by
 refine ⟨Cz l,fun x=>?_⟩;unfold kG Sem;by_cases h:Canon l
 ·simp[aH h]
 ·simp[az h];exact gZ x
structure Fits (A B:Table):Prop where
 mul:(A.length+2)*(B.length+2)≤1000000
 a:A.length≤1000000
 b:B.length≤1000000
theorem Fits.of {A B:Table} {x y:Nat} (hx:A.length≤x) (hy:B.length≤y) (h:(x+2)*(y+2)≤1000000):Fits A B:=by
 have h1:(A.length+2)*(B.length+2)≤(x+2)*(y+2):=Nat.mul_le_mul zo zo;have h2:A.length+2≤(A.length+2)*(B.length+2):=Nat.le_mul_of_pos_right _ zo;have h3:B.length+2≤(A.length+2)*(B.length+2):=Nat.le_mul_of_pos_left _ zo;exact⟨zo,zo,zo⟩
theorem x9:mP (fun _=>true) allT:=by
 have h0:∀w,aF allT 0 w=true:=by
  intro w
  induction w with
  | nil=>rfl
  | cons b w ih=>
   have hb:=b.toNat_lt;have:aV allT 0 b.toNat=0:=by
    show aS [(⟨0,255,0⟩:Ed)] b.toNat=0;simp only[aS];rw[if_pos ⟨Nat.zero_le _,zo⟩]
   simp only[aF,this,ih]
 have ht:∀(k b t:Nat),aV allT k b=t→t=0:=by
  intro k b t h;by_cases hk:k<1
  ·obtain rfl:k=0:=zo;have h1:aS [(⟨0,255,0⟩:Ed)] b=t:=h;simp only[aS] at h1
   split at h1 <;> omega
  ·rw[df allT k b (by simp[allT];omega)] at h;omega
 refine ⟨⟨?_,?_,?_,?_,?_,?_,?_⟩,h0⟩
 ·intro s hs;simp only[allT,List.mem_singleton] at hs;subst hs;exact⟨Nat.zero_le _,zS,by simp[allT],zS,trivial⟩
 ·intro s hs e he;simp only[allT,List.mem_singleton] at hs;subst hs;simp only[List.mem_singleton] at he;subst he;exact⟨zS,zS⟩
 ·intro s hs;simp only[allT,List.mem_singleton] at hs;subst hs;trivial
 ·intro k hk;obtain rfl:k=0:=by simp[allT] at hk;exact hk
  exact⟨[],h0 []⟩
 ·intro i j hi hj _;simp[allT] at hi hj;omega
 ·intro k b t _ h t' h1 h2;have:=ht k b t h;omega
 ·intro t h1 h2;simp[allT] at h2;omega
theorem LU (x:List UInt8):Sem allT x=true:=x9.sem x
theorem FB (m:Mem) (w:World) :
 Calls Tryz.prog 61 #[] w fun e w'=>∃r,e=.returned (.agg #[r])∧Below w.heap.size w w'∧aQ (m.grow w w') r allT:=by
 refine (Fz w).mono ?_;rintro e w' ⟨g1,g2,rfl,hb,h1,h2,h3,o1,o2⟩;have gc:∀{g t arr i v},w.heap.size≤g→bz w' g t arr→arr[i]?=some v→(m.grow w w').cell g i=some v:=by
  intro g t arr i v hg ho hv;unfold Mem.cell Mem.grow;rw[if_neg zo,ho.get];exact hv
 refine ⟨_,rfl,hb,some ⟨g2,0,none⟩,1,rfl,Nat.le_refl _,by simp[maxLen],fun _=>⟨g2,0,rfl,fun i hi=>?_⟩⟩;obtain rfl:i=0:=by simp[allT] at hi;exact hi
 refine ⟨gc h2 o2 rfl,_,gc h2 o2 rfl,some ⟨g1,0,none⟩,1,rfl,Nat.le_refl _,by simp[maxLen],fun _=>⟨g1,0,rfl,fun j hj=>?_⟩⟩;obtain rfl:j=0:=by simp[allT] at hj;exact hj
 exact⟨gc h1 o1 rfl,gc h1 o1 rfl,gc h1 o1 rfl,by simp[allT],by simp[allT],by simp[allT],by simp[allT]⟩
attribute [local go_sem] Oper.semAt_some
def bstr (x:List UInt8):ByteArray:=⟨x.toArray⟩
theorem NG:eT Tryz.prog 143 9 1 16:=⟨Tryz.underlying143,zo,by
 obtain⟨i,h1,h2,h3,h4⟩:=info_parts (P:=Tryz.prog) (e:=9) (z:=.string ⟨#[]⟩) (size:=1) (bytes:=16) zk;exact⟨i,_,h1,h2,h3,h4,rfl⟩⟩
theorem nX {w:World} {t:TypeId} {v:Value} {l:List ByteArray} {m:Mem} (hown:w.ownsRow 0 t 1 v l.length (l.map Value.string)) (hk:∀x∈l,x.size≤maxLen):Dx (m.addv w v) v l:=
 gI hown fun g hg i h=>⟨eQ hown hg m (by simp[h]),hk _ (List.getElem_mem h)⟩
theorem Km (v:Value) (w:World):Calls Tryz.prog 184 #[.agg #[v]] w fun e w'=>e=.returned (.func (.func 216) #[] #[.pointer (some ⟨w.heap.size,0,none⟩)])∧w'=w.alloc (.cells #[v] 27):=by
 refine av fun R hR=>?_
 go_enter Tryz.func184,Tryz.ntmps184
 go_wp2;exact hR.out _ _ ⟨rfl,rfl⟩
theorem xO:∀args w,(callFunc 216 args).run Tryz.prog w=.ok (.enter 216 args) w:=enters_of Tryz.func216 zk rfl
def l9 (n:Int):Nat:=(min n 1000).toNat
theorem G8 {n:Int} (h:1≤n):1≤l9 n∧((l9 n:Nat):Int)=min n 1000∧l9 n≤1000:=by unfold l9;omega
theorem Gq (f:List UInt8→Bool):fQ f 0 []:=⟨.nil,fun x hx=>by simp at hx,zS,fun y _ _=>⟨rfl,fun x hx=>by simp at hx⟩⟩
theorem qD {T:Table} {K:Nat} {xs:List (List UInt8)} (h:(∃n,xs=enum T 0 n∧(∀y,aF T 0 y=true→y.length<n)∧xs.length<K)∨(∃n,xs <+: enum T 0 n∧xs.length=K)):fQ (aF T 0) K xs:=by
 rcases h with ⟨n,rfl,h1,h2⟩ | ⟨n,h1,h2⟩
 ·have:=pU (l:=T) (s:=0) (L:=n) (k:=K) (.inr h1)
  rwa [List.take_of_length_le zo] at this
 ·have h3:xs=(enum T 0 n).take K:=by
   rw[← h2];exact List.prefix_iff_eq_take.1 h1
  have:=pU (l:=T) (s:=0) (L:=n) (k:=K) (.inl (by rw[← h2];exact h1.length_le))
  rwa [← h3] at this
theorem ww {T:Table} {K:Nat} {xs:List (List UInt8)} (h:fQ (aF T 0) K xs) (hK:(K+1)*(T.length+1)≤1000000):∀z∈xs,z.length≤1000000:=by
 intro z hz;rw[Am h (Gr (l:=T) (s:=0) (k:=K) (L:=K*T.length) (Nat.le_refl _))] at hz;have h1:=((jg T 0 _ z).1 (List.mem_of_mem_take hz)).1;have:K*T.length≤(K+1)*(T.length+1):=Nat.mul_le_mul zo zo;omega
theorem mX {F:Fence} {d:Nat} {P:Program} {t e:TypeId} {size bytes:Nat} (S:eT P t e size bytes) {w:World} {ops:Array Oper} {rest:List Oper} {o:Oper} {a:Act} {Q:Exit→Act→World→Prop} (hgd:o.guard=none) (s x:Operand)
 (ho:o.op=.call { callee:=.builtin .append,args:=#[s,x],argTypes:=#[t,t] })
 (v:Value) (n:Nat) (xs:List Value) (hs:a.eval s=v) (hown:w.ownsRow 0 e size v n xs)
 (ad:Addr) (m c:Nat) (news:List Value) (hx:a.eval x=.slice (some ad) m c) (hl:news.length=m*size) (hnews:∀j u,news[j]?=some u→w.cell? (ad.add j)=some u) (h1:∀u∈news,u.oneCell'=true)
 (h63:n+m≤maxLen) (hbytes:(n+m)*bytes≤140737488355328)
 (h:∀va vc w',w'.ownsRow 0 e size (.slice va (n+m) vc) (n+m) (xs ++ news)→w.grownBy w' v.ownBlock→(∀k,(Value.slice va (n+m) vc).ownBlock=some k→v.ownBlock=some k∨w.heap.size≤k)→wpListIn F d P ops Q rest (a.put o.dst (.slice va (n+m) vc)) w'):wpListIn F d P ops Q (o::rest) a w:=by
 refine wpListIn_plain hgd fun K hK=>?_;obtain⟨v',w',hr,h2,h3,h4⟩:=jo S w o.type v n xs hown ad m c news hl hnews h1 h63 hbytes;obtain⟨va,vc,rfl⟩:=aO h2;refine ⟨?_,?_⟩
 ·simp[Oper.about,ho,resolve,Target.leads,Sem.run_pure]
 ·rw[Oper.semAt_plain F _ _ (by rw[ho];intro c hc';cases hc')];simp[execOp,ho,resolve,invoke,builtin,hs,hx,hr,Result.andThen];exact hK _ _ (h va vc w' h2 h3 h4)
def strV (x:List UInt8):Value:=.string ⟨x.toArray⟩
theorem xC (v0:Value) (A:Table) (n:Int) (m:Mem) (w:World) (hm:m.inn w) (htab:TabM m) (hA:aQ m v0 A) (hn1 : -9223372036854775808≤n) (hn2:n≤9223372036854775807) (hlen:(l9 n+1)*(A.length+1)≤1000000) :
 Calls Tryz.prog 140 #[.agg #[v0],.int .i64 n] w fun e w'=>∃r ws,e=.returned r∧Below w.heap.size w w'∧Dx (m.grow w w') r (ws.map bstr)∧fQ (Sem A) (l9 n) ws:=by
 have hlA:A.length≤1000000:=by
  have:A.length+1≤(l9 n+1)*(A.length+1):=Nat.le_mul_of_pos_left _ zo;omega
 have hO:=(((Own.start hm).al #[v0] 27).al #[.int .i64 n] 3).al #[.slice none 0 0] 143;have hsz1:(w.alloc (.cells #[v0] 27)).heap.size=w.heap.size+1:=by simp
 have hsz2:((w.alloc (.cells #[v0] 27)).alloc (.cells #[.int .i64 n] 3)).heap.size=w.heap.size+1+1:=by simp
 rw[hsz2,hsz1] at hO;have HG:=zh (K9 v0 A m _ hO.inn htab hA hlA);have HO:=zh hO;obtain⟨va,vc,rfl,-⟩:=hA;clear hO hsz1 hsz2;refine av fun R hR=>?_;by_cases hn:n<1
 ·have hk0:l9 n=0:=by unfold l9;omega
  have Hk0:=zh hk0;have hdec:decide (n<1)=true:=decide_eq_true hn;clear hk0
  go_enter Tryz.func140,Tryz.ntmps140
  go_wp2;refine hR.out _ _ ⟨_,[],rfl,HO.out.below,⟨none,0,rfl,Nat.le_refl _,by simp[maxLen],fun h=>absurd rfl h⟩,?_⟩;rw[Hk0.out];exact Gq _
 ·have hdec:decide (n<1)=false:=decide_eq_false hn;refine (callsIn_wide (n:=0)).1 ?_;refine callsIn_of_wp_marks Tryz.func140 rfl trivial ?_;simp only[Tryz.ntmps140,List.size_toArray,List.length_cons,List.length_nil,Nat.reduceAdd,Nat.reduceSub,Array.replicate_succ,Array.replicate_zero,List.push_toArray,List.append_toArray,List.nil_append,List.cons_append];refine wpIn_wide.2 ?_
  go_wp2_with fail
  refine HG.out.mono ?_;rintro e w1 ⟨r,rfl,hb1,hst⟩;have hO1:=HO.out.call hb1;obtain⟨ra,rc,rfl⟩:∃ra rc,r=.slice ra (kG A).length rc:=by obtain⟨x,y,e,-⟩:=hst;exact⟨x,y,e⟩
  have HO1:=zh (zi hO1 hst);clear HO HG hb1 hst hO1
  go_wp2_with fail
  refine (Km (.slice ra (kG A).length rc) w1).mono ?_;rintro e w2 ⟨rfl,rfl⟩;have hO2:=HO1.out.1.al #[.slice ra (kG A).length rc] 27;have hst:=HO1.out.2;obtain⟨m1,hO3,l1,c1⟩:=hO2.Ff;obtain⟨m2,hO4,l2,c2⟩:=hO3.swap.Ff;have hO5:=hO4.swap.tail.dC 9 1;have hO6:=hO5;have hst2:=aZ (Mem.le_trans l1 l2) hst;have c1':=Mem.aA l2 c1;have HS:=zh (zi hO5 (zi hst2 (zi c1' c2)));clear hO2 hst hO3 hO4 hO5 hO6 hst2 c1 c2 c1' l1 l2 HO1 m1;have hwp:=G8 (n:=n) zo;have hgl:=JB A;have hgis:=Lb A;have hmul:(l9 n+1)*((kG A).length+1)≤1000000:=Nat.le_trans (Nat.mul_le_mul_left _ zo) hlen;have HW:=zh (zi hwp (zi hgis hmul));have hw1:=hwp.1;have hw3:=hwp.2.2;clear hwp hgis hmul hgl;go_wp2;refine (wpIn_wide (n:=0)).1 ?_;refine yu (gf:=216) (lb:=#[.pointer (some ⟨w1.heap.size,0,none⟩)]) rfl xO (encs:=fun x:List UInt8=>#[Value.string ⟨x.toArray⟩]) (fun _=>rfl) HS.out.1
   (fun pre L=>(∃v,L=[.row v 9 1 pre.length (pre.map strV),.obj (w.heap.size+1+1) 143 #[v]])∧pre.length<l9 n)
   (fun c pre L=>c=.exit 0∧(∃v,L=[.row v 9 1 pre.length (pre.map strV),.obj (w.heap.size+1+1) 143 #[v]])∧pre.length=l9 n)
   (fun xs=>∃n,xs=enum (kG A) 0 n∧∀y,aF (kG A) 0 y=true→y.length<n) (fun xs=>∃n,xs <+: enum (kG A) 0 n∧xs≠[]) ⟨⟨_,rfl⟩,by simp;omega⟩ ?seq
   (fun x=>{ tmps:=#[.agg #[.slice va A.length vc],.int .i64 n,.pointer (some ⟨w.heap.size,0,none⟩),.pointer (some ⟨w.heap.size+1,0,none⟩),.slice none 0 0,.pointer (some ⟨w.heap.size+1+1,0,none⟩),.string ⟨x.toArray⟩,.int .i64 n,.bool false,undef,.agg #[.slice va A.length vc],.agg #[.slice ra (kG A).length rc],.func (.func 216) #[] #[.pointer (some ⟨w1.heap.size,0,none⟩)],.string ⟨x.toArray⟩,undef,undef,undef,undef,undef,undef,undef,undef,undef,undef],defers:=[] }) ?assign ?body ?done ?stop
  case seq=>
   intro l W1 L1 B Bx hB hBI hOw hY;exact EI HW.out.2.1.canon (l9 n) HW.out.2.2 hY HS.out.2.2.1 HS.out.2.1 (fun pre Lt h=>(hBI pre Lt h).elim fun L hL=>hL.2) hB hOw
  case assign=>
   intro l x W K hK
   gi_wp2
   exact hK
  case body=>
   rintro l pre x W mk1 Lt Lr ⟨⟨v,rfl⟩,hlt⟩ hOw hle;simp only[List.cons_append,List.nil_append] at hOw;obtain⟨xa,xc,rfl⟩:=aO hOw.row;have o1:=hOw.swap.obj.cell (i:=0) rfl;have o2:=hOw.swap.obj.lt;have o3:=hOw.swap.obj.frozen 0;have n1:=Mem.aj hOw.inn (Mem.aA hle HS.out.2.2.2);have n2:=Mem.ay hOw.inn (Mem.aA hle HS.out.2.2.2);have hO2:=hOw.al #[.string ⟨x.toArray⟩] 9;have hnews:=hO2.obj.news rfl;have Hlt:=zh hlt;clear hOw
   gi_wp2_with (gi_at_builtin;refine mX NG rfl (.tmp 14) (.tmp 16) rfl (.slice xa pre.length xc) pre.length (pre.map strV) rfl hO2.swap.row ⟨W.heap.size,0,none⟩ 1 1 [.string ⟨x.toArray⟩] rfl rfl hnews (by simp[Value.oneCell']) (by unfold maxLen;omega) zo ?_)
   intro ya yc w5 hown5 hgrow5 hrow5;have hO3:=(hO2.swap.app hown5 hgrow5 hrow5 zS).drop2;have o1:=hO3.swap.obj.cell (i:=0) rfl;have o2:=hO3.swap.obj.lt;have o3:=hO3.swap.obj.frozen 0;have n1:=Mem.aj hO3.inn (Mem.aA hle HS.out.2.2.2);have n2:=Mem.ay hO3.inn (Mem.aA hle HS.out.2.2.2);have hO4:=(hO3.swap.set 0 (.slice ya (pre.length+1) yc)).swap;have HO4:=zh hO4;clear hO4 hO3 hO2 hown5 hgrow5 hrow5 hnews;have Hend:=zh (show ∀xs,xs=pre ++ [x]→([Item.row (.slice ya (pre.length+1) yc) 9 1 (pre.length+1) (pre.map strV ++ [.string ⟨x.toArray⟩]),Item.obj (w.heap.size+1+1) 143 #[.slice ya (pre.length+1) yc]]:List Item)=[Item.row (.slice ya (pre.length+1) yc) 9 1 xs.length (xs.map strV),Item.obj (w.heap.size+1+1) 143 #[.slice ya (pre.length+1) yc]] from fun xs h=>by
    subst h;simp[strV])
   have hne:w.heap.size+1≠w.heap.size+1+1:=zo
   gi_wp2
   all_goals unfold ED
   all_goals dsimp only
   all_goals first
    | (have ht:((pre.length:Int)+1==min n 1000)=true:=by assumption
       refine ⟨mk1,_,⟨rfl,⟨_,Hend.out _ rfl⟩,?_⟩,HO4.out,Mem.le_refl _⟩;have h1:=HW.out.1.2.1;have h2:=beq_iff_eq.1 ht;simp only[List.length_append,List.length_cons,List.length_nil]
       omega)
    | (have ht:((pre.length:Int)+1==min n 1000)=false:=by assumption
       refine ⟨mk1,_,⟨⟨_,Hend.out _ rfl⟩,?_⟩,HO4.out,Mem.le_refl _⟩;have h1:=HW.out.1.2.1;have h2:=beq_eq_false_iff_ne.1 ht;have h3:=Hlt.out;simp only[List.length_append,List.length_cons,List.length_nil];omega)
  case done=>
   rintro D xs W mk1 L ⟨nn,hxs,hfin⟩ ⟨⟨v,rfl⟩,hlt⟩ hOw hle;obtain⟨xa,xc,rfl⟩:=aO hOw.swap.row;have o1:=hOw.third.obj.cell (i:=0) rfl;have o2:=hOw.third.obj.lt;have hfirst:=qD (.inl ⟨nn,hxs,hfin,hlt⟩);have hres:fQ (Sem A) (l9 n) xs:=hfirst.congr fun y=>HW.out.2.1.lang y;have hsz:∀z∈xs,(bstr z).size≤maxLen:=fun z hz=>by
    have:=ww hfirst HW.out.2.2 z hz;simp[bstr,ByteArray.size,maxLen];omega
   clear hxs hfin hlt hfirst;have hbl:=hOw.blob;have hO2:=hOw.swap;have hst:=nX (l:=xs.map bstr) (m:=mk1) (t:=9) (v:=.slice xa xs.length xc) (w:=W) (by
    rw[List.length_map,List.map_map];exact hO2.row) (fun y hy=>by
    obtain⟨z,hz,rfl⟩:=List.mem_map.1 hy;exact hsz z hz)
   rw[show (Mem.addv mk1 W (.slice xa xs.length xc))=Mem.addv mk1 W (.slice xa xs.length xc) from rfl] at hst;have hO3:=hO2.aY;have hO4:=hO3.iP (o':=.deferred none) (World.putObj_heap_same (Array.getElem?_eq_some_iff.1 hbl).1) (grownBy_putObj' _ _ _);have hfin2:=yS hO4.done hst;have Hk:=zh (zi hO4.below (zi hfin2 hres));clear hO4 hO3 hO2 hOw hst hfin2
   gi_wp2
   go_wp2;refine ⟨zS,.inl ⟨_,_,rfl,run_takeDeferred hbl,?_⟩⟩;exact⟨.slice xa xs.length xc,by simp[results,Tryz.results140,go_sem],hR.out _ _ ⟨_,xs,rfl,Hk.out.1,Hk.out.2.1,Hk.out.2.2⟩⟩
  case stop=>
   rintro D c xs W mk1 L ⟨nn,hpre,hne⟩ ⟨rfl,⟨v,rfl⟩,hlt⟩ hOw hle;obtain⟨xa,xc,rfl⟩:=aO hOw.swap.row;have o1:=hOw.third.obj.cell (i:=0) rfl;have o2:=hOw.third.obj.lt;have hfirst:=qD (.inr ⟨nn,hpre,hlt⟩);have hres:fQ (Sem A) (l9 n) xs:=hfirst.congr fun y=>HW.out.2.1.lang y;have hsz:∀z∈xs,(bstr z).size≤maxLen:=fun z hz=>by
    have:=ww hfirst HW.out.2.2 z hz;simp[bstr,ByteArray.size,maxLen];omega
   clear hpre hne hlt hfirst;have hbl:=hOw.blob;have hO2:=hOw.swap;have hst:=nX (l:=xs.map bstr) (m:=mk1) (t:=9) (v:=.slice xa xs.length xc) (w:=W) (by
    rw[List.length_map,List.map_map];exact hO2.row) (fun y hy=>by
    obtain⟨z,hz,rfl⟩:=List.mem_map.1 hy;exact hsz z hz)
   rw[show (Mem.addv mk1 W (.slice xa xs.length xc))=Mem.addv mk1 W (.slice xa xs.length xc) from rfl] at hst;have hO3:=hO2.aY;have hO4:=hO3.iP (o':=.deferred none) (World.putObj_heap_same (Array.getElem?_eq_some_iff.1 hbl).1) (grownBy_putObj' _ _ _);have hfin2:=yS hO4.done hst;have Hk:=zh (zi hO4.below (zi hfin2 hres));clear hO4 hO3 hO2 hOw hst hfin2
   gi_wp2
   go_wp2;refine ⟨zS,.inl ⟨_,_,rfl,run_takeDeferred hbl,?_⟩⟩;exact⟨.slice xa xs.length xc,by simp[results,Tryz.results140,go_sem],hR.out _ _ ⟨_,xs,rfl,Hk.out.1,Hk.out.2.1,Hk.out.2.2⟩⟩
def Kc (f:List UInt8→Bool):Option (List UInt8)→Prop
 | some x=>f x=true∧∀y,f y=true→y=x
 | none=>¬ ∃x,f x=true∧∀y,f y=true→y=x
theorem Kc.congr {f g:List UInt8→Bool} {a:Option (List UInt8)} (h:Kc f a) (e:∀w,f w=g w):Kc g a:=by
 have:f=g:=funext e;rw[← this];exact h
def optV (o:Option (List UInt8)):Value:=.tuple #[.string (match o with | some x=>bstr x | none=>⟨#[]⟩),.bool o.isSome]
theorem xD (v0:Value) (A:Table) (m:Mem) (w:World) (hm:m.inn w) (htab:TabM m) (hA:aQ m v0 A) (hlen:A.length≤400000) :
 Calls Tryz.prog 94 #[.agg #[v0]] w fun e w'=>∃o,e=.returned (optV o)∧Below w.heap.size w w'∧lH (Sem A) o:=by
 have hO:=(Own.start hm).al #[v0] 27;have HW:=zh (xC v0 A 1 m _ hO.inn htab hA zo zo (by have:l9 1=1:=rfl;rw[this];omega));have HO:=zh hO;clear hO;refine av fun R hR=>?_
 go_enter Tryz.func94,Tryz.ntmps94
 go_wp2_with fail
 refine HW.out.mono ?_;rintro e w1 ⟨r,ws,rfl,hb1,hst,hfirst⟩;have hO1:=HO.out.call hb1;have hl:=Cu hfirst
 cases ws with
 | nil=>
  obtain⟨ra,rc,rfl,r2,r3,r4⟩:=hst;have Hk:=zh (zi hO1.below hl);clear hO1 hl hfirst HW HO hb1 r4;go_wp2
  exact hR.out _ _ ⟨none,rfl,Hk.out.1,Hk.out.2⟩
 | cons x ws=>
  obtain⟨ra,rc,rfl,r2,r3,r4⟩:=hst;obtain⟨rb,ro,rfl,r5⟩:=r4 zS;have z:=(r5 0 zS).1;rw[Nat.add_zero] at z;have z1:=Mem.aj hO1.inn z;have z2:=Mem.ay hO1.inn z;simp only[List.map_cons,List.getElem_cons_zero] at z1;have hw0:0<(List.map bstr (x::ws)).length:=by simp
  have hdec:(((List.map bstr (x::ws)).length:Int)==0)=false:=beq_eq_false_iff_ne.2 zo;have Hk:=zh (zi hO1.below hl);clear hO1 hl hfirst HW HO hb1 r4 r5 z;generalize (List.map bstr (x::ws)).length=N at *
  go_wp2;exact hR.out _ _ ⟨some x,rfl,Hk.out.1,Hk.out.2⟩
end Cl
