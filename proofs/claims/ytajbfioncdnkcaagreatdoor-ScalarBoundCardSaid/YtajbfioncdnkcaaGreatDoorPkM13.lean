/- Lemmas for the proofs of chapter 11. -/
import Derived.Test.YtajbfioncdnkcaaGreatDoorProg
import Derived.BigQuiet
import Derived.Deep.Cut
import Derived.Deep.QuietTactic
import Derived.Laws.StructEq
import Derived.Lib.AppendStr
import Derived.Lib.Builder
import Derived.Lib.Hide
import Derived.Lib.ItoaLen
import Derived.Maps.OwnOps
import Derived.Maps.OwnSet
import Derived.OrdersHeld
import Derived.Outline
import Derived.StillTailTactics
import Derived.StringKeys
import Derived.WalkKit
import Derived.WalkLawsBesides
import Derived.WalkSpells
import Derived.Deep.RegionHeld
import Derived.RangeFuncNested
import Derived.RangeFuncBound
import Derived.RangeFuncCalls
import Derived.RangeFuncLeaves
import Derived.OwnWalkIn
import Derived.TacticsInMore
import Derived.LoopNIn
import Derived.LoopIn
import Derived.Shelf.Strings.Builder1
import Derived.Shelf.Small.Wraps
import Derived.Shelf.LaysM
import Derived.Shelf.Strconv.Itoa3
import Derived.Laws.BytesArg
import Derived.RegionTactic
import Derived.ChangeAlike
import Derived.Laws.EntriesVeiled
import Derived.Test.YtajbfioncdnkcaaGreatDoorZz
import Derived.Test.YtajbfioncdnkcaaGreatDoorPkM3
import Derived.Test.YtajbfioncdnkcaaGreatDoorPkM4
import Derived.Test.YtajbfioncdnkcaaGreatDoorPkM1
import Derived.Test.YtajbfioncdnkcaaGreatDoorPkM2
import Derived.Test.YtajbfioncdnkcaaGreatDoorPkM8
import Derived.Test.YtajbfioncdnkcaaGreatDoorPkM7
import Derived.Test.YtajbfioncdnkcaaGreatDoorPkM6
import Derived.Test.YtajbfioncdnkcaaGreatDoorPkM12
import Derived.Test.YtajbfioncdnkcaaGreatDoorPkM9
set_option maxRecDepth 100000
set_option maxHeartbeats 16000000
namespace Cl
open Go Go.RowKit Go.Proofs
theorem IR:iX Tryz.prog 90 128 1 24:=⟨Tryz.underlying90,zo,by
 obtain⟨i,h1,h2,h3,h4⟩:=info_parts (P:=Tryz.prog) (e:=128) (z:=.slice none 0 0) (size:=1) (bytes:=24) zk;exact⟨i,_,h1,h2,h3,h4,rfl⟩⟩
def rX (T:Table) (mk:Mem) (xs:List Value) (n:Nat):Prop:=xs.length=n∧∀i,i<n→∃u,xs[i]?=some u∧jh mk u (canN T i)
theorem rX.mono {T:Table} {mk mk':Mem} {xs:List Value} {n:Nat} (h:rX T mk xs n) (hl:mk.le mk'):rX T mk' xs n:=
 ⟨h.1,fun i hi=>let ⟨u,h1,h2⟩:=h.2 i hi;⟨u,h1,j5 hl h2⟩⟩
theorem rX.push {T:Table} {mk:Mem} {xs:List Value} {n:Nat} (h:rX T mk xs n) {u:Value} (hu:jh mk u (canN T n)):rX T mk (xs ++ [u]) (n+1):=by
 refine ⟨by rw[List.length_append,h.1];rfl,fun i hi=>?_⟩;by_cases e:i<n
 ·obtain⟨v,h1,h2⟩:=h.2 i e;exact⟨v,by rw[List.getElem?_append_left (by rw[h.1];exact e)];exact h1,h2⟩
 ·obtain rfl:i=n:=zo;exact⟨u,by rw[List.getElem?_append_right (by rw[h.1];exact Nat.le_refl _),h.1];simp,hu⟩
theorem Rb {w:World} {t:TypeId} {size n c g:Nat} {xs:List Value} (h:w.ownsRow 0 t size (.slice (some ⟨g,0,none⟩) n c) n xs):n≤c∧c≤maxLen:=by
 rcases h.2 with ⟨h,-⟩ | ⟨g',cap,cur,h,-,-,hnc,hcm,-⟩
 ·cases h
 ·injection h with h1 h2 h3;subst h3;exact⟨hnc,hcm⟩
theorem JO {T:Table} {l ga:Nat} {w0:World} {m mk:Mem} {B Bx:List (List UInt8)→List Item→Prop} {va:Value} {L1:List Item} {W:World} (hC:Canon T) (K:Nat) (hK:(K+1)*(T.length+1)≤1000000)
 (hY:Au Tryz.prog l (fun x:List UInt8=>#[Value.string ⟨x.toArray⟩]) w0 m mk B Bx) (ca:mk.cell ga 0=some va) (htab:aI mk va T) (hBK:∀pre Lt,B pre Lt→pre.length<K) (hB:B [] L1) (hO:Own w0 m W mk L1) :
 Calls Tryz.prog 221 #[.func (.yield l) #[] #[],.pointer (some ⟨ga,0,none⟩)] W
  (JH w0 m mk B Bx (fun xs=>∃n,xs=enum T 0 n∧∀y,aJ T 0 y=true→y.length<n) (fun xs=>∃n,xs <+: enum T 0 n∧xs≠[])):=by
 have hKT:K*T.length+K+T.length+1≤1000000:=by
  have:(K+1)*(T.length+1)=K*T.length+K+T.length+1:=by rw[Nat.add_mul,Nat.mul_add];omega
  omega
 generalize hKL:K*T.length=KT at *
 have HKL:=zh hKL;have hta:=htab;obtain⟨aa,ac,rfl,a1,a2,a3⟩:=htab;have ha:=Mem.av hO.inn ca;have hal:=Mem.ak hO.inn ca;have HX:=zh (zi hta (zi hY (zi hBK (zi hC ca))));have HO:=zh (zi hO hB);unfold maxLen at a2;refine aj fun R hR=>?_;clear hO hB hta hY hBK hC hKL ca
 go_enter Tryz.func221,Tryz.ntmps221
 go_wp2;refine ay [0,1,3,4,9,10] (fun q vs W1=>∃(k:Nat) (vf:Value),k≤T.length∧q=T.length - k∧vs=[.func (.yield l) #[] #[],.pointer (some ⟨ga,0,none⟩),.slice none 0 0,vf,.int .i64 T.length,.int .i64 k] ∧
  Own w0 m W1 mk (.row vf 4 1 k (((T.take k).map (·.accept)).map Value.bool)::L1)) ?_ ?_
 ·exact⟨_,0,.slice none 0 0,Nat.zero_le _,rfl,rfl,HO.out.1.eH _ _⟩
 clear ha hal;rintro X z q vs W1 hX - ⟨k,vf,hk,rfl,rfl,hO⟩;simp[litL,lk];obtain⟨vfa,vfc,rfl⟩:=aO hO.row;have ha:=Mem.av hO.inn HX.out.2.2.2.2;have hal:=Mem.ak hO.inn HX.out.2.2.2.2;by_cases hlt:k<T.length
 ·obtain⟨b,off,rfl,a4⟩:=a3 (by intro h;simp[h] at hlt);have s1w:=Mem.av hO.inn (a4 k hlt).1;have s1l:=Mem.ak hO.inn (a4 k hlt).1;have htk:(T.take (k+1)).map (·.accept)=(T.take k).map (·.accept) ++ [(T[k]).accept]:=by rw[List.take_succ_eq_append_getElem hlt,List.map_append];rfl
  have Htk:=zh htk;generalize (T[k]).accept=y at *
  have hO2:=hO.al #[.bool y] 4;have hnews:=hO2.obj.news rfl;clear htk hO a4
  go_wp2_with (at_builtin;refine aC Gi rfl (.tmp 13) (.tmp 20) rfl (.slice vfa k vfc) k _ rfl hO2.swap.row ⟨W1.heap.size,0,none⟩ 1 1 [.bool y] rfl rfl hnews (by simp[Value.oneCell']) (by unfold maxLen;omega) zo ?_)
  intro va' vc' w7 hown7 hgrow7 hrow7;have hO3:=(hO2.swap.app hown7 hgrow7 hrow7 zS).drop2;have HO3:=zh hO3;clear hO3 hO2 hown7 hgrow7 hrow7 hnews;go_wp2;refine hX.out _ _ _ zo rfl ⟨k+1,.slice va' (k+1) vc',zo,rfl,rfl,?_⟩;rw[Htk.out,List.map_append];have:=HO3.out;simpa using this
 ·obtain rfl:k=T.length:=zo;rw[List.take_length,← FZ] at hO;have hb0:=jS (l:=canN T 0) (m:=mk) (by rw[uZ];exact hO.row);have hle0:=Mem.eD (w:=W1) hO.free;have hO1:=hO.bD;generalize mk.addv W1 (.slice vfa T.length vfc)=mk1 at *
  have hO2:=((hO1.eH 128 1).al #[.slice vfa T.length vfc] 128);have hnews:=hO2.obj.news rfl;have Hb:=zh (zi hb0 hle0);clear hO hO1 hb0 hle0
  go_wp2_with (at_builtin;refine aC IR rfl (.tmp 23) (.tmp 25) rfl (.slice none 0 0) 0 [] rfl hO2.swap.row ⟨W1.heap.size,0,none⟩ 1 1 [.slice vfa T.length vfc] rfl rfl hnews (by simp[Value.oneCell']) (by unfold maxLen;omega) zo ?_)
  intro va' vc' w7 hown7 hgrow7 hrow7;have hO3:=(hO2.swap.app hown7 hgrow7 hrow7 zS).drop2;have HO3:=zh hO3;clear hO3 hO2 hown7 hgrow7 hrow7 hnews;go_wp2;refine ay [0,1,3,6] (fun q vs W2=>∃(n rn:Nat) (vt:Value) (xs:List Value) (mk2:Mem) (Lt:List Item),q=KT+1 - n∧(n=0∧rn=1∨0<n∧rn=n∧n≤KT) ∧
   vs=[.func (.yield l) #[] #[],.pointer (some ⟨ga,0,none⟩),vt,.int .i64 n] ∧
   mk.le mk2∧B (enum T 0 n) Lt∧Own w0 m W2 mk2 (.row vt 128 1 rn xs::Lt)∧rX T mk2 xs rn) ?_ ?_
  ·refine ⟨_,0,1,.slice va' 1 vc',[.slice vfa T.length vfc],mk1,L1,rfl,.inl ⟨rfl,rfl⟩,rfl,Hb.out.2,HO.out.2,by simpa using HO3.out,?_⟩;exact rX.push (n:=0) (xs:=[]) ⟨rfl,fun i hi=>zo⟩ Hb.out.1
  clear HO3 ha hal;rintro Y z2 q vs W2 hY2 - ⟨n,rn,vt,xs,mk2,Lt,rfl,hrn,rfl,hle2,hB2,hO2,hCR⟩;simp[litL,lk];obtain⟨vta,vtc,rfl⟩:=aO hO2.row;have hrn1:0<rn:=zo;obtain⟨tb,rfl⟩:=jH hO2.row hrn1;have ha:=Mem.av hO2.inn (Mem.aF hle2 HX.out.2.2.2.2);have hal:=Mem.ak hO2.inn (Mem.aF hle2 HX.out.2.2.2.2);have hnK:n≤KT:=zo;by_cases hT:0<T.length
  ·have hd1:decide (0<T.length)=true:=decide_eq_true hT;have HQ:=zh (zi hO2 (zi hB2 (zi hle2 hCR)));clear hO2 hB2 hle2 hCR
   go_upto_if 34 with (fail)
   refine aA [0,1,3,6] (fun vs w'=>∃(vt2:Value) (xs2:List Value) (mk3:Mem),vs=[.func (.yield l) #[] #[],.pointer (some ⟨ga,0,none⟩),vt2,.int .i64 n] ∧
    mk.le mk3∧Own w0 m w' mk3 (.row vt2 128 1 (n+1) xs2::Lt)∧rX T mk3 xs2 (n+1)) ?_ ?_
   ·intro V hV;rcases hrn with ⟨rfl,rfl⟩ | ⟨hn0,rfl,-⟩
    ·go_wp2;exact hV.out _ _ rfl ⟨.slice (some ⟨tb,0,none⟩) 1 vtc,xs,mk2,rfl,HQ.out.2.2.1,HQ.out.1,HQ.out.2.2.2⟩
    ·have hd2:decide (0<rn)=true:=decide_eq_true hn0;have hd3:decide ((0:Int)<(rn:Int))=true:=decide_eq_true zo;obtain⟨n1,rfl⟩:∃n1,rn=n1+1:=⟨rn - 1,zo⟩;have hw1:IntKind.i64.wrap (((n1+1:Nat):Int) - 1)=(n1:Int):=by rw[IntWalk.i64_in _ zo];omega
     have hw2:IntKind.i64.wrap ((n1:Int)+1 - 1)=(n1:Int):=by rw[IntWalk.i64_in _ zo];omega
     have hw3:IntKind.i64.wrap (n1:Int)=(n1:Int):=IntWalk.i64_in _ zo;have hn1:n1<n1+1:=zo;have hn2:(n1:Int)<(n1:Int)+1:=zo;obtain⟨u,hu1,hu2⟩:=HQ.out.2.2.2.2 n1 hn1;have hO:=HQ.out.1.dr;go_wp2;refine mJ (fun j w'=>j≠9→j≠10→(mk2.inn w'∧w'.cell? ⟨tb,n1,none⟩=some u∧tb<w'.heap.size)) zk ?_;have hS:mk2.inn W2.drew∧W2.drew.cell? ⟨tb,n1,none⟩=some u∧tb<W2.drew.heap.size:=⟨hO.inn,aX hO.row hu1,(World.ownsRow.lt hO.row _ rfl).2⟩;have hca:=Mem.aF HQ.out.2.2.1 HX.out.2.2.2.2;refine aU 0 12 (fun w'=>mk2.inn w'∧w'.cell? ⟨tb,n1,none⟩=some u∧tb<w'.heap.size) rfl zk (fun _ _ _ h=>h) (fun j w' hj hd=>hd (by rintro rfl;exact aH zk hj) (by rintro rfl;exact aH zk hj)) hS (au rfl fun w' hS'=>by have q:=hS'.2.1;have q1:=hS'.2.2;have q2:=Mem.av hS'.1 hca;have q3:=Mem.ak hS'.1 hca;go_simp;rfl) ?_;refine aU 1 12 (fun w'=>mk2.inn w'∧w'.cell? ⟨tb,n1,none⟩=some u∧tb<w'.heap.size) rfl zk (fun _ _ _ h=>h) (fun j w' hj hd=>hd (by rintro rfl;exact aH zk hj) (by rintro rfl;exact aH zk hj)) hS (au rfl fun w' hS'=>by have q:=hS'.2.1;have q1:=hS'.2.2;have q2:=Mem.av hS'.1 hca;have q3:=Mem.ak hS'.1 hca;go_simp;rfl) ?_;refine aU 2 12 (fun w'=>mk2.inn w'∧w'.cell? ⟨tb,n1,none⟩=some u∧tb<w'.heap.size) rfl zk (fun _ _ _ h=>h) (fun j w' hj hd=>hd (by rintro rfl;exact aH zk hj) (by rintro rfl;exact aH zk hj)) hS (au rfl fun w' hS'=>by have q:=hS'.2.1;have q1:=hS'.2.2;have q2:=Mem.av hS'.1 hca;have q3:=Mem.ak hS'.1 hca;go_simp;rfl) ?_;refine aU 3 12 (fun w'=>mk2.inn w'∧w'.cell? ⟨tb,n1,none⟩=some u∧tb<w'.heap.size) rfl zk (fun _ _ _ h=>h) (fun j w' hj hd=>hd (by rintro rfl;exact aH zk hj) (by rintro rfl;exact aH zk hj)) hS (au rfl fun w' hS'=>by have q:=hS'.2.1;have q1:=hS'.2.2;have q2:=Mem.av hS'.1 hca;have q3:=Mem.ak hS'.1 hca;go_simp;rfl) ?_;refine aU 4 12 (fun w'=>mk2.inn w'∧w'.cell? ⟨tb,n1,none⟩=some u∧tb<w'.heap.size) rfl zk (fun _ _ _ h=>h) (fun j w' hj hd=>hd (by rintro rfl;exact aH zk hj) (by rintro rfl;exact aH zk hj)) hS (au rfl fun w' hS'=>by have q:=hS'.2.1;have q1:=hS'.2.2;have q2:=Mem.av hS'.1 hca;have q3:=Mem.ak hS'.1 hca;go_simp;rfl) ?_;refine aU 5 12 (fun w'=>mk2.inn w'∧w'.cell? ⟨tb,n1,none⟩=some u∧tb<w'.heap.size) rfl zk (fun _ _ _ h=>h) (fun j w' hj hd=>hd (by rintro rfl;exact aH zk hj) (by rintro rfl;exact aH zk hj)) hS (au rfl fun w' hS'=>by have q:=hS'.2.1;have q1:=hS'.2.2;have q2:=Mem.av hS'.1 hca;have q3:=Mem.ak hS'.1 hca;go_simp;rfl) ?_;refine aU 6 12 (fun w'=>mk2.inn w'∧w'.cell? ⟨tb,n1,none⟩=some u∧tb<w'.heap.size) rfl zk (fun _ _ _ h=>h) (fun j w' hj hd=>hd (by rintro rfl;exact aH zk hj) (by rintro rfl;exact aH zk hj)) hS (au rfl fun w' hS'=>by have q:=hS'.2.1;have q1:=hS'.2.2;have q2:=Mem.av hS'.1 hca;have q3:=Mem.ak hS'.1 hca;go_simp;rfl) ?_;have hlT:=uZ T n1;have hcs:=Ag HX.out.2.2.2.1.wf HX.out.2.2.2.1.bytes n1;have hcall:=RY (.slice aa T.length ac) u T (canN T n1) mk2 _ hO.inn (aK HQ.out.2.2.1 HX.out.1) hu2 HX.out.2.2.2.1.wf zo hlT;refine bz 7 zk (aB rfl rfl (dI zg hcall ?_));rintro e' w3 ⟨r,rfl,hb3,hr3⟩;rw[show T.map (canF (canN T n1))=canN T (n1+1) from hcs.symm] at hr3;have hO3:=hO.call hb3;have hle3:=Mem.eO (w:=w3) hO.inn;clear hcs hlT;obtain⟨rra,rrc,rfl⟩:∃xa xc,r=.slice xa (canN T (n1+1)).length xc:=by obtain⟨x,y,e,-⟩:=hr3;exact⟨x,y,e⟩
     refine ⟨_,rfl,.inr fun _ _=>⟨Mem.dK hle3 hO3.inn,aX hO3.row hu1,(World.ownsRow.lt hO3.row _ rfl).2⟩,?_⟩;go_simp;have hO4:=hO3.al #[.slice rra (canN T (n1+1)).length rrc] 128;refine bz 8 zk (aB rfl rfl (aD (by go_simp;first | done | exact⟨rfl,rfl⟩ | rfl) ⟨.inr fun _ _=>⟨Mem.dK hle3 hO4.inn,aX hO4.swap.row hu1,(World.ownsRow.lt hO4.swap.row _ rfl).2⟩,?_⟩));go_simp;refine bz 9 zk (aB rfl rfl (eB IR (.tmp 35) (.tmp 43) rfl (.slice (some ⟨tb,0,none⟩) (n1+1) vtc) (n1+1) xs rfl hO4.swap.row ⟨w3.heap.size,0,none⟩ 1 1 [.slice rra (canN T (n1+1)).length rrc] rfl rfl (hO4.obj.news rfl) (by simp[Value.oneCell']) (by unfold maxLen;omega) zo (fun na' nc' w7 hown7 hgrow7 hrow7=>?_)));have hO5:=(hO4.swap.app hown7 hgrow7 hrow7 (Nat.le_refl _)).drop2;refine ⟨.inr fun h=>absurd rfl h,?_⟩;go_simp;refine bz 10 zk (aB rfl rfl (aD (by go_simp;first | done | exact⟨rfl,rfl⟩ | rfl) ⟨.inl rfl,?_⟩));refine iA zk ?_ _;exact hV.out _ _ rfl ⟨.slice na' (n1+1+1) nc',xs ++ [.slice rra (canN T (n1+1)).length rrc],mk2.grow W2.drew w3,rfl,Mem.le_trans HQ.out.2.2.1 hle3,hO5,(HQ.out.2.2.2.mono hle3).push hr3⟩
   rintro z3 vs w3 - ⟨vt2,xs2,mk3,rfl,hle3,hO3,hCR3⟩;simp[litL,lk];have hB2:=HQ.out.2.1;have hdone:=fun h=>Oj HX.out.2.2.2.1.wf HX.out.2.2.2.1.bytes (n:=n) h;have hES:=zR T 0 n;have hbnd:=fun (hn:KT<n+1) (h:(enum T 0 (n+1)).length<K)=>LP HX.out.2.2.2.1 (n:=n+1) h (by rw[HKL.out];exact hn);obtain⟨vta2,vtc2,rfl⟩:=aO hO3.row;obtain⟨tb2,rfl⟩:=jH hO3.row zo;obtain⟨u,hu1,hu2⟩:=hCR3.2 n zo;have HS:=zh (zi hO3 (zi hCR3 (zi hle3 (zi hdone (zi hES hbnd)))));have HU:=zh (zi hu1 hu2);have HB2:=zh hB2;have hlT:=uZ T n;obtain⟨ua,uc,rfl,u2,u3,u4⟩:=hu2;obtain⟨ub,uo,rfl,u5⟩:=u4 (by intro h;rw[h] at hlT;simp at hlT;omega);have hall:(∀b∈canN T n,b=false)↔¬ (true∈canN T n):=by
    constructor
    ·intro h hm;have:=h true hm;cases this
    ·intro h b hb
     cases b with
     | false=>rfl
     | true=>exact absurd hb h
   have Hall:=zh hall;have hcap:=Rb hO3.row;have hcap1:=hcap.1;have hcap2:=hcap.2;unfold maxLen at hcap2;clear hall hcap;clear hO3 hCR3 hle3 hdone hES hbnd hu1 HQ hB2 ha hal hlT u4 u5;go_wp2;refine aA [0,1,3,6,65] (fun vs w'=>∃(bb:Bool) (mk4:Mem) (Lt4:List Item),vs=[.func (.yield l) #[] #[],.pointer (some ⟨ga,0,none⟩),.slice (some ⟨tb2,0,none⟩) (n+1) vtc2,.int .i64 n,.bool bb]∧mk.le mk4 ∧
    (bb=false→B (enum T 0 (n+1)) Lt4∧Own w0 m w' mk4 (.row (.slice (some ⟨tb2,0,none⟩) (n+1) vtc2) 128 1 (n+1) xs2::Lt4)∧true∈canN T n∧rX T mk4 xs2 (n+1)) ∧
    (bb=true→(B (enum T 0 n) Lt4∧Own w0 m w' mk4 Lt4∧∀b∈canN T n,b=false)∨∃q,q≠[]∧q <+: wex T n 0∧Bx (enum T 0 n ++ q) Lt4∧Own w0 m w' mk4 Lt4)) ?_ ?_
   ·intro V hV;have hO:=HS.out.1.dr;have hca:=Mem.aF HS.out.2.2.1 HX.out.2.2.2.2;have hw1:IntKind.i64.wrap ((n:Int)+1)=(n:Int)+1:=IntWalk.i64_in _ zo;have hn1:(n:Int)<(n:Int)+1:=zo;have hn2:n<n+1:=zo;have hb1:(0:Int)≤(n:Int)+1:=zo;have hb2:(n:Int)+1≤(vtc2:Int):=zo;have HCt:=zh (fun w' (h:mk3.inn w')=>wI (.slice (some ⟨ub,uo,none⟩) (canN T n).length uc) (canN T n) true mk3 w' h HU.out.2);refine mJ (fun j w'=>j≠18→j≠19→j≠20→(mk3.inn w'∧w'.cell? ⟨tb2,n,none⟩=some (.slice (some ⟨ub,uo,none⟩) (canN T n).length uc)∧tb2<w'.heap.size)) zk ?_;have hS:mk3.inn w3.drew∧w3.drew.cell? ⟨tb2,n,none⟩=some (.slice (some ⟨ub,uo,none⟩) (canN T n).length uc)∧tb2<w3.drew.heap.size:=⟨hO.inn,aX hO.row HU.out.1,(World.ownsRow.lt hO.row _ rfl).2⟩;refine aU 0 6 (fun w'=>mk3.inn w'∧w'.cell? ⟨tb2,n,none⟩=some (.slice (some ⟨ub,uo,none⟩) (canN T n).length uc)∧tb2<w'.heap.size) rfl zk (fun _ _ _ h=>h) (fun j w' hj hd=>hd (by rintro rfl;exact aH zk hj) (by rintro rfl;exact aH zk hj) (by rintro rfl;exact aH zk hj)) hS (au rfl fun w' hS'=>by have q:=hS'.2.1;have q1:=hS'.2.2;go_simp;rfl) ?_;refine aU 1 6 (fun w'=>mk3.inn w'∧w'.cell? ⟨tb2,n,none⟩=some (.slice (some ⟨ub,uo,none⟩) (canN T n).length uc)∧tb2<w'.heap.size) rfl zk (fun _ _ _ h=>h) (fun j w' hj hd=>hd (by rintro rfl;exact aH zk hj) (by rintro rfl;exact aH zk hj) (by rintro rfl;exact aH zk hj)) hS (au rfl fun w' hS'=>by have q:=hS'.2.1;have q1:=hS'.2.2;go_simp;rfl) ?_;refine aU 2 6 (fun w'=>mk3.inn w'∧w'.cell? ⟨tb2,n,none⟩=some (.slice (some ⟨ub,uo,none⟩) (canN T n).length uc)∧tb2<w'.heap.size) rfl zk (fun _ _ _ h=>h) (fun j w' hj hd=>hd (by rintro rfl;exact aH zk hj) (by rintro rfl;exact aH zk hj) (by rintro rfl;exact aH zk hj)) hS (au rfl fun w' hS'=>by have q:=hS'.2.1;have q1:=hS'.2.2;go_simp;rfl) ?_;refine aU 3 6 (fun w'=>mk3.inn w'∧w'.cell? ⟨tb2,n,none⟩=some (.slice (some ⟨ub,uo,none⟩) (canN T n).length uc)∧tb2<w'.heap.size) rfl zk (fun _ _ _ h=>h) (fun j w' hj hd=>hd (by rintro rfl;exact aH zk hj) (by rintro rfl;exact aH zk hj) (by rintro rfl;exact aH zk hj)) hS (au rfl fun w' hS'=>by have q:=hS'.2.1;have q1:=hS'.2.2;go_simp;rfl) ?_;refine bz 4 zk (aB rfl rfl (dI zg (HCt.out _ hO.inn) ?_));rintro e' w4 ⟨rfl,hb4⟩;have hO4:=hO.move hb4;have hS4:mk3.inn w4∧w4.cell? ⟨tb2,n,none⟩=some (.slice (some ⟨ub,uo,none⟩) (canN T n).length uc)∧tb2<w4.heap.size:=⟨hO4.inn,aX hO4.row HU.out.1,(World.ownsRow.lt hO4.row _ rfl).2⟩;refine ⟨_,rfl,.inr fun _ _ _=>hS4,?_⟩;by_cases hmem:true∈canN T n
    ·rw[aN hmem];go_simp;refine aU 5 6 (fun w'=>mk3.inn w'∧w'.cell? ⟨tb2,n,none⟩=some (.slice (some ⟨ub,uo,none⟩) (canN T n).length uc)∧tb2<w'.heap.size) rfl zk (fun _ _ _ h=>h) (fun j w' hj hd=>hd (by rintro rfl;exact aH zk hj) (by rintro rfl;exact aH zk hj) (by rintro rfl;exact aH zk hj)) hS4 (au rfl fun w' hS'=>by have q:=hS'.2.1;have q1:=hS'.2.2;have q2:=Mem.av hS'.1 hca;have q3:=Mem.ak hS'.1 hca;go_simp;rfl) ?_;refine aU 6 6 (fun w'=>mk3.inn w'∧w'.cell? ⟨tb2,n,none⟩=some (.slice (some ⟨ub,uo,none⟩) (canN T n).length uc)∧tb2<w'.heap.size) rfl zk (fun _ _ _ h=>h) (fun j w' hj hd=>hd (by rintro rfl;exact aH zk hj) (by rintro rfl;exact aH zk hj) (by rintro rfl;exact aH zk hj)) hS4 (au rfl fun w' hS'=>by have q:=hS'.2.1;have q1:=hS'.2.2;have q2:=Mem.av hS'.1 hca;have q3:=Mem.ak hS'.1 hca;go_simp;rfl) ?_;go_simp;refine aU 7 6 (fun w'=>mk3.inn w'∧w'.cell? ⟨tb2,n,none⟩=some (.slice (some ⟨ub,uo,none⟩) (canN T n).length uc)∧tb2<w'.heap.size) rfl zk (fun _ _ _ h=>h) (fun j w' hj hd=>hd (by rintro rfl;exact aH zk hj) (by rintro rfl;exact aH zk hj) (by rintro rfl;exact aH zk hj)) hS4 (au rfl fun w' hS'=>by have q:=hS'.2.1;have q1:=hS'.2.2;have q2:=Mem.av hS'.1 hca;have q3:=Mem.ak hS'.1 hca;go_simp;rfl) ?_;go_simp;refine aU 8 6 (fun w'=>mk3.inn w'∧w'.cell? ⟨tb2,n,none⟩=some (.slice (some ⟨ub,uo,none⟩) (canN T n).length uc)∧tb2<w'.heap.size) rfl zk (fun _ _ _ h=>h) (fun j w' hj hd=>hd (by rintro rfl;exact aH zk hj) (by rintro rfl;exact aH zk hj) (by rintro rfl;exact aH zk hj)) hS4 (au rfl fun w' hS'=>by have q:=hS'.2.1;have q1:=hS'.2.2;have q2:=Mem.av hS'.1 hca;have q3:=Mem.ak hS'.1 hca;go_simp;rfl) ?_;go_simp;refine aU 9 6 (fun w'=>mk3.inn w'∧w'.cell? ⟨tb2,n,none⟩=some (.slice (some ⟨ub,uo,none⟩) (canN T n).length uc)∧tb2<w'.heap.size) rfl zk (fun _ _ _ h=>h) (fun j w' hj hd=>hd (by rintro rfl;exact aH zk hj) (by rintro rfl;exact aH zk hj) (by rintro rfl;exact aH zk hj)) hS4 (au rfl fun w' hS'=>by have q:=hS'.2.1;have q1:=hS'.2.2;have q2:=Mem.av hS'.1 hca;have q3:=Mem.ak hS'.1 hca;go_simp;rfl) ?_;go_simp;refine aU 10 6 (fun w'=>mk3.inn w'∧w'.cell? ⟨tb2,n,none⟩=some (.slice (some ⟨ub,uo,none⟩) (canN T n).length uc)∧tb2<w'.heap.size) rfl zk (fun _ _ _ h=>h) (fun j w' hj hd=>hd (by rintro rfl;exact aH zk hj) (by rintro rfl;exact aH zk hj) (by rintro rfl;exact aH zk hj)) hS4 (au rfl fun w' hS'=>by have q:=hS'.2.1;have q1:=hS'.2.2;have q2:=Mem.av hS'.1 hca;have q3:=Mem.ak hS'.1 hca;go_simp;rfl) ?_;go_simp;refine aU 11 6 (fun w'=>mk3.inn w'∧w'.cell? ⟨tb2,n,none⟩=some (.slice (some ⟨ub,uo,none⟩) (canN T n).length uc)∧tb2<w'.heap.size) rfl zk (fun _ _ _ h=>h) (fun j w' hj hd=>hd (by rintro rfl;exact aH zk hj) (by rintro rfl;exact aH zk hj) (by rintro rfl;exact aH zk hj)) hS4 (au rfl fun w' hS'=>by have q:=hS'.2.1;have q1:=hS'.2.2;have q2:=Mem.av hS'.1 hca;have q3:=Mem.ak hS'.1 hca;go_simp;rfl) ?_;go_simp;refine aU 12 6 (fun w'=>mk3.inn w'∧w'.cell? ⟨tb2,n,none⟩=some (.slice (some ⟨ub,uo,none⟩) (canN T n).length uc)∧tb2<w'.heap.size) rfl zk (fun _ _ _ h=>h) (fun j w' hj hd=>hd (by rintro rfl;exact aH zk hj) (by rintro rfl;exact aH zk hj) (by rintro rfl;exact aH zk hj)) hS4 (au rfl fun w' hS'=>by have q:=hS'.2.1;have q1:=hS'.2.2;have q2:=Mem.av hS'.1 hca;have q3:=Mem.ak hS'.1 hca;go_simp;rfl) ?_;go_simp;refine aU 13 6 (fun w'=>mk3.inn w'∧w'.cell? ⟨tb2,n,none⟩=some (.slice (some ⟨ub,uo,none⟩) (canN T n).length uc)∧tb2<w'.heap.size) rfl zk (fun _ _ _ h=>h) (fun j w' hj hd=>hd (by rintro rfl;exact aH zk hj) (by rintro rfl;exact aH zk hj) (by rintro rfl;exact aH zk hj)) hS4 (au rfl fun w' hS'=>by have q:=hS'.2.1;have q1:=hS'.2.2;have q2:=Mem.av hS'.1 hca;have q3:=Mem.ak hS'.1 hca;go_simp;rfl) ?_;go_simp;refine aU 14 6 (fun w'=>mk3.inn w'∧w'.cell? ⟨tb2,n,none⟩=some (.slice (some ⟨ub,uo,none⟩) (canN T n).length uc)∧tb2<w'.heap.size) rfl zk (fun _ _ _ h=>h) (fun j w' hj hd=>hd (by rintro rfl;exact aH zk hj) (by rintro rfl;exact aH zk hj) (by rintro rfl;exact aH zk hj)) hS4 (au rfl fun w' hS'=>by have q:=hS'.2.1;have q1:=hS'.2.2;have q2:=Mem.av hS'.1 hca;have q3:=Mem.ak hS'.1 hca;go_simp;rfl) ?_;go_simp;refine aU 15 6 (fun w'=>mk3.inn w'∧w'.cell? ⟨tb2,n,none⟩=some (.slice (some ⟨ub,uo,none⟩) (canN T n).length uc)∧tb2<w'.heap.size) rfl zk (fun _ _ _ h=>h) (fun j w' hj hd=>hd (by rintro rfl;exact aH zk hj) (by rintro rfl;exact aH zk hj) (by rintro rfl;exact aH zk hj)) hS4 (au rfl fun w' hS'=>by have q:=hS'.2.1;have q1:=hS'.2.2;have q2:=Mem.av hS'.1 hca;have q3:=Mem.ak hS'.1 hca;go_simp;rfl) ?_;go_simp;refine aU 16 6 (fun w'=>mk3.inn w'∧w'.cell? ⟨tb2,n,none⟩=some (.slice (some ⟨ub,uo,none⟩) (canN T n).length uc)∧tb2<w'.heap.size) rfl zk (fun _ _ _ h=>h) (fun j w' hj hd=>hd (by rintro rfl;exact aH zk hj) (by rintro rfl;exact aH zk hj) (by rintro rfl;exact aH zk hj)) hS4 (au rfl fun w' hS'=>by have q:=hS'.2.1;have q1:=hS'.2.2;have q2:=Mem.av hS'.1 hca;have q3:=Mem.ak hS'.1 hca;go_simp;rfl) ?_;go_simp;refine aU 17 6 (fun w'=>mk3.inn w'∧w'.cell? ⟨tb2,n,none⟩=some (.slice (some ⟨ub,uo,none⟩) (canN T n).length uc)∧tb2<w'.heap.size) rfl zk (fun _ _ _ h=>h) (fun j w' hj hd=>hd (by rintro rfl;exact aH zk hj) (by rintro rfl;exact aH zk hj) (by rintro rfl;exact aH zk hj)) hS4 (au rfl fun w' hS'=>by have q:=hS'.2.1;have q1:=hS'.2.2;have q2:=Mem.av hS'.1 hca;have q3:=Mem.ak hS'.1 hca;go_simp;rfl) ?_;go_simp;have hT0:=hT;have hsome:=Pw (T:=T) (l:=l) (w0:=w0) (m:=m) (mk0:=mk3) (B:=B) (Bx:=Bx) (Lr:=[.row (.slice (some ⟨tb2,0,none⟩) (n+1) vtc2) 128 1 (n+1) xs2]) (tb:=tb2) (n:=n) (ctab:=vtc2) (clast:=1) (ntab:=n+1) (va:=.slice aa T.length ac) HX.out.2.2.2.1.wf HX.out.2.2.2.1.bytes
      (fun pre x W' mk' Lt' Lr' h1 h2 h3=>HX.out.2.1 pre x W' mk' Lt' Lr' h1 h2 (Mem.le_trans HS.out.2.2.1 h3)) (aK HS.out.2.2.1 HX.out.1) hT0 (by unfold maxLen;omega) zo zo (by unfold maxLen;omega)
      (fun W' mk' Lt' h i hi=>by
       obtain⟨u',h1,h2⟩:=HS.out.2.1.2 i hi;exact⟨u',aX (h.lW (v:=.slice (some ⟨tb2,0,none⟩) (n+1) vtc2) (t:=128) (size:=1) (n:=n+1) (xs:=xs2) zS) h1,h2⟩)
      (enum T 0 n) mk3 w4 Lt (Mem.le_refl _) HB2.out (hO4.perm (List.perm_append_singleton _ _))
     refine bz 18 zk (dU rfl rfl (dI zg hsome ?_));rintro e' w5 (⟨rfl,mk5,Lt5,k1,k2,k3⟩ | ⟨rfl,qq,mk5,Lt5,k0,k1,k2,k3,k4⟩)
     ·refine ⟨_,rfl,.inr fun h=>absurd rfl h,?_⟩;go_simp;refine bz 19 zk (dU rfl rfl (aD (by go_simp;first | done | exact⟨rfl,rfl⟩ | rfl) ⟨.inl rfl,?_⟩));go_simp;refine bz 20 zk (aB rfl rfl (aD (by go_simp;first | done | exact⟨rfl,rfl⟩ | rfl) ⟨.inl rfl,?_⟩));refine iA zk ?_ _;refine hV.out _ _ rfl ⟨false,mk5,Lt5,rfl,Mem.le_trans HS.out.2.2.1 k3,fun _=>⟨?_,k2.perm (List.perm_append_singleton _ _).symm,hmem,HS.out.2.1.mono k3⟩,fun h=>by cases h⟩;rw[HS.out.2.2.2.2.1];exact k1
     ·refine ⟨_,rfl,.inr fun h=>absurd rfl h,?_⟩;go_simp;refine bz 19 zk (dU rfl rfl (aD (by go_simp;first | done | exact⟨rfl,rfl⟩ | rfl) ⟨.inl rfl,?_⟩));go_simp;refine bz 20 zk (aB rfl rfl (aD (by go_simp;first | done | exact⟨rfl,rfl⟩ | rfl) ⟨.inl rfl,?_⟩));refine iA zk ?_ _;exact hV.out _ _ rfl ⟨true,mk5,Lt5,rfl,Mem.le_trans HS.out.2.2.1 k4,(fun h=>by cases h),fun _=>.inr ⟨qq,k0,k1,k2,(k3.perm (List.perm_append_singleton _ _).symm).tail⟩⟩
    ·rw[aL hmem];go_simp;refine aU 5 6 (fun w'=>mk3.inn w'∧w'.cell? ⟨tb2,n,none⟩=some (.slice (some ⟨ub,uo,none⟩) (canN T n).length uc)∧tb2<w'.heap.size) rfl zk (fun _ _ _ h=>h) (fun j w' hj hd=>hd (by rintro rfl;exact aH zk hj) (by rintro rfl;exact aH zk hj) (by rintro rfl;exact aH zk hj)) hS4 (au rfl fun w' hS'=>by go_simp;rfl) ?_;refine aU 6 6 (fun w'=>mk3.inn w'∧w'.cell? ⟨tb2,n,none⟩=some (.slice (some ⟨ub,uo,none⟩) (canN T n).length uc)∧tb2<w'.heap.size) rfl zk (fun _ _ _ h=>h) (fun j w' hj hd=>hd (by rintro rfl;exact aH zk hj) (by rintro rfl;exact aH zk hj) (by rintro rfl;exact aH zk hj)) hS4 (au rfl fun w' hS'=>by go_simp;rfl) ?_;go_simp;refine aU 7 6 (fun w'=>mk3.inn w'∧w'.cell? ⟨tb2,n,none⟩=some (.slice (some ⟨ub,uo,none⟩) (canN T n).length uc)∧tb2<w'.heap.size) rfl zk (fun _ _ _ h=>h) (fun j w' hj hd=>hd (by rintro rfl;exact aH zk hj) (by rintro rfl;exact aH zk hj) (by rintro rfl;exact aH zk hj)) hS4 (.inr ⟨rfl,rfl⟩) ?_;go_simp;refine aU 8 6 (fun w'=>mk3.inn w'∧w'.cell? ⟨tb2,n,none⟩=some (.slice (some ⟨ub,uo,none⟩) (canN T n).length uc)∧tb2<w'.heap.size) rfl zk (fun _ _ _ h=>h) (fun j w' hj hd=>hd (by rintro rfl;exact aH zk hj) (by rintro rfl;exact aH zk hj) (by rintro rfl;exact aH zk hj)) hS4 (.inr ⟨rfl,rfl⟩) ?_;go_simp;refine aU 9 6 (fun w'=>mk3.inn w'∧w'.cell? ⟨tb2,n,none⟩=some (.slice (some ⟨ub,uo,none⟩) (canN T n).length uc)∧tb2<w'.heap.size) rfl zk (fun _ _ _ h=>h) (fun j w' hj hd=>hd (by rintro rfl;exact aH zk hj) (by rintro rfl;exact aH zk hj) (by rintro rfl;exact aH zk hj)) hS4 (.inr ⟨rfl,rfl⟩) ?_;go_simp;refine aU 10 6 (fun w'=>mk3.inn w'∧w'.cell? ⟨tb2,n,none⟩=some (.slice (some ⟨ub,uo,none⟩) (canN T n).length uc)∧tb2<w'.heap.size) rfl zk (fun _ _ _ h=>h) (fun j w' hj hd=>hd (by rintro rfl;exact aH zk hj) (by rintro rfl;exact aH zk hj) (by rintro rfl;exact aH zk hj)) hS4 (.inr ⟨rfl,rfl⟩) ?_;go_simp;refine aU 11 6 (fun w'=>mk3.inn w'∧w'.cell? ⟨tb2,n,none⟩=some (.slice (some ⟨ub,uo,none⟩) (canN T n).length uc)∧tb2<w'.heap.size) rfl zk (fun _ _ _ h=>h) (fun j w' hj hd=>hd (by rintro rfl;exact aH zk hj) (by rintro rfl;exact aH zk hj) (by rintro rfl;exact aH zk hj)) hS4 (.inr ⟨rfl,rfl⟩) ?_;go_simp;refine aU 12 6 (fun w'=>mk3.inn w'∧w'.cell? ⟨tb2,n,none⟩=some (.slice (some ⟨ub,uo,none⟩) (canN T n).length uc)∧tb2<w'.heap.size) rfl zk (fun _ _ _ h=>h) (fun j w' hj hd=>hd (by rintro rfl;exact aH zk hj) (by rintro rfl;exact aH zk hj) (by rintro rfl;exact aH zk hj)) hS4 (.inr ⟨rfl,rfl⟩) ?_;go_simp;refine aU 13 6 (fun w'=>mk3.inn w'∧w'.cell? ⟨tb2,n,none⟩=some (.slice (some ⟨ub,uo,none⟩) (canN T n).length uc)∧tb2<w'.heap.size) rfl zk (fun _ _ _ h=>h) (fun j w' hj hd=>hd (by rintro rfl;exact aH zk hj) (by rintro rfl;exact aH zk hj) (by rintro rfl;exact aH zk hj)) hS4 (.inr ⟨rfl,rfl⟩) ?_;go_simp;refine aU 14 6 (fun w'=>mk3.inn w'∧w'.cell? ⟨tb2,n,none⟩=some (.slice (some ⟨ub,uo,none⟩) (canN T n).length uc)∧tb2<w'.heap.size) rfl zk (fun _ _ _ h=>h) (fun j w' hj hd=>hd (by rintro rfl;exact aH zk hj) (by rintro rfl;exact aH zk hj) (by rintro rfl;exact aH zk hj)) hS4 (.inr ⟨rfl,rfl⟩) ?_;go_simp;refine aU 15 6 (fun w'=>mk3.inn w'∧w'.cell? ⟨tb2,n,none⟩=some (.slice (some ⟨ub,uo,none⟩) (canN T n).length uc)∧tb2<w'.heap.size) rfl zk (fun _ _ _ h=>h) (fun j w' hj hd=>hd (by rintro rfl;exact aH zk hj) (by rintro rfl;exact aH zk hj) (by rintro rfl;exact aH zk hj)) hS4 (.inr ⟨rfl,rfl⟩) ?_;go_simp;refine aU 16 6 (fun w'=>mk3.inn w'∧w'.cell? ⟨tb2,n,none⟩=some (.slice (some ⟨ub,uo,none⟩) (canN T n).length uc)∧tb2<w'.heap.size) rfl zk (fun _ _ _ h=>h) (fun j w' hj hd=>hd (by rintro rfl;exact aH zk hj) (by rintro rfl;exact aH zk hj) (by rintro rfl;exact aH zk hj)) hS4 (.inr ⟨rfl,rfl⟩) ?_;go_simp;refine aU 17 6 (fun w'=>mk3.inn w'∧w'.cell? ⟨tb2,n,none⟩=some (.slice (some ⟨ub,uo,none⟩) (canN T n).length uc)∧tb2<w'.heap.size) rfl zk (fun _ _ _ h=>h) (fun j w' hj hd=>hd (by rintro rfl;exact aH zk hj) (by rintro rfl;exact aH zk hj) (by rintro rfl;exact aH zk hj)) hS4 (.inr ⟨rfl,rfl⟩) ?_;go_simp;refine bz 18 zk (gH rfl rfl ⟨.inl rfl,?_⟩);go_simp;refine bz 19 zk (gH rfl rfl ⟨.inl rfl,?_⟩);go_simp;refine bz 20 zk (aB rfl rfl (aD (by go_simp;first | done | exact⟨rfl,rfl⟩ | rfl) ⟨.inl rfl,?_⟩));refine iA zk ?_ _;exact hV.out _ _ rfl ⟨true,mk3,Lt,rfl,HS.out.2.2.1,(fun h=>by cases h),fun _=>.inl ⟨HB2.out,hO4.tail,Hall.out.2 hmem⟩⟩
   rintro z5 vs w5 - ⟨bb,mk4,Lt4,rfl,hle4,hf,ht⟩;simp[litL,lk]
   cases bb with
   | true=>
    have Hq:=zh (zi (ht rfl) hle4);clear ht hf hle4;go_wp2;refine bodyPost_ret (v:=.tuple #[]) (by simp[results,Tryz.results221,go_sem]) rfl ?_;refine hR.out _ _ ⟨⟨_,rfl⟩,?_⟩;rcases Hq.out.1 with ⟨h1,h2,h3⟩ | ⟨qq,h1,h2,h3,h4⟩
    ·exact .inl ⟨_,mk4,Lt4,⟨n,rfl,HS.out.2.2.2.1 h3⟩,h1,h2,Hq.out.2⟩
    ·refine .inr ⟨_,mk4,Lt4,⟨n+1,?_,fun h=>h1 (List.append_eq_nil_iff.1 h).2⟩,h3,h4,Hq.out.2⟩;rw[HS.out.2.2.2.2.1]
     exact (List.prefix_append_right_inj _).2 h2
   | false=>
    obtain⟨h1,h2,h3,h4⟩:=hf rfl;have hKL:n+1≤KT:=by
     apply Classical.byContradiction;intro hn;have:=HS.out.2.2.2.2.2 zo (HX.out.2.2.1 _ _ h1);rw[Nat.add_sub_cancel] at this;rw[this] at h3;have:=List.eq_of_mem_replicate h3;cases this
    have Hq:=zh (zi h1 (zi h2 (zi hle4 h4)));clear ht hf hle4 h1 h2 h3 h4;go_wp2;exact hY2.out _ _ _ zo rfl ⟨n+1,n+1,.slice (some ⟨tb2,0,none⟩) (n+1) vtc2,xs2,mk4,Lt4,rfl,.inr ⟨zo,rfl,hKL⟩,rfl,Hq.out.2.2.1,Hq.out.1,Hq.out.2.1,Hq.out.2.2.2⟩
  ·have hd1:decide (0<T.length)=false:=decide_eq_false hT;have hT0:T=[]:=List.eq_nil_of_length_eq_zero zo;have hacc:∀y,aJ T 0 y=true→y.length<n:=fun y hy=>by rw[hT0,dC] at hy;cases hy
   have Hq:=zh (zi hacc (zi hO2.tail (zi hB2 hle2)));clear hacc hO2 hB2 hle2 hT0 hCR;go_wp2;refine bodyPost_ret (v:=.tuple #[]) (by simp[results,Tryz.results221,go_sem]) rfl ?_;exact hR.out _ _ ⟨⟨_,rfl⟩,.inl ⟨_,mk2,Lt,⟨n,rfl,Hq.out.1⟩,Hq.out.2.2.1,Hq.out.2.1,Hq.out.2.2.2⟩⟩
attribute [local go_sem] Oper.semAt_some
def bstr (x:List UInt8):ByteArray:=⟨x.toArray⟩
theorem Mi:iX Tryz.prog 56 9 1 16:=⟨Tryz.underlying56,zo,by
 obtain⟨i,h1,h2,h3,h4⟩:=info_parts (P:=Tryz.prog) (e:=9) (z:=.string ⟨#[]⟩) (size:=1) (bytes:=16) zk;exact⟨i,_,h1,h2,h3,h4,rfl⟩⟩
theorem jF {w:World} {t:TypeId} {v:Value} {l:List ByteArray} {m:Mem} (hown:w.ownsRow 0 t 1 v l.length (l.map Value.string)) (hk:∀x∈l,x.size≤maxLen):rG (m.addv w v) v l:=
 lY hown fun g hg i h=>⟨gI hown hg m (by simp[h]),hk _ (List.getElem_mem h)⟩
theorem Po (v:Value) (w:World):Calls Tryz.prog 204 #[.agg #[v]] w fun e w'=>e=.returned (.func (.func 221) #[] #[.pointer (some ⟨w.heap.size,0,none⟩)])∧w'=w.alloc (.cells #[v] 27):=by
 refine aj fun R hR=>?_
 go_enter Tryz.func204,Tryz.ntmps204
 go_wp2;exact hR.out _ _ ⟨rfl,rfl⟩
theorem Dh:∀args w,(callFunc 221 args).run Tryz.prog w=.ok (.enter 221 args) w:=enters_of Tryz.func221 zk rfl
def iQ (n:Int):Nat:=(min n 1000).toNat
theorem Mh {n:Int} (h:1≤n):1≤iQ n∧((iQ n:Nat):Int)=min n 1000∧iQ n≤1000:=by unfold iQ;omega
theorem Lb (f:List UInt8→Bool):iG f 0 []:=⟨.nil,fun x hx=>by simp at hx,zS,fun y _ _=>⟨rfl,fun x hx=>by simp at hx⟩⟩
theorem xy {T:Table} {K:Nat} {xs:List (List UInt8)} (h:(∃n,xs=enum T 0 n∧(∀y,aJ T 0 y=true→y.length<n)∧xs.length<K)∨(∃n,xs <+: enum T 0 n∧xs.length=K)):iG (aJ T 0) K xs:=by
 rcases h with ⟨n,rfl,h1,h2⟩ | ⟨n,h1,h2⟩
 ·have:=rz (l:=T) (s:=0) (L:=n) (k:=K) (.inr h1)
  rwa [List.take_of_length_le zo] at this
 ·have h3:xs=(enum T 0 n).take K:=by
   rw[← h2];exact List.prefix_iff_eq_take.1 h1
  have:=rz (l:=T) (s:=0) (L:=n) (k:=K) (.inl (by rw[← h2];exact h1.length_le))
  rwa [← h3] at this
theorem BX {T:Table} {K:Nat} {xs:List (List UInt8)} (h:iG (aJ T 0) K xs) (hK:(K+1)*(T.length+1)≤1000000):∀z∈xs,z.length≤1000000:=by
 intro z hz;rw[Fx h (BZ (l:=T) (s:=0) (k:=K) (L:=K*T.length) (Nat.le_refl _))] at hz;have h1:=((lq T 0 _ z).1 (List.mem_of_mem_take hz)).1;have:K*T.length≤(K+1)*(T.length+1):=Nat.mul_le_mul zo zo;omega
theorem rZ {F:Fence} {d:Nat} {P:Program} {t e:TypeId} {size bytes:Nat} (S:iX P t e size bytes) {w:World} {ops:Array Oper} {rest:List Oper} {o:Oper} {a:Act} {Q:Exit→Act→World→Prop} (hgd:o.guard=none) (s x:Operand)
 (ho:o.op=.call { callee:=.builtin .append,args:=#[s,x],argTypes:=#[t,t] })
 (v:Value) (n:Nat) (xs:List Value) (hs:a.eval s=v) (hown:w.ownsRow 0 e size v n xs)
 (ad:Addr) (m c:Nat) (news:List Value) (hx:a.eval x=.slice (some ad) m c) (hl:news.length=m*size) (hnews:∀j u,news[j]?=some u→w.cell? (ad.add j)=some u) (h1:∀u∈news,u.oneCell'=true)
 (h63:n+m≤maxLen) (hbytes:(n+m)*bytes≤140737488355328)
 (h:∀va vc w',w'.ownsRow 0 e size (.slice va (n+m) vc) (n+m) (xs ++ news)→w.grownBy w' v.ownBlock→(∀k,(Value.slice va (n+m) vc).ownBlock=some k→v.ownBlock=some k∨w.heap.size≤k)→wpListIn F d P ops Q rest (a.put o.dst (.slice va (n+m) vc)) w'):wpListIn F d P ops Q (o::rest) a w:=by
 refine wpListIn_plain hgd fun K hK=>?_;obtain⟨v',w',hr,h2,h3,h4⟩:=jP S w o.type v n xs hown ad m c news hl hnews h1 h63 hbytes;obtain⟨va,vc,rfl⟩:=aO h2;refine ⟨?_,?_⟩
 ·simp[Oper.about,ho,resolve,Target.leads,Sem.run_pure]
 ·rw[Oper.semAt_plain F _ _ (by rw[ho];intro c hc';cases hc')];simp[execOp,ho,resolve,invoke,builtin,hs,hx,hr,Result.andThen];exact hK _ _ (h va vc w' h2 h3 h4)
def strV (x:List UInt8):Value:=.string ⟨x.toArray⟩
theorem Dc (v0:Value) (A:Table) (n:Int) (m:Mem) (w:World) (hm:m.inn w) (htab:TabM m) (hA:aI m v0 A) (hn1 : -9223372036854775808≤n) (hn2:n≤9223372036854775807) (hlen:(iQ n+1)*(A.length+1)≤1000000) :
 Calls Tryz.prog 139 #[.agg #[v0],.int .i64 n] w fun e w'=>∃r ws,e=.returned r∧Below w.heap.size w w'∧rG (m.grow w w') r (ws.map bstr)∧iG (Sem A) (iQ n) ws:=by
 have hlA:A.length≤1000000:=by
  have:A.length+1≤(iQ n+1)*(A.length+1):=Nat.le_mul_of_pos_left _ zo;omega
 have hO:=(((Own.start hm).al #[v0] 27).al #[.int .i64 n] 3).al #[.slice none 0 0] 56;have hsz1:(w.alloc (.cells #[v0] 27)).heap.size=w.heap.size+1:=by simp
 have hsz2:((w.alloc (.cells #[v0] 27)).alloc (.cells #[.int .i64 n] 3)).heap.size=w.heap.size+1+1:=by simp
 rw[hsz2,hsz1] at hO;have HG:=zh (mi v0 A m _ hO.inn htab hA hlA);have HO:=zh hO;obtain⟨va,vc,rfl,-⟩:=hA;clear hO hsz1 hsz2;refine aj fun R hR=>?_;by_cases hn:n<1
 ·have hk0:iQ n=0:=by unfold iQ;omega
  have Hk0:=zh hk0;have hdec:decide (n<1)=true:=decide_eq_true hn;clear hk0
  go_enter Tryz.func139,Tryz.ntmps139
  go_wp2;refine hR.out _ _ ⟨_,[],rfl,HO.out.below,⟨none,0,rfl,Nat.le_refl _,by simp[maxLen],fun h=>absurd rfl h⟩,?_⟩;rw[Hk0.out];exact Lb _
 ·have hdec:decide (n<1)=false:=decide_eq_false hn;refine (callsIn_wide (n:=0)).1 ?_;refine callsIn_of_wp_marks Tryz.func139 rfl trivial ?_;simp only[Tryz.ntmps139,List.size_toArray,List.length_cons,List.length_nil,Nat.reduceAdd,Nat.reduceSub,Array.replicate_succ,Array.replicate_zero,List.push_toArray,List.append_toArray,List.nil_append,List.cons_append];refine wpIn_wide.2 ?_
  go_wp2_with fail
  refine HG.out.mono ?_;rintro e w1 ⟨r,rfl,hb1,hst⟩;have hO1:=HO.out.call hb1;obtain⟨ra,rc,rfl⟩:∃ra rc,r=.slice ra (cZ A).length rc:=by obtain⟨x,y,e,-⟩:=hst;exact⟨x,y,e⟩
  have HO1:=zh (zi hO1 hst);clear HO HG hb1 hst hO1
  go_wp2_with fail
  refine (Po (.slice ra (cZ A).length rc) w1).mono ?_;rintro e w2 ⟨rfl,rfl⟩;have hO2:=HO1.out.1.al #[.slice ra (cZ A).length rc] 27;have hst:=HO1.out.2;obtain⟨m1,hO3,l1,c1⟩:=hO2.Kb;obtain⟨m2,hO4,l2,c2⟩:=hO3.swap.Kb;have hO5:=hO4.swap.tail.eH 9 1;have hO6:=hO5;have hst2:=aK (Mem.le_trans l1 l2) hst;have c1':=Mem.aF l2 c1;have HS:=zh (zi hO5 (zi hst2 (zi c1' c2)));clear hO2 hst hO3 hO4 hO5 hO6 hst2 c1 c2 c1' l1 l2 HO1 m1;have hwp:=Mh (n:=n) zo;have hgl:=iq A;have hgis:=uM A;have hmul:(iQ n+1)*((cZ A).length+1)≤1000000:=Nat.le_trans (Nat.mul_le_mul_left _ zo) hlen;have HW:=zh (zi hwp (zi hgis hmul));have hw1:=hwp.1;have hw3:=hwp.2.2;clear hwp hgis hmul hgl;go_wp2;refine (wpIn_wide (n:=0)).1 ?_;refine DN (gf:=221) (lb:=#[.pointer (some ⟨w1.heap.size,0,none⟩)]) rfl Dh (encs:=fun x:List UInt8=>#[Value.string ⟨x.toArray⟩]) (fun _=>rfl) HS.out.1
   (fun pre L=>(∃v,L=[.row v 9 1 pre.length (pre.map strV),.obj (w.heap.size+1+1) 56 #[v]])∧pre.length<iQ n)
   (fun c pre L=>c=.exit 0∧(∃v,L=[.row v 9 1 pre.length (pre.map strV),.obj (w.heap.size+1+1) 56 #[v]])∧pre.length=iQ n)
   (fun xs=>∃n,xs=enum (cZ A) 0 n∧∀y,aJ (cZ A) 0 y=true→y.length<n) (fun xs=>∃n,xs <+: enum (cZ A) 0 n∧xs≠[]) ⟨⟨_,rfl⟩,by simp;omega⟩ ?seq
   (fun x=>{ tmps:=#[.agg #[.slice va A.length vc],.int .i64 n,.pointer (some ⟨w.heap.size,0,none⟩),.pointer (some ⟨w.heap.size+1,0,none⟩),.slice none 0 0,.pointer (some ⟨w.heap.size+1+1,0,none⟩),.string ⟨x.toArray⟩,.int .i64 n,.bool false,undef,.agg #[.slice va A.length vc],.agg #[.slice ra (cZ A).length rc],.func (.func 221) #[] #[.pointer (some ⟨w1.heap.size,0,none⟩)],.string ⟨x.toArray⟩,undef,undef,undef,undef,undef,undef,undef,undef,undef,undef],defers:=[] }) ?assign ?body ?done ?stop
  case seq=>
   intro l W1 L1 B Bx hB hBI hOw hY;exact JO HW.out.2.1.canon (iQ n) HW.out.2.2 hY HS.out.2.2.1 HS.out.2.1 (fun pre Lt h=>(hBI pre Lt h).elim fun L hL=>hL.2) hB hOw
  case assign=>
   intro l x W K hK
   gi_wp2
   exact hK
  case body=>
   rintro l pre x W mk1 Lt Lr ⟨⟨v,rfl⟩,hlt⟩ hOw hle;simp only[List.cons_append,List.nil_append] at hOw;obtain⟨xa,xc,rfl⟩:=aO hOw.row;have o1:=hOw.swap.obj.cell (i:=0) rfl;have o2:=hOw.swap.obj.lt;have o3:=hOw.swap.obj.frozen 0;have n1:=Mem.av hOw.inn (Mem.aF hle HS.out.2.2.2);have n2:=Mem.ak hOw.inn (Mem.aF hle HS.out.2.2.2);have hO2:=hOw.al #[.string ⟨x.toArray⟩] 9;have hnews:=hO2.obj.news rfl;have Hlt:=zh hlt;clear hOw
   gi_wp2_with (gi_at_builtin;refine rZ Mi rfl (.tmp 14) (.tmp 16) rfl (.slice xa pre.length xc) pre.length (pre.map strV) rfl hO2.swap.row ⟨W.heap.size,0,none⟩ 1 1 [.string ⟨x.toArray⟩] rfl rfl hnews (by simp[Value.oneCell']) (by unfold maxLen;omega) zo ?_)
   intro ya yc w5 hown5 hgrow5 hrow5;have hO3:=(hO2.swap.app hown5 hgrow5 hrow5 zS).drop2;have o1:=hO3.swap.obj.cell (i:=0) rfl;have o2:=hO3.swap.obj.lt;have o3:=hO3.swap.obj.frozen 0;have n1:=Mem.av hO3.inn (Mem.aF hle HS.out.2.2.2);have n2:=Mem.ak hO3.inn (Mem.aF hle HS.out.2.2.2);have hO4:=(hO3.swap.set 0 (.slice ya (pre.length+1) yc)).swap;have HO4:=zh hO4;clear hO4 hO3 hO2 hown5 hgrow5 hrow5 hnews;have Hend:=zh (show ∀xs,xs=pre ++ [x]→([Item.row (.slice ya (pre.length+1) yc) 9 1 (pre.length+1) (pre.map strV ++ [.string ⟨x.toArray⟩]),Item.obj (w.heap.size+1+1) 56 #[.slice ya (pre.length+1) yc]]:List Item)=[Item.row (.slice ya (pre.length+1) yc) 9 1 xs.length (xs.map strV),Item.obj (w.heap.size+1+1) 56 #[.slice ya (pre.length+1) yc]] from fun xs h=>by
    subst h;simp[strV])
   have hne:w.heap.size+1≠w.heap.size+1+1:=zo
   gi_wp2
   all_goals unfold yg
   all_goals dsimp only
   all_goals first
    | (have ht:((pre.length:Int)+1==min n 1000)=true:=by assumption
       refine ⟨mk1,_,⟨rfl,⟨_,Hend.out _ rfl⟩,?_⟩,HO4.out,Mem.le_refl _⟩;have h1:=HW.out.1.2.1;have h2:=beq_iff_eq.1 ht;simp only[List.length_append,List.length_cons,List.length_nil]
       omega)
    | (have ht:((pre.length:Int)+1==min n 1000)=false:=by assumption
       refine ⟨mk1,_,⟨⟨_,Hend.out _ rfl⟩,?_⟩,HO4.out,Mem.le_refl _⟩;have h1:=HW.out.1.2.1;have h2:=beq_eq_false_iff_ne.1 ht;have h3:=Hlt.out;simp only[List.length_append,List.length_cons,List.length_nil];omega)
  case done=>
   rintro D xs W mk1 L ⟨nn,hxs,hfin⟩ ⟨⟨v,rfl⟩,hlt⟩ hOw hle;obtain⟨xa,xc,rfl⟩:=aO hOw.swap.row;have o1:=hOw.third.obj.cell (i:=0) rfl;have o2:=hOw.third.obj.lt;have hfirst:=xy (.inl ⟨nn,hxs,hfin,hlt⟩);have hres:iG (Sem A) (iQ n) xs:=hfirst.congr fun y=>HW.out.2.1.lang y;have hsz:∀z∈xs,(bstr z).size≤maxLen:=fun z hz=>by
    have:=BX hfirst HW.out.2.2 z hz;simp[bstr,ByteArray.size,maxLen];omega
   clear hxs hfin hlt hfirst;have hbl:=hOw.blob;have hO2:=hOw.swap;have hst:=jF (l:=xs.map bstr) (m:=mk1) (t:=9) (v:=.slice xa xs.length xc) (w:=W) (by
    rw[List.length_map,List.map_map];exact hO2.row) (fun y hy=>by
    obtain⟨z,hz,rfl⟩:=List.mem_map.1 hy;exact hsz z hz)
   rw[show (Mem.addv mk1 W (.slice xa xs.length xc))=Mem.addv mk1 W (.slice xa xs.length xc) from rfl] at hst;have hO3:=hO2.bD;have hO4:=hO3.ku (o':=.deferred none) (World.putObj_heap_same (Array.getElem?_eq_some_iff.1 hbl).1) (grownBy_putObj' _ _ _);have hfin2:=og hO4.done hst;have Hk:=zh (zi hO4.below (zi hfin2 hres));clear hO4 hO3 hO2 hOw hst hfin2
   gi_wp2
   go_wp2;refine ⟨zS,.inl ⟨_,_,rfl,run_takeDeferred hbl,?_⟩⟩;exact⟨.slice xa xs.length xc,by simp[results,Tryz.results139,go_sem],hR.out _ _ ⟨_,xs,rfl,Hk.out.1,Hk.out.2.1,Hk.out.2.2⟩⟩
  case stop=>
   rintro D c xs W mk1 L ⟨nn,hpre,hne⟩ ⟨rfl,⟨v,rfl⟩,hlt⟩ hOw hle;obtain⟨xa,xc,rfl⟩:=aO hOw.swap.row;have o1:=hOw.third.obj.cell (i:=0) rfl;have o2:=hOw.third.obj.lt;have hfirst:=xy (.inr ⟨nn,hpre,hlt⟩);have hres:iG (Sem A) (iQ n) xs:=hfirst.congr fun y=>HW.out.2.1.lang y;have hsz:∀z∈xs,(bstr z).size≤maxLen:=fun z hz=>by
    have:=BX hfirst HW.out.2.2 z hz;simp[bstr,ByteArray.size,maxLen];omega
   clear hpre hne hlt hfirst;have hbl:=hOw.blob;have hO2:=hOw.swap;have hst:=jF (l:=xs.map bstr) (m:=mk1) (t:=9) (v:=.slice xa xs.length xc) (w:=W) (by
    rw[List.length_map,List.map_map];exact hO2.row) (fun y hy=>by
    obtain⟨z,hz,rfl⟩:=List.mem_map.1 hy;exact hsz z hz)
   rw[show (Mem.addv mk1 W (.slice xa xs.length xc))=Mem.addv mk1 W (.slice xa xs.length xc) from rfl] at hst;have hO3:=hO2.bD;have hO4:=hO3.ku (o':=.deferred none) (World.putObj_heap_same (Array.getElem?_eq_some_iff.1 hbl).1) (grownBy_putObj' _ _ _);have hfin2:=og hO4.done hst;have Hk:=zh (zi hO4.below (zi hfin2 hres));clear hO4 hO3 hO2 hOw hst hfin2
   gi_wp2
   go_wp2;refine ⟨zS,.inl ⟨_,_,rfl,run_takeDeferred hbl,?_⟩⟩;exact⟨.slice xa xs.length xc,by simp[results,Tryz.results139,go_sem],hR.out _ _ ⟨_,xs,rfl,Hk.out.1,Hk.out.2.1,Hk.out.2.2⟩⟩
def Ph (f:List UInt8→Bool):Option (List UInt8)→Prop
 | some x=>f x=true∧∀y,f y=true→y=x
 | none=>¬ ∃x,f x=true∧∀y,f y=true→y=x
theorem Ph.congr {f g:List UInt8→Bool} {a:Option (List UInt8)} (h:Ph f a) (e:∀w,f w=g w):Ph g a:=by
 have:f=g:=funext e;rw[← this];exact h
def optV (o:Option (List UInt8)):Value:=.tuple #[.string (match o with | some x=>bstr x | none=>⟨#[]⟩),.bool o.isSome]
theorem oZ (v0:Value) (A:Table) (m:Mem) (w:World) (hm:m.inn w) (htab:TabM m) (hA:aI m v0 A) (hlen:A.length≤400000) :
 Calls Tryz.prog 92 #[.agg #[v0]] w fun e w'=>∃o,e=.returned (optV o)∧Below w.heap.size w w'∧kI (Sem A) o:=by
 have hO:=(Own.start hm).al #[v0] 27;have HW:=zh (Dc v0 A 1 m _ hO.inn htab hA zo zo (by have:iQ 1=1:=rfl;rw[this];omega));have HO:=zh hO;clear hO;refine aj fun R hR=>?_
 go_enter Tryz.func92,Tryz.ntmps92
 go_wp2_with fail
 refine HW.out.mono ?_;rintro e w1 ⟨r,ws,rfl,hb1,hst,hfirst⟩;have hO1:=HO.out.call hb1;have hl:=Ho hfirst
 cases ws with
 | nil=>
  obtain⟨ra,rc,rfl,r2,r3,r4⟩:=hst;have Hk:=zh (zi hO1.below hl);clear hO1 hl hfirst HW HO hb1 r4;go_wp2
  exact hR.out _ _ ⟨none,rfl,Hk.out.1,Hk.out.2⟩
 | cons x ws=>
  obtain⟨ra,rc,rfl,r2,r3,r4⟩:=hst;obtain⟨rb,ro,rfl,r5⟩:=r4 zS;have z:=(r5 0 zS).1;rw[Nat.add_zero] at z;have z1:=Mem.av hO1.inn z;have z2:=Mem.ak hO1.inn z;simp only[List.map_cons,List.getElem_cons_zero] at z1;have hw0:0<(List.map bstr (x::ws)).length:=by simp
  have hdec:(((List.map bstr (x::ws)).length:Int)==0)=false:=beq_eq_false_iff_ne.2 zo;have Hk:=zh (zi hO1.below hl);clear hO1 hl hfirst HW HO hb1 r4 r5 z;generalize (List.map bstr (x::ws)).length=N at *
  go_wp2;exact hR.out _ _ ⟨some x,rfl,Hk.out.1,Hk.out.2⟩
theorem Aj:∀x:List UInt8,Op.bytesLess x x=false
 | []=>rfl
 | a::x=>by simp[Op.bytesLess,Aj x]
def iy (n c:Nat):List Ed:=if 0<c then [⟨0,c - 1,(n:Int)+1⟩] else []
theorem Ak {s:List UInt8} {self:Bool} {i:Nat} (h:i<s.length):(gW s self).take (i+1)=(gW s self).take i ++ [⟨true,iy s.length (s[i]).toNat ++ [⟨(s[i]).toNat,(s[i]).toNat,(i:Int)+1⟩]⟩]:=by
 have h1:=vC (self:=self) h;have hl:i<(gW s self).length:=by rw[oK];omega
 rw[List.take_succ_eq_append_getElem hl]
 congr 1
 rw[List.getElem?_eq_getElem hl] at h1;rw[Option.some.inj h1]
 rfl
theorem Al (s:List UInt8) (self:Bool):gW s self=(gW s self).take s.length ++ [⟨self,[]⟩] ++ [⟨true,[⟨0,255,(s.length:Int)+1⟩]⟩]:=by
 unfold gW;rw[List.take_left' zS];simp
theorem Own.TI {w0 w w':World} {m mk:Mem} {L:List Cl.Item} {g:Nat} {t:TypeId} {arr:Array Value} (h:Own w0 m w mk L) (hb:Below w.heap.size w w') (hg:w.heap.size≤g) (ho:bI w' g t arr):Own w0 m w' mk (.obj g t arr::L):=
 (h.move hb).cons ho (fun k hk=>by simp only[Item.blk,Option.some.injEq] at hk;subst hk;exact⟨Nat.le_trans h.below.size hg,Mem.fe h.inn hg⟩)
  (fun b hb' k h1 h2=>by simp only[Item.blk,Option.some.injEq] at h1;subst h1;have:=Item.lt (h.ok b hb') h2;omega)
theorem Df (s:ByteArray) (self:Bool) (m:Mem) (w:World) (hm:m.inn w) (htab:TabM m) (hs:s.size≤1000) :
 Calls Tryz.prog 159 #[.string s,.bool self] w fun e w'=>∃r C,e=.returned (.agg #[r])∧Below w.heap.size w w'∧aI (m.grow w w') r C ∧
  dX (fun v=>jM self v s.data.toList) C∧C.length≤s.size+3:=by
 have hO:=((Own.start hm).al #[.slice none 0 0] 27).eH 66 2;have HO:=zh hO;clear hO;refine aj fun R hR=>?_
 go_enter Tryz.func159,Tryz.ntmps159
 go_wp2;refine ay [0,1,4,5,6,15,16] (fun n vs wr=>∃(k:Nat) (vo:Value) (xs:List Value) (mk:Mem),k≤s.size∧n=s.size - k∧vs=[.string s,.bool self,.pointer (some ⟨w.heap.size,0,none⟩),vo,.int .i64 ((s.size:Int)+1),.int .i64 s.size,.int .i64 k] ∧
  Own w m wr mk [.row vo 66 2 k xs,.obj w.heap.size 27 #[.slice none 0 0]]∧jX mk xs ((gW s.data.toList self).take k)) ?_ ?_
 ·exact⟨_,0,.slice none 0 0,[],m,Nat.zero_le _,rfl,rfl,HO.out,jX.nil m⟩
 clear HO;rintro X z n vs wr hX - ⟨k,vo,xs,mk,hk,rfl,rfl,hO,hrow⟩;simp[litL,lk];obtain⟨voa,voc,rfl⟩:=aO hO.row;by_cases hlt:k<s.size
 ·have hc:=(s[k]).toNat_lt;have htk:(gW s.data.toList self).take (k+1)=(gW s.data.toList self).take k ++ [⟨true,iy s.size (s[k]'hlt).toNat ++ [⟨(s[k]'hlt).toNat,(s[k]'hlt).toNat,(k:Int)+1⟩]⟩]:=by
   have hsl:s.data.toList.length=s.size:=by simp
   have h1:=Ak (s:=s.data.toList) (self:=self) (i:=k) (by rw[hsl];exact hlt);have h2:iy s.data.toList.length=iy s.size:=by rw[hsl]
   rw[h2] at h1;exact h1
  have Htk:=zh htk;have HR:=zh hrow;clear htk hrow;have hO2:=(hO.al #[.bool true,.slice none 0 0] 66).eH 106 3;have HO2:=zh hO2;clear hO hO2;have hw1:IntKind.i64.wrap ((k:Int)+1)=(k:Int)+1:=IntWalk.i64_in _ zo;have hw2:0<(s[k]).toNat→IntKind.u8.wrap (((s[k]).toNat:Int) - 1)=(((s[k]).toNat - 1:Nat):Int):=fun h=>by rw[IntWalk.u8_in _ zo];omega
  have Hw2:=zh hw2;clear hw2
  go_upto_if 23 with (fail)
  generalize wr.heap.size=S at *
  generalize wr.alloc (.cells #[.bool true,.slice none 0 0] 66)=w2 at *
  refine aA [0,1,4,5,6,15,16,7,8] (fun vs w'=>∃ve:Value,vs=[.string s,.bool self,.pointer (some ⟨w.heap.size,0,none⟩),.slice voa k voc,.int .i64 ((s.size:Int)+1),.int .i64 s.size,.int .i64 k,.int .i64 k,.pointer (some ⟨S,0,none⟩)] ∧
   Own w m w' mk [.row ve 106 3 (iy s.size (s[k]).toNat).length (dh (iy s.size (s[k]).toNat)),.obj S 66 #[.bool true,ve],.row (.slice voa k voc) 66 2 k xs,.obj w.heap.size 27 #[.slice none 0 0]]) ?_ ?_
  ·intro V hV;by_cases hpos:0<(s[k]).toNat
   ·have hbe:iy s.size (s[k]).toNat=[⟨0,(s[k]).toNat - 1,(s.size:Int)+1⟩]:=by unfold iy;rw[if_pos hpos]
    have Hbe:=zh hbe;have hdec:decide (0<(s[k]).toNat)=true:=decide_eq_true hpos;have hdec2:decide ((0:Int)<((s[k]).toNat:Int))=true:=decide_eq_true zo;have hw3:=Hw2.out hpos;have hO:=HO2.out.dr;clear hbe;go_wp2;refine fw (fun w'=>bI w' S 66 #[.bool true,.slice none 0 0]) 11 zk ?_;have hS:=hO.swap.obj;refine az 0 rfl zk (fun _ _ _ h=>h) hS (au rfl fun w' hS'=>by have q:=hS'.cell (i:=1) rfl;go_simp;rfl) ?_;refine az 1 rfl zk (fun _ _ _ h=>h) hS (au rfl fun w' hS'=>by have q:=hS'.cell (i:=1) rfl;go_simp;rfl) ?_;refine az 2 rfl zk (fun _ _ _ h=>h) hS (au rfl fun w' hS'=>by have q:=hS'.cell (i:=1) rfl;go_simp;rfl) ?_;refine az 3 rfl zk (fun _ _ _ h=>h) hS (au rfl fun w' hS'=>by have q:=hS'.cell (i:=1) rfl;go_simp;rfl) ?_;refine az 4 rfl zk (fun _ _ _ h=>h) hS (au rfl fun w' hS'=>by have q:=hS'.cell (i:=1) rfl;go_simp;rfl) ?_;refine az 5 rfl zk (fun _ _ _ h=>h) hS (au rfl fun w' hS'=>by have q:=hS'.cell (i:=1) rfl;go_simp;rfl) ?_;refine az 6 rfl zk (fun _ _ _ h=>h) hS (au rfl fun w' hS'=>by have q:=hS'.cell (i:=1) rfl;go_simp;rfl) ?_;refine aG 7 zk (aB rfl rfl (aD (by go_simp;first | done | exact⟨rfl,rfl⟩ | rfl) (andS hS fun _=>?_)));go_simp;have hO6:=hO.al #[.int .u8 0,.int .u8 ((s[k]).toNat - 1:Nat),.int .i64 ((s.size:Int)+1)] 106;refine aG 8 zk (aB rfl rfl (aD (by go_simp;first | done | exact⟨rfl,rfl⟩ | rfl) (andS hO6.third.obj fun _=>?_)));go_simp;refine aG 9 zk (aB rfl rfl (eB mO (.tmp 25) (.tmp 32) rfl (.slice none 0 0) 0 [] rfl hO6.swap.row ⟨w2.heap.size,0,none⟩ 1 1 [.int .u8 0,.int .u8 ((s[k]).toNat - 1:Nat),.int .i64 ((s.size:Int)+1)] rfl rfl (hO6.obj.news rfl) (by simp[Value.oneCell']) (by unfold maxLen;omega) zo (fun na' nc' w7 hown7 hgrow7 hrow7=>?_)));have hO7:=(hO6.swap.app hown7 hgrow7 hrow7 (Nat.le_refl _)).drop2;refine andS hO7.swap.obj fun hS3=>?_;go_simp;refine aG 10 zk (aB rfl rfl (aD (by go_simp;first | done | exact⟨rfl,rfl⟩ | rfl) (andS hS3 fun _=>?_)));go_simp;have f3:=hS3.frozen 1;have c3:=hS3.cell (i:=1) rfl;refine aG 11 zk (aB rfl rfl (aS zg (ji rfl ?_)));refine dS zk ?_ _;have hO8:=(hO7.swap.set 1 (.slice na' (0+1) nc')).swap;refine hV.out _ _ rfl ⟨.slice na' (0+1) nc',rfl,?_⟩;rw[Hbe.out];exact hO8
   ·have hbe:iy s.size (s[k]).toNat=[]:=by unfold iy;rw[if_neg hpos]
    have Hbe:=zh hbe;have hdec:decide (0<(s[k]).toNat)=false:=decide_eq_false hpos;have hdec2:decide ((0:Int)<((s[k]).toNat:Int))=false:=decide_eq_false zo;clear hbe;go_wp2;refine hV.out _ _ rfl ⟨.slice none 0 0,rfl,?_⟩;rw[Hbe.out];exact HO2.out
  rintro z3 vs w3 - ⟨ve,rfl,hO⟩;simp[litL,lk];clear HO2;obtain⟨vea,vec,rfl⟩:=aO hO.row;have hel:(iy s.size (s[k]).toNat).length≤1:=by unfold iy;split <;> simp
  have hok:∀e∈iy s.size (s[k]).toNat ++ [⟨(s[k]).toNat,(s[k]).toNat,(k:Int)+1⟩],edOk e:=fun e he=>by
   rcases List.mem_append.1 he with h1 | h1
   ·unfold iy at h1
    split at h1
    ·rw[List.mem_singleton.1 h1];exact⟨by show 0<256;omega,by show (s[k]).toNat - 1<256;omega,by show _≤(s.size:Int)+1;omega,by show (s.size:Int)+1≤_;omega⟩
    ·simp at h1
   ·rw[List.mem_singleton.1 h1];exact⟨hc,hc,by show _≤(k:Int)+1;omega,by show (k:Int)+1≤_;omega⟩
  have Hok:=zh hok;clear hok;generalize iy s.size (s[k]).toNat=es at *
  have hO:=hO.dr;go_wp2;refine aA [0,1,4,5,6,15,16,8] (fun vs w'=>∃ve:Value,vs=[.string s,.bool self,.pointer (some ⟨w.heap.size,0,none⟩),.slice voa k voc,.int .i64 ((s.size:Int)+1),.int .i64 s.size,.int .i64 k,.pointer (some ⟨S,0,none⟩)] ∧
   Own w m w' mk [.row ve 106 3 (es.length+1) (dh (es ++ [⟨(s[k]).toNat,(s[k]).toNat,(k:Int)+1⟩])),.obj S 66 #[.bool true,ve],.row (.slice voa k voc) 66 2 k xs,.obj w.heap.size 27 #[.slice none 0 0]]) ?_ ?_
  ·intro V hV;refine fw (fun w'=>bI w' S 66 #[.bool true,.slice vea es.length vec]) 14 zk ?_;have hS:=hO.swap.obj;refine az 0 rfl zk (fun _ _ _ h=>h) hS (au rfl fun w' hS'=>by have q:=hS'.cell (i:=1) rfl;go_simp;rfl) ?_;refine az 1 rfl zk (fun _ _ _ h=>h) hS (au rfl fun w' hS'=>by have q:=hS'.cell (i:=1) rfl;go_simp;rfl) ?_;refine az 2 rfl zk (fun _ _ _ h=>h) hS (au rfl fun w' hS'=>by have q:=hS'.cell (i:=1) rfl;go_simp;rfl) ?_;refine az 3 rfl zk (fun _ _ _ h=>h) hS (au rfl fun w' hS'=>by have q:=hS'.cell (i:=1) rfl;go_simp;rfl) ?_;refine az 4 rfl zk (fun _ _ _ h=>h) hS (au rfl fun w' hS'=>by have q:=hS'.cell (i:=1) rfl;go_simp;rfl) ?_;refine az 5 rfl zk (fun _ _ _ h=>h) hS (au rfl fun w' hS'=>by have q:=hS'.cell (i:=1) rfl;go_simp;rfl) ?_;refine az 6 rfl zk (fun _ _ _ h=>h) hS (au rfl fun w' hS'=>by have q:=hS'.cell (i:=1) rfl;go_simp;rfl) ?_;refine az 7 rfl zk (fun _ _ _ h=>h) hS (au rfl fun w' hS'=>by have q:=hS'.cell (i:=1) rfl;go_simp;rfl) ?_;refine az 8 rfl zk (fun _ _ _ h=>h) hS (au rfl fun w' hS'=>by have q:=hS'.cell (i:=1) rfl;go_simp;rfl) ?_;refine az 9 rfl zk (fun _ _ _ h=>h) hS (au rfl fun w' hS'=>by have q:=hS'.cell (i:=1) rfl;go_simp;rfl) ?_;refine aG 10 zk (aB rfl rfl (aD (by go_simp;first | done | exact⟨rfl,rfl⟩ | rfl) (andS hS fun _=>?_)));go_simp;have hO6:=hO.al #[.int .u8 (s[k]).toNat,.int .u8 (s[k]).toNat,.int .i64 ((k:Int)+1)] 106;refine aG 11 zk (aB rfl rfl (aD (by go_simp;first | done | exact⟨rfl,rfl⟩ | rfl) (andS hO6.third.obj fun _=>?_)));go_simp;refine aG 12 zk (aB rfl rfl (eB mO (.tmp 36) (.tmp 46) rfl (.slice vea es.length vec) es.length (dh es) rfl hO6.swap.row ⟨w3.heap.size,0,none⟩ 1 1 [.int .u8 (s[k]).toNat,.int .u8 (s[k]).toNat,.int .i64 ((k:Int)+1)] rfl rfl (hO6.obj.news rfl) (by simp[Value.oneCell']) (by unfold maxLen;omega) zo (fun na' nc' w7 hown7 hgrow7 hrow7=>?_)));have hO7:=(hO6.swap.app hown7 hgrow7 hrow7 (Nat.le_refl _)).drop2;refine andS hO7.swap.obj fun hS3=>?_;go_simp;refine aG 13 zk (aB rfl rfl (aD (by go_simp;first | done | exact⟨rfl,rfl⟩ | rfl) (andS hS3 fun _=>?_)));go_simp;have f3:=hS3.frozen 1;have c3:=hS3.cell (i:=1) rfl;refine aG 14 zk (aB rfl rfl (aS zg (ji rfl ?_)));refine dS zk ?_ _;have hO8:=(hO7.swap.set 1 (.slice na' (es.length+1) nc')).swap;refine hV.out _ _ rfl ⟨.slice na' (es.length+1) nc',rfl,?_⟩;rw[fq];exact hO8
  rintro z4 vs w4 - ⟨ve,rfl,hO⟩;simp[litL,lk];obtain⟨vea2,vec2,rfl⟩:=aO hO.row;have hes:=fU (l:=es ++ [⟨(s[k]).toNat,(s[k]).toNat,(k:Int)+1⟩]) (m:=mk) (by rw[List.length_append];exact hO.row) Hok.out;have hmk2:=Mem.eD (w:=w4) hO.free;have hrow2:=(HR.out.mono hmk2).push (s:=⟨true,es ++ [⟨(s[k]).toNat,(s[k]).toNat,(k:Int)+1⟩]⟩) hes;have hO2:=hO.bD;have s0:=hO2.obj.cell (i:=0) rfl;have s1:=hO2.obj.cell (i:=1) rfl;have sl:=hO2.obj.lt;have hO3:=hO2.al #[.bool true,.slice vea2 (es.length+1) vec2] 66;have Hk:=zh hrow2;clear hrow2 hes hmk2;generalize mk.addv w4 (.slice vea2 (es.length+1) vec2)=mk2 at *
  have hnews:=hO3.obj.news rfl;clear hO hO2
  go_wp2_with (at_builtin;refine aC iH rfl (.tmp 49) (.tmp 51) rfl (.slice voa k voc) k xs rfl hO3.third.row ⟨w4.heap.size,0,none⟩ 1 1 [.bool true,.slice vea2 (es.length+1) vec2] rfl rfl hnews (by simp[Value.oneCell']) (by unfold maxLen;omega) zo ?_)
  intro va vc w7 hown7 hgrow7 hrow7;have hO4:=(hO3.third.app hown7 hgrow7 hrow7 zS).drop2.drop2;have HO4:=zh hO4;clear hown7 hgrow7 hrow7 hO3 hnews hO4;go_wp2;refine hX.out _ _ _ zo rfl ⟨k+1,.slice va (k+1) vc,_,mk2,zo,rfl,rfl,HO4.out,?_⟩;rw[Htk.out];exact Hk.out
 ·obtain rfl:k=s.size:=zo;have hsl:s.data.toList.length=s.size:=by simp
  have he2:=Al s.data.toList self;rw[hsl] at he2;have hwfb:=F8 s.data.toList self;have hbl:=wz s.data.toList self;have hbn:=oK s.data.toList self;rw[hsl] at hbn;have HB:=zh (zi he2 (zi hwfb (zi hbl hbn)));have HR:=zh hrow;have HO:=zh hO;clear he2 hwfb hbl hbn hsl hrow hO
  go_wp2_with fail
  refine (Aq wr).mono ?_;rintro e w1 ⟨g1,g2,rfl,hb1,q1,q2,q3,o1,o2⟩;have hO1:=HO.out.TI hb1 q1 o1;have hfd:∀w:World,(Instr.field 27 (.agg #[.slice (some ⟨g2,0,none⟩) 1 1]) 0).run Tryz.prog w=.ok (.slice (some ⟨g2,0,none⟩) 1 1) w:=fun _=>by kernel_rfl
  have c0:=o2.cell (i:=0) rfl;have c1:=o2.cell (i:=1) rfl;have cl:=o2.lt;have hO2:=hO1.al #[.bool self,.slice none 0 0,.bool true,.slice (some ⟨g1,0,none⟩) 1 1] 66;have hnews:=hO2.obj.news rfl;have hxl:=(hO1.swap.row).1;have hw1:IntKind.i64.wrap ((s.size:Int)+1)=(s.size:Int)+1:=IntWalk.i64_in _ zo;clear hO1 HO hb1 q1 q2 q3 o1 o2
  go_wp2_with (at_builtin;refine aC iH rfl (.tmp 54) (.tmp 61) rfl (.slice voa s.size voc) s.size xs rfl hO2.third.row ⟨w1.heap.size,0,none⟩ 2 2 [.bool self,.slice none 0 0,.bool true,.slice (some ⟨g1,0,none⟩) 1 1] rfl rfl hnews (by simp[Value.oneCell']) (by unfold maxLen;omega) zo ?_)
  intro va vc w7 hown7 hgrow7 hrow7;have hO3:=(hO2.third.app hown7 hgrow7 hrow7 zS).drop2;obtain⟨vb,rfl⟩:=jH hO3.row zo;have r1:=aX (j:=(s.size+1)*2+1) (u:=.slice (some ⟨g1,0,none⟩) 1 1) hO3.row (by
   rw[List.getElem?_append_right zo,show (s.size+1)*2+1 - xs.length=3 by omega];rfl)
  have r2:=(World.ownsRow.lt hO3.row _ rfl).2;have e1:=hO3.swap.obj.cell (i:=2) rfl;have e2:=hO3.swap.obj.frozen 2;have e3:=hO3.swap.obj.lt;have hO4:=(hO3.swap.set 2 (.int .i64 ((s.size:Int)+1)));have hed:=CP (mk:=mk) (lo:=0) (hi:=255) (to:=(s.size:Int)+1) hO4.obj ⟨by show 0<256;omega,by show 255<256;omega,by show _≤(s.size:Int)+1;omega,by show (s.size:Int)+1≤_;omega⟩;have hmk2:=Mem.jw (w:=w7.setCell ⟨g1,2,none⟩ (.int .i64 ((s.size:Int)+1))) hO4.iC;have hO5:=hO4.ib;have hrow5:=((HR.out.mono hmk2).push (s:=⟨self,[]⟩) (CW _)).push (s:=⟨true,[⟨0,255,(s.size:Int)+1⟩]⟩) hed;rw[← HB.out.1] at hrow5;have hst:=dZ (l:=gW s.data.toList self) (m:=mk.add (w7.setCell ⟨g1,2,none⟩ (.int .i64 ((s.size:Int)+1))) g1) (by rw[HB.out.2.2.2];simpa using hO5.row) (by simpa using hrow5) hO5.free;have hO6:=hO5.bD;have hml:m.le _:=hO6.ext.le;have HM:=zh (pI _ (gW s.data.toList self) _ _ hO6.inn (htab.le hml) hst (by rw[HB.out.2.2.2];omega));have HO6:=zh hO6;have hi1:((s.size:Int)+1)<((s.size:Int)+2):=zo;have hi2:s.size+1<s.size+2:=zo;clear hO6 hml hst hrow5 hO5 hmk2 hed hO4 hO3 hO2 hown7 hgrow7 hrow7 hnews hxl c0 c1 cl hfd
  go_wp2_with fail
  refine HM.out.mono ?_;rintro e w2 ⟨r,C,rfl,hb2,hst,hClen,hmin,hnot⟩;have hwf:=HB.out.2.1.1;rw[aN hwf];obtain⟨ra,rc,rfl⟩:∃ra rc,r=.slice ra C.length rc:=by obtain⟨x,y,e,-⟩:=hst;exact⟨x,y,e⟩
  have hO7:=(HO6.out.call hb2).al #[.slice ra C.length rc] 27;have g1':=hO7.swap.obj.cell (i:=0) rfl;have g2':=hO7.swap.obj.frozen 0;have g3':=hO7.swap.obj.lt;have hO8:=hO7.swap.set 0 (.slice ra C.length rc);have g4':=hO8.obj.cell (i:=0) rfl;have hfin:=aK hO8.done hst;have Hk:=zh (zi hO8.below (zi hfin (zi (hmin hwf) hClen)));clear hO8 hO7 hfin hmin hnot hst hClen HO6 hwf HM;go_wp2;refine bodyPost_ret (v:=.agg #[.slice ra C.length rc]) (by simp[results,Tryz.results159,go_sem,g4']) rfl ?_;refine hR.out _ _ ⟨_,C,rfl,Hk.out.1,Hk.out.2.1,⟨Hk.out.2.2.1.canon,fun x=>?_⟩,?_⟩
  ·rw[Hk.out.2.2.1.lang];have:=HB.out.2.2.1 x 0 (Nat.zero_le _);rw[List.drop_zero] at this;exact this
  ·have h1:=Hk.out.2.2.2;have h2:=HB.out.2.2.2;omega
theorem tN (s:ByteArray):pW s.data.toList s.size ++ [⟨true,[]⟩]=kK s.data.toList:=by
 unfold pW kK;simp
theorem Hz (op s:ByteArray) (m:Mem) (w:World) (hm:m.inn w) (htab:TabM m) (_:op.size≤1000) (hs:s.size≤1000) :
 Calls Tryz.prog 110 #[.string op,.string s] w fun e w'=>∃r C,e=.returned (.tuple #[.agg #[r],.int .i64 (if (dx op.toList s.data.toList).isSome then 0 else 8)])∧Below w.heap.size w w'∧aI (m.grow w w') r C ∧
  (∀f,dx op.toList s.data.toList=some f→dX f C)∧(dx op.toList s.data.toList=none→C=[])∧C.length≤3*(s.size+5)+1:=by
 have hO:=(Own.start hm).al #[.slice none 0 0] 27;have HO:=zh hO;have HB:=zh (fun self=>Df s self m _ hO.inn htab hs);have HW:=zh (Co s m _ hO.inn hs);clear hO;refine aj fun R hR=>?_
 go_enter Tryz.func110,Tryz.ntmps110
 have hnc:∀x:ByteArray,Hid (x=x):=fun x=>zh rfl;clear hnc
 go_wp2_with fail
 ·
  have h0:(op.toList==[60])=true:=by assumption
  have hf:dx op.toList s.data.toList=some (jM false · s.data.toList):=by simp[dx,beq_iff_eq.1 h0]
  refine (HB.out false).mono ?_;rintro e w1 ⟨r,C,rfl,hb1,hst,hlang,hClen⟩;have hO1:=HO.out.call hb1;obtain⟨ra,rc,rfl⟩:∃ra rc,r=.slice ra C.length rc:=by obtain⟨x,y,e,-⟩:=hst;exact⟨x,y,e⟩
  clear h0 hb1;have g1:=hO1.obj.cell (i:=0) rfl;have g2:=hO1.obj.frozen 0;have g3:=hO1.obj.lt;have hO2:=hO1.set 0 (.slice ra C.length rc);have g4:=hO2.obj.cell (i:=0) rfl;have Hk:=zh (zi hO2.below (zi (aK hO2.done hst) (zi hlang (zi hClen hf))));clear hO2 hO1 hst hlang hClen hf;go_wp2;refine bodyPost_ret (v:=.tuple #[.agg #[.slice ra C.length rc],.int .i64 0]) (by simp[results,Tryz.results110,go_sem,g4]) rfl ?_;refine hR.out _ _ ⟨_,C,by rw[Hk.out.2.2.2.2];rfl,Hk.out.1,Hk.out.2.1,fun f h=>?_,fun h=>?_,?_⟩
  ·rw[Hk.out.2.2.2.2] at h;cases h;exact Hk.out.2.2.1
  ·rw[Hk.out.2.2.2.2] at h;cases h
  ·have:=Hk.out.2.2.2.1;omega
 ·
  have h0:(op.toList==[60])=false:=by assumption
  have h1:(op.toList==[60,61])=true:=by assumption
  have hf:dx op.toList s.data.toList=some (jM true · s.data.toList):=by simp[dx,beq_iff_eq.1 h1]
  refine (HB.out true).mono ?_;rintro e w1 ⟨r,C,rfl,hb1,hst,hlang,hClen⟩;have hO1:=HO.out.call hb1;obtain⟨ra,rc,rfl⟩:∃ra rc,r=.slice ra C.length rc:=by obtain⟨x,y,e,-⟩:=hst;exact⟨x,y,e⟩
  clear h0 h1 hb1;have g1:=hO1.obj.cell (i:=0) rfl;have g2:=hO1.obj.frozen 0;have g3:=hO1.obj.lt;have hO2:=hO1.set 0 (.slice ra C.length rc);have g4:=hO2.obj.cell (i:=0) rfl;have Hk:=zh (zi hO2.below (zi (aK hO2.done hst) (zi hlang (zi hClen hf))));clear hO2 hO1 hst hlang hClen hf;go_wp2;refine bodyPost_ret (v:=.tuple #[.agg #[.slice ra C.length rc],.int .i64 0]) (by simp[results,Tryz.results110,go_sem,g4]) rfl ?_;refine hR.out _ _ ⟨_,C,by rw[Hk.out.2.2.2.2];rfl,Hk.out.1,Hk.out.2.1,fun f h=>?_,fun h=>?_,?_⟩
  ·rw[Hk.out.2.2.2.2] at h;cases h;exact Hk.out.2.2.1
  ·rw[Hk.out.2.2.2.2] at h;cases h
  ·have:=Hk.out.2.2.2.1;omega
 ·
  have h0:(op.toList==[60])=false:=by assumption
  have h1:(op.toList==[60,61])=false:=by assumption
  have h2:(op.toList==[62])=true:=by assumption
  have hf:dx op.toList s.data.toList=some fun v => !jM true v s.data.toList:=by simp[dx,beq_iff_eq.1 h2]
  refine (HB.out true).mono ?_;rintro e w1 ⟨r,C,rfl,hb1,hst,hlang,hClen⟩;have hO1:=HO.out.call hb1;obtain⟨ra,rc,rfl⟩:∃ra rc,r=.slice ra C.length rc:=by obtain⟨x,y,e,-⟩:=hst;exact⟨x,y,e⟩
  have HN:=zh (sO (.slice ra C.length rc) C _ w1 hO1.inn (htab.le hO1.ext.le) hst zo);have Hf:=zh (zi hf (zi hlang hClen));have HO1:=zh hO1;clear hf hlang hClen hst hO1 hb1 h0 h1 h2
  go_wp2_with fail
  refine HN.out.mono ?_;rintro e w2 ⟨r2,C2,rfl,hb2,hst,hlang2,hClen2⟩;have hO1:=HO1.out.call hb2;have hf:=Hf.out.1;have hlang:=hlang2.congr fun x=>by rw[Hf.out.2.1.sem x]
  have hClen:C2.length≤3*(s.size+5)+1:=by have:=Hf.out.2.2;omega
  clear hlang2 hClen2 HN Hf HO1 hb2;generalize C2=C at *
  obtain⟨ra,rc,rfl⟩:∃ra rc,r2=.slice ra C.length rc:=by obtain⟨x,y,e,-⟩:=hst;exact⟨x,y,e⟩
  have g1:=hO1.obj.cell (i:=0) rfl;have g2:=hO1.obj.frozen 0;have g3:=hO1.obj.lt;have hO2:=hO1.set 0 (.slice ra C.length rc);have g4:=hO2.obj.cell (i:=0) rfl;have Hk:=zh (zi hO2.below (zi (aK hO2.done hst) (zi hlang (zi hClen hf))));clear hO2 hO1 hst hlang hClen hf;go_wp2;refine bodyPost_ret (v:=.tuple #[.agg #[.slice ra C.length rc],.int .i64 0]) (by simp[results,Tryz.results110,go_sem,g4]) rfl ?_;refine hR.out _ _ ⟨_,C,by rw[Hk.out.2.2.2.2];rfl,Hk.out.1,Hk.out.2.1,fun f h=>?_,fun h=>?_,?_⟩
  ·rw[Hk.out.2.2.2.2] at h;cases h;exact Hk.out.2.2.1
  ·rw[Hk.out.2.2.2.2] at h;cases h
  ·have:=Hk.out.2.2.2.1;omega
 ·
  have h0:(op.toList==[60])=false:=by assumption
  have h1:(op.toList==[60,61])=false:=by assumption
  have h2:(op.toList==[62])=false:=by assumption
  have h3:(op.toList==[62,61])=true:=by assumption
  have hf:dx op.toList s.data.toList=some fun v => !jM false v s.data.toList:=by simp[dx,beq_iff_eq.1 h3]
  refine (HB.out false).mono ?_;rintro e w1 ⟨r,C,rfl,hb1,hst,hlang,hClen⟩;have hO1:=HO.out.call hb1;obtain⟨ra,rc,rfl⟩:∃ra rc,r=.slice ra C.length rc:=by obtain⟨x,y,e,-⟩:=hst;exact⟨x,y,e⟩
  have HN:=zh (sO (.slice ra C.length rc) C _ w1 hO1.inn (htab.le hO1.ext.le) hst zo);have Hf:=zh (zi hf (zi hlang hClen));have HO1:=zh hO1;clear hf hlang hClen hst hO1 hb1 h0 h1 h2 h3
  go_wp2_with fail
  refine HN.out.mono ?_;rintro e w2 ⟨r2,C2,rfl,hb2,hst,hlang2,hClen2⟩;have hO1:=HO1.out.call hb2;have hf:=Hf.out.1;have hlang:=hlang2.congr fun x=>by rw[Hf.out.2.1.sem x]
  have hClen:C2.length≤3*(s.size+5)+1:=by have:=Hf.out.2.2;omega
  clear hlang2 hClen2 HN Hf HO1 hb2;generalize C2=C at *
  obtain⟨ra,rc,rfl⟩:∃ra rc,r2=.slice ra C.length rc:=by obtain⟨x,y,e,-⟩:=hst;exact⟨x,y,e⟩
  have g1:=hO1.obj.cell (i:=0) rfl;have g2:=hO1.obj.frozen 0;have g3:=hO1.obj.lt;have hO2:=hO1.set 0 (.slice ra C.length rc);have g4:=hO2.obj.cell (i:=0) rfl;have Hk:=zh (zi hO2.below (zi (aK hO2.done hst) (zi hlang (zi hClen hf))));clear hO2 hO1 hst hlang hClen hf;go_wp2;refine bodyPost_ret (v:=.tuple #[.agg #[.slice ra C.length rc],.int .i64 0]) (by simp[results,Tryz.results110,go_sem,g4]) rfl ?_;refine hR.out _ _ ⟨_,C,by rw[Hk.out.2.2.2.2];rfl,Hk.out.1,Hk.out.2.1,fun f h=>?_,fun h=>?_,?_⟩
  ·rw[Hk.out.2.2.2.2] at h;cases h;exact Hk.out.2.2.1
  ·rw[Hk.out.2.2.2.2] at h;cases h
  ·have:=Hk.out.2.2.2.1;omega
 ·
  have h0:(op.toList==[60])=false:=by assumption
  have h1:(op.toList==[60,61])=false:=by assumption
  have h2:(op.toList==[62])=false:=by assumption
  have h3:(op.toList==[62,61])=false:=by assumption
  have h4:(op.toList==[61,61])=true:=by assumption
  have hf:dx op.toList s.data.toList=some fun v=>decide (v=s.data.toList):=by simp[dx,beq_iff_eq.1 h4]
  refine HW.out.mono ?_;rintro e w1 ⟨r,rfl,hb1,hst⟩;rw[tN] at hst;have hlang:=pV s.data.toList;have hClen:(kK s.data.toList).length≤s.size+3:=by rw[iK];simp
  obtain⟨C,hCC⟩:∃C,kK s.data.toList=C:=⟨_,rfl⟩;rw[hCC] at hst hlang hClen;have hO1:=HO.out.call hb1;obtain⟨ra,rc,rfl⟩:∃ra rc,r=.slice ra C.length rc:=by obtain⟨x,y,e,-⟩:=hst;exact⟨x,y,e⟩
  clear h0 h1 h2 h3 h4 hCC hb1;have g1:=hO1.obj.cell (i:=0) rfl;have g2:=hO1.obj.frozen 0;have g3:=hO1.obj.lt;have hO2:=hO1.set 0 (.slice ra C.length rc);have g4:=hO2.obj.cell (i:=0) rfl;have Hk:=zh (zi hO2.below (zi (aK hO2.done hst) (zi hlang (zi hClen hf))));clear hO2 hO1 hst hlang hClen hf;go_wp2;refine bodyPost_ret (v:=.tuple #[.agg #[.slice ra C.length rc],.int .i64 0]) (by simp[results,Tryz.results110,go_sem,g4]) rfl ?_;refine hR.out _ _ ⟨_,C,by rw[Hk.out.2.2.2.2];rfl,Hk.out.1,Hk.out.2.1,fun f h=>?_,fun h=>?_,?_⟩
  ·rw[Hk.out.2.2.2.2] at h;cases h;exact Hk.out.2.2.1
  ·rw[Hk.out.2.2.2.2] at h;cases h
  ·have:=Hk.out.2.2.2.1;omega
 ·
  have h0:(op.toList==[60])=false:=by assumption
  have h1:(op.toList==[60,61])=false:=by assumption
  have h2:(op.toList==[62])=false:=by assumption
  have h3:(op.toList==[62,61])=false:=by assumption
  have h4:(op.toList==[61,61])=false:=by assumption
  have h5:(op.toList==[33,61])=true:=by assumption
  have hf:dx op.toList s.data.toList=some fun v => !decide (v=s.data.toList):=by simp[dx,beq_iff_eq.1 h5]
  refine HW.out.mono ?_;rintro e w1 ⟨r,rfl,hb1,hst⟩;rw[tN] at hst;have hlang:=pV s.data.toList;have hClen:(kK s.data.toList).length≤s.size+3:=by rw[iK];simp
  obtain⟨C,hCC⟩:∃C,kK s.data.toList=C:=⟨_,rfl⟩;rw[hCC] at hst hlang hClen;have hO1:=HO.out.call hb1;obtain⟨ra,rc,rfl⟩:∃ra rc,r=.slice ra C.length rc:=by obtain⟨x,y,e,-⟩:=hst;exact⟨x,y,e⟩
  have HN:=zh (sO (.slice ra C.length rc) C _ w1 hO1.inn (htab.le hO1.ext.le) hst zo);have Hf:=zh (zi hf (zi hlang hClen));have HO1:=zh hO1;clear hf hlang hClen hst hO1 hb1 h0 h1 h2 h3 h4 h5 hCC
  go_wp2_with fail
  refine HN.out.mono ?_;rintro e w2 ⟨r2,C2,rfl,hb2,hst,hlang2,hClen2⟩;have hO1:=HO1.out.call hb2;have hf:=Hf.out.1;have hlang:=hlang2.congr fun x=>by rw[Hf.out.2.1.sem x]
  have hClen:C2.length≤3*(s.size+5)+1:=by have:=Hf.out.2.2;omega
  clear hlang2 hClen2 HN Hf HO1 hb2;generalize C2=C at *
  obtain⟨ra,rc,rfl⟩:∃ra rc,r2=.slice ra C.length rc:=by obtain⟨x,y,e,-⟩:=hst;exact⟨x,y,e⟩
  have g1:=hO1.obj.cell (i:=0) rfl;have g2:=hO1.obj.frozen 0;have g3:=hO1.obj.lt;have hO2:=hO1.set 0 (.slice ra C.length rc);have g4:=hO2.obj.cell (i:=0) rfl;have Hk:=zh (zi hO2.below (zi (aK hO2.done hst) (zi hlang (zi hClen hf))));clear hO2 hO1 hst hlang hClen hf;go_wp2;refine bodyPost_ret (v:=.tuple #[.agg #[.slice ra C.length rc],.int .i64 0]) (by simp[results,Tryz.results110,go_sem,g4]) rfl ?_;refine hR.out _ _ ⟨_,C,by rw[Hk.out.2.2.2.2];rfl,Hk.out.1,Hk.out.2.1,fun f h=>?_,fun h=>?_,?_⟩
  ·rw[Hk.out.2.2.2.2] at h;cases h;exact Hk.out.2.2.1
  ·rw[Hk.out.2.2.2.2] at h;cases h
  ·have:=Hk.out.2.2.2.1;omega
 ·
  have h0:(op.toList==[60])=false:=by assumption
  have h1:(op.toList==[60,61])=false:=by assumption
  have h2:(op.toList==[62])=false:=by assumption
  have h3:(op.toList==[62,61])=false:=by assumption
  have h4:(op.toList==[61,61])=false:=by assumption
  have h5:(op.toList==[33,61])=false:=by assumption
  have hf:dx op.toList s.data.toList=none:=by simp[dx,beq_eq_false_iff_ne.1 h0,beq_eq_false_iff_ne.1 h1,beq_eq_false_iff_ne.1 h2,beq_eq_false_iff_ne.1 h3,beq_eq_false_iff_ne.1 h4,beq_eq_false_iff_ne.1 h5]
  have Hf:=zh hf;clear h0 h1 h2 h3 h4 h5 hf;go_wp2;refine bodyPost_ret (v:=.tuple #[.agg #[.slice none 0 0],.int .i64 8]) (by simp[results,Tryz.results110,go_sem]) rfl ?_;refine hR.out _ _ ⟨_,[],by rw[Hf.out];rfl,HO.out.below,aZ _,fun f h=>?_,fun _=>rfl,zS⟩;rw[Hf.out] at h;cases h
theorem Ma (s:ByteArray):pW s.data.toList s.size ++ [⟨true,[]⟩]=kK s.data.toList:=by
 unfold pW kK;simp
theorem De (op s:ByteArray) (he:op.toList=[61,61]) (m:Mem) (w:World) (hm:m.inn w) (hs:s.size≤1000) :
 Calls Tryz.prog 110 #[.string op,.string s] w fun e w'=>∃r C,e=.returned (.tuple #[.agg #[r],.int .i64 (if (dx op.toList s.data.toList).isSome then 0 else 8)])∧Below w.heap.size w w'∧aI (m.grow w w') r C ∧
  (∀f,dx op.toList s.data.toList=some f→dX f C)∧(dx op.toList s.data.toList=none→C=[])∧C.length≤3*(s.size+5)+1:=by
 have hO:=(Own.start hm).al #[.slice none 0 0] 27;have HO:=zh hO;have HW:=zh (Co s m _ hO.inn hs);clear hO;have h0:(op.toList==[60])=false:=by rw[he];decide
 have h1:(op.toList==[60,61])=false:=by rw[he];decide
 have h2:(op.toList==[62])=false:=by rw[he];decide
 have h3:(op.toList==[62,61])=false:=by rw[he];decide
 have h4:(op.toList==[61,61])=true:=by rw[he];decide
 have hf:dx op.toList s.data.toList=some fun v=>decide (v=s.data.toList):=by rw[he];simp[dx]
 have HF:=zh hf;clear hf he;refine aj fun R hR=>?_
 go_enter Tryz.func110,Tryz.ntmps110
 go_wp2_with fail
 refine HW.out.mono ?_;rintro e w1 ⟨r,rfl,hb1,hst⟩;rw[Ma] at hst;have hlang:=pV s.data.toList;have hClen:(kK s.data.toList).length≤s.size+3:=by rw[iK];simp
 obtain⟨C,hCC⟩:∃C,kK s.data.toList=C:=⟨_,rfl⟩;rw[hCC] at hst hlang hClen;have hO1:=HO.out.call hb1;obtain⟨ra,rc,rfl⟩:∃ra rc,r=.slice ra C.length rc:=by obtain⟨x,y,e,-⟩:=hst;exact⟨x,y,e⟩
 have hf:=HF.out;clear h0 h1 h2 h3 h4 hCC hb1 HF;have g1:=hO1.obj.cell (i:=0) rfl;have g2:=hO1.obj.frozen 0;have g3:=hO1.obj.lt;have hO2:=hO1.set 0 (.slice ra C.length rc);have g4:=hO2.obj.cell (i:=0) rfl;have Hk:=zh (zi hO2.below (zi (aK hO2.done hst) (zi hlang (zi hClen hf))));clear hO2 hO1 hst hlang hClen hf;go_wp2;refine bodyPost_ret (v:=.tuple #[.agg #[.slice ra C.length rc],.int .i64 0]) (by simp[results,Tryz.results110,go_sem,g4]) rfl ?_;refine hR.out _ _ ⟨_,C,by rw[Hk.out.2.2.2.2];rfl,Hk.out.1,Hk.out.2.1,fun f h=>?_,fun h=>?_,?_⟩
 ·rw[Hk.out.2.2.2.2] at h;cases h;exact Hk.out.2.2.1
 ·rw[Hk.out.2.2.2.2] at h;cases h
 ·have:=Hk.out.2.2.2.1;omega
end Cl
