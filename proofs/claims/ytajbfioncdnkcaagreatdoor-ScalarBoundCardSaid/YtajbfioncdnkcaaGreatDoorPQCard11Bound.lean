/- The law's walk. -/
import Derived.Test.YtajbfioncdnkcaaGreatDoorProg
import Derived.BigQuiet
import Derived.Deep.Cut
import Derived.Deep.QuietTactic
import Derived.Laws.StructEq
import Derived.Lib.AppendStr
import Derived.Lib.Builder
import Derived.Lib.Hide
import Derived.Lib.ItoaLen
import Derived.Maps.OwnOps
import Derived.Maps.OwnSet
import Derived.OrdersHeld
import Derived.Outline
import Derived.StillTailTactics
import Derived.StringKeys
import Derived.WalkKit
import Derived.WalkLawsBesides
import Derived.WalkSpells
import Derived.Deep.RegionHeld
import Derived.Shelf.Strings.Builder1
import Derived.Shelf.Small.Wraps
import Derived.Shelf.LaysM
import Derived.Shelf.Strconv.Itoa3
import Derived.RegionTactic
import Derived.ChangeAlike
import Derived.RangeFuncNested
import Derived.RangeFuncBound
import Derived.RangeFuncCalls
import Derived.RangeFuncLeaves
import Derived.OwnWalkIn
import Derived.TacticsInMore
import Derived.LoopNIn
import Derived.LoopIn
import Derived.Shelf.Spec.SlicesGrow
import Derived.Shelf.SlSortCmp.WholeK
import Derived.Laws.EntriesVeiled
import Derived.Laws.CopyOwn
import Derived.Laws.BytesArg
import Derived.Deep.Slices
import Derived.Lib.SmallJoins
import Derived.ChangeMaps5
import Derived.Carry
import Derived.KernelRfl
import Derived.ChangeArms
import Derived.Test.YtajbfioncdnkcaaGreatDoorCards
import Derived.Test.YtajbfioncdnkcaaGreatDoorTie
import Derived.ProofKit
import Derived.OpenShut
import Derived.Deep.DeepHandedRow
import Derived.Lib.LaidTab
import Derived.Stop.LaidErr
import Derived.Test.YtajbfioncdnkcaaGreatDoorZz
import Derived.Test.YtajbfioncdnkcaaGreatDoorPkM3
import Derived.Test.YtajbfioncdnkcaaGreatDoorPkM4
import Derived.Test.YtajbfioncdnkcaaGreatDoorPkM32
import Derived.Test.YtajbfioncdnkcaaGreatDoorPkM1
import Derived.Test.YtajbfioncdnkcaaGreatDoorPkM34
import Derived.Test.YtajbfioncdnkcaaGreatDoorPkM2
import Derived.Test.YtajbfioncdnkcaaGreatDoorPkM8
import Derived.Test.YtajbfioncdnkcaaGreatDoorPkM7
import Derived.Test.YtajbfioncdnkcaaGreatDoorPkM33
import Derived.Test.YtajbfioncdnkcaaGreatDoorPkM52
import Derived.Test.YtajbfioncdnkcaaGreatDoorPkM12
import Derived.Test.YtajbfioncdnkcaaGreatDoorPkM6
import Derived.Test.YtajbfioncdnkcaaGreatDoorPkM20
import Derived.Test.YtajbfioncdnkcaaGreatDoorPkM9
import Derived.Test.YtajbfioncdnkcaaGreatDoorPkM35
import Derived.Test.YtajbfioncdnkcaaGreatDoorPkM48
import Derived.Test.YtajbfioncdnkcaaGreatDoorPkM51
import Derived.Test.YtajbfioncdnkcaaGreatDoorPkM53
import Derived.Test.YtajbfioncdnkcaaGreatDoorPkM54
import Derived.Test.YtajbfioncdnkcaaGreatDoorPkM45
import Derived.Test.YtajbfioncdnkcaaGreatDoorPkM13
import Derived.Test.YtajbfioncdnkcaaGreatDoorPkM46
import Derived.Test.YtajbfioncdnkcaaGreatDoorPkM19
import Derived.Test.YtajbfioncdnkcaaGreatDoorPkM27
import Derived.Test.YtajbfioncdnkcaaGreatDoorPkM29
import Derived.Test.YtajbfioncdnkcaaGreatDoorPkM41
import Derived.Test.YtajbfioncdnkcaaGreatDoorPkM14
import Derived.Test.YtajbfioncdnkcaaGreatDoorPkM5
import Derived.Test.YtajbfioncdnkcaaGreatDoorPkM42
import Derived.Test.YtajbfioncdnkcaaGreatDoorPkM47
import Derived.Test.YtajbfioncdnkcaaGreatDoorPkM10
import Derived.Test.YtajbfioncdnkcaaGreatDoorPkM15
import Derived.Test.YtajbfioncdnkcaaGreatDoorPkM11
import Derived.Test.YtajbfioncdnkcaaGreatDoorPkM43
import Derived.Test.YtajbfioncdnkcaaGreatDoorPkM21
import Derived.Test.YtajbfioncdnkcaaGreatDoorPkM49
import Derived.Test.YtajbfioncdnkcaaGreatDoorPkM16
import Derived.Test.YtajbfioncdnkcaaGreatDoorPkM44
import Derived.Test.YtajbfioncdnkcaaGreatDoorPkM55
import Derived.Test.YtajbfioncdnkcaaGreatDoorPkM50
import Derived.Test.YtajbfioncdnkcaaGreatDoorPkM31
import Derived.Test.YtajbfioncdnkcaaGreatDoorPkM18
import Derived.Test.YtajbfioncdnkcaaGreatDoorPkM22
import Derived.Test.YtajbfioncdnkcaaGreatDoorPkM17
import Derived.Test.YtajbfioncdnkcaaGreatDoorPkM38
import Derived.Test.YtajbfioncdnkcaaGreatDoorPkM30
set_option maxRecDepth 100000
set_option maxHeartbeats 16000000
namespace Cl
open Go Go.RowKit Go.Proofs
theorem Ku (m:Mem) (w:World) :
 Calls Tryz.prog 59 #[] w fun e w'=>∃r,e=.returned (.agg #[r])∧Below w.heap.size w w'∧aI (m.grow w w') r allT:=by
 refine (Bz w).mono ?_;rintro e w' ⟨g1,g2,rfl,hb,h1,h2,h3,o1,o2⟩;have gc:∀{g t arr i v},w.heap.size≤g→bI w' g t arr→arr[i]?=some v→(m.grow w w').cell g i=some v:=by
  intro g t arr i v hg ho hv;unfold Mem.cell Mem.grow;rw[if_neg zo,ho.get];exact hv
 refine ⟨_,rfl,hb,some ⟨g2,0,none⟩,1,rfl,Nat.le_refl _,by simp[maxLen],fun _=>⟨g2,0,rfl,fun i hi=>?_⟩⟩;obtain rfl:i=0:=by simp[allT] at hi;exact hi
 refine ⟨gc h2 o2 rfl,_,gc h2 o2 rfl,some ⟨g1,0,none⟩,1,rfl,Nat.le_refl _,by simp[maxLen],fun _=>⟨g1,0,rfl,fun j hj=>?_⟩⟩;obtain rfl:j=0:=by simp[allT] at hj;exact hj
 exact⟨gc h1 o1 rfl,gc h1 o1 rfl,gc h1 o1 rfl,by simp[allT],by simp[allT],by simp[allT],by simp[allT]⟩
theorem vT (v0:Value) (A:Table) (m:Mem) (w:World) (hm:m.inn w) (hA:aI m v0 A) (hF:A.length≤300000) :
 Calls Tryz.prog 123 #[.agg #[v0]] w fun e w'=>∃r C,e=.returned (.agg #[r])∧Below w.heap.size w w'∧aI (m.grow w w') r C ∧
  dX (fun x => !Sem A x) C∧C.length≤3*(A.length+2)+1:=by
 have hO:=((Own.start hm).al #[v0] 27).al #[.slice none 0 0] 27;have hsz1:(w.alloc (.cells #[v0] 27)).heap.size=w.heap.size+1:=by simp
 rw[hsz1] at hO;have HO:=zh hO;have HM:=zh (fun r mk w (h:mk.inn w) (hle:m.le mk) (hst:aI mk r allT)=>xg r v0 allT A mk w h hst (aK hle hA) (Fits.of (x:=1) (y:=A.length) (Nat.le_refl _) (Nat.le_refl _) zo));obtain⟨va,vc,rfl,-⟩:=hA;clear hO hsz1;refine aj fun R hR=>?_
 go_enter Tryz.func123,Tryz.ntmps123
 go_wp2;refine aA [2] (fun vs w'=>∃(r:Value) (C:Table) (mk:Mem),vs=[.pointer (some ⟨w.heap.size+1,0,none⟩)]∧Own w m w' mk [.obj (w.heap.size+1) 27 #[r],.obj w.heap.size 27 #[.slice va A.length vc]]∧aI mk r C ∧
  dX (fun x => !Sem A x) C∧C.length≤3*(A.length+2)+1) ?_ ?_
 ·intro X hX;refine fw (fun w'=>bI w' w.heap.size 27 #[.slice va A.length vc]) 3 zk ?_;have hO:=HO.out.dr;have hS:=hO.swap.obj;refine az 1 rfl zk (fun _ _ _ h=>h) hS (au rfl fun w' hS'=>by have q:=hS'.cell (i:=0) rfl;go_simp;rfl) ?_;refine aG 0 zk (aB rfl rfl (dI (by go_simp;rfl) (Ku m _) ?_));rintro e w1 ⟨r,rfl,hb1,hst⟩;have hO2:=hO.call hb1;have hle:=Mem.eO (w:=w1) hO.inn;refine ⟨_,rfl,andS hO2.swap.obj fun _=>?_⟩;go_simp;refine aG 2 zk (aB rfl rfl (dI (by go_simp) (HM.out _ _ _ hO2.inn hle hst) ?_));rintro e w2 ⟨r2,C,rfl,hb2,hst2,hlang,hClen⟩;have hO3:=hO2.call hb2;refine ⟨_,rfl,andS hO3.swap.obj fun _=>?_⟩;obtain⟨ra,rc,rfl⟩:∃ra rc,r2=.slice ra C.length rc:=by obtain⟨x,y,e,-⟩:=hst2;exact⟨x,y,e⟩
  go_simp;have g1:=hO3.obj.cell (i:=0) rfl;have g2:=hO3.obj.frozen 0;refine aG 3 zk (aB rfl rfl (aS zg (ji rfl ?_)));refine dS zk ?_ _;refine hX.out _ _ rfl ⟨_,C,_,rfl,hO3.set 0 _,hst2,hlang.congr fun x=>?_,?_⟩
  ·rw[Dz];rfl
  ·have:allT.length=1:=rfl;rw[this] at hClen;exact hClen
 rintro z vs w1 - ⟨r,C,mk,rfl,hO,hst,hlang,hClen⟩;simp[litL,lk];obtain⟨ra,rc,rfl⟩:∃ra rc,r=.slice ra C.length rc:=by obtain⟨x,y,e,-⟩:=hst;exact⟨x,y,e⟩
 have g4:=hO.obj.cell (i:=0) rfl;have Hk:=zh (zi hO.below (zi (aK hO.done hst) (zi hlang hClen)));clear hO hst hlang hClen HO HM;go_wp2;refine bodyPost_ret (v:=.agg #[.slice ra C.length rc]) (by simp[results,Tryz.results123,go_sem,g4]) rfl ?_;exact hR.out _ _ ⟨_,C,rfl,Hk.out.1,Hk.out.2.1,Hk.out.2.2.1,Hk.out.2.2.2⟩
theorem EG (s:ByteArray) (self:Bool) (m:Mem) (w:World) (hm:m.inn w) (hs:s.size≤1000) :
 Calls Tryz.prog 122 #[.string s,.bool self] w fun e w'=>∃r C,e=.returned (.agg #[r])∧Below w.heap.size w w'∧aI (m.grow w w') r C ∧
  dX (fun v=>jM self v s.data.toList) C∧C.length≤s.size+3:=by
 have hO:=((Own.start hm).al #[.slice none 0 0] 27).eH 66 2;have HO:=zh hO;clear hO;refine aj fun R hR=>?_
 go_enter Tryz.func122,Tryz.ntmps122
 go_wp2;refine ay [0,1,4,5,6,7] (fun n vs wr=>∃(k:Nat) (vo:Value) (xs:List Value) (mk:Mem),k≤s.size∧n=s.size - k∧vs=[.string s,.bool self,.pointer (some ⟨w.heap.size,0,none⟩),.int .i64 s.size,vo,.int .i64 k] ∧
  Own w m wr mk [.row vo 66 2 k xs,.obj w.heap.size 27 #[.slice none 0 0]]∧jX mk xs ((gW s.data.toList self).take k)) ?_ ?_
 ·exact⟨_,0,.slice none 0 0,[],m,Nat.zero_le _,rfl,rfl,HO.out,jX.nil m⟩
 clear HO;rintro X z n vs wr hX - ⟨k,vo,xs,mk,hk,rfl,rfl,hO,hrow⟩;simp[litL,lk];obtain⟨voa,voc,rfl⟩:=aO hO.row;by_cases hlt:k<s.size
 ·have hc:=(s[k]).toNat_lt;have htk:(gW s.data.toList self).take (k+1)=(gW s.data.toList self).take k ++ [⟨true,iy s.size (s[k]'hlt).toNat ++ [⟨(s[k]'hlt).toNat,(s[k]'hlt).toNat,(k:Int)+1⟩]⟩]:=by
   have hsl:s.data.toList.length=s.size:=by simp
   have h1:=Ak (s:=s.data.toList) (self:=self) (i:=k) (by rw[hsl];exact hlt);have h2:iy s.data.toList.length=iy s.size:=by rw[hsl]
   rw[h2] at h1;exact h1
  have Htk:=zh htk;have HR:=zh hrow;clear htk hrow;have hO2:=(hO.al #[.bool true,.slice none 0 0] 66).eH 106 3;have HO2:=zh hO2;clear hO hO2;have hw1:IntKind.i64.wrap ((k:Int)+1)=(k:Int)+1:=IntWalk.i64_in _ zo;have hw5:IntKind.i64.wrap ((s.size:Int)+1)=(s.size:Int)+1:=IntWalk.i64_in _ zo;have hw2:0<(s[k]).toNat→IntKind.u8.wrap (((s[k]).toNat:Int) - 1)=(((s[k]).toNat - 1:Nat):Int):=fun h=>by rw[IntWalk.u8_in _ zo];omega
  have Hw2:=zh hw2;clear hw2
  go_upto_if 22 with (fail)
  generalize wr.heap.size=S at *
  generalize wr.alloc (.cells #[.bool true,.slice none 0 0] 66)=w2 at *
  refine aA [0,1,4,5,6,7,8] (fun vs w'=>∃ve:Value,vs=[.string s,.bool self,.pointer (some ⟨w.heap.size,0,none⟩),.int .i64 s.size,.slice voa k voc,.int .i64 k,.pointer (some ⟨S,0,none⟩)] ∧
   Own w m w' mk [.row ve 106 3 (iy s.size (s[k]).toNat).length (dh (iy s.size (s[k]).toNat)),.obj S 66 #[.bool true,ve],.row (.slice voa k voc) 66 2 k xs,.obj w.heap.size 27 #[.slice none 0 0]]) ?_ ?_
  ·intro V hV;by_cases hpos:0<(s[k]).toNat
   ·have hbe:iy s.size (s[k]).toNat=[⟨0,(s[k]).toNat - 1,(s.size:Int)+1⟩]:=by unfold iy;rw[if_pos hpos]
    have Hbe:=zh hbe;have hdec:decide (0<(s[k]).toNat)=true:=decide_eq_true hpos;have hdec2:decide ((0:Int)<((s[k]).toNat:Int))=true:=decide_eq_true zo;have hw3:=Hw2.out hpos;have hO:=HO2.out.dr;clear hbe;go_wp2;refine fw (fun w'=>bI w' S 66 #[.bool true,.slice none 0 0]) 12 zk ?_;have hS:=hO.swap.obj;refine az 0 rfl zk (fun _ _ _ h=>h) hS (au rfl fun w' hS'=>by have q:=hS'.cell (i:=1) rfl;go_simp;rfl) ?_;refine az 1 rfl zk (fun _ _ _ h=>h) hS (au rfl fun w' hS'=>by have q:=hS'.cell (i:=1) rfl;go_simp;rfl) ?_;refine az 2 rfl zk (fun _ _ _ h=>h) hS (au rfl fun w' hS'=>by have q:=hS'.cell (i:=1) rfl;go_simp;rfl) ?_;refine az 3 rfl zk (fun _ _ _ h=>h) hS (au rfl fun w' hS'=>by have q:=hS'.cell (i:=1) rfl;go_simp;rfl) ?_;refine az 4 rfl zk (fun _ _ _ h=>h) hS (au rfl fun w' hS'=>by have q:=hS'.cell (i:=1) rfl;go_simp;rfl) ?_;refine az 5 rfl zk (fun _ _ _ h=>h) hS (au rfl fun w' hS'=>by have q:=hS'.cell (i:=1) rfl;go_simp;rfl) ?_;refine az 6 rfl zk (fun _ _ _ h=>h) hS (au rfl fun w' hS'=>by have q:=hS'.cell (i:=1) rfl;go_simp;rfl) ?_;refine az 7 rfl zk (fun _ _ _ h=>h) hS (au rfl fun w' hS'=>by have q:=hS'.cell (i:=1) rfl;go_simp;rfl) ?_;refine aG 8 zk (aB rfl rfl (aD (by go_simp;first | done | exact⟨rfl,rfl⟩ | rfl) (andS hS fun _=>?_)));go_simp;have hO6:=hO.al #[.int .u8 0,.int .u8 ((s[k]).toNat - 1:Nat),.int .i64 ((s.size:Int)+1)] 106;refine aG 9 zk (aB rfl rfl (aD (by go_simp;first | done | exact⟨rfl,rfl⟩ | rfl) (andS hO6.third.obj fun _=>?_)));go_simp;refine aG 10 zk (aB rfl rfl (eB mO (.tmp 24) (.tmp 32) rfl (.slice none 0 0) 0 [] rfl hO6.swap.row ⟨w2.heap.size,0,none⟩ 1 1 [.int .u8 0,.int .u8 ((s[k]).toNat - 1:Nat),.int .i64 ((s.size:Int)+1)] rfl rfl (hO6.obj.news rfl) (by simp[Value.oneCell']) (by unfold maxLen;omega) zo (fun na' nc' w7 hown7 hgrow7 hrow7=>?_)));have hO7:=(hO6.swap.app hown7 hgrow7 hrow7 (Nat.le_refl _)).drop2;refine andS hO7.swap.obj fun hS3=>?_;go_simp;refine aG 11 zk (aB rfl rfl (aD (by go_simp;first | done | exact⟨rfl,rfl⟩ | rfl) (andS hS3 fun _=>?_)));go_simp;have f3:=hS3.frozen 1;have c3:=hS3.cell (i:=1) rfl;refine aG 12 zk (aB rfl rfl (aS zg (ji rfl ?_)));refine dS zk ?_ _;have hO8:=(hO7.swap.set 1 (.slice na' (0+1) nc')).swap;refine hV.out _ _ rfl ⟨.slice na' (0+1) nc',rfl,?_⟩;rw[Hbe.out];exact hO8
   ·have hbe:iy s.size (s[k]).toNat=[]:=by unfold iy;rw[if_neg hpos]
    have Hbe:=zh hbe;have hdec:decide (0<(s[k]).toNat)=false:=decide_eq_false hpos;have hdec2:decide ((0:Int)<((s[k]).toNat:Int))=false:=decide_eq_false zo;clear hbe;go_wp2;refine hV.out _ _ rfl ⟨.slice none 0 0,rfl,?_⟩;rw[Hbe.out];exact HO2.out
  rintro z3 vs w3 - ⟨ve,rfl,hO⟩;simp[litL,lk];clear HO2;obtain⟨vea,vec,rfl⟩:=aO hO.row;have hel:(iy s.size (s[k]).toNat).length≤1:=by unfold iy;split <;> simp
  have hok:∀e∈iy s.size (s[k]).toNat ++ [⟨(s[k]).toNat,(s[k]).toNat,(k:Int)+1⟩],edOk e:=fun e he=>by
   rcases List.mem_append.1 he with h1 | h1
   ·unfold iy at h1
    split at h1
    ·rw[List.mem_singleton.1 h1];exact⟨by show 0<256;omega,by show (s[k]).toNat - 1<256;omega,by show _≤(s.size:Int)+1;omega,by show (s.size:Int)+1≤_;omega⟩
    ·simp at h1
   ·rw[List.mem_singleton.1 h1];exact⟨hc,hc,by show _≤(k:Int)+1;omega,by show (k:Int)+1≤_;omega⟩
  have Hok:=zh hok;clear hok;generalize iy s.size (s[k]).toNat=es at *
  have hO:=hO.dr;go_wp2;refine aA [0,1,4,5,6,7,8] (fun vs w'=>∃ve:Value,vs=[.string s,.bool self,.pointer (some ⟨w.heap.size,0,none⟩),.int .i64 s.size,.slice voa k voc,.int .i64 k,.pointer (some ⟨S,0,none⟩)] ∧
   Own w m w' mk [.row ve 106 3 (es.length+1) (dh (es ++ [⟨(s[k]).toNat,(s[k]).toNat,(k:Int)+1⟩])),.obj S 66 #[.bool true,ve],.row (.slice voa k voc) 66 2 k xs,.obj w.heap.size 27 #[.slice none 0 0]]) ?_ ?_
  ·intro V hV;refine fw (fun w'=>bI w' S 66 #[.bool true,.slice vea es.length vec]) 14 zk ?_;have hS:=hO.swap.obj;refine az 0 rfl zk (fun _ _ _ h=>h) hS (au rfl fun w' hS'=>by have q:=hS'.cell (i:=1) rfl;go_simp;rfl) ?_;refine az 1 rfl zk (fun _ _ _ h=>h) hS (au rfl fun w' hS'=>by have q:=hS'.cell (i:=1) rfl;go_simp;rfl) ?_;refine az 2 rfl zk (fun _ _ _ h=>h) hS (au rfl fun w' hS'=>by have q:=hS'.cell (i:=1) rfl;go_simp;rfl) ?_;refine az 3 rfl zk (fun _ _ _ h=>h) hS (au rfl fun w' hS'=>by have q:=hS'.cell (i:=1) rfl;go_simp;rfl) ?_;refine az 4 rfl zk (fun _ _ _ h=>h) hS (au rfl fun w' hS'=>by have q:=hS'.cell (i:=1) rfl;go_simp;rfl) ?_;refine az 5 rfl zk (fun _ _ _ h=>h) hS (au rfl fun w' hS'=>by have q:=hS'.cell (i:=1) rfl;go_simp;rfl) ?_;refine az 6 rfl zk (fun _ _ _ h=>h) hS (au rfl fun w' hS'=>by have q:=hS'.cell (i:=1) rfl;go_simp;rfl) ?_;refine az 7 rfl zk (fun _ _ _ h=>h) hS (au rfl fun w' hS'=>by have q:=hS'.cell (i:=1) rfl;go_simp;rfl) ?_;refine az 8 rfl zk (fun _ _ _ h=>h) hS (au rfl fun w' hS'=>by have q:=hS'.cell (i:=1) rfl;go_simp;rfl) ?_;refine az 9 rfl zk (fun _ _ _ h=>h) hS (au rfl fun w' hS'=>by have q:=hS'.cell (i:=1) rfl;go_simp;rfl) ?_;refine aG 10 zk (aB rfl rfl (aD (by go_simp;first | done | exact⟨rfl,rfl⟩ | rfl) (andS hS fun _=>?_)));go_simp;have hO6:=hO.al #[.int .u8 (s[k]).toNat,.int .u8 (s[k]).toNat,.int .i64 ((k:Int)+1)] 106;refine aG 11 zk (aB rfl rfl (aD (by go_simp;first | done | exact⟨rfl,rfl⟩ | rfl) (andS hO6.third.obj fun _=>?_)));go_simp;refine aG 12 zk (aB rfl rfl (eB mO (.tmp 36) (.tmp 46) rfl (.slice vea es.length vec) es.length (dh es) rfl hO6.swap.row ⟨w3.heap.size,0,none⟩ 1 1 [.int .u8 (s[k]).toNat,.int .u8 (s[k]).toNat,.int .i64 ((k:Int)+1)] rfl rfl (hO6.obj.news rfl) (by simp[Value.oneCell']) (by unfold maxLen;omega) zo (fun na' nc' w7 hown7 hgrow7 hrow7=>?_)));have hO7:=(hO6.swap.app hown7 hgrow7 hrow7 (Nat.le_refl _)).drop2;refine andS hO7.swap.obj fun hS3=>?_;go_simp;refine aG 13 zk (aB rfl rfl (aD (by go_simp;first | done | exact⟨rfl,rfl⟩ | rfl) (andS hS3 fun _=>?_)));go_simp;have f3:=hS3.frozen 1;have c3:=hS3.cell (i:=1) rfl;refine aG 14 zk (aB rfl rfl (aS zg (ji rfl ?_)));refine dS zk ?_ _;have hO8:=(hO7.swap.set 1 (.slice na' (es.length+1) nc')).swap;refine hV.out _ _ rfl ⟨.slice na' (es.length+1) nc',rfl,?_⟩;rw[fq];exact hO8
  rintro z4 vs w4 - ⟨ve,rfl,hO⟩;simp[litL,lk];obtain⟨vea2,vec2,rfl⟩:=aO hO.row;have hes:=fU (l:=es ++ [⟨(s[k]).toNat,(s[k]).toNat,(k:Int)+1⟩]) (m:=mk) (by rw[List.length_append];exact hO.row) Hok.out;have hmk2:=Mem.eD (w:=w4) hO.free;have hrow2:=(HR.out.mono hmk2).push (s:=⟨true,es ++ [⟨(s[k]).toNat,(s[k]).toNat,(k:Int)+1⟩]⟩) hes;have hO2:=hO.bD;have s0:=hO2.obj.cell (i:=0) rfl;have s1:=hO2.obj.cell (i:=1) rfl;have sl:=hO2.obj.lt;have hO3:=hO2.al #[.bool true,.slice vea2 (es.length+1) vec2] 66;have Hk:=zh hrow2;clear hrow2 hes hmk2;generalize mk.addv w4 (.slice vea2 (es.length+1) vec2)=mk2 at *
  have hnews:=hO3.obj.news rfl;clear hO hO2
  go_wp2_with (at_builtin;refine aC iH rfl (.tmp 49) (.tmp 51) rfl (.slice voa k voc) k xs rfl hO3.third.row ⟨w4.heap.size,0,none⟩ 1 1 [.bool true,.slice vea2 (es.length+1) vec2] rfl rfl hnews (by simp[Value.oneCell']) (by unfold maxLen;omega) zo ?_)
  intro va vc w7 hown7 hgrow7 hrow7;have hO4:=(hO3.third.app hown7 hgrow7 hrow7 zS).drop2.drop2;have HO4:=zh hO4;clear hown7 hgrow7 hrow7 hO3 hnews hO4;go_wp2;refine hX.out _ _ _ zo rfl ⟨k+1,.slice va (k+1) vc,_,mk2,zo,rfl,rfl,HO4.out,?_⟩;rw[Htk.out];exact Hk.out
 ·obtain rfl:k=s.size:=zo;have hsl:s.data.toList.length=s.size:=by simp
  have he2:=Al s.data.toList self;rw[hsl] at he2;have hwfb:=F8 s.data.toList self;have hbl:=wz s.data.toList self;have hbn:=oK s.data.toList self;rw[hsl] at hbn;have HB:=zh (zi he2 (zi hwfb (zi hbl hbn)));have HR:=zh hrow;have hw1:IntKind.i64.wrap ((s.size:Int)+1)=(s.size:Int)+1:=IntWalk.i64_in _ zo;have hO2:=hO.al #[.bool self,.slice none 0 0] 66;have hnews:=hO2.obj.news rfl;have hvr:=hO2.swap.row;have HO2:=zh hO2.swap;clear he2 hwfb hbl hbn hsl hrow hO hO2
  go_wp2_with (at_builtin;refine aC iH rfl (.tmp 53) (.tmp 56) rfl (.slice voa s.size voc) s.size xs rfl hvr ⟨wr.heap.size,0,none⟩ 1 1 [.bool self,.slice none 0 0] rfl rfl hnews (by simp[Value.oneCell']) (by unfold maxLen;omega) zo ?_)
  intro va vc w7 hown7 hgrow7 hrow7;have hO3:=(HO2.out.app hown7 hgrow7 hrow7 zS).drop2;have hO4:=(hO3.al #[.int .u8 0,.int .u8 255,.int .i64 ((s.size:Int)+1)] 106).al #[.bool true,.slice (some ⟨w7.heap.size,0,none⟩) 1 1] 66;have hsz:(w7.alloc (.cells #[.int .u8 0,.int .u8 255,.int .i64 ((s.size:Int)+1)] 106)).heap.size=w7.heap.size+1:=by simp
  rw[hsz] at hO4;have hnews:=hO4.obj.news rfl;have hvr:=hO4.third.row;have HO4:=zh hO4.third;clear hown7 hgrow7 hrow7 hO3 hO4 HO2 hsz
  go_wp2_with (at_builtin;refine aC iH rfl (.tmp 58) (.tmp 64) rfl (.slice va (s.size+1) vc) (s.size+1) (xs ++ [.bool self,.slice none 0 0]) rfl hvr ⟨w7.heap.size+1,0,none⟩ 1 1 [.bool true,.slice (some ⟨w7.heap.size,0,none⟩) 1 1] rfl rfl hnews (by simp[Value.oneCell']) (by unfold maxLen;omega) zo ?_)
  intro va2 vc2 w8 hown8 hgrow8 hrow8;have hO5:=((HO4.out.app hown8 hgrow8 hrow8 zS).drop2).swap;have hed:=CP (mk:=mk) (lo:=0) (hi:=255) (to:=(s.size:Int)+1) hO5.obj ⟨by show 0<256;omega,by show 255<256;omega,by show _≤(s.size:Int)+1;omega,by show (s.size:Int)+1≤_;omega⟩;have hmk2:=Mem.jw (w:=w8) hO5.iC;have hO6:=hO5.ib;have hrow5:=((HR.out.mono hmk2).push (s:=⟨self,[]⟩) (CW _)).push (s:=⟨true,[⟨0,255,(s.size:Int)+1⟩]⟩) hed;rw[← HB.out.1] at hrow5;have hst:=dZ (l:=gW s.data.toList self) (m:=mk.add w8 w7.heap.size) (by rw[HB.out.2.2.2];simpa using hO6.row) (by simpa using hrow5) hO6.free;have hO7:=hO6.bD;have HM:=zh (nS _ (gW s.data.toList self) _ _ hO7.inn hst (by rw[HB.out.2.2.2];omega));have HO7:=zh hO7;clear hO7 hst hrow5 hO6 hmk2 hed hO5 hown8 hgrow8 hrow8 hnews hvr HO4
  go_wp2_with fail
  refine HM.out.mono ?_;rintro e w2 ⟨r,C,rfl,hb2,hst,hClen,hmin,hnot⟩;have hwf:=HB.out.2.1.1;rw[aN hwf];obtain⟨ra,rc,rfl⟩:∃ra rc,r=.slice ra C.length rc:=by obtain⟨x,y,e,-⟩:=hst;exact⟨x,y,e⟩
  have hO7:=(HO7.out.call hb2).al #[.slice ra C.length rc] 27;have g1':=hO7.swap.obj.cell (i:=0) rfl;have g2':=hO7.swap.obj.frozen 0;have g3':=hO7.swap.obj.lt;have hO8:=hO7.swap.set 0 (.slice ra C.length rc);have g4':=hO8.obj.cell (i:=0) rfl;have hfin:=aK hO8.done hst;have Hk:=zh (zi hO8.below (zi hfin (zi (hmin hwf) hClen)));clear hO8 hO7 hfin hmin hnot hst hClen HO7 hwf HM;go_wp2;refine bodyPost_ret (v:=.agg #[.slice ra C.length rc]) (by simp[results,Tryz.results122,go_sem,g4']) rfl ?_;refine hR.out _ _ ⟨_,C,rfl,Hk.out.1,Hk.out.2.1,⟨Hk.out.2.2.1.canon,fun x=>?_⟩,?_⟩
  ·rw[Hk.out.2.2.1.lang];have:=HB.out.2.2.1 x 0 (Nat.zero_le _);rw[List.drop_zero] at this;exact this
  ·have h1:=Hk.out.2.2.2;have h2:=HB.out.2.2.2;omega
theorem Kq (op s:ByteArray) (m:Mem) (w:World) (hm:m.inn w) (_:op.size≤1000) (hs:s.size≤1000) :
 Calls Tryz.prog 70 #[.string op,.string s] w fun e w'=>∃r C,e=.returned (.tuple #[.agg #[r],.int .i64 (if (dx op.toList s.data.toList).isSome then 0 else 8)])∧Below w.heap.size w w'∧aI (m.grow w w') r C ∧
  (∀f,dx op.toList s.data.toList=some f→dX f C)∧(dx op.toList s.data.toList=none→C=[])∧C.length≤3*(s.size+5)+1:=by
 have hO:=(Own.start hm).al #[.slice none 0 0] 27;have HO:=zh hO;have HB:=zh (fun self=>EG s self m _ hO.inn hs);have HW:=zh (yP s m _ hO.inn hs);clear hO;refine aj fun R hR=>?_
 go_enter Tryz.func70,Tryz.ntmps70
 have hnc:∀x:ByteArray,Hid (x=x):=fun x=>zh rfl;clear hnc
 go_wp2_with fail
 ·
  have h0:(op.toList==[60])=true:=by assumption
  have hf:dx op.toList s.data.toList=some (jM false · s.data.toList):=by simp[dx,beq_iff_eq.1 h0]
  refine (HB.out false).mono ?_;rintro e w1 ⟨r,C,rfl,hb1,hst,hlang,hClen⟩;have hO1:=HO.out.call hb1;obtain⟨ra,rc,rfl⟩:∃ra rc,r=.slice ra C.length rc:=by obtain⟨x,y,e,-⟩:=hst;exact⟨x,y,e⟩
  clear h0 hb1;have g1:=hO1.obj.cell (i:=0) rfl;have g2:=hO1.obj.frozen 0;have g3:=hO1.obj.lt;have hO2:=hO1.set 0 (.slice ra C.length rc);have g4:=hO2.obj.cell (i:=0) rfl;have Hk:=zh (zi hO2.below (zi (aK hO2.done hst) (zi hlang (zi hClen hf))));clear hO2 hO1 hst hlang hClen hf;go_wp2;refine bodyPost_ret (v:=.tuple #[.agg #[.slice ra C.length rc],.int .i64 0]) (by simp[results,Tryz.results70,go_sem,g4]) rfl ?_;refine hR.out _ _ ⟨_,C,by rw[Hk.out.2.2.2.2];rfl,Hk.out.1,Hk.out.2.1,fun f h=>?_,fun h=>?_,?_⟩
  ·rw[Hk.out.2.2.2.2] at h;cases h;exact Hk.out.2.2.1
  ·rw[Hk.out.2.2.2.2] at h;cases h
  ·have:=Hk.out.2.2.2.1;omega
 ·
  have h0:(op.toList==[60])=false:=by assumption
  have h1:(op.toList==[60,61])=true:=by assumption
  have hf:dx op.toList s.data.toList=some (jM true · s.data.toList):=by simp[dx,beq_iff_eq.1 h1]
  refine (HB.out true).mono ?_;rintro e w1 ⟨r,C,rfl,hb1,hst,hlang,hClen⟩;have hO1:=HO.out.call hb1;obtain⟨ra,rc,rfl⟩:∃ra rc,r=.slice ra C.length rc:=by obtain⟨x,y,e,-⟩:=hst;exact⟨x,y,e⟩
  clear h0 h1 hb1;have g1:=hO1.obj.cell (i:=0) rfl;have g2:=hO1.obj.frozen 0;have g3:=hO1.obj.lt;have hO2:=hO1.set 0 (.slice ra C.length rc);have g4:=hO2.obj.cell (i:=0) rfl;have Hk:=zh (zi hO2.below (zi (aK hO2.done hst) (zi hlang (zi hClen hf))));clear hO2 hO1 hst hlang hClen hf;go_wp2;refine bodyPost_ret (v:=.tuple #[.agg #[.slice ra C.length rc],.int .i64 0]) (by simp[results,Tryz.results70,go_sem,g4]) rfl ?_;refine hR.out _ _ ⟨_,C,by rw[Hk.out.2.2.2.2];rfl,Hk.out.1,Hk.out.2.1,fun f h=>?_,fun h=>?_,?_⟩
  ·rw[Hk.out.2.2.2.2] at h;cases h;exact Hk.out.2.2.1
  ·rw[Hk.out.2.2.2.2] at h;cases h
  ·have:=Hk.out.2.2.2.1;omega
 ·
  have h0:(op.toList==[60])=false:=by assumption
  have h1:(op.toList==[60,61])=false:=by assumption
  have h2:(op.toList==[62])=true:=by assumption
  have hf:dx op.toList s.data.toList=some fun v => !jM true v s.data.toList:=by simp[dx,beq_iff_eq.1 h2]
  refine (HB.out true).mono ?_;rintro e w1 ⟨r,C,rfl,hb1,hst,hlang,hClen⟩;have hO1:=HO.out.call hb1;obtain⟨ra,rc,rfl⟩:∃ra rc,r=.slice ra C.length rc:=by obtain⟨x,y,e,-⟩:=hst;exact⟨x,y,e⟩
  have HN:=zh (vT (.slice ra C.length rc) C _ w1 hO1.inn hst zo);have Hf:=zh (zi hf (zi hlang hClen));have HO1:=zh hO1;clear hf hlang hClen hst hO1 hb1 h0 h1 h2
  go_wp2_with fail
  refine HN.out.mono ?_;rintro e w2 ⟨r2,C2,rfl,hb2,hst,hlang2,hClen2⟩;have hO1:=HO1.out.call hb2;have hf:=Hf.out.1;have hlang:=hlang2.congr fun x=>by rw[Hf.out.2.1.sem x]
  have hClen:C2.length≤3*(s.size+5)+1:=by have:=Hf.out.2.2;omega
  clear hlang2 hClen2 HN Hf HO1 hb2;generalize C2=C at *
  obtain⟨ra,rc,rfl⟩:∃ra rc,r2=.slice ra C.length rc:=by obtain⟨x,y,e,-⟩:=hst;exact⟨x,y,e⟩
  have g1:=hO1.obj.cell (i:=0) rfl;have g2:=hO1.obj.frozen 0;have g3:=hO1.obj.lt;have hO2:=hO1.set 0 (.slice ra C.length rc);have g4:=hO2.obj.cell (i:=0) rfl;have Hk:=zh (zi hO2.below (zi (aK hO2.done hst) (zi hlang (zi hClen hf))));clear hO2 hO1 hst hlang hClen hf;go_wp2;refine bodyPost_ret (v:=.tuple #[.agg #[.slice ra C.length rc],.int .i64 0]) (by simp[results,Tryz.results70,go_sem,g4]) rfl ?_;refine hR.out _ _ ⟨_,C,by rw[Hk.out.2.2.2.2];rfl,Hk.out.1,Hk.out.2.1,fun f h=>?_,fun h=>?_,?_⟩
  ·rw[Hk.out.2.2.2.2] at h;cases h;exact Hk.out.2.2.1
  ·rw[Hk.out.2.2.2.2] at h;cases h
  ·have:=Hk.out.2.2.2.1;omega
 ·
  have h0:(op.toList==[60])=false:=by assumption
  have h1:(op.toList==[60,61])=false:=by assumption
  have h2:(op.toList==[62])=false:=by assumption
  have h3:(op.toList==[62,61])=true:=by assumption
  have hf:dx op.toList s.data.toList=some fun v => !jM false v s.data.toList:=by simp[dx,beq_iff_eq.1 h3]
  refine (HB.out false).mono ?_;rintro e w1 ⟨r,C,rfl,hb1,hst,hlang,hClen⟩;have hO1:=HO.out.call hb1;obtain⟨ra,rc,rfl⟩:∃ra rc,r=.slice ra C.length rc:=by obtain⟨x,y,e,-⟩:=hst;exact⟨x,y,e⟩
  have HN:=zh (vT (.slice ra C.length rc) C _ w1 hO1.inn hst zo);have Hf:=zh (zi hf (zi hlang hClen));have HO1:=zh hO1;clear hf hlang hClen hst hO1 hb1 h0 h1 h2 h3
  go_wp2_with fail
  refine HN.out.mono ?_;rintro e w2 ⟨r2,C2,rfl,hb2,hst,hlang2,hClen2⟩;have hO1:=HO1.out.call hb2;have hf:=Hf.out.1;have hlang:=hlang2.congr fun x=>by rw[Hf.out.2.1.sem x]
  have hClen:C2.length≤3*(s.size+5)+1:=by have:=Hf.out.2.2;omega
  clear hlang2 hClen2 HN Hf HO1 hb2;generalize C2=C at *
  obtain⟨ra,rc,rfl⟩:∃ra rc,r2=.slice ra C.length rc:=by obtain⟨x,y,e,-⟩:=hst;exact⟨x,y,e⟩
  have g1:=hO1.obj.cell (i:=0) rfl;have g2:=hO1.obj.frozen 0;have g3:=hO1.obj.lt;have hO2:=hO1.set 0 (.slice ra C.length rc);have g4:=hO2.obj.cell (i:=0) rfl;have Hk:=zh (zi hO2.below (zi (aK hO2.done hst) (zi hlang (zi hClen hf))));clear hO2 hO1 hst hlang hClen hf;go_wp2;refine bodyPost_ret (v:=.tuple #[.agg #[.slice ra C.length rc],.int .i64 0]) (by simp[results,Tryz.results70,go_sem,g4]) rfl ?_;refine hR.out _ _ ⟨_,C,by rw[Hk.out.2.2.2.2];rfl,Hk.out.1,Hk.out.2.1,fun f h=>?_,fun h=>?_,?_⟩
  ·rw[Hk.out.2.2.2.2] at h;cases h;exact Hk.out.2.2.1
  ·rw[Hk.out.2.2.2.2] at h;cases h
  ·have:=Hk.out.2.2.2.1;omega
 ·
  have h0:(op.toList==[60])=false:=by assumption
  have h1:(op.toList==[60,61])=false:=by assumption
  have h2:(op.toList==[62])=false:=by assumption
  have h3:(op.toList==[62,61])=false:=by assumption
  have h4:(op.toList==[61,61])=true:=by assumption
  have hf:dx op.toList s.data.toList=some fun v=>decide (v=s.data.toList):=by simp[dx,beq_iff_eq.1 h4]
  refine HW.out.mono ?_;rintro e w1 ⟨r,rfl,hb1,hst⟩;rw[tN] at hst;have hlang:=pV s.data.toList;have hClen:(kK s.data.toList).length≤s.size+3:=by rw[iK];simp
  obtain⟨C,hCC⟩:∃C,kK s.data.toList=C:=⟨_,rfl⟩;rw[hCC] at hst hlang hClen;have hO1:=HO.out.call hb1;obtain⟨ra,rc,rfl⟩:∃ra rc,r=.slice ra C.length rc:=by obtain⟨x,y,e,-⟩:=hst;exact⟨x,y,e⟩
  clear h0 h1 h2 h3 h4 hCC hb1;have g1:=hO1.obj.cell (i:=0) rfl;have g2:=hO1.obj.frozen 0;have g3:=hO1.obj.lt;have hO2:=hO1.set 0 (.slice ra C.length rc);have g4:=hO2.obj.cell (i:=0) rfl;have Hk:=zh (zi hO2.below (zi (aK hO2.done hst) (zi hlang (zi hClen hf))));clear hO2 hO1 hst hlang hClen hf;go_wp2;refine bodyPost_ret (v:=.tuple #[.agg #[.slice ra C.length rc],.int .i64 0]) (by simp[results,Tryz.results70,go_sem,g4]) rfl ?_;refine hR.out _ _ ⟨_,C,by rw[Hk.out.2.2.2.2];rfl,Hk.out.1,Hk.out.2.1,fun f h=>?_,fun h=>?_,?_⟩
  ·rw[Hk.out.2.2.2.2] at h;cases h;exact Hk.out.2.2.1
  ·rw[Hk.out.2.2.2.2] at h;cases h
  ·have:=Hk.out.2.2.2.1;omega
 ·
  have h0:(op.toList==[60])=false:=by assumption
  have h1:(op.toList==[60,61])=false:=by assumption
  have h2:(op.toList==[62])=false:=by assumption
  have h3:(op.toList==[62,61])=false:=by assumption
  have h4:(op.toList==[61,61])=false:=by assumption
  have h5:(op.toList==[33,61])=true:=by assumption
  have hf:dx op.toList s.data.toList=some fun v => !decide (v=s.data.toList):=by simp[dx,beq_iff_eq.1 h5]
  refine HW.out.mono ?_;rintro e w1 ⟨r,rfl,hb1,hst⟩;rw[tN] at hst;have hlang:=pV s.data.toList;have hClen:(kK s.data.toList).length≤s.size+3:=by rw[iK];simp
  obtain⟨C,hCC⟩:∃C,kK s.data.toList=C:=⟨_,rfl⟩;rw[hCC] at hst hlang hClen;have hO1:=HO.out.call hb1;obtain⟨ra,rc,rfl⟩:∃ra rc,r=.slice ra C.length rc:=by obtain⟨x,y,e,-⟩:=hst;exact⟨x,y,e⟩
  have HN:=zh (vT (.slice ra C.length rc) C _ w1 hO1.inn hst zo);have Hf:=zh (zi hf (zi hlang hClen));have HO1:=zh hO1;clear hf hlang hClen hst hO1 hb1 h0 h1 h2 h3 h4 h5 hCC
  go_wp2_with fail
  refine HN.out.mono ?_;rintro e w2 ⟨r2,C2,rfl,hb2,hst,hlang2,hClen2⟩;have hO1:=HO1.out.call hb2;have hf:=Hf.out.1;have hlang:=hlang2.congr fun x=>by rw[Hf.out.2.1.sem x]
  have hClen:C2.length≤3*(s.size+5)+1:=by have:=Hf.out.2.2;omega
  clear hlang2 hClen2 HN Hf HO1 hb2;generalize C2=C at *
  obtain⟨ra,rc,rfl⟩:∃ra rc,r2=.slice ra C.length rc:=by obtain⟨x,y,e,-⟩:=hst;exact⟨x,y,e⟩
  have g1:=hO1.obj.cell (i:=0) rfl;have g2:=hO1.obj.frozen 0;have g3:=hO1.obj.lt;have hO2:=hO1.set 0 (.slice ra C.length rc);have g4:=hO2.obj.cell (i:=0) rfl;have Hk:=zh (zi hO2.below (zi (aK hO2.done hst) (zi hlang (zi hClen hf))));clear hO2 hO1 hst hlang hClen hf;go_wp2;refine bodyPost_ret (v:=.tuple #[.agg #[.slice ra C.length rc],.int .i64 0]) (by simp[results,Tryz.results70,go_sem,g4]) rfl ?_;refine hR.out _ _ ⟨_,C,by rw[Hk.out.2.2.2.2];rfl,Hk.out.1,Hk.out.2.1,fun f h=>?_,fun h=>?_,?_⟩
  ·rw[Hk.out.2.2.2.2] at h;cases h;exact Hk.out.2.2.1
  ·rw[Hk.out.2.2.2.2] at h;cases h
  ·have:=Hk.out.2.2.2.1;omega
 ·
  have h0:(op.toList==[60])=false:=by assumption
  have h1:(op.toList==[60,61])=false:=by assumption
  have h2:(op.toList==[62])=false:=by assumption
  have h3:(op.toList==[62,61])=false:=by assumption
  have h4:(op.toList==[61,61])=false:=by assumption
  have h5:(op.toList==[33,61])=false:=by assumption
  have hf:dx op.toList s.data.toList=none:=by simp[dx,beq_eq_false_iff_ne.1 h0,beq_eq_false_iff_ne.1 h1,beq_eq_false_iff_ne.1 h2,beq_eq_false_iff_ne.1 h3,beq_eq_false_iff_ne.1 h4,beq_eq_false_iff_ne.1 h5]
  have Hf:=zh hf;clear h0 h1 h2 h3 h4 h5 hf;go_wp2;refine bodyPost_ret (v:=.tuple #[.agg #[.slice none 0 0],.int .i64 8]) (by simp[results,Tryz.results70,go_sem]) rfl ?_;refine hR.out _ _ ⟨_,[],by rw[Hf.out];rfl,HO.out.below,aZ _,fun f h=>?_,fun _=>rfl,zS⟩;rw[Hf.out] at h;cases h
theorem op_size' {op:ByteArray} {l:List UInt8} (h:op.toList=l) (hl:l.length≤1000):op.size≤1000:=by
 rw[ByteArray.toList_eq] at h;have:op.size=op.data.toList.length:=rfl;rw[this,h];exact hl
theorem Ew (op:ByteArray) (vi vm:Value) (d:Dt) (m:Mem) (w:World) (hm:m.inn w) (htab:TabM m) (hd:DtAt m vi vm d) (hc:cnt d≤1000000) (hs:d.str.size≤300) :
 Calls Tryz.prog 25 #[.string op,d.val vi vm] w fun e w'=>∃s si sf st,e=.returned (.tuple #[s.val si sf st,.int .i64 (jL op.toList d)])∧Below w.heap.size w w'∧ScAt (m.grow w w') si sf st s∧ScIs (gV op.toList d) s∧ScLe s 6 (3*(d.str.size+5)+1):=by
 have hO:=((Own.start hm).al #[.int .i64 d.kind,.int .i64 d.num,.string d.str,vi,vm] 33).al #[.bool false,.bool false,.bool false,.slice none 0 0,.slice none 0 0,.slice none 0 0] 29;simp only[df] at hO;have HF:=zh (Ev vi vm d m _ hO.inn htab hd hc zo);have HOK:=zh (zi (fun h:chkD d 1=0=>uD h) (fun h:chkD d 1≠0=>CQ h));have hnr:=hd.ok.n;have HB0:=zh (show jL op.toList d=if ofE d≠0 then ofE d else if op.toList=[33,61] then 0 else if jI op.toList=true then (if d.kind=3∨d.kind=4 then 0 else 11) else 8 from rfl);have HP:=zh (zi (fun (h:dtEl d=none)=>tJ (op:=op.toList) h) (zi (fun a (h:dtEl d=some a) e=>vz h e) (zi (fun u (ho:jI op.toList=true) (h:dtEl d=some (.num u))=>F4 ho h)
  (zi (fun z f C (ho:jI op.toList=true) (h:dtEl d=some (.str z)) (hf:dx op.toList z=some f) (hC:dX f C)=>F3 ho h hf hC) (zi (fun a (ho:jI op.toList=true) (h:dtEl d=some a) (ha:a=.nul∨a=.fal∨a=.tru)=>ww ho h ha) (fun (ho:jI op.toList=false) (hne:op.toList≠[33,61])=>Ah (d:=d) ho hne))))))
 obtain⟨ai,ci,am,cm,rfl,rfl⟩:=hd.slices;have HT:=zh htab;unfold Dt.val at HF ⊢;have HO:=zh hO;clear hO hd hc htab;generalize jL op.toList d=BE at *
 generalize hBP:gV op.toList d=BP at *
 generalize chkD d 1=cx at *
 generalize ofE d=er at *
 generalize hde:dtEl d=de at *
 generalize d.kind=k at *
 generalize d.num=n at *
 generalize d.str=s0 at *
 generalize d.items.length=li at *
 generalize d.bv.length=lm at *
 refine aj fun R hR=>?_
 go_enter Tryz.func25,Tryz.ntmps25
 go_wp2_with fail
 refine HF.out.mono ?_;rintro e w1 ⟨one,si,sf,st,rfl,hb1,h1,h2,h3⟩;obtain⟨xa,xb,xc,xd,xe,xf,rfl,rfl,rfl⟩:=h1.spell;unfold RS.val;have hO1:=(HO.out.call hb1).al #[.bool one.nul,.bool one.fal,.bool one.tru,.slice xa one.i.length xb,.slice xc one.f.length xd,.slice xe one.t.length xf] 29;have hle:=hO1.ext.1;have HO1:=zh hO1;clear HF HO hb1 hO1
 go_upto_region 2 with (fail)
 generalize hW:w1.alloc (.cells #[.bool one.nul,.bool one.fal,.bool one.tru,.slice xa one.i.length xb,.slice xc one.f.length xd,.slice xe one.t.length xf] 29)=w2 at *
 generalize w1.heap.size=g6 at *
 generalize m.grow _ w1=mk at *
 clear hW;by_cases her:er=0
 ·subst her;have hq:vE k n s0 de 0:=by
   by_cases hcx:cx=0
   ·exact HOK.out.1 hcx
   ·exact absurd (HOK.out.2 hcx).2.symm hcx
  have HQ:=zh hq;clear hq HOK;by_cases h33:op.toList=[33,61]
  ·have b33:(op.toList==[33,61])=true:=beq_iff_eq.2 h33;have HBE:=zh (show BE=0 by rw[HB0.out];simp[h33]);obtain⟨a0,ha0⟩:∃a0,de=some a0:=by
    cases HQ.out with
    | nul hk h he=>exact⟨_,h⟩
    | fal hk hn h he=>exact⟨_,h⟩
    | tru hk hn h he=>exact⟨_,h⟩
    | num hk hv h he=>exact⟨_,h⟩
    | str hk h he=>exact⟨_,h⟩
    | parts hk h he=>exact absurd he zD
   have HI:=zh (fun s (h:ScIs (fun e=>(bU allS).has e∧¬ (bU one).has e) s)=>show ScIs BP s from h.congr fun e=>by
    rw[jJ nX.valid,jJ h2.valid,nX.mem,h2.mem,← hBP,h33,HP.out.2.1 a0 ha0 e,ha0];constructor
    ·rintro ⟨p,q⟩;exact⟨fun e1=>q (by rw[e1]),p⟩
    ·rintro ⟨p,q⟩;exact⟨q,fun e1=>p (by cases e1;rfl)⟩)
   have HT2:=zh (HT.out.le hle);have H1:=zh (zi h1 h3);have hO:=HO1.out;have HO:=zh hO;clear HB0 HP HT HQ h1 h2 h3 hO h33 ha0 hBP HO1
   go_upto_region 5 with (fail)
   refine aA [4,5] (fun vs w'=>∃(mk':Mem) (s:RS) (ra rc re:Option Addr) (rb rd rf:Nat),vs=[.pointer (some ⟨w.heap.size+1,0,none⟩),.int .i64 0] ∧
    ScAt mk' (.slice ra s.i.length rb) (.slice rc s.f.length rd) (.slice re s.t.length rf) s∧ScIs BP s∧ScLe s 6 (3*(s0.size+5)+1) ∧
    Own w m w' mk' [.obj (w.heap.size+1) 29 #[.bool s.nul,.bool s.fal,.bool s.tru,.slice ra s.i.length rb,.slice rc s.f.length rd,.slice re s.t.length rf]]) ?_ ?_
   ·intro X hX;refine aM 3 5 (fun j=>[Fact.mem mk [0] (ScV allS),Fact.is (·=.agg #[.bool one.nul,.bool one.fal,.bool one.tru,.slice xa one.i.length xb,.slice xc one.f.length xd,.slice xe one.t.length xf]),Fact.mem mk [2,0] (ScRV BP 6 (3*(s0.size+5)+1))].getD j Fact.any) zk zk ?_ ?_
    ·intro i hi o win a wr ho RA;have HO2:=HO.out.dr.move RA.below;obtain⟨p0,p1,p2,p3,p4,p5⟩:=HO2.obj.cs6;rcases (show i=0∨i=1∨i=2 by omega) with rfl | rfl | rfl
     ·cases ho;refine we rfl rfl (Bu mk wr HO2.inn) ?_;rintro e w' ⟨ri,rf,rt,rfl,hb,hn⟩;exact⟨_,rfl,_,rfl,hb,bH ScV.le HO2.inn hb (qh hn)⟩
     ·have e6:=RA.k 6;cases ho;exact wv rfl rfl rfl
     ·have e23:(Fact.mem mk [0] (ScV allS)).holds (a.tmps.getD 23 undef) win wr:=RA.d 0 rfl;have e24:a.tmps.getD 24 undef=_:=RA.d 1 rfl;cases ho;obtain⟨r1,r2,r3,r4,r5,r6,k1,t1⟩:ScV _ _ _:=e23;refine we rfl rfl (qj _ _ _ allS _ _ _ one 1 1 1 (s0.size+1) (mk.wins wr win [0]) wr (Mem.bK HO2.inn win [0]) (HT2.out.le (Mem.dw HO2.inn win [0])) t1 (H1.out.1.le (Mem.dw HO2.inn win [0])) qF H1.out.2 zo zo zo) ?_;rintro e w' ⟨s,si,sf,st,rfl,hb,hn,hS,hL⟩;obtain⟨y1,y2,y3,y4,y5,y6,rfl,rfl,rfl⟩:=hn.spell;refine ⟨_,rfl,_,rfl,hb,fG (R:=ScRV BP 6 (3*(s0.size+5)+1)) (ds:=[0]) (fun hle v k=>?_) HO2.inn zS (fun d hd=>(RA.rng d (by simp at hd;subst hd;kernel_rfl)).2.2) hb ⟨s,⟨_,_,_,_,_,_,rfl,hn⟩,HI.out s hS,hL.mono zo zo⟩⟩;obtain⟨s',k1,k2⟩:=k;exact⟨s',k1.le hle,k2⟩
    ·intro win a wr E;have e4:=E.keep 4 zk;have e25:(Fact.mem mk [2,0] (ScRV BP 6 (3*(s0.size+5)+1))).holds (a.tmps.getD 25 undef) win wr:=E.fact 2 _ zo rfl;obtain⟨s,⟨ra,rb,rc,rd,re,rf,k1,st1⟩,hS,hL⟩:ScRV _ _ _ _ _:=e25;have hO1:=(HO.out.dr.region E.below win [2,0] (fun d hd=>(E.rng d (by simp at hd;omega)).1)).swap;have HE:=zh E;generalize mk.wins wr win [2,0]=mk2 at *
     have HK:=zh (zi st1 (zi hS hL));clear E st1 hS hL;obtain⟨p0,p1,p2,p3,p4,p5,pf0,pf1,pf2,pf3,pf4,pf5⟩:=hO1.obj.cf6;have pl:=hO1.obj.lt;have HO4:Hid (Own _ _ _ _ (.obj _ 29 #[.bool s.nul,.bool s.fal,.bool s.tru,.slice ra s.i.length rb,.slice rc s.f.length rd,.slice re s.t.length rf]::_)):=zh ((((((hO1.set 0 (.bool s.nul)).set 1 (.bool s.fal)).set 2 (.bool s.tru)).set 3 (.slice ra s.i.length rb)).set 4 (.slice rc s.f.length rd)).set 5 (.slice re s.t.length rf));clear hO1;refine bR 3 zk (aB rfl rfl (aS zg ?_));clear p0 p1 p2 p3 p4 p5 pl pf0 pf1 pf2 pf3 pf4 pf5;refine bR 4 zk (aB rfl rfl (aD (v:=.int .i64 0) rfl ?_));obtain⟨t,d⟩:=a;obtain rfl:d=[]:=HE.out.defers;have hsz:t.size=68:=HE.out.size;have hg4:(t.setIfInBounds 5 (Value.int .i64 0)).getD 4 undef=t.getD 4 undef:=by simp[Array.getD_eq_getD_getElem?]
     have hg5:(t.setIfInBounds 5 (Value.int .i64 0)).getD 5 undef=.int .i64 0:=by simp[Array.getD_eq_getD_getElem?,hsz]
     refine aV zk (hX.out (t.setIfInBounds 5 (Value.int .i64 0)) _ ((Array.size_setIfInBounds ..).trans HE.out.size) ⟨mk2,s,ra,rc,re,rb,rd,rf,?_,HK.out.1,HK.out.2.1,HK.out.2.2,HO4.out.drop2.drop2⟩) _;simp only[List.map_cons,List.map_nil];rw[hg4,hg5,e4]
     rfl
   rintro z3 vs w4 - ⟨mk',s,ra,rc,re,rb,rd,rf,rfl,hs,hS,hL,hO⟩;simp[litL,lk];obtain⟨g0,g1,g2,g3,g4,g5⟩:=hO.obj.cs6;have gl:=hO.obj.lt;have Hk:=zh (zi hO.below (zi (hs.le hO.done) (zi hS hL)));clear hO hs hS hL HO H1 HT2 HI;go_wp2;refine bodyPost_ret (v:=.tuple #[.agg #[.bool s.nul,.bool s.fal,.bool s.tru,.slice ra s.i.length rb,.slice rc s.f.length rd,.slice re s.t.length rf],.int .i64 0]) (by simp[results,Tryz.results25,go_sem,g0,g1,g2,g3,g4,g5]) rfl ?_;exact hR.out _ _ ⟨s,_,_,_,by rw[HBE.out];rfl,Hk.out.1,Hk.out.2.1,Hk.out.2.2.1,Hk.out.2.2.2⟩
  ·have b33:(op.toList==[33,61])=false:=beq_eq_false_iff_ne.2 h33
   go_upto_region 6 with (fail)
   refine aA [0,3,4,39] (fun vs w'=>vs=[.string op,.pointer (some ⟨w.heap.size,0,none⟩),.pointer (some ⟨w.heap.size+1,0,none⟩),.bool (!jI op.toList)] ∧
    Own w m w' mk [.obj g6 29 #[.bool one.nul,.bool one.fal,.bool one.tru,.slice xa one.i.length xb,.slice xc one.f.length xd,.slice xe one.t.length xf],.obj (w.heap.size+1) 29 #[.bool false,.bool false,.bool false,.slice none 0 0,.slice none 0 0,.slice none 0 0],.obj w.heap.size 33 #[.int .i64 k,.int .i64 n,.string s0,.slice ai li ci,.slice am lm cm]]) ?_ ?_
   ·intro Y hY;by_cases ho:jI op.toList=true
    ·have hb:(op.toList==[60])=true∨((op.toList==[60])=false∧(op.toList==[60,61])=true)∨((op.toList==[60])=false∧(op.toList==[60,61])=false∧(op.toList==[62])=true) ∨
      ((op.toList==[60])=false∧(op.toList==[60,61])=false∧(op.toList==[62])=false∧(op.toList==[62,61])=true):=by
      rcases lH ho with h | h | h | h <;> rw[h] <;> decide
     have HD:=zh ho;clear ho;rcases hb with b0 | ⟨b0,b1⟩ | ⟨b0,b1,b2⟩ | ⟨b0,b1,b2,b3⟩
     all_goals go_wp2
     all_goals exact hY.out _ _ rfl ⟨by rw[HD.out];rfl,HO1.out⟩
    ·have hof:jI op.toList=false:=by simpa using ho
     have hb:(op.toList==[60])=false∧(op.toList==[60,61])=false∧(op.toList==[62])=false∧(op.toList==[62,61])=false:=by
      obtain⟨h0,h1,h2,h3⟩:=Nb hof;exact⟨beq_eq_false_iff_ne.2 h0,beq_eq_false_iff_ne.2 h1,beq_eq_false_iff_ne.2 h2,beq_eq_false_iff_ne.2 h3⟩
     obtain⟨b0,b1,b2,b3⟩:=hb;have HD:=zh hof;clear ho hof;go_wp2;exact hY.out _ _ rfl ⟨by rw[HD.out];rfl,HO1.out⟩
   clear HO1;rintro z0 vs w3 - ⟨rfl,hO⟩;simp[litL,lk];by_cases ho:jI op.toList=true
   ·have hops:op.size≤1000:=by
     rcases lH ho with h | h | h | h <;> exact op_size' h zS
    have HO3:=zh ho;have HB1:=zh (show BE=if k=3∨k=4 then 0 else 11 by rw[HB0.out];simp[h33,ho]);clear h33 HB0;rw[ho,Bool.not_true];have HQ2:=HQ.out
    cases HQ2 with
    | num hk hv h he=>
     subst hk;have HBE:=zh (show BE=0 by rw[HB1.out];simp);have HI:=zh (zi (HP.out.2.2.1 n ho h) (F5 op.toList n));have hbn:=vB (yY ho) hv;have HRN:=zh (wZ op n mk w3 hO.inn hnr.1 hnr.2);rw[hbn.1,hbn.2] at HRN;have HO:=zh hO;have q0:=hO.third.obj.cell (i:=0) rfl;have q1:=hO.third.obj.cell (i:=1) rfl;have q5:=hO.third.obj.lt;generalize fo op.toList n=x at *
     clear hO HP HQ HT HB1 HO3 h1 h2 h3 hv h ho hbn he hops
     go_wp2_with fail
     refine HRN.out.mono ?_;rintro e w4 ⟨ri,rf,rfl,hb4,hn⟩;obtain⟨ya,yc,za,zc,rfl,rfl⟩:=hn.spell;have hO1:=(HO.out.call hb4).al #[.slice ya x.i.length yc,.slice za x.rf.length zc] 24;have HN:=zh hn;have HO1:=zh hO1;clear HRN HO hb4 hn q0 q1 q5 hO1
     go_upto_region 10 with (fail)
     generalize hW:w4.alloc (.cells #[.slice ya x.i.length yc,.slice za x.rf.length zc] 24)=w5 at *
     generalize w4.heap.size=gx at *
     have hO:=HO1.out.third;have hS:ScAt _ (.slice ya x.i.length yc) (.slice za x.rf.length zc) (.slice none 0 0) ⟨false,false,false,x.i,x.rf,[]⟩:=⟨HN.out.i,HN.out.f,aZ _⟩;have q0:=HO1.out.obj.cell (i:=0) rfl;have q1:=HO1.out.obj.cell (i:=1) rfl;have q2:=HO1.out.obj.lt;clear HO1 HN hW;obtain⟨g0,g1,g2,g3,g4,g5,gf0,gf1,gf2,gf3,gf4,gf5⟩:=hO.obj.cf6;have gl:=hO.obj.lt;have hO2:Own _ _ _ _ (.obj _ 29 #[.bool false,.bool false,.bool false,.slice ya x.i.length yc,.slice za x.rf.length zc,.slice none 0 0]::_):=((((((hO.set 0 (.bool false)).set 1 (.bool false)).set 2 (.bool false)).set 3 (.slice ya x.i.length yc)).set 4 (.slice za x.rf.length zc)).set 5 (.slice none 0 0));obtain⟨k0,k1,k2,k3,k4,k5⟩:=hO2.obj.cs6;have Hk:=zh (zi hO2.below (hS.le hO2.done));clear hO2 hS hO;go_wp2;refine bodyPost_ret (v:=.tuple #[.agg #[.bool false,.bool false,.bool false,.slice ya x.i.length yc,.slice za x.rf.length zc,.slice none 0 0],.int .i64 0]) (by simp[results,Tryz.results25,go_sem,k0,k1,k2,k3,k4,k5]) rfl ?_
     exact hR.out _ _ ⟨⟨false,false,false,x.i,x.rf,[]⟩,_,_,_,by rw[HBE.out];rfl,Hk.out.1,Hk.out.2,HI.out.1,⟨Nat.le_trans HI.out.2.1 zo,Nat.le_trans HI.out.2.2 zo,zS⟩⟩
    | str hk h he=>
     subst hk;have HBE:=zh (show BE=0 by rw[HB1.out];simp);have HI:=zh (fun f C (hf:dx op.toList s0.data.toList=some f) (hC:dX f C)=>HP.out.2.2.2.1 s0.data.toList f C ho h hf hC);have hsome:∃f,dx op.toList s0.data.toList=some f:=by
      rcases lH ho with h | h | h | h <;> rw[h] <;> exact⟨_,rfl⟩
     obtain⟨f,hf⟩:=hsome;have HRN:=zh (Kq op s0 mk w3 hO.inn hops zo);rw[hf] at HRN;have HI2:=zh (fun C (hC:dX f C)=>HI.out f C hf hC);have HO:=zh hO;have q0:=hO.third.obj.cell (i:=0) rfl;have q2:=hO.third.obj.cell (i:=2) rfl;have q5:=hO.third.obj.lt;clear hO HP HQ HT HB1 HO3 h1 h2 h3 h ho he hops HI hf
     go_wp2_with fail
     refine HRN.out.mono ?_;rintro e w4 ⟨rt,C,rfl,hb4,hst,hl,-,hlen⟩;have HI3:=zh (zi (HI2.out C (hl f rfl)) hlen);obtain⟨ya,yc,rfl⟩:=eU hst;have hO1:=(HO.out.call hb4).al #[.slice ya C.length yc] 27;have HN:=zh hst;have HO1:=zh hO1;clear HRN HO hb4 hst hl hlen q0 q2 q5 hO1
     go_upto_region 13 with (fail)
     generalize hW:w4.alloc (.cells #[.slice ya C.length yc] 27)=w5 at *
     generalize w4.heap.size=gx at *
     have hO:=HO1.out.third;have hS:ScAt _ (.slice none 0 0) (.slice none 0 0) (.slice ya C.length yc) ⟨false,false,false,[],[],C⟩:=⟨aR _,aR _,HN.out⟩;have q0:=HO1.out.obj.cell (i:=0) rfl;have q2:=HO1.out.obj.lt;clear HO1 HN hW;obtain⟨g0,g1,g2,g3,g4,g5,gf0,gf1,gf2,gf3,gf4,gf5⟩:=hO.obj.cf6;have gl:=hO.obj.lt;have hO2:Own _ _ _ _ (.obj _ 29 #[.bool false,.bool false,.bool false,.slice none 0 0,.slice none 0 0,.slice ya C.length yc]::_):=((((((hO.set 0 (.bool false)).set 1 (.bool false)).set 2 (.bool false)).set 3 (.slice none 0 0)).set 4 (.slice none 0 0)).set 5 (.slice ya C.length yc));obtain⟨k0,k1,k2,k3,k4,k5⟩:=hO2.obj.cs6;have Hk:=zh (zi hO2.below (hS.le hO2.done));clear hO2 hS hO;go_wp2;refine bodyPost_ret (v:=.tuple #[.agg #[.bool false,.bool false,.bool false,.slice none 0 0,.slice none 0 0,.slice ya C.length yc],.int .i64 0]) (by simp[results,Tryz.results25,go_sem,k0,k1,k2,k3,k4,k5]) rfl ?_
     exact hR.out _ _ ⟨⟨false,false,false,[],[],C⟩,_,_,_,by rw[HBE.out];rfl,Hk.out.1,Hk.out.2,HI3.out.1,⟨zS,zS,HI3.out.2⟩⟩
    | parts hk h he=>exact absurd he zD
    | nul hk h he=>
     subst hk;have HBE:=zh (show BE=11 by rw[HB1.out];simp);have HI:=zh (lu (HP.out.2.2.2.2.1 .nul ho h (.inl rfl)));have q0:=hO.third.obj.cell (i:=0) rfl;have q5:=hO.third.obj.lt;have hO:=hO.swap;have hS:ScAt mk (.slice none 0 0) (.slice none 0 0) (.slice none 0 0) dO:=ScAt.empty mk;clear HP HQ HT HB1 HO3 h1 h2 h3 h ho he hops;obtain⟨g0,g1,g2,g3,g4,g5,gf0,gf1,gf2,gf3,gf4,gf5⟩:=hO.obj.cf6;have gl:=hO.obj.lt;have hO2:Own _ _ _ _ (.obj _ 29 #[.bool false,.bool false,.bool false,.slice none 0 0,.slice none 0 0,.slice none 0 0]::_):=((((((hO.set 0 (.bool false)).set 1 (.bool false)).set 2 (.bool false)).set 3 (.slice none 0 0)).set 4 (.slice none 0 0)).set 5 (.slice none 0 0));obtain⟨k0,k1,k2,k3,k4,k5⟩:=hO2.obj.cs6;have Hk:=zh (zi hO2.below (hS.le hO2.done));clear hO2 hS hO;go_wp2;refine bodyPost_ret (v:=.tuple #[.agg #[.bool false,.bool false,.bool false,.slice none 0 0,.slice none 0 0,.slice none 0 0],.int .i64 11]) (by simp[results,Tryz.results25,go_sem,k0,k1,k2,k3,k4,k5]) rfl ?_
     exact hR.out _ _ ⟨dO,_,_,_,by rw[HBE.out];rfl,Hk.out.1,Hk.out.2,HI.out,fK _ _⟩
    | fal hk hn h he=>
     subst hk;have HBE:=zh (show BE=11 by rw[HB1.out];simp);have HI:=zh (lu (HP.out.2.2.2.2.1 .fal ho h (.inr (.inl rfl))));have q0:=hO.third.obj.cell (i:=0) rfl;have q5:=hO.third.obj.lt;have hO:=hO.swap;have hS:ScAt mk (.slice none 0 0) (.slice none 0 0) (.slice none 0 0) dO:=ScAt.empty mk;clear HP HQ HT HB1 HO3 h1 h2 h3 h ho he hops;obtain⟨g0,g1,g2,g3,g4,g5,gf0,gf1,gf2,gf3,gf4,gf5⟩:=hO.obj.cf6;have gl:=hO.obj.lt;have hO2:Own _ _ _ _ (.obj _ 29 #[.bool false,.bool false,.bool false,.slice none 0 0,.slice none 0 0,.slice none 0 0]::_):=((((((hO.set 0 (.bool false)).set 1 (.bool false)).set 2 (.bool false)).set 3 (.slice none 0 0)).set 4 (.slice none 0 0)).set 5 (.slice none 0 0));obtain⟨k0,k1,k2,k3,k4,k5⟩:=hO2.obj.cs6;have Hk:=zh (zi hO2.below (hS.le hO2.done));clear hO2 hS hO;go_wp2;refine bodyPost_ret (v:=.tuple #[.agg #[.bool false,.bool false,.bool false,.slice none 0 0,.slice none 0 0,.slice none 0 0],.int .i64 11]) (by simp[results,Tryz.results25,go_sem,k0,k1,k2,k3,k4,k5]) rfl ?_
     exact hR.out _ _ ⟨dO,_,_,_,by rw[HBE.out];rfl,Hk.out.1,Hk.out.2,HI.out,fK _ _⟩
    | tru hk hn h he=>
     subst hk;have HBE:=zh (show BE=11 by rw[HB1.out];simp);have HI:=zh (lu (HP.out.2.2.2.2.1 .tru ho h (.inr (.inr rfl))));have q0:=hO.third.obj.cell (i:=0) rfl;have q5:=hO.third.obj.lt;have hO:=hO.swap;have hS:ScAt mk (.slice none 0 0) (.slice none 0 0) (.slice none 0 0) dO:=ScAt.empty mk;clear HP HQ HT HB1 HO3 h1 h2 h3 h ho he hops;obtain⟨g0,g1,g2,g3,g4,g5,gf0,gf1,gf2,gf3,gf4,gf5⟩:=hO.obj.cf6;have gl:=hO.obj.lt;have hO2:Own _ _ _ _ (.obj _ 29 #[.bool false,.bool false,.bool false,.slice none 0 0,.slice none 0 0,.slice none 0 0]::_):=((((((hO.set 0 (.bool false)).set 1 (.bool false)).set 2 (.bool false)).set 3 (.slice none 0 0)).set 4 (.slice none 0 0)).set 5 (.slice none 0 0));obtain⟨k0,k1,k2,k3,k4,k5⟩:=hO2.obj.cs6;have Hk:=zh (zi hO2.below (hS.le hO2.done));clear hO2 hS hO;go_wp2;refine bodyPost_ret (v:=.tuple #[.agg #[.bool false,.bool false,.bool false,.slice none 0 0,.slice none 0 0,.slice none 0 0],.int .i64 11]) (by simp[results,Tryz.results25,go_sem,k0,k1,k2,k3,k4,k5]) rfl ?_;exact hR.out _ _ ⟨dO,_,_,_,by rw[HBE.out];rfl,Hk.out.1,Hk.out.2,HI.out,fK _ _⟩
   ·have hof:jI op.toList=false:=by simpa using ho
    have HBE:=zh (show BE=8 by rw[HB0.out];simp[h33,hof]);have HI:=zh (lu (HP.out.2.2.2.2.2 hof h33));have hO:=hO.swap;have hS:ScAt mk (.slice none 0 0) (.slice none 0 0) (.slice none 0 0) dO:=ScAt.empty mk;rw[hof,Bool.not_false];clear h33 ho hof HB0 HP HT HQ h1 h2 h3;obtain⟨g0,g1,g2,g3,g4,g5,gf0,gf1,gf2,gf3,gf4,gf5⟩:=hO.obj.cf6;have gl:=hO.obj.lt;have hO2:Own _ _ _ _ (.obj _ 29 #[.bool false,.bool false,.bool false,.slice none 0 0,.slice none 0 0,.slice none 0 0]::_):=((((((hO.set 0 (.bool false)).set 1 (.bool false)).set 2 (.bool false)).set 3 (.slice none 0 0)).set 4 (.slice none 0 0)).set 5 (.slice none 0 0));obtain⟨k0,k1,k2,k3,k4,k5⟩:=hO2.obj.cs6;have Hk:=zh (zi hO2.below (hS.le hO2.done));clear hO2 hS hO;go_wp2;refine bodyPost_ret (v:=.tuple #[.agg #[.bool false,.bool false,.bool false,.slice none 0 0,.slice none 0 0,.slice none 0 0],.int .i64 8]) (by simp[results,Tryz.results25,go_sem,k0,k1,k2,k3,k4,k5]) rfl ?_;exact hR.out _ _ ⟨dO,_,_,_,by rw[HBE.out];rfl,Hk.out.1,Hk.out.2,HI.out,fK _ _⟩
 ·have hno:de=none:=by
   by_cases hcx:cx=0
   ·cases HOK.out.1 hcx with
    | parts hk h he=>exact h
    | nul hk h he=>exact absurd he her
    | fal hk hn h he=>exact absurd he her
    | tru hk hn h he=>exact absurd he her
    | num hk hv h he=>exact absurd he her
    | str hk h he=>exact absurd he her
   ·exact (HOK.out.2 hcx).1
  have HBE:=zh (show BE=er by rw[HB0.out];simp[her]);have HI:=zh (lu (HP.out.1 hno));have hne:(er != 0)=true:=by simpa using her
  have hO:=HO1.out.swap;have hS:ScAt mk (.slice none 0 0) (.slice none 0 0) (.slice none 0 0) dO:=ScAt.empty mk;clear HOK HB0 HP HT HO1 h1 h2 h3 her;obtain⟨g0,g1,g2,g3,g4,g5,gf0,gf1,gf2,gf3,gf4,gf5⟩:=hO.obj.cf6;have gl:=hO.obj.lt;have hO2:Own _ _ _ _ (.obj _ 29 #[.bool false,.bool false,.bool false,.slice none 0 0,.slice none 0 0,.slice none 0 0]::_):=((((((hO.set 0 (.bool false)).set 1 (.bool false)).set 2 (.bool false)).set 3 (.slice none 0 0)).set 4 (.slice none 0 0)).set 5 (.slice none 0 0));obtain⟨k0,k1,k2,k3,k4,k5⟩:=hO2.obj.cs6;have Hk:=zh (zi hO2.below (hS.le hO2.done));clear hO2 hS hO;go_wp2;refine bodyPost_ret (v:=.tuple #[.agg #[.bool false,.bool false,.bool false,.slice none 0 0,.slice none 0 0,.slice none 0 0],.int .i64 er]) (by simp[results,Tryz.results25,go_sem,k0,k1,k2,k3,k4,k5]) rfl ?_;exact hR.out _ _ ⟨dO,_,_,_,by rw[HBE.out];rfl,Hk.out.1,Hk.out.2,HI.out,fK _ _⟩
theorem Av (op:ByteArray) (d1 d2:Value) (d:Dt) (m:Mem) (w:World) (hm:m.inn w) (htab:TabM m) (hd:DtAt m d1 d2 d) :
 Calls Tryz.prog 4 #[.string op,d.val d1 d2] w fun e w'=>e=.returned (.bool true)∧Below w.heap.size w w':=by
 obtain⟨qda,qdb,qdc,qdd,rfl,rfl⟩:=hd.slices;have hO:=Own.start hm;have l0:=Mem.le_refl m;obtain⟨m1,k1,bd,hO⟩:=lC 33 hO (hd.le l0);have l1:=Mem.le_trans l0 k1;have HT:=zh (htab.le l1);have HO:=zh hO;clear hO htab hd l1 k1 l0;unfold Dt.val;refine aj fun R hR=>?_
 go_enter Tryz.func4,Tryz.ntmps4
 go_upto_region 1 with (fail)
 generalize hW:(w.alloc (.cells #[.int .i64 d.kind,.int .i64 d.num,.string d.str,.slice qda d.items.length qdb,.slice qdc d.bv.length qdd] 33))=w0 at *
 clear hW;refine aA [0,3,17] (fun vs w'=>∃c:Bool,vs=[.string op,.pointer (some ⟨w.heap.size,0,none⟩),.bool c]∧Own w m w' m1 []∧(c=false→kr d=true∧d.str.size≤60)) ?_ ?_
 ·intro X hX;obtain⟨yd0,yd1,yd2,yd3,yd4⟩:=bd.cw HO.out.inn;have ydl:=Mem.ak HO.out.inn bd.c0;have HB:=zh (jq _ _ d m1 _ HO.out.inn bd.at')
  go_wp2_with fail
  refine HB.out.mono ?_;rintro e w3 ⟨rfl,hb⟩;have HO:=zh (HO.out.move hb);clear HB hb;clear yd0 yd1 yd2 yd3 yd4 ydl;by_cases h:kr d=true
  case neg=>
   rw[Bool.eq_false_iff.2 h];clear h;go_wp2;exact hX.out _ _ rfl ⟨true,rfl,HO.out,fun h=>by cases h⟩
  rw[h];have HG0:=zh h;clear h;have y2:=Mem.av HO.out.inn bd.c2;have y0:=Mem.ak HO.out.inn bd.c0;by_cases h:d.str.size≤60
  case neg=>
   have hd:decide ((60:Int)<(d.str.size:Int))=true:=decide_eq_true zo;clear h;go_wp2;exact hX.out _ _ rfl ⟨true,rfl,HO.out,fun h=>by cases h⟩
  have hd1:decide ((60:Int)<(d.str.size:Int))=false:=decide_eq_false zo;have HG1:=zh h;clear h;go_wp2;exact hX.out _ _ rfl ⟨false,rfl,HO.out,fun _=>⟨HG0.out,HG1.out⟩⟩
 rintro z vs w1 - ⟨c,rfl,hO,hc⟩;simp[litL,lk];clear HO;have HO:=zh hO;have HC:=zh hc;clear hO hc
 cases c with
 | true=>
  clear HC
  go_wp2_with fail
  refine (bJ m1 _ HO.out.inn HT.out).mono ?_;rintro e w2 ⟨rfl,hb⟩;have HE:=zh (HO.out.move hb).below;clear hb HO;go_wp2
  exact hR.out _ _ ⟨rfl,HE.out⟩
 | false=>
  obtain⟨g0,g1⟩:=HC.out rfl;clear HC;have Cd:=zh (kS g0);clear g0;have Zd:=zh g1;clear g1;obtain⟨yd0,yd1,yd2,yd3,yd4⟩:=bd.cw HO.out.inn;have ydl:=Mem.ak HO.out.inn bd.c0;have HB:=zh (kT op _ _ d m1 _ HO.out.inn HT.out bd.at' (by have:=Cd.out;omega) (by have:=Zd.out;omega));unfold Dt.val at HB
  go_wp2_with fail
  refine HB.out.mono ?_;rintro e w5 ⟨s1,si,sf,st,rfl,hb,hn,hS,-⟩;clear yd0 yd1 yd2 yd3 yd4 ydl;have Is1:=zh hS;clear hS;obtain⟨ua,ub,uc,ud,ue,uf,rfl,rfl,rfl⟩:=hn.spell;unfold RS.val;obtain⟨m2,lk,bs1,hO⟩:=iJ 29 HO.out hb hn;have HT:=zh (HT.out.le lk);have bd:=bd.le lk
  go_upto_region 4 with (fail)
  generalize hW:w5.alloc (.cells #[.bool s1.nul,.bool s1.fal,.bool s1.tru,.slice ua s1.i.length ub,.slice uc s1.f.length ud,.slice ue s1.t.length uf] 29)=w5' at *
  generalize w5.heap.size=gs1 at *
  have HO:=zh hO;clear hb hn hO HB hW lk;obtain⟨yd0,yd1,yd2,yd3,yd4⟩:=bd.cw HO.out.inn;have ydl:=Mem.ak HO.out.inn bd.c0;have HB:=zh (Ew op _ _ d m2 _ HO.out.inn HT.out bd.at' (by have:=Cd.out;omega) (by have:=Zd.out;omega));unfold Dt.val at HB
  go_wp2_with fail
  refine HB.out.mono ?_;rintro e w7 ⟨s2,si,sf,st,rfl,hb,hn,hS,-⟩;clear yd0 yd1 yd2 yd3 yd4 ydl;have Is2:=zh hS;clear hS;obtain⟨va,vb,vc,vd,ve,vf,rfl,rfl,rfl⟩:=hn.spell;unfold RS.val;obtain⟨m3,lk,bs2,hO⟩:=iJ 29 HO.out hb hn;have HT:=zh (HT.out.le lk);have bd:=bd.le lk;have bs1:=bs1.le lk
  go_upto_region 5 with (fail)
  generalize hW:w7.alloc (.cells #[.bool s2.nul,.bool s2.fal,.bool s2.tru,.slice va s2.i.length vb,.slice vc s2.f.length vd,.slice ve s2.t.length vf] 29)=w7' at *
  generalize w7.heap.size=gs2 at *
  have HO:=zh hO;clear hb hn hO HB hW lk;obtain⟨y10,y11,y12,y13,y14,y15⟩:=bs1.cw HO.out.inn;have y1l:=Mem.ak HO.out.inn bs1.c0;obtain⟨y20,y21,y22,y23,y24,y25⟩:=bs2.cw HO.out.inn;have y2l:=Mem.ak HO.out.inn bs2.c0;have HB:=zh (dB _ _ _ _ _ _ s1 s2 m3 _ HO.out.inn bs1.at' bs2.at');unfold RS.val at HB
  go_wp2_with fail
  refine HB.out.mono ?_;rintro e w9 ⟨rfl,hb⟩;clear y10 y11 y12 y13 y14 y15 y1l y20 y21 y22 y23 y24 y25 y2l;rw[aN (Is1.out.unique Is2.out)];have HO:=zh (HO.out.move hb);clear hb HB;have HB:=zh (bJ m3 _ HO.out.inn HT.out)
  go_wp2_with fail
  refine HB.out.mono ?_;rintro e w8 ⟨rfl,hb⟩;have HE:=zh (HO.out.move hb).below;clear hb HB HO;go_wp2;exact hR.out _ _ ⟨rfl,HE.out⟩
end Cl
