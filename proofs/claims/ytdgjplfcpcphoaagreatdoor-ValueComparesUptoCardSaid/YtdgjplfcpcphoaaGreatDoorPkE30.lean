/- Lemmas for the proofs of chapter 11. -/
import Derived.Test.YtdgjplfcpcphoaaGreatDoorPkE28
import Derived.Test.YtdgjplfcpcphoaaGreatDoorPkE13
set_option maxRecDepth 100000
set_option maxHeartbeats 16000000
namespace Cl
open Go Go.RowKit Go.Proofs Tryz
theorem uJ(n:Nat)(d:Vd)(x y:Sl)(m:Mem)(w:zW)(F:m.ay w)(t:bG m n x d.1)(s:bG m n y d.2)(G:dw n d.1<=1048576)(k:dw n d.2<=1048576):
 zX 13 #[dE d x y] w (.bool (lH n d.1&&lH n d.2)):=by
 have l:=(Own.start F).al (fK d x y).toArray 35;have B:=zh (mW n d.1 x m _ l.ay t G);have z:=zh (fun w' (h:m.ay w')=>mW n d.2 y m w' h s k);have H:(bu d.1 x).length=9:=rfl;have p:(bu d.2 y).length=9:=rfl;have A:=zh qfi;have q:=zh l;unfold Vl.val dE at*
 generalize bu d.1 x=N at*
 generalize bu d.2 y=v at*
 generalize fK d x y=D at*
 clear l t s;have r:=q.o.obj.sub (o:=0) (cs:=N) fun j u i=>by simpa using A.o.1 j u i
 generalize lH n d.1=E at*
 generalize lH n d.2=J at*
 refine aj fun R hR=>?_
 go_enter func13,ntmps13
 go_wp2_with (refine ae iH rfl (.tmp 3) rfl rfl N H r ?_)
 refine B.o.mono ?_;rintro e C ⟨rfl,f⟩;have a:=zh (q.o.aP f);have b:=zh (z.o C a.o.ay);have g:=a.o.obj.sub (o:=9) (cs:=v) fun j u i=>by simpa using A.o.2 j u i
 clear q B z f r;cases E
 .have HB:=zh a.o.az;clear a b g;exact qag
 .go_wp2_with (refine ae iH rfl (.tmp 7) rfl rfl v p g ?_)
  refine b.o.mono ?_;rintro e I ⟨rfl,c⟩;have HB:=zh (a.o.aP c).az;clear a b c g;exact qag
theorem I9(u:zV)(l:List Fd)(m:Mem)(n:Nat)(w:zW)(L:m.ay w)(h:iy (bG m n) m u l):
 zX 99 #[u] w (.bool (tf (fM l))):=by
 obtain⟨a,c,rfl,S,K,J⟩:=h;unfold maxLen at K;have P:=zh J;have HO:=zh (Own.start L);clear J;refine aj fun R hR=>?_
 go_enter func99,ntmps99
 go_wp2;refine av [0,3] (fun q I H=>∃(i:Nat),i<=l.length/\q=l.length-i/\I=[.slice a l.length c,.int .i64 (i:Int)]/\(∀j (hj:j<l.length),j<i->l[j].1.2=1\/l[j].1.2=2)/\(∀j (hj:j+1<l.length),j+1<i->Dw l[j].1.1 (l[j+1]).1.1=true) /\
  Own w m H m []) ?_ ?_
 .exact qcy
 clear HO;rintro X z q I H hX-⟨i,hi,rfl,rfl,hA,hB,hO⟩;simp[aX,lk];by_cases hlt:i<l.length
 case neg=>
  exact qaN
 obtain⟨b,off,rfl,E⟩:=P.o qdX;have V:=Mem_cell_w hO.ay (E i hlt).s;have U:=Mem_cell_w hO.ay (E i hlt).p;have T:=Mem_cell_lt hO.ay (E i hlt).s;have v:=zh (fun j (hj:j<l.length)=>Mem_cell_w hO.ay (E j hj).s);have r:=zh (zi hA hB);have HO:=zh (hO.Ep 1);have A:=zh (show(¬(l[i].1.2=1\/l[i].1.2=2))->¬fM l from fun h k=>h (k.bzd _ (zF hlt)));generalize D:l[i].1.2=F at*
 generalize x:l[i].1.1=G at*
 have g:=zh (zi D x);clear hO E hA hB D x;by_cases d:F=1\/F=2
 case neg=>
  have O:(F != 1)=true:=bne_iff_ne.2 fun e=>d (.inl e);have N:(F != 2)=true:=bne_iff_ne.2 fun e=>d (.inr e);have HR:=zh (A.o d);have HB:=zh HO.o.az;clear HO v A d hX r;go_wp2
  go_region
  all_goals go_wp2
  exact qbs
 have t:∀j (hj:j<l.length),j<i+1->l[j].1.2=1\/l[j].1.2=2:=fun j hj h=>by
  by_cases e:j=i
  .subst e;rw[g.o.1];exact d
  .exact r.o.1 j hj zo
 have y:=zh t;clear t A;rcases Nat.eq_zero_or_pos i with rfl|M
 .have B:=zh (show ∀j (hj:j+1<l.length),j+1<0+1->Dw l[j].1.1 (l[j+1]).1.1=true from fun j hj h=>zo);clear r g v;rcases d with rfl|rfl
  all_goals
   go_wp2
   go_region
   all_goals go_wp2
   all_goals exact hX.o _ _ _ zo rfl ⟨0+1,zo,rfl,rfl,y.o,B.o,HO.o⟩
 obtain⟨p,rfl⟩:∃p,i=p+1:=⟨i-1,zo⟩;have Q:=v.o p zo;cases hb:Dw l[p].1.1 G
 .have HR:=zh (show ¬fM l from fun k=>by
   have:=k.asc p zo;rw[g.o.2,hb]at this;cases this)
  have HB:=zh HO.o.az;unfold Dw at hb;rw[<-xE,<-xE]at hb;generalize l[p].1.1=C at*
  clear r g v HO y hX;rcases d with rfl|rfl
  all_goals
   go_wp2
   go_region
   all_goals go_wp2
   exact qbs
 .have B:=zh (show ∀j (hj:j+1<l.length),j+1<p+1+1->Dw l[j].1.1 (l[j+1]).1.1=true from fun j hj h=>by
   by_cases e:j=p
   .subst e;rw[g.o.2];exact hb
   .exact r.o.2 j hj zo)
  unfold Dw at hb;rw[<-xE,<-xE]at hb;generalize l[p].1.1=C at*
  clear r g v;rcases d with rfl|rfl
  all_goals
   go_wp2
   go_region
   all_goals go_wp2
   all_goals exact hX.o _ _ _ zo rfl ⟨p+1+1,zo,rfl,rfl,y.o,B.o,HO.o⟩
def uH(s:List UInt8)(k:Nat):aC:=(List.range k).map fun i=>⟨false,[⟨(s.getD i 0).toNat,(s.getD i 0).toNat,(i+1:Nat)⟩]⟩
theorem PT(s:List UInt8)(k:Nat):uH s (k+1)=uH s k++[⟨false,[⟨(s.getD k 0).toNat,(s.getD k 0).toNat,(k+1:Nat)⟩]⟩]:=by
 simp[uH,List.range_succ]
theorem sQ(s:List UInt8)(k:Nat):(uH s k).length=k:=by simp[uH]
theorem Y2{mk:Mem}{w:zW}{g:Nat}{t:TypeId}{lo hi:Nat}{to:Int}(h:bH w g t #[.int .u8 lo,.int .u8 hi,.int .i64 to])(a:VI ⟨lo,hi,to⟩):kS (mk.add w g) (.slice (some ⟨g,0,none⟩) 1 1) [⟨lo,hi,to⟩]:=by
 refine⟨some ⟨g,0,none⟩,1,rfl,zS,by simp[maxLen],fun _=>⟨g,0,rfl,fun i hi=>?_⟩⟩;have:i=0:=by simpa using hi
 subst this;exact⟨Mem_add_cell h rfl,Mem_add_cell h rfl,Mem_add_cell h rfl,a⟩
theorem Y4(mk:Mem):kS mk (.slice none 0 0) []:=⟨none,0,rfl,zS,by simp[maxLen],fun h=>absurd rfl h⟩
theorem NC(s:ByteArray)(m:Mem)(w:zW)(S:m.ay w)(hs:s.size<=1000):
 zC 151 #[.string s] w fun e w'=>∃r,e=.returned (.agg #[r])/\zB w w'/\aQ (m.grow w w') r (uH s.data.toList s.size++[⟨true,[]⟩]):=by
 refine aj fun R hR=>?_
 go_enter func151,ntmps151
 go_wp2;refine av [0,2,3,4] (fun n M A=>∃(k:Nat) (v:zV) (xs:List Value) (mk:Mem),k<=s.size/\n=s.size-k/\M=[.string s,.pointer (some ⟨w.heap.size,0,none⟩),.pointer (some ⟨w.heap.size+1,0,none⟩),.int .i64 k] /\
  Own w m A mk [.obj (w.heap.size+1) 27 #[v],.row v 80 2 k xs,.obj w.heap.size 27 #[.slice none 0 0]]/\kJ mk xs (uH s.data.toList k)) ?_ ?_
 .refine⟨_,0,.slice none 0 0,[],m,zG _,rfl,rfl,?_,kJ.nil m⟩;have:=(((Own.start S).al #[.slice none 0 0] 27).al #[.slice none 0 0] 27).dL 80 2;simpa using this.au
 rintro X z n M A U-⟨k,v,xs,mk,hk,rfl,rfl,J,C⟩;simp[aX,lk];have p:=J.obj;have W:=p.cell (i:=0) (v:=v) rfl;have f1:=p.frozen 0;have Z:=p.lt;by_cases hlt:k<s.size
 .go_wp2;have Q:IntKind.i64.wrap ((k:Int)+1)=(k:Int)+1:=IntWalk.i64_in _ zo;refine jC (fun w'=>bH w' (w.heap.size+1) 27 #[v]) 16 zk ?_;have u:bH A.drew (w.heap.size+1) 27 #[v]:=p.dr;refine aI 0 rfl zk qfc u qfe ?_;refine aI 1 rfl zk qfc u qfe ?_;refine aI 2 rfl zk qfc u qfe ?_;refine aI 3 rfl zk qfc u qfe ?_;refine aI 4 rfl zk qfc u qfe ?_;refine aI 5 rfl zk qfc u qfe ?_;refine aI 6 rfl zk qfc u qfe ?_;refine aI 7 rfl zk qfc u qfe ?_;refine aI 8 rfl zk qfc u qfe ?_;refine aI 9 rfl zk qfc u qfe ?_;refine aI 10 rfl zk qfc u qfe ?_;refine aV 11 zk (aJ rfl rfl (aN qem (jb (p.al _).dr fun I=>?_)));refine aI 12 rfl zk qfc I qfe ?_;refine aV 13 zk (aJ rfl rfl (aN qem (jb ((p.al _).al _).dr fun L=>?_)));go_simp;have a:=((J.al #[Value.int IntKind.u8 s[k].toNat,Value.int IntKind.u8 s[k].toNat,Value.int IntKind.i64 (k+1)] 104).al #[Value.bool false,Value.slice (some ⟨A.heap.size,0,none⟩) 1 1] 80).dr;rw[show(A.alloc (.cells #[Value.int IntKind.u8 s[k].toNat,Value.int IntKind.u8 s[k].toNat,Value.int IntKind.i64 (k+1)] 104)).heap.size=A.heap.size+1 by simp]at a;have E:=a.tail.lU;have H:=Y2 (mk:=mk) (lo:=s[k].toNat) (hi:=s[k].toNat) (to:=(k:Int)+1) a.tail.obj ⟨s[k].toNat_lt,s[k].toNat_lt,by show _<=(k:Int)+1;omega,by show(k:Int)+1<=_;omega⟩;have N:=a.tail.lV;refine aV 14 zk (aJ rfl rfl (iG mU (.tmp 12) (.tmp 24) rfl v k xs rfl E.au.row ⟨A.heap.size+1,0,none⟩ 1 1 [.bool false,.slice (some ⟨A.heap.size,0,none⟩) 1 1] rfl rfl (a.obj.cZ rfl) qdZ qdY zo (fun va F P d f b=>?_)));have j:=E.au.app d f b (zI _);refine jb j.au.obj fun g=>?_;have f3:=g.frozen 0;have O:=g.cell (i:=0) rfl;refine aI 15 rfl zk qfc g qfe ?_;refine aV 16 zk (aJ rfl rfl (cO qeI (lD rfl ?_)));refine gG zk ?_ _;have t:=j.au.set 0 (.slice va (k+1) F);have x:=(C.mono (Mem_le_add N)).push (s:=⟨false,[⟨s[k].toNat,s[k].toNat,(k+1:Nat)⟩]⟩) H;have Hfin:=zh (zi t x);clear t x j E a J H N d f b u I L g f3 O p W f1;go_wp2;refine U.o _ _ _ zo rfl ⟨k+1,_,_,_,zo,rfl,rfl,Hfin.o.1,?_⟩;have T:=Hfin.o.2;rw[PT];have e:s.data.toList.getD k 0=s[k]:=by
   rw[yU];have:s.data.toList[k]?=some s[k]:=by
    rw[yH qeA];rfl
   rw[this];rfl
  rw[e];exact T
 .obtain rfl:k=s.size:=zo;have B:=J.al #[Value.bool true,Value.slice none 0 0] 80
  go_wp2_with (at_builtin;refine aG mU rfl (.tmp 28) (.tmp 30) rfl v s.size xs rfl (B.bA).row ⟨A.heap.size,0,none⟩ 1 1 [.bool true,.slice none 0 0] rfl rfl (B.obj.cZ rfl) qdZ qdY zo ?_)
  intro va F P d f b;have a:=B.bA.app d f b zS;have g:=a.bA.obj;have f3:=g.frozen 0;have O:=g.cell (i:=0) rfl;have Y:=g.lt;have V:=a.dZ.obj.c 0;have g4:=a.dZ.obj.frozen 0;have g5:=a.dZ.obj.lt;have j:=(a.bA.set 0 (.slice va (s.size+1) F)).dZ.set 0 (.slice va (s.size+1) F);have y:=C.push (s:=(⟨true,[]⟩:Sn)) (Y4 mk);have t:=j.bA.bJ;have K:(uH s.data.toList s.size++[(⟨true,[]⟩:Sn)]).length=s.size+1:=by simp[sQ]
  have G:=gZ (l:=uH s.data.toList s.size++[(⟨true,[]⟩:Sn)]) (by rw[K];exact j.bA.row) y j.bA.free;have D:=aW t.done G;have Hfin:=zh (zi t.az D);clear t G D j y d f b a B J;go_wp2;refine yV (v:=.agg #[.slice va (s.size+1) F]) (by simp[results,results151,go_sem,V]) rfl ?_;exact qai
end Cl
