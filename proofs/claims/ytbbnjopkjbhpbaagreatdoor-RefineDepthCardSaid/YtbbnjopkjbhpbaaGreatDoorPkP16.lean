/- Lemmas for the proofs of chapter 11. -/
import Derived.Test.YtbbnjopkjbhpbaaGreatDoorPkP15
set_option maxRecDepth 100000
set_option maxHeartbeats 16000000
namespace Cl
open Go Go.RowKit Go.Proofs Tryz
theorem MN(A:aK)(x:List UInt8):Sem (cO A) x=Sem A x:=by
 rw[dn (nK A)];exact(yw A).2 x
theorem EK:azC none=.tuple #[.string ⟨#[]⟩,.bool false]:=rfl
theorem EJ(x:List UInt8):azC (some x)=.tuple #[.string (kV x),.bool true]:=rfl
theorem qp(U v1:zV)(A B:aK)(m:Mem)(w:zW)(hm:m.ay w)(g:dV m)(hA:aU m U A)(hB:aU m v1 B)(Z:(A.length+2)*(B.length+2)<=900000):
 zC 127 #[.agg #[U],.agg #[v1]] w fun e w'=>∃c,e=.returned (.int .i64 c)/\zB w w'/\ik (Sem A) (Sem B) c:=by
 have hF:=Fits.of (A:=A) (B:=B) (zI _) (zI _) zo;have n:=((Own.start hm).al #[U] 27).al #[v1] 27;have F:(w.alloc (.cells #[U] 27)).heap.size=w.heap.size+1:=by simp
 rw[F]at n;have C:=zh n;have HA:=zh (fun w (hw:m.ay w)=>nV U A m w hw g hA hF.a);have HB:=zh (fun mk w (hw:mk.ay w) (u:m.le mk)=>nV v1 B mk w hw (g.le u) (aX u hB) hF.b);clear n F;refine au fun R hR=>?_;obtain⟨va,vc,rfl,-⟩:=hA;obtain⟨vb,vd,rfl,-⟩:=hB
 go_enter func127,ntmps127
 go_wp2;refine aV [2,3] (fun vs w'=>∃(L K:zV) (mk:Mem),vs=[.pointer (some ⟨w.heap.size,0,none⟩),.pointer (some ⟨w.heap.size+1,0,none⟩)] /\
  Own w m w' mk [.obj (w.heap.size+1) 27 #[K],.obj w.heap.size 27 #[L]]/\m.le mk/\aU mk L (cO A)/\aU mk K (cO B)) ?_ ?_
 .intro X hX;refine kz (fun j w'=>(j≠4->j≠5->aZ w' w.heap.size 27 #[.slice va A.length vc])/\(j≠5->aZ w' (w.heap.size+1) 27 #[.slice vb B.length vd])) zk ?_;have n:=C.o.dr;refine pJ 0 (fun w'=>aZ w' w.heap.size 27 #[.slice va A.length vc]) rfl zk qfd (fun j w' hj hd=>hd.1 qie qie) n.av.obj qiS ?_;refine pJ 2 (fun w'=>aZ w' (w.heap.size+1) 27 #[.slice vb B.length vd]) rfl zk qfd (fun j w' hj hd=>hd.2 qie) n.obj qiS ?_;refine bg 1 zk (aJ rfl rfl (dE qem (HA.o _ n.ay) ?_));rintro e w1 ⟨L,rfl,y',r⟩;have k:=n.call y';have u:=Mem_le_grow (w:=w1) n.ay;refine⟨_,rfl,.inr ⟨fun _ _=>k.av.obj,fun _=>k.obj⟩,?_⟩;go_simp;refine bg 3 zk (aJ rfl rfl (dE qem (HB.o _ _ k.ay u) ?_));rintro e T ⟨K,rfl,D,p⟩;have d:=k.call D;have f:=Mem_le_grow (w:=T) k.ay;refine⟨_,rfl,.inr ⟨fun _ _=>d.av.obj,fun _=>d.obj⟩,?_⟩;obtain⟨S,Q,rfl⟩:∃S Q,L=.slice S (cO A).length Q:=by obtain⟨x,y,e,-⟩:=r;exact⟨x,y,e⟩
  obtain⟨ya,yc,rfl⟩:∃S Q,K=.slice S (cO B).length Q:=by obtain⟨x,y,e,-⟩:=p;exact⟨x,y,e⟩
  go_simp;have f1:=d.av.obj.frozen 0;have c1:=d.av.obj.c 0;have l:=d.av.set 0 (.slice S (cO A).length Q);have f3:=l.av.obj.frozen 0;have c3:=l.av.obj.c 0;have v:=l.av.set 0 (.slice ya (cO B).length yc);refine bg 4 zk (aJ rfl rfl (bT zg ⟨.inr ⟨fun h=>absurd rfl h,fun _=>l.av.obj⟩,?_⟩));refine bg 5 zk (aJ rfl rfl (bT zg ⟨.inr ⟨fun _ h=>absurd rfl h,fun h=>absurd rfl h⟩,?_⟩));refine gM zk ?_ _;exact hX.o _ _ rfl ⟨_,_,_,rfl,v,Mem.le_trans u f,aX f r,p⟩
 rintro z vs w1-⟨L,K,mk,rfl,n,M,r,p⟩;simp[bB,lk];clear C HA HB;have d':=kr A;have c':=kr B;have Y:((cO A).length+2)*((cO B).length+2)<=(A.length+2)*(B.length+2):=xV zo zo;have t:((cO B).length+2)*((cO A).length+2)<=900000:=by rw[Nat.mul_comm];omega
 have W:=MN A;have V:=MN B;have E:=zh (zi (Fits.of (A:=cO A) (B:=cO B) (zI _) (zI _) zo) (zi (Fits.of (A:=cO B) (B:=cO A) (zI _) (zI _) zo) (zi W (zi V (zi (show((cO A).length+2)*((cO B).length+2)<=900000 by omega) t)))));clear d' c' Y t W V hF Z;generalize cO A=A' at*
 generalize cO B=B' at*
 have g1:=n.obj.c 0;have g2:=n.av.obj.c 0;have HM:=zh (pF L K A' B' mk _ n.ay (g.le M) r p E.o.1);have C:=zh (zi n (zi r (zi p M)));clear n r p M
 go_wp2_with fail
 refine HM.o.mono ?_;rintro e T ⟨d1,D1,rfl,D,f',b',O⟩;clear HM g1 g2;have k:=C.o.1.call D;have f:=Mem_le_grow (w:=T) C.o.1.ay;have HL:=zh (tC d1 D1 _ _ k.ay (g.le (Mem.le_trans C.o.2.2.2 f)) f' (by have:=E.o.2.2.2.2.1;omega));have s:=zh (zi k (zi (aX f C.o.2.1) (zi (aX f C.o.2.2.1) (Mem.le_trans C.o.2.2.2 f))));have l':=zh b';clear k f D C f' b' O
 go_wp2_with fail
 refine HL.o.mono ?_;rintro e w3 ⟨o1,rfl,i',H⟩;have d:=s.o.1.call i';have hq:=Mem_le_grow (w:=w3) s.o.1.ay;have d:=zh (zi d (zi (aX hq s.o.2.1) (zi (aX hq s.o.2.2.1) (Mem.le_trans s.o.2.2.2 hq))));have J:=zh (show ll (fun x=>Sem A x && !Sem B x) o1 by
  have e:Sem D1=fun x=>Sem A x && !Sem B x:=by
   funext x;rw[l'.o.Ir x,E.o.2.2.1 x,E.o.2.2.2.1 x]
  rw[<-e];exact H)
 clear H l' HL s i' hq D1;generalize v':(mk.grow w1 T).grow T w3=jH at*
 clear v';have g1:=d.o.1.obj.c 0;have g2:=d.o.1.av.obj.c 0;have HM:=zh (pF K L B' A' jH _ d.o.1.ay (g.le d.o.2.2.2) d.o.2.2.1 d.o.2.1 E.o.2.1);obtain⟨s1,b1,e1⟩:∃s1 b1,azC o1=.tuple #[.string s1,.bool b1]:=⟨_,_,rfl⟩;have P:=zh e1;rw[e1];clear e1
 go_wp2_with fail
 refine HM.o.mono ?_;rintro e w4 ⟨d2,D2,rfl,h',e',a',N⟩;clear HM g1 g2;have l:=d.o.1.call h';have G:=Mem_le_grow (w:=w4) d.o.1.ay;have HL:=zh (tC d2 D2 _ _ l.ay (g.le (Mem.le_trans d.o.2.2.2 G)) e' (by have:=E.o.2.2.2.2.2;omega));have m':=zh l;have k':=zh a';clear l G h' d e' a' N
 go_wp2_with fail
 refine HL.o.mono ?_;rintro e w5 ⟨o2,rfl,g',f⟩;have j':=m'.o.call g';have I:=zh (show ll (fun x=>Sem B x && !Sem A x) o2 by
  have e:Sem D2=fun x=>Sem B x && !Sem A x:=by
   funext x;rw[k'.o.Ir x,E.o.2.2.2.1 x,E.o.2.2.1 x]
  rw[<-e];exact f)
 have HC:=zh (dzP J.o I.o);have HO5:=zh j';clear f k' HL m' g' j' D2 E J I g;have P:=P.o
 cases o1 with
 |none=>
  rw[EK]at P;cases P
  cases o2 with
  |none=>
   rw[EK];go_wp2
   exact qhN
  |some y=>
   rw[EJ];go_wp2
   exact qhN
 |some x=>
  rw[EJ]at P;cases P
  cases o2 with
  |none=>
   rw[EK];go_wp2
   exact qhN
  |some y=>
   rw[EJ]
   go_wp2_with first|((go_at_call 169);refine(Tryz.cmp_Compare_int _ _ _).mono ?_;rintro e w' ⟨rfl,rfl⟩)|((go_at_call 170);refine(JX _ _ _).mono ?_;rintro e w' ⟨rfl,rfl⟩)
   have v:=HO5.o.al #[.int .i64 (Lib.compareInt (kV x).size (kV y).size),.int .i64 (Fp (kV x).data.toList (kV y).data.toList)] 3;refine(fzk _ _ _ _ _ v.obj).mono ?_;rintro e w7 ⟨rfl,rfl⟩;have H6:=zh v.az;have F':Hid (ik (Sem A) (Sem B) (if Lib.compareInt (kV x).size (kV y).size=0 then Fp (kV x).data.toList (kV y).data.toList else Lib.compareInt (kV x).size (kV y).size)):=HC;clear v HC;generalize (if Lib.compareInt (kV x).size (kV y).size=0 then Fp (kV x).data.toList (kV y).data.toList else Lib.compareInt (kV x).size (kV y).size)=c at*
   generalize w'.alloc (.cells #[.int .i64 (Lib.compareInt (kV x).size (kV y).size),.int .i64 (Fp (kV x).data.toList (kV y).data.toList)] 3)=w8 at*
   go_wp2;exact hR.o _ _ ⟨_,rfl,H6.o,F'.o⟩
end Cl
