/- Lemmas for the proofs of chapter 11. -/
import Derived.Test.YtdgjplfcpcphoaaGreatDoorPkE6
set_option maxRecDepth 100000
set_option maxHeartbeats 16000000
namespace Cl
open Go Go.RowKit Go.Proofs Tryz
theorem D5(z A:zV)(I F:List bT)(D H:zV)(J G:List bT)(m:Mem)(w:zW)(W:m.ay w)(N:bZ m z A I F)(M:bZ m D H J G)(hI:I.length<=290)(hF:F.length<=290)(Z:J.length<=290)(hG:G.length<=290):
 zC 158 #[.agg #[z,A],.agg #[D,H]] w fun e w'=>∃ri rf,e=.returned (.agg #[ri,rf])/\zB w w'/\bZ (m.grow w w') ri rf (dC (dz I F) (dz J G)).i (dC (dz I F) (dz J G)).rf:=by
 have hO:=(((Own.start W).al #[z,A] 24).al #[D,H] 24).al #[.slice none 0 0,.slice none 0 0] 24;have l:(w.alloc (.cells #[z,A] 24)).heap.size=w.heap.size+1:=by simp
 have h:((w.alloc (.cells #[z,A] 24)).alloc (.cells #[D,H] 24)).heap.size=w.heap.size+1+1:=by simp
 rw[h,l]at hO;obtain⟨a1,c1,S,d1,rfl,rfl⟩:=N.eG;obtain⟨a2,c2,Q,d2,rfl,rfl⟩:=M.eG;have C:=jf J G;have u:=o9 (jL Z hG);have l1:=u.i;have V:=u.f;rw[<-NS.tH]at V;have n:nG (dz I F) (dz (gP (dz J G)).i (gP (dz J G)).rf)=dC (dz I F) (dz J G):=by rw[mX (ky C)];rfl
 clear C u;have O:=zh hO;have H1:=zh (zi n (zi N M));clear hO N M l h n;refine aj fun R hR=>?_;generalize dC (dz I F) (dz J G)=x at*
 go_enter func158,ntmps158
 go_upto_region 1 with(fail)
 refine aR [4] (fun P w'=>∃(mk':Mem) (s r:Option Addr) (q p:Nat),P=[.pointer (some ⟨w.heap.size+1+1,0,none⟩)] /\
  Own w m w' mk' [.obj (w.heap.size+1+1) 24 #[.slice s x.i.length q,.slice r x.rf.length p]] /\
  bZ mk' (.slice s x.i.length q) (.slice r x.rf.length p) x.i x.rf) ?_ ?_
 .intro X Y;refine bz 4 5 (fun j=>[aD.is (·=.agg #[.slice a1 I.length c1,.slice S F.length d1]),aD.is (·=.agg #[.slice a2 J.length c2,.slice Q G.length d2]),aD.mem m [2] (dY (gP (dz J G)).i (gP (dz J G)).rf),aD.mem m [3,2] (dY x.i x.rf)].getD j aD.any) zk zk ?_ ?_
  .intro i hi o b a y ho RA;have HO2:=O.o.dr.aP RA.az;have p1:=HO2.au.obj.c 0;have p2:=HO2.au.obj.c 1;have p3:=HO2.bA.obj.c 0;have p4:=HO2.bA.obj.c 1;rcases(show i=0\/i=1\/i=2\/i=3 by omega)with rfl|rfl|rfl|rfl
   .have e2:=RA.k 2;exact qaa
   .have e3:=RA.k 3;exact qaa
   .have e6:zt a 6 _:=RA.d 1 rfl;cases ho;refine we rfl rfl (UE _ _ J G m y HO2.ay H1.o.2.2 zo zo) ?_;rintro e w' ⟨ri,rf,rfl,hb,hn⟩;exact qav
   .have e5:zt a 5 _:=RA.d 0 rfl;have e7:(aD.mem m [2] (dY (gP (dz J G)).i (gP (dz J G)).rf)).holds (a.tmps.getD 7 undef) b y:=RA.d 2 rfl;cases ho;obtain⟨r1,s1,r2,s2,k1,U⟩:dY _ _ _ _:=e7;refine we rfl rfl (UG _ _ _ _ I F _ _ _ y (Mem_wins_inn HO2.ay b [2]) (H1.o.2.1.le (Mem_le_wins HO2.ay b [2])) U zo zo zo zo) ?_;exact qbd
  .intro b a y E;have e4:=E.keep 4 zk;have e8:(aD.mem m [3,2] (dY x.i x.rf)).holds (a.tmps.getD 8 undef) b y:=E.fact 3 _ zo rfl;obtain⟨s,q,r,p,f1,B⟩:dY _ _ _ _:=e8;have g:=O.o.bL.bL.dr.region E.az b [3,2] (fun d hd=>(E.ik d qeg).1);have T:=zh E;generalize m.gU y b [3,2]=K at*
   have HK:=zh B;clear E B;have S:=g.obj.frozen 0;have l':=g.obj.frozen 1;have Q:=g.obj.c 0;have k':=g.obj.c 1;have b3:=g.obj.lt;have L:=(g.set 0 (.slice s x.i.length q)).set 1 (.slice r x.rf.length p);refine eF 4 zk (aJ rfl rfl (cO zg ?_));obtain⟨t,d⟩:=a;obtain rfl:d=[]:=T.o.defers;refine bY zk (Y.o _ _ T.o.size ⟨K,s,r,q,p,?_,L,HK.o⟩) _;simp only[yL,xB,e4]
   rfl
 rintro z2 P w2-⟨mk',s,r,q,p,rfl,hO,hr⟩;simp[aX,lk];have g5:=hO.obj.c 0;have g6:=hO.obj.c 1;have Hk:=zh qfn;clear hO hr O;go_wp2;refine yV (v:=.agg #[.slice s x.i.length q,.slice r x.rf.length p]) (by simp[results,results158,go_sem,g5,g6]) rfl ?_;exact qax
theorem Gs{x:NS}(h:gM x):Gb (dm x):=fun u a=>by
 have:=h.mJ ((iT h).one u a).1;unfold iW iD at this;omega
theorem Jd(A B D E:zV)(I F J G:List bT)(m:Mem)(w:zW)(hm:m.ay w)(h1:bZ m A B I F)(Z:bZ m D E J G)(hI:I.length<=250)(hF:F.length<=250)(hJ:J.length<=250)(hG:G.length<=250):
 zX 107 #[.agg #[A,B],.agg #[D,E]] w (.int .i64 (lC (dz I F) (dz J G))):=by
 have Y:=((Own.start hm).al #[A,B] 24).al #[D,E] 24;have j:(w.alloc (.cells #[A,B] 24)).heap.size=w.heap.size+1:=by simp
 rw[j]at Y;have HA:=zh (D5 A B I F D E J G m _ Y.ay h1 Z zo zo zo zo);have HB:=zh (fun(mk:Mem) w' (h:mk.ay w') (hl:m.le mk)=>D5 D E J G A B I F mk w' h (Z.le hl) (h1.le hl) zo zo zo zo);obtain⟨a1,c1,b1,d1,rfl,rfl⟩:=h1.eG;obtain⟨a2,c2,b2,d2,rfl,rfl⟩:=Z.eG;have d:=jf I F;have b:=jf J G;have q:=xk (jL hI hF) (jL hJ hG);have p:=xk (jL hJ hG) (jL hI hF);have l1:=q.i;have l2:=q.f;have l3:=p.i;have l4:=p.f;rw[<-NS.tH]at l2 l4;have K:=mX (gI d b);have H:=mX (gI b d);have M:=Gs (gI d b);have L:=Gs (gI b d);have k:lC (dz I F) (dz J G)=Dr (dm (dC (dz I F) (dz J G))) (dm (dC (dz J G) (dz I F))):=rfl;have HO:=zh Y;have HX:=zh (zi K (zi H (zi M (zi L k))));clear Y h1 Z j K H M L k q p d b;refine aj fun R g=>?_;generalize dC (dz I F) (dz J G)=x at*
 generalize dC (dz J G) (dz I F)=y at*
 go_enter func107,ntmps107
 go_wp2_with fail
 refine HA.o.mono ?_;rintro e w1 ⟨ri,rf,rfl,S,n⟩;have z:=HO.o.call S;have W:=zh (wm _ _ x.i x.rf _ w1 z.ay n zo zo);obtain⟨xa,xc,ya,yc,rfl,rfl⟩:=n.eG;have V:=zh z;clear HA HO z S n
 go_wp2_with fail
 refine W.o.mono ?_;rintro e w2 ⟨rfl,Q⟩;rw[HX.o.1];have a:=V.o.aP Q;have HM:=zh (HB.o _ w2 a.ay a.ext.1);have d1:=a.obj.c 0;have d2:=a.obj.c 1;have d3:=a.obj.lt;have d4:=a.au.obj.c 0;have d5:=a.au.obj.c 1;have d6:=a.au.obj.lt;have U:=zh a;clear a Q V HB W
 go_wp2_with fail
 refine HM.o.mono ?_;rintro e w3 ⟨ri,rf,rfl,P,l⟩;have t:=U.o.call P;have W:=zh (wm _ _ y.i y.rf _ w3 t.ay l zo zo);obtain⟨xa,xc,ya,yc,rfl,rfl⟩:=l.eG;have T:=zh t;clear HM U t P l d1 d2 d3 d4 d5 d6
 go_wp2_with fail
 refine W.o.mono ?_;rintro e w4 ⟨rfl,O⟩;rw[HX.o.2.1];have X:=zh (T.o.aP O).az;have HI:=zh HX.o.2.2;clear W T O HX;rw[HI.o.2.2]at g;have hp:=HI.o.1;have hq:=HI.o.2.1;clear HI;generalize dm x=r at*
 generalize dm y=s at*
 cases r with
 |none=>
  cases s with
  |none=>
   go_wp2
   exact g.o _ _ ⟨rfl,X.o⟩
  |some v=>
   go_wp2
   exact g.o _ _ ⟨rfl,X.o⟩
 |some u=>
  cases s with
  |none=>
   go_wp2
   exact g.o _ _ ⟨rfl,X.o⟩
  |some v=>
   have hu:=hp u rfl;have hv:=hq v rfl;have HN:=zh (BL u v w4 hu.1 hu.2 hv.1 hv.2);clear hu hv hp hq
   go_wp2_with fail
   refine HN.o.mono ?_;rintro e w5 ⟨rfl,N⟩;have HF:=zh (dD X.o N);have hc:Dr (some u) (some v)=if iB u v then -1 else 1:=rfl;rw[hc]at g;clear HN N X hc;by_cases C:iB u v
   .rw[zN C];rw[zK C]at g;clear C;go_wp2;exact g.o _ _ ⟨rfl,HF.o⟩
   .rw[zM C];rw[zJ C]at g;clear C;go_wp2;exact g.o _ _ ⟨rfl,HF.o⟩
end Cl
