/- Lemmas. -/
import Derived.Test.YtbbnjopkjbhpbaaGreatDoorPkT25
set_option maxRecDepth 99999
set_option maxHeartbeats 9999999
namespace Cl
open Go Go.RowKit Go.Proofs Tryz
theorem Jn{n:Nat}{x:Lc}{y:Lc×Bool}(k:∀d∈aX x,Kq n d)(h:lC (bR n) (df n) x=some y):∀d∈aX y.1,vW n d:=by
 unfold lC at h;obtain⟨l,f,h⟩:=Option.bind_eq_some_iff.1 h;obtain⟨r,e,rfl⟩:=Option.map_eq_some_iff.1 h;intro d a;rcases yP.1 a with a|a
 .obtain⟨z,b,c⟩:=fZ f a;exact Kq.OA (k z (yP.2 (.inl b))) c
 .obtain⟨z,b,c⟩:=fZ e (xR.1 a).1;exact Kq.OA (k z (yP.2 (.inr b))) c
theorem UE{n:Nat}{x:St}{y:St×Bool}(j:bC x)(e:zm x)(k:∀d∈bJ x,Kq n d)(h:kE (bR n) (df n) x=some y):(∀d∈bJ y.1,vW n d)/\∀k∈y.1.2,k.1.length<=729:=by
 unfold kE at h;obtain⟨fs,q,h⟩:=Option.bind_eq_some_iff.1 h;obtain⟨r,m,rfl⟩:=Option.map_eq_some_iff.1 h;have P:=KX (n:=n) (i:=x.2.length) j e (by rw[yG];exact m);refine⟨fun d a=>?_,fun k hk=>P.len k (dF.1 hk)⟩;rcases yP.1 a with a|a
 .obtain⟨f,g,rfl⟩:=yD.1 a;obtain⟨z,c,b⟩:=fZ q g;unfold sj at b;obtain⟨d,l,rfl⟩:=Option.map_eq_some_iff.1 b;exact Kq.OA (k _ (yP.2 (.inl (yD.2 ⟨z,c,rfl⟩)))) l
 .obtain⟨f,g,rfl⟩:=yD.1 a;obtain⟨s,p,o⟩:=P.RG.wV.vals f (dF.1 g);obtain⟨z,c,b⟩:=fZ m p;unfold nQ at b;obtain⟨d,l,rfl⟩:=Option.map_eq_some_iff.1 b;rw[<-o];exact Kq.OA (k _ (yP.2 (.inr (yD.2 ⟨z,c,rfl⟩)))) l
theorem Iq(c:Lc):(lI c).kids=aX c:=by simp[lI,Vl.kids,Vl.aJ,Vl.ay]
theorem Pm(c:St):(uP c).kids=bJ c:=by simp[uP,Vl.kids,Vl.aJ,Vl.ay]
theorem VT(n:Nat)(c:Lc):di (n+1) (lI c)=1+dK (cv n) (aX c):=by
 rw[mo];simp[lI,Vl.aJ,Vl.ay,dK]
theorem VR(n:Nat)(c:St):di (n+1) (uP c)=1+dK (cv n) (bJ c):=by
 rw[mo];simp[uP,Vl.aJ,Vl.ay,dK]
theorem azR{n:Nat}{v:Vl}{x:Lc}(a:x∈v.aJ):1+dK (cv n) (aX x)<=di (n+1) v:=by
 rw[mo];have:=M7 (f:=fun c=>dK (cv n) (aX c)) a;unfold dK at this⊢;omega
theorem ezG{n:Nat}{v:Vl}{x:St}(a:x∈v.ay):1+dK (cv n) (bJ x)<=di (n+1) v:=by
 rw[mo];have:=M7 (f:=fun c=>dK (cv n) (bJ c)) a;unfold dK at this⊢;omega
theorem Z7{n:Nat}:∀{l:List Vd},(∀d∈l,Kq n d)->l.length<=dK (cv n) l
 |[],_=>zI _
 |d::l,h=>by
  have c:=Z7 fun x a=>h x (zU _ a);have b:=Gn (h d zS).1.snd.ht;rw[cK,yO];unfold cv at*
  omega
theorem We.sW{n:Nat}{v:Vl}(h:We (n+1) v){x:Lc}(a:x∈v.aJ):(∀d∈aX x,Kq n d)/\(aX x).length<=1048576:=by
 have b:∀d∈aX x,Kq n d:=fun d c=>h.kids d (dM a c);have f:=Z7 b;have e:=azR (n:=n) a;have:=h.cnt;exact⟨b,zo⟩
theorem We.sts{n:Nat}{v:Vl}(h:We (n+1) v){x:St}(a:x∈v.ay):(∀d∈bJ x,Kq n d)/\bC x/\zm x:=⟨fun d b=>h.kids d (dP a b),(h.snd.1.st x a).2,h.src.1.st x a⟩
theorem czj{n:Nat}{v:Vl}(h:We (n+1) v){x:Lc}(g:x∈v.aJ){y:Lc×Bool}(e:lC (bR n) (df n) x=some y):kC (n+1) (lI y.1):=by
 have k:=h.sW g;have f:=Jn k.1 e;have i:∀d∈aX x,ib n d.1/\ib n d.2:=fun d a=>⟨(k.1 d a).1.snd,(k.1 d a).2.snd⟩;have j:=Jo (Au n) (h.snd.1.rest x g) i e;have o:=(Mm (uy n) i e).1;have m:=azR (n:=n) g;have l:=h.cnt;refine⟨⟨⟨fun h=>by simp[lI,Vl.any]at h,fun c b=>?_,fun c b=>by simp[lI,Vl.ay]at b,gD⟩,fun d a=>?_⟩,⟨⟨zG _,zG _,zG _,by simp[lI,Vl.aJ],zG _,fun c b=>by simp[lI,Vl.ay]at b⟩,fun d a=>?_⟩,by rw[VT];omega⟩
 .simp only[lI,Vl.aJ,zZ]at b;rw[b];exact j.1
 .rw[Iq]at a;exact⟨(f d a).1.snd,(f d a).2.snd⟩
 .rw[Iq]at a;exact⟨(f d a).1.fit,(f d a).2.fit⟩
theorem Vk{n:Nat}{v:Vl}(h:We (n+1) v){x:St}(i:x∈v.ay){y:St×Bool}(e:kE (bR n) (df n) x=some y):kC (n+1) (uP y.1)/\YA n y.1:=by
 have k:=h.sts i;have f:=UE k.2.1 k.2.2 k.1 e;have g:∀d∈bJ x,ib n d.1/\ib n d.2:=fun d a=>⟨(k.1 d a).1.snd,(k.1 d a).2.snd⟩;have j:=Jm (Au n) (h.snd.1.st x i).1 k.2.1 g e;have l:=Mk (uy n) k.2.1 g k.2.2 e;have p:=(EC (uy n) g e).1;have o:=ezG (n:=n) i;have m:=h.cnt;refine⟨⟨⟨⟨fun h=>by simp[uP,Vl.any]at h,fun c b=>by simp[uP,Vl.aJ]at b,fun c b=>?_,gD⟩,fun d a=>?_⟩,⟨⟨zG _,zG _,zG _,zG _,by simp[uP,Vl.ay],fun c b=>?_⟩,fun d a=>?_⟩,by rw[VR];omega⟩,j.co,f.2,f.1⟩
 .simp only[uP,Vl.ay,zZ]at b;rw[b];exact⟨j.fo,j.co⟩
 .rw[Pm]at a;exact⟨(f.1 d a).1.snd,(f.1 d a).2.snd⟩
 .simp only[uP,Vl.ay,zZ]at b;rw[b];exact l
 .rw[Pm]at a;exact⟨(f.1 d a).1.fit,(f.1 d a).2.fit⟩
theorem Dw.le{n:Nat}{m M:Mem}(hle:m.le M){cs:List Value}{c:Lc}(h:Dw n m cs c):Dw n M cs c:=by
 exact qbL
theorem EH.le{n:Nat}{m M:Mem}(hle:m.le M){cs:List Value}{c:St}(h:EH n m cs c):EH n M cs c:=by
 exact qbL
theorem IC{α:Type}(l:List (α×Bool))(y:α×Bool):bI (l++[y])=bI l++if y.2 then[y.1]else[]:=by
 unfold bI;cases h:y.2<;>simp[List.filter_append,h]
theorem LB{α:Type}(l:List (α×Bool)):(bI l).length<=l.length:=by
 unfold bI;rw[xC];exact vB _ _
theorem Js(a0 e d c b a:zV)(w:zW):(Instr.build 33 #[(1,.agg #[a0,e,d,c,b,a])]).run prog w=.ok (.agg #[.bool false,a0,e,d,c,b,a,.slice none 0 0,.slice none 0 0]) w:=by kernel_rfl
theorem Rk(w:zW):(Instr.build 33 #[(0,.bool true)]).run prog w=.ok (.agg #[.bool true,.bool false,.bool false,.bool false,.slice none 0 0,.slice none 0 0,.slice none 0 0,.slice none 0 0,.slice none 0 0]) w:=by kernel_rfl
theorem Ri(w:zW):(Instr.build 33 #[]).run prog w=.ok (.agg FV) w:=by kernel_rfl
theorem ezl{M:Mem}{n:Nat}{a:Bool}:aY M (n+1) dI (.mk a fe [] []):=⟨⟨fq _ _,fq _ _,fq _ _⟩,fq _ _,fq _ _⟩
theorem dzS{w0 w w':zW}{m mk:Mem}{L:List bA}(h:Own w0 m w mk L)(b:zB w w'){P:Mem->Prop}(a:P (mk.grow w w')):∃M,Own w0 m w' M L/\mk.le M/\P M:=⟨_,h.call b,bzx h.az,a⟩
theorem Ov{n:Nat}(hn:n+1<=16)(H:CnH n):CnH (n+1):=by
 intro v s m w hm L hv kv;obtain⟨hsc,hls,hss⟩:=id hv;obtain⟨la,lc,els,p1,q1,k1⟩:=id hls;obtain⟨sa,sc,ess,p2,q2,k2⟩:=id hss;obtain⟨aa,ab,ac,ad,ae,af,ei,ef,et⟩:=hsc.dm;unfold maxLen at q1 q2;have hl8:=kv.src.1.l;have hs8:=kv.src.1.s;have h9:(aZ v s).length=9:=rfl;have o9:=CL hv;have A:=((Own.start hm).al (aZ v s).toArray 33).al FV 33;simp only[bB]at A;have HK:=zh (zi k1 k2);have HH:=zh (zi L kv);have HVV:=zh hv;have HCL:=zh (fun(M:Mem) (c:Lc) u u2 w' (h:M.az w') (C:m.le M) (h1:bD (aY M n) M u c.1) (h2:bD (aY M n) M u2 c.2) (hc:c∈v.aJ)=>EB H c u u2 M w' h (L.le C) h1 h2 (kv.sW hc).1 (kv.sW hc).2);have HCS:=zh (fun(M:Mem) (c:St) u u2 w' (h:M.az w') (C:m.le M) (h1:gG (aY M n) M u c.1) (h2:gM (aY M n) M u2 c.2) (hc:c∈v.ay)=>BS H c u u2 M w' h (L.le C) h1 h2 (kv.sts hc).1 (kv.sts hc).2.1 (kv.sts hc).2.2);have Z':=zh (Ni s.i s.f s.t v.s m _ A.az L hsc ⟨kv.src.1.i,kv.src.1.fr,kv.src.1.t⟩ kv.snd.1.sc);obtain⟨cl,hcl⟩:∃cl,cl=lC (bR n) (df n):=⟨_,rfl⟩;obtain⟨cs,hcs⟩:∃cs,cs=kE (bR n) (df n):=⟨_,rfl⟩;have HLF:=zh hcl;have HSF:=zh hcs;have K:=zh A;have n0:(aZ v s).toArray[0]?=some (.bool v.any):=rfl;have n7:(aZ v s).toArray[7]?=some s.l:=rfl;have n8:(aZ v s).toArray[8]?=some s.s:=rfl;have nsc:∀j u,([.bool v.s.dL,.bool v.s.dS,.bool v.s.dW,s.i,s.f,s.t]:List Value)[j]?=some u->(aZ v s).toArray[1+j]?=some u:=fun j u hj=>by rw[Nat.add_comm];match j,hj with|0,hj=>exact hj|1,hj=>exact hj|2,hj=>exact hj|3,hj=>exact hj|4,hj=>exact hj|5,hj=>exact hj
 have Y':=zh (show bR (n+1) v=if v.any=true then some v else(eZ cl v.aJ).bind fun ls=>(eZ cs v.ay).map fun r=>if tf (J8 (jC n v (bI ls) (bI r)))=true then eX else jC n v (bI ls) (bI r) from by rw[bR,hcl,hcs]);unfold Vl.val;unfold RS.val at Z';have q0:=A.av.obj.all;have qs:=A.av.obj.sub (o:=1) nsc;have y0:=A.av.obj.cell n0;have yl:=A.av.obj.lt;rw[els]at n7;rw[ess]at n8;rw[ei,ef,et]at Z' qs;clear A k1 k2 L kv H hcl hcs hv els ess ei ef et hsc hls hss nsc;generalize hN:aZ v s=N at*
 have HN:=zh hN.symm;clear hN;refine au fun R hR=>?_
 go_enter func55,ntmps55
 cases hany:v.any with
 |true=>
  have I:=zh (show bR (n+1) v=some v by rw[Y'.o,zK hany]);rw[hany]at y0 n0;clear Y' hany
  go_wp2_with (first
   |refine aj jI rfl (.tmp 1) rfl rfl N h9 q0 ?_
   | (refine aA jI rfl (.tmp 2) (.tmp 19) rfl (cs:=N.toArray) rfl rfl rfl (by simpa using h9) (fun u hu=>o9 u qdL) K.o.obj ?_;intro w2 ob2 hg2;have F':=zh (K.o.aQ ob2 hg2);have hr:=jI.load (P:=prog) (cs:=N) h9 ob2.all;clear ob2 hg2))
  refine yV (v:=.tuple #[.agg N.toArray,.bool true]) qfO rfl ?_;refine hR.o _ _ ⟨F'.o.aF,?_⟩;unfold CnR;rw[I.o]
  exact⟨s,by rw[HN.o];rfl,HVV.o.le F'.o.done⟩
 |false=>
 have I:=zh (show bR (n+1) v=(eZ cl v.aJ).bind fun ls=>(eZ cs v.ay).map fun r=>if tf (J8 (jC n v (bI ls) (bI r)))=true then eX else jC n v (bI ls) (bI r)by rw[Y'.o,zJ (by rw[hany];simp)]);rw[hany]at y0 n0;clear Y' hany;have hbl:=fun a0 a1 a2 a3 a4 a5 w=>Js a0 a1 a2 a3 a4 a5 w
 go_wp2_with (first
  |refine aj rO rfl (.tmp 20) rfl rfl [.bool v.s.dL,.bool v.s.dS,.bool v.s.dW,.slice aa v.s.i.length ab,.slice ac v.s.f.length ad,.slice ae v.s.t.length af] rfl qs ?_
  | fail)
 refine Z'.o.mono ?_;rintro e w1 ⟨ui,uf,ut,rfl,hb1,z'⟩;obtain⟨za,zb,zc,zd,ze,zf,rfl,rfl,rfl⟩:=z'.dm;obtain⟨MK0,hO1,Q,z'⟩:=dzS (P:=fun M=>gJ M _ _ _ v.s) K.o hb1 z';have Q:=zh Q;have HAT:=zh z';have b':=zh ((hO1.al #[.bool false,.bool v.s.dL,.bool v.s.dS,.bool v.s.dW,.slice za v.s.i.length zb,.slice zc v.s.f.length zd,.slice ze v.s.t.length zf,.slice none 0 0,.slice none 0 0] 33).fE 50 2);have y7:=b'.o.bV.obj.cell n7;have yl:=b'.o.bV.obj.lt;clear K Z' hb1 z' hO1 y0 q0 qs n0 n7 h9 o9;go_wp2;refine aB [1,2,4,5,25,26,27] (fun q vs wr=>∃(i:Nat) (T:Mem) (rv:zV) (xs:List Value) (ls:List (Lc×Bool)),i<=v.aJ.length/\q=v.aJ.length-i/\vs=[.p w.heap.size,.p (w.heap.size+1),.p w1.heap.size,rv,.slice la v.aJ.length lc,.j (v.aJ.length:Int),.j (i:Int)]/\eZ cl (v.aJ.take i)=some ls/\jd 2 (Dw n T) xs (bI ls)/\MK0.le T/\Own w m wr T [.row rv 50 2 (bI ls).length xs,.obj w1.heap.size 33 #[.bool false,.bool v.s.dL,.bool v.s.dS,.bool v.s.dW,.slice za v.s.i.length zb,.slice zc v.s.f.length zd,.slice ze v.s.t.length zf,.slice none 0 0,.slice none 0 0],.obj (w.heap.size+1) 33 FV,.obj w.heap.size 33 N.toArray]) ?_ ?_
 .exact⟨_,0,MK0,_,[],[],zG _,rfl,rfl,rfl,.nil,Mem.le_refl _,b'.o⟩
 clear b' y7 yl;rintro X z q vs wr hX-⟨i,T,rv,xs,ls,hi,rfl,rfl,he,hx,C,A⟩;simp[bz,lk];have v':=gP he;rw[List.length_take,Nat.min_eq_left hi]at v';have hkl:=LB ls;have G:(bI ls).length<=8:=zo;have F:=zh (zi he (zi hx (zi C trivial)));clear he hx C v' hkl;by_cases hlt:i<v.aJ.length
 case neg=>
  obtain rfl:i=v.aJ.length:=zo;have X':=zh (show eZ cl v.aJ=some ls from by have:=F.o.1;rwa [yG]at this);obtain⟨la2,lb2,rfl⟩:=bv A.row;have y7:=A.bV.obj.cell n8;have yl:=A.bV.obj.lt;have b':=zh ((A.fE 62 2).sub (.cons_cons _ (.cons_cons _ (.cons_cons _ (.cons_cons _ (List.nil_sublist _))))));have H':=zh (zi F.o.2.1 F.o.2.2.1);have HL8:=zh G;clear A hX F hlt hi G;go_wp2;refine aB [2,4,5,11,47,48,49] (fun q vs wr=>∃(i:Nat) (MK:Mem) (M':zV) (ys:List Value) (r:List (St×Bool)),i<=v.ay.length/\q=v.ay.length-i/\vs=[.p (w.heap.size+1),.p w1.heap.size,.slice la2 (bI ls).length lb2,M',.slice sa v.ay.length sc,.j (v.ay.length:Int),.j (i:Int)]/\eZ cs (v.ay.take i)=some r/\jd 2 (EH n MK) ys (bI r)/\jd 2 (Dw n MK) xs (bI ls)/\T.le MK/\Own w m wr MK [.row M' 62 2 (bI r).length ys,.row (.slice la2 (bI ls).length lb2) 50 2 (bI ls).length xs,.obj w1.heap.size 33 #[.bool false,.bool v.s.dL,.bool v.s.dS,.bool v.s.dW,.slice za v.s.i.length zb,.slice zc v.s.f.length zd,.slice ze v.s.t.length zf,.slice none 0 0,.slice none 0 0],.obj (w.heap.size+1) 33 FV]) ?_ ?_
  .exact⟨_,0,T,_,[],[],zG _,rfl,rfl,rfl,.nil,H'.o.1,Mem.le_refl _,b'.o⟩
  clear b' y7 yl;rintro X z q vs wr hX-⟨i,MK,M',ys,r,hi,rfl,rfl,he,hx,hx0,C,A⟩;simp[bz,lk];have v':=gP he;rw[List.length_take,Nat.min_eq_left hi]at v';have hkl:=LB r;have G:(bI r).length<=8:=zo;have F:=zh (zi he (zi hx (zi C hx0)));clear he hx C v' hkl hx0;by_cases hlt:i<v.ay.length
  case neg=>
   obtain rfl:i=v.ay.length:=zo;have HSS:=zh (show eZ cs v.ay=some r from by have:=F.o.1;rwa [yG]at this);have g':=zh (show bR (n+1) v=some (if tf (J8 (jC n v (bI ls) (bI r)))=true then eX else jC n v (bI ls) (bI r)) from by rw[I.o,X'.o,HSS.o];rfl);obtain⟨sa2,sb2,rfl⟩:=bv A.row;have HBL:=zh (show ∀c∈bI ls,kC (n+1) (lI c) from fun c hc=>by
    obtain⟨x,hx,e⟩:=fZ X'.o (lU hc);exact czj HH.o.2 hx (y:=(c,true)) (by rw[<-HLF.o];exact e))
   have HBS:=zh (show ∀c∈bI r,kC (n+1) (uP c) from fun c hc=>by
    obtain⟨x,hx,e⟩:=fZ HSS.o (lU hc);exact(Vk HH.o.2 hx (y:=(c,true)) (by rw[<-HSF.o];exact e)).1)
   have A':=czS (w:=wr) A.free;have k':=czS (w:=wr) A.bP.free;have KS:=Gx A.row F.o.2.1 (Mem.le_trans A' k') k';have KL:=Ip A.av.row F.o.2.2.2 (Mem.le_trans A' k') (Mem.le_refl _);have hAT:=HAT.o.le (Mem.le_trans (Mem.le_trans H'.o.2 F.o.2.2.1) (Mem.le_trans A' k'));have f':=Mem.le_trans (Mem.le_trans Q.o (Mem.le_trans H'.o.2 F.o.2.2.1)) (Mem.le_trans A' k');have hO2:=A.bP.bP;generalize (MK.iA wr _).iA wr _=M2 at*
   have HX1:=zh (ZX hn _ _ M2 wr hO2.az (HH.o.1.le f') KL HBL.o HL8.o);have HX2:=zh (fun(M:Mem) w' (h:M.az w') (C:M2.le M)=>ZY hn _ (bI r) M w' h (HH.o.1.le (Mem.le_trans f' C)) (KS.le C fun _ _ h=>h.le C) HBS.o G);have F':=zh hO2;have HA2:=zh (zi hAT f');clear A hO2 A' k' KS KL hAT f' hX F HBL HBS HSS H' X' G hlt hi HAT;generalize hLk:bI ls=Lk at*
   generalize hSk:bI r=Sk at*
   clear hLk hSk
   go_wp2_with fail
   refine HX1.o.mono ?_;rintro e w5 ⟨r1,rfl,hb5,h1⟩;obtain⟨M3,E,D,h1⟩:=dzS (P:=fun M=>vT (aY M n) M r1 _) F'.o hb5 h1;obtain⟨ra,rb,rfl,-⟩:=id h1;have a:=zh E;have J':=zh (zi D h1);clear F' HX1 hb5 h1 E D
   go_wp2_with fail
   refine(HX2.o M3 _ a.o.az J'.o.1).mono ?_;rintro e w6 ⟨r2,rfl,hb6,h2⟩;obtain⟨M4,g,O,h2⟩:=dzS (P:=fun M=>vQ (aY M n) M r2 _) a.o hb6 h2;obtain⟨rc,rd,rfl,-⟩:=id h2;have hV:aY M4 (n+1) ⟨.slice za v.s.i.length zb,.slice zc v.s.f.length zd,.slice ze v.s.t.length zf,.slice ra _ rb,.slice rc _ rd⟩ (jC n v Lk Sk):=⟨(HA2.o.1.le J'.o.1).le O,J'.o.2.le O fun _ _ h=>h.le O,h2⟩;have hM4:=Mem.le_trans HA2.o.2 (Mem.le_trans J'.o.1 O);have HEV:=zh (fun w' (h:M4.az w')=>I5 (jC n v Lk Sk) _ M4 w' h (HH.o.1.le hM4) hV ⟨HH.o.2.src.1.i,HH.o.2.src.1.fr,HH.o.2.src.1.t⟩ HH.o.2.snd.1.sc);have HVO:=zh hV;have hO5:=(g.set 7 (.slice ra (eU (Lm (gI n)) (mh (uF (df n)) Lk)).length rb)).set 8 (.slice rc (eU (KJ (gI n)) (mh (uE (df n)) Sk)).length rd);have y7:=g.obj.c 7;have y8:=g.obj.c 8;have yl:=g.obj.lt;have f7:=g.obj.frozen 7;have f8:=g.obj.frozen 8;obtain⟨NN,j'⟩:∃NN:List Value,NN=[.bool false,.bool v.s.dL,.bool v.s.dS,.bool v.s.dW,.slice za v.s.i.length zb,.slice zc v.s.f.length zd,.slice ze v.s.t.length zf,.slice ra (eU (Lm (gI n)) (mh (uF (df n)) Lk)).length rb,.slice rc (eU (KJ (gI n)) (mh (uE (df n)) Sk)).length rd]:=⟨_,rfl⟩;have HEV2:=zh (show ∀w',M4.az w'->zC 86 #[.agg NN.toArray] w' fun e w''=>e=.returned (.bool (tf (J8 (jC n v Lk Sk))))/\Below w'.heap.size w' w'' from fun w' h=>by rw[j'];exact HEV.o w' h);have HVO2:=zh (show lG (n+1) (jC n v Lk Sk) M4 (.agg NN.toArray) from⟨_,by rw[j'];rfl,HVO.o⟩);have oNN:∀u∈NN.toArray.toList,u.oneCell'=true:=by rw[j'];simp[Value.oneCell']
   have p':NN.length=9:=by rw[j'];rfl
   have W':=zh (show Own w m _ M4 [.obj w1.heap.size 33 NN.toArray,.obj (w.heap.size+1) 33 FV] from by rw[j'];exact hO5);have q1:=W'.o.obj.all;clear a HX2 hb6 h2 g hO5 O hV HEV HVO hM4 HA2 J' j';generalize (eU (Lm (gI n)) (mh (uF (df n)) Lk)).length=ql at*
   generalize (eU (KJ (gI n)) (mh (uE (df n)) Sk)).length=qs at*
   go_wp2_with (first
    |refine aj jI rfl (.tmp 4) rfl rfl NN p' q1 ?_
    | fail)
   refine(HEV2.o _ W'.o.az).mono ?_;rintro e w7 ⟨rfl,hb7⟩;have E':=zh (W'.o.aT hb7);have q2:=E'.o.obj.all;clear W' HEV2 hb7 q1 y7 y8 yl f7 f8;by_cases i':J8 (jC n v Lk Sk)
   .have I':=zh (show bR (n+1) v=some eX by rw[g'.o,zK (aN i')]);rw[aN i'];have hb0:=Rk;clear I g' i' q2
    go_wp2_with (first
     |(refine aA jI rfl (.tmp 4) (.tmp 76) rfl (cs:=(aZ eX dI).toArray) rfl rfl (by simpa using p') rfl zD E'.o.obj ?_;intro w8 ob8 S;have l':=zh (E'.o.aQ ob8 S);have q3:=ob8.all;clear ob8 S)
     |refine aj jI rfl (.tmp 4) rfl rfl (aZ eX dI) rfl q3 ?_
     | (refine aA jI rfl (.tmp 2) (.tmp 77) rfl (cs:=(aZ eX dI).toArray) rfl rfl rfl rfl zD l'.o.av.obj ?_;intro w9 U s';have V':=zh (l'.o.av.aQ U s');have hr:=jI.load (P:=prog) (cs:=aZ eX dI) rfl U.all;clear U s'))
    refine yV (v:=.tuple #[.agg (aZ eX dI).toArray,.bool true]) qfO rfl ?_;refine hR.o _ _ ⟨V'.o.aF,?_⟩;unfold CnR;rw[I'.o];exact⟨dI,rfl,ezl⟩
   .have I':=zh (show bR (n+1) v=some (jC n v Lk Sk)by rw[g'.o,zJ (by rw[aG i'];simp)]);rw[aG i'];clear I g' i'
    go_wp2_with (first
     |refine aj jI rfl (.tmp 4) rfl rfl NN p' q2 ?_
     | (refine aA jI rfl (.tmp 2) (.tmp 77) rfl (cs:=NN.toArray) rfl rfl rfl (by simpa using p') oNN E'.o.av.obj ?_;intro w9 U s';have V':=zh (E'.o.av.aQ U s');have hr:=jI.load (P:=prog) (cs:=NN) p' U.all;clear U s'))
    refine yV (v:=.tuple #[.agg NN.toArray,.bool true]) qfO rfl ?_;refine hR.o _ _ ⟨V'.o.aF,?_⟩;unfold CnR;rw[I'.o];obtain⟨sl,e1,e2⟩:=HVO2.o;exact⟨sl,by rw[e1],e2.le V'.o.done⟩
  obtain⟨b,off,rfl,h4⟩:=HK.o.2 qdJ;obtain⟨u,u2,Z,x',Y,W⟩:=h4 i hlt;obtain⟨d1,e1,rfl,-⟩:=id Y;obtain⟨d2,e2,rfl,-⟩:=id W;have B:=Mem.le_trans (Mem.le_trans Q.o H'.o.2) F.o.2.2.1;have p:=bzw B A.az;have x1:=azk p Z;have x2:=azk p x';have xl:=bzu p Z;have k:=zF hlt;have C':=zh (fun w' (h:MK.az w')=>HCS.o MK v.ay[i] _ _ w' h B (Y.le B fun _ _ h=>h.le B) (W.le B fun _ _ h=>h.le B) k);have HT:=zh (show ∀y,cs v.ay[i]=some y->eZ cs (v.ay.take (i+1))=some (r++[y]) from fun y hy=>by rw[qF hlt,F.o.1];show((cs v.ay[i]).map fun y=>r++[y])=_;rw[hy];rfl);have HB:=zh (show ∀y,cs v.ay[i]=some y->YA n y.1 from fun y hy=>(Vk HH.o.2 k (by rw[<-HSF.o];exact hy)).2);have c':=zh (show cs v.ay[i]=none->bR (n+1) v=none from fun h=>by rw[I.o,X'.o,lN k h];rfl);have K:=zh (A.al #[.slice d1 v.ay[i].1.length e1,.slice d2 v.ay[i].2.length e2] 62);have y0:=K.o.obj.c 0;have y1:=K.o.obj.c 1;have yl:=K.o.obj.lt;generalize v.ay[i]=c0 at*
  generalize c0.1.length=l1 at*
  generalize c0.2.length=l2 at*
  clear A h4 Z x' Y W p k
  go_wp2_with fail
  refine(C'.o _ K.o.az).mono ?_;rintro e w3 ⟨y',hr⟩;obtain⟨a',E,D,hr⟩:=dzS (P:=fun M=>YG n c0 M e) K.o y' hr;have m':=zh D;unfold YG at hr;rw[<-HSF.o]at hr;clear K C' y0 y1 yl x1 x2 xl D y'
  cases hcd:cs c0 with
  |none=>
   rw[hcd]at hr;obtain rfl:e=_:=hr;have HRN:=zh (c'.o hcd);have HO4:=zh (E.tail.al #[.slice none 0 0,.slice none 0 0] 62);clear c' HT F HB hcd E;have hbz:=Ri
   go_wp2_with (refine aA jI rfl (.tmp 2) (.tmp 61) rfl (cs:=FV) rfl rfl rfl rfl qdN HO4.o.fifth.obj ?_)
   intro w5 V t';have hr:=jI.load (P:=prog) (cs:=FV.toList) rfl V.all;have HBB:=zh (HO4.o.fifth.aQ V t').aF;clear HO4 V t';go_wp2;refine yV (v:=.tuple #[.agg FV,.bool false]) qfO rfl ?_
   exact hR.o _ _ ⟨HBB.o,by unfold CnR;rw[HRN.o]⟩
  |some y=>
   rw[hcd]at hr;obtain⟨u',u2',rfl,k1,k2⟩:=hr;have HRP:=zh (show EH n a' [u',u2'] y.1 from⟨_,_,rfl,k1,k2,HB.o y hcd⟩);obtain⟨f1,g1,rfl,-⟩:=k1;obtain⟨f2,g2,rfl,-⟩:=k2;have HM:=zh (zi (HT.o y hcd) (zi (F.o.2.1.mono fun _ _ h=>h.le m'.o) (zi (Mem.le_trans F.o.2.2.1 m'.o) (F.o.2.2.2.mono fun _ _ h=>h.le m'.o))));have J:=zh (IC r y);have a:=zh (E.tail.al #[.slice f1 y.1.1.length g1,.slice f2 y.1.2.length g2] 62);have y0:=a.o.obj.c 0;have y1:=a.o.obj.c 1;have yl:=a.o.obj.lt;generalize y.1.1.length=l3 at*
   generalize y.1.2.length=l4 at*
   clear c' HT F HB hcd E
   cases hy2:y.2 with
   |false=>
    have HQ:=zh (show bI (r++[y])=bI r by rw[J.o,hy2];simp);clear J hy2;go_wp2
    exact hX.o _ _ _ zo rfl ⟨i+1,a',_,_,r++[y],zo,rfl,rfl,HM.o.1,by rw[HQ.o];exact HM.o.2.1,HM.o.2.2.2,HM.o.2.2.1,by rw[HQ.o];exact a.o.tail⟩
   |true=>
    have HQ:=zh (show bI (r++[y])=bI r++[y.1]by rw[J.o,hy2];simp);have g:=a.o.al #[.slice f1 l3 g1,.slice f2 l4 g2] 62;simp only[bB]at g;have HO4:=zh g;have HKL:=zh G;clear J hy2 g;generalize B':bI r=KK at*
    have HKK:=zh B';clear B'
    go_wp2_with (at_builtin;refine aU Y5 rfl (.tmp 63) (.tmp 65) rfl M' KK.length ys rfl HO4.o.aR.row ⟨w3.heap.size+1,0,none⟩ 1 1 [.slice f1 l3 g1,.slice f2 l4 g2] rfl rfl qe3 qdN qdM zo ?_)
    intro va vc w8 r' S q';have l':=zh (HO4.o.aR.app r' S q' zS).bM.bM;have HCR:=zh (HM.o.2.1.push (x:=y.1) (cs:=[.slice f1 l3 g1,.slice f2 l4 g2]) rfl qdN HRP.o);clear a HO4 r' S q' y0 y1 yl;go_wp2;exact hX.o _ _ _ zo rfl ⟨i+1,a',_,_,r++[y],zo,rfl,rfl,HM.o.1,by rw[HQ.o];exact HCR.o,HM.o.2.2.2,HM.o.2.2.1,by rw[HQ.o];simpa using l'.o⟩
 obtain⟨b,off,rfl,h4⟩:=HK.o.1 qdJ;obtain⟨u,u2,Z,x',Y,W⟩:=h4 i hlt;obtain⟨d1,e1,rfl,-⟩:=id Y;obtain⟨d2,e2,rfl,-⟩:=id W;have B:=Mem.le_trans Q.o F.o.2.2.1;have p:=bzw B A.az;have x1:=azk p Z;have x2:=azk p x';have xl:=bzu p Z;have k:=zF hlt;have C':=zh (fun w' (h:T.az w')=>HCL.o T v.aJ[i] _ _ w' h B (Y.le B fun _ _ h=>h.le B) (W.le B fun _ _ h=>h.le B) k);have HT:=zh (show ∀y,cl v.aJ[i]=some y->eZ cl (v.aJ.take (i+1))=some (ls++[y]) from fun y hy=>by rw[qF hlt,F.o.1];show((cl v.aJ[i]).map fun y=>ls++[y])=_;rw[hy];rfl);have HB:=zh (show ∀y,cl v.aJ[i]=some y->∀d∈aX y.1,vW n d from fun y hy=>Jn (HH.o.2.sW k).1 (by rw[<-HLF.o];exact hy));have c':=zh (show cl v.aJ[i]=none->bR (n+1) v=none from fun h=>by rw[I.o,lN k h];rfl);have K:=zh (A.al #[.slice d1 v.aJ[i].1.length e1,.slice d2 v.aJ[i].2.length e2] 50);have y0:=K.o.obj.c 0;have y1:=K.o.obj.c 1;have yl:=K.o.obj.lt;generalize v.aJ[i]=c0 at*
 generalize c0.1.length=l1 at*
 generalize c0.2.length=l2 at*
 clear A h4 Z x' Y W p k
 go_wp2_with fail
 refine(C'.o _ K.o.az).mono ?_;rintro e w3 ⟨y',hr⟩;obtain⟨a',E,D,hr⟩:=dzS (P:=fun M=>YH n c0 M e) K.o y' hr;have m':=zh D;unfold YH at hr;rw[<-HLF.o]at hr;clear K C' y0 y1 yl x1 x2 xl D y'
 cases hcd:cl c0 with
 |none=>
  rw[hcd]at hr;obtain rfl:e=_:=hr;have HRN:=zh (c'.o hcd);have HO4:=zh (E.tail.al #[.slice none 0 0,.slice none 0 0] 50);clear c' HT F HB hcd E;have hbz:=Ri
  go_wp2_with (refine aA jI rfl (.tmp 2) (.tmp 39) rfl (cs:=FV) rfl rfl rfl rfl qdN HO4.o.bV.obj ?_)
  intro w5 V t';have hr:=jI.load (P:=prog) (cs:=FV.toList) rfl V.all;have HBB:=zh (HO4.o.bV.aQ V t').aF;clear HO4 V t';go_wp2;refine yV (v:=.tuple #[.agg FV,.bool false]) qfO rfl ?_
  exact hR.o _ _ ⟨HBB.o,by unfold CnR;rw[HRN.o]⟩
 |some y=>
  rw[hcd]at hr;obtain⟨u',u2',rfl,k1,k2⟩:=hr;have HRP:=zh (show Dw n a' [u',u2'] y.1 from⟨_,_,rfl,k1,k2,HB.o y hcd⟩);obtain⟨f1,g1,rfl,-⟩:=k1;obtain⟨f2,g2,rfl,-⟩:=k2;have HM:=zh (zi (HT.o y hcd) (zi (F.o.2.1.mono fun _ _ h=>h.le m'.o) (zi (Mem.le_trans F.o.2.2.1 m'.o) trivial)));have J:=zh (IC ls y);have a:=zh (E.tail.al #[.slice f1 y.1.1.length g1,.slice f2 y.1.2.length g2] 50);have y0:=a.o.obj.c 0;have y1:=a.o.obj.c 1;have yl:=a.o.obj.lt;generalize y.1.1.length=l3 at*
  generalize y.1.2.length=l4 at*
  clear c' HT F HB hcd E
  cases hy2:y.2 with
  |false=>
   have HQ:=zh (show bI (ls++[y])=bI ls by rw[J.o,hy2];simp);clear J hy2;go_wp2
   exact hX.o _ _ _ zo rfl ⟨i+1,a',_,_,ls++[y],zo,rfl,rfl,HM.o.1,by rw[HQ.o];exact HM.o.2.1,HM.o.2.2.1,by rw[HQ.o];exact a.o.tail⟩
  |true=>
   have HQ:=zh (show bI (ls++[y])=bI ls++[y.1]by rw[J.o,hy2];simp);have g:=a.o.al #[.slice f1 l3 g1,.slice f2 l4 g2] 50;simp only[bB]at g;have HO4:=zh g;have HKL:=zh G;clear J hy2 g;generalize B':bI ls=KK at*
   have HKK:=zh B';clear B'
   go_wp2_with (at_builtin;refine aU Y6 rfl (.tmp 41) (.tmp 43) rfl rv KK.length xs rfl HO4.o.aR.row ⟨w3.heap.size+1,0,none⟩ 1 1 [.slice f1 l3 g1,.slice f2 l4 g2] rfl rfl qe3 qdN qdM zo ?_)
   intro va vc w8 r' S q';have l':=zh (HO4.o.aR.app r' S q' zS).bM.bM;have HCR:=zh (HM.o.2.1.push (x:=y.1) (cs:=[.slice f1 l3 g1,.slice f2 l4 g2]) rfl qdN HRP.o);clear a HO4 r' S q' y0 y1 yl;go_wp2;exact hX.o _ _ _ zo rfl ⟨i+1,a',_,_,ls++[y],zo,rfl,rfl,HM.o.1,by rw[HQ.o];exact HCR.o,HM.o.2.2.1,by rw[HQ.o];simpa using l'.o⟩
theorem vJ:∀n,n<=16->CnH n
 |0,_=>fun _ _ _ _ _ _ a=>a.elim
 |n+1,h=>Ov h (vJ n zo)
structure Mv (N:Nat) (v:Vl):Prop where
 src:rJ N v
 cnt:di N v<=1048576
def Wd(N:Nat)(d:Vd):Prop:=Mv N d.1/\Mv N d.2
theorem rJ.low:∀{n N:Nat} {v:Vl},rJ N v->Ht n v->rJ n v
 |0,_,_,_,h=>h.elim
 |_+1,0,_,h,_=>h.elim
 |_+1,_+1,_,h,k=>⟨h.1,fun x a=>⟨(h.2 x a).1.low (k x a).1,(h.2 x a).2.low (k x a).2⟩⟩
theorem Mv.cnp{N:Nat}{v:Vl}(h:Mv N v)(k:iI v):We 16 v:=⟨k,h.src.low k.ht,by rw[bzA k.ht h.src.ht];exact h.cnt⟩
theorem Wd.cnd{N:Nat}{d:Vd}(h:Wd N d)(k:iI d.1/\iI d.2):Kq 16 d:=⟨h.1.cnp k.1,h.2.cnp k.2⟩
def MkR(d:Vd)(M:Mem)(e:Ending):Prop:=match kN d with
 |some u=>∃x y,e=.returned (.tuple #[bQ u x y,.int .i64 0])/\aY M 16 x u.1/\aY M 16 y u.2
 |none=>e=.returned (.tuple #[.agg lZ,.int .i64 11])
theorem MkR.cells{d:Vd}{M:Mem}{e:Ending}(h:MkR d M e):∃(cs:List Value) (k:Int),e=.returned (.tuple #[.agg cs.toArray,.int .i64 k])/\cs.length=18/\(∀u∈cs,u.oneCell'=true)/\(kN d=none->k=11)/\∀u,kN d=some u->k=0/\∃x y,cs=dw u x y/\aY M 16 x u.1/\aY M 16 y u.2:=by
 unfold MkR at h
 cases hc:kN d with
 |none=>
  rw[hc]at h
  exact⟨lZ.toList,11,h,rfl,by simp[Value.oneCell'],fun _=>rfl,fun u f=>by cases f⟩
 |some u=>
  rw[hc]at h;obtain⟨x,y,rfl,b,a⟩:=h;exact⟨dw u x y,0,rfl,rfl,fG b a,(fun h=>by cases h),fun v c=>by cases c;exact⟨rfl,x,y,rfl,b,a⟩⟩
theorem az9(w:zW):(Instr.build 35 #[]).run prog w=.ok (.agg lZ) w:=by kernel_rfl
theorem Qb{N:Nat}(d:Vd)(x y:Sl)(m:Mem)(w:zW)(hm:m.az w)(n:eD m)(Q:aY m N x d.1)(O:aY m N y d.2)(k:Wd N d):
 zC 18 #[bQ d x y] w fun e w'=>zB w w'/\MkR d (m.grow w w') e:=by
 have H:=((Own.start hm).al (dw d x y).toArray 35).al lZ 35;simp only[bB]at H;have S:=zh (uJ d x y m N _ H.az n Q O k.1.src.fit k.2.src.fit k.1.cnt k.2.cnt);have K:=zh (fun(s:iI d.1/\iI d.2) w' (h:m.az w')=>pW (vJ 16 (zI _)) d x y m w' h n (Q.low s.1.ht) (O.low s.2.ht) (k.cnd s));have W:(dw d x y).length=18:=rfl;have d':=az9;have X:=zh H;have V:=H.av.obj.all;unfold bQ at S K⊢;generalize dw d x y=D at*
 clear H Q O n k;refine au fun R M=>?_
 go_enter func18,ntmps18
 go_wp2_with (first
  |refine aj ek rfl (.tmp 1) rfl rfl D W V ?_
  | fail)
 refine S.o.mono ?_;rintro e w1 ⟨rfl,G⟩;have i:=zh (X.o.aT G);have L:=i.o.av.obj.all;clear X S G V;by_cases r:iI d.1/\iI d.2
 case neg=>
  have I:(tf (iI d.1)&&tf (iI d.2))=false:=by
   by_cases a:iI d.1
   .rw[aG (fun b=>r ⟨a,b⟩)];simp
   .rw[aG a];rfl
  have E:=zh (show kN d=none by unfold kN;rw[zJ (by rw[aG r];simp)]);rw[I];clear I K r
  go_wp2_with (refine aA ek rfl (.tmp 2) (.tmp 9) rfl (cs:=lZ) rfl rfl rfl rfl qdN i.o.obj ?_)
  intro U c f;have t:=ek.load (P:=prog) (cs:=lZ.toList) rfl c.all;have C:=zh (i.o.aQ c f).aF;clear i c f L;go_wp2;refine yV (v:=.tuple #[.agg lZ,.int .i64 11]) (dz results18 rfl t) rfl ?_;exact M.o _ _ ⟨C.o,by unfold MkR;rw[E.o]⟩
 have I:(tf (iI d.1)&&tf (iI d.2))=true:=by rw[aN r.1,aN r.2];rfl
 have HM:=zh (show kN d=fO (bR 16) (df 16) d by unfold kN;rw[zK (aN r)]);have J:=zh (K.o r);rw[I];clear I K r
 go_wp2_with (first
  |refine aj ek rfl (.tmp 1) rfl rfl D W L ?_
  | fail)
 refine(J.o _ i.o.az).mono ?_;rintro e w3 ⟨F,t⟩;obtain⟨cs,ok,rfl,sW,z,q,A⟩:=t.cells;rw[<-HM.o]at q A;have T:=zh A;have l:=zh ((i.o.call F).al lZ 35);clear i J F t L A
 cases hcd:kN d with
 |none=>
  obtain rfl:ok=false:=by rw[q,hcd];rfl
  have E:=zh hcd;clear q hcd
  go_wp2_with (first
   |(refine aA ek rfl (.tmp 4) (.tmp 13) rfl (cs:=cs.toArray) rfl rfl rfl qhG (fun u hu=>z u qdL) l.o.obj ?_;intro w4 j p;have g:=zh (l.o.aQ j p);clear j p)
   | refine aA ek rfl (.tmp 2) (.tmp 17) rfl (cs:=lZ) rfl rfl rfl rfl qdN g.o.av.obj ?_)
  intro U c f;have t:=ek.load (P:=prog) (cs:=lZ.toList) rfl c.all;have C:=zh (g.o.av.aQ c f).aF;clear l g c f;go_wp2;refine yV (v:=.tuple #[.agg lZ,.int .i64 11]) (dz results18 rfl t) rfl ?_
  exact M.o _ _ ⟨C.o,by unfold MkR;rw[E.o]⟩
 |some u=>
  obtain rfl:ok=true:=by rw[q,hcd];rfl
  have E:=zh hcd;clear q hcd
  go_wp2_with (first
   |(refine aA ek rfl (.tmp 4) (.tmp 13) rfl (cs:=cs.toArray) rfl rfl rfl qhG (fun u hu=>z u qdL) l.o.obj ?_;intro w4 j p;have g:=zh (l.o.aQ j p);have q4:=j.all;clear j p)
   |refine aj ek rfl (.tmp 4) rfl rfl cs sW q4 ?_
   | refine aA ek rfl (.tmp 2) (.tmp 18) rfl (cs:=cs.toArray) rfl rfl rfl qhG (fun u hu=>z u qdL) g.o.av.obj ?_)
  intro U c f;have t:=ek.load (P:=prog) (cs:=cs) sW c.all;have B:=g.o.av.aQ c f;have C:=zh (zi B.aF B.done);clear l g B c f;go_wp2;refine yV (v:=.tuple #[.agg cs.toArray,.int .i64 0]) (dz results18 rfl t) rfl ?_;refine M.o _ _ ⟨C.o.1,?_⟩;unfold MkR;rw[E.o];obtain⟨Z,Y,e1,e2,e3⟩:=T.o u E.o;exact⟨Z,Y,by rw[e1];rfl,e2.le C.o.2,e3.le C.o.2⟩
theorem bK.fzT{d:Vd}(h:bK d):iI d.1/\iI d.2:=⟨h.s1,h.s2⟩
theorem wJ{N:Nat}(d:Vd)(x y:Sl)(m:Mem)(w:zW)(hm:m.az w)(n:eD m)(J:aY m N x d.1)(I:aY m N y d.2)(k:Wd N d):
 zX 8 #[bQ d x y] w (.bool (tf (bK d))):=by
 have G:=(Own.start hm).al (dw d x y).toArray 35;have s:=zh (Qb d x y m _ G.az n J I k);have r:=zh (fun(u:Vd) v t (M:Mem) w' (h:M.az w') (f:m.le M) (e:kN d=some u) (F:aY M 16 v u.1) (E:aY M 16 t u.2)=>show zC 23 #[bQ u v t,bQ d x y] w' fun e H=>e=.returned (.bool (tf (u=d)))/\Below w'.heap.size w' H from by
  obtain⟨Q,P,s3⟩:=Ih e;have c:=k.cnd ⟨Q,P⟩;have b:=Kq.OA c s3;exact uL 16 u d v t x y M w' h F E ((J.low Q.ht).le f) ((I.low P.ht).le f) ⟨b.1.cnt,b.2.cnt⟩ ⟨c.1.cnt,c.2.cnt⟩)
 have W:(dw d x y).length=18:=rfl;have L:=zh G;have U:=G.obj.all;unfold bQ at s r⊢;generalize dw d x y=D at*
 clear G J I n k;refine au fun R X=>?_
 go_enter func8,ntmps8
 go_wp2_with (first
  |refine aj ek rfl (.tmp 1) rfl rfl D W U ?_
  | fail)
 refine s.o.mono ?_;rintro e w3 ⟨B,V⟩;obtain⟨cs,kk,rfl,sW,z,p,q⟩:=V.cells;have Y:=zh (bzx (w:=w3) L.o.az);have g:=zh ((L.o.call B).al lZ 35);clear L s B V U
 cases hcd:kN d with
 |none=>
  obtain rfl:=p hcd;have K:=zh (show tf (bK d)=false from aG (aze hcd));clear p q hcd
  go_wp2_with (first
   |(refine aA ek rfl (.tmp 3) (.tmp 8) rfl (cs:=cs.toArray) rfl rfl rfl qhG (fun u hu=>z u qdL) g.o.obj ?_;intro Z a i;have O:=zh (g.o.aQ a i).aF;clear g a i)
   | fail)
  exact X.o _ _ ⟨aP (by rw[K.o]),O.o⟩
 |some u=>
  obtain⟨rfl,v,t,C,F,E⟩:=q u hcd;have K:=zh (show tf (bK d)=tf (u=d) from dY ⟨fun h=>Xy hcd h,fun h=>by rw[h]at hcd;exact(tq d).2 hcd⟩);have j:=zh (fun(M:Mem) w' (h:M.az w') (f)=>r.o u v t M w' h (Mem.le_trans Y.o f) hcd (F.le f) (E.le f));unfold bQ at j;rw[<-C]at j;clear p q hcd C F E r Y
  go_wp2_with (first
   |(refine aA ek rfl (.tmp 3) (.tmp 8) rfl (cs:=cs.toArray) rfl rfl rfl qhG (fun u hu=>z u qdL) g.o.obj ?_;intro Z a i;have l:=zh (g.o.aQ a i);have T:=a.all;have S:=l.o.av.obj.all;clear g a i)
   |refine aj ek rfl (.tmp 3) rfl rfl cs sW T ?_
   |refine aj ek rfl (.tmp 1) rfl rfl D W S ?_
   | fail)
  refine(j.o _ _ l.o.az (Mem.le_refl _)).mono ?_;rintro e w5 ⟨rfl,A⟩;have O:=zh (l.o.aT A).aF;clear l A T S j;go_wp2;exact X.o _ _ ⟨aP (by rw[K.o]),O.o⟩
theorem E5(v:zV)(l:aK)(m:Mem)(w:zW)(B:m.az w)(C:aV m v l):
 zC 57 #[.agg #[v]] w fun e w'=>∃b,e=.returned (.bool b)/\zB w w'/\(b=true->l.length<=8):=by
 obtain⟨a,c,rfl,P,E,x⟩:=C;unfold maxLen at E;have d:=(Own.start B).al #[.slice a l.length c] 27;have H:=zh x;have HO:=zh d;clear x d;refine au fun R hR=>?_
 go_enter func57,ntmps57
 go_wp2;refine aB [1,3] (fun q s r=>∃i:Nat,i<=l.length/\q=l.length-i/\s=[.p w.heap.size,.j (i:Int)]/\Own w m r m [.obj w.heap.size 27 #[.slice a l.length c]]) ?_ ?_
 .exact qbo
 clear HO;rintro X z q s r p-⟨i,hi,rfl,rfl,d⟩;simp[bz,lk];have J:=d.obj.c 0;have I:=d.obj.lt;by_cases hlt:i<l.length
 case neg=>
  have y:=zh d.aF;by_cases D:l.length<=8
  .have n:decide ((l.length:Int)<=8)=true:=zN zo;clear d p;go_wp2;exact hR.o _ _ ⟨_,rfl,y.o,fun _=>D⟩
  .have n:decide ((l.length:Int)<=8)=false:=zM zo;clear d p;go_wp2;exact hR.o _ _ ⟨_,rfl,y.o,fun h=>by simp at h⟩
 obtain⟨b,off,rfl,t⟩:=H.o qdJ;obtain⟨f,u,g,A⟩:=t i hlt;obtain⟨O,N,rfl,Q,G,-⟩:=A;unfold maxLen at G;have M:=azk d.az f;have L:=azk d.az g;have K:=bzu d.az f;have HO:=zh d;generalize l[i].bu.length=j at*
 clear d t f g;by_cases F:j<=12
 .have n:decide ((12:Int)<(j:Int))=false:=zM zo;have k:decide (12<j)=false:=zM zo;go_wp2;exact p.o _ _ _ zo rfl ⟨i+1,zo,rfl,rfl,HO.o⟩
 .have n:decide ((12:Int)<(j:Int))=true:=zN zo;have k:decide (12<j)=true:=zN zo;exact qbJ
theorem P5(q r p:zV)(s:RS)(m:Mem)(w:zW)(B:m.az w)(l:gJ m q r p s):
 zC 56 #[s.val q r p] w fun e w'=>∃b,e=.returned (.bool b)/\zB w w'/\(b=true->s.i.length<=8/\s.f.length<=8/\s.t.length<=8):=by
 have g:=(Own.start B).al #[.bool s.dL,.bool s.dS,.bool s.dW,q,r,p] 29;have z:=zh (fun w' (h:m.az w')=>E5 p s.t m w' h l.t);have D:s.i.length<=maxLen:=by obtain⟨a,c,-,y,x,-⟩:=l.i;omega
 have C:s.f.length<=maxLen:=by obtain⟨a,c,-,y,x,-⟩:=l.f;omega
 unfold maxLen at D C;obtain⟨O,N,ac,M,L,K,rfl,rfl,rfl⟩:=l.dm;unfold RS.val;have H:=g.obj.c 3;have G:=g.obj.c 4;have F:=g.obj.c 5;have E:=g.obj.lt;have HO:=zh g;generalize s.i.length=k at*
 generalize s.f.length=j at*
 generalize s.t.length=J at*
 clear g l;refine au fun R hR=>?_
 go_enter func56,ntmps56
 by_cases y:k<=5
 case neg=>
  have u:decide ((k:Int)<=5)=false:=zM zo;have d:decide (k<=5)=false:=zM zo;exact qbJ
 have u:decide ((k:Int)<=5)=true:=zN zo;have d:decide (k<=5)=true:=zN zo;by_cases x:j<=5
 case neg=>
  have u:decide ((j:Int)<=5)=false:=zM zo;have d:decide (j<=5)=false:=zM zo;exact qbJ
 have u:decide ((j:Int)<=5)=true:=zN zo;have d:decide (j<=5)=true:=zN zo
 go_wp2_with fail
 refine(z.o _ HO.o.az).mono ?_;rintro e I ⟨b,rfl,n,v⟩;have A:=zh (zi (HO.o.aT n).aF v);clear HO z n v;go_wp2;exact hR.o _ _ ⟨b,rfl,A.o.1,fun h=>⟨zo,zo,A.o.2 h⟩⟩
def bzo(lv:Nat):Prop:=∀(v:Vl) (s:Sl) (N:Nat) (m:Mem) (w:zW) (a:Int),m.az w->aY m N s v->0<=a->a<=60 ->
 zC 39 #[v.val s,.int .i64 (lv:Int),.int .i64 a] w fun e w'=>∃r,e=.returned (.j r)/\zB w w'/\U2 lv v a r
theorem Ce.grow{lv:Nat}{l k:List Vd}{a n:Int}(h:Ce lv l a n)(b:¬n<=a):Ce lv k a n:=⟨h.lo,h.hi,fun e=>absurd e b⟩
theorem Ba{lv:Nat}(_:lv<=100)(H:bzo lv)(v:zV)(l:List Vd)(N:Nat)(m:Mem)(w:zW)(f:Int)(hm:m.az w)(hl:bD (aY m N) m v l)(n' : -1000<=f)(p':f<=60):
 zC 22 #[v,.int .i64 (lv:Int),.int .i64 f] w fun e w'=>∃r,e=.returned (.j r)/\zB w w'/\Ce lv l f r:=by
 obtain⟨a,c,rfl,h1,T,h3⟩:=hl;unfold maxLen at T;have hO:=Own.start hm;have HK:=zh h3;have HH:=zh H;have C:=zh hO;clear h3 hO H;refine au fun R hR=>?_
 go_enter func22,ntmps22
 go_wp2;refine aB [0,1,2,7,8] (fun q W M=>∃(i:Nat) (n:Int),i<=l.length/\q=l.length-i/\W=[.slice a l.length c,.j (lv:Int),.j f,.j n,.j (i:Int)]/\Ce lv (l.take i) f n/\Own w m M m []) ?_ ?_
 .exact⟨_,0,0,zG _,rfl,rfl,.zero,C.o⟩
 clear C;rintro X z q W M hX-⟨i,n,hi,rfl,rfl,L,hO⟩;simp[bz,lk];have n1:=L.lo;have n2:=L.hi;have HM:=zh L;clear L;by_cases hlt:i<l.length
 case neg=>
  obtain rfl:i=l.length:=zo;have HF:=zh (show Ce lv l f n from by have:=HM.o;rwa [yG]at this);exact qaS
 by_cases E:n<=f
 case neg=>
  have S:decide (n<=f)=false:=zM E;have q':decide (f<n)=true:=zN zo;have HF:=zh (show Ce lv l f n from HM.o.grow E);exact qaS
 have S:decide (n<=f)=true:=zN E;have l':IntKind.i64.wrap (f-n)=f-n:=IntWalk.i64_in _ zo;obtain⟨b,off,rfl,h4⟩:=HK.o qdJ;obtain⟨x,y,K,hx,hy⟩:=(h4 i hlt).cells;have s':=bzu hO.az (K 0 _ rfl);have V:=zh (fun(w':zW) (h:m.az w') (j:Nat) (u:zV) (Q:(aZ l[i].1 x)[j]?=some u)=>azk h (by have:=K (0+j) u (ku Q);rwa [yZ]at this));have B:=zh (fun(w':zW) (h:m.az w') (j:Nat) (u:zV) (Q:(aZ l[i].2 y)[j]?=some u)=>azk h (by have:=K (9+j) u (nP Q);rwa [<-Nat.add_assoc]at this));have A:=zh (fun w' (h:m.az w')=>HH.o l[i].1 x N m w' (f-n) h hx zo zo);have s:=zh (fun w' (h:m.az w') k (h1:0<=k) (T:k<=60)=>HH.o l[i].2 y N m w' k h hy h1 T);have HT:=zh (show l.take (i+1)=l.take i++[l[i]] from zH hlt);have P:(aZ l[i].1 x).length=9:=rfl;have O:(aZ l[i].2 y).length=9:=rfl;have C:=zh hO;have Z:=V.o M hO.az;unfold Vl.val at A s;generalize aZ l[i].1 x=D at*
 generalize aZ l[i].2 y=D' at*
 generalize l[i]=d at*
 clear hO h4 K hx hy
 go_wp2_with (first
  |refine aj jI rfl (.tmp 24) rfl rfl D P Z ?_
  | fail)
 refine(A.o _ C.o.az).mono ?_;rintro e w1 ⟨r,rfl,G,J⟩;have r1:=J.lo;have r2:=J.hi;have t:=zh J;have g:=zh (C.o.aT G);have k':IntKind.i64.wrap (n+r)=n+r:=IntWalk.i64_in _ zo;clear J G C A Z;by_cases hk:n+r<=f
 case neg=>
  have S:decide (n+r<=f)=false:=zM hk;have HF:=zh (show Ce lv (l.take (i+1)) f (n+r) from by rw[HT.o];have:=HM.o.step E t.o (y:=0) (fun h=>absurd h hk) (fun _=>rfl);rwa [Int.add_zero]at this);clear HM t s B;go_wp2;exact hX.o _ _ _ zo rfl ⟨i+1,n+r,zo,rfl,rfl,HF.o,g.o⟩
 have S:decide (n+r<=f)=true:=zN hk;have j':IntKind.i64.wrap (f-(n+r))=f-(n+r):=IntWalk.i64_in _ zo;have Y:=B.o w1 g.o.az
 go_wp2_with (first
  |refine aj jI rfl (.tmp 39) rfl rfl D' O Y ?_
  | fail)
 refine(s.o _ g.o.az (f-(n+r)) zo zo).mono ?_;rintro e w2 ⟨I,rfl,F,p⟩;have r3:=p.lo;have r4:=p.hi;have HF:=zh (show Ce lv (l.take (i+1)) f (n+r+I) from by rw[HT.o];exact HM.o.step E t.o (fun _=>p) (fun h=>absurd hk h));have U:=zh (g.o.aT F);have i':IntKind.i64.wrap (n+r+I)=n+r+I:=IntWalk.i64_in _ zo;clear HM t s B Y p F g;go_wp2;exact hX.o _ _ _ zo rfl ⟨i+1,n+r+I,zo,rfl,rfl,HF.o,U.o⟩
theorem Own.row0{w0 w:zW}{m mk:Mem}{L:List bA}(h:Own w0 m w mk L)(t:TypeId)(size:Nat):Own w0 m (w.alloc (.cells #[] t)) mk (.row (.slice (some ⟨w.heap.size,0,none⟩) 0 0) t size 0 []::L):=
 (h.al' (.cells #[] t)).cons (it:=.row (.slice (some ⟨w.heap.size,0,none⟩) 0 0) t size 0 [])
  ⟨zS,.inr ⟨w.heap.size,0,#[],rfl,zG _,(bg.new _ _ _).get,zI _,by simp[maxLen],zS,zS⟩⟩
  (fun k hk=>by simp only[bA.blk,Value.ownBlock,Option.some.injEq]at hk;subst hk;exact⟨h.aF.size,eza h.az (zI _)⟩)
  (fun b c k a d=>by simp only[bA.blk,Value.ownBlock,Option.some.injEq]at a;subst a;exact absurd (bA.lt (h.ok b c) d) (Nat.lt_irrefl _))
theorem AP{P:Program}{t e:TypeId}{size bytes:Nat}(S:fB P t e size bytes){w:zW}{o:Oper}{a:Act}{K:Act->World->Prop}{Q:Exit->Act->World->Prop}(s x:Operand)
(ho:o.op=.call { callee:=.builtin .append,args:=#[s,x],argTypes:=#[t,t] })
(v:zV)(n:Nat)(xs:List Value)(hs:a.eval s=v)(hown:w.ownsRow 0 e size v n xs)
(ad:Option Addr)(m c:Nat)(dQ:List Value)(hx:a.eval x=.slice ad m c)(hl:dQ.length=m*size)(hn:ad=none->m=0)(hnews:∀A,ad=some A->∀j u,dQ[j]?=some u->w.cell? (A.add j)=some u)(h1:∀u∈dQ,u.oneCell'=true)
(h63:n+m<=maxLen)(hbytes:(n+m)*bytes<=140737488355328)
(h:∀va vc w',w'.ownsRow 0 e size (.slice va (n+m) vc) (n+m) (xs++dQ)->w.grownBy w' v.ownBlock->(∀k,(Value.slice va (n+m) vc).ownBlock=some k->v.ownBlock=some k\/w.heap.size<=k)->K (a.put o.dst (.slice va (n+m) vc)) w'):o.wp P a w K Q:=by
 cases ad with
 |some A=>exact fQ S s x ho v n xs hs hown A m c dQ hx hl (hnews A rfl) h1 h63 hbytes h
 |none=>
  obtain rfl:=hn rfl;have hz:dQ=[]:=yM zo;subst hz;obtain⟨i,z,hi,-⟩:=S.info;obtain⟨va,vc,rfl⟩:=bv hown;have hr:=fun ty=>vz (P:=P) t ty e i size c S.ht hi _ n xs hown;unfold Oper.wp execOp;simp only[ho,resolve,invoke,builtin,Sem.run_bind,Sem.run_pure,Result.andThen_ok,List.map_toArray,yL,xB,hs,hx,hr];exact h va vc w (by simpa using hown) ⟨rfl,rfl,rfl,zI _,fun _ _ _=>rfl⟩ (fun k hk=>.inl qez)
theorem DR{α β:Type}(g:α->List β){l:List α}{i:Nat}(h:i<l.length):(l.take (i+1)).flatMap g=(l.take i).flatMap g++g l[i]:=by
 exact qco
theorem Pg{α β:Type}(g:α->β){l:List α}{i:Nat}(h:i<l.length):(l.take (i+1)).map g=(l.take i).map g++[g l[i]]:=by
 rw[zH h,yI];simp
theorem NG:bzo 0:=by
 intro v s N m w most d c h0 e;have a:=(Own.start d).al (aZ v s).toArray 33;have b:IntKind.i64.wrap (most+1)=most+1:=IntWalk.i64_in _ zo;have HO:=zh a;unfold Vl.val;generalize aZ v s=D at*
 clear a c;refine au fun R hR=>?_
 go_enter func39,ntmps39
 exact qaF
theorem Tm{lv:Nat}(hlv:lv<=100)(H:bzo lv):bzo (lv+1):=by
 intro v s N m w most hm C h0 h60;obtain⟨N',rfl⟩:∃n,N=n+1:=by cases N with|zero=>exact C.elim|succ n=>exact⟨n,rfl⟩
 obtain⟨v',T',M'⟩:=id C;obtain⟨la,lc,els,p1,q1,k1⟩:=id T';obtain⟨sa,sc,ess,p2,q2,k2⟩:=id M';unfold maxLen at q1 q2;obtain⟨aa,ab,ac,ad,ae,af,ei,ef,et⟩:=v'.dm;have hO:=(Own.start hm).al (aZ v s).toArray 33;have j':=zh (fun w' (h:m.az w')=>P5 s.i s.f s.t v.s m w' h v');have HK:=zh (zi k1 k2);have HA:=zh (fun(v:zV) (l:List Vd) (M:Mem) w' (most:Int) (h:M.az w') (hl:bD (aY M N') M v l) h1 h2=>Ba hlv H v l N' M w' most h hl h1 h2);have hw1:IntKind.i64.wrap (most+1)=most+1:=IntWalk.i64_in _ zo;have hw2:IntKind.i64.wrap ((lv:Int)+1-1)=(lv:Int):=by rw[IntWalk.i64_in _ zo];omega
 have hw3:IntKind.i64.wrap (lv:Int)=(lv:Int):=IntWalk.i64_in _ zo;have elv:((lv+1:Nat):Int)=(lv:Int)+1:=zo;have hdl:decide ((lv:Int)+1<1)=false:=zM zo;have n7:(aZ v s).toArray[7]?=some s.l:=rfl;have n8:(aZ v s).toArray[8]?=some s.s:=rfl;have J':∀j u,([.bool v.s.dL,.bool v.s.dS,.bool v.s.dW,s.i,s.f,s.t]:List Value)[j]?=some u->(aZ v s).toArray[1+j]?=some u:=fun j u hj=>by rw[Nat.add_comm];match j,hj with|0,hj=>exact hj|1,hj=>exact hj|2,hj=>exact hj|3,hj=>exact hj|4,hj=>exact hj|5,hj=>exact hj
 have qs:=hO.obj.sub (o:=1) J';rw[elv];rw[els]at n7;rw[ess]at n8;unfold RS.val at j';rw[ei,ef,et]at j' qs;have HO:=zh hO;unfold Vl.val;generalize aZ v s=D at*
 clear hO C k1 k2 els ess ei ef et v' T' M' J' elv H;refine au fun R hR=>?_
 go_enter func39,ntmps39
 by_cases Q':most<1
 .have hd:decide (most<1)=true:=zN Q';clear qs;exact qaF
 have hd:decide (most<1)=false:=zM Q'
 go_wp2_with (first
  |refine aj rO rfl (.tmp 22) rfl rfl [.bool v.s.dL,.bool v.s.dS,.bool v.s.dW,.slice aa v.s.i.length ab,.slice ac v.s.f.length ad,.slice ae v.s.t.length af] rfl qs ?_
  | fail)
 refine(j'.o _ HO.o.az).mono ?_;rintro e w1 ⟨b,rfl,hb1,hb⟩;have HO1:=zh (HO.o.aT hb1);clear HO j' hb1 qs hd
 cases b with
 |false=>
  clear hb;go_wp2
  exact qce
 |true=>
 have C':=zh (hb rfl);clear hb;have y7:=HO1.o.obj.cell n7;have y8:=HO1.o.obj.cell n8;have yl:=HO1.o.obj.lt;by_cases U':3<v.aJ.length
 .have hd:decide ((3:Int)<(v.aJ.length:Int))=true:=zN zo;have E:decide (3<v.aJ.length)=true:=zN U';go_wp2;exact qce
 have hd:decide ((3:Int)<(v.aJ.length:Int))=false:=zM zo;have E:decide (3<v.aJ.length)=false:=zM U';by_cases P':3<v.ay.length
 .have hd:decide ((3:Int)<(v.ay.length:Int))=true:=zN zo;have E:decide (3<v.ay.length)=true:=zN P';go_wp2;exact qce
 have hd:decide ((3:Int)<(v.ay.length:Int))=false:=zM zo;have E:decide (3<v.ay.length)=false:=zM P';go_wp2;refine aB [1,2,3,7,8] (fun q J wr=>∃(i:Nat) (n:Int),i<=v.aJ.length/\q=v.aJ.length-i/\J=[.j ((lv:Int)+1),.j most,.p w.heap.size,.j n,.j (i:Int)]/\Kk lv ((v.aJ.take i).flatMap aX) most n/\Own w m wr m [.obj w.heap.size 33 D.toArray]) ?_ ?_
 .exact⟨_,0,1,zG _,rfl,rfl,.start h0,HO1.o⟩
 clear HO1 y7 y8 yl;rintro X z q J wr hX-⟨i,n,hi,rfl,rfl,hM,hO⟩;simp[bz,lk];have y7:=hO.obj.cell n7;have y8:=hO.obj.cell n8;have yl:=hO.obj.lt;have na:=hM.lo;have nb:=hM.hi;have HM:=zh hM;clear hM;by_cases hlt:i<v.aJ.length
 case neg=>
  obtain rfl:i=v.aJ.length:=zo;have HM1:=zh (show Kk lv (v.aJ.flatMap aX++(v.ay.take 0).flatMap bJ) most n from by have:=HM.o;rw[yG]at this;simpa using this);have HO1:=zh hO;clear hO hX HM hlt hi;go_wp2;refine aB [1,2,3,7,10] (fun q J wr=>∃(i:Nat) (n:Int),i<=v.ay.length/\q=v.ay.length-i/\J=[.j ((lv:Int)+1),.j most,.p w.heap.size,.j n,.j (i:Int)]/\Kk lv (v.aJ.flatMap aX++(v.ay.take i).flatMap bJ) most n/\(∀c∈v.ay.take i,zm c)/\Own w m wr m [.obj w.heap.size 33 D.toArray]) ?_ ?_
  .exact⟨_,0,n,zG _,rfl,rfl,HM1.o,zS,HO1.o⟩
  clear HO1 HM1 y7 y8 yl na nb;rintro X z q J wr hX-⟨i,n,hi,rfl,rfl,hM,O',hO⟩;simp[bz,lk];have y8:=hO.obj.cell n8;have yl:=hO.obj.lt;have na:=hM.lo;have nb:=hM.hi;have HM:=zh (zi hM O');clear hM O';by_cases hlt:i<v.ay.length
  case neg=>
   obtain rfl:i=v.ay.length:=zo;have HF:=zh (HM.o.1.done (fun _=>rfl) C'.o.1 C'.o.2.1 C'.o.2.2 zo zo HM.o.2);exact qaS
  by_cases hn:n<=most
  case neg=>
   have hdn:decide (n<=most)=false:=zM hn;have HF:=zh (show U2 (lv+1) v most n from⟨na,nb,fun e=>absurd e hn⟩);exact qaS
  have hdn:decide (n<=most)=true:=zN hn;obtain⟨b,off,rfl,F⟩:=HK.o.2 qdJ;obtain⟨u,u2,d,G,S,Q⟩:=F i hlt;obtain⟨a1,c1,rfl,s1,s2,s3⟩:=S;obtain⟨a2,c2,rfl,t1,t2,t3⟩:=Q;unfold maxLen at s2 t2;have x1:=azk hO.az d;have x2:=azk hO.az G;have xl:=bzu hO.az d;have HT:=zh (show(v.ay.take (i+1)).flatMap bJ=(v.ay.take i).flatMap bJ++(v.ay[i].1.map (·.2)++v.ay[i].2.map (·.2)) from DR bJ hlt);have HTS:=zh (show zm v.ay[i]->∀c∈v.ay.take (i+1),zm c from fun h c L=>by
   rw[zH hlt]at L;rcases yP.1 L with L|L
   .exact HM.o.2 c L
   .rw[zZ.1 L];exact h)
  have HO:=zh (hO.al #[.slice a1 v.ay[i].1.length c1,.slice a2 v.ay[i].2.length c2] 62);have HFK:=zh (zi s3 t3);generalize v.ay[i]=a at*
  have y0:=HO.o.obj.c 0;have y1:=HO.o.obj.c 1;have ym:=HO.o.obj.lt;clear hO F d G s3 t3;by_cases g1:4<a.1.length
  .have Z':decide ((4:Int)<(a.1.length:Int))=true:=zN zo;have p':decide (4<a.1.length)=true:=zN g1;exact qaF
  have Z':decide ((4:Int)<(a.1.length:Int))=false:=zM zo;have p':decide (4<a.1.length)=false:=zM g1;by_cases g2:4<a.2.length
  .have Y':decide ((4:Int)<(a.2.length:Int))=true:=zN zo;have o':decide (4<a.2.length)=true:=zN g2;exact qaF
  have Y':decide ((4:Int)<(a.2.length:Int))=false:=zM zo;have o':decide (4<a.2.length)=false:=zM g2;have HO1:=zh (HO.o.fE 35 18);clear HO;go_wp2;clear y0 y1 ym x1 x2 xl y8 yl Z' p' Y' o';refine aB [1,2,3,7,10,11,12,13] (fun q J wj=>∃(j:Nat) (rv:zV) (xs:List Value),j<=a.1.length/\q=a.1.length-j/\J=[.j ((lv:Int)+1),.j most,.p w.heap.size,.j n,.j (i:Int),.p wr.heap.size,rv,.j (j:Int)]/\kK (aY m N') xs ((a.1.take j).map (·.2))/\(∀f∈a.1.take j,f.1.1.size<=60) /\
   Own w m wj m [.row rv 35 18 j xs,.obj wr.heap.size 62 #[.slice a1 a.1.length c1,.slice a2 a.2.length c2],.obj w.heap.size 33 D.toArray]) ?_ ?_
  .exact⟨_,0,_,[],zG _,rfl,rfl,.nil _,zS,HO1.o⟩
  clear HO1;rintro X3 z3 q3 vs3 wj hX3-⟨j,rv,xs,hj,rfl,rfl,C,p,hO⟩;simp[bz,lk];have y0:=hO.av.obj.c 0;have y1:=hO.av.obj.c 1;have ym:=hO.av.obj.lt;by_cases g:j<a.1.length
  case neg=>
   obtain rfl:j=a.1.length:=zo;have HVR:=zh (show kK (aY m N') xs (a.1.map (·.2)++(a.2.take 0).map (·.2)) from by rw[yG]at C;simpa using C);have HSZ:=zh (show ∀f∈a.1,f.1.1.size<=60 from by rw[yG]at p;exact p);have HO1:=zh hO;clear hO hX3 C p g hj;go_wp2;clear y0 y1 ym;refine aB [1,2,3,7,10,11,12,14] (fun q J wj=>∃(j:Nat) (rv:zV) (xs:List Value),j<=a.2.length/\q=a.2.length-j/\J=[.j ((lv:Int)+1),.j most,.p w.heap.size,.j n,.j (i:Int),.p wr.heap.size,rv,.j (j:Int)]/\kK (aY m N') xs (a.1.map (·.2)++(a.2.take j).map (·.2))/\(∀k∈a.2.take j,k.1.length<=8) /\
    Own w m wj m [.row rv 35 18 (a.1.length+j) xs,.obj wr.heap.size 62 #[.slice a1 a.1.length c1,.slice a2 a.2.length c2],.obj w.heap.size 33 D.toArray]) ?_ ?_
   .exact⟨_,0,_,xs,zG _,rfl,rfl,HVR.o,zS,HO1.o⟩
   clear HO1 HVR;rintro X4 z4 q4 vs4 wk hX4-⟨j,rv,xs,hj,rfl,rfl,C,p,hO⟩;simp[bz,lk];have y0:=hO.av.obj.c 0;have y1:=hO.av.obj.c 1;have ym:=hO.av.obj.lt;by_cases g:j<a.2.length
   case neg=>
    obtain rfl:j=a.2.length:=zo;rw[yG]at C p;have HSR:=zh (HTS.o ⟨zo,zo,HSZ.o,p⟩);obtain⟨va,vc,rfl⟩:=bv hO.row;have W:=bD.GQ (m:=m.iA wk (.slice va (a.1.length+a.2.length) vc)) (l:=a.1.map (·.2)++a.2.map (·.2)) (by rw[zL,xC,xC];exact hO.row) C hO.free (Mem.le_refl _);have HC:=zh (HA.o _ _ _ wk (most-n) hO.bP.az W zo zo);have HO:=zh hO;have hw4:IntKind.i64.wrap (most-n)=most-n:=IntWalk.i64_in _ zo;clear hO W C p hX4
    go_wp2_with fail
    refine HC.o.mono ?_;rintro e w7 ⟨r,rfl,B,hr⟩;have ra:=hr.lo;have rb:=hr.hi;have E':=zh (HM.o.1.step hr);have A:=zh (HO.o.tail.tail.aT B);have hw5:IntKind.i64.wrap (n+r)=n+r:=IntWalk.i64_in _ zo;clear HO HC B hr HM y0 y1 ym;go_wp2;exact hX.o _ _ _ zo rfl ⟨i+1,n+r,zo,rfl,rfl,by rw[HT.o,<-xD];exact E'.o,HSR.o,A.o⟩
   obtain⟨b2,off2,rfl,F⟩:=HFK.o.2 (by intro h;simp[h]at g);obtain⟨u,d,u'⟩:=(F j g).s;obtain⟨x,y,L,hx,hy⟩:=(F j g).v.cells;obtain⟨ua,uc,rfl,-⟩:=id u';have x1:=azk hO.az d;have xl:=bzu hO.az d;have HC:=zh (fun(w':zW) (h:m.az w') (k:Nat) (u:zV) (hk:(dw a.2[j].2 x y)[k]?=some u)=>azk h (L k u hk));have hlD:(dw a.2[j].2 x y).length=18:=rfl;have oD:=fG hx hy;have HLG:=zh (fun w' (h:m.az w')=>E5 _ a.2[j].1 m w' h u');have z':=zh (show kK (aY m N') (xs++dw a.2[j].2 x y) (a.1.map (·.2)++(a.2.take (j+1)).map (·.2)) from by rw[Pg (·.2) g,<-xD];exact C.push hx hy);have A':=zh (show a.2[j].1.length<=8->∀k∈a.2.take (j+1),k.1.length<=8 from fun h k hk=>by
    rw[zH g]at hk;rcases yP.1 hk with hk|hk
    .exact p k hk
    .rw[zZ.1 hk];exact h)
   have HO:=zh hO;generalize dw a.2[j].2 x y=DD at*
   generalize a.2[j].1.length=ul at*
   clear hO F d u' L hx hy C p
   go_wp2_with fail
   refine(HLG.o _ HO.o.az).mono ?_;rintro e w7 ⟨bb,rfl,B,hbb⟩;have A:=zh (HO.o.aT B);clear HO HLG B x1 xl y0 y1 ym
   cases bb with
   |false=>
    clear hbb;go_wp2
    exact hR.o _ _ ⟨most+1,rfl,A.o.aF,.over h0⟩
   |true=>
   have B':=zh (A'.o (hbb rfl));have y0:=A.o.av.obj.c 0;have y1:=A.o.av.obj.c 1;have ym:=A.o.av.obj.lt;have q1:=HC.o w7 A.o.az;have hj4:a.1.length+j<=8:=zo
   go_wp2_with (first
    |refine aj ek rfl (.tmp 169) rfl rfl DD hlD q1 ?_
    |(refine fU jN ek qh rfl zo rfl (.tmp 170) rfl (cs:=DD.toArray) rfl qen ?_;have HO8:=zh (A.o.al DD.toArray 35))
    | (at_builtin;refine aU jN rfl (.tmp 164) (.tmp 171) rfl rv (a.1.length+j) xs rfl HO8.o.av.row ⟨w7.heap.size,0,none⟩ 1 1 DD rfl hlD qe0 oD qdM zo ?_))
   intro va vc w8 U V T;have D':=zh (HO8.o.av.app U V T zS).bM;clear A HO8 U V T y0 y1 ym q1;go_wp2;exact hX4.o _ _ _ zo rfl ⟨j+1,_,_,zo,rfl,rfl,z'.o,B'.o,by simpa [Nat.add_assoc]using D'.o⟩
  obtain⟨b1,off1,rfl,F⟩:=HFK.o.1 (by intro h;simp[h]at g);have d:=(F j g).s;have hsb:=(F j g).sz;unfold maxLen at hsb;obtain⟨x,y,L,hx,hy⟩:=(F j g).v.cells;have x1:=azk hO.az d;have xl:=bzu hO.az d;have q1:=fun(k:Nat) (u:zV) (hk:(dw a.1[j].2 x y)[k]?=some u)=>azk hO.az (L k u hk);have hlD:(dw a.1[j].2 x y).length=18:=rfl;have oD:=fG hx hy;have z':=zh (show kK (aY m N') (xs++dw a.1[j].2 x y) ((a.1.take (j+1)).map (·.2)) from by rw[Pg (·.2) g];exact C.push hx hy);have A':=zh (show a.1[j].1.1.size<=60->∀k∈a.1.take (j+1),k.1.1.size<=60 from fun h k hk=>by
   rw[zH g]at hk;rcases yP.1 hk with hk|hk
   .exact p k hk
   .rw[zZ.1 hk];exact h)
  have HO:=zh hO;generalize dw a.1[j].2 x y=DD at*
  generalize a.1[j].1.1=P at*
  clear hO F d L hx hy C p;by_cases g60:60<P.size
  .have hdh:decide ((60:Int)<(P.size:Int))=true:=zN zo;have X':decide (60<P.size)=true:=zN g60;clear q1;exact qaF
  have hdh:decide ((60:Int)<(P.size:Int))=false:=zM zo;have X':decide (60<P.size)=false:=zM g60;have B':=zh (A'.o zo)
  go_wp2_with (first
   |refine aj ek rfl (.tmp 143) rfl rfl DD hlD q1 ?_
   |(refine fU jN ek qh rfl zo rfl (.tmp 144) rfl (cs:=DD.toArray) rfl qen ?_;have HO8:=zh (HO.o.al DD.toArray 35))
   | (at_builtin;refine aU jN rfl (.tmp 138) (.tmp 145) rfl rv j xs rfl HO8.o.av.row ⟨wj.heap.size,0,none⟩ 1 1 DD rfl hlD qe0 oD qdM zo ?_))
  intro va vc w8 U V T;have D':=zh (HO8.o.av.app U V T zS).bM;clear HO HO8 U V T y0 y1 ym q1 x1 xl;go_wp2;exact hX3.o _ _ _ zo rfl ⟨j+1,_,_,zo,rfl,rfl,z'.o,B'.o,by simpa using D'.o⟩
 obtain⟨b,off,rfl,F⟩:=HK.o.1 qdJ;obtain⟨u,u2,d,G,S,Q⟩:=F i hlt;have HVA:=zh (zi S Q);obtain⟨a1,c1,xs,rfl,s1,s2,s3,s4,s5⟩:=S.seg;obtain⟨a2,c2,ys,rfl,t1,t2,t3,t4,t5⟩:=Q.seg;unfold maxLen at s2 t2;have x1:=azk hO.az d;have x2:=azk hO.az G;have xl:=bzu hO.az d;have HT:=zh (show(v.aJ.take (i+1)).flatMap aX=(v.aJ.take i).flatMap aX++(v.aJ[i].1++v.aJ[i].2) from DR aX hlt);have HO:=zh hO;have HX:=zh (zi d G);have HR3:=zh (zi s3 t3);have S':=s3.len;have R':=t3.len;have HV:=zh (kK.append s3 t3);have o1:=s3.one_cell;have o2:=t3.one_cell;have H5:=zh (zi s5 t5);generalize v.aJ[i].1=k1 at*
 generalize v.aJ[i].2=k2 at*
 have HLN:=zh (zi S' R');clear hO F d G S Q s3 t3 s5 t5 HVA S' R';generalize W':k1.length=K at*
 generalize V':k2.length=l2 at*
 have HL1:=zh (zi W' V');clear W' V';by_cases g3:3<K
 .have hd:decide ((3:Int)<(K:Int))=true:=zN zo;have E:decide (3<K)=true:=zN g3;exact qaF
 have hd:decide ((3:Int)<(K:Int))=false:=zM zo;have E:decide (3<K)=false:=zM g3;by_cases g2:2<l2
 .have hd:decide ((2:Int)<(l2:Int))=true:=zN zo;have E:decide (2<l2)=true:=zN g2;exact qaF
 have hd:decide ((2:Int)<(l2:Int))=false:=zM zo;have E:decide (2<l2)=false:=zM g2
 go_upto_region 9 with(fail)
 refine aW [1,2,3,7,8,9] (fun J w'=>∃(va:Option Addr) (vc:Nat),J=[.j ((lv:Int)+1),.j most,.p w.heap.size,.j n,.j (i:Int),.slice va (K+l2) vc]/\Own w m w' m [.row (.slice va (K+l2) vc) 35 18 (K+l2) (xs++ys),.obj w.heap.size 33 D.toArray]) ?_ ?_
 .intro Y hY;refine gV (fun j w'=>j≠15->(bg w' w.heap.size 33 D.toArray/\m.az w')) zk ?_;have y':=HO.o.dr;have O:=zi y'.obj y'.az;refine aD 1 17 _ rfl zk qe7 qfg O qit ?_;go_simp;refine aD 2 17 _ rfl zk qe7 qfg O qit ?_;go_simp;refine aD 3 17 _ rfl zk qe7 qfg O qit ?_;go_simp;refine aD 4 17 _ rfl zk qe7 qfg O qit ?_;go_simp;refine aD 5 17 _ rfl zk qe7 qfg O qit ?_;go_simp;refine aD 6 17 _ rfl zk qe7 qfg O qit ?_;go_simp;refine aD 8 17 _ rfl zk qe7 qfg O qit ?_;go_simp;refine aD 9 17 _ rfl zk qe7 qfg O qit ?_;go_simp;refine aD 10 17 _ rfl zk qe7 qfg O qit ?_;go_simp;refine aD 11 17 _ rfl zk qe7 qfg O qit ?_;go_simp;refine aD 12 17 _ rfl zk qe7 qfg O qit ?_;go_simp;refine aD 13 17 _ rfl zk qe7 qfg O qit ?_;go_simp;have Z:=y'.row0 35 18;refine aO 0 zk (aM rfl rfl (aS qdK ⟨.inr fun _=>zi Z.av.obj Z.az,?_⟩));go_simp;refine aO 7 zk (aM rfl rfl (AP jN (.tmp 68) (.tmp 74) rfl (.slice (some ⟨wr.heap.size,0,none⟩) 0 0) 0 [] zg Z.row a1 K c1 xs zg HLN.o.1 s4 (H5.o.1 _ Z.az) o1 qdM zo (fun va vc w4 ho4 hg4 hr4=>?_)));have I:=Z.app ho4 hg4 hr4 zS;simp only[yZ,xN]at I;refine⟨.inr fun _=>zi I.av.obj I.az,?_⟩;go_simp;refine aO 14 zk (aM rfl rfl (AP jN (.tmp 75) (.tmp 81) rfl (.slice va K vc) K xs zg I.row a2 l2 c2 ys zg HLN.o.2 t4 (H5.o.2 _ I.az) o2 qdM zo (fun va5 vc5 w5 ho5 hg5 hr5=>?_)));have x':=I.app ho5 hg5 hr5 zS;refine⟨.inr fun _=>zi x'.av.obj x'.az,?_⟩;go_simp;refine aO 15 zk (aM rfl rfl (aS qdK ⟨.inl rfl,?_⟩));refine dE zk ?_ _;exact hY.o _ _ rfl ⟨va5,vc5,rfl,x'⟩
 clear HO x1 x2 xl y7 y8 yl;rintro z1 J w6-⟨va,vc,rfl,hO⟩;simp[bz,lk];have W:=bD.GQ (m:=m.iA w6 (.slice va (K+l2) vc)) (l:=k1++k2) (by rw[zL,HL1.o.1,HL1.o.2];exact hO.row) HV.o hO.free (Mem.le_refl _);have HC:=zh (HA.o _ _ _ w6 (most-n) hO.bP.az W zo zo);have HO:=zh hO;have hw4:IntKind.i64.wrap (most-n)=most-n:=IntWalk.i64_in _ zo;clear hO W
 go_wp2_with fail
 refine HC.o.mono ?_;rintro e w7 ⟨r,rfl,B,hr⟩;have ra:=hr.lo;have rb:=hr.hi;have E':=zh (HM.o.step hr);have A:=zh (HO.o.tail.aT B);have hw5:IntKind.i64.wrap (n+r)=n+r:=IntWalk.i64_in _ zo;clear HO HC B hr HM;go_wp2;exact hX.o _ _ _ zo rfl ⟨i+1,n+r,zo,rfl,rfl,by rw[HT.o];exact E'.o,A.o⟩
theorem E9:∀lv,lv<=100->bzo lv
 |0,_=>NG
 |lv+1,h=>Tm zo (E9 lv zo)
def kw(d:Vd):Prop:=OH 3 d.1/\OH 3 d.2/\cv 3 d<=60
theorem Pw{N:Nat}(d:Vd)(x y:Sl)(m:Mem)(w:zW)(E:m.az w)(A:aY m N x d.1)(z:aY m N y d.2):
 zC 7 #[bQ d x y] w fun e w'=>∃b,e=.returned (.bool b)/\zB w w'/\(b=true->kw d):=by
 have p:=(Own.start E).al (dw d x y).toArray 35;have c:=p.al (dw d x y).toArray 35;simp only[bB]at c;have s:=fun j u (hj:(dw d x y)[j]?=some u)=>bzy (m:=m) c.obj (i:=j) qdP;have f:=dz9 (m:=m) (w:=(w.alloc (.cells (dw d x y).toArray 35)).alloc (.cells (dw d x y).toArray 35)) c.j6;have t:bD (aY (m.add ((w.alloc (.cells (dw d x y).toArray 35)).alloc (.cells (dw d x y).toArray 35)) (w.heap.size+1)) N) (m.add ((w.alloc (.cells (dw d x y).toArray 35)).alloc (.cells (dw d x y).toArray 35)) (w.heap.size+1)) (.slice (some ⟨w.heap.size+1,0,none⟩) 1 1) [d]:=
  ⟨some ⟨w.heap.size+1,0,none⟩,1,rfl,zI _,by simp[maxLen],fun _=>⟨w.heap.size+1,0,rfl,fun i hi=>by
   obtain rfl:i=0:=by simpa using hi
   exact .of (fun j u hj=>by have:=s j u hj;simpa using this) (A.le f) (z.le f)⟩⟩
 have B:=zh (Ba zD (E9 3 zD) _ _ N _ _ 60 c.iC.az t zD zD);have hl:(dw d x y).length=18:=rfl;have q:=p.obj.all;have l:=zh c;unfold bQ;generalize dw d x y=D at*
 clear p c s f t A z;refine au fun R v=>?_
 go_enter func7,ntmps7
 go_wp2_with (first
  |refine aj ek rfl (.tmp 1) rfl rfl D hl q ?_
  |(refine fU jN ek qh rfl zo rfl (.tmp 3) rfl (cs:=D.toArray) rfl qdR ?_)
  | fail)
 refine B.o.mono ?_;rintro e H ⟨r,rfl,k,n⟩;have J:=n.lo;have I:=n.hi;have C:=zh (l.o.aT k).aF;have G:=zh (show r<=60->kw d from fun h=>by
  obtain⟨a,b⟩:=n.ok h;have a:=a d zS;rw[cK,mr]at b;exact⟨a.1,a.2,zo⟩)
 clear B l k n q;by_cases g:r<=60
 .have F:decide (r<=60)=true:=zN g;go_wp2;exact v.o _ _ ⟨true,rfl,C.o,fun _=>G.o g⟩
 .have F:decide (r<=60)=false:=zM g;go_wp2;exact v.o _ _ ⟨false,rfl,C.o,fun h=>by cases h⟩
theorem Mv.bot(n:Nat):Mv (n+1) dn:=by
 refine⟨⟨⟨zG _,zG _,zG _,zG _,zG _,fun c h=>by simp[dn,Vl.ay]at h⟩,fun x a=>by simp[dn,Vl.kids,Vl.aJ,Vl.ay]at a⟩,Om n⟩
theorem aY.pos{m:Mem}{N:Nat}{x:Sl}{v:Vl}(h:aY m N x v):∃n,N=n+1:=by
 cases N with
 |zero=>exact h.elim
 |succ n=>exact⟨n,rfl⟩
theorem az8(a0 h g f e d c b a:zV)(w:zW):(Instr.build 35 #[(0,.agg #[a0,h,g,f,e,d,c,b,a])]).run prog w=.ok (.agg #[a0,h,g,f,e,d,c,b,a,.bool false,.bool false,.bool false,.bool false,.slice none 0 0,.slice none 0 0,.slice none 0 0,.slice none 0 0,.slice none 0 0]) w:=by kernel_rfl
theorem VZ{A:List Value}(a:A.length=9)(w:zW):(Instr.build 35 #[(0,.agg A.toArray)]).run prog w=.ok (.agg (A++aZ dn dI).toArray) w:=by
 match A,a with
 |[a0,a1,a2,a3,a4,a5,a6,a7,a8],_=>exact az8 a0 a1 a2 a3 a4 a5 a6 a7 a8 w
theorem AQ{P:Program}{w:zW}{ops:Array Oper}{rest:List Oper}{op:Oper}{a:Act}{Q:Exit->Act->World->Prop}(x:Operand){t:TypeId}{a0 r:zV}(e:Region.wanted op (yielded ops a.tmps)=true)(b:op.op=Op.build t #[(0,x)])(d:a.eval x=a0)(f:(Instr.build t #[(0,a0)]).run P w=.ok r w)(g:wpList P ops Q rest (a.put op.dst r) w):wpList P ops Q (op::rest) a w:=by
 refine BigFrame.wpList_want e fun h c=>?_;unfold Oper.wp;simp[execOp,b,d,f,Result.andThen];exact c _ _ g
theorem Bz{N:Nat}(v:Vl)(x:Sl)(m:Mem)(w:zW)(j:m.az w)(a:eD m)(c:aY m N x v)(k:Mv N v):
 zX 21 #[v.val x] w (.bool (tf (bK (v,dn)))):=by
 obtain⟨n,rfl⟩:=c.pos;have b:=(Own.start j).al (aZ v x).toArray 33;have d:=zh (wJ (v,dn) x dI m _ b.az a c ezl ⟨k,.bot n⟩);have g:(aZ v x).length=9:=rfl;have h:=fun w=>VZ g w;have f:=zh h;clear h;have HO:=zh b;have i:=b.obj.all;unfold bQ at d;unfold Vl.val;rw[show dw (v,dn) x dI=aZ v x++aZ dn dI from rfl]at d;generalize aZ dn dI=B at*
 generalize aZ v x=D at*
 clear b c a k;refine au fun R hR=>?_
 go_enter func21,ntmps21
 go_wp2_with (first
  |refine aj jI rfl (.tmp 1) rfl rfl D g i ?_
  |refine AQ (.tmp 3) (a0:=.agg D.toArray) (r:=.agg (D++B).toArray) rfl rfl rfl (f.o _) ?_
  | (go_at_call 8;refine d.o.mono ?_;rintro e l ⟨rfl,hb1⟩))
 exact qay
theorem Wd.OA{N:Nat}{d:Vd}(h:Wd N d)(k:bK d):vW 16 d:=by
 have c:=h.cnd k.fzT;exact⟨⟨k.s1,c.1.src.fit,c.1.cnt⟩,⟨k.s2,c.2.src.fit,c.2.cnt⟩⟩
theorem bK.ht2{d:Vd}(h:bK d):Ht 16 d.1/\Ht 16 d.2:=⟨h.s1.ht,h.s2.ht⟩
theorem KQ{N N':Nat}(d a:Vd)(x y f c:Sl)(m:Mem)(w:zW)(F:m.az w)(b:eD m)(u:aY m N x d.1)(t:aY m N y d.2)(k:Wd N d)(i:aY m N' f a.1)(g:aY m N' c a.2)(s:Wd N' a):
 zX 10 #[bQ d x y,bQ a f c] w (.bool (tf (bK d/\bK a/\Xw d a))):=by
 have r:=((Own.start F).al (dw d x y).toArray 35).al (dw a f c).toArray 35;simp only[bB]at r;have l:=zh (wJ d x y m _ r.az b u t k);have j:=zh (fun w' (h:m.az w')=>wJ a f c m w' h b i g s);have HL:=zh (fun(v:bK d) (v':bK a) w' (h:m.az w')=>Tw (qH 16) d a x y f c m w' h b (u.low v.ht2.1) (t.low v.ht2.2) (i.low v'.ht2.1) (g.low v'.ht2.2) (k.OA v) (s.OA v'));have B:(dw d x y).length=18:=rfl;have n:(dw a f c).length=18:=rfl;have C:=zh r;have A:=r.av.obj.all;unfold bQ at l j HL⊢;generalize dw d x y=D at*
 generalize dw a f c=E at*
 clear r u t i g b k s;refine au fun R hR=>?_
 go_enter func10,ntmps10
 go_wp2_with (first
  |refine aj ek rfl (.tmp 2) rfl rfl D B A ?_
  | fail)
 refine l.o.mono ?_;rintro e H ⟨rfl,q⟩;have HO1:=zh (C.o.aT q);have q1:=HO1.o.obj.all;clear C l q A;by_cases v:bK d
 case neg=>
  have HF:=zh (show tf (bK d/\bK a/\Xw d a)=false from aG fun h=>v h.1);exact qhl
 have HL1:=zh (HL.o v);rw[aN v];have z:=zh v;clear v HL
 go_wp2_with (first
  |refine aj ek rfl (.tmp 3) rfl rfl E n q1 ?_
  | fail)
 refine(j.o _ HO1.o.az).mono ?_;rintro e G ⟨rfl,p⟩;have HO2:=zh (HO1.o.aT p);clear HO1 j p q1;by_cases v':bK a
 case neg=>
  have HF:=zh (show tf (bK d/\bK a/\Xw d a)=false from aG fun h=>v' h.2.1);exact qhm
 have HL2:=zh (HL1.o v');have HF:=zh (show tf (bK d/\bK a/\Xw d a)=tf (pO (df 16) d a) from dY ⟨fun h=>h.2.2,fun h=>⟨z.o,v',h⟩⟩);rw[aN v'];have q2:=HO2.o.av.obj.all;have q3:=HO2.o.obj.all;clear v' HL1
 go_wp2_with (first
  |refine aj ek rfl (.tmp 2) rfl rfl D B q2 ?_
  |refine aj ek rfl (.tmp 3) rfl rfl E n q3 ?_
  | fail)
 exact qgW
theorem kY{N N':Nat}(d a:Vl)(x f:Sl)(m:Mem)(w:zW)(E:m.az w)(b:eD m)(t:aY m N x d)(k:Mv N d)(g:aY m N' f a)(r:Mv N' a):
 zX 15 #[d.val x,a.val f] w (.bool (tf (bK (d,dn)/\bK (a,dn)/\df 16 d a))):=by
 have q:=((Own.start E).al (aZ d x).toArray 33).al (aZ a f).toArray 33;simp only[bB]at q;have u:∀{N:Nat} {d:Vl},Mv N d->iI d->kC 16 d:=fun k s=>by have c:=k.cnp s;exact⟨s,c.src.fit,c.cnt⟩
 have j:=zh (Bz d x m _ q.az b t k);have i:=zh (fun w' (h:m.az w')=>Bz a f m w' h b g r);have HL:=zh (fun(v:bK (d,dn)) (v':bK (a,dn)) w' (h:m.az w')=>qH 16 d a x f m w' h b (t.low v.ht2.1) (g.low v'.ht2.1) (u k v.s1) (u r v'.s1));have A:(aZ d x).length=9:=rfl;have l:(aZ a f).length=9:=rfl;have B:=zh q;have z:=q.av.obj.all;unfold Vl.val at j i HL⊢;generalize aZ d x=D at*
 generalize aZ a f=C at*
 clear q t g b k r u;refine au fun R hR=>?_
 go_enter func15,ntmps15
 go_wp2_with (first
  |refine aj jI rfl (.tmp 2) rfl rfl D A z ?_
  | fail)
 refine j.o.mono ?_;rintro e G ⟨rfl,p⟩;have HO1:=zh (B.o.aT p);have q1:=HO1.o.obj.all;clear B j p z;by_cases v:bK (d,dn)
 case neg=>
  have HF:=zh (show tf (bK (d,dn)/\bK (a,dn)/\df 16 d a)=false from aG fun h=>v h.1);exact qhl
 have HL1:=zh (HL.o v);rw[aN v];have y:=zh v;clear v HL
 go_wp2_with (first
  |refine aj jI rfl (.tmp 3) rfl rfl C l q1 ?_
  | fail)
 refine(i.o _ HO1.o.az).mono ?_;rintro e F ⟨rfl,n⟩;have HO2:=zh (HO1.o.aT n);clear HO1 i n q1;by_cases v':bK (a,dn)
 case neg=>
  have HF:=zh (show tf (bK (d,dn)/\bK (a,dn)/\df 16 d a)=false from aG fun h=>v' h.2.1);exact qhm
 have HL2:=zh (HL1.o v');have HF:=zh (show tf (bK (d,dn)/\bK (a,dn)/\df 16 d a)=tf (df 16 d a) from dY ⟨fun h=>h.2.2,fun h=>⟨y.o,v',h⟩⟩);rw[aN v'];have q2:=HO2.o.av.obj.all;have q3:=HO2.o.obj.all;clear v' HL1
 go_wp2_with (first
  |refine aj jI rfl (.tmp 2) rfl rfl D A q2 ?_
  |refine aj jI rfl (.tmp 3) rfl rfl C l q3 ?_
  | fail)
 exact qgW
end Cl
