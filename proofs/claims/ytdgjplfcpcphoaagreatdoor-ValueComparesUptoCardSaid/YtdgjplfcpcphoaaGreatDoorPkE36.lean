/- Lemmas for the proofs of chapter 11. -/
import Derived.Test.YtdgjplfcpcphoaaGreatDoorPkE35
set_option maxRecDepth 100000
set_option maxHeartbeats 16000000
namespace Cl
open Go Go.RowKit Go.Proofs Tryz
open Classical in
theorem FQ(v v':Vl)(s d:Sl)(m:Mem)(n:Nat)(w:zW)(H:m.ay w)(a:gD m)(D:16<=n)(z:bG m n s v)(f:bG m n d v')(f1:eT n v)(f2:eT n v')(u:dw n v<=1048576)(t:dw n v'<=1048576):
 zX 26 #[v.val s,v'.val d] w (.int .i64 (wN n v v')):=by
 have k:=((Own.start H).al (bu v s).toArray 33).al (bu v' d).toArray 33;simp only[bR]at k;have j:=kQ v s m n _ k.ay a z f1 u;have i:=fun w' (h:m.ay w')=>kQ v' d m n w' h a f f2 t;have p:=zh (fun w' (h:m.ay w') (b:eQ v) (c:eQ v')=>Az n v v' s d m w' h a z f ⟨b.mono D,f1,u⟩ ⟨c.mono D,f2,t⟩);have HO:=zh k;have l:(bu v s).length=9:=rfl;have g:(bu v' d).length=9:=rfl;have y:=k.au.obj.all;unfold Vl.val at*
 clear k z f f1 f2 u t;generalize bu v s=N at*
 generalize bu v' d=A at*
 refine aj fun R hR=>?_;by_cases b:eQ v
 case neg=>
  rw[aA b]at j;have q:=zh j;have HX:=zh (show wN n v v'=0 by unfold wN;rw[zJ (fun h=>b h.1)]);clear j i p b
  go_enter func26,ntmps26
  go_wp2_with (first
   |(go_at_call 48;refine q.o.mono ?_;rintro e C ⟨rfl,hb1⟩)
   | refine ae iH rfl (.tmp 2) rfl rfl N l y ?_)
  exact qb9
 rw[aO b]at j;have q:=zh j;clear j;by_cases c:eQ v'
 case neg=>
  rw[aA c]at i;have B:=zh i;have HX:=zh (show wN n v v'=0 by unfold wN;rw[zJ (fun h=>c h.2)]);clear i p b c
  go_enter func26,ntmps26
  go_wp2_with (first
   | (go_at_call 48;first
    |(refine(B.o _ hO1.ay).mono ?_;rintro e E ⟨rfl,hb2⟩)
    | (refine q.o.mono ?_;rintro e C ⟨rfl,hb1⟩;have hO1:=HO.o.aP hb1;have x:=hO1.obj.all))
   |refine ae iH rfl (.tmp 3) rfl rfl A g x ?_
   | refine ae iH rfl (.tmp 2) rfl rfl N l y ?_)
  exact qcd
 rw[aO c]at i;have B:=zh i;have I:=zh (fun w' (h:m.ay w')=>p.o w' h b c);have HX:=zh (show wN n v v'=dn n v v' by unfold wN;rw[zK ⟨b,c⟩]);clear i p b c;generalize dn n v v'=r at*
 go_enter func26,ntmps26
 go_wp2_with (first
  | (go_at_call 48;first
   |(refine(B.o _ hO1.ay).mono ?_;rintro e E ⟨rfl,hb2⟩;have hO2:=hO1.aP hb2;have G:=hO2.au.obj.all;have F:=hO2.obj.all)
   | (refine q.o.mono ?_;rintro e C ⟨rfl,hb1⟩;have hO1:=HO.o.aP hb1;have x:=hO1.obj.all))
  |refine ae iH rfl (.tmp 2) rfl rfl N l G ?_
  |refine ae iH rfl (.tmp 3) rfl rfl A g F ?_
  |refine ae iH rfl (.tmp 3) rfl rfl A g x ?_
  |refine ae iH rfl (.tmp 2) rfl rfl N l y ?_
  | (go_at_call 54;refine(I.o _ hO2.ay).mono ?_;rintro e J ⟨rfl,hb3⟩))
 exact qdO
theorem Lj(d c:Vd)(x y v u:Sl)(m:Mem)(n:Nat)(w:zW)(hm:m.ay w)(p:gD m)(t:16<=n)(V:bG m n x d.1)(U:bG m n y d.2)(C:bG m n v c.1)(B:bG m n u c.2)(I:jc n d)(l:jc n c)(f1:eT n d.1)(f2:eT n d.2)(F:eT n c.1)(E:eT n c.2):
 zX 28 #[dE d x y,dE c v u] w (.bool (tf (d=c)&&(tf (eQ d.1)&&tf (eQ d.2)))):=by
 have J:=((Own.start hm).al (fK d x y).toArray 35).al (fK c v u).toArray 35;simp only[bR]at J;have H:=BC d x y m n _ J.ay p V U f1 f2 I.1 I.2;have f:=fun w' (h:m.ay w')=>BC c v u m n w' h p C B F E l.1 l.2;have hV:=fun w' (h:m.ay w') (g:eQ d.1/\eQ d.2) (j:eQ c.1/\eQ c.2)=>rV (Az n) d c x y v u m w' h p V U C B ⟨⟨g.1.mono t,f1,I.1⟩,g.2.mono t,f2,I.2⟩ ⟨⟨j.1.mono t,F,l.1⟩,j.2.mono t,E,l.2⟩;have L:=zh (fun(g:eQ d.1/\eQ d.2) (j:eQ c.1/\eQ c.2)=>(ER (yg n)).eq d c ⟨g.1.mono t,g.2.mono t⟩ ⟨j.1.mono t,j.2.mono t⟩);have M:(fK d x y).length=18:=rfl;have A:(fK c v u).length=18:=rfl;have X:=zh J;have Q:=J.au.obj.all;unfold dE at*
 generalize fK d x y=D at*
 generalize fK c v u=Y at*
 have N:=zh hV;clear J V U C B f1 f2 F E I l hV;refine aj fun R T=>?_;by_cases g:eQ d.1/\eQ d.2
 case neg=>
  have e:(tf (eQ d.1)&&tf (eQ d.2))=false:=by
   by_cases a:eQ d.1
   .rw[aA (fun b=>g ⟨a,b⟩)];simp
   .rw[aA a];rfl
  rw[e]at H;have O:=zh H;have HX:=zh (show(tf (d=c)&&(tf (eQ d.1)&&tf (eQ d.2)))=false by rw[e];simp);clear H f N L g e
  go_enter func28,ntmps28
  go_wp2_with (first
   |(go_at_call 19;refine O.o.mono ?_;rintro e Z ⟨rfl,q⟩)
   | refine ae iY rfl (.tmp 2) rfl rfl D M Q ?_)
  exact T.o _ _ ⟨aS qez,(X.o.aP q).az⟩
 have e:(tf (eQ d.1)&&tf (eQ d.2))=true:=by rw[aO g.1,aO g.2];rfl
 rw[e]at H;have O:=zh H;clear H;by_cases j:eQ c.1/\eQ c.2
 case neg=>
  have K:(tf (eQ c.1)&&tf (eQ c.2))=false:=by
   by_cases a:eQ c.1
   .rw[aA (fun b=>j ⟨a,b⟩)];simp
   .rw[aA a];rfl
  rw[K]at f;have G:=zh f;have HX:=zh (show(tf (d=c)&&(tf (eQ d.1)&&tf (eQ d.2)))=false by
   rw[aA (fun h=>j (by rw[<-h];exact g))];rfl)
  clear f N L g j e K
  go_enter func28,ntmps28
  go_wp2_with (first
   | (go_at_call 19;first
    |(refine(G.o _ i.ay).mono ?_;rintro e w2 ⟨rfl,z⟩)
    | (refine O.o.mono ?_;rintro e Z ⟨rfl,q⟩;have i:=X.o.aP q;have P:=i.obj.all))
   |refine ae iY rfl (.tmp 3) rfl rfl Y A P ?_
   | refine ae iY rfl (.tmp 2) rfl rfl D M Q ?_)
  exact T.o _ _ ⟨aS qez,(i.aP z).az⟩
 have K:(tf (eQ c.1)&&tf (eQ c.2))=true:=by rw[aO j.1,aO j.2];rfl
 rw[K]at f;have G:=zh f;have W:=zh (fun w' (h:m.ay w')=>N.o w' h g j);have HX:=zh (show(Cz (dn n) d c==0)=(tf (d=c)&&(tf (eQ d.1)&&tf (eQ d.2)))by
  rw[e,Bool.and_true];by_cases h:d=c
  .rw[aO h,(L.o g j).2 h];rfl
  .rw[aA h];exact zO.2 fun k=>h ((L.o g j).1 k))
 clear f N L g j e K;generalize Cz (dn n) d c=r at*
 go_enter func28,ntmps28
 go_wp2_with (first
  | (go_at_call 19;first
   |(refine(G.o _ i.ay).mono ?_;rintro e w2 ⟨rfl,z⟩;have s:=i.aP z;have q2:=s.au.obj.all;have q3:=s.obj.all)
   | (refine O.o.mono ?_;rintro e Z ⟨rfl,q⟩;have i:=X.o.aP q;have P:=i.obj.all))
  |refine ae iY rfl (.tmp 2) rfl rfl D M q2 ?_
  |refine ae iY rfl (.tmp 3) rfl rfl Y A q3 ?_
  |refine ae iY rfl (.tmp 3) rfl rfl Y A P ?_
  |refine ae iY rfl (.tmp 2) rfl rfl D M Q ?_
  | (go_at_call 56;refine(W.o _ s.ay).mono ?_;rintro e w3 ⟨rfl,S⟩))
 exact T.o _ _ ⟨aS (by rw[<-HX.o]),(s.aP S).az⟩
end Cl
