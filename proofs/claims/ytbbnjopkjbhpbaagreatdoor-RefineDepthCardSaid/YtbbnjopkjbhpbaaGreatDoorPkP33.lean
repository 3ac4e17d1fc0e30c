/- Lemmas for the proofs of chapter 11. -/
import Derived.Test.YtbbnjopkjbhpbaaGreatDoorPkP23
set_option maxRecDepth 100000
set_option maxHeartbeats 16000000
namespace Cl
open Go Go.RowKit Go.Proofs Tryz
theorem hzW(d d':Vd)(x y x' y':Sl)(m:Mem)(n:Nat)(w:zW)(r:m.ay w)(c:dV m)(h1:bq m n x d.1)(h2:bq m n y d.2)(h1':bq m n x' d'.1)(h2':bq m n y' d'.2)(kd:jw n d)(kd':jw n d')(f1:oq n d.1)(f2:oq n d.2):
 zX 11 #[bP d x y,bP d' x' y'] w (.bool (tf (d=d')&&(tf (jR d.1)&&tf (jR d.2)))):=by
 have hO:=((Own.start r).al (dC d x y).toArray 35).al (dC d' x' y').toArray 35;simp only[bC]at hO;have k:=zh qiV;have s:=zh (fun w' (h:m.ay w')=>C9 d x y m n w' h c h1 h2 f1 f2 kd.1 kd.2);have i:(dC d x y).length=18:=rfl;have f:(dC d' x' y').length=18:=rfl;have HO:=zh hO;have j:=hO.av.obj.all;have b:=hO.obj.all;unfold bP at*
 generalize dC d x y=D at*
 generalize dC d' x' y'=l at*
 clear hO h1 h2 h1' h2' f1 f2;generalize (tf (jR d.1)&&tf (jR d.2))=u at*
 generalize tf (d=d')=s2 at*
 refine au fun R hR=>?_
 go_enter func11,ntmps11
 cases s2
 .go_wp2_with (first
   |refine aj dU rfl (.tmp 2) rfl rfl D i j ?_
   |refine aj dU rfl (.tmp 3) rfl rfl l f b ?_
   | (go_at_call 31;refine k.o.mono ?_;rintro e p ⟨rfl,hb1⟩))
  exact qgI
 .go_wp2_with (first
   |refine aj dU rfl (.tmp 3) rfl rfl l f b ?_
   |(go_at_call 31;refine k.o.mono ?_;rintro e p ⟨rfl,hb1⟩;have a:=HO.o.aS hb1;have q:=a.av.obj.all)
   |refine aj dU rfl (.tmp 2) rfl rfl D i q ?_
   |refine aj dU rfl (.tmp 2) rfl rfl D i j ?_
   | (go_at_call 17;refine(s.o _ a.ay).mono ?_;rintro e t ⟨rfl,g⟩))
  exact hR.o _ _ ⟨rfl,(a.aS g).az⟩
end Cl
