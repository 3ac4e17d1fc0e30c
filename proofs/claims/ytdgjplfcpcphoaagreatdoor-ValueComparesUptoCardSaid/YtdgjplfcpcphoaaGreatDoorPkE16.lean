/- Lemmas for the proofs of chapter 11. -/
import Derived.Test.YtdgjplfcpcphoaaGreatDoorPkE14
import Derived.Test.YtdgjplfcpcphoaaGreatDoorPkE15
set_option maxRecDepth 100000
set_option maxHeartbeats 16000000
namespace Cl
open Go Go.RowKit Go.Proofs
def ScV(s:RS)(M:Mem)(v:zV):Prop:=∃g e d c b a,v=.agg #[.bool s.gY,.bool s.iF,.bool s.iZ,.slice g s.i.length e,.slice d s.f.length c,.slice b s.t.length a]/\nU M (.slice g s.i.length e) (.slice d s.f.length c) (.slice b s.t.length a) s
theorem ScV.le{s:RS}{m m':Mem}(h:m.le m'){v:zV}(k:ScV s m v):ScV s m' v:=by
 obtain⟨a,b,c,d,e,f,i,g⟩:=k;exact⟨a,b,c,d,e,f,i,g.le h⟩
end Cl
namespace Cl
open Go Go.RowKit Go.Proofs Tryz
def Y9:Option El->Dt
 |none=>.mk 0 0 ⟨#[]⟩ [] [] []
 |some e=>bzN e
def azM(o:Option (List UInt8)):ByteArray:=match o with|some x=>fo x|none=>⟨#[]⟩
theorem Y1(o:Option (List UInt8)):QH o=.tuple #[.string (azM o),.bool o.isSome]:=rfl
theorem OD{x:RS}(d:x.gY=false)(c:x.iF=false)(b:x.iZ=false)(a:dm x.ns=none){r:Option (List UInt8)}(h:ji (Sem x.t) r):nV x.has (r.map .str):=Q5 d c b a h
theorem Nl(M N L:zV)(s:RS)(m:Mem)(w:zW)(hm:m.ay w)(d:gD m)(Y:nU m M N L s)(hl:uW s 30000 100000):
 zC 62 #[s.val M N L] w fun e w'=>∃r,e=.returned (.tuple #[(Y9 r).val (.slice none 0 0) (.slice none 0 0),.bool r.isSome])/\zB w w'/\nV (qP s).has r:=by
 have b:=((Own.start hm).al #[.bool s.gY,.bool s.iF,.bool s.iZ,M,N,L] 29).al #[.int .i64 0,.int .i64 0,.string ⟨#[]⟩,.slice none 0 0,.slice none 0 0] 85;simp only[bR]at b;have HG:=zh (Qk M N L s m _ b.ay d Y (hl.mono zo zo));have O:=XG hl;obtain⟨a1,b1,a2,b2,a3,b3,rfl,rfl,rfl⟩:=Y.eG;unfold RS.val at HG⊢;have HO:=zh b;clear b Y hl;generalize qP s=x at*
 have l:=zh (zi (fun h:x.gY=true=>Q7 h) (zi (fun(h:x.gY=false) (k:x.iF=true)=>Q8 h k) (zi (fun(h:x.gY=false) (k:x.iF=false) (B:x.iZ=true)=>Q4 h k B)
  (zi (fun(h:x.gY=false) (k:x.iF=false) (B:x.iZ=false) u (h3:dm x.ns=some u)=>Q6 h k B h3) (fun(h:x.gY=false) (k:x.iF=false) (B:x.iZ=false) (h3:dm x.ns=none) r (h4:ji (Sem x.t) r)=>OD h k B h3 h4)))))
 have Z:=O.i;have a':=O.f;have y':=O.t;clear O;refine aj fun R hR=>?_
 go_enter func62,ntmps62
 go_wp2_with fail
 refine HG.o.mono ?_;rintro e w1 ⟨ri,rf,rt,rfl,A,P⟩;have g:=(HO.o.call A).au;obtain⟨ra,rb,rc,rd,re,n,rfl,rfl,rfl⟩:=P.eG;obtain⟨p0,p1,p2,p3,p4,p5,W,V,U,T,S,Q⟩:=g.obj.cf6;have pl:=g.obj.lt;have a:=((((((g.set 0 (.bool x.gY)).set 1 (.bool x.iF)).set 2 (.bool x.iZ)).set 3 (.slice ra x.i.length rb)).set 4 (.slice rc x.f.length rd)).set 5 (.slice re x.t.length n));have a:Own _ _ _ _ (.obj _ 29 #[.bool x.gY,.bool x.iF,.bool x.iZ,.slice ra x.i.length rb,.slice rc x.f.length rd,.slice re x.t.length n]::_):=a;have HN:=zh (wm _ _ x.i x.f _ _ a.ay P.nums Z a');have HL:=zh (fun w' (h:Mem.ay _ w')=>rA _ x.t _ w' h (d.le qfu) P.t zo);have K:=zh a;generalize p:dm (dz x.i x.f)=rn at*
 have j:dm x.ns=rn:=p;rw[j]at l;clear g a HG HO A P d p j
 go_wp2_with fail
 refine HN.o.mono ?_;rintro e w2 ⟨rfl,y⟩;have b:=K.o.aP y;have q5:=b.obj.c 5;have q6:=b.obj.lt;have HO:=zh b;clear b HN K y p0 p1 p2 p3 p4 p5 W V U T S Q pl
 go_wp2_with fail
 refine(HL.o _ HO.o.ay).mono ?_;rintro e w3 ⟨o,rfl,q,ho⟩;rw[Y1];have b:=HO.o.aP q;have J:=zh ho;have q0:=b.obj.c 0;have q1:=b.obj.c 1;have q2:=b.obj.c 2;have q6:=b.obj.lt;have b:=b.au;clear HL HO q ho q5;generalize x.gY=bn at*
 generalize x.iF=bf at*
 generalize x.iZ=bt at*
 cases bn with
 |true=>
  obtain⟨H,G,F,E,D,I,f1,f2,f3,f4⟩:=b.obj.cf5;have C:=b.obj.lt;have a:=((((b.set 0 (.int .i64 1)).set 1 (.int .i64 0)).set 2 (.string ⟨#[]⟩)).set 3 (.slice none 0 0)).set 4 (.slice none 0 0);have a:Own _ _ _ _ (.obj _ 85 #[.int .i64 1,.int .i64 0,.string ⟨#[]⟩,.slice none 0 0,.slice none 0 0]::_):=a;obtain⟨k0,k1,k2,k3,k4⟩:=a.obj.cs5;have Hk:=zh (zi a.az (l.o.1 rfl));clear b a;go_wp2;refine yV (v:=.tuple #[.agg #[.int .i64 1,.int .i64 0,.string ⟨#[]⟩,.slice none 0 0,.slice none 0 0],.bool true]) qd9 rfl ?_
  exact hR.o _ _ ⟨some .gY,rfl,Hk.o.1,Hk.o.2⟩
 |false=>
  cases bf with
  |true=>
   obtain⟨H,G,F,E,D,I,f1,f2,f3,f4⟩:=b.obj.cf5;have C:=b.obj.lt;have a:=((((b.set 0 (.int .i64 2)).set 1 (.int .i64 0)).set 2 (.string ⟨#[]⟩)).set 3 (.slice none 0 0)).set 4 (.slice none 0 0);have a:Own _ _ _ _ (.obj _ 85 #[.int .i64 2,.int .i64 0,.string ⟨#[]⟩,.slice none 0 0,.slice none 0 0]::_):=a;obtain⟨k0,k1,k2,k3,k4⟩:=a.obj.cs5;have Hk:=zh (zi a.az (l.o.2.1 rfl rfl));clear b a;go_wp2;refine yV (v:=.tuple #[.agg #[.int .i64 2,.int .i64 0,.string ⟨#[]⟩,.slice none 0 0,.slice none 0 0],.bool true]) qd9 rfl ?_
   exact hR.o _ _ ⟨some .iF,rfl,Hk.o.1,Hk.o.2⟩
  |false=>
   cases bt with
   |true=>
    obtain⟨H,G,F,E,D,I,f1,f2,f3,f4⟩:=b.obj.cf5;have C:=b.obj.lt;have a:=((((b.set 0 (.int .i64 2)).set 1 (.int .i64 1)).set 2 (.string ⟨#[]⟩)).set 3 (.slice none 0 0)).set 4 (.slice none 0 0);have a:Own _ _ _ _ (.obj _ 85 #[.int .i64 2,.int .i64 1,.string ⟨#[]⟩,.slice none 0 0,.slice none 0 0]::_):=a;obtain⟨k0,k1,k2,k3,k4⟩:=a.obj.cs5;have Hk:=zh (zi a.az (l.o.2.2.1 rfl rfl rfl));clear b a;go_wp2;refine yV (v:=.tuple #[.agg #[.int .i64 2,.int .i64 1,.string ⟨#[]⟩,.slice none 0 0,.slice none 0 0],.bool true]) qd9 rfl ?_
    exact hR.o _ _ ⟨some .iZ,rfl,Hk.o.1,Hk.o.2⟩
   |false=>
    cases rn with
    |some u=>
     obtain⟨H,G,F,E,D,I,f1,f2,f3,f4⟩:=b.obj.cf5;have C:=b.obj.lt;have a:=((((b.set 0 (.int .i64 3)).set 1 (.int .i64 u)).set 2 (.string ⟨#[]⟩)).set 3 (.slice none 0 0)).set 4 (.slice none 0 0);have a:Own _ _ _ _ (.obj _ 85 #[.int .i64 3,.int .i64 u,.string ⟨#[]⟩,.slice none 0 0,.slice none 0 0]::_):=a;obtain⟨k0,k1,k2,k3,k4⟩:=a.obj.cs5;have Hk:=zh (zi a.az (l.o.2.2.2.1 rfl rfl rfl u rfl));clear b a;go_wp2;refine yV (v:=.tuple #[.agg #[.int .i64 3,.int .i64 u,.string ⟨#[]⟩,.slice none 0 0,.slice none 0 0],.bool true]) qd9 rfl ?_
     exact hR.o _ _ ⟨some (.num u),rfl,Hk.o.1,Hk.o.2⟩
    |none=>
     cases o with
     |some z=>
      have X:azM (some z)=fo z:=rfl;rw[X];obtain⟨H,G,F,E,D,I,f1,f2,f3,f4⟩:=b.obj.cf5;have C:=b.obj.lt;have a:=((((b.set 0 (.int .i64 4)).set 1 (.int .i64 0)).set 2 (.string (fo z))).set 3 (.slice none 0 0)).set 4 (.slice none 0 0);have a:Own _ _ _ _ (.obj _ 85 #[.int .i64 4,.int .i64 0,.string (fo z),.slice none 0 0,.slice none 0 0]::_):=a;obtain⟨k0,k1,k2,k3,k4⟩:=a.obj.cs5;have Hk:=zh (zi a.az (l.o.2.2.2.2 rfl rfl rfl rfl (some z) J.o));clear b a;go_wp2;refine yV (v:=.tuple #[.agg #[.int .i64 4,.int .i64 0,.string (fo z),.slice none 0 0,.slice none 0 0],.bool true]) qd9 rfl ?_
      exact hR.o _ _ ⟨some (.str z),rfl,Hk.o.1,Hk.o.2⟩
     |none=>
      have X:azM none=⟨#[]⟩:=rfl;rw[X];obtain⟨H,G,F,E,D,I,f1,f2,f3,f4⟩:=b.obj.cf5;have C:=b.obj.lt;have a:=((((b.set 0 (.int .i64 0)).set 1 (.int .i64 0)).set 2 (.string ⟨#[]⟩)).set 3 (.slice none 0 0)).set 4 (.slice none 0 0);have a:Own _ _ _ _ (.obj _ 85 #[.int .i64 0,.int .i64 0,.string ⟨#[]⟩,.slice none 0 0,.slice none 0 0]::_):=a;obtain⟨k0,k1,k2,k3,k4⟩:=a.obj.cs5;have Hk:=zh (zi a.az (l.o.2.2.2.2 rfl rfl rfl rfl none J.o));clear b a;go_wp2;refine yV (v:=.tuple #[.agg #[.int .i64 0,.int .i64 0,.string ⟨#[]⟩,.slice none 0 0,.slice none 0 0],.bool false]) qd9 rfl ?_;exact qcP
theorem L8{s:RS}{r:Option El}(h:nV (qP s).has r):rE s = !r.isSome:=by
 cases r with
 |none=>rw[O0 h];rfl
 |some e=>rw[OZ h];rfl
theorem Nn(f g d:zV)(s:RS)(m:Mem)(w:zW)(q:m.ay w)(a:gD m)(h:nU m f g d s)(t:uW s 30000 100000):
 zX 44 #[s.val f g d] w (.bool (rE s)):=by
 have i:=(Own.start q).al #[.bool s.gY,.bool s.iF,.bool s.iZ,f,g,d] 29;have j:=zh (Nl f g d s m _ i.ay a h t);obtain⟨E,B,D,A,C,z,rfl,rfl,rfl⟩:=h.eG;unfold RS.val at j⊢;have p:=zh i;clear i h;refine aj fun R u=>?_
 go_enter func44,ntmps44
 go_wp2_with fail
 refine j.o.mono ?_;rintro e y ⟨r,rfl,c,l⟩;have v:=zh (L8 l);have x:=zh (p.o.aP c).az;unfold Dt.val;generalize r.isSome=b at*
 generalize (Y9 r).kind=k at*
 generalize (Y9 r).num=n at*
 generalize (Y9 r).str=st at*
 clear p j c l;go_wp2;exact u.o _ _ ⟨aS (by rw[v.o]),bE x.o _⟩
def Bf(a b:RS)(c:Int):Prop:=(a.gB/\b.gB/\mr a.has b.has c)\/(¬(a.gB/\b.gB)/\c=0)
theorem AX:prog.eqGuardType prog.depth 124=false:=by kernel_rfl
theorem AJ(a b d c:Bool)(w:zW):(Op.equalIn 10000 124 (.agg #[.bool a,.bool b]) (.agg #[.bool d,.bool c])).run prog w=.ok (a==d&&b==c) w:=by
 cases a<;>cases b<;>cases d<;>cases c<;>kernel_rfl
theorem azC(a b c d e f:Bool)(w:zW):(Instr.index 125 (.agg #[.bool a,.bool b,.bool c,.bool d,.bool e,.bool f]) (.int .i64 0)).run prog w=.ok (.agg #[.bool a,.bool b]) w:=by kernel_rfl
theorem azB(a b c d e f:Bool)(w:zW):(Instr.index 125 (.agg #[.bool a,.bool b,.bool c,.bool d,.bool e,.bool f]) (.int .i64 1)).run prog w=.ok (.agg #[.bool c,.bool d]) w:=by kernel_rfl
theorem azA(a b c d e f:Bool)(w:zW):(Instr.index 125 (.agg #[.bool a,.bool b,.bool c,.bool d,.bool e,.bool f]) (.int .i64 2)).run prog w=.ok (.agg #[.bool e,.bool f]) w:=by kernel_rfl
theorem I6(M N L:zV)(A:RS)(P Q O:zV)(B:RS)(na S nb tb:Nat)(m:Mem)(w:zW)(hm:m.ay w)(j:gD m)(ha:nU m M N L A)(hb:nU m P Q O B)(la:uW A na S)(lb:uW B nb tb)(W:na<=250)(V:nb<=250)(ht:(S+2)*(tb+2)<=300000):
 zC 75 #[A.val M N L,B.val P Q O] w fun e w'=>∃c,e=.returned (.int .i64 c)/\zB w w'/\Bf A B c:=by
 have r':S+2<=(S+2)*(tb+2):=Nat.le_mul_of_pos_right _ zo;have q':tb+2<=(S+2)*(tb+2):=Nat.le_mul_of_pos_left _ zo;have U:(A.t.length+2)*(B.t.length+2)<=300000:=yJ (xV (Nat.add_le_add_right la.t 2) (Nat.add_le_add_right lb.t 2)) ht;have a:=((Own.start hm).al #[.bool A.gY,.bool A.iF,.bool A.iZ,M,N,L] 29).al #[.bool B.gY,.bool B.iF,.bool B.iZ,P,Q,O] 29;simp only[bR]at a;have h':=zh (qH M N L A m _ a.ay j ha (la.mono zo zo));have v:=zh (fun w' (h:m.ay w')=>qH P Q O B m w' h j hb (lb.mono zo zo));have HN:=zh (fun w' (h:m.ay w')=>Jd M N P Q A.i A.f B.i B.f m w' h ha.nums hb.nums (yJ la.i W) (yJ la.f W) (yJ lb.i V) (yJ lb.f V));have HL:=zh (fun w' (h:m.ay w')=>uL L O A.t B.t m w' h j ha.t hb.t U);obtain⟨a1,b1,a2,b2,a3,b3,rfl,rfl,rfl⟩:=ha.eG;obtain⟨c1,d1,c2,d2,c3,d3,rfl,rfl,rfl⟩:=hb.eG;unfold RS.val;have g:=zh a;clear a ha hb j r' q' U ht;refine aj fun R hR=>?_
 go_enter func75,ntmps75
 go_wp2_with fail
 refine h'.o.mono ?_;rintro e w1 ⟨rfl,e'⟩;have a:=g.o.aP e';clear h' g e';by_cases p:A.gB
 case neg=>
  rw[aA p];have HB:=zh a.az;have HC:=zh (show Bf A B 0 from .inr ⟨fun h=>p h.1,rfl⟩);clear a p v HN HL;exact qbY
 rw[aO p];have HA:=zh p;clear p;obtain⟨q0,C,y,x,q4,q5⟩:=a.obj.cs6;have r:=a.obj.lt;have g:=zh a;clear a
 go_wp2_with fail
 refine(v.o _ g.o.ay).mono ?_;rintro e w2 ⟨rfl,d'⟩;have a:=g.o.aP d';clear v g d' q0 C y x q4 q5 r;by_cases l:B.gB
 case neg=>
  rw[aA l];have HB:=zh a.az;have HC:=zh (show Bf A B 0 from .inr ⟨fun h=>l h.2,rfl⟩);clear a l HN HL;exact qbY
 rw[aO l];have E:=zh (fun(c:Int) (h:mr A.has B.has c)=>show Bf A B c from .inl ⟨HA.o,l,h⟩);clear l HA;have l':=zh (fun(h:A.gY≠B.gY)=>E.o _ (Ib h));have k':=zh (fun(u:A.gY=B.gY) (h:A.iF≠B.iF)=>E.o _ (Ic u h));have HE3:=zh (fun(u:A.gY=B.gY) (q:A.iF=B.iF) (h:A.iZ≠B.iZ)=>E.o _ (Hz u q h));have t':=zh (fun(u:A.gY=B.gY) (q:A.iF=B.iF) (D:A.iZ=B.iZ) (h:lC A.ns B.ns≠0)=>E.o _ (Ia u q D h));have s':=zh (fun(u:A.gY=B.gY) (q:A.iF=B.iF) (D:A.iZ=B.iZ) (h:lC A.ns B.ns=0) (c:Int) (k:fC (Sem A.t) (Sem B.t) c)=>E.o _ (H9 u q D h k));have Y:lC (dz A.i A.f) (dz B.i B.f)=lC A.ns B.ns:=rfl;rw[Y]at HN;clear E Y;generalize Bf A B=CS at*
 generalize lC A.ns B.ns=cn at*
 generalize fC (Sem A.t) (Sem B.t)=CI at*
 generalize A.gY=K at*
 generalize A.iF=J at*
 generalize A.iZ=I at*
 generalize B.gY=H at*
 generalize B.iF=G at*
 generalize B.iZ=F at*
 have q0:=a.obj.c 0;have C:=a.obj.c 1;have y:=a.obj.c 2;have r:=a.obj.lt;have p0:=a.au.obj.c 0;have p1:=a.au.obj.c 1;have p2:=a.au.obj.c 2;have T:=a.au.obj.lt;have g:=zh a;clear a;go_wp2;refine av [2,3,32,33] (fun n vs wr=>∃k:Nat,k<=3/\n=3-k/\vs=[.pointer (some ⟨w.heap.size,0,none⟩),.pointer (some ⟨w.heap.size+1,0,none⟩),.agg #[.bool K,.bool H,.bool J,.bool G,.bool I,.bool F],.int .i64 k] /\
  (1<=k->K=H)/\(2<=k->J=G)/\(3<=k->I=F)/\Own w m wr m [.obj (w.heap.size+1) 29 #[.bool H,.bool G,.bool F,.slice c1 B.i.length d1,.slice c2 B.f.length d2,.slice c3 B.t.length d3],.obj w.heap.size 29 #[.bool K,.bool J,.bool I,.slice a1 A.i.length b1,.slice a2 A.f.length b2,.slice a3 A.t.length b3]]) ?_ ?_
 .exact⟨_,0,zo,rfl,rfl,fun h=>zo,fun h=>zo,fun h=>zo,g.o⟩
 rintro X z n vs wr hX-⟨k,hk,rfl,rfl,q,D,h3,a⟩;clear g q0 C y r p0 p1 p2 T;simp[aX,lk];have H1:=zh q;have H2:=zh D;have H3:=zh h3;have g:=zh a;clear q D h3;rcases(show k=0\/k=1\/k=2\/k=3 by omega)with rfl|rfl|rfl|rfl
 .have b:=a.al #[.bool K,.bool H] 124;have C:=b.obj.c 0;have y:=b.obj.c 1;have x:=b.obj.lt;have HO2:=zh b.tail;have hq:=AJ;have a':=AX;have Z:=azC;clear a b;cases K<;>cases H
  all_goals go_wp2
  .exact qcL
  .exact hR.o _ _ ⟨_,rfl,HO2.o.az,l'.o zD⟩
  .exact hR.o _ _ ⟨_,rfl,HO2.o.az,l'.o zD⟩
  .exact qcL
 .have b:=a.al #[.bool J,.bool G] 124;have C:=b.obj.c 0;have y:=b.obj.c 1;have x:=b.obj.lt;have HO2:=zh b.tail;have hq:=AJ;have a':=AX;have Z:=azB;clear a b;cases J<;>cases G
  all_goals go_wp2
  .exact qcE
  .exact hR.o _ _ ⟨_,rfl,HO2.o.az,k'.o (H1.o zo) zD⟩
  .exact hR.o _ _ ⟨_,rfl,HO2.o.az,k'.o (H1.o zo) zD⟩
  .exact qcE
 .have b:=a.al #[.bool I,.bool F] 124;have C:=b.obj.c 0;have y:=b.obj.c 1;have x:=b.obj.lt;have HO2:=zh b.tail;have hq:=AJ;have a':=AX;have Z:=azA;clear a b;cases I<;>cases F
  all_goals go_wp2
  .exact qcz
  .exact qdt
  .exact qdt
  .exact qcz
 .have x:=a.obj.c 3;have q4:=a.obj.c 4;have r:=a.obj.lt;have p3:=a.au.obj.c 3;have p4:=a.au.obj.c 4;have T:=a.au.obj.lt;clear a
  go_wp2_with fail
  refine(HN.o _ g.o.ay).mono ?_;rintro e w4 ⟨rfl,c'⟩;have d:=g.o.aP c';clear HN g c' x q4 r p3 p4 T;by_cases s:cn=0
  .subst s;have q5:=d.obj.c 5;have r:=d.obj.lt;have p5:=d.au.obj.c 5;have T:=d.au.obj.lt;have g:=zh d;clear d
   go_wp2_with fail
   refine(HL.o _ g.o.ay).mono ?_;rintro e w5 ⟨c,rfl,b',s⟩;have HB:=zh (g.o.aP b').az;have HC:=zh (s'.o (H1.o zo) (H2.o zo) (H3.o zo) zS c s);clear HL g b' q5 r p5 T s;go_wp2;exact hR.o _ _ ⟨_,rfl,HB.o,HC.o⟩
  .have HC:=zh (t'.o (H1.o zo) (H2.o zo) (H3.o zo) s);have HB:=zh d.az;have L':(cn != 0)=true:=by simpa using s
   clear d s HL;go_wp2;exact hR.o _ _ ⟨_,rfl,HB.o,HC.o⟩
end Cl
