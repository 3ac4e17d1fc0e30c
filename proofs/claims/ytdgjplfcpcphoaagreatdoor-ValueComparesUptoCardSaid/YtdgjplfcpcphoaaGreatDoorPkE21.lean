/- Lemmas for the proofs of chapter 11. -/
import Derived.Test.YtdgjplfcpcphoaaGreatDoorPkE2
set_option maxRecDepth 100000
set_option maxHeartbeats 16000000
namespace Cl
theorem azN(I F a b:List bT):dz (I++a) (F++b)=LH (dz I F) (dz a b):=AP (jf _ _) (AL (jf _ _) (jf _ _)) fun u=>by
 rw[EY,qJ,qJ,qJ,<-and_or_left];refine and_congr_right fun _=>?_;simp only[vR,D7];by_cases c:u%10000=0<;>simp[c]
end Cl
namespace Cl
theorem jh.unique{p:Int->Prop}{r s:Option Int}(h:jh p r)(k:jh p s):r=s:=by
 cases r with
 |none=>cases s with
  |none=>rfl
  |some u=>exact absurd (k.one u rfl).1 (h.no rfl u)
 |some u=>cases s with
  |none=>exact absurd (h.one u rfl).1 (k.no rfl u)
  |some v=>
   obtain⟨f,d⟩:=h.one u rfl;obtain⟨c,b⟩:=k.one v rfl;rcases d v c with e|e
   .rw[e]
   .rcases b u f with a|a
    .rw[a]
    .exact absurd e (nQ a)
def Ih(x:NS):List Int:=x.i.flatMap (fun s=>[s.1*10000,s.2*10000])++x.rf.flatMap (fun s=>[s.1,s.2]++if s.1<0/\s.2 > 0 then[1]else[])
def Fe(x:NS):Prop:=∃s∈x.i,s.1<=0/\s.2 >= 0
theorem Q0{x:NS}(a:Fe x):jh x.has (some 0):=by
 obtain⟨s,c,e,d⟩:=a;refine jh.mk (fun h=>by cases h) fun u b=>?_;obtain rfl:0=u:=Option.some.inj b;refine⟨by simpa using Ka c e d,fun v _=>?_⟩;unfold iB;omega
theorem UV{x:NS}(h:gM x)(i:¬Fe x):jh x.has (d9 (Ih x) none):=by
 refine jh.Te (fun u a=>?_) fun v k=>?_
 .rcases yP.1 a with a|a
  .obtain⟨s,b,a⟩:=xW.1 a;have:=h.ni.ok s b;simp only[yA,List.not_mem_nil,or_false]at a;rcases a with rfl|rfl
   .exact Ka b (xU _) this
   .exact Ka b this (xU _)
  .obtain⟨s,b,a⟩:=xW.1 a;obtain⟨g,f,d⟩:=Lg h b;rcases yP.1 a with a|a
   .simp only[yA,List.not_mem_nil,or_false]at a;rcases a with rfl|rfl
    .exact CV b f (xU _) g
    .exact CV b d g (xU _)
   .split at a
    .rename_i q;simp only[yA,List.not_mem_nil,or_false]at a;subst a;exact CV b zD zo zo
    .cases a
 .rcases Kb k with⟨s,b,n,rfl,o,m⟩|⟨s,b,p,o,m⟩
  .have c:s.1 > 0\/s.2<0:=by
    refine zP fun r=>i ⟨s,b,?_,?_⟩<;>omega
   rcases c with c|c
   .refine⟨s.1*10000,xI _ (xW.2 ⟨s,b,zS⟩),?_⟩;unfold iB;omega
   .refine⟨s.2*10000,xI _ (xW.2 ⟨s,b,zS⟩),?_⟩;unfold iB;omega
  .obtain⟨g,f,d⟩:=Lg h b;have j:v≠0:=fun e=>p qew;by_cases l:s.1<0/\s.2 > 0
   .refine⟨1,xS _ (xW.2 ⟨s,b,by simp[l]⟩),?_⟩;unfold iB;omega
   .by_cases t:s.1 > 0
    .refine⟨s.1,xS _ (xW.2 ⟨s,b,zS⟩),?_⟩;unfold iB;omega
    .have:s.1≠0:=fun e=>f qew;have:s.2≠0:=fun e=>d qew;refine⟨s.2,xS _ (xW.2 ⟨s,b,zS⟩),?_⟩;unfold iB;omega
theorem Oj{x:NS}(h:gM x)(a:Fe x):dm x=some 0:=(iT h).unique (Q0 a)
theorem Q3{x:NS}(h:gM x)(a:¬Fe x):d9 (Ih x) none=dm x:=(UV h a).unique (iT h)
def orU:Option Int->Option Int->Option Int
 |none,none=>none
 |some u,none=>some u
 |none,some v=>some v
 |some u,some v=>some (if iB u v then u else v)
theorem Xu{p q:Int->Prop}{r s:Option Int}(h:jh p r)(k:jh q s):jh (fun u=>p u\/q u) (orU r s):=by
 cases r with
 |none=>
  have e:∀u,q u↔p u\/q u:=fun u=>⟨.inr,fun f=>f.elim (fun n=>absurd n (h.no rfl u)) id⟩
  cases s with
  |none=>exact k.congr e
  |some v=>exact k.congr e
 |some u=>
  obtain⟨o,i⟩:=h.one u rfl
  cases s with
  |none=>exact h.congr fun u=>⟨.inl,fun f=>f.elim id (fun m=>absurd m (k.no rfl u))⟩
  |some v=>
   obtain⟨j,g⟩:=k.one v rfl;refine jh.mk (fun e=>by cases e) fun x l=>?_;cases l;by_cases c:iB u v
   .rw[zK c];refine⟨.inl o,fun y a=>?_⟩;rcases a with a|a
    .exact i y a
    .rcases g y a with rfl|d
     .exact .inr c
     .exact .inr (l9 c d)
   .rw[zJ c];refine⟨.inr j,fun y a=>?_⟩;rcases a with a|a
    .have b:v=u\/iB v u:=by
      by_cases e:v=u
      .exact .inl e
      .exact .inr ((qg e).resolve_right c)
     rcases i y a with rfl|d
     .rcases b with e|e
      .exact .inl e.symm
      .exact .inr e
     .rcases b with rfl|e
      .exact .inr d
      .exact .inr (l9 e d)
    .exact g y a
theorem ZB{x y:NS}(f:gM x)(d:gM y):(dm (LH (dC x y) (dC y x))=none->lC x y=0) /\
 (∀u,dm (LH (dC x y) (dC y x))=some u->(x.has u->lC x y = -1)/\(¬x.has u->lC x y=1)):=by
 have a:=iT (gI f d);have b:=iT (gI d f);have c:=(Xu a b).congr (fun u=>(EY (dC x y) (dC y x) u).symm);have e:=(iT (AL (gI f d) (gI d f))).unique c;have j:=fun u (h:(dC x y).has u)=>((iC f d u).1 h);have i:=fun u (h:(dC y x).has u)=>((iC d f u).1 h);unfold lC;rw[e];clear c e
 cases hr:dm (dC x y)with
 |none=>cases hs:dm (dC y x)with
  |none=>exact⟨fun _=>rfl,fun u h=>by cases h⟩
  |some v=>
   refine⟨fun h=>qev,fun u h=>?_⟩;cases h;have:=i _ (b.one _ hs).1
   exact⟨fun h=>absurd h this.2,fun _=>rfl⟩
 |some u=>cases hs:dm (dC y x)with
  |none=>
   refine⟨fun h=>qev,fun u h=>?_⟩;cases h;have:=j _ (a.one _ hr).1
   exact⟨fun _=>rfl,fun h=>absurd this.1 h⟩
  |some v=>
   refine⟨fun h=>by simp[orU]at h,fun z h=>?_⟩;simp only[orU,Option.some.injEq]at h;have l:=j _ (a.one _ hr).1;have k:=i _ (b.one _ hs).1;subst h;by_cases g:iB u v
   .simp only[zK g];exact⟨fun _=>zK g,fun h=>absurd l.1 h⟩
   .simp only[zJ g];exact⟨fun h=>absurd h k.2,fun _=>zJ g⟩
end Cl
namespace Cl
theorem Xe{T:aC}{N:Nat}{bK:List Int}{c:Nat}(g:wS T N bK c)(o:N<=c)(p:1<=N):sN T N bK:=by
 rcases g.cnt with q|⟨k,j⟩
 .omega
 .have m:c<=N:=SN (fun s=>(bK.getD s 0).toNat) fun v h=>by
   obtain⟨s,d,e⟩:=j v h;exact⟨s,d,by rw[e];simp⟩
  have i:c=N:=zo;rw[i]at k j;refine⟨g.len,fun x l=>?_,fun s t d ht=>⟨fun n=>?_,g.coarse s t d ht⟩⟩
  .obtain⟨s,d,rfl⟩:=yT.1 l;have f:s<N:=by rw[<-g.len];exact d
   have a:=g.ik s f;have b:=k s f;simp only[yU,d,yH,xA]at*
   exact⟨a.1,b⟩
  .have:=M9 (fun s=>(bK.getD s 0).toNat) (fun v h=>by
    obtain⟨s,d,e⟩:=j v h;exact⟨s,d,by show(bK.getD s 0).toNat=v;rw[e];simp⟩) d ht (by rw[n])
   subst this;intro w;rfl
end Cl
namespace Cl
open Classical in
theorem vM{l:aC}{i:Nat}{st:Sn}(h:l[i]?=some st)(b:Nat):bC l (i:Int) b=bv st.aH b:=by
 obtain⟨c,a⟩:=yB.1 h;rw[dW l i b c,a]
theorem PE{l:aC}{i:Nat}{st:Sn}(h:l[i]?=some st):bB l (i:Int)=st.aZ:=by
 obtain⟨b,a⟩:=yB.1 h;rw[fJ l i b,a]
end Cl
namespace Cl
theorem Sv.unique{p:El->Prop}{r s:RS}(h:Sv p r)(k:Sv p s):r=s:=Xb h.valid k.valid fun e=>(h.mem e).trans (k.mem e).symm
end Cl
namespace Cl
def pY(s:List UInt8):aC:=((List.range s.length).map fun i=>(⟨false,[⟨(s.getD i 0).toNat,(s.getD i 0).toNat,((i+1:Nat):Int)⟩]⟩:Sn))++[⟨true,[]⟩]
theorem nJ(s:List UInt8):(pY s).length=s.length+1:=by simp[pY]
theorem vw{s:List UInt8}{i:Nat}(h:i<s.length):(pY s)[i]?=some ⟨false,[⟨(s[i]).toNat,(s[i]).toNat,((i+1:Nat):Int)⟩]⟩:=by
 unfold pY;rw[yK qeo];simp[h]
theorem wV(s:List UInt8):(pY s)[s.length]?=some ⟨true,[]⟩:=by
 unfold pY;rw[yN zS];simp
theorem vg(s:List UInt8):∀(v:List UInt8) (i:Nat),i<=s.length->(aK (pY s) (i:Int) v=true↔v=s.drop i)
 |[],i,hi=>by
  simp only[aK];by_cases h:i<s.length
  .rw[PE (vw h),yE h];exact⟨fun h=>qev,fun h=>qev⟩
  .obtain rfl:i=s.length:=zo;rw[PE (wV s),zQ (zI _)]
   simp
 |c::v,i,hi=>by
  simp only[aK];by_cases h:i<s.length
  .rw[vM (vw h),yE h];simp only[bv];by_cases e:c=s[i]
   .rw[zK (by rw[e];exact⟨zI _,zI _⟩),vg s v (i+1) h,e];exact⟨fun h=>qe0,fun h=>(List.cons.inj h).2⟩
   .have a:c.toNat≠(s[i]).toNat:=fun h=>e (UInt8.toNat_inj.1 h);rw[zJ zo,dQ zo];exact⟨fun h=>qev,fun h=>absurd (List.cons.inj h).1 e⟩
  .obtain rfl:i=s.length:=zo;rw[vM (wV s),zQ (zI _)];simp only[bv];rw[dQ zo];simp
theorem TG(s:List UInt8)(k b t:Nat)(h:bC (pY s) k b=t):k<s.length/\t=k+1:=by
 by_cases c:k<s.length
 .rw[vM (vw c)]at h;simp only[bv]at h
  split at h
  .exact⟨c,zo⟩
  .omega
 .by_cases a:k=s.length
  .subst a;rw[vM (wV s)]at h;simp only[bv]at h;omega
  .rw[fB _ _ _ (by rw[nJ];omega)]at h;omega
theorem YD(s:List UInt8):j3 (fun v=>decide (v=s)) (pY s):=by
 have a:∀k (h:k<s.length),bC (pY s) k (s[k]).toNat=((k+1:Nat):Int):=fun k h=>by
  rw[vM (vw h)];simp only[bv];rw[zK ⟨zI _,zI _⟩]
 have d:∀x∈pY s,x=⟨true,[]⟩\/∃i,∃h:i<s.length,x=⟨false,[⟨(s[i]).toNat,(s[i]).toNat,((i+1:Nat):Int)⟩]⟩:=by
  intro x c;obtain⟨i,hi,rfl⟩:=yT.1 c;rw[nJ]at hi;have g:(pY s)[i]?=some ((pY s)[i]'(by rw[nJ];exact hi)):=by rw[yH]
  by_cases h:i<s.length
  .rw[vw h]at g;exact .inr ⟨i,h,(Option.some.inj g).symm⟩
  .obtain rfl:i=s.length:=zo;rw[wV]at g;exact .inl (Option.some.inj g).symm
 refine⟨⟨?_,?_,?_,?_,?_,?_,?_⟩,fun v=>?_⟩
 .intro x c;rw[nJ];rcases d x c with rfl|⟨i,h,rfl⟩
  .trivial
  .exact⟨zI _,by show(0:Int)<=((i+1:Nat):Int);omega,by show((i+1:Nat):Int)<((s.length+1:Nat):Int);omega,by show(-1:Int)<((s[i]).toNat:Int);omega,trivial⟩
 .intro x c e n;rcases d x c with rfl|⟨i,h,rfl⟩
  .simp at n
  .simp only[zZ]at n;subst n;exact⟨(s[i]).toNat_lt,(s[i]).toNat_lt⟩
 .intro x c;rcases d x c with rfl|⟨i,h,rfl⟩<;>trivial
 .intro k o;rw[nJ]at o;exact⟨s.drop k,(vg s _ k zo).2 rfl⟩
 .intro i j hi p h;rw[nJ]at hi p;have m:=(vg s (s.drop i) i zo).2 rfl;rw[h]at m;have l:=(vg s (s.drop i) j zo).1 m;have:=congrArg List.length l;simp at this;omega
 .intro k b t q h f m l;obtain⟨o,rfl⟩:=TG s k b t h;refine⟨f-1,(s[f-1]'zo).toNat,(s[f-1]'zo).toNat_lt,.inl zo,?_⟩;have:=a (f-1) zo;rw[show f-1+1=f by omega]at this;exact this
 .intro t m l;rw[nJ]at l;refine⟨t-1,(s[t-1]'zo).toNat,zo,(s[t-1]'zo).toNat_lt,?_⟩;have:=a (t-1) zo;rw[show t-1+1=t by omega]at this;exact this
 .have:=vg s v 0 (zG _);rw[List.drop_zero]at this;rw[Bool.eq_iff_iff,decide_eq_true_iff];exact this
end Cl
namespace Cl
theorem azk(u:Int):u.tdiv 10000=if u%10000=0\/0<=u then u/10000 else u/10000+1:=by
 rw[Int.tdiv_eq_ediv];have:((10000:Int) ∣ u)↔u%10000=0:=Int.dvd_iff_emod_eq_zero;simp only[this,Int.sign]
 exact qbQ
theorem bza(k:Int):k.tdiv 9999=if k%9999=0\/0<=k then k/9999 else k/9999+1:=by
 rw[Int.tdiv_eq_ediv];have:((9999:Int) ∣ k)↔k%9999=0:=Int.dvd_iff_emod_eq_zero;simp only[this,Int.sign]
 exact qbQ
theorem az9(k:Int):k.tmod 9999=if k%9999=0\/0<=k then k%9999 else k%9999-9999:=by
 rw[Int.tmod_eq_emod];have:((9999:Int) ∣ k)↔k%9999=0:=Int.dvd_iff_emod_eq_zero;simp only[this]
 exact qbQ
end Cl
namespace Cl
theorem Xh{a b:Int}(h:a≠0):jK a b=a:=by unfold jK;rw[zJ h]
namespace mD
variable {α β:Type} {p:α->Prop} {q:β->Prop} {c:α->α->Int} {d:β->β->Int}
end mD
theorem D8{α:Type}(c:α->α->Int):∀(a b l m:List α),a.length=b.length->bS c (a++l) (b++m)=jK (bS c a b) (bS c l m)
 |[],[],l,m,_=>by simp[bS,jK]
 |[],_::_,_,_,h=>by simp at h
 |_::_,[],_,_,h=>by simp at h
 |x::a,y::b,l,m,h=>by
  have:=D8 c a b l m qeo;simp only[xK,bS,this,CZ]
end Cl
namespace Cl
def SC(c:St)(W:List aC):Prop:=W.length=c.1.length/\∀i (b:i<W.length) (a:i<c.1.length),j3 (fun w=>(c.1[i]).1.1.data.toList==w) W[i]/\W[i]≠[]
theorem Hm{α β:Type}{p:α->Bool}{q:β->Bool}:∀{l:List α} {m:List β},l.length=m.length->(∀i (h1:i<l.length) (h2:i<m.length),p l[i]=q m[i])->l.countP p=m.countP q
 |[],[],_,_=>rfl
 |[],_::_,h,_=>by simp at h
 |_::_,[],h,_=>by simp at h
 |x::l,y::m,h,k=>by
  have a:=k 0 zS zS;simp only[xL]at a;simp only[List.countP_cons,a,Hm (l:=l) (m:=m) qeo fun i h1 h2=>k (i+1) qeD qeP]
theorem TS{c:St}{W:List aC}(h:∀k∈c.2,dG k.1/\k.1≠[])(b:SC c W):sH ((c.2.map (·.1)++W).map gH)↔sH (fO c):=by
 rw[CQ h];have:∀w,((c.2.map (·.1)++W).map gH).countP (fun x=>x.rC w)=Rk c w:=fun w=>by
  rw[yI,List.countP_append,List.countP_map,List.countP_map,List.countP_map,Rk]
  congr 1
  .exact qX fun k d=>CP (h k d).1 w
  .refine Hm b.1 fun i f e=>?_;have a:=(b.2 i f e).1;show(gH W[i]).rC w=_;rw[CP a.canon,a.sem]
 simp only[sH,this]
end Cl
namespace Cl
theorem Zc{c:Vl->Vl->Int}{a b:Lc}(i:a.2.length<=1)(g:b.2.length<=1):
 jK (kV a.1.length b.1.length) (jK (kV b.2.length a.2.length) (jK (bS (Cz c) a.1 b.1) (bS (Cz c) a.2 b.2)))=Tj c a b:=by
 unfold Tj;by_cases h:a.1.length=b.1.length
 .rw[bW,bW,D8 _ _ _ _ _ h]
  congr 2
  unfold kV ng;have f:a.2.length=0\/a.2.length=1:=zo;have d:b.2.length=0\/b.2.length=1:=zo;rcases f with f|f<;>rcases d with d|d<;>rw[f,d]<;>simp
 .have:kV a.1.length b.1.length≠0:=fun e=>h qee;rw[Xh this,Xh this]
theorem UB(a:Int):kV a a=0:=by simp[kV]
theorem Rs(a:Bool):ng a a=0:=by simp[ng]
end Cl
namespace Cl
def EI(b:Nat)(o:Nat)(e:Ed):Nat:=
 let a:=if b<e.lo then min o e.lo else o
 if b<=e.hi then min a (e.hi+1)else a
def Ce(b:Nat)(es:List Ed)(o:Nat):Nat:=es.foldl (EI b) o
theorem XW(b o:Nat):Ce b [] o=o:=rfl
theorem VL(b o:Nat){es:List Ed}{j:Nat}(h:j<es.length):Ce b (es.take (j+1)) o=EI b (Ce b (es.take j) o) es[j]:=by
 unfold Ce;rw[zH h,List.foldl_append]
 rfl
theorem Zx(b o:Nat)(e:Ed):EI b o e<=o:=by
 unfold EI;simp only
 exact qbQ
theorem Zy{b o:Nat}(e:Ed)(h:b<o):b<EI b o e:=by
 unfold EI;simp only
 exact qbQ
theorem x9(b:Nat):∀(es:List Ed) (o:Nat),Ce b es o<=o
 |[],_=>zI _
 |e::es,o=>yJ (x9 b es (EI b o e)) (Zx b o e)
theorem Mo{b:Nat}:∀(es:List Ed) (o:Nat),b<o->b<Ce b es o
 |[],_,h=>h
 |e::es,o,h=>Mo es (EI b o e) (Zy e h)
theorem uA{b:Nat}:∀(es:List Ed) (o c:Nat),b<=c->c<Ce b es o->bv es c=bv es b
 |[],_,_,_,_=>rfl
 |e::es,o,c,h1,h2=>by
  have g:=uA es (EI b o e) c h1 h2;have a:c<EI b o e:=xP h2 (x9 b es _);simp only[bv];rw[g];unfold EI at a;simp only at a;by_cases f:b<e.lo
  .rw[zK f]at a;have d:¬(e.lo<=b/\b<=e.hi):=zo;have h:¬(e.lo<=c/\c<=e.hi):=by split at a<;>omega
   rw[zJ d,zJ h]
  .rw[zJ f]at a;by_cases d:b<=e.hi
   .rw[zK d]at a;rw[zK ⟨zo,zo⟩,zK ⟨zo,d⟩]
   .rw[zJ zo,zJ zo]
def nz(Ls:List aC)(ps:List Int)(b:Nat):Nat->Nat
 |0=>256
 |k+1=>Ce b (mK (Ls.getD k []) (ps.getD k (-1))) (nz Ls ps b k)
theorem Cc{Ls:List aC}{ps:List Int}{b:Nat}(h:b<256):∀k,b<nz Ls ps b k
 |0=>h
 |k+1=>Mo _ _ (Cc h k)
theorem Cb(Ls:List aC)(ps:List Int)(b:Nat):∀k,nz Ls ps b k<=256
 |0=>zI _
 |k+1=>yJ (x9 _ _ _) (Cb Ls ps b k)
theorem RY{A B:aC}{p:Int×Int}{b c:Nat}(d:b<=c)(a:c<nz [A,B] [p.1,p.2] b 2):jU A B p c=jU A B p b:=by
 have a:c<Ce b (mK B p.2) (Ce b (mK A p.1) 256):=a;have e:c<Ce b (mK A p.1) 256:=xP a (x9 _ _ _);unfold jU;rw[jD,jD,jD,jD,uA _ _ _ d e,uA _ _ _ d a]
end Cl
namespace Cl
theorem WR{t:aC}{k:Nat}(d:t.length<=k+1)(h:∀i (hi:i<t.length),(t[i]).aH=[]\/∃e,(t[i]).aH=[e]/\e.to=((i+1:Nat):Int)/\i+1<t.length):MJ k (gH t) where
 neg b:=show bC t (-1) b = -1 from jT zo b
 step i b _:=by
  show bC t i b = -1\/(bC t i b=_/\_);by_cases hi:i<t.length
  .rw[dW t i b hi];rcases h i hi with e|⟨e,c,a,f⟩
   .rw[e];exact .inl rfl
   .rw[c,bv]
    split
    .exact .inr ⟨a,zo⟩
    .exact .inl rfl
  .exact .inl (fB t i b zo)
end Cl
namespace Cl
theorem U7(out:List bT)(j:Nat)(h:j<out.length)(s:bT)(d:Bool):
 mP s d (out.drop j)=if out[j].2+1<s.1 then out[j]::mP s d (out.drop (j+1))else if s.2+1<out[j].1 then(if d then[]else[s])++out[j]::mP s true (out.drop (j+1))else mP (min s.1 out[j].1,max s.2 out[j].2) d (out.drop (j+1)):=by
 rw[yE h,mP]
theorem LU(l:List bT)(k:Nat)(h:k<l.length):ic (l.take (k+1))=if l[k].2<l[k].1 then ic (l.take k)else mP l[k] false (ic (l.take k)):=by
 rw[zH h];unfold ic;rw[List.foldl_append]
 rfl
theorem Ro(l:List bT)(k:Nat)(h:k<l.length)(lo hi:Int):jO (l.drop k) lo hi=(if lo<l[k].1 then[(lo,l[k].1-1)]else[])++jO (l.drop (k+1)) (l[k].2+1) hi:=by
 rw[yE h,jO]
theorem N8(l:List bT)(x:Int):fU (l.filter fun s=>decide (s.1<=s.2)) x↔fU l x:=by
 constructor
 .rintro⟨s,a,c,b⟩;exact⟨s,(xR.1 a).1,c,b⟩
 .rintro⟨s,a,c,b⟩;exact⟨s,xR.2 ⟨a,by simp;omega⟩,c,b⟩
theorem LV(l:List bT):ic (l.map lQ)=mZ l:=
 oH (eD _).1 (eD _).1 fun x=>by
  rw[(eD _).2];unfold mZ;rw[(eD _).2];exact(N8 _ x).symm
theorem Rf{t:bT}(h:min t.2 iD<max t.1 (-iD)):¬(iO t).1<=(iO t).2:=by
 have b:(iO t).1=if(max t.1 (-iD))%10000=0 then max t.1 (-iD)+1 else max t.1 (-iD):=rfl;have a:(iO t).2=if(min t.2 iD)%10000=0 then min t.2 iD-1 else min t.2 iD:=rfl;have d:(iO t).1=max t.1 (-iD)+1\/(iO t).1=max t.1 (-iD):=by rw[b];split<;>simp
 have c:(iO t).2=min t.2 iD-1\/(iO t).2=min t.2 iD:=by rw[a];split<;>simp
 omega
theorem DU{l:List bT}:∀s∈(jX l).map lL,mq-1<=s.1/\s.2<=qh+1:=fun s a=>by
 obtain⟨t,ht,rfl⟩:=yD.1 a;have d:=Gy t ht;have c:(lL t).1=fF t.1:=rfl;have b:(lL t).2=fF t.2:=rfl;have f:=ug t ht;rw[c,b];unfold fF;simp only[iD,mq,qh]at*
 omega
end Cl
namespace Cl
theorem wB{l:List bT}{lo hi:Int}(h:∀s∈l,s.1<=s.2->lo<=s.1/\s.2<=hi):∀s∈ic l,lo<=s.1/\s.2<=hi:=
 AR (eD l).1 fun x a=>by
  obtain⟨t,ht,c,b⟩:=((eD l).2 x).1 a;have:=h t ht zo;omega
theorem LW{l:List bT}{lo hi:Int}(h:∀s∈l,s.1<=s.2->lo<=s.1/\s.2<=hi):∀s∈ic l,lo<=s.1/\s.2<=hi/\s.1<=s.2:=
 fun s a=>⟨(wB h s a).1,(wB h s a).2,(eD l).1.ok s a⟩
theorem XA(s:bT)(d:Bool)(out:List bT):mP s d (out.drop out.length)=if d then[]else[s]:=by
 rw[List.drop_length];rfl
theorem Vp(l:List bT)(lo hi:Int):jO (l.drop l.length) lo hi=if lo<=hi then[(lo,hi)]else[]:=by
 rw[List.drop_length];rfl
end Cl
namespace Cl
theorem Ki{es:List Ed}{b:Nat}(h:0<=bv es b):∃e∈es,e.to=bv es b:=by
 induction es with
 |nil=>simp[bv]at h
 |cons x es ih=>
  simp only[bv]at h⊢
  split at h
  .exact qc9
  .exact qbo
def eY(l:aC)(a:Nat->Bool):aC:=l.map fun s=>⟨s.aZ,s.aH.filter fun e=>a e.to.toNat⟩
theorem Mg{n:Nat}{es:List Ed}{a:Nat->Bool}:∀{p:Int},bP n p es->∀b,
 bv (es.filter fun e=>a e.to.toNat) b=if 0<=bv es b/\a (bv es b).toNat=true then bv es b else -1:=by
 induction es with
 |nil=>intro p _ b;simp[bv]
 |cons e es d=>
  intro p ⟨h1,h2,h3,h4,h5⟩ b;have d:=d h5 b;rw[List.filter_cons];by_cases c:e.lo<=b/\b<=e.hi
  .have g:bv es b = -1:=qV h5 zo;simp only[bv,zK c]
   split
   .rename_i f;rw[zK ⟨h2,f⟩];simp[bv,c]
   .rename_i f;rw[zJ (fun h=>f h.2),d,g];simp
  .simp only[bv,zJ c]
   split
   .simp only[bv,zJ c];exact d
   .exact d
theorem Fp{n:Nat}{es:List Ed}{q:Ed->Bool}:∀{p:Int},bP n p es->bP n p (es.filter q):=by
 induction es with
 |nil=>intro p _;trivial
 |cons e es ih=>
  intro p ⟨h1,h2,h3,h4,h5⟩;rw[List.filter_cons]
  split
  .exact⟨h1,h2,h3,h4,ih h5⟩
  .exact DI (ih h5) zo
theorem K6{l:aC}(c:WF l)(a:Nat->Bool):WF (eY l a):=by
 intro s d;obtain⟨x,b,rfl⟩:=yD.1 d;have:=Fp (q:=fun e=>a e.to.toNat) (c x b);simpa [eY]using this
theorem P9{l:aC}(c:Bytes l)(a:Nat->Bool):Bytes (eY l a):=by
 intro s d;obtain⟨x,b,rfl⟩:=yD.1 d;intro e f;exact c x b e (xR.1 f).1
theorem TN{l:aC}(d:WF l)(a:Nat->Bool)(s:Nat)(c:s<l.length)(b:Nat):
 bC (eY l a) s b=if 0<=bC l s b/\a (bC l s b).toNat=true then bC l s b else -1:=by
 rw[dW _ s b (by simpa [eY]using c),dW l s b c];simp only[eY,xQ];exact Mg (d _ (zF c)) b
theorem CJ{l:aC}(g:WF l){a:Nat->Bool}(m:∀s:Nat,s<l.length->(a s=true↔Lv l s)):∀(w:List UInt8) (s:Int),aK (eY l a) s w=aK l s w:=by
 have i:(eY l a).length=l.length:=by simp[eY]
 intro w
 induction w with
 |nil=>
  intro s;simp only[aK];by_cases c:s<0
  .simp[bB,c]
  .by_cases d:s<l.length
   .obtain⟨k,rfl⟩:=zT (by omega:0<=s);rw[fJ _ k zo,fJ _ k zo];simp[eY]
   .have e:=iP (eY l a) s [] zo;have f:=iP l s [] zo;simp only[aK]at e f
    rw[e,f]
 |cons b w ih=>
  intro s;simp only[aK];rw[ih];by_cases c:s<0
  .rw[jT c,jT c]
  .by_cases d:s<l.length
   .obtain⟨k,rfl⟩:=zT (by omega:0<=s);rw[TN g a k zo]
    split
    .rfl
    .rename_i j;rw[dQ zo];rcases fQ g k b.toNat with h|⟨e,f⟩
     .rw[h,dQ zo]
     .cases hx:aK l (bC l k b.toNat) w with
      |false=>rfl
      |true=>
       exfalso;apply j;refine⟨e,(m _ zo).2 ⟨w,?_⟩⟩;rw[Int.toNat_of_nonneg e];exact hx
   .rw[fB _ _ _ zo,fB _ _ _ zo]
theorem Ar{l:aC}(g:WF l){p:Nat->Bool}(k:Marks l p)(ht:∀s∈l,∀e∈s.aH,Lv l e.to):
 Ev l l.length (jF (aY p)) (qF (aY p)) (aY p).length (fun s i=>bC l s (jF (aY p) i)):=by
 have a:∀(s:Nat) (b:Nat),0<=bC l s b->Lv l (bC l s b):=by
  intro s b h;by_cases c:s<l.length
  .rw[dW l s b c]at h⊢;obtain⟨e,he,e2⟩:∃e∈(l[s]).aH,e.to=bv (l[s]).aH b:=by
    generalize (l[s]).aH=es at h
    induction es with
    |nil=>simp[bv]at h
    |cons x es ih=>
     simp only[bv]at h⊢
     split at h
     .exact qc9
     .exact qbo
   rw[<-e2];exact ht _ (zF c) e he
  .rw[fB l s b zo]at h;omega
 refine⟨(Gz k.1).1,fun s i j hi=>?_,fun s i j hi b f m w=>?_,fun s t i j n hi h o=>?_⟩
 .rcases fQ g s (jF (aY p) i)with h|h<;>omega
 .rw[mE k hi f m]
 .rcases fQ g t (jF (aY p) i)with h|⟨f,m⟩
  .exact h
  .obtain⟨w,d⟩:=a t _ f;rw[o w]at d;cases d
theorem Pt{l:aC}(j:WF l){p:Nat->Bool}(g:Marks l p)(ht:∀s∈l,∀e∈s.aH,Lv l e.to){bK:List Int}(hc:sN l l.length bK)
{ac:Nat->Bool}(k:∀s:Nat,s<l.length->ac s=bB l s)(o:Lv l 0)(f:0<l.length):
 rO l l.length (fun s=>bK.getD s 0)
  (fun s i=>if bC l s (jF (aY p) i)<0 then none else some (bC l s (jF (aY p) i)).toNat)
  (jF (aY p)) (qF (aY p)) ac (aY p).length:=by
 have H:=Ar j g ht;have d:∀(s:Nat) (i:Nat),s<l.length->i<(aY p).length->0<=bC l s (jF (aY p) i)->Lv l (bC l s (jF (aY p) i)):=by
  intro s i a hi h;apply zP;intro c;have v:∀w,aK l (bC l s (jF (aY p) i)) w=false:=fun w=>by
   cases hx:aK l (bC l s (jF (aY p) i)) w with
   |false=>rfl
   |true=>exact absurd ⟨w,hx⟩ c
  rw[dW l s _ a]at h c;obtain⟨e,he,e2⟩:∃e∈(l[s]).aH,e.to=bv (l[s]).aH (jF (aY p) i):=by
   generalize (l[s]).aH=es at h
   induction es with
   |nil=>simp[bv]at h
   |cons x es ih=>
    simp only[bv]at h⊢
    split at h
    .exact qc9
    .exact qbo
  rw[<-e2]at c;exact c (ht _ (zF a) e he)
 refine⟨(Gz g.1).1,f,fun s i t a hi h=>?_,fun s i a hi h b n m w=>?_,fun s t a ht=>hc.eq s t a ht,fun s a=>k s a,o⟩
 .split at h
  .cases h
  .rename_i c;simp only[Option.some.injEq]at h;have r:=fQ j s (jF (aY p) i);have e:((t:Nat):Int)=bC l s (jF (aY p) i):=zo;refine⟨zo,?_,fun b u q w=>?_⟩
   .rw[e];exact d s i a hi zo
   .rw[mE g hi u q,<-e]
 .split at h
  .rename_i c;rw[mE g hi n m];exact dQ c w
  .cases h
def gJ(o:List Nat)(t:Nat):Nat:=dN (fun s=>(s:Int)) o t
def Xc(o:List Nat)(s:Sn):Sn:=⟨s.aZ,s.aH.map fun e=>⟨e.lo,e.hi,(gJ o e.to.toNat:Int)⟩⟩
structure qC (l:aC) (o:List Nat) (k:Nat):Prop where
 first:o[0]?=some 0
 nodup:o.Nodup
 lt:∀x∈o,x<l.length
 le:k<=o.length
 there:∀j,(h:j<k)->(h':j<o.length)->∀s,l[o[j]]?=some s->∀e∈s.aH,e.to.toNat∈o
def jl(l:aC)(o:List Nat)(k:Nat):aC:=(o.take k).map fun x=>Xc o (l.getD x ⟨false,[]⟩)
theorem azW{o:List Nat}(h:o.Nodup):YC (fun s=>(s:Int)) o:=by
 refine List.Pairwise.imp ?_ h;intro a b c d;exact c (by have d:(a:Int)=b:=d;omega)
theorem uk{o:List Nat}{t:Nat}(h:t∈o):∃a:gJ o t<o.length,o[gJ o t]=t:=by
 have a:gJ o t<o.length:=List.findIdx_lt_length.2 ⟨t,h,zS⟩;refine⟨a,?_⟩;have:=rZ (cf:=fun s=>(s:Int)) (o:=o) (t:=t) a;have:((o[gJ o t]:Nat):Int)=(t:Int):=this;omega
theorem OX{n:Nat}{o:List Nat}{es:List Ed}:∀{p:Int},bP n p es->∀b,
 bv (es.map fun e=>(⟨e.lo,e.hi,(gJ o e.to.toNat:Int)⟩:Ed)) b=if bv es b<0 then -1 else(gJ o (bv es b).toNat:Int):=by
 induction es with
 |nil=>intro p _ b;simp[bv]
 |cons e es a=>
  intro p ⟨h1,h2,h3,h4,h5⟩ b;have a:=a h5 b;simp only[yL];by_cases c:e.lo<=b/\b<=e.hi
  .have f:bv (e::es) b=e.to:=by simp[bv,c]
   have d:∀fs,bv (⟨e.lo,e.hi,(gJ o e.to.toNat:Int)⟩::fs) b=(gJ o e.to.toNat:Int):=fun fs=>by simp[bv,c]
   rw[d];simp only[f];rw[zJ zo]
  .have f:bv (e::es) b=bv es b:=by simp only[bv];rw[zJ c]
   have d:∀fs,bv (⟨e.lo,e.hi,(gJ o e.to.toNat:Int)⟩::fs) b=bv fs b:=fun fs=>by simp only[bv];rw[zJ c]
   rw[d];simp only[f];exact a
theorem IU{n m:Nat}{o:List Nat}{es:List Ed}:∀{p:Int},bP n p es->(∀e∈es,gJ o e.to.toNat<m)->bP m p (es.map fun e=>(⟨e.lo,e.hi,(gJ o e.to.toNat:Int)⟩:Ed)):=by
 induction es with
 |nil=>intro p _ _;trivial
 |cons e es ih=>
  intro p ⟨h1,h2,h3,h4,h5⟩ hm;exact⟨h1,zS,by have:=hm e zS;simp;omega,h4,ih h5 fun x hx=>hm x qel⟩
theorem Uq{l:aC}(q:WF l)(y:Bytes l){o:List Nat}(h:qC l o o.length):
 WF (jl l o o.length)/\Bytes (jl l o o.length)/\(jl l o o.length).length=o.length/\∀w,aK (jl l o o.length) 0 w=aK l 0 w:=by
 have c:(jl l o o.length).length=o.length:=by simp[jl]
 have f:∀j,(a:j<o.length)->(jl l o o.length)[j]'zo=Xc o (l[o[j]]'(h.lt _ (zF a))):=by
  intro j a;have d:=h.lt _ (zF a);simp[jl,d]
 have m:∀j,(a:j<o.length)->∀e∈(l[o[j]]'(h.lt _ (zF a))).aH,e.to.toNat∈o:=by
  intro j a e i;have d:=h.lt _ (zF a);exact h.there j a a _ (yH d) e i
 have g:∀w,∀j,(a:j<o.length)->aK (jl l o o.length) j w=aK l o[j] w:=by
  intro w
  induction w with
  |nil=>
   intro j a;have d:=h.lt _ (zF a);simp only[aK];rw[fJ _ j zo,fJ _ _ d,f j a]
   rfl
  |cons b w ih=>
   intro j a;have d:=h.lt _ (zF a);simp only[aK];rw[dW _ j _ zo,dW _ _ _ d,f j a];have k:=q _ (zF d);have:=OX (o:=o) k b.toNat;show aK _ (bv ((l[o[j]]).aH.map _) b.toNat) w=_;rw[this];rcases wI k b.toNat with e|⟨t,C⟩
   .rw[e];simp only[show(-1:Int)<0 by omega,if_true];rw[dQ zo,dQ zo]
   .rw[zJ zo];obtain⟨e,i,A⟩:=Ki t;have r:=m j a e i;rw[A]at r;obtain⟨u,v⟩:=uk r;rw[ih _ u,v,Int.toNat_of_nonneg t]
 have z:0<o.length:=by
  have:=h.first
  cases o with
  |nil=>simp at this
  |cons _ _=>simp
 have p:o[0]=0:=by
  obtain⟨B,e⟩:=yB.1 h.first;exact e
 refine⟨?_,?_,c,fun w=>?_⟩
 .intro s n;obtain⟨j,a,rfl⟩:=yT.1 n;rw[c]at a;rw[f j a];refine IU (q _ (zF _)) fun e i=>?_;rw[c];exact(uk (m j a e i)).1
 .intro s n;obtain⟨j,a,rfl⟩:=yT.1 n;rw[c]at a;rw[f j a];intro e i;obtain⟨x,d,rfl⟩:=yD.1 i;exact y _ (zF _) x d
 .have:=g w 0 z;rw[p]at this;exact this
end Cl
namespace Cl
theorem OG(o:List Nat)(t:Nat):gJ o t<=o.length:=rY _ _ _
theorem Rj{o:List Nat}{t q:Nat}(h:q<=gJ o t)(d:q<o.length):if o[q]=t then q=gJ o t else q+1<=gJ o t:=by
 split
 .rename_i e;apply zP;intro a;have:=List.not_of_lt_findIdx (p:=fun(s:Nat)=>((s:Int)==(t:Int))) (xs:=o) (i:=q) (by
   have:q<gJ o t:=zo;exact this)
  simp[e]at this
 .rename_i e;apply zP;intro a;have c:q=gJ o t:=zo;have b:gJ o t<o.length:=zo;have:=rZ (cf:=fun s=>(s:Int)) (o:=o) (t:=t) b;have f:((o[gJ o t]:Nat):Int)=(t:Int):=this;apply e;subst c;omega
def nH(o:List Nat)(t:Nat):List Nat:=if gJ o t<o.length then o else o++[t]
theorem Va(o:List Nat)(t:Nat):o <+: nH o t:=F8 _ o t
theorem Ve(o:List Nat)(t:Nat):t∈nH o t:=by
 unfold nH
 split
 .rename_i h;have a:((o[gJ o t]:Nat):Int)=(t:Int):=rZ (cf:=fun s=>(s:Int)) h;have:o[gJ o t]=t:=zo;rw[<-this];exact zF h
 .simp
theorem OH{o:List Nat}{t:Nat}(h:o.Nodup):(nH o t).Nodup:=BO (Tv (cf:=fun s=>(s:Int)) t (azW h))
theorem XD{o:List Nat}{t n:Nat}(h:∀x∈o,x<n)(ht:t<n):∀x∈nH o t,x<n:=by
 intro x a;rcases F9 (cf:=fun s=>(s:Int)) x a with h1|h1
 .exact h x h1
 .subst h1;exact ht
theorem Vb(o:List Nat)(t:Nat):gJ (nH o t) t=gJ o t:=(tX (fun s=>(s:Int)) o t).1
theorem EG{o:List Nat}{t:Nat}(h:t∈o):gJ o t<o.length:=(uk h).1
theorem U9{o o':List Nat}(h:o <+: o'){t:Nat}(ht:t∈o):gJ o' t=gJ o t:=LD h (EG ht)
theorem Da{o:List Nat}{n:Nat}(h:o.Nodup)(b:∀x∈o,x<n):o.length<=n:=by
 have:=lq o (List.range n) h (fun x a=>yQ.2 (b x a));exact qa5
def uS(o:List Nat)(es:List Ed):List Ed:=es.map fun e=>⟨e.lo,e.hi,(gJ o e.to.toNat:Int)⟩
theorem Ns{o o':List Nat}(h:o <+: o'){es:List Ed}(a:∀e∈es,e.to.toNat∈o):uS o' es=uS o es:=by
 apply xZ;intro e b;rw[U9 h (a e b)]
structure InR (l:aC) (o:List Nat) (es:List Ed) (j:Nat) (o':List Nat):Prop where
 pre:o <+: o'
 nodup:o'.Nodup
 lt:∀x∈o',x<l.length
 mem:∀e∈es.take j,e.to.toNat∈o'
theorem U8{l:aC}{o:List Nat}{k:Nat}(h:qC l o k)(es:List Ed):InR l o es 0 o:=⟨List.prefix_rfl,h.nodup,h.lt,fun e a=>by simp at a⟩
theorem XC{l:aC}{o o':List Nat}{es:List Ed}{j:Nat}(h:InR l o es j o')(c:j<es.length)(ht:(es[j]).to.toNat<l.length):
 InR l o es (j+1) (nH o' (es[j]).to.toNat)/\uS (nH o' (es[j]).to.toNat) (es.take (j+1))=uS o' (es.take j)++[⟨(es[j]).lo,(es[j]).hi,(gJ o' (es[j]).to.toNat:Int)⟩]:=by
 have b:=Va o' (es[j]).to.toNat;refine⟨⟨h.pre.trans b,OH h.nodup,XD h.lt ht,fun e d=>?_⟩,?_⟩
 .rw[zH c]at d;rcases yP.1 d with a|a
  .exact b.subset (h.mem e a)
  .simp only[zZ]at a;subst a;exact Ve _ _
 .rw[zH c];unfold uS;rw[yI];have:=Ns b (es:=es.take j) h.mem;unfold uS at this;rw[this];simp[Vb]
theorem Nu{l:aC}(h:0<l.length):qC l [0] 0:=⟨rfl,zS,fun x a=>by simp at a;omega,zS,fun j b=>zo⟩
theorem Qq{l:aC}{o o':List Nat}{k:Nat}(h:qC l o k)(q:k<o.length){s:Sn}(n:l[o[k]]?=some s)(H:InR l o s.aH s.aH.length o'):
 qC l o' (k+1)/\jl l o' (k+1)=jl l o k++[⟨s.aZ,uS o' s.aH⟩]:=by
 have p:=H.pre.length_le;have b:∀e∈s.aH,e.to.toNat∈o':=by have:=H.mem;rwa [yG]at this
 refine⟨⟨?_,H.nodup,H.lt,zo,fun j r w t ht e f=>?_⟩,?_⟩
 .obtain⟨x,g⟩:=H.pre;rw[<-g,yK zo];exact h.first
 .have d:j<o.length:=zo;have u:=BJ H.pre d;rw[u]at ht;by_cases c:j<k
  .exact H.pre.subset (h.there j c d t ht e f)
  .have:j=k:=zo;subst this;rw[n]at ht;cases ht;exact b e f
 .have u:=BJ H.pre q;have ht:o'.take (k+1)=o.take k++[o[k]]:=by
   obtain⟨x,g⟩:=H.pre;rw[<-g,List.take_append_of_le_length zo,zH q]
  unfold jl;rw[ht,yI]
  congr 1
  .apply xZ;intro y v;obtain⟨j,r,rfl⟩:=yT.1 v;have i:j<k:=by simp at r;omega
   simp only[List.getElem_take];have a:=h.lt _ (zF (show j<o.length by omega));have m:l.getD o[j] ⟨false,[]⟩=l[o[j]]:=by simp[a]
   rw[m];unfold Xc
   congr 1
   exact Ns H.pre (es:=(l[o[j]]).aH) (fun e f=>h.there j i zo _ (by simp[a]) e f)
  .have m:l.getD o[k] ⟨false,[]⟩=s:=by rw[yU,n];rfl
   simp only[yL,xB,m]
   rfl
end Cl
