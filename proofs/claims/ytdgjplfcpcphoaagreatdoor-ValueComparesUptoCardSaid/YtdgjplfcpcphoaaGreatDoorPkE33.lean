/- Lemmas for the proofs of chapter 11. -/
import Derived.Test.YtdgjplfcpcphoaaGreatDoorPkE17
import Derived.Test.YtdgjplfcpcphoaaGreatDoorPkE30
set_option maxRecDepth 100000
set_option maxHeartbeats 16000000
namespace Cl
theorem RX(Ls:List aC)(ps:List Int)(b:Nat){j:Nat}:∀{k:Nat},j<=k->nz Ls ps b k<=nz Ls ps b j:=by
 intro k h
 induction h with
 |refl=>exact zI _
 |step _ ih=>exact yJ (x9 _ _ _) ih
theorem Qb{Ls:List aC}{ps:List Int}{b c:Nat}(j:ps.length=Ls.length)(g:b<=c)(f:c<nz Ls ps b Ls.length):eX (Ls.map gH) ps c=eX (Ls.map gH) ps b:=by
 unfold eX;apply vF zS;intro i d h;have hi:i<Ls.length:=by simp at d;omega
 have e:i<ps.length:=zo;simp only[List.getElem_zipWith,xQ];show bC Ls[i] ps[i] c=bC Ls[i] ps[i] b;have a:c<nz Ls ps b (i+1):=xP f (RX Ls ps b zo);rw[nz,show Ls.getD i []=Ls[i]by simp[hi],show ps.getD i (-1)=ps[i]by simp[e]]at a;rw[jD,jD,uA _ _ _ g a]
def stepT(Ls:List aC)(v:List Int)(b k:Nat):List Int:=eX ((Ls.map gH).take k) (v.take k) b
theorem Qd(Ls:List aC)(v:List Int)(b:Nat):stepT Ls v b 0=[]:=by simp[stepT,eX]
theorem Qe{Ls:List aC}{v:List Int}(b:Nat){k:Nat}(c:k<Ls.length)(a:k<v.length):stepT Ls v b (k+1)=stepT Ls v b k++[bC Ls[k] v[k] b]:=by
 unfold stepT eX;rw[zH (show k<(Ls.map gH).length by simpa using c),zH a,List.zipWith_append qd4];simp[gH]
theorem TY{Ls:List aC}{v:List Int}(h:v.length=Ls.length)(b:Nat):stepT Ls v b Ls.length=eX (Ls.map gH) v b:=by
 unfold stepT;exact qcI
theorem Vf(Ls:List aC)(v:List Int):EH Ls v 0=0:=by simp[EH,lF]
theorem Vg{Ls:List aC}{v:List Int}{k:Nat}(h1:k<Ls.length)(a:k<v.length):EH Ls v (k+1)=EH Ls v k+if bB Ls[k] v[k]then 1 else 0:=by
 unfold EH;rw[Ak qeD a];simp[gH]
theorem Zk(Ls:List aC)(v:List Int)(k:Nat):EH Ls v k<=k:=by
 unfold EH lF;refine yJ (List.countP_le_length) ?_;simp;omega
theorem XE{Ls:List aC}{v:List Int}(h:v.length=Ls.length):EH Ls v Ls.length=lF (Ls.map gH) v:=by
 unfold EH;exact qcI
theorem MR(Ls:List aC):ib (Ls.map gH)=List.replicate Ls.length 0:=by rw[ib,List.map_const',xC]
end Cl
namespace Cl
def jr(s:ByteArray):aC:=uH s.data.toList s.size++[⟨true,[]⟩]
theorem MP(s:ByteArray):(jr s).length=s.size+1:=by simp[jr,sQ]
theorem KR{s:ByteArray}(h:s.size<=40):MJ 40 (gH (jr s)):=by
 unfold jr;have a:=sQ s.data.toList s.size;refine WR (by rw[zL,a,List.length_singleton];omega) fun i hi=>?_;have b:=hi;rw[zL,a,List.length_singleton]at b;by_cases c:i<s.size
 .refine .inr ⟨⟨(s.data.toList.getD i 0).toNat,(s.data.toList.getD i 0).toNat,((i+1:Nat):Int)⟩,?_,rfl,by rw[zL,a,List.length_singleton];omega⟩;rw[xM (by rw[a];exact c)];simp[uH]
 .refine .inl ?_;rw[List.getElem_append_right (by rw[a];omega)];simp
def ru(c:St):List aC:=c.2.map (·.1)++c.1.map fun f=>jr f.1.1
theorem XM{c:St}(b:∀k∈c.2,dG k.1/\k.1≠[])(r:c.1.length<=6)(q:c.2.length<=6)(p:∀f∈c.1,f.1.1.size<=40)(o:∀k∈c.2,jM k.1){l:List (List Int)}(m:l.Nodup)(d:∀v∈l,kF ((ru c).map gH) v):l.length<=1400000000:=by
 obtain⟨j,i⟩:=SY q o;have e:(ru c).map gH=(c.2.map fun k:Kl=>gH k.1)++c.1.map fun f:Fd=>gH (jr f.1.1):=by rw[ru,yI,vE,vE];rfl
 rw[e]at d;have h:=FK (k:=40) (fun x a=>by
  obtain⟨k,g,rfl⟩:=yD.1 a;exact EU (b k g).1 (b k g).2) (fun x a=>by
  obtain⟨f,n,rfl⟩:=yD.1 a;exact KR (p f n)) m d
 exact yJ h (Ee j i (by rw[xC];exact r))
theorem PS(s:ByteArray):jr s=pY s.data.toList:=by
 unfold jr uH pY;simp
theorem Fj(s:ByteArray):j3 (fun w=>s.data.toList==w) (jr s):=by
 rw[PS];refine(YD s.data.toList).congr fun w=>?_;rw[Bool.eq_iff_iff,decide_eq_true_iff,beq_iff_eq];exact eq_comm
theorem Fh(s:ByteArray):jr s≠[]:=by simp[jr]
theorem K8(c:St):SC c (c.1.map fun f=>jr f.1.1):=
 ⟨by rw[xC],fun i b a=>by
  rw[xQ];exact⟨Fj _,Fh _⟩⟩
theorem Nc{c:St}(h:∀k∈c.2,dG k.1/\k.1≠[]):sH ((ru c).map gH)↔eZ c:=
 (TS h (K8 c)).trans ⟨fun k=>(oo c).2 ⟨h,k⟩,fun k=>((oo c).1 k).2⟩
theorem TZ{c:St}(h:∀k∈c.2,dG k.1/\k.1≠[]):∀T∈ru c,dG T/\T≠[]:=fun T a=>by
 rcases yP.1 a with a|a
 .obtain⟨k,b,rfl⟩:=yD.1 a;exact h k b
 .obtain⟨f,d,rfl⟩:=yD.1 a;exact⟨(Fj _).canon,Fh _⟩
end Cl
