/- Lemmas for the proofs of chapter 11. -/
import Derived.Test.YtjhipmdamaocmaaGreatDoorPkN15
set_option maxRecDepth 100000
set_option maxHeartbeats 16000000
namespace Cl
open Go Go.RowKit Go.Proofs
def sigP (cls:List Int) (ta:Nat→Nat→Int) (s i:Nat):List Int:=cls.getD s 0::(List.range i).map fun i=>sw cls (ta s i)
theorem L9 (cls:List Int) (ta:Nat→Nat→Int) (s i:Nat):sigP cls ta s (i+1)=sigP cls ta s i ++ [sw cls (ta s i)]:=by
 unfold sigP;rw[List.range_succ,yD];rfl
theorem Cr (l:List (List Int)) (x:List Int):firstIdx (fun y=>y=x) l 0=if l.findIdx (·==x)<l.length then ((l.findIdx (·==x):Nat):Int) else -1:=by
 rcases kw (fun y=>y=x) l 0 with ⟨h1,h2⟩ | ⟨i,h1,h2,h3,h4⟩
 ·rw[h1,zH];intro h;obtain⟨y,hy,hp⟩:=List.findIdx_lt_length.1 h;exact h2 y hy (by simpa using hp)
 ·have:l.findIdx (·==x)=i:=by
   rw[List.findIdx_eq h1];exact⟨by simpa using h3,fun j hj=>by simpa using h4 j zo hj⟩
  rw[h2,this,zI h1];simp
theorem Hg {cls:List Int} {n:Nat} (_:cls.length=n) (hr:∀s,s<n→0≤cls.getD s 0∧cls.getD s 0≤n) {x:Int} (hx : -1≤x∧x<n) : -1≤sw cls x∧sw cls x≤n:=by
 unfold sw
 split
 ·omega
 ·have:=hr x.toNat zo;omega
theorem Hm (v0 v1:Value) (l:Table) (cuts:List Int) (lo hi:Nat→Nat) (m:Mem) (w:World) (hm:m.inn w) (hl:aG m v0 l) (hc:iy m v1 cuts) (hwf:WF l) (hlen:l.length≤1000000) (hpos:1≤l.length)
 (H:Fv l l.length lo hi cuts.length (fun s i=>bD l s (lo i))) (hlo:∀i,(h:i<cuts.length)→cuts[i]=lo i) (hclen:cuts.length≤256) :
 Calls Tryz.prog 236 #[v0,v1] w fun e w'=>∃r cls,e=.returned r∧Below w.heap.size w w'∧iy (m.grow w w') r cls∧uh l l.length cls:=by
 have hl0:=hl;obtain⟨a,c,rfl,h1,h2,h3⟩:=hl;obtain⟨ca,cc,rfl,c1,c2,c3⟩:=hc;unfold maxLen at h2 c2;obtain⟨b,off,rfl,h4⟩:=h3 (by intro h;simp[h] at hpos);clear h3;refine aj fun R hR=>?_
 go_enter Tryz.func236,Tryz.ntmps236
 go_wp2_with (refine wpList_make_row AZ rfl (.tmp 18) (.tmp 18) rfl l.length rfl rfl zo (by unfold maxLen;omega) ?_)
 intro w1 hown1 hgrow1;have hO:=((Own.start hm).make hown1 hgrow1);rw[lF] at hO;clear hown1 hgrow1;generalize w.heap.size=B at hO ⊢;go_wp2;refine au [0,1,5,20,21,22] (fun n vs wr=>∃k:Nat,k≤l.length∧n=l.length - k∧vs=[.slice (some ⟨b,off,none⟩) l.length c,.slice ca cuts.length cc,.slice (some ⟨B,0,none⟩) l.length l.length,.slice (some ⟨b,off,none⟩) l.length c,.int .i64 l.length,.int .i64 k] ∧
  Own w m wr m [.row (.slice (some ⟨B,0,none⟩) l.length l.length) 3 1 l.length (iG (((l.take k).map (·.accept)).map b2i) (l.length - k))]) ?_ ?_
 ·exact⟨_,0,zC _,rfl,rfl,by simpa using hO⟩
 clear hO;rintro X z n vs wr hX - ⟨k,hk,rfl,rfl,hO⟩;simp[litL,lk];by_cases hlt:k<l.length
 ·obtain⟨g1,ve,g2,ea,ec,rfl,g4,g5,g6⟩:=h4 k hlt;have g1w:=Mem.ak hO.inn g1;have g2w:=Mem.ak hO.inn g2;have hgl:=Mem.ay hO.inn g1;have hst:=xK (acc:=l.map (·.accept)) (k:=k) (N:=l.length) (by simpa using hlt) zS;rw[← List.map_take,← List.map_take,List.getElem_map] at hst;have r1:=aT (j:=k) (u:=.int .i64 0) hO.row (iF (by simp;omega) zo);have r2:=dh hO.row k;have r3:=(World.ownsRow.lt hO.row _ rfl).2;have hO2:=hO.setRow k (.int .i64 1);have HS:=zh (zi hst (zi hO hO2));clear hst hO hO2
  cases hb:(l[k]).accept with
  | true=>
   rw[hb] at g1w HS;go_wp2;refine hX.out _ _ _ zo rfl ⟨k+1,zo,rfl,rfl,?_⟩;rw[HS.out.1]
   exact HS.out.2.2.al' _
  | false=>
   rw[hb] at g1w HS;go_wp2;refine hX.out _ _ _ zo rfl ⟨k+1,zo,rfl,rfl,?_⟩;rw[HS.out.1,show Value.int .i64 (b2i false)=.int .i64 0 from rfl];have:∀{xs:List Value},xs[k]?=some (.int .i64 0)→xs.set k (.int .i64 0)=xs:=fun {xs} h=>by
    obtain⟨h1,h2⟩:=List.getElem?_eq_some_iff.1 h;rw[← h2,List.set_getElem_self]
   rw[this (iF (by simp;omega) zo)];exact HS.out.2.1.al' _
 ·obtain rfl:k=l.length:=zo;rw[yB,Nat.sub_self,mZ] at hO;have hstart:uV l l.length ((l.map (·.accept)).map b2i) 0:=DJ hpos zS fun s hs=>by
   rw[eZ l s hs];simp[hs,b2i]
  have hin:=dO (l:=(l.map (·.accept)).map b2i) (m:=m) (by simpa using hO.row) (fun x hx=>by
   obtain⟨b,-,rfl⟩:=List.mem_map.1 hx;unfold b2i;split <;> omega)
  have hO4:=hO.bv;have hle:=Mem.dG (w:=wr) hO.free;generalize m.addv wr (.slice (some ⟨B,0,none⟩) l.length l.length)=mk1 at *
  generalize Value.slice (some ⟨B,0,none⟩) l.length l.length=vk at *
  generalize (l.map (·.accept)).map b2i=cls0 at *
  have Hk:=zh (zi hstart (zi hin (zi hO4 hle)));clear hstart hin hO4 hle hO;go_wp2;refine au [0,1,5,8,34,35] (fun n vs wr=>∃(r many:Nat) (cls:List Int) (vk:Value) (mk':Mem),n=l.length - r∧r≤l.length∧r≤many∧many≤l.length ∧
   vs=[.slice (some ⟨b,off,none⟩) l.length c,.slice ca cuts.length cc,vk,.int .i64 many,.int .i64 l.length,.int .i64 r] ∧
   uV l l.length cls many∧iy mk' vk cls∧Own w m wr mk' []∧m.le mk') ?_ ?_
  ·exact⟨_,0,0,cls0,vk,mk1,rfl,zC _,zC _,zC _,rfl,Hk.out.1,Hk.out.2.1,Hk.out.2.2.1,Hk.out.2.2.2⟩
  clear Hk;rintro Y z n vs wr2 hY - ⟨r,many,cls,vk,mk1,rfl,hr,hrm,hmany,rfl,hri,hin,hO,hle⟩;simp[litL,lk];have hclen2:=hri.len;have hrng:=hri.rng;have hin0:=hin;obtain⟨ka,kc,rfl,k1,k2,k3⟩:=hin;have hkpos:0<cls.length:=zo;obtain⟨kb,ko,rfl,k4⟩:=k3 (by intro h;simp[h] at hkpos);unfold maxLen at k2;have HRI:=zh (zi hri (zi hclen2 hrng));have hcl1:l.length≤cls.length:=zo;have hcl2:cls.length≤l.length:=zo;clear hri hclen2 hrng;by_cases hlt2:r<l.length
  ·go_wp2_with (refine wpList_make_row AZ rfl (.tmp 38) (.tmp 38) rfl l.length rfl rfl zo (by unfold maxLen;omega) ?_)
   intro w3 hown3 hgrow3;have hO2:=(hO.make hown3 hgrow3).dI 118 1;rw[lF] at hO2;have HO2:=zh hO2;clear hO2 hO hown3 hgrow3;generalize wr2.heap.size=M at *
   go_wp2;refine au [0,1,5,8,34,35,9,10,41,42] (fun n vs w4=>∃(s:Nat) (vs':Value) (xs:List Value) (mk:Mem),s≤l.length∧n=l.length - s ∧
    vs=[.slice (some ⟨b,off,none⟩) l.length c,.slice ca cuts.length cc,.slice (some ⟨kb,ko,none⟩) cls.length kc,.int .i64 many,.int .i64 l.length,.int .i64 r,vs',.slice (some ⟨M,0,none⟩) l.length l.length,.int .i64 l.length,.int .i64 s] ∧
    Own w m w4 mk [.row vs' 118 1 (fq (sig cls (fun s i=>bD l s (lo i)) cuts.length) s).1.length xs,.row (.slice (some ⟨M,0,none⟩) l.length l.length) 3 1 l.length (iG (fq (sig cls (fun s i=>bD l s (lo i)) cuts.length) s).2 (l.length - s))] ∧
    lI mk xs (fq (sig cls (fun s i=>bD l s (lo i)) cuts.length) s).1∧mk1.le mk) ?_ ?_
   ·exact⟨_,0,.slice none 0 0,[],_,zC _,rfl,rfl,HO2.out,lI.nil _,Mem.le_refl _⟩
   clear HO2;rintro Z z3 n vs w4 hZ - ⟨s,vs',xs,mk,hs,rfl,rfl,hO,hrow,hmk⟩;simp[litL,lk];have hnum:=Gd (sig cls (fun s i=>bD l s (lo i)) cuts.length) s;have hsn:=AR (sig cls (fun s i=>bD l s (lo i)) cuts.length) s;obtain⟨vsa,vsc,rfl⟩:=aM hO.row;by_cases hlt3:s<l.length
   ·have hO':=hO;have d1:=k4 s zo;have hcs:cls.getD s 0=cls[s]'zo:=by simp[show s<cls.length by omega]
    have d1w:=Mem.ak hO.inn (Mem.aB hmk d1.1);have d1l:=Mem.ay hO.inn (Mem.aB hmk d1.1);have hcsr:=(HRI.out.2.2 s hlt3);rw[← hcs] at d1w;have hO2:=(hO.al #[.int .i64 (cls.getD s 0)] 3).P9;have HO2:=zh hO2;clear hO2 hO hO' hcs;generalize hN:w4.heap.size=N at *
    go_wp2;refine au [0,1,5,8,34,35,9,10,41,42,11,12,50,51,52] (fun n vs w5=>∃(i:Nat) (vr:Value),i≤cuts.length∧n=cuts.length - i ∧
     vs=[.slice (some ⟨b,off,none⟩) l.length c,.slice ca cuts.length cc,.slice (some ⟨kb,ko,none⟩) cls.length kc,.int .i64 many,.int .i64 l.length,.int .i64 r,.slice vsa (fq (sig cls (fun s i=>bD l s (lo i)) cuts.length) s).1.length vsc,.slice (some ⟨M,0,none⟩) l.length l.length,.int .i64 l.length,.int .i64 s,.int .i64 s,vr,.slice ca cuts.length cc,.int .i64 cuts.length,.int .i64 i] ∧
     Own w m w5 mk [.row vr 3 1 (i+1) ((sigP cls (fun s i=>bD l s (lo i)) s i).map (Value.int .i64)),.row (.slice vsa (fq (sig cls (fun s i=>bD l s (lo i)) cuts.length) s).1.length vsc) 118 1 (fq (sig cls (fun s i=>bD l s (lo i)) cuts.length) s).1.length xs,.row (.slice (some ⟨M,0,none⟩) l.length l.length) 3 1 l.length (iG (fq (sig cls (fun s i=>bD l s (lo i)) cuts.length) s).2 (l.length - s))]) ?_ ?_
    ·exact⟨_,0,.slice (some ⟨N,0,none⟩) 1 1,zC _,rfl,rfl,HO2.out⟩
    clear HO2 d1w;rintro V z4 n vs w5 hV - ⟨i,vr,hi1,rfl,rfl,hO⟩;simp[litL,lk];obtain⟨vra,vrc,rfl⟩:=aM hO.row;by_cases hlt4:i<cuts.length
    ·obtain⟨cb,co,rfl,c4⟩:=c3 (by intro h;simp[h] at hlt4);have q1:=c4 i hlt4;rw[hlo i hlt4] at q1;have hmr:=Mem.cK hO.ext.le hO.inn;have q1w:=Mem.ak hmr q1.1;have hle5:=H.iv.le i hlt4;have hcall:=CP (.slice (some ⟨b,off,none⟩) l.length c) l s (lo i) m _ hmr hl0 zo zo;have hsg:=L9 cls (fun s i=>bD l s (lo i)) s i;have hwu:IntKind.u8.wrap (lo i:Int)=(lo i:Int):=IntWalk.u8_in _ zo;rcases dU hwf s (lo i) with ht | ⟨ht1,ht2⟩
     ·have hcl3:sw cls (bD l s (lo i)) = -1:=by rw[ht];rfl
      rw[ht] at hcall;rw[hcl3] at hsg;have HS:=zh (zi hcall hsg);clear hcall hsg ht hcl3
      go_wp2_with fail
      refine HS.out.1.mono ?_;rintro e w6 ⟨rfl,hb6⟩;have hO3:=(hO.move hb6).al #[.int .i64 (-1)] 3;have hnews:=hO3.obj.news rfl;have hb6s:=hb6.size;clear hO hb6
      go_wp2_with (at_builtin;refine aA vV rfl (.tmp 67) (.tmp 69) rfl (.slice vra (i+1) vrc) (i+1) _ rfl hO3.swap.row ⟨w6.heap.size,0,none⟩ 1 1 [.int .i64 (-1)] rfl rfl hnews (by simp[Value.oneCell']) (by unfold maxLen;omega) zo ?_)
      intro va vc w7 hown7 hgrow7 hrow7;have hO4:=(hO3.swap.app hown7 hgrow7 hrow7 zS).drop2;have HO4:=zh hO4;clear hown7 hgrow7 hrow7 hO3 hnews hO4;go_wp2;refine hV.out _ _ _ zo rfl ⟨i+1,.slice va (i+1+1) vc,zo,rfl,rfl,?_⟩;rw[HS.out.2,yD];exact HO4.out
     ·obtain⟨tn,htn⟩:=zQ ht1;rw[htn] at hcall ht2;have htl:tn<cls.length:=zo;have hcl3:sw cls (bD l s (lo i))=cls[tn]:=by
       rw[htn];unfold sw;rw[zH zo];simp[htl]
      rw[hcl3] at hsg;have k5:=k4 tn htl;generalize cls[tn]=y at *
      have HS:=zh (zi hcall hsg);clear hcall hsg ht1 hcl3 htn
      go_wp2_with fail
      refine HS.out.1.mono ?_;rintro e w6 ⟨rfl,hb6⟩;have hOm:=hO.move hb6;have k5w:=Mem.ak hOm.inn (Mem.aB hmk k5.1);have k5l:=Mem.ay hOm.inn (Mem.aB hmk k5.1);have hO3:=hOm.al #[.int .i64 y] 3;have hnews:=hO3.obj.news rfl;have hb6s:=hb6.size;clear hO hb6 hOm
      go_wp2_with (at_builtin;refine aA vV rfl (.tmp 67) (.tmp 69) rfl (.slice vra (i+1) vrc) (i+1) _ rfl hO3.swap.row ⟨w6.heap.size,0,none⟩ 1 1 [.int .i64 y] rfl rfl hnews (by simp[Value.oneCell']) (by unfold maxLen;omega) zo ?_)
      intro va vc w7 hown7 hgrow7 hrow7;have hO4:=(hO3.swap.app hown7 hgrow7 hrow7 zS).drop2;have HO4:=zh hO4;clear hown7 hgrow7 hrow7 hO3 hnews hO4;go_wp2;refine hV.out _ _ _ zo rfl ⟨i+1,.slice va (i+1+1) vc,zo,rfl,rfl,?_⟩;rw[HS.out.2,yD];exact HO4.out
    ·obtain rfl:i=cuts.length:=zo;have esg:sigP cls (fun s i=>bD l s (lo i)) s cuts.length=sig cls (fun s i=>bD l s (lo i)) cuts.length s:=rfl;rw[esg] at hO;have hsl:(sig cls (fun s i=>bD l s (lo i)) cuts.length s).length=cuts.length+1:=by simp[sig]
     have hsr:∀x∈sig cls (fun s i=>bD l s (lo i)) cuts.length s,-9223372036854775808≤x∧x≤9223372036854775807:=by
      intro x hx;unfold sig at hx;rcases List.mem_cons.1 hx with rfl | hx
      ·omega
      ·obtain⟨j,hj,rfl⟩:=List.mem_map.1 hx;have:=Hg HRI.out.2.1 HRI.out.2.2 (H.rng s j hlt3 (List.mem_range.1 hj));simp only at this ⊢;omega
     have hs1:=hO.swap.bv;have hiss:=pU hO.swap.row hrow hO.swap.free;have hs2:=hs1.bv;have hint:=dO (m:=mk.addv w5 (.slice vsa (fq (sig cls (fun s i=>bD l s (lo i)) cuts.length) s).1.length vsc)) (l:=sig cls (fun s i=>bD l s (lo i)) cuts.length s) (by rw[hsl];exact hO.row) hsr;have hfind:=PK _ _ _ _ _ w5 hs2.inn (o6 (Mem.dG hs1.free) hiss) hint;rw[Cr] at hfind;have hint2:=dO (m:=mk) (l:=sig cls (fun s i=>bD l s (lo i)) cuts.length s) (by rw[hsl];exact hO.row) hsr;have hle6:=hnum.le;have hl6:=hnum.len;have hfl:(fq (sig cls (fun s i=>bD l s (lo i)) cuts.length) s).1.findIdx (·==sig cls (fun s i=>bD l s (lo i)) cuts.length s)≤(fq (sig cls (fun s i=>bD l s (lo i)) cuts.length) s).1.length:=List.findIdx_le_length;clear hs1 hiss hs2 hint esg hnum;generalize sig cls (fun s i=>bD l s (lo i)) cuts.length s=x at *
     generalize fq (sig cls (fun s i=>bD l s (lo i)) cuts.length) s=rr at *
     obtain⟨sn,nxl⟩:=rr;simp only at *
     by_cases hf:sn.findIdx (·==x)<sn.length
     ·rw[zI hf] at hfind;rw[zI hf] at hsn;generalize sn.findIdx (·==x)=idx at *
      have HF:=zh (zi hfind (zi hsn hl6));clear hfind hsn hl6 hsl
      go_wp2_with fail
      refine HF.out.1.mono ?_;rintro e w6 ⟨rfl,hb6⟩;have hO4:=(hO.move hb6).tail.swap;have r1:=aT (j:=s) (u:=.int .i64 0) hO4.row (iF HF.out.2.2 zo);have r2:=dh hO4.row s;have r3:=(World.ownsRow.lt hO4.row _ rfl).2;have hO5:=hO4.setRow s (.int .i64 idx);rw[kT HF.out.2.2 zo] at hO5;have HO5:=zh hO5.swap;clear hO5 hO4 hO hb6;go_wp2;refine hZ.out _ _ _ zo rfl ⟨s+1,.slice vsa sn.length vsc,xs,mk,zo,rfl,?_,?_,?_,hmk⟩
      ·rw[List.map];rfl
      ·rw[HF.out.2.1];exact HO5.out
      ·rw[HF.out.2.1];exact hrow
     ·rw[zH hf] at hfind;rw[zH hf] at hsn;have hidx:sn.findIdx (·==x)=sn.length:=zo;rw[hidx] at hsn;have hmk2:=Mem.dG (w:=w5) hO.free;have hrow2:=(hrow.mono hmk2).push hint2;have hOs:=hO.bv;have HF:=zh (zi hfind (zi hsn (zi hl6 (zi hrow2 (Mem.le_trans hmk hmk2)))));clear hfind hsn hl6 hsl hidx hf hfl hrow2 hmk2 hint2 hO;generalize mk.addv w5 (.slice vra (cuts.length+1) vrc)=mk2 at *
      go_wp2_with fail
      refine HF.out.1.mono ?_;rintro e w6 ⟨rfl,hb6⟩;have hO4:=(hOs.move hb6).al #[.slice vra (cuts.length+1) vrc] 118;have hnews:=hO4.obj.news rfl;clear hOs hb6
      go_wp2_with (at_builtin;refine aA FB rfl (.tmp 79) (.tmp 81) rfl (.slice vsa sn.length vsc) sn.length xs rfl hO4.swap.row ⟨w6.heap.size,0,none⟩ 1 1 [.slice vra (cuts.length+1) vrc] rfl rfl hnews (by simp[Value.oneCell']) (by unfold maxLen;omega) zo ?_)
      intro va vc w7 hown7 hgrow7 hrow7;have hO5:=(hO4.swap.app hown7 hgrow7 hrow7 zS).drop2.swap;clear hown7 hgrow7 hrow7 hO4 hnews;have r1:=aT (j:=s) (u:=.int .i64 0) hO5.row (iF HF.out.2.2.1 zo);have r2:=dh hO5.row s;have r3:=(World.ownsRow.lt hO5.row _ rfl).2;have hO6:=hO5.setRow s (.int .i64 sn.length);rw[kT HF.out.2.2.1 zo] at hO6;have HO6:=zh hO6.swap;clear hO6 hO5;go_wp2;refine hZ.out _ _ _ zo rfl ⟨s+1,.slice va (sn.length+1) vc,xs ++ [.slice vra (cuts.length+1) vrc],mk2,zo,rfl,?_,?_,?_,HF.out.2.2.2.2⟩
      ·rfl
      ·rw[HF.out.2.1];show Own w m _ mk2 [.row _ _ _ (sn ++ [x]).length _,.row _ _ _ _ _];rw[show (sn ++ [x]).length=sn.length+1 by simp];exact HO6.out
      ·rw[HF.out.2.1];exact HF.out.2.2.2.1
   ·obtain rfl:s=l.length:=zo;rw[Nat.sub_self,mZ] at hO;have hrd:=DK H hpos HRI.out.1;generalize fq (sig cls (fun s i=>bD l s (lo i)) cuts.length) l.length=rr at *
    obtain⟨sn,nxl⟩:=rr;simp only at hO hrd hnum hrow;have hin2:=dO (l:=nxl) (m:=mk) (by rw[hnum.len];exact hO.swap.row) (fun y hy=>by
     obtain⟨i,hi,rfl⟩:=List.mem_iff_getElem.1 hy;have:=hnum.rng (s:=i) (by rw[← hnum.len];exact hi);simp only[yP,hi,yC,Option.getD_some] at this;have:=hnum.le;simp only at this;omega)
    have hle2:=Mem.dG (w:=w4) hO.swap.free;have hO5:=hO.swap.bv.tail;have hnl:=hnum.len;generalize mk.addv w4 (.slice (some ⟨M,0,none⟩) l.length l.length)=mk2 at *
    have Hk:=zh (zi hin2 (zi (Mem.le_trans (Mem.le_trans hle hmk) hle2) (zi hO5 (zi hrd hnl))));have hs1:=hrd.2.1;have hs2:=hrd.2.2.1;clear hin2 hle2 hO5 hO hrd hnum hsn hnl;by_cases hstop:sn.length=many
    ·have hdec:((sn.length:Int)==(many:Int))=true:=by simp[hstop]
     have HT:=zh hstop;clear hstop;go_wp2;refine hR.out _ _ ⟨_,nxl,rfl,Hk.out.2.2.1.below,?_,Hk.out.2.2.2.1.2.2.2.2 HT.out⟩;have:=fH Hk.out.2.2.1.done Hk.out.1;exact this
    ·have hdec:((sn.length:Int)==(many:Int))=false:=by simp;omega
     go_wp2;exact hY.out _ _ _ zo rfl ⟨r+1,sn.length,nxl,.slice (some ⟨M,0,none⟩) l.length l.length,mk2,rfl,zo,zo,hs2,rfl,Hk.out.2.2.2.1.1,Hk.out.1,Hk.out.2.2.1,Hk.out.2.1⟩
  ·obtain rfl:r=l.length:=zo;have hfull:=O9 HRI.out.1 hrm hpos;have Hk:=zh (zi hfull (zi hO.below (fH hO.done hin0)));clear hfull hin0 hO;go_wp2;exact hR.out _ _ ⟨_,cls,rfl,Hk.out.2.1,Hk.out.2.2,Hk.out.1⟩
theorem Gf (T:Table):∀i,(h:i<(bV T 256).length)→(bV T 256)[i]=(loOf (aO (pOf T)) i:Nat):=(rZ T).lo
structure Sl (T:Table) (cuts:List Int) (cls:List Int) (lo hi:Nat→Nat):Prop where
 wf:WF T
 by_:Bytes T
 ta:Fv T T.length lo hi cuts.length (fun s i=>bD T s (lo i))
 bfs:qh T T.length (fun s=>cls.getD s 0) (dlT T lo) lo hi (fun s=>bz T s) cuts.length
 cut:OP cuts lo hi
 cls:uh T T.length cls
 len:T.length≤1000000
 pos:1≤T.length
 clen:cuts.length≤256
theorem MP {R:Table} (hw:WF R) (hb:Bytes R) {lv:Nat→Bool} (hlv:∀s:Nat,s<R.length→(lv s=true↔Lv R s)) (hlen:R.length≤1000000) (hpos:1≤R.length) (h0:Lv R 0) {cls:List Int}
 (hc:uh (eY R lv) (eY R lv).length cls):Sl (eY R lv) (bV (eY R lv) 256) cls (loOf (aO (pOf (eY R lv)))) (hiOf (aO (pOf (eY R lv)))):=by
 have hl:(eY R lv).length=R.length:=by simp[eY]
 have hwT:=FE hw lv;have ht:=Dh hw hlv;have h0T:Lv (eY R lv) 0:=by obtain⟨w,hx⟩:=h0;exact⟨w,by rw[vX hw hlv];exact hx⟩
 refine ⟨hwT,JJ hb lv,?_,?_,rZ _,hc,zo,zo,mq _ 256⟩
 ·rw[pg];exact sS hwT (rH _) ht
 ·rw[pg];exact Hz hwT (rH _) ht hc (ac:=fun s=>bz (eY R lv) s) (fun s _=>rfl) h0T zo
theorem MO {R:Table} (hw:WF R) {lv:Nat→Bool} (hlv:∀s:Nat,s<R.length→(lv s=true↔Lv R s)) :
 Fv (eY R lv) (eY R lv).length (loOf (aO (pOf (eY R lv)))) (hiOf (aO (pOf (eY R lv)))) (bV (eY R lv) 256).length (fun s i=>bD (eY R lv) s (loOf (aO (pOf (eY R lv))) i)):=by
 rw[pg];exact sS (FE hw lv) (rH _) (Dh hw hlv)
theorem pK (v0:Value) (l:Table) (m:Mem) (w:World) (hm:m.inn w) (hl:aG m v0 l) (hlen:l.length≤1000000) :
 Calls Tryz.prog 169 #[v0] w fun e w'=>∃r C,e=.returned (.tuple #[.agg #[r],.int .i64 (if tf (WF l)=true then 0 else 11)])∧Below w.heap.size w w'∧aG (m.grow w w') r C∧C.length≤l.length+1 ∧
  (WF l→Rx l C)∧(¬ WF l→C=[]):=by
 have hl0:=hl;have hby:=vN hl;obtain⟨a,c,rfl,h1,h2,h3⟩:=hl;unfold maxLen at h2;have HW:=zh (fun w (hw:m.inn w)=>pX (.slice a l.length c) l m w hw hl0);refine aj fun R hR=>?_;have hO:=(Own.start hm).al #[.slice none 0 0] 27;have HO:=zh hO;clear hO
 go_enter Tryz.func169,Tryz.ntmps169
 go_wp2_with fail
 refine (HW.out _ (Mem.cK HO.out.ext.le HO.out.inn)).mono ?_;rintro e w1 ⟨rfl,hb1⟩;have hO1:=HO.out.move hb1;have g1:=hO1.obj.c 0;have g2:=hO1.obj.frozen 0;have g3:=hO1.obj.lt;clear HO hb1;by_cases hwf:WF l
 ·rw[aN hwf];by_cases h0:l.length=0
  ·have hln:l=[]:=yH h0;have hO2:=hO1.set 0 (.slice none 0 0);have g4:=hO2.obj.c 0;have Hk:=zh (zi hO2 hln);have hdec:((l.length:Int)==0)=true:=by simp[h0]
   clear hO1 hO2 hln h0;go_wp2;refine yQ (v:=.tuple #[.agg #[.slice none 0 0],.int .i64 0]) (by simp[results,Tryz.results169,go_sem,g1]) rfl ?_;refine hR.out _ _ ⟨_,[],by rw[aN hwf];rfl,Hk.out.1.below,bC _,zS,fun _=>⟨dM,fun x=>?_⟩,fun _=>rfl⟩;rw[Hk.out.2]
  ·have hdec:((l.length:Int)==0)=false:=beq_eq_false_iff_ne.2 zo;have HA:=zh (Fs (.slice a l.length c) l m w1 (Mem.cK hO1.ext.le hO1.inn) hl0 hwf hlen);have HO1:=zh hO1;clear hO1
   go_wp2_with fail
   refine HA.out.mono ?_;rintro e w2 ⟨rv,lv0,rfl,hb2,hr2,hlv0,hiff0⟩;have hO2:=HO1.out.call hb2;have hle2:=Mem.dF (w:=w2) (Mem.cK HO1.out.ext.le HO1.out.inn);obtain⟨la,lc,rfl,l1,l2,l3⟩:=hr2;have hlv1:l.length≤lv0.length:=zo;clear hlv0;obtain⟨lb,lo',rfl,l4⟩:=l3 (by intro h;simp[h] at hlv1;simp[hlv1] at h0);have z0:=l4 0 zo;rw[Nat.add_zero] at z0;have z1:w2.cell? ⟨lb,lo',none⟩=some (.bool lv0[0]):=Mem.ak (Mem.I8 (Mem.cK HO1.out.ext.le HO1.out.inn) hb2) z0;have hb0:bt lv0 0=lv0[0]:=nH zo;have HF:=zh (zi (hiff0 0 zo) hb0);have g1:=hO2.obj.c 0;have g2:=hO2.obj.frozen 0;have g3:=hO2.obj.lt;clear hb0 hiff0 HA HO1;have hlvp:0<lv0.length:=zo;generalize lv0[0]=b0 at *
   cases b0 with
   | false=>
    have hO3:=hO2.set 0 (.slice none 0 0);have g4:=hO3.obj.c 0;have Hk:=zh hO3;clear hO2 hO3;go_wp2;refine yQ (v:=.tuple #[.agg #[.slice none 0 0],.int .i64 0]) (by simp[results,Tryz.results169,go_sem,g1]) rfl ?_;refine hR.out _ _ ⟨_,[],by rw[aN hwf];rfl,Hk.out.below,bC _,zS,fun _=>⟨dM,fun x=>?_⟩,fun h=>absurd hwf h⟩;rw[cu]
    cases hx:aC l 0 x with
    | false=>rfl
    | true=>
     have:=HF.out.1.2 ⟨x,hx⟩
     rw[HF.out.2] at this;cases this
   | true=>
    have hm2:=hO2.inn;have HRe:=zh (FY (.slice a l.length c) l _ w2 hm2 (aJ hO2.ext.le hl0) hwf hlen zo (fun s hs=>by have:=vS hwf hby s hs;omega));have HO2:=zh hO2;clear hO2 hm2
    go_wp2_with fail
    refine HRe.out.mono ?_;rintro e w3 ⟨r3,o,rfl,hb3,hst3,hri⟩;have hO3:=HO2.out.call hb3;obtain⟨q1,q2,q3,q4⟩:=Mm hwf hby hri;have hoN:=wY hri.nodup hri.lt;have hRp:1≤(iC l o o.length).length:=by
     have hf:=hri.first;rw[q3]
     cases o with
     | nil=>simp at hf
     | cons _ _=>simp
    have hlvR:Lv (iC l o o.length) 0:=by
     obtain⟨x,hx⟩:=HF.out.1.1 HF.out.2;exact⟨x,by rw[q4];exact hx⟩
    have HTr:=zh (FD r3 (iC l o o.length) _ w3 hO3.inn hst3 q1 zo (fun s hs=>by have:=vS q1 q2 s hs;omega));have HO3:=zh hO3;have HR0:=zh (zi q4 hlvR);have hRl:(iC l o o.length).length≤l.length:=zo;obtain⟨r3a,r3c,rfl⟩:∃ra rc,r3=.slice ra (iC l o o.length).length rc:=by obtain⟨x,y,e,-⟩:=hst3;exact⟨x,y,e⟩
    clear hO3 HRe HO2 hst3 hb3 q3 q4 hlvR hri hoN;generalize iC l o o.length=R at *
    go_wp2_with fail
    refine HTr.out.mono ?_;rintro e w4 ⟨r4,lv,rfl,hb4,hst4,hlv⟩;have hO4:=HO3.out.call hb4;have hTl:(eY R lv).length=R.length:=by simp[eY]
    have hTw:=FE q1 lv;have HSt:=zh (Ld r4 (eY R lv) _ w4 hO4.inn hst4 hTw);obtain⟨r4a,r4c,rfl⟩:∃ra rc,r4=.slice ra (eY R lv).length rc:=by obtain⟨x,y,e,-⟩:=hst4;exact⟨x,y,e⟩
    have HO4:=zh (zi hO4 (zi hst4 (zi hTw (zi hlv (zi q1 q2)))));have hTl2:(eY R lv).length≤R.length:=zo;have hTl3:R.length≤(eY R lv).length:=zo;clear hO4 HO3 HTr hst4 hb4 hTl hTw hlv q1 q2
    go_wp2_with fail
    refine HSt.out.mono ?_;rintro e w5 ⟨r5,rfl,hb5,hst5⟩;have hO5:=HO4.out.1.call hb5;have hTw:=HO4.out.2.2.1;have hlv:=HO4.out.2.2.2.1;have q1:=HO4.out.2.2.2.2.1;have q2:=HO4.out.2.2.2.2.2;have hle5:=Mem.dF (w:=w5) HO4.out.1.inn;have HCl:=zh (Hm _ r5 (eY R lv) (bV (eY R lv) 256) _ _ _ w5 hO5.inn (aJ hle5 HO4.out.2.1) hst5 hTw zo zo (MO q1 hlv) (Gf (eY R lv)) (mq _ 256));have HN0:=zh (fun cls (hc:uh (eY R lv) (eY R lv).length cls)=>MP q1 q2 hlv zo hRp HR0.out.2 hc);have HL:=zh (fun x=>vX q1 hlv x 0);have hst4:=aJ hle5 HO4.out.2.1;obtain⟨r5a,r5c,rfl⟩:∃ra rc,r5=.slice ra (bV (eY R lv) 256).length rc:=by obtain⟨x,y,e,-⟩:=hst5;exact⟨x,y,e⟩
    have HO5:=zh (zi hO5 (zi hst4 hst5));have hTl4:(eY R lv).length≤l.length:=zo;have hTl5:1≤(eY R lv).length:=zo;have HR0:=zh HR0;clear hO5 HO4 HSt hst4 hst5 hb5 hle5 hTw hlv q1 q2 hTl2 hTl3;generalize eY R lv=T at *
    generalize loOf (aO (pOf T))=lo at *
    generalize hiOf (aO (pOf T))=hi at *
    generalize bV T 256=cuts at *
    go_wp2_with fail
    refine HCl.out.mono ?_;rintro e w6 ⟨r6,cls,rfl,hb6,hst6,hcls⟩;have hO6:=HO5.out.1.call hb6;have hle6:=Mem.dF (w:=w6) HO5.out.1.inn;have hN:=HN0.out cls hcls;have hT6:=aJ hle6 HO5.out.2.1;have hc6:=fH hle6 HO5.out.2.2;have HN:=zh hN;have hclen:=hN.clen;obtain⟨r6a,r6c,rfl⟩:∃ra rc,r6=.slice ra cls.length rc:=by obtain⟨x,y,e,-⟩:=hst6;exact⟨x,y,e⟩
    have hO7:=(((hO6.al #[.int .i64 0] 3).P9).al #[.slice none 0 0] 27).dI 92 2;have hsz:(w6.alloc (.cells #[.int .i64 0] 3)).heap.size=w6.heap.size+1:=by simp
    rw[hsz] at hO7;have HO7:=zh hO7;have hTl4:=hN.len;have hcll:=hcls.len;obtain⟨cf,hcf⟩:∃cf:Nat→Int,cf=fun s=>cls.getD s 0:=⟨_,rfl⟩;obtain⟨dl,hdl⟩:∃dl:Nat→Nat→Option Nat,dl=dlT T lo:=⟨_,rfl⟩;obtain⟨ah,hah⟩:∃ah:Nat→Bool,ah=fun (s:Nat)=>bz T (s:Int):=⟨_,rfl⟩;have HB:Hid (qh T T.length cf dl lo hi ah cuts.length):=zh (by rw[hcf,hdl,hah];exact hN.bfs);have HI:=zh (fun k hk=>H7 (cf:=cf) (ac:=ah) HB.out.iv HB.out.pos (fun s i t h1 h2 h3=>(HB.out.some s i t h1 h2 h3).1) k hk);have Hfun:=zh (zi hcf (zi hdl hah));have Hdat:=zh (zi hT6 (zi hc6 hst6));obtain⟨_,_,e4,t2,t3,t4⟩:=hT6;injection e4 with e4a e4b e4c;subst e4a;subst e4c;obtain⟨_,_,e5,u2,u3,u4⟩:=hc6;injection e5 with e5a e5b e5c;subst e5a;subst e5c;obtain⟨_,_,e6,v2,v3,v4⟩:=hst6;injection e6 with e6a e6b e6c;subst e6a;subst e6c;obtain⟨tb,to',rfl,t5⟩:=t4 (by intro h;simp[h] at hTl5);have hclsp:1≤cls.length:=zo;obtain⟨kb,ko,rfl,v5⟩:=v4 (by intro h;simp[h] at hclsp);unfold maxLen at t3 u3 v3;have hcl1:T.length≤cls.length:=zo;have hcl2:cls.length≤T.length:=zo;generalize hmk0:Mem.grow _ w5 w6=mk0 at *
    generalize hB6:w6.heap.size=B6 at *
    clear hcf hdl hah HCl HO5 HN0 hb6 hle6 hN hO7 hO6 hsz hcls hmk0 e4b e5b e6b t4 v4 hcll;go_wp2;refine au [2,4,5,6,7,8,9] (fun n vs wr=>∃(k:Nat) (vo vst:Value) (xs:List Value) (mk:Mem),
     (∀j,j<k→j<(dH cf dl lo hi ah cuts.length j).1.length)∧k≤(dH cf dl lo hi ah cuts.length k).1.length∧n=T.length - k ∧
     vs=[.pointer (some ⟨w.heap.size,0,none⟩),.slice (some ⟨tb,to',none⟩) T.length r4c,.slice r5a cuts.length r5c,.slice (some ⟨kb,ko,none⟩) cls.length r6c,vo,.pointer (some ⟨B6+1,0,none⟩),.int .i64 k] ∧
     Own w m wr mk [.row vst 92 2 k xs,.obj (B6+1) 27 #[vst],.row vo 3 1 (dH cf dl lo hi ah cuts.length k).1.length (cZ (dH cf dl lo hi ah cuts.length k).1),.obj w.heap.size 27 #[.slice none 0 0]] ∧
     jA mk xs (dH cf dl lo hi ah cuts.length k).2∧mk0.le mk) ?_ ?_
    ·exact⟨_,0,.slice (some ⟨B6,0,none⟩) 1 1,.slice none 0 0,[],_,fun j hj=>zo,zC _,rfl,rfl,HO7.out,jA.nil _,Mem.le_refl _⟩
    clear HO7;rintro X z n vs wr hX - ⟨k,vo,vst,xs,mk,hk1,hk2,rfl,rfl,hO,hrow,hmk⟩;simp[litL,lk];have hBI:=HI.out k hk1;obtain⟨voa,voc,rfl⟩:=aM hO.third.row;by_cases hlt:k<(dH cf dl lo hi ah cuts.length k).1.length
    ·have hsN:=hBI.lt _ (zB hlt);have hoN:=lK hBI.dif hBI.lt;obtain⟨vob,rfl⟩:=iL hO.third.row zo;have hr1s:=nV hlt;have r1:=aT hO.third.row hr1s;have rl:=(World.ownsRow.lt hO.third.row _ rfl).2;have hgd:(dH cf dl lo hi ah cuts.length k).1.getD k 0=(dH cf dl lo hi ah cuts.length k).1[k]:=by simp[hlt]
     have hok:(dH cf dl lo hi ah cuts.length k).1[k]?=some (dH cf dl lo hi ah cuts.length k).1[k]:=by simp[hlt]
     have hE:=Bt cf dl lo hi ah cuts.length k;rw[hgd] at hE;have HBI:=zh hBI;have Hob:=zh (show ∀j,j<k+1→j<(dH cf dl lo hi ah cuts.length j).1.length from fun j hj=>by
      by_cases c:j<k
      ·exact hk1 j c
      ·have:j=k:=zo;subst this;exact hlt)
     clear hBI hgd hk1 hk2;generalize (dH cf dl lo hi ah cuts.length k).1[k]=s at *
     obtain⟨a1,-⟩:=t5 s hsN;have a1w:=Mem.ak hO.inn (Mem.aB hmk a1);have a1l:=Mem.ay hO.inn (Mem.aB hmk a1);have hahs:ah s=(T[s]).accept:=by
      have h1:=congrFun Hfun.out.2.2 s;rw[h1,eZ T s hsN]
     rw[← hahs] at a1w;clear hahs a1;generalize dH cf dl lo hi ah cuts.length k=r at *
     obtain⟨o,out⟩:=r;simp only at *
     have hO2:=(hO.al #[.bool (ah s),.slice none 0 0] 92).dI 133 3;have HO2:=zh hO2;have HE:=zh hE;have Hok:=zh hok;clear hO2 hO hr1s hE hok;generalize hS:wr.heap.size=S at *
     go_wp2;have HRI:=zh (show ∀i,i≤cuts.length→Jw cf dl lo hi cuts.length T.length s o i (bX cf dl lo hi s o i) from
      FV HB.out.iv HBI.out.dif HBI.out.lt (fun i t hi' ht=>(HB.out.some s i t hsN hi' ht).1))
     refine au [2,4,5,6,7,8,9,10,56,57,58] (fun n vs wr2=>∃(i:Nat) (vo ve:Value),i≤cuts.length∧n=cuts.length - i ∧
      vs=[.pointer (some ⟨w.heap.size,0,none⟩),.slice (some ⟨tb,to',none⟩) T.length r4c,.slice r5a cuts.length r5c,.slice (some ⟨kb,ko,none⟩) cls.length r6c,vo,.pointer (some ⟨B6+1,0,none⟩),.int .i64 k,.pointer (some ⟨S,0,none⟩),.slice r5a cuts.length r5c,.int .i64 cuts.length,.int .i64 i] ∧
      Own w m wr2 mk [.row ve 133 3 (bX cf dl lo hi s o i).2.length (bQ (bX cf dl lo hi s o i).2),.obj S 92 #[.bool (ah s),ve],.row vst 92 2 k xs,.obj (B6+1) 27 #[vst],
       .row vo 3 1 (bX cf dl lo hi s o i).1.length (cZ (bX cf dl lo hi s o i).1),.obj w.heap.size 27 #[.slice none 0 0]]) ?_ ?_
     ·exact⟨_,0,.slice (some ⟨vob,0,none⟩) o.length voc,.slice none 0 0,zC _,rfl,rfl,HO2.out⟩
     clear HO2 r1 rl a1w a1l;rintro Y z2 n vs wr2 hY - ⟨i,vo,ve,hi1,rfl,rfl,hO⟩;simp[litL,lk];have hri:=HRI.out i hi1;have hol:=hri.pre.length_le;obtain⟨voa',voc',rfl⟩:=aM (hO.jY (v:=vo) (t:=3) (size:=1) (n:=(bX cf dl lo hi s o i).1.length) (xs:=cZ (bX cf dl lo hi s o i).1) zS);obtain⟨vea,vec,rfl⟩:=aM hO.row;have hqN:=lK hri.dif hri.lt;have hqe:=DI cf dl lo hi s o i;by_cases hlt3:i<cuts.length
     ·obtain⟨cb,co,rfl,u5⟩:=u4 (by intro h;simp[h] at hlt3);have hle:=HB.out.iv.le i hlt3;have c1:=u5 i hlt3;have hcl3:=HN.out.cut.lo i hlt3;rw[hcl3] at c1;have c1w:=Mem.ak hO.inn (Mem.aB hmk c1.1);have c1l:=Mem.ay hO.inn (Mem.aB hmk c1.1);have hok2:(bX cf dl lo hi s o i).1[k]?=some s:=by
       obtain⟨x,hx⟩:=hri.pre;rw[← hx,yF hlt];exact Hok.out
      have hrow0:=hO.jY (v:=.slice voa' (bX cf dl lo hi s o i).1.length voc') (t:=3) (size:=1) (n:=(bX cf dl lo hi s o i).1.length) (xs:=cZ (bX cf dl lo hi s o i).1) zS;obtain⟨vob',rfl⟩:=iL hrow0 zo;have hoc:(cZ (bX cf dl lo hi s o i).1)[k]?=some (.int .i64 s):=by
       unfold cZ;rw[List.getElem?_map,hok2];rfl
      have r1:=aT hrow0 hoc;have rl:=(World.ownsRow.lt hrow0 _ rfl).2;have hwu:IntKind.u8.wrap (lo i:Int)=(lo i:Int):=IntWalk.u8_in _ zo;have hst:=CP (.slice (some ⟨tb,to',none⟩) T.length r4c) T s (lo i) mk wr2 hO.inn (aJ hmk Hdat.out.1) zo zo;have hdlx:dl s i=if bD T s (lo i)<0 then none else some (bD T s (lo i)).toNat:=congrFun (congrFun Hfun.out.2.1 s) i;have hkl:k<(bX cf dl lo hi s o i).1.length:=zo;clear hcl3 hok2 hrow0 hoc c1;rcases dU HN.out.wf s (lo i) with ht | ⟨ht1,ht2⟩
      ·rw[ht] at hst;rw[zI zo] at hdlx;have hN:=Aq (cf:=cf) (lo:=lo) (hi:=hi) (o:=o) hdlx;have HN2:=zh hN;have HST:=zh hst;have HO:=zh hO;clear hN hdlx ht hst hri hO
       go_wp2_with fail
       refine HST.out.mono ?_;rintro e w7 ⟨rfl,hb7⟩;have hO2:=HO.out.move hb7;clear HO hb7 c1w r1;go_wp2;refine hY.out _ _ _ zo rfl ⟨i+1,.slice (some ⟨vob',0,none⟩) (bX cf dl lo hi s o i).1.length voc',.slice vea (bX cf dl lo hi s o i).2.length vec,zo,rfl,rfl,?_⟩;rw[HN2.out];exact hO2
      ·obtain⟨tn,htn⟩:=zQ ht1;rw[htn] at hst ht2 hdlx;rw[zH zo,Int.toNat_natCast] at hdlx;have hN:=Ap (cf:=cf) (lo:=lo) (hi:=hi) (o:=o) hdlx;have hri2:=HRI.out (i+1) zo;have HN2:=zh (zi hN (zi hri2 hri));have HST:=zh hst;have HO:=zh hO;have hhi:=HN.out.cut.hi i hlt3;unfold ES at hhi;clear hN hdlx hst hri hri2 hO ht1 htn;generalize bX cf dl lo hi s o i=q at *
       obtain⟨o',es⟩:=q;simp only at hqN hqe hol hkl
       go_wp2_with fail
       refine HST.out.mono ?_;rintro e w7 ⟨rfl,hb7⟩;have hO2:=HO.out.move hb7;have c1w:=Mem.ak hO2.inn (Mem.aB hmk (u5 i hlt3).1);clear HO hb7 c1w r1
       go_upto_if 77 with (fail)
       refine aI [2,4,5,6,7,8,9,10,56,57,58,12,13,14] (fun vs w'=>vs=[.pointer (some ⟨w.heap.size,0,none⟩),.slice (some ⟨tb,to',none⟩) T.length r4c,.slice (some ⟨cb,co,none⟩) cuts.length r5c,.slice (some ⟨kb,ko,none⟩) cls.length r6c,.slice (some ⟨vob',0,none⟩) o'.length voc',.pointer (some ⟨B6+1,0,none⟩),.int .i64 k,.pointer (some ⟨S,0,none⟩),.slice (some ⟨cb,co,none⟩) cuts.length r5c,.int .i64 cuts.length,.int .i64 i,.int .i64 (lo i),.int .i64 tn,.int .i64 (hi i)]∧w'=w7) ?_ ?_
       ·intro V hV;by_cases hnx:i+1<cuts.length
        ·rw[dif_pos hnx] at hhi;have d1:=u5 (i+1) hnx;have hcl4:=HN.out.cut.lo (i+1) hnx;rw[hcl4] at hhi d1;have d1w:=Mem.ak hO2.inn (Mem.aB hmk d1.1);have d1l:=Mem.ay hO2.inn (Mem.aB hmk d1.1);have hsep:=HB.out.iv.sep i (i+1) zo hnx;have hle5:=HB.out.iv.le (i+1) hnx;have hdec:decide (i+1<cuts.length)=true:=zL hnx;have Hhi:=zh hhi;clear hhi hcl4 d1;go_wp2;refine hV.out _ _ rfl ⟨?_,rfl⟩;rw[← Hhi.out];rfl
        ·rw[dif_neg hnx] at hhi;have hdec:decide (i+1<cuts.length)=false:=zK hnx;have Hhi:=zh hhi;clear hhi;go_wp2;refine hV.out _ _ rfl ⟨?_,rfl⟩;rw[← Hhi.out];rfl
       rintro z3 vs w8 - ⟨rfl,rfl⟩;simp[litL,lk];clear hhi;have hq1:=(hO2.pull (l₁:=[_,_,_,_]));have hq2:=hq1.bv;have hcn:∀y∈o'.map Int.ofNat,0≤y∧y<cls.length:=fun y hy=>by
        obtain⟨x,hx,rfl⟩:=List.mem_map.1 hy;have:=HN2.out.2.2.lt x hx;simp only[Int.ofNat_eq_natCast];omega
       have hin:=dO (l:=o'.map Int.ofNat) (m:=mk) (by rw[List.length_map,← BZ];exact hq1.row) (fun y hy=>by have:=hcn y hy;omega);have hnum:=Eh _ (.slice (some ⟨kb,ko,none⟩) cls.length r6c) (o'.map Int.ofNat) cls tn _ _ hq2.inn hin (fH (Mem.le_trans hmk (Mem.dG hq1.free)) Hdat.out.2.2) zo hcn;rw[Eg zo] at hnum;have hcf0:(fun s=>cls.getD s 0)=cf:=Hfun.out.1.symm;rw[hcf0] at hnum;have hap:=oQ cf o' tn;have hpo:=oN cf o' tn;have hap2:=hap.2;have hap1:=hap.1;have HNum:=zh (zi hnum (zi hO2 hap));have hrd:(dw cf o' tn).length=o'.length∨(dw cf o' tn).length=o'.length+1∧dL cf o' tn=o'.length:=AP;have Hpq:=zh (show dw cf o' tn=if dL cf o' tn<o'.length then o' else o' ++ [tn] from rfl);clear hnum hin hcn hq1 hq2 hO2 hap hcf0 hap1 hrd c1w;generalize hp:dL cf o' tn=p at *
       have Hp:=zh hp;clear hp
       go_wp2_with fail
       refine HNum.out.1.mono ?_;rintro e w9 ⟨rfl,hb9⟩;have hO2:=HNum.out.2.1.move hb9;clear hb9
       go_upto_if 91 with (fail)
       refine aI [2,4,5,6,7,8,9,10,56,57,58,12,13,14,15] (fun vs w'=>∃vo2:Value,vs=[.pointer (some ⟨w.heap.size,0,none⟩),.slice (some ⟨tb,to',none⟩) T.length r4c,.slice (some ⟨cb,co,none⟩) cuts.length r5c,.slice (some ⟨kb,ko,none⟩) cls.length r6c,vo2,.pointer (some ⟨B6+1,0,none⟩),.int .i64 k,.pointer (some ⟨S,0,none⟩),.slice (some ⟨cb,co,none⟩) cuts.length r5c,.int .i64 cuts.length,.int .i64 i,.int .i64 (lo i),.int .i64 tn,.int .i64 (hi i),.int .i64 p] ∧
        Own w m w' mk [.row (.slice vea es.length vec) 133 3 es.length (bQ es),.obj S 92 #[.bool (ah s),.slice vea es.length vec],.row vst 92 2 k xs,.obj (B6+1) 27 #[vst],
         .row vo2 3 1 (dw cf o' tn).length (cZ (dw cf o' tn)),.obj w.heap.size 27 #[.slice none 0 0]]) ?_ ?_
       ·intro V hV;by_cases hf:p<o'.length
        ·have hdec:((p:Int)==(o'.length:Int))=false:=beq_eq_false_iff_ne.2 zo;have hpq:=Hpq.out;rw[zI hf] at hpq;have Hpq2:=zh hpq;clear hpq;go_wp2;refine hV.out _ _ rfl ⟨.slice (some ⟨vob',0,none⟩) o'.length voc',rfl,?_⟩;rw[Hpq2.out];exact hO2
        ·have hdec:((p:Int)==(o'.length:Int))=true:=beq_iff_eq.2 zo;have hpq:=Hpq.out;rw[zH hf] at hpq;have Hpq2:=zh hpq;have hO3:=hO2.al #[.int .i64 tn] 3;have hnews:=hO3.obj.news rfl;clear hpq
         go_wp2_with (at_builtin;refine aA vV rfl (.tmp 92) (.tmp 94) rfl (.slice (some ⟨vob',0,none⟩) o'.length voc') o'.length (cZ o') rfl (hO3.jY zS) ⟨w9.heap.size,0,none⟩ 1 1 [.int .i64 tn] rfl rfl hnews (by simp[Value.oneCell']) (by unfold maxLen;omega) zo ?_)
         intro va vc w7' hown7 hgrow7 hrow7;have hO4:=(hO3.pull (l₁:=[_,_,_,_,_])).app hown7 hgrow7 hrow7 zS;have hO5:=(hO4.vU (l₁:=[_,_,_,_,_])).tail;have HO5:=zh hO5;clear hO5 hO4 hO3 hown7 hgrow7 hrow7 hnews;go_wp2;refine hV.out _ _ rfl ⟨.slice va (o'.length+1) vc,rfl,?_⟩;rw[Hpq2.out];have:=HO5.out;simpa [cZ] using this
       rintro z4 vs w10 - ⟨vo2,rfl,hO3⟩;simp[litL,lk];clear hO2;obtain⟨voa2,voc2,rfl⟩:=aM (hO3.jY (v:=vo2) (t:=3) (size:=1) (n:=(dw cf o' tn).length) (xs:=cZ (dw cf o' tn)) zS);have hpN:p≤2000000:=by
        have h2:=lK HN2.out.2.1.dif HN2.out.2.1.lt;rw[HN2.out.1] at h2;simp only at h2;omega
       have hedok:=vH (N:=T.length) HN2.out.2.2 zo;simp only at hedok;have hes0:es=[]∨∃fs e,es=fs ++ [e]:=by
        rcases List.eq_nil_or_concat es with h | ⟨fs,e,h⟩
        ·exact .inl h
        ·exact .inr ⟨fs,e,by rw[h,List.concat_eq_append]⟩
       obtain⟨q,hq⟩:∃q,es.length=q:=⟨_,rfl⟩;rw[hq] at hO3 hqe;have Hq:=zh (zi hq (zi hedok hes0));have s1:=hO3.swap.obj.c 1;have s2:=hO3.swap.obj.lt;clear hq hedok hes0
       go_upto_region 26 with (fail)
       refine aI [2,4,5,6,7,8,9,10,56,57,58,12,14,15,16,123] (fun vs w'=>∃bb:Bool,vs=[.pointer (some ⟨w.heap.size,0,none⟩),.slice (some ⟨tb,to',none⟩) T.length r4c,.slice (some ⟨cb,co,none⟩) cuts.length r5c,.slice (some ⟨kb,ko,none⟩) cls.length r6c,.slice voa2 (dw cf o' tn).length voc2,.pointer (some ⟨B6+1,0,none⟩),.int .i64 k,.pointer (some ⟨S,0,none⟩),.slice (some ⟨cb,co,none⟩) cuts.length r5c,.int .i64 cuts.length,.int .i64 i,.int .i64 (lo i),.int .i64 (hi i),.int .i64 p,.int .i64 ((q:Int) - 1),.bool bb] ∧
        w'=w10∧(bb=true↔∃(fs:List Ed) (e:Ed),es=fs ++ [e]∧e.to=(p:Int)∧e.hi+1=lo i)) ?_ ?_
       ·intro V hV;rcases Hq.out.2.2 with hnil | ⟨fs,e,hfe⟩
        ·have hq0:q=0:=by rw[← Hq.out.1,hnil];rfl
         have Hn:=zh hnil;subst hq0;clear hnil;go_wp2;exact hV.out _ _ rfl ⟨false,rfl,rfl,by rw[Hn.out];simp⟩
        ·have hq1:q=fs.length+1:=by rw[← Hq.out.1,hfe];simp
         have hed:=Hq.out.2.1 e (by rw[hfe];simp);have hec:=ja es fs.length (by rw[hfe];simp);have hel:es[fs.length]'(by rw[hfe];simp)=e:=by simp[hfe]
         rw[hel] at hec;have HL:=zh (zi hfe (IX fs e (p:Int) (lo i)));subst hq1;obtain⟨eb,rfl⟩:=iL hO3.row zo;have y1:=aT hO3.row hec.2.1;have y2:=aT hO3.row hec.2.2;have hbl:=(World.ownsRow.lt hO3.row _ rfl).2;have hlt5:fs.length<fs.length+1:=zo;clear hel hec hfe;by_cases hc1:e.to=(p:Int)
         ·by_cases hc2:e.hi+1=lo i
          ·have Hc:=zh (zi hc1 hc2);have hdec1:((e.to:Int)==(p:Int))=true:=beq_iff_eq.2 hc1;have hdec2:((e.hi:Int)+1==(lo i:Int))=true:=beq_iff_eq.2 zo;have hed1:=hed.2.1;clear hc1 hc2;go_wp2;exact hV.out _ _ rfl ⟨true,zS,rfl,by rw[HL.out.1,HL.out.2];simp[Hc.out.1,Hc.out.2]⟩
          ·have Hc:=zh (zi hc1 hc2);have hdec1:((e.to:Int)==(p:Int))=true:=beq_iff_eq.2 hc1;have hdec2:((e.hi:Int)+1==(lo i:Int))=false:=beq_eq_false_iff_ne.2 zo;have hed1:=hed.2.1;clear hc1 hc2;go_wp2;exact hV.out _ _ rfl ⟨false,zS,rfl,by rw[HL.out.1,HL.out.2];simp[Hc.out.2]⟩
         ·have Hc:=zh hc1;have hdec1:((e.to:Int)==(p:Int))=false:=beq_eq_false_iff_ne.2 hc1;clear hc1;go_wp2;exact hV.out _ _ rfl ⟨false,zS,rfl,by rw[HL.out.1,HL.out.2];simp[Hc.out]⟩
       rintro z5 vs w11 - ⟨bb,rfl,rfl,hbb⟩;simp[litL,lk];have Hbb:=zh hbb;clear hbb;have hwh:IntKind.u8.wrap (hi i:Int)=(hi i:Int):=IntWalk.u8_in _ zo;have hwl:IntKind.u8.wrap (lo i:Int)=(lo i:Int):=IntWalk.u8_in _ zo
       cases bb with
       | true=>
        obtain⟨fs,e,hfe,he1,he2⟩:=Hbb.out.1 rfl;have hq1:q=fs.length+1:=by rw[← Hq.out.1,hfe];simp
        have hpe:=Ay (lo:=lo i) (hi:=hi i) (fs:=fs) (zi he1 he2);subst hfe;subst hq1;obtain⟨eb,rfl⟩:=iL hO3.row zo;have hec:=ja (fs ++ [e]) fs.length zS;have y1:=aT hO3.row hec.2.1;have y2:=dh hO3.row (fs.length*3+1);have hbl:=(World.ownsRow.lt hO3.row _ rfl).2;have hlt5:fs.length<fs.length+1:=zo;have hO6:=hO3.setRow (fs.length*3+1) (.int .u8 (hi i));rw[qK] at hO6;have Hfin:=zh (zi hO6 hpe);clear hO6 hO3 hpe he1 he2 hec;go_wp2;refine hY.out _ _ _ zo rfl ⟨i+1,.slice voa2 (dw cf o' tn).length voc2,.slice (some ⟨eb,0,none⟩) (fs.length+1) vec,zo,rfl,rfl,?_⟩;rw[HN2.out.1,Hfin.out.2];have:=Hfin.out.1
        simpa using this
       | false=>
        have hpe:jD es (lo i) (hi i) p=es ++ [⟨lo i,hi i,(p:Int)⟩]:=by
         rcases Hq.out.2.2 with rfl | ⟨fs,e,rfl⟩
         ·rfl
         ·exact Az fun h=>by have:=Hbb.out.2 ⟨fs,e,rfl,h.1,h.2⟩;cases this
        have hO5:=hO3.al #[.int .u8 (lo i),.int .u8 (hi i),.int .i64 p] 133;have hnews:=hO5.obj.news rfl;have Hpe:=zh hpe;clear hpe hO3
        go_wp2_with (at_builtin;refine aA mF rfl (.tmp 132) (.tmp 139) rfl (.slice vea q vec) q (bQ es) rfl hO5.swap.row ⟨w11.heap.size,0,none⟩ 1 1 [.int .u8 (lo i),.int .u8 (hi i),.int .i64 p] rfl rfl hnews (by simp[Value.oneCell']) (by unfold maxLen;omega) zo ?_)
        intro xa xc w12 hown7 hgrow7 hrow7;have hO6:=(hO5.swap.app hown7 hgrow7 hrow7 zS).drop2.swap;have s1:=hO6.obj.c 1;have s2:=hO6.obj.lt;have s3:=hO6.obj.frozen 1;have hO7:=(hO6.set 1 (.slice xa (q+1) xc)).swap;have Hfin:=zh hO7;clear hO7 hO6 hO5 hown7 hgrow7 hrow7 hnews;go_wp2;refine hY.out _ _ _ zo rfl ⟨i+1,.slice voa2 (dw cf o' tn).length voc2,.slice xa (q+1) xc,zo,rfl,rfl,?_⟩;rw[HN2.out.1,Hpe.out];have:=Hfin.out;simpa [eT,Hq.out.1] using this
     ·obtain rfl:i=cuts.length:=zo;have s0:=hO.swap.obj.c 0;have s1:=hO.swap.obj.c 1;have sl:=hO.swap.obj.lt;have u0:=(hO.d9 (g:=B6+1) (t:=27) (arr:=#[vst]) zS).cell (i:=0) rfl;have u1:=(hO.d9 (g:=B6+1) (t:=27) (arr:=#[vst]) zS).lt;have hes:=fC (l:=(bX cf dl lo hi s o cuts.length).2) (m:=mk) hO.row (vH (N:=T.length) hri zo);have hO2:=hO.bv;have hmk2:=Mem.dG (w:=wr2) hO.free;have hrow2:=(hrow.mono hmk2).push (s:=⟨ah s,(bX cf dl lo hi s o cuts.length).2⟩) hes;obtain⟨vsta,vstc,rfl⟩:=aM hO2.swap.row;have hO3:=hO2.al #[.bool (ah s),.slice vea (bX cf dl lo hi s o cuts.length).2.length vec] 92;have Hk:=zh (zi hrow2 (Mem.le_trans hmk hmk2));clear hrow2 hes hmk2;generalize mk.addv wr2 (.slice vea (bX cf dl lo hi s o cuts.length).2.length vec)=mk2 at *
      have hnews:=hO3.obj.news rfl;have hvr:=hO3.third.row;clear hO hO2
      go_wp2_with (at_builtin;refine aA iJ rfl (.tmp 144) (.tmp 146) rfl (.slice vsta k vstc) k xs rfl hvr ⟨wr2.heap.size,0,none⟩ 1 1 [.bool (ah s),.slice vea (bX cf dl lo hi s o cuts.length).2.length vec] rfl rfl hnews (by simp[Value.oneCell']) (by unfold maxLen;omega) zo ?_)
      intro va vc w7 hown7 hgrow7 hrow7;have hO4:=(hO3.third.app hown7 hgrow7 hrow7 zS).fourth;clear hown7 hgrow7 hrow7 hO3 hvr hnews;have u2:=hO4.obj.c 0;have u3:=hO4.obj.frozen 0;have u4:=hO4.obj.lt;have hO5:=((hO4.set 0 (.slice va (k+1) vc)).swap).kV.kV;have HO5:=zh hO5;clear hO5 hO4;go_wp2;have hpre:=hri.pre.length_le;refine hX.out _ _ _ zo rfl ⟨k+1,.slice voa' (bX cf dl lo hi s o cuts.length).1.length voc',.slice va (k+1) vc,xs ++ [.bool (ah s),.slice vea (bX cf dl lo hi s o cuts.length).2.length vec],mk2,?_,?_,rfl,rfl,?_,?_,Hk.out.2⟩
      ·exact Hob.out
      ·rw[HE.out];show k+1≤(bX cf dl lo hi s o cuts.length).1.length;omega
      ·rw[HE.out];exact HO5.out
      ·rw[HE.out];exact Hk.out.1
    ·have hkl2:(dH cf dl lo hi ah cuts.length k).1.length=k:=zo;have hcan:=Fq HB.out hk1 hkl2;have hNl:=lK hBI.dif hBI.lt;rw[hkl2] at hNl;have hclen2:=hBI.len;generalize dH cf dl lo hi ah cuts.length k=r at *
     obtain⟨vsta,vstc,rfl⟩:=aM hO.row;have u1:=hO.swap.obj.c 0;have hO2:=(hO.pull (l₁:=[_,_,_]));have u2:=hO2.obj.c 0;have u3:=hO2.obj.frozen 0;have u4:=hO2.obj.lt;have hO3:=(hO2.set 0 (.slice vsta k vstc)).swap;have hst:=dK (l:=r.2) (m:=mk) (by rw[hclen2];exact hO3.row) hrow hO3.free;have hst2:=aJ hO3.bv.done hst;have hbel:=hO3.below;have g4:=hO3.swap.obj.c 0;have Hk:=zh (zi hcan (zi hst2 (zi hbel (zi hNl hclen2))));clear hcan hst hst2 hbel hNl hclen2 hO3 hO2 hO hBI hrow hkl2;go_wp2;refine yQ (v:=.tuple #[.agg #[.slice vsta k vstc],.int .i64 0]) (by simp[results,Tryz.results169,go_sem,g4]) rfl ?_;refine hR.out _ _ ⟨_,r.2,by rw[aN hwf];rfl,Hk.out.2.2.1,Hk.out.2.1,?_,fun _=>⟨Hk.out.1.1,fun x=>?_⟩,fun h=>absurd hwf h⟩
     ·have h1:=Hk.out.2.2.2.1;have h2:=Hk.out.2.2.2.2;omega
     ·rw[Hk.out.1.2,HL.out,HR0.out.out.1]
 ·rw[aK hwf];have hO2:=hO1.set 0 (.slice none 0 0);have g4:=hO2.obj.c 0;have Hk:=zh (zi hO2 hwf);clear hO1 hO2 hwf;go_wp2;refine yQ (v:=.tuple #[.agg #[.slice none 0 0],.int .i64 11]) (by simp[results,Tryz.results169,go_sem,g1]) rfl ?_;exact hR.out _ _ ⟨_,[],by rw[aK Hk.out.2];rfl,Hk.out.1.below,bC _,zS,fun h=>absurd h Hk.out.2,fun _=>rfl⟩
theorem uI (v0:Value) (l:Table) (m:Mem) (w:World) (hm:m.inn w) (hl:aG m v0 l) (hlen:l.length≤1000000) :
 Calls Tryz.prog 105 #[.agg #[v0]] w fun e w'=>e=.returned (.bool (tf (Canon l)))∧Below w.heap.size w w':=by
 have hl0:=hl;obtain⟨a,c,rfl,h1,h2,h3⟩:=hl;refine aj fun R hR=>?_;have hO:=(Own.start hm).al #[.slice a l.length c] 27;have HM:=zh (pK (.slice a l.length c) l m _ hO.inn hl0 hlen);have HO:=zh hO;clear hO
 go_enter Tryz.func105,Tryz.ntmps105
 go_wp2_with fail
 refine HM.out.mono ?_;rintro e w1 ⟨r,C,rfl,hb1,hst,hClen,hmin,hnot⟩;have hO1:=HO.out.call hb1;have hle:=hO1.ext.le;obtain⟨ra,rc,rfl⟩:∃ra rc,r=.slice ra C.length rc:=by obtain⟨x,y,e,-⟩:=hst;exact⟨x,y,e⟩
 have hO2:=hO1.al #[.slice ra C.length rc] 27;have g1:=hO2.swap.obj.c 0;have g2:=hO2.swap.obj.lt;have HS:=zh (wM (.slice a l.length c) (.slice ra C.length rc) l C _ _ hO2.inn (aJ hle hl0) hst);have HO2:=zh hO2;clear hO1 hO2 HM HO;by_cases hwf:WF l
 ·rw[aN hwf];have hci:=sD hmin hwf;have Hk:=zh (zi hci (zi hmin hnot));clear hmin hnot hci
  go_wp2_with fail
  refine HS.out.mono ?_;rintro e w3 ⟨rfl,hb3⟩;have hb4:=(HO2.out.move hb3).below;go_wp2;exact hR.out _ _ ⟨aL (by rw[fK Hk.out.1]),hb4⟩
 ·rw[aK hwf];have Hk:=zh (zi hwf (zi hmin hnot));clear hmin hnot hwf;go_wp2;exact hR.out _ _ ⟨aL (by rw[aK (fun h=>Hk.out.1 h.wf)]),HO2.out.below⟩
theorem wh (v0:Value) (l:Table) (m:Mem) (w:World) (hm:m.inn w) (hl:aG m v0 l) (hlen:l.length≤1000000) :
 Calls Tryz.prog 220 #[.agg #[v0]] w fun e w'=>∃r,e=.returned (.agg #[r])∧Below w.heap.size w w'∧aG (m.grow w w') r (bT l):=by
 have hl0:=hl;obtain⟨a,c,rfl,h1,h2,h3⟩:=hl;refine aj fun R hR=>?_;have hO:=((Own.start hm).al #[.slice a l.length c] 27).al #[.slice none 0 0] 27;have hsz:(w.alloc (.cells #[.slice a l.length c] 27)).heap.size=w.heap.size+1:=by simp
 rw[hsz] at hO;have HV:=zh (uI (.slice a l.length c) l m _ hO.inn hl0 hlen);have HO:=zh hO;clear hO hsz
 go_enter Tryz.func220,Tryz.ntmps220
 go_wp2_with fail
 refine HV.out.mono ?_;rintro e w1 ⟨rfl,hb1⟩;have hO1:=HO.out.move hb1;have g1:=hO1.swap.obj.c 0;have g2:=hO1.obj.c 0;have g3:=hO1.obj.frozen 0;have g4:=hO1.obj.lt;clear HO HV hb1;by_cases hc:Canon l
 ·have hO2:=hO1.set 0 (.slice a l.length c);have g5:=hO2.obj.c 0;have Hk:=zh (zi hO2 hc);rw[aN hc];clear hO1 hO2 hc;go_wp2;refine yQ (v:=.agg #[.slice a l.length c]) (by simp[results,Tryz.results220,go_sem,g5]) rfl ?_;exact hR.out _ _ ⟨_,rfl,Hk.out.1.below,by rw[I9 Hk.out.2];exact aJ Hk.out.1.done hl0⟩
 ·have hO2:=hO1.set 0 (.slice none 0 0);have g5:=hO2.obj.c 0;have Hk:=zh (zi hO2 hc);rw[aK hc];clear hO1 hO2 hc;go_wp2;refine yQ (v:=.agg #[.slice none 0 0]) (by simp[results,Tryz.results220,go_sem,g5]) rfl ?_;exact hR.out _ _ ⟨_,rfl,Hk.out.1.below,by rw[bT,aK Hk.out.2];exact bC _⟩
def Fw (l:Table):Prop:=(∀s∈l,s.edges.length≤10)∧l.length≤8
theorem OJ (v0:Value) (l:Table) (m:Mem) (w:World) (hm:m.inn w) (hl:aG m v0 l) :
 Calls Tryz.prog 109 #[.agg #[v0]] w fun e w'=>e=.returned (.bool (tf (Fw l)))∧Below w.heap.size w w':=by
 obtain⟨a,c,rfl,h1,h2,h3⟩:=hl;unfold maxLen at h2;refine aj fun R hR=>?_
 go_enter Tryz.func109,Tryz.ntmps109
 go_wp2;refine au [1,6,7,8] (fun n vs wr=>∃k:Nat,k≤l.length∧n=l.length - k∧vs=[.pointer (some ⟨w.heap.size,0,none⟩),.slice a l.length c,.int .i64 l.length,.int .i64 k] ∧
  Own w m wr m [.obj w.heap.size 27 #[.slice a l.length c]]∧∀j,(h:j<k)→(h':j<l.length)→(l[j]).edges.length≤10) ?_ ?_
 ·exact⟨_,0,zC _,rfl,rfl,(Own.start hm).al _ _,fun j h=>zo⟩
 rintro X z n vs wr hX - ⟨k,hk,rfl,rfl,hO,hall⟩;simp[litL,lk];have HA:=zh hall;clear hall;by_cases hlt:k<l.length
 ·obtain⟨b,off,rfl,h4⟩:=h3 (by intro h;simp[h] at hlt);obtain⟨g1,ve,g2,ea,ec,rfl,g4,g5,g6⟩:=h4 k hlt;have c1:=Mem.ak hO.inn g1;have c2:=Mem.ak hO.inn g2;have c3:=Mem.ay hO.inn g1;unfold maxLen at g5;have HO:=zh (hO.al' (.cells #[.bool l[k].accept,.slice ea l[k].edges.length ec] 92));clear hO h3 h4;by_cases hbig:10<l[k].edges.length
  ·have hdec:decide ((10:Int)<(l[k].edges.length:Int))=true:=zL zo;have Hb:=zh hbig;clear hbig;go_wp2;refine hR.out _ _ ⟨aL ?_,HO.out.below⟩;rw[aK];intro hs;have:=hs.1 l[k] (zB hlt);have:=Hb.out;omega
  ·have hdec:decide ((10:Int)<(l[k].edges.length:Int))=false:=zK zo;go_wp2;refine hX.out _ _ _ zo rfl ⟨k+1,zo,rfl,rfl,HO.out,fun j hj hj'=>?_⟩;by_cases e:j=k
   ·subst e;omega
   ·exact HA.out j zo hj'
 ·obtain rfl:k=l.length:=zo;have g1:=hO.obj.c 0;have g2:=hO.obj.lt;have HO:=zh hO;clear hO;go_wp2;refine hR.out _ _ ⟨aL ?_,HO.out.below⟩;by_cases h8:l.length≤8
  ·rw[zL zo,aN];exact⟨fun s hs=>by obtain⟨i,hi,rfl⟩:=List.mem_iff_getElem.1 hs;exact HA.out i hi hi,h8⟩
  ·rw[zK zo,aK];exact fun h=>h8 h.2
theorem OY (op:Nat) (x y:Bool) (w:World) (f:Bool→Bool→Bool) (h:op=38∧f=(fun x y=>x&&y)∨op=124∧f=(fun x y=>x || y)∨op=45∧f=(fun x y=>x && !y)) :
 Calls Tryz.prog 287 #[.int .u8 op,.bool x,.bool y] w fun e w'=>e=.returned (.bool (f x y))∧Below w.heap.size w w':=by
 refine aj fun R hR=>?_;rcases h with ⟨rfl,rfl⟩ | ⟨rfl,rfl⟩ | ⟨rfl,rfl⟩
 all_goals
  cases x <;> cases y
  all_goals
   go_enter Tryz.func287,Tryz.ntmps287
   go_wp2;exact hR.out _ _ ⟨rfl,zP _ _⟩
theorem DF (l:Table):∀(u v:List UInt8) (s:Int),lg l s (u ++ v)=lg l (lg l s u) v
 | [],_,_=>rfl
 | _::u,v,_=>DF l u v _
theorem wD {l:Table} (h:WF l):∀(u:List UInt8) (s:Int),-1≤s→s<l.length → -1≤lg l s u∧lg l s u<l.length
 | [],s,h1,h2=>⟨h1,h2⟩
 | b::u,s,h1,h2=>by
  have:=dU h s b.toNat;exact wD h u _ zo zo
theorem zf (v0:Value) (l:Table) (s:ByteArray) (m:Mem) (w:World) (hm:m.inn w) (hl:aG m v0 l) (hs:s.size≤maxLen) :
 Calls Tryz.prog 36 #[.agg #[v0],.string s] w fun e w'=>e=.returned (.bool (tf (WF l)&&aC l 0 s.data.toList))∧Below w.heap.size w w':=by
 have hl0:=hl;obtain⟨a,c,rfl,h1,h2,h3⟩:=hl;unfold maxLen at h2 hs;have hO:=(Own.start hm).al #[.slice a l.length c] 27;have HW:=zh (pX (.slice a l.length c) l m _ hO.inn hl0);have HO:=zh hO;clear hO;refine aj fun R hR=>?_
 go_enter Tryz.func36,Tryz.ntmps36
 go_wp2_with fail
 refine HW.out.mono ?_;rintro e w1 ⟨rfl,hb1⟩;have hO1:=HO.out.move hb1;have g1:=hO1.obj.c 0;have g2:=hO1.obj.lt;clear HO hb1;by_cases hwf:WF l
 ·rw[aN hwf];by_cases h0:l.length=0
  ·have hdec:((l.length:Int)==0)=true:=by simp[h0]
   have Hk:=zh (zi h0 hO1);clear h0 hO1;go_wp2;refine hR.out _ _ ⟨aL ?_,Hk.out.2.below⟩;rw[aN hwf,fI l 0 _ (by have:=Hk.out.1;omega)];rfl
  ·have hdec:((l.length:Int)==0)=false:=beq_eq_false_iff_ne.2 zo;have HO1:=zh hO1;clear hO1;go_wp2;refine au [1,2,5,6] (fun n vs wr=>∃(k:Nat),k≤s.size∧n=s.size - k∧vs=[.string s,.pointer (some ⟨w.heap.size,0,none⟩),.int .i64 (lg l 0 (s.data.toList.take k)),.int .i64 k] ∧
    Own w m wr m [.obj w.heap.size 27 #[.slice a l.length c]]) ?_ ?_
   ·exact⟨_,0,zC _,rfl,rfl,HO1.out⟩
   clear HO1 g1 g2;rintro X z n vs wr hX - ⟨k,hk,rfl,rfl,hO⟩;simp[litL,lk];have g1:=hO.obj.c 0;have g2:=hO.obj.lt;have hrng:=wD hwf (s.data.toList.take k) 0 zo zo;by_cases hlt:k<s.size
   ·have hnext:lg l 0 (s.data.toList.take (k+1))=bD l (lg l 0 (s.data.toList.take k)) (s[k]).toNat:=by
     have:s.data.toList.take (k+1)=s.data.toList.take k ++ [s[k]]:=by
      rw[zF (by simpa using hlt)];rfl
     rw[this,DF];rfl
    have Hn:=zh hnext;clear hnext;generalize lg l 0 (s.data.toList.take k)=at0 at *
    have HS:=zh (fun w (hw:m.inn w)=>CP (.slice a l.length c) l at0 (s[k]).toNat m w hw hl0 zo zo);have HO:=zh hO;go_wp2;refine fo (fun w'=>bE w' w.heap.size 27 #[.slice a l.length c]) 7 zk ?_;have hO2:=HO.out.dr;have hS:=hO2.obj;refine az 0 rfl zk (fun _ _ _ h=>h) hS (av rfl fun w' hS'=>by have q:=hS'.cell (i:=0) rfl;go_simp;rfl) ?_;refine az 1 rfl zk (fun _ _ _ h=>h) hS (av rfl fun w' hS'=>by have q:=hS'.cell (i:=0) rfl;go_simp;rfl) ?_;refine az 2 rfl zk (fun _ _ _ h=>h) hS (av rfl fun w' hS'=>by have q:=hS'.cell (i:=0) rfl;go_simp;rfl) ?_;refine az 3 rfl zk (fun _ _ _ h=>h) hS (av rfl fun w' hS'=>by have q:=hS'.cell (i:=0) rfl;go_simp;rfl) ?_;refine az 4 rfl zk (fun _ _ _ h=>h) hS (av rfl fun w' hS'=>by have q:=hS'.cell (i:=0) rfl;go_simp;rfl) ?_;refine az 5 rfl zk (fun _ _ _ h=>h) hS (av rfl fun w' hS'=>by have q:=hS'.cell (i:=0) rfl;go_simp;rfl) ?_;refine aH 6 zk (aF rfl rfl (cO (by go_simp) (HS.out _ hO2.inn) ?_));rintro e w3 ⟨rfl,hb3⟩;have hO3:=hO2.move hb3;refine ⟨_,rfl,andS hO3.obj fun hS1=>?_⟩;go_simp;refine aH 7 zk (aF rfl rfl (aP (by go_simp;first | exact⟨rfl,rfl⟩ | rfl) (iP rfl ?_)));refine dE zk ?_ _;have HO3:=zh hO3;clear hO3 hO2 hS hS1 hb3;go_wp2;refine hX.out _ _ _ zo rfl ⟨k+1,zo,rfl,?_,HO3.out⟩;rw[Hn.out];rfl
   ·obtain rfl:k=s.size:=zo;have hfull:s.data.toList.take s.size=s.data.toList:=List.take_of_length_le zS;rw[hfull] at hrng ⊢;have hacc:bz l (lg l 0 s.data.toList)=aC l 0 s.data.toList:=by
     have:=jO l s.data.toList [] 0;rw[yM] at this;rw[this];rfl
    have Hacc:=zh hacc;clear hacc hfull;generalize lg l 0 s.data.toList=at0 at *
    have HO:=zh hO;by_cases hneg:at0<0
    ·have Hneg:=zh (bP (l:=l) hneg []);have hdec:decide (0≤at0)=false:=zK zo;clear hO;go_wp2;refine hR.out _ _ ⟨aL ?_,HO.out.below⟩;rw[aN hwf,← Hacc.out];have:=Hneg.out;simp only[aC] at this;rw[this];rfl
    ·obtain⟨sn,rfl⟩:=zQ (by omega:0≤at0);have hsn:sn<l.length:=zo;obtain⟨b,off,rfl,h4⟩:=h3 (by intro h;simp[h] at hsn);have c1:=(h4 sn hsn).1;have c2:=Mem.ak hO.inn c1;have c3:=Mem.ay hO.inn c1;have Ha:=zh (eZ l sn hsn);clear c1 hO;go_wp2;refine hR.out _ _ ⟨aL ?_,HO.out.below⟩;rw[aN hwf,← Hacc.out,Ha.out];rfl
 ·rw[aK hwf];have Hk:=zh hO1;clear hO1;go_wp2;exact hR.out _ _ ⟨aL (by rw[aK hwf];rfl),Hk.out.below⟩
theorem EK (A:Table) (x:List UInt8):Sem (bT A) x=Sem A x:=by
 rw[fF (gU A)];exact (Cq A).2 x
theorem lW:optV none=.tuple #[.string ⟨#[]⟩,.bool false]:=rfl
theorem lV (x:List UInt8):optV (some x)=.tuple #[.string (bstr x),.bool true]:=rfl
theorem xy (v0 v1:Value) (A B:Table) (m:Mem) (w:World) (hm:m.inn w) (htab:TabM m) (hA:aG m v0 A) (hB:aG m v1 B) (hlen:(A.length+2)*(B.length+2)≤300000) :
 Calls Tryz.prog 99 #[.agg #[v0],.agg #[v1]] w fun e w'=>∃c,e=.returned (.int .i64 c)∧Below w.heap.size w w'∧gX (Sem A) (Sem B) c:=by
 have hF:=Fits.of (A:=A) (B:=B) (zG _) (zG _) zo;have hO:=((Own.start hm).al #[v0] 27).al #[v1] 27;have hsz1:(w.alloc (.cells #[v0] 27)).heap.size=w.heap.size+1:=by simp
 rw[hsz1] at hO;have HO:=zh hO;have HA:=zh (fun w (hw:m.inn w)=>mW v0 A m w hw htab hA hF.a);have HB:=zh (fun mk w (hw:mk.inn w) (hle:m.le mk)=>mW v1 B mk w hw (htab.le hle) (aJ hle hB) hF.b);clear hO hsz1;refine aj fun R hR=>?_;obtain⟨va,vc,rfl,-⟩:=hA;obtain⟨vb,vd,rfl,-⟩:=hB
 go_enter Tryz.func99,Tryz.ntmps99
 go_wp2;refine aI [2,3] (fun vs w'=>∃(r1 r2:Value) (mk:Mem),vs=[.pointer (some ⟨w.heap.size,0,none⟩),.pointer (some ⟨w.heap.size+1,0,none⟩)] ∧
  Own w m w' mk [.obj (w.heap.size+1) 27 #[r2],.obj w.heap.size 27 #[r1]]∧m.le mk∧aG mk r1 (bT A)∧aG mk r2 (bT B)) ?_ ?_
 ·intro X hX;refine kF (fun j w'=>(j≠4→j≠5→bE w' w.heap.size 27 #[.slice va A.length vc])∧(j≠5→bE w' (w.heap.size+1) 27 #[.slice vb B.length vd])) zk ?_;have hO:=HO.out.dr;refine kG 0 (fun w'=>bE w' w.heap.size 27 #[.slice va A.length vc]) rfl zk (fun _ _ _ h=>h) (fun j w' hj hd=>hd.1 (by rintro rfl;exact oF zk hj) (by rintro rfl;exact oF zk hj)) hO.swap.obj (av rfl fun w' hS'=>by have q:=hS'.cell (i:=0) rfl;go_simp;rfl) ?_;refine kG 2 (fun w'=>bE w' (w.heap.size+1) 27 #[.slice vb B.length vd]) rfl zk (fun _ _ _ h=>h) (fun j w' hj hd=>hd.2 (by rintro rfl;exact oF zk hj)) hO.obj (av rfl fun w' hS'=>by have q:=hS'.cell (i:=0) rfl;go_simp;rfl) ?_;refine bg 1 zk (aF rfl rfl (cO (by go_simp) (HA.out _ hO.inn) ?_));rintro e w1 ⟨r1,rfl,hb1,hr1⟩;have hO2:=hO.call hb1;have hle:=Mem.dF (w:=w1) hO.inn;refine ⟨_,rfl,.inr ⟨fun _ _=>hO2.swap.obj,fun _=>hO2.obj⟩,?_⟩;go_simp;refine bg 3 zk (aF rfl rfl (cO (by go_simp) (HB.out _ _ hO2.inn hle) ?_));rintro e w2 ⟨r2,rfl,hb2,hr2⟩;have hO3:=hO2.call hb2;have hle2:=Mem.dF (w:=w2) hO2.inn;refine ⟨_,rfl,.inr ⟨fun _ _=>hO3.swap.obj,fun _=>hO3.obj⟩,?_⟩;obtain⟨xa,xc,rfl⟩:∃xa xc,r1=.slice xa (bT A).length xc:=by obtain⟨x,y,e,-⟩:=hr1;exact⟨x,y,e⟩
  obtain⟨ya,yc,rfl⟩:∃xa xc,r2=.slice xa (bT B).length xc:=by obtain⟨x,y,e,-⟩:=hr2;exact⟨x,y,e⟩
  go_simp;have f1:=hO3.swap.obj.frozen 0;have c1:=hO3.swap.obj.c 0;have hO4:=hO3.swap.set 0 (.slice xa (bT A).length xc);have f3:=hO4.swap.obj.frozen 0;have c3:=hO4.swap.obj.c 0;have hO6:=hO4.swap.set 0 (.slice ya (bT B).length yc);refine bg 4 zk (aF rfl rfl (aZ zg ⟨.inr ⟨fun h=>absurd rfl h,fun _=>hO4.swap.obj⟩,?_⟩));refine bg 5 zk (aF rfl rfl (aZ zg ⟨.inr ⟨fun _ h=>absurd rfl h,fun h=>absurd rfl h⟩,?_⟩));refine gz zk ?_ _;exact hX.out _ _ rfl ⟨_,_,_,rfl,hO6,Mem.le_trans hle hle2,aJ hle2 hr1,hr2⟩
 rintro z vs w1 - ⟨r1,r2,mk,rfl,hO,hmk,hr1,hr2⟩;simp[litL,lk];clear HO HA HB;have hgAl:=iE A;have hgBl:=iE B;have hmul:((bT A).length+2)*((bT B).length+2)≤(A.length+2)*(B.length+2):=Nat.mul_le_mul zo zo;have hmul2:((bT B).length+2)*((bT A).length+2)≤300000:=by rw[Nat.mul_comm];omega
 have hsA:=EK A;have hsB:=EK B;have HF:=zh (zi (Fits.of (A:=bT A) (B:=bT B) (zG _) (zG _) zo) (zi (Fits.of (A:=bT B) (B:=bT A) (zG _) (zG _) zo) (zi hsA (zi hsB (zi (show ((bT A).length+2)*((bT B).length+2)≤300000 by omega) hmul2)))));clear hgAl hgBl hmul hmul2 hsA hsB hF hlen;generalize bT A=A' at *
 generalize bT B=B' at *
 have g1:=hO.obj.c 0;have g2:=hO.swap.obj.c 0;have HM:=zh (kr r1 r2 A' B' mk _ hO.inn (htab.le hmk) hr1 hr2 HF.out.1);have HO:=zh (zi hO (zi hr1 (zi hr2 hmk)));clear hO hr1 hr2 hmk
 go_wp2_with fail
 refine HM.out.mono ?_;rintro e w2 ⟨d1,D1,rfl,hb2,hd1,hl1,hlen1⟩;clear HM g1 g2;have hO2:=HO.out.1.call hb2;have hle2:=Mem.dF (w:=w2) HO.out.1.inn;have HL:=zh (mQ d1 D1 _ _ hO2.inn (htab.le (Mem.le_trans HO.out.2.2.2 hle2)) hd1 (by have:=HF.out.2.2.2.2.1;omega));have HO2:=zh (zi hO2 (zi (aJ hle2 HO.out.2.1) (zi (aJ hle2 HO.out.2.2.1) (Mem.le_trans HO.out.2.2.2 hle2))));have Hl1:=zh hl1;clear hO2 hle2 hb2 HO hd1 hl1 hlen1
 go_wp2_with fail
 refine HL.out.mono ?_;rintro e w3 ⟨o1,rfl,hb3,hle1⟩;have hO3:=HO2.out.1.call hb3;have hq:=Mem.dF (w:=w3) HO2.out.1.inn;have hO3:=zh (zi hO3 (zi (aJ hq HO2.out.2.1) (zi (aJ hq HO2.out.2.2.1) (Mem.le_trans HO2.out.2.2.2 hq))));have Hl1':=zh (show fT (fun x=>Sem A x && !Sem B x) o1 by
  have e:Sem D1=fun x=>Sem A x && !Sem B x:=by
   funext x;rw[Hl1.out.sem x,HF.out.2.2.1 x,HF.out.2.2.2.1 x]
  rw[← e];exact hle1)
 clear hle1 Hl1 HL HO2 hb3 hq D1;generalize hmm:(mk.grow w1 w2).grow w2 w3=mk3 at *
 clear hmm;have g1:=hO3.out.1.obj.c 0;have g2:=hO3.out.1.swap.obj.c 0;have HM:=zh (kr r2 r1 B' A' mk3 _ hO3.out.1.inn (htab.le hO3.out.2.2.2) hO3.out.2.2.1 hO3.out.2.1 HF.out.2.1);obtain⟨s1,b1,e1⟩:∃s1 b1,optV o1=.tuple #[.string s1,.bool b1]:=⟨_,_,rfl⟩;have E1:=zh e1;rw[e1];clear e1
 go_wp2_with fail
 refine HM.out.mono ?_;rintro e w4 ⟨d2,D2,rfl,hb4,hd2,hl2,hlen2⟩;clear HM g1 g2;have hO4:=hO3.out.1.call hb4;have hle4:=Mem.dF (w:=w4) hO3.out.1.inn;have HL:=zh (mQ d2 D2 _ _ hO4.inn (htab.le (Mem.le_trans hO3.out.2.2.2 hle4)) hd2 (by have:=HF.out.2.2.2.2.2;omega));have HO4:=zh hO4;have Hl2:=zh hl2;clear hO4 hle4 hb4 hO3 hd2 hl2 hlen2
 go_wp2_with fail
 refine HL.out.mono ?_;rintro e w5 ⟨o2,rfl,hb5,hle2⟩;have hO5:=HO4.out.call hb5;have Hl2':=zh (show fT (fun x=>Sem B x && !Sem A x) o2 by
  have e:Sem D2=fun x=>Sem B x && !Sem A x:=by
   funext x;rw[Hl2.out.sem x,HF.out.2.2.2.1 x,HF.out.2.2.1 x]
  rw[← e];exact hle2)
 have HC:=zh (Rn Hl1'.out Hl2'.out);have HO5:=zh hO5;clear hle2 Hl2 HL HO4 hb5 hO5 D2 HF Hl1' Hl2' htab;have E1:=E1.out
 cases o1 with
 | none=>
  rw[lW] at E1;cases E1
  cases o2 with
  | none=>
   rw[lW];go_wp2
   exact hR.out _ _ ⟨_,rfl,HO5.out.below,HC.out⟩
  | some y=>
   rw[lV];go_wp2
   exact hR.out _ _ ⟨_,rfl,HO5.out.below,HC.out⟩
 | some x=>
  rw[lV] at E1;cases E1
  cases o2 with
  | none=>
   rw[lW];go_wp2
   exact hR.out _ _ ⟨_,rfl,HO5.out.below,HC.out⟩
  | some y=>
   rw[lV]
   go_wp2_with first | ((go_at_call 163);refine (Tryz.cmp_Compare_int _ _ _).mono ?_;rintro e w' ⟨rfl,rfl⟩) | ((go_at_call 164);refine (KZ _ _ _).mono ?_;rintro e w' ⟨rfl,rfl⟩)
   have hO6:=HO5.out.al #[.int .i64 (Lib.compareInt (bstr x).size (bstr y).size),.int .i64 (cmpS (bstr x).data.toList (bstr y).data.toList)] 3;refine (RV _ _ _ _ _ hO6.obj).mono ?_;rintro e w7 ⟨rfl,rfl⟩;have H6:=zh hO6.below;have HC2:Hid (gX (Sem A) (Sem B) (if Lib.compareInt (bstr x).size (bstr y).size=0 then cmpS (bstr x).data.toList (bstr y).data.toList else Lib.compareInt (bstr x).size (bstr y).size)):=HC;clear hO6 HC;generalize (if Lib.compareInt (bstr x).size (bstr y).size=0 then cmpS (bstr x).data.toList (bstr y).data.toList else Lib.compareInt (bstr x).size (bstr y).size)=c at *
   generalize w'.alloc (.cells #[.int .i64 (Lib.compareInt (bstr x).size (bstr y).size),.int .i64 (cmpS (bstr x).data.toList (bstr y).data.toList)] 3)=w8 at *
   go_wp2;exact hR.out _ _ ⟨_,rfl,H6.out,HC2.out⟩
def kY (n c:Nat):List Ed:=if 0<c then [⟨0,c - 1,(n:Int)+1⟩] else []
theorem Ia {s:List UInt8} {self:Bool} {i:Nat} (h:i<s.length):(gT s self).take (i+1)=(gT s self).take i ++ [⟨true,kY s.length (s[i]).toNat ++ [⟨(s[i]).toNat,(s[i]).toNat,(i:Int)+1⟩]⟩]:=by
 have h1:=sI (self:=self) h;have hl:i<(gT s self).length:=by rw[pu];omega
 rw[zF hl]
 congr 1
 rw[yC hl] at h1;rw[Option.some.inj h1]
 rfl
theorem Ib (s:List UInt8) (self:Bool):gT s self=(gT s self).take s.length ++ [⟨self,[]⟩] ++ [⟨true,[⟨0,255,(s.length:Int)+1⟩]⟩]:=by
 unfold gT;rw[List.take_left' zS];simp
theorem Own.SS {w0 w w':World} {m mk:Mem} {L:List Cl.Item} {g:Nat} {t:TypeId} {arr:Array Value} (h:Own w0 m w mk L) (hb:Below w.heap.size w w') (hg:w.heap.size≤g) (ho:bE w' g t arr):Own w0 m w' mk (.obj g t arr::L):=
 (h.move hb).cons ho (fun k hk=>by simp only[Item.blk,Option.some.injEq] at hk;subst hk;exact⟨yE h.below.size hg,Mem.fU h.inn hg⟩)
  (fun b hb' k h1 h2=>by simp only[Item.blk,Option.some.injEq] at h1;subst h1;have:=Item.lt (h.ok b hb') h2;omega)
theorem Co (s:ByteArray) (self:Bool) (m:Mem) (w:World) (hm:m.inn w) (htab:TabM m) (hs:s.size≤1000) :
 Calls Tryz.prog 254 #[.string s,.bool self] w fun e w'=>∃r C,e=.returned (.agg #[r])∧Below w.heap.size w w'∧aG (m.grow w w') r C ∧
  eQ (fun v=>mr self v s.data.toList) C∧C.length≤s.size+3:=by
 have hO:=((Own.start hm).al #[.slice none 0 0] 27).dI 92 2;have HO:=zh hO;clear hO;refine aj fun R hR=>?_
 go_enter Tryz.func254,Tryz.ntmps254
 go_wp2;refine au [0,1,4,5,6,15,16] (fun n vs wr=>∃(k:Nat) (vo:Value) (xs:List Value) (mk:Mem),k≤s.size∧n=s.size - k∧vs=[.string s,.bool self,.pointer (some ⟨w.heap.size,0,none⟩),vo,.int .i64 ((s.size:Int)+1),.int .i64 s.size,.int .i64 k] ∧
  Own w m wr mk [.row vo 92 2 k xs,.obj w.heap.size 27 #[.slice none 0 0]]∧jA mk xs ((gT s.data.toList self).take k)) ?_ ?_
 ·exact⟨_,0,.slice none 0 0,[],m,zC _,rfl,rfl,HO.out,jA.nil m⟩
 clear HO;rintro X z n vs wr hX - ⟨k,vo,xs,mk,hk,rfl,rfl,hO,hrow⟩;simp[litL,lk];obtain⟨voa,voc,rfl⟩:=aM hO.row;by_cases hlt:k<s.size
 ·have hc:=(s[k]).toNat_lt;have htk:(gT s.data.toList self).take (k+1)=(gT s.data.toList self).take k ++ [⟨true,kY s.size (s[k]'hlt).toNat ++ [⟨(s[k]'hlt).toNat,(s[k]'hlt).toNat,(k:Int)+1⟩]⟩]:=by
   have hsl:s.data.toList.length=s.size:=by simp
   have h1:=Ia (s:=s.data.toList) (self:=self) (i:=k) (by rw[hsl];exact hlt);have h2:kY s.data.toList.length=kY s.size:=by rw[hsl]
   rw[h2] at h1;exact h1
  have Htk:=zh htk;have HR:=zh hrow;clear htk hrow;have hO2:=(hO.al #[.bool true,.slice none 0 0] 92).dI 133 3;have HO2:=zh hO2;clear hO hO2;have hw1:IntKind.i64.wrap ((k:Int)+1)=(k:Int)+1:=IntWalk.i64_in _ zo;have hw2:0<(s[k]).toNat→IntKind.u8.wrap (((s[k]).toNat:Int) - 1)=(((s[k]).toNat - 1:Nat):Int):=fun h=>by rw[IntWalk.u8_in _ zo];omega
  have Hw2:=zh hw2;clear hw2
  go_upto_if 23 with (fail)
  generalize wr.heap.size=S at *
  generalize wr.alloc (.cells #[.bool true,.slice none 0 0] 92)=w2 at *
  refine aI [0,1,4,5,6,15,16,7,8] (fun vs w'=>∃ve:Value,vs=[.string s,.bool self,.pointer (some ⟨w.heap.size,0,none⟩),.slice voa k voc,.int .i64 ((s.size:Int)+1),.int .i64 s.size,.int .i64 k,.int .i64 k,.pointer (some ⟨S,0,none⟩)] ∧
   Own w m w' mk [.row ve 133 3 (kY s.size (s[k]).toNat).length (bQ (kY s.size (s[k]).toNat)),.obj S 92 #[.bool true,ve],.row (.slice voa k voc) 92 2 k xs,.obj w.heap.size 27 #[.slice none 0 0]]) ?_ ?_
  ·intro V hV;by_cases hpos:0<(s[k]).toNat
   ·have hbe:kY s.size (s[k]).toNat=[⟨0,(s[k]).toNat - 1,(s.size:Int)+1⟩]:=by unfold kY;rw[zI hpos]
    have Hbe:=zh hbe;have hdec:decide (0<(s[k]).toNat)=true:=zL hpos;have hdec2:decide ((0:Int)<((s[k]).toNat:Int))=true:=zL zo;have hw3:=Hw2.out hpos;have hO:=HO2.out.dr;clear hbe;go_wp2;refine fo (fun w'=>bE w' S 92 #[.bool true,.slice none 0 0]) 11 zk ?_;have hS:=hO.swap.obj;refine az 0 rfl zk (fun _ _ _ h=>h) hS (av rfl fun w' hS'=>by have q:=hS'.cell (i:=1) rfl;go_simp;rfl) ?_;refine az 1 rfl zk (fun _ _ _ h=>h) hS (av rfl fun w' hS'=>by have q:=hS'.cell (i:=1) rfl;go_simp;rfl) ?_;refine az 2 rfl zk (fun _ _ _ h=>h) hS (av rfl fun w' hS'=>by have q:=hS'.cell (i:=1) rfl;go_simp;rfl) ?_;refine az 3 rfl zk (fun _ _ _ h=>h) hS (av rfl fun w' hS'=>by have q:=hS'.cell (i:=1) rfl;go_simp;rfl) ?_;refine az 4 rfl zk (fun _ _ _ h=>h) hS (av rfl fun w' hS'=>by have q:=hS'.cell (i:=1) rfl;go_simp;rfl) ?_;refine az 5 rfl zk (fun _ _ _ h=>h) hS (av rfl fun w' hS'=>by have q:=hS'.cell (i:=1) rfl;go_simp;rfl) ?_;refine az 6 rfl zk (fun _ _ _ h=>h) hS (av rfl fun w' hS'=>by have q:=hS'.cell (i:=1) rfl;go_simp;rfl) ?_;refine aH 7 zk (aF rfl rfl (aP (by go_simp;first | done | exact⟨rfl,rfl⟩ | rfl) (andS hS fun _=>?_)));go_simp;have hO6:=hO.al #[.int .u8 0,.int .u8 ((s[k]).toNat - 1:Nat),.int .i64 ((s.size:Int)+1)] 133;refine aH 8 zk (aF rfl rfl (aP (by go_simp;first | done | exact⟨rfl,rfl⟩ | rfl) (andS hO6.third.obj fun _=>?_)));go_simp;refine aH 9 zk (aF rfl rfl (dR mF (.tmp 25) (.tmp 32) rfl (.slice none 0 0) 0 [] rfl hO6.swap.row ⟨w2.heap.size,0,none⟩ 1 1 [.int .u8 0,.int .u8 ((s[k]).toNat - 1:Nat),.int .i64 ((s.size:Int)+1)] rfl rfl (hO6.obj.news rfl) (by simp[Value.oneCell']) (by unfold maxLen;omega) zo (fun na' nc' w7 hown7 hgrow7 hrow7=>?_)));have hO7:=(hO6.swap.app hown7 hgrow7 hrow7 (zG _)).drop2;refine andS hO7.swap.obj fun hS3=>?_;go_simp;refine aH 10 zk (aF rfl rfl (aP (by go_simp;first | done | exact⟨rfl,rfl⟩ | rfl) (andS hS3 fun _=>?_)));go_simp;have f3:=hS3.frozen 1;have c3:=hS3.cell (i:=1) rfl;refine aH 11 zk (aF rfl rfl (aZ zg (iP rfl ?_)));refine dE zk ?_ _;have hO8:=(hO7.swap.set 1 (.slice na' (0+1) nc')).swap;refine hV.out _ _ rfl ⟨.slice na' (0+1) nc',rfl,?_⟩;rw[Hbe.out];exact hO8
   ·have hbe:kY s.size (s[k]).toNat=[]:=by unfold kY;rw[zH hpos]
    have Hbe:=zh hbe;have hdec:decide (0<(s[k]).toNat)=false:=zK hpos;have hdec2:decide ((0:Int)<((s[k]).toNat:Int))=false:=zK zo;clear hbe;go_wp2;refine hV.out _ _ rfl ⟨.slice none 0 0,rfl,?_⟩;rw[Hbe.out];exact HO2.out
  rintro z3 vs w3 - ⟨ve,rfl,hO⟩;simp[litL,lk];clear HO2;obtain⟨vea,vec,rfl⟩:=aM hO.row;have hel:(kY s.size (s[k]).toNat).length≤1:=by unfold kY;split <;> simp
  have hok:∀e∈kY s.size (s[k]).toNat ++ [⟨(s[k]).toNat,(s[k]).toNat,(k:Int)+1⟩],edOk e:=fun e he=>by
   rcases List.mem_append.1 he with h1 | h1
   ·unfold kY at h1
    split at h1
    ·rw[List.mem_singleton.1 h1];exact⟨by show 0<256;omega,by show (s[k]).toNat - 1<256;omega,by show _≤(s.size:Int)+1;omega,by show (s.size:Int)+1≤_;omega⟩
    ·simp at h1
   ·rw[List.mem_singleton.1 h1];exact⟨hc,hc,by show _≤(k:Int)+1;omega,by show (k:Int)+1≤_;omega⟩
  have Hok:=zh hok;clear hok;generalize kY s.size (s[k]).toNat=es at *
  have hO:=hO.dr;go_wp2;refine aI [0,1,4,5,6,15,16,8] (fun vs w'=>∃ve:Value,vs=[.string s,.bool self,.pointer (some ⟨w.heap.size,0,none⟩),.slice voa k voc,.int .i64 ((s.size:Int)+1),.int .i64 s.size,.int .i64 k,.pointer (some ⟨S,0,none⟩)] ∧
   Own w m w' mk [.row ve 133 3 (es.length+1) (bQ (es ++ [⟨(s[k]).toNat,(s[k]).toNat,(k:Int)+1⟩])),.obj S 92 #[.bool true,ve],.row (.slice voa k voc) 92 2 k xs,.obj w.heap.size 27 #[.slice none 0 0]]) ?_ ?_
  ·intro V hV;refine fo (fun w'=>bE w' S 92 #[.bool true,.slice vea es.length vec]) 14 zk ?_;have hS:=hO.swap.obj;refine az 0 rfl zk (fun _ _ _ h=>h) hS (av rfl fun w' hS'=>by have q:=hS'.cell (i:=1) rfl;go_simp;rfl) ?_;refine az 1 rfl zk (fun _ _ _ h=>h) hS (av rfl fun w' hS'=>by have q:=hS'.cell (i:=1) rfl;go_simp;rfl) ?_;refine az 2 rfl zk (fun _ _ _ h=>h) hS (av rfl fun w' hS'=>by have q:=hS'.cell (i:=1) rfl;go_simp;rfl) ?_;refine az 3 rfl zk (fun _ _ _ h=>h) hS (av rfl fun w' hS'=>by have q:=hS'.cell (i:=1) rfl;go_simp;rfl) ?_;refine az 4 rfl zk (fun _ _ _ h=>h) hS (av rfl fun w' hS'=>by have q:=hS'.cell (i:=1) rfl;go_simp;rfl) ?_;refine az 5 rfl zk (fun _ _ _ h=>h) hS (av rfl fun w' hS'=>by have q:=hS'.cell (i:=1) rfl;go_simp;rfl) ?_;refine az 6 rfl zk (fun _ _ _ h=>h) hS (av rfl fun w' hS'=>by have q:=hS'.cell (i:=1) rfl;go_simp;rfl) ?_;refine az 7 rfl zk (fun _ _ _ h=>h) hS (av rfl fun w' hS'=>by have q:=hS'.cell (i:=1) rfl;go_simp;rfl) ?_;refine az 8 rfl zk (fun _ _ _ h=>h) hS (av rfl fun w' hS'=>by have q:=hS'.cell (i:=1) rfl;go_simp;rfl) ?_;refine az 9 rfl zk (fun _ _ _ h=>h) hS (av rfl fun w' hS'=>by have q:=hS'.cell (i:=1) rfl;go_simp;rfl) ?_;refine aH 10 zk (aF rfl rfl (aP (by go_simp;first | done | exact⟨rfl,rfl⟩ | rfl) (andS hS fun _=>?_)));go_simp;have hO6:=hO.al #[.int .u8 (s[k]).toNat,.int .u8 (s[k]).toNat,.int .i64 ((k:Int)+1)] 133;refine aH 11 zk (aF rfl rfl (aP (by go_simp;first | done | exact⟨rfl,rfl⟩ | rfl) (andS hO6.third.obj fun _=>?_)));go_simp;refine aH 12 zk (aF rfl rfl (dR mF (.tmp 36) (.tmp 46) rfl (.slice vea es.length vec) es.length (bQ es) rfl hO6.swap.row ⟨w3.heap.size,0,none⟩ 1 1 [.int .u8 (s[k]).toNat,.int .u8 (s[k]).toNat,.int .i64 ((k:Int)+1)] rfl rfl (hO6.obj.news rfl) (by simp[Value.oneCell']) (by unfold maxLen;omega) zo (fun na' nc' w7 hown7 hgrow7 hrow7=>?_)));have hO7:=(hO6.swap.app hown7 hgrow7 hrow7 (zG _)).drop2;refine andS hO7.swap.obj fun hS3=>?_;go_simp;refine aH 13 zk (aF rfl rfl (aP (by go_simp;first | done | exact⟨rfl,rfl⟩ | rfl) (andS hS3 fun _=>?_)));go_simp;have f3:=hS3.frozen 1;have c3:=hS3.cell (i:=1) rfl;refine aH 14 zk (aF rfl rfl (aZ zg (iP rfl ?_)));refine dE zk ?_ _;have hO8:=(hO7.swap.set 1 (.slice na' (es.length+1) nc')).swap;refine hV.out _ _ rfl ⟨.slice na' (es.length+1) nc',rfl,?_⟩;rw[eT];exact hO8
  rintro z4 vs w4 - ⟨ve,rfl,hO⟩;simp[litL,lk];obtain⟨vea2,vec2,rfl⟩:=aM hO.row;have hes:=fC (l:=es ++ [⟨(s[k]).toNat,(s[k]).toNat,(k:Int)+1⟩]) (m:=mk) (by rw[zJ];exact hO.row) Hok.out;have hmk2:=Mem.dG (w:=w4) hO.free;have hrow2:=(HR.out.mono hmk2).push (s:=⟨true,es ++ [⟨(s[k]).toNat,(s[k]).toNat,(k:Int)+1⟩]⟩) hes;have hO2:=hO.bv;have s0:=hO2.obj.c 0;have s1:=hO2.obj.c 1;have sl:=hO2.obj.lt;have hO3:=hO2.al #[.bool true,.slice vea2 (es.length+1) vec2] 92;have Hk:=zh hrow2;clear hrow2 hes hmk2;generalize mk.addv w4 (.slice vea2 (es.length+1) vec2)=mk2 at *
  have hnews:=hO3.obj.news rfl;clear hO hO2
  go_wp2_with (at_builtin;refine aA iJ rfl (.tmp 49) (.tmp 51) rfl (.slice voa k voc) k xs rfl hO3.third.row ⟨w4.heap.size,0,none⟩ 1 1 [.bool true,.slice vea2 (es.length+1) vec2] rfl rfl hnews (by simp[Value.oneCell']) (by unfold maxLen;omega) zo ?_)
  intro va vc w7 hown7 hgrow7 hrow7;have hO4:=(hO3.third.app hown7 hgrow7 hrow7 zS).drop2.drop2;have HO4:=zh hO4;clear hown7 hgrow7 hrow7 hO3 hnews hO4;go_wp2;refine hX.out _ _ _ zo rfl ⟨k+1,.slice va (k+1) vc,_,mk2,zo,rfl,rfl,HO4.out,?_⟩;rw[Htk.out];exact Hk.out
 ·obtain rfl:k=s.size:=zo;have hsl:s.data.toList.length=s.size:=by simp
  have he2:=Ib s.data.toList self;rw[hsl] at he2;have hwfb:=Ou s.data.toList self;have hbl:=Bv s.data.toList self;have hbn:=pu s.data.toList self;rw[hsl] at hbn;have HB:=zh (zi he2 (zi hwfb (zi hbl hbn)));have HR:=zh hrow;have HO:=zh hO;clear he2 hwfb hbl hbn hsl hrow hO
  go_wp2_with fail
  refine (yo wr).mono ?_;rintro e w1 ⟨g1,g2,rfl,hb1,q1,q2,q3,o1,o2⟩;have hO1:=HO.out.SS hb1 q1 o1;have hfd:∀w:World,(Instr.field 27 (.agg #[.slice (some ⟨g2,0,none⟩) 1 1]) 0).run Tryz.prog w=.ok (.slice (some ⟨g2,0,none⟩) 1 1) w:=fun _=>by kernel_rfl
  have c0:=o2.cell (i:=0) rfl;have c1:=o2.cell (i:=1) rfl;have cl:=o2.lt;have hO2:=hO1.al #[.bool self,.slice none 0 0,.bool true,.slice (some ⟨g1,0,none⟩) 1 1] 92;have hnews:=hO2.obj.news rfl;have hxl:=(hO1.swap.row).1;have hw1:IntKind.i64.wrap ((s.size:Int)+1)=(s.size:Int)+1:=IntWalk.i64_in _ zo;clear hO1 HO hb1 q1 q2 q3 o1 o2
  go_wp2_with (at_builtin;refine aA iJ rfl (.tmp 54) (.tmp 61) rfl (.slice voa s.size voc) s.size xs rfl hO2.third.row ⟨w1.heap.size,0,none⟩ 2 2 [.bool self,.slice none 0 0,.bool true,.slice (some ⟨g1,0,none⟩) 1 1] rfl rfl hnews (by simp[Value.oneCell']) (by unfold maxLen;omega) zo ?_)
  intro va vc w7 hown7 hgrow7 hrow7;have hO3:=(hO2.third.app hown7 hgrow7 hrow7 zS).drop2;obtain⟨vb,rfl⟩:=iL hO3.row zo;have r1:=aT (j:=(s.size+1)*2+1) (u:=.slice (some ⟨g1,0,none⟩) 1 1) hO3.row (by
   rw[yI zo,show (s.size+1)*2+1 - xs.length=3 by omega];rfl)
  have r2:=(World.ownsRow.lt hO3.row _ rfl).2;have e1:=hO3.swap.obj.c 2;have e2:=hO3.swap.obj.frozen 2;have e3:=hO3.swap.obj.lt;have hO4:=(hO3.swap.set 2 (.int .i64 ((s.size:Int)+1)));have hed:=Gc (mk:=mk) (lo:=0) (hi:=255) (to:=(s.size:Int)+1) hO4.obj ⟨by show 0<256;omega,by show 255<256;omega,by show _≤(s.size:Int)+1;omega,by show (s.size:Int)+1≤_;omega⟩;have hmk2:=Mem.jE (w:=w7.setCell ⟨g1,2,none⟩ (.int .i64 ((s.size:Int)+1))) hO4.iO;have hO5:=hO4.iY;have hrow5:=((HR.out.mono hmk2).push (s:=⟨self,[]⟩) (Gn _)).push (s:=⟨true,[⟨0,255,(s.size:Int)+1⟩]⟩) hed;rw[← HB.out.1] at hrow5;have hst:=dK (l:=gT s.data.toList self) (m:=mk.add (w7.setCell ⟨g1,2,none⟩ (.int .i64 ((s.size:Int)+1))) g1) (by rw[HB.out.2.2.2];simpa using hO5.row) (by simpa using hrow5) hO5.free;have hO6:=hO5.bv;have hml:m.le _:=hO6.ext.le;have HM:=zh (nA _ (gT s.data.toList self) _ _ hO6.inn (htab.le hml) hst (by rw[HB.out.2.2.2];omega));have HO6:=zh hO6;have hi1:((s.size:Int)+1)<((s.size:Int)+2):=zo;have hi2:s.size+1<s.size+2:=zo;clear hO6 hml hst hrow5 hO5 hmk2 hed hO4 hO3 hO2 hown7 hgrow7 hrow7 hnews hxl c0 c1 cl hfd
  go_wp2_with fail
  refine HM.out.mono ?_;rintro e w2 ⟨r,C,rfl,hb2,hst,hClen,hmin,hnot⟩;have hwf:=HB.out.2.1.1;rw[aN hwf];obtain⟨ra,rc,rfl⟩:∃ra rc,r=.slice ra C.length rc:=by obtain⟨x,y,e,-⟩:=hst;exact⟨x,y,e⟩
  have hO7:=(HO6.out.call hb2).al #[.slice ra C.length rc] 27;have g1':=hO7.swap.obj.c 0;have g2':=hO7.swap.obj.frozen 0;have g3':=hO7.swap.obj.lt;have hO8:=hO7.swap.set 0 (.slice ra C.length rc);have g4':=hO8.obj.c 0;have hfin:=aJ hO8.done hst;have Hk:=zh (zi hO8.below (zi hfin (zi (hmin hwf) hClen)));clear hO8 hO7 hfin hmin hnot hst hClen HO6 hwf HM;go_wp2;refine yQ (v:=.agg #[.slice ra C.length rc]) (by simp[results,Tryz.results254,go_sem,g4']) rfl ?_;refine hR.out _ _ ⟨_,C,rfl,Hk.out.1,Hk.out.2.1,⟨Hk.out.2.2.1.canon,fun x=>?_⟩,?_⟩
  ·rw[Hk.out.2.2.1.lang];have:=HB.out.2.2.1 x 0 (zC _);rw[List.drop_zero] at this;exact this
  ·have h1:=Hk.out.2.2.2;have h2:=HB.out.2.2.2;omega
end Cl
