/- Short words. -/
import Derived.Test.YtbbnjopkjbhpbaaGreatDoorProg
import Derived.WalkKit
import Derived.Lib.Hide
open Go Go.RowKit Go.Proofs
theorem zo {P : Prop} (h : P := by omega) : P := h
theorem zk {P : Prop} (h : P := by kernel_rfl) : P := h
theorem zS {P : Prop} (h : P := by simp) : P := h
theorem zD {P : Prop} (h : P := by decide) : P := h
theorem zg {P : Prop} (h : P := by go_simp; first | done | rfl) : P := h
theorem zh {P : Prop} (h : P) : Hid P := h
theorem zi {P Q : Prop} (x : P) (y : Q) : P ∧ Q := ⟨x, y⟩
theorem zA {P : Prop} (h : P := by assumption) : P := h
theorem zF : type_of% @List.getElem_mem := @List.getElem_mem
theorem zG : type_of% @Nat.zero_le := @Nat.zero_le
theorem zH : type_of% @List.take_succ_eq_append_getElem := @List.take_succ_eq_append_getElem
theorem zI : type_of% @Nat.le_refl := @Nat.le_refl
theorem zJ : type_of% @if_neg := @if_neg
theorem zK : type_of% @if_pos := @if_pos
theorem zL : type_of% @List.length_append := @List.length_append
theorem zM : type_of% @decide_eq_false := @decide_eq_false
theorem zN : type_of% @decide_eq_true := @decide_eq_true
theorem zO : type_of% @beq_eq_false_iff_ne := @beq_eq_false_iff_ne
theorem zP : type_of% @Classical.byContradiction := @Classical.byContradiction
theorem zQ : type_of% @List.drop_eq_nil_of_le := @List.drop_eq_nil_of_le
theorem zR : type_of% @Below.refl := @Below.refl
theorem zT : type_of% @Int.eq_ofNat_of_zero_le := @Int.eq_ofNat_of_zero_le
theorem zU : type_of% @List.mem_cons_of_mem := @List.mem_cons_of_mem
theorem zY : type_of% @Array.getD_eq_getD_getElem? := @Array.getD_eq_getD_getElem?
theorem zZ : type_of% @List.mem_singleton := @List.mem_singleton
theorem yA : type_of% @List.mem_cons := @List.mem_cons
theorem yB : type_of% @List.getElem?_eq_some_iff := @List.getElem?_eq_some_iff
theorem yC : type_of% @Array.getElem?_eq_some_iff := @Array.getElem?_eq_some_iff
theorem yD : type_of% @List.mem_map := @List.mem_map
theorem yE : type_of% @List.drop_eq_getElem_cons := @List.drop_eq_getElem_cons
theorem yF : type_of% @List.mem_cons_self := @List.mem_cons_self
theorem yG : type_of% @List.take_length := @List.take_length
theorem yH : type_of% @List.getElem?_eq_getElem := @List.getElem?_eq_getElem
theorem yI : type_of% @List.map_append := @List.map_append
theorem yJ : type_of% @Nat.le_trans := @Nat.le_trans
theorem yK : type_of% @List.getElem?_append_left := @List.getElem?_append_left
theorem yL : type_of% @List.map_cons := @List.map_cons
theorem yM : type_of% @List.eq_nil_of_length_eq_zero := @List.eq_nil_of_length_eq_zero
theorem yN : type_of% @List.getElem?_append_right := @List.getElem?_append_right
theorem yO : type_of% @List.length_cons := @List.length_cons
theorem yP : type_of% @List.mem_append := @List.mem_append
theorem yQ : type_of% @List.mem_range := @List.mem_range
theorem yR : type_of% @List.append_nil := @List.append_nil
theorem yS : type_of% @List.pairwise_cons := @List.pairwise_cons
theorem yT : type_of% @List.mem_iff_getElem := @List.mem_iff_getElem
theorem yU : type_of% @List.getD_eq_getElem?_getD := @List.getD_eq_getElem?_getD
theorem yV : type_of% @bodyPost_ret := @bodyPost_ret
theorem yX : type_of% @List.getElem_of_mem := @List.getElem_of_mem
theorem yY : type_of% @List.length_pos_iff := @List.length_pos_iff
theorem yZ : type_of% @Nat.zero_add := @Nat.zero_add
theorem xA : type_of% @Option.getD_some := @Option.getD_some
theorem xB : type_of% @List.map_nil := @List.map_nil
theorem xC : type_of% @List.length_map := @List.length_map
theorem xD : type_of% @List.append_assoc := @List.append_assoc
theorem xE : type_of% @ByteArray.toList_eq := @ByteArray.toList_eq
theorem xG : type_of% @Bool.and_eq_true := @Bool.and_eq_true
theorem xH : type_of% @List.take_of_length_le := @List.take_of_length_le
theorem xI : type_of% @List.mem_append_left := @List.mem_append_left
theorem xJ : type_of% @List.length_eq_zero_iff := @List.length_eq_zero_iff
theorem xK : type_of% @List.cons_append := @List.cons_append
theorem xL : type_of% @List.getElem_cons_zero := @List.getElem_cons_zero
theorem xM : type_of% @List.getElem_append_left := @List.getElem_append_left
theorem xN : type_of% @List.nil_append := @List.nil_append
theorem xO : type_of% @List.flatMap_cons := @List.flatMap_cons
theorem xP : type_of% @Nat.lt_of_lt_of_le := @Nat.lt_of_lt_of_le
theorem xQ : type_of% @List.getElem_map := @List.getElem_map
theorem xR : type_of% @List.mem_filter := @List.mem_filter
theorem xS : type_of% @List.mem_append_right := @List.mem_append_right
theorem xU : type_of% @Int.le_refl := @Int.le_refl
theorem xV : type_of% @Nat.mul_le_mul := @Nat.mul_le_mul
theorem xW : type_of% @List.mem_flatMap := @List.mem_flatMap
theorem xX : type_of% @List.mem_of_mem_take := @List.mem_of_mem_take
theorem xY : type_of% @Nat.not_lt_zero := @Nat.not_lt_zero
theorem xZ : type_of% @List.map_congr_left := @List.map_congr_left
theorem vB : type_of% @List.length_filter_le := @List.length_filter_le
theorem vC : type_of% @List.getElem?_eq_none := @List.getElem?_eq_none
theorem vD : type_of% @List.all_eq_true := @List.all_eq_true
theorem vE : type_of% @List.map_map := @List.map_map
theorem vF : type_of% @List.ext_getElem := @List.ext_getElem
theorem vG : type_of% @List.sum_cons := @List.sum_cons
theorem vH : type_of% @Option.map_some := @Option.map_some
abbrev zt (a : Act) (s : Nat) (v : Value) : Prop := a.tmps.getD s undef = v
abbrev zC (f : FuncId) (x : Array Value) (w : World) (X : Ending → World → Prop) : Prop := Calls Tryz.prog f x w X
abbrev zX (f : FuncId) (x : Array Value) (w : World) (v : Value) : Prop := Calls Tryz.prog f x w fun e w' => e = .returned v ∧ Below w.heap.size w w'
abbrev zW := World
abbrev zV := Value
abbrev zB (w w' : World) : Prop := Below w.heap.size w w'
theorem Go.RowKit.Hid.o {p : Prop} (h : Hid p) : p := h
theorem Go.RowKit.Hid.p {α β : Sort _} {P Q : α → β → Prop} (h : Hid (∀ a b, P a b → Q a b)) {a : α} {b : β} (x : P a b) : Q a b := h a b x
abbrev Go.Value.p (b : Nat) : Go.Value := .pointer (some ⟨b, 0, none⟩)
abbrev Go.Value.n : Go.Value := .slice none 0 0
abbrev Go.Value.j (n : Int) : Go.Value := .int .i64 n
variable {P:Prop}
theorem qaa(h:P:=by cases ho;exact wv rfl rfl rfl):P:=h
theorem qih(h:P:=by have e15:a.tmps.getD 15 undef=_:=RA.d 12 rfl;have e16:(aI.mem m [13] (fun M u=>∃ui uf ut,u=mW.val ui uf ut/\gJ M ui uf ut mW)).holds (a.tmps.getD 16 undef) win wr:=RA.d 13 rfl;have e13:a.tmps.getD 13 undef=_:=RA.d 10 rfl;cases ho;refine we2 rfl rfl rfl e13 (HCM.o (m.fJ wr win [13]) _ wr (dzd HO2.az win [13]) (dzF HO2.az win [13]) e16) ?_;rintro e w' ⟨rfl,hb⟩;exact⟨_,rfl,_,rfl,hb,rfl⟩):P:=h
theorem qag(h:P:=by rintro e w' ⟨rfl,hb⟩;exact⟨_,rfl,_,rfl,hb,rfl⟩):P:=h
theorem qac(h:P:=by have e28:a.tmps.getD 28 undef=_:=RA.d 2 rfl;cases ho;exact wn rfl rfl rfl e28 rfl rfl):P:=h
theorem qad(h:P:=by have e7:a.tmps.getD 7 undef=_:=RA.d 4 rfl;cases ho;exact wy rfl rfl rfl e7 rfl):P:=h
theorem qae(h:P:=by have e27:a.tmps.getD 27 undef=_:=RA.d 24 rfl;cases ho;exact wn rfl rfl rfl e27 rfl rfl):P:=h
theorem qgt(h:P:=by refine⟨.inr fun h=>absurd rfl h,?_⟩;go_simp;refine aO 13 zk (aM rfl rfl (aS (by go_simp;first|exact⟨rfl,rfl⟩|rfl) ⟨.inl rfl,?_⟩));go_simp;refine dE zk ?_ _;exact hY.o _ _ rfl ⟨Mc,_,cs2,rfl,le6,hv3,hZ.o⟩):P:=h
theorem qgu(h:P:=by have e13:a.tmps.getD 13 undef=_:=RA.d 10 rfl;cases ho;refine we2 rfl rfl rfl e13 (DX m wr HO2.az) ?_;rintro e w' ⟨ui,uf,ut,rfl,hb,hs⟩;exact⟨_,rfl,_,rfl,hb,fM (R:=fun M u=>∃ui uf ut,u=mW.val ui uf ut/\gJ M ui uf ut mW) (fun k _ ⟨a,b,c,e,h⟩=>⟨a,b,c,e,h.le k⟩) HO2.az hb ⟨_,_,_,rfl,hs⟩⟩):P:=h
theorem qai(h:P:=by have e28:a.tmps.getD 28 undef=_:=RA.d 2 rfl;cases ho;exact wy rfl rfl rfl e28 rfl):P:=h
theorem qgv(h:P:=by have hZ:=HO.o.dr.aT E.aF;obtain⟨t1,d⟩:=a;obtain rfl:d=[]:=E.defers;refine eQ 31 zk (aM rfl rfl (aS (by go_simp;first|done|exact⟨rfl,rfl⟩|rfl) ?_));refine dB zk (hY.o _ _ (by simpa using E.size) ⟨?_,hZ.aF⟩) _;have hsz:t1.size=34:=E.size;simp[hsz]at e33;simp[hsz]):P:=h
theorem qgw(h:P:=by rintro e w' ⟨he,d',q,os,h1,h2,rfl⟩;obtain⟨k1,k2⟩:=wH hC hp hn h1 h2;refine⟨he,_,?_,by have:=sort_own' _ hk zo h' d' (by rw[hsz];exact k1) q os;rw[hsz]at this;exact this⟩;rw[<-k2];refine⟨d'.toList.map _,rfl,zS,fun i a b=>?_⟩;simp only[xQ];exact e3 _ _ _):P:=h
theorem qal(h:P:=by clear HL;go_wp2;exact hR.o _ _ ⟨by rw[HL2.o]<;>rfl,HB.o⟩):P:=h
theorem qgx(h:P:=by simp only[yA,forall_eq_or_imp];exact⟨fun k hk=>by simp only[bA.blk,Option.some.injEq]at hk;subst hk;exact hf,fun it hi=>h.ik it (zU _ hi)⟩):P:=h
theorem qgy(h:P:=by have e14:a.tmps.getD 14 undef=_:=RA.d 11 rfl;have e13:a.tmps.getD 13 undef=_:=RA.d 10 rfl;cases ho;refine fT rfl (fC rfl rfl e13) (aS (rO.exec (cs:=[n1,n2,n3,n4,n5,n6]) rfl zg rfl q1) ⟨_,rfl,zR _ _,rfl⟩)):P:=h
theorem qgz(h:P:=by have e17:a.tmps.getD 17 undef=_:=RA.d 14 rfl;have e13:a.tmps.getD 13 undef=_:=RA.d 10 rfl;cases ho;refine fT rfl (fC rfl rfl e13) (aS (by go_simp;first|done|rfl|exact hd) ⟨_,rfl,zR _ _,rfl⟩)):P:=h
theorem qar(h:P:=by have e20:a.tmps.getD 20 undef=_:=RA.d 17 rfl;cases ho;exact wy rfl rfl rfl e20 rfl):P:=h
theorem qat(h:P:=by exact⟨_,0,zG _,rfl,rfl,fun j hj h=>absurd h (xY _),HO.o⟩):P:=h
theorem qgA(h:P:=by intro win a wr E;have e12:a.tmps.getD 12 undef=.j rr:=E.fact 6 _ zo rfl;have hZ:=HO.o.dr.aT E.aF;obtain⟨t1,d⟩:=a;obtain rfl:d=[]:=E.defers;refine eQ 7 zk (aM rfl rfl (aS (by go_simp;first|done|exact⟨rfl,rfl⟩|rfl) ?_));refine dB zk (hY.o _ _ (by simpa using E.size) ⟨?_,hZ.aF⟩) _;have hsz:t1.size=13:=E.size;simp[hsz]at e12;simp[hsz]):P:=h
theorem qgB(h:P:=by intro jump W3 mk2 L2 h3;have h4:=h3.perm (tV _ _ L2 Lr).symm;have hl3:=h4.gN;have hr:=run_endRound (P:=P) jump hl3;refine⟨_,hr,?_⟩;have:=h4.jJ (o':=.loop { rec .ready none with state:=if jump.isNone then .ready else .done,pending:=jump }) (World.putObj_heap_same (yC.1 hl3).1) (grownBy_putObj' _ _ _);rw[hrec]at this⊢;exact this):P:=h
theorem qay(h:P:=by exact hR.o _ _ ⟨rfl,(HO.o.aT hb1).aF⟩):P:=h
theorem qii(h:P:=by refine⟨_,rfl,.inr (bzw (Mem.le_trans hle7 k3) k2.az),?_⟩;go_simp;refine aO 16 zk (aM rfl rfl (aS (by go_simp;first|done|exact⟨rfl,rfl⟩|rfl) ⟨.inl rfl,?_⟩));refine dE zk ?_ _;refine hV.o _ _ rfl ⟨false,mk5,Lt5,rfl,Mem.le_trans hle7 k3,k2,fun _=>?_,fun h=>by cases h⟩;rw[HDn.o b hb1,<-xD,Ht.o];exact k1):P:=h
theorem qij(h:P:=by refine⟨_,rfl,.inr (bzw (Mem.le_trans hle7 k4) k3.az),?_⟩;go_simp;refine aO 16 zk (aM rfl rfl (aS (by go_simp;first|done|exact⟨rfl,rfl⟩|rfl) ⟨.inl rfl,?_⟩));refine dE zk ?_ _;exact hV.o _ _ rfl ⟨true,mk5,Lt5,rfl,Mem.le_trans hle7 k4,k3,(fun h=>by cases h),fun _=>⟨qq,k0,by rw[Ht.o];exact k1,k2⟩⟩):P:=h
theorem qgE(h:P:=by have HL:=zh (show l=l' from Hrel.o.2 (by rw[zQ zo,zQ (by rw[<-Hlen.o];omega)]));have HB:=zh hO.aF;clear hO hX;go_wp2;exact hR.o _ _ ⟨aP (by rw[aN HL.o]),HB.o⟩):P:=h
theorem qaB(h:P:=by have hd:(r != 0)=true:=bne_iff_ne.2 he;have HB:=zh (zi (HL1.o he) (hO3.aT hb3).aF);clear HL0 HL1 he hX hO3;go_wp2;exact hR.o _ _ ⟨by rw[HB.o.1]<;>rfl,HB.o.2⟩):P:=h
theorem qaC(h:P:=by have e20:a.tmps.getD 20 undef=_:=RA.d 17 rfl;cases ho;exact wn rfl rfl rfl e20 rfl rfl):P:=h
theorem qaD(h:P:=by go_wp2;exact hR.o _ _ ⟨rfl,HB.o⟩):P:=h
theorem qaE(h:P:=by refine HF.o.mono ?_;rintro e w1 ⟨rfl,hb1⟩;have HO1:=zh (HO.o.aT hb1);clear HO HF hb1;go_wp2;exact hX.o _ _ _ zo rfl ⟨k+1,zo,rfl,rfl,HN2.o,HO1.o⟩):P:=h
theorem qaF(h:P:=by go_wp2;exact hR.o _ _ ⟨most+1,rfl,HO.o.aF,.over h0⟩):P:=h
theorem qgF(h:P:=by have hl3:=ho.gN;have hO4:=ho.jJ (o':=.loop { rec .done (some c)with state:=.exhausted }) (World.putObj_heap_same (yC.1 hl3).1) (grownBy_putObj' _ _ _);refine⟨some c,_,?_,hstop D c xs _ mk2 L hS hI hO4.tail hm⟩;have:=run_endLoop (P:=P) hl3 (by rw[hrec];simp);rw[this,hrec]):P:=h
theorem qgG(h:P:=by have hl3:=ho.gN;have hO4:=ho.jJ (o':=.loop { rec .ready none with state:=.exhausted }) (World.putObj_heap_same (yC.1 hl3).1) (grownBy_putObj' _ _ _);refine⟨none,_,?_,hdone D xs _ mk2 L hS hI hO4.tail hm⟩;have:=run_endLoop (P:=P) hl3 (by rw[hrec];simp);rw[this,hrec]):P:=h
theorem qaI(h:P:=by exact hX.o _ _ _ zo rfl ⟨k+1,zo,rfl,rfl,HL.o,(hO3.aT hb3).tail.tail⟩):P:=h
theorem qgH(h:P:=by have HL:=zh (TL fun j hj=>HA.o j hj zo);have HB:=zh hO.aF;clear hO hX HA;go_wp2;exact hR.o _ _ ⟨by rw[HL.o]<;>rfl,HB.o⟩):P:=h
theorem qaK(h:P:=by exact hR.o _ _ ⟨rfl,hb1⟩):P:=h
theorem qaL(h:P:=by have e63:a.tmps.getD 63 undef=_:=RA.d 4 rfl;cases ho;exact wy rfl rfl rfl e63 rfl):P:=h
theorem qgI(h:P:=by intro w' ho hg;have HF:=zh (HO.o.aQ ho hg);have hr:=ek.load (cs:=lZ.toList) rfl ho.all;clear HO hg ho;go_wp2;refine yV (v:=.tuple #[.agg lZ,.bool false]) (dz results72 rfl hr) rfl ?_;exact hR.o _ _ ⟨HR.o,HF.o.aF⟩):P:=h
theorem qaN(h:P:=by intro va vc w3 hown3 hgrow hrow3;have hO4:=(hO3.av.app hown3 hgrow hrow3 zS).bM;have Hfin:=zh hO4;clear hO4 hown3 hgrow hrow3 hO3;go_wp2;refine hY.o _ _ _ zo rfl ⟨q+1,_,zo,rfl,rfl,?_⟩;rw[Hsu.o];simpa using Hfin.o):P:=h
theorem qgJ(h:P:=by intro va vc w2 ho2 hg2 hr2;have HO2:=zh (HO.o.aR.app ho2 hg2 hr2 zS).bM.bM;clear HO ho2 hg2 hr2 y0 y1 yl;go_wp2;exact hX.o _ _ _ zo rfl ⟨i+1,_,_,zo,rfl,rfl,by rw[HK2.o];exact HX2.o,by rw[HK2.o];simpa using HO2.o⟩):P:=h
theorem qgK(h:P:=by go_wp2;exact hX.o _ _ _ zo rfl ⟨i+1,zo,rfl,by rw[HS.o]<;>rfl,HO1.o.FN _⟩):P:=h
theorem qaS(h:P:=by have HB:=zh hO.aF;clear hO hX HM;go_wp2;exact hR.o _ _ ⟨n,rfl,HB.o,HF.o⟩):P:=h
theorem qgN(h:P:=by intro w' ho hg;have HF:=zh (HO.o.aQ ho hg);have hr:=ek.load hl ho.all;clear HO hg ho HC;go_wp2;refine yV (v:=.tuple #[.agg D.toArray,.bool true]) (dz results72 rfl hr) rfl ?_;exact hR.o _ _ ⟨HR.o,HF.o.aF⟩):P:=h
theorem qaV(h:P:=by go_wp2;refine yV (v:=.tuple #[]) (by simp[results,results101,go_sem]) rfl ?_;exact hR.o _ _ ⟨rfl,HO.o⟩):P:=h
theorem qik(h:P:=by obtain⟨cs,-,-,⟨u,u2,rfl,h1,h2⟩,hc⟩:=hx.at' h;have hc:=fun j u hj=>bzv hM (eO hown hg mk (hc j u hj));exact⟨u,u2,hc 0 _ rfl,hc 1 _ rfl,h1.le hm fun _ _ h=>h.le hm,h2.le hm fun _ _ h=>h.le hm⟩):P:=h
theorem qgO(h:P:=by have HT:=zh (show ∀x∈l,∃y∈l',Q x y from fun x hx=>by obtain⟨j,hj,rfl⟩:=yX hx;exact HD.o j hj zo);have HB:=zh hO.aF;clear hO hX HD hci hle;go_wp2;exact hR.o _ _ ⟨aP (by rw[aN HT.o]),HB.o⟩):P:=h
theorem qgP(h:P:=by rintro z1 vs w3-⟨rfl,hb⟩;simp[bz,lk];have HBB:=zh hb;clear hb;go_wp2;exact hR.o _ _ ⟨rfl,HBB.o⟩):P:=h
theorem qil(h:P:=by obtain⟨cs,-,-,⟨u,u2,rfl,h3,h4,-⟩,hc⟩:=hx.at' h;exact⟨u,u2,bzv hM (eO hown hg mk (hc 0 _ rfl)),bzv hM (eO hown hg mk (hc 1 _ rfl)),h3.le hm fun _ _ h=>h.le hm,h4.le hm fun _ _ h=>h.le hm⟩):P:=h
theorem qaY(h:P:=by exact⟨fun h0=>(by rw[hr']at h0;cases h0),fun j hj=>(by rw[hr']at hj;obtain rfl:=zZ.1 hj;exact h)⟩):P:=h
theorem qa0(h:P:=by exact hR.o _ _ ⟨s,_,_,_,rfl,Hk.o.1,Hk.o.2.1,Hk.o.2.2.1,Hk.o.2.2.2⟩):P:=h
theorem qgQ(h:P:=by have e22:a.tmps.getD 22 undef=_:=RA.d 19 rfl;have e20:a.tmps.getD 20 undef=_:=RA.d 17 rfl;cases ho;refine fT rfl (fC rfl rfl e20) (aS (by go_simp;try (intro hh;omega)) ⟨_,rfl,zR _ _,rfl⟩)):P:=h
theorem qgR(h:P:=by go_wp2;refine hR.o _ _ ⟨aP ?_,hbel⟩;rw[aN (Hrel.o.2 ?_)];rw[zQ zo,zQ (by rw[<-Hlen.o];omega)]):P:=h
theorem qa3(h:P:=by exact hR.o _ _ ⟨by rw[HL.o]<;>rfl,HB.o⟩):P:=h
theorem qa4(h:P:=by have e1:=RA.k 1;have e13:a.tmps.getD 13 undef=_:=RA.d 10 rfl;cases ho;exact wy rfl rfl rfl e13 rfl):P:=h
theorem qa5(h:P:=by exact hR.o _ _ ⟨_,rfl,Hfin.o.1,Hfin.o.2⟩):P:=h
theorem qa6(h:P:=by have HK2:=zh (HZ.o hne e1 (.inr e3));rw[aG e3];clear HN HZ e1 e3 hX2;go_wp2;exact hX.o _ _ _ zo rfl ⟨i+1,_,_,zo,rfl,rfl,by rw[HK2.o];exact HX.o,by rw[HK2.o];exact HO4.o.tail.tail⟩):P:=h
theorem qa7(h:P:=by go_wp2;refine⟨zS,.inl ⟨_,_,rfl,run_takeDeferred hbl,?_⟩⟩;exact⟨.slice xa xs.length xc,by simp[results,results117,go_sem],hR.o _ _ ⟨_,xs,rfl,Hk.o.1,Hk.o.2.1,Hk.o.2.2⟩⟩):P:=h
theorem qgS(h:P:=by simp only[yA,forall_eq_or_imp];exact⟨ho,fun it hi=>bA.oq (h.ok it (zU _ hi)) fun k hk=>hg.block k (bA.lt (h.ok it (zU _ hi)) hk) (fun e=>hap.1 it hi g rfl (by cases e;exact hk))⟩):P:=h
theorem qgT(h:P:=by go_wp2;exact hR.o _ _ ⟨aP (by rw[aG HX.o]),HB.o⟩):P:=h
theorem qba(h:P:=by cases ho;exact wy rfl rfl rfl e63 rfl):P:=h
theorem qbb(h:P:=by have HK2:=zh (HZ.o hne e1 (.inl e2));clear HN HZ HQ2 e1 hX2;go_wp2;exact hX.o _ _ _ zo rfl ⟨i+1,_,_,zo,rfl,rfl,by rw[HK2.o];exact HX.o,by rw[HK2.o];exact HO3.o.tail.tail⟩):P:=h
theorem qaU(h:P:=by exact hR.o _ _ ⟨_,_,rfl,Hk.o.1,Hk.o.2⟩):P:=h
theorem qbc(h:P:=by exact hR.o _ _ ⟨by rw[HL2.o]<;>rfl,HO2.o.aF⟩):P:=h
theorem qbd(h:P:=by intro va vc w2 ho2 hg2 hr2;have HO2:=zh (HO1.o.av.app ho2 hg2 hr2 zS).bM;clear HO1 ho2 hg2 hr2 g0 g1 gl;go_wp2;exact hX.o _ _ _ zo rfl ⟨i+1,_,_,zo,rfl,rfl,HV.o,HO2.o⟩):P:=h
theorem qaZ(h:P:=by go_wp2;exact hY.o _ _ rfl ⟨rfl,HO.o⟩):P:=h
theorem qbe(h:P:=by simpa using this):P:=h
theorem qgW(h:P:=by refine(HL2.o _ HO2.o.az).mono ?_;rintro e w3 ⟨rfl,hb3⟩;have HB:=zh (HO2.o.aT hb3).aF;clear HO2 HL2 hb3 q2 q3;go_wp2;exact hR.o _ _ ⟨aP (by rw[HF.o]),HB.o⟩):P:=h
theorem qbh(h:P:=by rw[Oper.semAt_plain F _ _ (by rw[ho];intro c hc';cases hc')];simp[execOp,ho,resolve,invoke,builtin,hs,hx,hr,Result.andThen];exact hK _ _ (h va vc w' h2 h3 h4)):P:=h
theorem qbi(h:P:=by have e27:a.tmps.getD 27 undef=_:=RA.d 24 rfl;cases ho;exact wy rfl rfl rfl e27 rfl):P:=h
theorem qbj(h:P:=by go_wp2;exact hR.o _ _ ⟨_,rfl,HF.o⟩):P:=h
theorem qbk(h:P:=by go_wp2;exact hX.o _ _ _ zo rfl ⟨i+1,zo,rfl,rfl,HO2.o⟩):P:=h
theorem qbl(h:P:=by have HN2:=zh (HN.o fun _ _ h=>h.elim e2 (fun h=>h e3));rw[aN e3];clear HN HZ e1 e3;go_wp2;exact hX2.o _ _ _ zo rfl ⟨k+1,zo,rfl,rfl,HN2.o,HO4.o.tail⟩):P:=h
theorem qbm(h:P:=by exact hX.o _ _ rfl ⟨by rw[HP.o]<;>rfl,HO.o.aT hb1⟩):P:=h
theorem qbn(h:P:=by obtain⟨a,c,h1,h2,h3,h4⟩:=h;refine⟨a,c,h1,h2,h3,fun hne=>?_⟩;obtain⟨b,off,h5,h6⟩:=h4 hne;exact⟨b,off,h5,fun i hi=>hr _ _ _ (h6 i hi)⟩):P:=h
theorem qbo(h:P:=by exact⟨_,0,zG _,rfl,rfl,HO.o⟩):P:=h
theorem qbp(h:P:=by refine(HBT.o _ HO4.o.az).mono ?_;rintro e w5 ⟨rfl,hb5⟩;have HO5:=zh (HO4.o.aT hb5);clear HO4 hb5 q1;go_wp2;exact hY.o _ _ rfl ⟨rfl,HO5.o⟩):P:=h
theorem qgX(h:P:=by have e63:a.tmps.getD 63 undef=_:=RA.d 4 rfl;cases ho;refine fT rfl (fC rfl rfl e63) (aS (by go_simp;try (intro hh;omega)) ⟨_,rfl,zR _ _,rfl⟩)):P:=h
theorem qbr(h:P:=by clear hO1 HO hn HN;go_wp2;refine yV (v:=.tuple #[]) (by simp[results,results114,go_sem]) rfl ?_;refine hR.o _ _ ⟨rfl,?_⟩;rw[HB.o];exact HO1.o):P:=h
theorem qbs(h:P:=by exact⟨_,0,zG _,rfl,rfl,rfl,HO.o⟩):P:=h
theorem qgY(h:P:=by refine(HT.o _).mono ?_;rintro e w1 ⟨rfl,hb1⟩;have HB:=zh (HO.o.aT hb1).aF;clear HO HT HC hb1;go_wp2;exact hR.o _ _ ⟨aP HX.o.symm,HB.o⟩):P:=h
theorem qbu(h:P:=by go_wp2;exact hX.o _ _ _ zo rfl ⟨i+1,zo,rfl,rfl,by rw[HE.o];exact HO1.o⟩):P:=h
theorem qgZ(h:P:=by go_wp2;exact hR.o _ _ ⟨aP (by rw[aG HE3.o]),HB.o⟩):P:=h
theorem qbw(h:P:=by have HN2:=zh (HN.o fun _ h=>absurd h e1);rw[aG e1];clear HN HZ HQ2 e1;go_wp2;exact hX2.o _ _ _ zo rfl ⟨k+1,zo,rfl,rfl,HN2.o,HO3.o.tail⟩):P:=h
theorem qg0(h:P:=by go_wp2;refine yV (v:=.agg #[.slice none 0 0]) (by simp[results,results45,go_sem]) rfl ?_;exact hR.o _ _ ⟨_,[],rfl,HO.o.aF,jo _,Hl.o,zS⟩):P:=h
theorem qby(h:P:=by go_wp2;exact hR.o _ _ ⟨rfl,rfl⟩):P:=h
theorem qg1(h:P:=by go_wp2;exact hR.o _ _ ⟨aP (by rw[aG (fun h=>hlen (by rw[h]))]),zR _ _⟩):P:=h
theorem qbA(h:P:=by subst hne;have HN2:=zh (HN.o fun h=>absurd rfl h);clear HN HZ HQ1 HQ2;go_wp2;exact hX2.o _ _ _ zo rfl ⟨k+1,zo,rfl,rfl,HN2.o,HO.o.tail⟩):P:=h
theorem qbB(h:P:=by obtain⟨a,c,rfl,-⟩:=h3;obtain⟨a',c',rfl,-⟩:=h4;simp only[yA,List.not_mem_nil,or_false]at hx;rcases hx with rfl|rfl<;>rfl):P:=h
theorem qg2(h:P:=by rintro e w' ⟨r,rfl,hb,hr⟩;exact⟨_,rfl,_,rfl,hb,fM (R:=fun M u=>bD (aY M n) M u L2) (fun k _ h=>bD.gB k h) HO2.az hb hr⟩):P:=h
theorem qg3(h:P:=by rintro e w' ⟨r,rfl,hb,hr⟩;exact⟨_,rfl,_,rfl,hb,fM (R:=fun M u=>bD (aY M n) M u L1) (fun k _ h=>bD.gB k h) HO2.az hb hr⟩):P:=h
theorem qig(h:P:=by exact hR.o _ _ ⟨_,_,rfl,Hk.o.1,by rw[Hk.o.2.2];exact Hk.o.2.1⟩):P:=h
theorem qbE(h:P:=by exact hR.o _ _ ⟨_,C,rfl,Hk.o.1,Hk.o.2.1,Hk.o.2.2.1,Hk.o.2.2.2⟩):P:=h
theorem qbG(h:P:=by subst hji;exact hy.wpOp hi hS ⟨.inl rfl,H⟩):P:=h
theorem qbH(h:P:=by exact hX.o _ _ _ zo rfl ⟨k+1,zo,rfl,rfl,HL0.o trivial,HO4.o⟩):P:=h
theorem qg4(h:P:=by go_wp2;exact hR.o _ _ ⟨rfl,bY (zR _ _) _⟩):P:=h
theorem qbJ(h:P:=by go_wp2;exact hR.o _ _ ⟨false,rfl,HO.o.aF,fun h=>by cases h⟩):P:=h
theorem qg5(h:P:=by go_wp2;exact hR.o _ _ ⟨aP (by rw[aG HX.o]),(HO.o.FN _).aF⟩):P:=h
theorem qbL(h:P:=by obtain⟨u,u2,e,h1,h2,h3⟩:=h;exact⟨u,u2,e,h1.le hle fun _ _ h=>h.le hle,h2.le hle fun _ _ h=>h.le hle,h3⟩):P:=h
theorem qbM(h:P:=by refine hZ.o _ _ _ zo rfl ⟨j+1,zo,rfl,rfl,?_⟩;rw[Hgo.o,zJ (by rw[Int.toNat_natCast];omega)];exact hO6.al' _):P:=h
theorem qbN(h:P:=by rintro e w' ⟨rfl,rfl⟩;exact⟨_,rfl,_,rfl,zR _ _,rfl⟩):P:=h
theorem qbO(h:P:=by exact⟨_,0,zG _,rfl,rfl,fun j _ h=>absurd h (xY _),HO.o⟩):P:=h
theorem qbQ(h:P:=by exact⟨_,0,zG _,rfl,rfl,Iff.rfl,zR _ _⟩):P:=h
theorem qbR(h:P:=by subst e;exact h):P:=h
theorem qbS(h:P:=by obtain⟨u,u2,e,h1,h2⟩:=h;exact⟨u,u2,e,h1.le hle fun _ _ h=>h.le hle,h2.le hle fun _ _ h=>h.le hle⟩):P:=h
theorem qbT(h:P:=by injection h with h1 h2 h3;exact⟨_,h1⟩):P:=h
theorem qbU(h:P:=by rw[List.nodup_append];exact⟨h.nodup,zS,fun a ha b hb e=>hx (by rw[zZ.1 hb]at e;rw[<-e];exact ha)⟩):P:=h
theorem qbV(h:P:=by simp only[Op.eqFields];simp[part,isAgg,go_sem,e2];by_cases h1:a=a'<;>by_cases h2:b=b'<;>simp[h1,h2]):P:=h
theorem qbW(h:P:=by have HQ:=zh hq;clear HLS hq;go_wp2;exact hY.o _ _ _ zo rfl ⟨j+1,zo,rfl,rfl,by rw[HQ.o];exact HO2.o⟩):P:=h
theorem qg7(h:P:=by exact hR.o _ _ ⟨aP (by rw[aG HL.o]),(hO3.aT hb3).aF⟩):P:=h
theorem qg8(h:P:=by go_wp2;exact hR.o _ _ ⟨aP (by rw[aG HL.o]),HO.o.aF⟩):P:=h
theorem qg9(h:P:=by simp only[yA,forall_eq_or_imp];exact⟨fun k hk=>h.ik _ (yF ..) k hk,fun it hi=>h.ik it (zU _ hi)⟩):P:=h
theorem qb1(h:P:=by simp[h']at h0 h1;rw[h0]at h1;cases h1):P:=h
theorem qb2(h:P:=by exact hY.o _ _ _ zo rfl ⟨ou,ag,k+1,zo,rfl,hlu,rfl,hO,hs2,hag,fun h=>⟨(hcl h).1,hclk zS h⟩⟩):P:=h
theorem qb3(h:P:=by exact hR.o _ _ ⟨rfl,zR _ _⟩):P:=h
theorem qha(h:P:=by exact wO (S:=fun v=>v∈seen) h.start (fun v hv b hb=>(hd v hv).2 b hb) (fun v hv=>(hd v hv).1)):P:=h
theorem qb5(h:P:=by have:=hc w;rw[show done++k::ks=(done++[k])++ks by simp,List.countP_append]at this;omega):P:=h
theorem qb6(h:P:=by simp[Array.getElem?_eq_none h']at h1):P:=h
theorem qb7(h:P:=by show f.1.1.data.toList.length+1<=1000;rw[Array.length_toList];show f.1.1.size+1<=1000;omega):P:=h
theorem qim(h:P:=by have h:=HO.o.aQ ob1 hg1;exact⟨_,dz9 h.j6,h.iC,fun j u hj=>bzy h.obj (by simpa using hj)⟩):P:=h
theorem qb9(h:P:=by obtain⟨es,clock,hb,F,hs,hD⟩:=h;exact⟨_,hb,fun w' b' h'=>⟨es,clock,h',F,hs,hD⟩⟩):P:=h
theorem qca(h:P:=by have HO3:=zh hO2;clear hO2 hY HS;go_wp2;exact hX.o _ _ _ zo rfl ⟨i+1,zo,rfl,rfl,HO3.o⟩):P:=h
theorem qcb(h:P:=by rw[Array.setIfInBounds_comm _ _ hji];exact h3.2.2):P:=h
theorem qhc(h:P:=by rintro e w' ⟨s,ui,uf,ut,rfl,hb,h⟩;exact⟨_,rfl,_,rfl,hb,fM YO.le HO5.az hb (ZM h)⟩):P:=h
theorem qhd(h:P:=by rintro e w' ⟨ri,rf,rt,rfl,hb,hn⟩;exact⟨_,rfl,_,rfl,hb,fM YB.le HO2.az hb (Na hn)⟩):P:=h
theorem qce(h:P:=by exact hR.o _ _ ⟨most+1,rfl,HO1.o.aF,.over h0⟩):P:=h
theorem qcf(h:P:=by exact hX.o _ _ _ zo rfl ⟨3,zo,rfl,rfl,fun _=>H1.o zo,fun h=>H2.o zo,fun h=>zS,HO2.o⟩):P:=h
theorem qhe(h:P:=by cases ho;refine aM rfl rfl (aS (by go_simp;try (intro hh;omega)) ⟨_,rfl,zR _ _,rfl⟩)):P:=h
theorem qhf(h:P:=by rintro e w' ⟨ri,rf,rfl,hb,hn⟩;exact⟨_,rfl,_,rfl,hb,fM iJ.le HO3.az hb (qj hn)⟩):P:=h
theorem qin(h:P:=by obtain⟨x,y,h1,h2,h3,h4⟩:=k;exact⟨x,y,bzv h h1,bzv h h2,h3.le h hr,h4.le h hr⟩):P:=h
theorem qci(h:P:=by go_wp2;exact hR.o _ _ ⟨by simp<;>rfl,rfl⟩):P:=h
theorem qcj(h:P:=by simp at h6;exact Hrel.o.trans (HD.o.trans ⟨fun h=>h.2,fun h=>⟨He.o.2 zo,h⟩⟩)):P:=h
theorem qck(h:P:=by rintro e w' ⟨he,rfl⟩;exact⟨he,xs,hx,h⟩):P:=h
theorem qcl(h:P:=by exact hX.o _ _ _ zo rfl ⟨2,zo,rfl,rfl,fun _=>H1.o zo,fun h=>zS,fun h=>zo,HO2.o⟩):P:=h
theorem qhh(h:P:=by cases ho;refine aM rfl rfl (aS (by go_simp;intro hh;omega) ⟨_,rfl,zR _ _,rfl⟩)):P:=h
theorem qco(h:P:=by rw[zH h,List.flatMap_append];simp):P:=h
theorem qhi(h:P:=by exact hR.o _ _ ⟨aP (by rw[HX.o]),HO.o.aF⟩):P:=h
theorem qcq(h:P:=by obtain⟨y,h3,rfl⟩:=yD.1 hx;have:=h8 y (xR.1 h3).1;show y.1.length+1<=9;omega):P:=h
theorem qcr(h:P:=by exact hX.o _ _ _ zo rfl ⟨1,zo,rfl,rfl,fun _=>zS,fun h=>zo,fun h=>zo,HO2.o⟩):P:=h
theorem qhj(h:P:=by rintro e w' ⟨v,rfl,hb,hn⟩;exact⟨_,rfl,_,rfl,hb,fM EJ.le HO2.az hb hn⟩):P:=h
theorem qct(h:P:=by intro b hb k h1 h2;exact hap.1 b hb k h1 h2):P:=h
theorem qhk(h:P:=by exact hX.o _ _ _ zo rfl ⟨k+1,zo,rfl,rfl,by rw[hrel,HD.o,zJ zo],bY hbel _⟩):P:=h
theorem qcv(h:P:=by exact hX.o _ _ _ zo rfl ⟨k+1,mk2,zo,rfl,rfl,HN2.o,HO2.o.1.aT hb2,HO2.o.2⟩):P:=h
theorem qhl(h:P:=by rw[aG v];clear v q1 HL;go_wp2;exact hR.o _ _ ⟨aP (by rw[HF.o]),HO1.o.aF⟩):P:=h
theorem qhm(h:P:=by rw[aG v'];clear v' HL1;go_wp2;exact hR.o _ _ ⟨aP (by rw[HF.o]),HO2.o.aF⟩):P:=h
theorem qhn(h:P:=by have h3:=wo (n:=n) hd;have:=h.cnt;exact⟨⟨h1.1,h2.1,zo⟩,h1.2,h2.2,zo⟩):P:=h
theorem qcz(h:P:=by all_goals exact hY.o _ _ rfl ⟨rfl,rfl⟩):P:=h
theorem qcA(h:P:=by obtain⟨d,k1,k2⟩:=Option.map_eq_some_iff.1 this;exact⟨d,k1,k2.symm⟩):P:=h
theorem qho(h:P:=by go_wp2;exact hY.o _ _ _ zo rfl ⟨j+1,zo,rfl,rfl,HA2.o,(HO.o.FN _).tail⟩):P:=h
theorem qcC(h:P:=by rw[getD_set_ne true hjk]at hun;exact hun):P:=h
theorem qcD(h:P:=by obtain⟨D,hD,h1⟩:=h.ex;exact⟨D,fun w b hb=>(hD w b hb).mono hn,h1⟩):P:=h
theorem qcE(h:P:=by exact⟨u,by rw[yK (by rw[h.len];omega)];exact h1,by rw[xM c];exact h2⟩):P:=h
theorem qcF(h:P:=by exact hY.o _ _ rfl ⟨rfl,hO7.bM.bM.bM⟩):P:=h
theorem qcH(h:P:=by simp only[zZ]at h;subst h;exact⟨by simp;omega,by simpa using h256⟩):P:=h
theorem qcI(h:P:=by rw[aN h];obtain⟨y,hy,h⟩:=h;exact List.any_eq_true.2 ⟨y,hy,aN h⟩):P:=h
theorem qcJ(h:P:=by obtain⟨q,-,hq⟩:=xW.1 hv;simp at hq;rcases hq with rfl|rfl<;>rfl):P:=h
theorem qcK(h:P:=by exact⟨_,0,zG _,rfl,rfl,Iff.rfl,HO.o⟩):P:=h
theorem qcL(h:P:=by exact hR.o _ _ ⟨_,rfl,HO5.o.aF,HC.o⟩):P:=h
theorem qcM(h:P:=by exact⟨_,_,hr,.inr ⟨rfl,mk2,_,⟨.exit id,L2,hi,rfl⟩,ho4,hm⟩⟩):P:=h
theorem qcN(h:P:=by rw[yN (by rw[h.len];omega)];simp[h.len]):P:=h
theorem qcO(h:P:=by have:f=g:=funext e;rw[<-this];exact h):P:=h
theorem qcP(h:P:=by have:=List.findIdx?_eq_none_iff.1 e x hx;rw[aN hh]at this;cases this):P:=h
theorem qcQ(h:P:=by go_wp2;exact hX.o _ _ _ zo rfl ⟨k+1,zo,rfl,by rw[Hst.o];rfl,HO.o⟩):P:=h
theorem qcR(h:P:=by exact⟨_,_,hr,.inr ⟨rfl,mk2,_,⟨.goto t,L2,hi,rfl⟩,ho4,hm⟩⟩):P:=h
theorem qcS(h:P:=by exact .inr (.inl h)):P:=h
theorem qcT(h:P:=by exact .inl (.inl h)):P:=h
theorem qcU(h:P:=by apply vF (by simp[e2]);intro i a b;simp):P:=h
theorem qhp(h:P:=by show bH [(⟨0,255,1⟩:Ed)] b=_;simp only[bH];rw[zK ⟨zG _,zo⟩]):P:=h
theorem qcW(h:P:=by exact⟨_,0,zG _,rfl,rfl,rfl,zR _ _⟩):P:=h
theorem qcX(h:P:=by clear hown;go_wp2;exact hR.o _ _ ⟨by rw[<-HT.o]<;>rfl,HB.o⟩):P:=h
theorem qhq(h:P:=by cases ho;exact aM rfl rfl (aS zg ⟨_,rfl,bY (zR _ _) _,dzC win⟩)):P:=h
theorem qhr(h:P:=by rw[List.reverse_cons,eH,yN (by rw[dN];simp),dN];simp[Nat.add_comm]):P:=h
theorem qhs(h:P:=by have:=IZ hfirst HW.o.2.2 z hz;simp[kI,ByteArray.size,maxLen];omega):P:=h
theorem qc7(h:P:=by exact⟨_,_,hr,.inr ⟨rfl,mk2,_,⟨.ret,L2,hi,rfl⟩,ho4,hm⟩⟩):P:=h
theorem qc8(h:P:=by exact List.prefix_append _ _):P:=h
theorem qgU(h:P:=by cases ho;exact aM rfl rfl (aS zg ⟨_,rfl,bY (zR _ _) _,Nv win⟩)):P:=h
theorem qc9(h:P:=by obtain⟨k',h1,h2⟩:=h.vals x hx;exact⟨k',yP.2 (.inl h1),h2⟩):P:=h
theorem qda(h:P:=by exact hR.o _ _ ⟨_,rfl,HO2.o.aF,HE3.o (H1.o zo) (H2.o zo) zD⟩):P:=h
theorem qht(h:P:=by intro s hs;simp only[OE,zZ]at hs;subst hs;exact⟨xU _,xU _⟩):P:=h
theorem qdc(h:P:=by refine and_congr_right fun hv=>?_;simp only[hv,true_and];omega):P:=h
theorem qdd(h:P:=by obtain⟨k',h1,h2⟩:=yD.1 this;rw[<-h2];exact hc.sets k' h1):P:=h
theorem qde(h:P:=by go_wp2;exact hX.o _ _ _ zo rfl ⟨i+1,zo,rfl,rfl,HX2.o,HO.o⟩):P:=h
theorem qdf(h:P:=by exact⟨_,0,mk,zG _,rfl,rfl,fun j _ h=>absurd h (xY _),HO.o⟩):P:=h
theorem qhu(h:P:=by clear hc;go_wp2;exact hR.o _ _ ⟨aP (by rw[<-HC.o]),HB.o⟩):P:=h
theorem qdh(h:P:=by rw[Nat.mul_comm,Nat.mul_add_div zo,Nat.div_eq_of_lt zo];omega):P:=h
theorem qdi(h:P:=by exact⟨_,_,hr,.inl ⟨rfl,mk2,_,⟨L2,hi,rfl⟩,ho4,hm⟩⟩):P:=h
theorem qhv(h:P:=by exact hR.o _ _ ⟨aP (by rw[aG HZ2.o]),(HO2.o.1.aT hb2).aF⟩):P:=h
theorem qdk(h:P:=by exact hR.o _ _ ⟨by rw[aG HR.o]<;>rfl,(HO.o.aT hb2).aF⟩):P:=h
theorem qdl(h:P:=by exact .inl (.inl (.inr h))):P:=h
theorem qdm(h:P:=by exact .inl (.inl (.inl h))):P:=h
theorem qdn(h:P:=by simp only[yO];omega):P:=h
theorem qdo(h:P:=by injection e with e;exact⟨gb,e⟩):P:=h
theorem qhw(h:P:=by go_wp2;exact hR.o _ _ ⟨je (by rw[hrel,zQ zo];rfl),hbel⟩):P:=h
theorem qdq(h:P:=by exact .inr (.inr h)):P:=h
theorem qdr(h:P:=by obtain⟨x,y,-,h4,-,h5⟩:=h3.v;exact⟨⟨x,h4⟩,y,h5⟩):P:=h
theorem qds(h:P:=by all_goals exact hR.o _ _ ⟨by rw[aG HR.o]<;>rfl,HB.o⟩):P:=h
theorem qdt(h:P:=by split<;>split<;>omega):P:=h
theorem qdu(h:P:=by simp only;omega):P:=h
theorem qdv(h:P:=by rw[zY]at hk;simp[results,hf,asAddr,hk,hr,Result.andThen]):P:=h
theorem qhy(h:P:=by exact hR.o _ _ ⟨aP (by rw[aG HX.o]),(HO.o.aT hb2).aF⟩):P:=h
theorem qhz(h:P:=by exact hR.o _ _ ⟨aP (by rw[aG HX.o]),(HO.o.aT hb1).aF⟩):P:=h
theorem qhA(h:P:=by rintro e w' ⟨rfl,rfl⟩;exact⟨none,0,rfl,h.fE _ _⟩):P:=h
theorem qhB(h:P:=by go_wp2;exact hR.o _ _ ⟨aP (by rw[aG HX2.o]),HO.o.aF⟩):P:=h
theorem qdC(h:P:=by exact hR.o _ _ ⟨by rw[HL.o]<;>rfl,(hO3.aT hb3).aF⟩):P:=h
theorem qhC(h:P:=by have:=congrArg BR h;rw[(ru _).1,(ru _).1]at this;omega):P:=h
theorem qdE(h:P:=by go_wp2;exact hR.o _ _ ⟨by rw[aN HR.o]<;>rfl,HB.o⟩):P:=h
theorem qhD(h:P:=by go_wp2;exact hR.o _ _ ⟨aP (by rw[aG HX.o]),HO.o.aF⟩):P:=h
theorem qhE(h:P:=by go_wp2;exact hR.o _ _ ⟨aP (by rw[HX.o,HA2.o]),HB.o⟩):P:=h
theorem qhF(h:P:=by exact⟨v,s,e,hv.mono zo,by rw[zx hv.ht zo];exact hb⟩):P:=h
theorem qdI(h:P:=by rintro rfl;exact aC zk hj):P:=h
theorem qdJ(h:P:=by intro h;simp[h]at hlt):P:=h
theorem qdM(h:P:=by unfold maxLen;omega):P:=h
theorem qdL(h:P:=by simpa using hu):P:=h
theorem qdN(h:P:=by simp[Value.oneCell']):P:=h
theorem qdK(h:P:=by go_simp;first|exact⟨rfl,rfl⟩|rfl):P:=h
theorem qdO(h:P:=by go_simp;first|done|exact⟨rfl,rfl⟩|rfl):P:=h
theorem qdP(h:P:=by simpa using hj):P:=h
theorem qdQ(h:P:=by simp;omega):P:=h
theorem qdS(h:P:=by rw[e2];exact i.isLt):P:=h
theorem qdR(h:P:=by simpa using hl):P:=h
theorem qdT(h:P:=by simpa using hl2):P:=h
theorem qdU(h:P:=by simpa using hl1):P:=h
theorem qdV(h:P:=by intro h;simp[h]at hlt'):P:=h
theorem qdW(h:P:=by intro h;have:=HVL.o;rw[h]at this;simp at this;omega):P:=h
theorem qhG(h:P:=by simpa using sW):P:=h
theorem qd1(h:P:=by simp[results,results53,go_sem,k0,k1,k2,k3,k4]):P:=h
theorem qd2(h:P:=by simp at hd;rcases hd with rfl|rfl|rfl|rfl<;>kernel_rfl):P:=h
theorem qd5(h:P:=by simpa using h):P:=h
theorem qd4(h:P:=by simp[hx]):P:=h
theorem qd7(h:P:=by intro h;simp[h]at hlt2):P:=h
theorem qd9(h:P:=by obtain⟨y,e,h⟩:=hv1;exact⟨y,e,h.le le3⟩):P:=h
theorem qhH(h:P:=by rintro rfl;exact sZ zk hj):P:=h
theorem qed(h:P:=by simp at hd;subst hd;kernel_rfl):P:=h
theorem qee(h:P:=by simp at hd;rcases hd with rfl;kernel_rfl):P:=h
theorem qef(h:P:=by simp[hy]):P:=h
theorem qeg(h:P:=by rw[h]at hr;cases hr):P:=h
theorem qd8(h:P:=by simp at hd;omega):P:=h
theorem qdY(h:P:=by have:=HEL0.o;omega):P:=h
theorem qeh(h:P:=by have:=Hxy.o;omega):P:=h
theorem qei(h:P:=by intro h;simp[h]at hs):P:=h
theorem qeb(h:P:=by go_simp):P:=h
theorem qec(h:P:=by simpa using hi):P:=h
theorem qek(h:P:=by simp[hl]):P:=h
theorem qdX(h:P:=by simp[results,results91,go_sem,g6,g7]):P:=h
theorem qel(h:P:=by rw[<-HCF.o];exact hcd):P:=h
theorem qem(h:P:=by simp[results,results124,go_sem,g4]):P:=h
theorem qen(h:P:=by simpa using hlD):P:=h
theorem qeo(h:P:=by intro h;rw[h]at hkt;simp at hkt):P:=h
theorem qep(h:P:=by simpa using h2):P:=h
theorem qeq(h:P:=by simp[hz]):P:=h
theorem qhJ(h:P:=by have:=H.AC;omega):P:=h
theorem qd6(h:P:=by simp at hd;rcases hd with rfl|rfl<;>kernel_rfl):P:=h
theorem qes(h:P:=by simpa using lc2):P:=h
theorem qet(h:P:=by simp[results,results61,go_sem,k0,k1,k2,k3,k4,k5]):P:=h
theorem qeu(h:P:=by simp[hk]):P:=h
theorem qhK(h:P:=by simp[Az]):P:=h
theorem qew(h:P:=by show j<out.length;omega):P:=h
theorem qex(h:P:=by rw[HX.o]):P:=h
theorem qey(h:P:=by intro h;simp[h]at hlt3):P:=h
theorem qez(h:P:=by simpa using hk):P:=h
theorem qeA(h:P:=by simpa using h3):P:=h
theorem qeB(h:P:=by rw[aG ev];simp):P:=h
theorem qeC(h:P:=by intro h;simp[h]at h0):P:=h
theorem qeD(h:P:=by simpa using c):P:=h
theorem qeE(h:P:=by simp[h]):P:=h
theorem qeF(h:P:=by cases h):P:=h
theorem qeG(h:P:=by simp[opC]):P:=h
theorem qeH(h:P:=by rw[h];rfl):P:=h
theorem qeJ(h:P:=by simp[Lib.byteCells,ByteArray.size];omega):P:=h
theorem qeK(h:P:=by rw[hb];omega):P:=h
theorem qeL(h:P:=by rw[e2];exact y.isLt):P:=h
theorem qeM(h:P:=by rw[e2];exact x.isLt):P:=h
theorem qeN(h:P:=by rw[ih.len];exact c):P:=h
theorem qeO(h:P:=by simp[la,lb]):P:=h
theorem qhL(h:P:=by simpa using qw hj):P:=h
theorem qhM(h:P:=by simpa using kQ hj):P:=h
theorem qeR(h:P:=by simpa using hlD'):P:=h
theorem qeS(h:P:=by simp[results,results103,go_sem,g1]):P:=h
theorem qeT(h:P:=by rw[hsz];exact hl):P:=h
theorem qeU(h:P:=by have:=HL.o;omega):P:=h
theorem qeV(h:P:=by simp[results,results90,go_sem,g4]):P:=h
theorem qeW(h:P:=by simpa using hlt):P:=h
theorem qeX(h:P:=by simp[results,results240,go_sem]):P:=h
theorem qeY(h:P:=by simp[results,results191,go_sem]):P:=h
theorem qeZ(h:P:=by simp[hl2]):P:=h
theorem qeI(h:P:=by rw[e];rfl):P:=h
theorem qe0(h:P:=by intro j u hj;rw[Addr.add_lit,yZ];exact HO8.o.obj.cell qdP):P:=h
theorem qe1(h:P:=by intro j u hj;rw[Addr.add_lit,yZ];exact hO7.obj.cell qdP):P:=h
theorem qe2(h:P:=by intro j u hj;rw[Addr.add_lit,yZ];exact HO7.o.obj.cell qdP):P:=h
theorem qe3(h:P:=by intro j u hj;rw[Addr.add_lit,yZ];exact HO4.o.obj.cell qdP):P:=h
theorem qe4(h:P:=by intro j u hj;rw[Addr.add_lit,yZ];exact HO1.o.obj.cell qdP):P:=h
theorem qe5(h:P:=by intro j u hj;rw[Addr.add_lit,yZ];exact HO.o.obj.cell qdP):P:=h
theorem qio(h:P:=by exact ax rfl fun w' hS'=>by have q:=Hcvf.o _ hS';have q1:=Hx3.o _ hS';have q2:=bzu hS' (bzv hle3 x3);have q3:=bzu hS' (bzv Hst.o.2.2.2 HE.o.cv);go_simp;rfl):P:=h
theorem qe7(h:P:=by exact fun _ _ _ h=>h):P:=h
theorem qip(h:P:=by exact ax rfl fun w' hS'=>by have p1:=hS'.1.cell (i:=7) rfl;have p2:=hS'.1.lt;have p3:=azk hS'.2 C7;have p4:=bzu hS'.2 C7;have p5:=azk hS'.2 U0;have p6:=azk hS'.2 U1;have p7:=bzu hS'.2 U0;go_simp;first|done|rfl):P:=h
theorem qiq(h:P:=by exact ax rfl fun w' hS'=>by have q:=hS'.2.1;have q1:=hS'.2.2;have q2:=azk hS'.1 hca;have q3:=bzu hS'.1 hca;go_simp;rfl):P:=h
theorem qir(h:P:=by exact ax rfl fun w' hS'=>by have p1:=hS'.1.cell (i:=8) rfl;have p2:=hS'.1.lt;have p3:=azk hS'.2.2 C8;have p4:=bzu hS'.2.2 C8;have p5:=azk hS'.2.2 U0;have p6:=azk hS'.2.2 U1;have p7:=bzu hS'.2.2 U0;have p8:=hS'.2.1.cell (i:=0) rfl;have p9:=hS'.2.1.cell (i:=1) rfl;go_simp;first|done|rfl):P:=h
theorem qis(h:P:=by exact ax rfl fun w' hS'=>by have p1:=hS'.1.cell (i:=1) rfl;have p2:=hS'.1.lt;have p3:=azk hS'.2 C8';have p4:=bzu hS'.2 C8';have p5:=azk hS'.2 U1';have p6:=bzu hS'.2 U1';have p7:=bzu hS'.2 H0;go_simp;first|done|rfl):P:=h
theorem qit(h:P:=by exact ax rfl fun w' hS'=>by have p7:=hS'.1.cell n7;have pl:=hS'.1.lt;have p1:=azk hS'.2 HX.o.1;have p2:=azk hS'.2 HX.o.2;have p3:=bzu hS'.2 HX.o.1;go_simp;first|done|rfl):P:=h
theorem qfe(h:P:=by exact ax rfl fun w' hS'=>by have p1:=hS'.1.cell (i:=1) rfl;have p2:=hS'.1.lt;have p3:=hS'.2.1.cell H0;have p4:=hS'.2.1.lt;have p5:=hS'.2.2.1;have p6:=hS'.2.2.2;go_simp;first|done|rfl):P:=h
theorem qfg(h:P:=by exact fun j w' hj hd=>hd qdI):P:=h
theorem qfi(h:P:=by exact fun j w' hj hd=>hd qdI qdI qdI):P:=h
theorem qfj(h:P:=by exact ax rfl fun w' hS'=>by go_simp;rfl):P:=h
theorem qfk(h:P:=by exact ax rfl fun w' hS'=>by have q:=hS'.1.cell (i:=0) rfl;have q1:=hS'.2.cell (i:=0) rfl;have q2:=hS'.2.cell (i:=1) rfl;go_simp;rfl):P:=h
theorem qfl(h:P:=by exact ax rfl fun w' hS'=>by have p1:=hS'.1.cell (i:=1) rfl;have p2:=hS'.1.lt;have p3:=hS'.2.1.cell H0;have p4:=hS'.2.1.lt;go_simp;first|done|rfl):P:=h
theorem qfn(h:P:=by exact ax rfl fun w' _=>by go_simp;first|done|rfl):P:=h
theorem qfo(h:P:=by exact fun j w' hj hd=>trivial):P:=h
theorem qhN(h:P:=by exact zi (fun j u=>@ku d x y j u) (fun j u=>@nP d x y j u)):P:=h
theorem qfr(h:P:=by exact ax rfl fun w' hS'=>by have q:=hS'.2.1;have q1:=hS'.2.2;go_simp;rfl):P:=h
theorem qiu(h:P:=by exact bzw HM.o.1 hO.az):P:=h
theorem qfw(h:P:=by exact fun j w' hj hd=>hd qdI qdI):P:=h
theorem qhP(h:P:=by exact ax rfl fun w' hS'=>jI.exec rfl zg lb hS'.1.all):P:=h
theorem qhQ(h:P:=by exact ax rfl fun w' hS'=>jI.exec rfl zg la hS'.2.all):P:=h
theorem qhS(h:P:=by exact zi hO2.aF (zi (bq hO2.done hst) (zi hlang hClen))):P:=h
theorem qhT(h:P:=by exact ax rfl fun w' hS'=>jA rfl zg zg (ED la lb w')):P:=h
theorem qhU(h:P:=by exact ax rfl fun w' _=>jA rfl zg zg (Jt lT1 lT2 w')):P:=h
theorem qhV(h:P:=by exact nk l l' k hlt hlt'):P:=h
theorem qfG(h:P:=by exact zi hO4.aF (zi (hs.le hO4.done) (zi hS hL))):P:=h
theorem qiv(h:P:=by exact zi (bzx (w:=w3) hO2.az) hcs):P:=h
theorem qhW(h:P:=by exact uh C l l' k hlt hlt'):P:=h
theorem qhX(h:P:=by exact qN (n:=0) HM.o.1.at'):P:=h
theorem qhY(h:P:=by exact zu win zS (zI _) zo o1 rfl):P:=h
theorem qfO(h:P:=by exact dz results55 rfl hr):P:=h
theorem qhZ(h:P:=by exact bY (zR _ _) _):P:=h
theorem qh0(h:P:=by exact jP (k:=1) zS zS):P:=h
theorem qh1(h:P:=by exact wY C l l' _ (zI _)):P:=h
theorem qh2(h:P:=by exact uj C l l' k hlt zo):P:=h
theorem qiw(h:P:=by exact ax rfl fun w' hS'=>by have p1:=bzu hS' D0;go_simp;first|done|rfl):P:=h
theorem qfv(h:P:=by exact zi hO2.aF (zi (hn.le hO2.done) hf)):P:=h
theorem qix(h:P:=by exact bzy (m:=m) hO.obj (i:=i) (v:=u) hi):P:=h
theorem qh3(h:P:=by exact qK (k:=2) fun x hx=>by rw[List.eq_of_mem_replicate hx];exact zI _):P:=h
theorem qft(h:P:=by exact ax rfl fun w' hS'=>by have q:=hS'.cell (i:=0) rfl;go_simp;rfl):P:=h
theorem qh5(h:P:=by exact zi (fun j u=>@ku d' x' y' j u) (fun j u=>@nP d' x' y' j u)):P:=h
theorem qh6(h:P:=by exact pg (wu n) d d' x y x' y' m _ hO.az h1 h2 h1' h2' kd kd'):P:=h
theorem qh7(h:P:=by exact zi hO2.aF (bq hO2.done hst)):P:=h
theorem qh8(h:P:=by exact iZ h1.valid 14):P:=h
theorem qgc(h:P:=by exact ax rfl fun w' hS'=>by have q:=hS'.cell H1;go_simp;rfl):P:=h
theorem qiy(h:P:=by exact bzv hle HS.o.2.2.2):P:=h
theorem qgd(h:P:=by exact zi hO.aF hfin):P:=h
theorem qh9(h:P:=by exact vP w.heap.size w.heap.size _ _ _ hB1 qeJ hb3.size):P:=h
theorem qia(h:P:=by exact zi hO7.av.obj hO7.aR.obj):P:=h
theorem qfR(h:P:=by exact zi hO.aF (hr.le hO.done)):P:=h
theorem qib(h:P:=by exact jD _ _ _ _ mk2 _ hO6.az ⟨p2,bS l2 p1⟩ zS zS):P:=h
theorem qgi(h:P:=by exact zi k1 (zi k2 k3)):P:=h
theorem qiz(h:P:=by exact bzw HLE.o hO6.az):P:=h
theorem qiA(h:P:=by exact bzv hO.ext.le hu):P:=h
theorem qic(h:P:=by exact qN (n:=0) HM.o.2.1.at'):P:=h
theorem qid(h:P:=by exact wZ n _ _ hp.s2 hq.s2 hp.c2 hq.c2 h1.2 h2.2):P:=h
theorem qie(h:P:=by exact wZ n _ _ hp.s1 hq.s1 hp.c1 hq.c1 h1.1 h2.1):P:=h
