/- Short words. -/
import Derived.Test.YtbbnjopkjbhpbaaGreatDoorProg
import Derived.WalkKit
import Derived.Lib.Hide
open Go Go.RowKit Go.Proofs
theorem zo {P : Prop} (h : P := by omega) : P := h
theorem zk {P : Prop} (h : P := by kernel_rfl) : P := h
theorem zS {P : Prop} (h : P := by simp) : P := h
theorem zD {P : Prop} (h : P := by decide) : P := h
theorem zg {P : Prop} (h : P := by go_simp; first | done | rfl) : P := h
theorem zh {P : Prop} (h : P) : Hid P := h
theorem zi {P Q : Prop} (x : P) (y : Q) : P ∧ Q := ⟨x, y⟩
theorem zA {P : Prop} (h : P := by assumption) : P := h
theorem zF : type_of% @List.getElem_mem := @List.getElem_mem
theorem zG : type_of% @Nat.zero_le := @Nat.zero_le
theorem zH : type_of% @List.take_succ_eq_append_getElem := @List.take_succ_eq_append_getElem
theorem zI : type_of% @Nat.le_refl := @Nat.le_refl
theorem zJ : type_of% @if_neg := @if_neg
theorem zK : type_of% @if_pos := @if_pos
theorem zL : type_of% @List.length_append := @List.length_append
theorem zM : type_of% @decide_eq_false := @decide_eq_false
theorem zN : type_of% @decide_eq_true := @decide_eq_true
theorem zO : type_of% @beq_eq_false_iff_ne := @beq_eq_false_iff_ne
theorem zP : type_of% @Classical.byContradiction := @Classical.byContradiction
theorem zQ : type_of% @List.drop_eq_nil_of_le := @List.drop_eq_nil_of_le
theorem zR : type_of% @Below.refl := @Below.refl
theorem zT : type_of% @Int.eq_ofNat_of_zero_le := @Int.eq_ofNat_of_zero_le
theorem zU : type_of% @List.mem_cons_of_mem := @List.mem_cons_of_mem
theorem zY : type_of% @Array.getD_eq_getD_getElem? := @Array.getD_eq_getD_getElem?
theorem zZ : type_of% @List.mem_singleton := @List.mem_singleton
theorem yA : type_of% @List.mem_cons := @List.mem_cons
theorem yB : type_of% @List.getElem?_eq_some_iff := @List.getElem?_eq_some_iff
theorem yC : type_of% @Array.getElem?_eq_some_iff := @Array.getElem?_eq_some_iff
theorem yD : type_of% @List.mem_map := @List.mem_map
theorem yE : type_of% @List.drop_eq_getElem_cons := @List.drop_eq_getElem_cons
theorem yF : type_of% @List.mem_cons_self := @List.mem_cons_self
theorem yG : type_of% @List.take_length := @List.take_length
theorem yH : type_of% @List.getElem?_eq_getElem := @List.getElem?_eq_getElem
theorem yI : type_of% @List.map_append := @List.map_append
theorem yJ : type_of% @Nat.le_trans := @Nat.le_trans
theorem yK : type_of% @List.getElem?_append_left := @List.getElem?_append_left
theorem yL : type_of% @List.map_cons := @List.map_cons
theorem yM : type_of% @List.eq_nil_of_length_eq_zero := @List.eq_nil_of_length_eq_zero
theorem yN : type_of% @List.getElem?_append_right := @List.getElem?_append_right
theorem yO : type_of% @List.length_cons := @List.length_cons
theorem yP : type_of% @List.mem_append := @List.mem_append
theorem yQ : type_of% @List.mem_range := @List.mem_range
theorem yR : type_of% @List.append_nil := @List.append_nil
theorem yS : type_of% @List.pairwise_cons := @List.pairwise_cons
theorem yT : type_of% @List.mem_iff_getElem := @List.mem_iff_getElem
theorem yU : type_of% @List.getD_eq_getElem?_getD := @List.getD_eq_getElem?_getD
theorem yV : type_of% @bodyPost_ret := @bodyPost_ret
theorem yX : type_of% @List.getElem_of_mem := @List.getElem_of_mem
theorem yY : type_of% @List.length_pos_iff := @List.length_pos_iff
theorem yZ : type_of% @Nat.zero_add := @Nat.zero_add
theorem xA : type_of% @Option.getD_some := @Option.getD_some
theorem xB : type_of% @List.map_nil := @List.map_nil
theorem xC : type_of% @List.length_map := @List.length_map
theorem xD : type_of% @List.append_assoc := @List.append_assoc
theorem xE : type_of% @ByteArray.toList_eq := @ByteArray.toList_eq
theorem xG : type_of% @Bool.and_eq_true := @Bool.and_eq_true
theorem xH : type_of% @List.take_of_length_le := @List.take_of_length_le
theorem xI : type_of% @List.mem_append_left := @List.mem_append_left
theorem xJ : type_of% @List.length_eq_zero_iff := @List.length_eq_zero_iff
theorem xK : type_of% @List.cons_append := @List.cons_append
theorem xL : type_of% @List.getElem_cons_zero := @List.getElem_cons_zero
theorem xM : type_of% @List.getElem_append_left := @List.getElem_append_left
theorem xN : type_of% @List.nil_append := @List.nil_append
theorem xO : type_of% @List.flatMap_cons := @List.flatMap_cons
theorem xP : type_of% @Nat.lt_of_lt_of_le := @Nat.lt_of_lt_of_le
theorem xQ : type_of% @List.getElem_map := @List.getElem_map
theorem xR : type_of% @List.mem_filter := @List.mem_filter
theorem xS : type_of% @List.mem_append_right := @List.mem_append_right
theorem xU : type_of% @Int.le_refl := @Int.le_refl
theorem xV : type_of% @Nat.mul_le_mul := @Nat.mul_le_mul
theorem xW : type_of% @List.mem_flatMap := @List.mem_flatMap
theorem xX : type_of% @List.mem_of_mem_take := @List.mem_of_mem_take
theorem xY : type_of% @Nat.not_lt_zero := @Nat.not_lt_zero
theorem xZ : type_of% @List.map_congr_left := @List.map_congr_left
theorem vB : type_of% @List.length_filter_le := @List.length_filter_le
theorem vC : type_of% @List.getElem?_eq_none := @List.getElem?_eq_none
theorem vD : type_of% @List.all_eq_true := @List.all_eq_true
theorem vE : type_of% @List.map_map := @List.map_map
theorem vF : type_of% @List.ext_getElem := @List.ext_getElem
theorem vG : type_of% @List.sum_cons := @List.sum_cons
theorem vH : type_of% @Option.map_some := @Option.map_some
abbrev zt (a : Act) (s : Nat) (v : Value) : Prop := a.tmps.getD s undef = v
abbrev zC (f : FuncId) (x : Array Value) (w : World) (X : Ending → World → Prop) : Prop := Calls Tryz.prog f x w X
abbrev zX (f : FuncId) (x : Array Value) (w : World) (v : Value) : Prop := Calls Tryz.prog f x w fun e w' => e = .returned v ∧ Below w.heap.size w w'
abbrev zW := World
abbrev zV := Value
abbrev zB (w w' : World) : Prop := Below w.heap.size w w'
theorem Go.RowKit.Hid.o {p : Prop} (h : Hid p) : p := h
theorem Go.RowKit.Hid.p {α β : Sort _} {P Q : α → β → Prop} (h : Hid (∀ a b, P a b → Q a b)) {a : α} {b : β} (x : P a b) : Q a b := h a b x
variable {P:Prop}
theorem qaa(h:P:=by cases ho;exact wv rfl rfl rfl):P:=h
theorem qab(h:P:=by rintro e w' ⟨rfl,hb⟩;exact⟨_,rfl,_,rfl,hb,rfl⟩):P:=h
theorem qac(h:P:=by have e28:a.tmps.getD 28 undef=_:=RA.d 2 rfl;cases ho;exact wn rfl rfl rfl e28 rfl rfl):P:=h
theorem qad(h:P:=by have e7:a.tmps.getD 7 undef=_:=RA.d 4 rfl;cases ho;exact wy rfl rfl rfl e7 rfl):P:=h
theorem qae(h:P:=by have e27:a.tmps.getD 27 undef=_:=RA.d 24 rfl;cases ho;exact wn rfl rfl rfl e27 rfl rfl):P:=h
theorem qgw(h:P:=by have e13:a.tmps.getD 13 undef=_:=RA.d 10 rfl;cases ho;refine we2 rfl rfl rfl e13 (AO m wr HO2.ay) ?_;rintro e w' ⟨ui,uf,ut,rfl,hb,hs⟩;exact⟨_,rfl,_,rfl,hb,fO (R:=fun M u=>∃ui uf ut,u=lV.val ui uf ut/\dD M ui uf ut lV) (fun k _ ⟨a,b,c,e,h⟩=>⟨a,b,c,e,h.le k⟩) HO2.ay hb ⟨_,_,_,rfl,hs⟩⟩):P:=h
theorem qah(h:P:=by have e28:a.tmps.getD 28 undef=_:=RA.d 2 rfl;cases ho;exact wy rfl rfl rfl e28 rfl):P:=h
theorem qgx(h:P:=by have hZ:=HO.o.dr.aS E.az;obtain⟨t1,d⟩:=a;obtain rfl:d=[]:=E.defers;refine dX 31 zk (aJ rfl rfl (aO (by go_simp;first|done|exact⟨rfl,rfl⟩|rfl) ?_));refine dx zk (hY.o _ _ (by simpa using E.size) ⟨?_,hZ.az⟩) _;have hsz:t1.size=34:=E.size;simp[hsz]at e33;simp[hsz]):P:=h
theorem qgy(h:P:=by rintro e w' ⟨he,d',q,os,h1,h2,rfl⟩;obtain⟨k1,k2⟩:=wV hC hp hn h1 h2;refine⟨he,_,?_,by have:=sort_own' _ hk zo h' d' (by rw[hsz];exact k1) q os;rw[hsz]at this;exact this⟩;rw[<-k2];refine⟨d'.toList.map _,rfl,zS,fun i a b=>?_⟩;simp only[xQ];exact e3 _ _ _):P:=h
theorem qgz(h:P:=by have e4:=RA.k 4;cases ho;refine aJ rfl rfl (aO (dU.exec (b:=w.heap.size+1) (off:=0) rfl zg l1 (fun j u hj=>by rw[yZ];exact HCB.o _ HO8.ay j u hj)) ⟨_,rfl,zR _ _,rfl⟩)):P:=h
theorem qgA(h:P:=by have e3:=RA.k 3;cases ho;refine aJ rfl rfl (aO (dU.exec (b:=w.heap.size) (off:=0) rfl zg l0 (fun j u hj=>by rw[yZ];exact HCA.o _ HO8.ay j u hj)) ⟨_,rfl,zR _ _,rfl⟩)):P:=h
theorem qan(h:P:=by clear HL;go_wp2;exact hR.o _ _ ⟨by rw[HL2.o]<;>rfl,HB.o⟩):P:=h
theorem qak(h:P:=by go_wp2;exact hR.o _ _ ⟨rfl,HB.o⟩):P:=h
theorem qgB(h:P:=by simp only[yA,forall_eq_or_imp];exact⟨fun k hk=>by simp only[bA.blk,Option.some.injEq]at hk;subst hk;exact hf,fun it hi=>h.iA it (zU _ hi)⟩):P:=h
theorem qao(h:P:=by exact hR.o _ _ ⟨rfl,HB.o⟩):P:=h
theorem qgC(h:P:=by have e14:a.tmps.getD 14 undef=_:=RA.d 11 rfl;have e13:a.tmps.getD 13 undef=_:=RA.d 10 rfl;cases ho;refine fH rfl (eX rfl rfl e13) (aO (wQ.exec (cs:=[n1,n2,n3,n4,n5,n6]) rfl zg rfl q1) ⟨_,rfl,zR _ _,rfl⟩)):P:=h
theorem qgD(h:P:=by have e17:a.tmps.getD 17 undef=_:=RA.d 14 rfl;have e13:a.tmps.getD 13 undef=_:=RA.d 10 rfl;cases ho;refine fH rfl (eX rfl rfl e13) (aO (by go_simp;first|done|rfl|exact hd) ⟨_,rfl,zR _ _,rfl⟩)):P:=h
theorem qat(h:P:=by have e20:a.tmps.getD 20 undef=_:=RA.d 17 rfl;cases ho;exact wy rfl rfl rfl e20 rfl):P:=h
theorem qau(h:P:=by exact⟨_,0,zG _,rfl,rfl,fun j hj h=>absurd h (xY _),HO.o⟩):P:=h
theorem qgE(h:P:=by intro win a wr E;have e70:a.tmps.getD 70 undef=.bool true:=E.fact 14 _ zo rfl;have hZ:=HO7.o.dr.aS E.az;obtain⟨t1,dd⟩:=a;obtain rfl:dd=[]:=E.defers;refine dX 15 zk (aJ rfl rfl (aO (by go_simp;first|done|exact⟨rfl,rfl⟩|rfl) ?_));refine dx zk (hY.o _ _ (by simpa using E.size) ⟨?_,hZ⟩) _;have hsz:t1.size=71:=E.size;simp[hsz]at e70;simp[hsz]):P:=h
theorem qgF(h:P:=by intro win a wr E;have e12:a.tmps.getD 12 undef=.int .i64 rr:=E.fact 6 _ zo rfl;have hZ:=HO.o.dr.aS E.az;obtain⟨t1,d⟩:=a;obtain rfl:d=[]:=E.defers;refine dX 7 zk (aJ rfl rfl (aO (by go_simp;first|done|exact⟨rfl,rfl⟩|rfl) ?_));refine dx zk (hY.o _ _ (by simpa using E.size) ⟨?_,hZ.az⟩) _;have hsz:t1.size=13:=E.size;simp[hsz]at e12;simp[hsz]):P:=h
theorem qgG(h:P:=by intro jump W3 mk2 L2 h3;have h4:=h3.perm (uy _ _ L2 Lr).symm;have hl3:=h4.gT;have hr:=run_endRound (P:=P) jump hl3;refine⟨_,hr,?_⟩;have:=h4.jU (o':=.loop { rec .ready none with state:=if jump.isNone then .ready else .done,pending:=jump }) (World.putObj_heap_same (yC.1 hl3).1) (grownBy_putObj' _ _ _);rw[hrec]at this⊢;exact this):P:=h
theorem qgH(h:P:=by refine⟨_,rfl,.inr (Mem_inn_le (Mem.le_trans hle7 k3) k2.ay),?_⟩;go_simp;refine bg 16 zk (aJ rfl rfl (aO (by go_simp;first|done|exact⟨rfl,rfl⟩|rfl) ⟨.inl rfl,?_⟩));refine gM zk ?_ _;refine hV.o _ _ rfl ⟨false,mk5,Lt5,rfl,Mem.le_trans hle7 k3,k2,fun _=>?_,fun h=>by cases h⟩;rw[HDn.o b hb1,<-xD,Ht.o];exact k1):P:=h
theorem qgI(h:P:=by exact hR.o _ _ ⟨rfl,(HO.o.aS hb1).az⟩):P:=h
theorem qgJ(h:P:=by refine⟨_,rfl,.inr (Mem_inn_le (Mem.le_trans hle7 k4) k3.ay),?_⟩;go_simp;refine bg 16 zk (aJ rfl rfl (aO (by go_simp;first|done|exact⟨rfl,rfl⟩|rfl) ⟨.inl rfl,?_⟩));refine gM zk ?_ _;exact hV.o _ _ rfl ⟨true,mk5,Lt5,rfl,Mem.le_trans hle7 k4,k3,(fun h=>by cases h),fun _=>⟨qq,k0,by rw[Ht.o];exact k1,k2⟩⟩):P:=h
theorem qgK(h:P:=by have HL:=zh (show l=l' from Hrel.o.2 (by rw[zQ zo,zQ (by rw[<-Hlen.o];omega)]));have HB:=zh hO.az;clear hO hX;go_wp2;exact hR.o _ _ ⟨aR (by rw[aM HL.o]),HB.o⟩):P:=h
theorem qgL(h:P:=by have hd:(r != 0)=true:=bne_iff_ne.2 he;have HB:=zh (zi (HL1.o he) (hO3.aS hb3).az);clear HL0 HL1 he hX hO3;go_wp2;exact hR.o _ _ ⟨by rw[HB.o.1]<;>rfl,HB.o.2⟩):P:=h
theorem qaD(h:P:=by have e20:a.tmps.getD 20 undef=_:=RA.d 17 rfl;cases ho;exact wn rfl rfl rfl e20 rfl rfl):P:=h
theorem qgM(h:P:=by refine HF.o.mono ?_;rintro e w1 ⟨rfl,hb1⟩;have HO1:=zh (HO.o.aS hb1);clear HO HF hb1;go_wp2;exact hX.o _ _ _ zo rfl ⟨k+1,zo,rfl,rfl,HN2.o,HO1.o⟩):P:=h
theorem qgN(h:P:=by go_wp2;exact hR.o _ _ ⟨most+1,rfl,HO.o.az,.over h0⟩):P:=h
theorem qgO(h:P:=by have hl3:=ho.gT;have hO4:=ho.jU (o':=.loop { rec .done (some c)with state:=.exhausted }) (World.putObj_heap_same (yC.1 hl3).1) (grownBy_putObj' _ _ _);refine⟨some c,_,?_,hstop D c xs _ mk2 L hS hI hO4.tail hm⟩;have:=run_endLoop (P:=P) hl3 (by rw[hrec];simp);rw[this,hrec]):P:=h
theorem qgP(h:P:=by have hl3:=ho.gT;have hO4:=ho.jU (o':=.loop { rec .ready none with state:=.exhausted }) (World.putObj_heap_same (yC.1 hl3).1) (grownBy_putObj' _ _ _);refine⟨none,_,?_,hdone D xs _ mk2 L hS hI hO4.tail hm⟩;have:=run_endLoop (P:=P) hl3 (by rw[hrec];simp);rw[this,hrec]):P:=h
theorem qgQ(h:P:=by exact hX.o _ _ _ zo rfl ⟨k+1,zo,rfl,rfl,HL.o,(hO3.aS hb3).tail.tail⟩):P:=h
theorem qgR(h:P:=by have e42:a.tmps.getD 42 undef=_:=RA.d 6 rfl;cases ho;refine fH rfl (eX rfl rfl e42) (aO (kK.exec (b:=w.heap.size) (off:=0) rfl zg hN1 (fun j u hj=>by rw[yZ];exact HC.o _ (Mem_inn_le HLE.o HOX.ay) j u (by simpa using HD.o.1 j u hj))) ⟨_,rfl,zR _ _,rfl⟩)):P:=h
theorem qgS(h:P:=by have HL:=zh (UE fun j hj=>HA.o j hj zo);have HB:=zh hO.az;clear hO hX HA;go_wp2;exact hR.o _ _ ⟨by rw[HL.o]<;>rfl,HB.o⟩):P:=h
theorem qaL(h:P:=by exact hR.o _ _ ⟨rfl,hb1⟩):P:=h
theorem qaM(h:P:=by have e63:a.tmps.getD 63 undef=_:=RA.d 4 rfl;cases ho;exact wy rfl rfl rfl e63 rfl):P:=h
theorem qaN(h:P:=by have e42:a.tmps.getD 42 undef=_:=RA.d 6 rfl;cases ho;exact wy rfl rfl rfl e42 rfl):P:=h
theorem qgT(h:P:=by intro w' ho hg;have HF:=zh (HO.o.aW ho hg);have hr:=dU.load (cs:=oz.toList) rfl ho.all;clear HO hg ho;go_wp2;refine yV (v:=.tuple #[.agg oz,.bool false]) (ek results72 rfl hr) rfl ?_;exact hR.o _ _ ⟨HR.o,HF.o.az⟩):P:=h
theorem qgU(h:P:=by intro va vc w3 hown3 hgrow hrow3;have hO4:=(hO3.av.app hown3 hgrow hrow3 zS).bK;have Hfin:=zh hO4;clear hO4 hown3 hgrow hrow3 hO3;go_wp2;refine hY.o _ _ _ zo rfl ⟨q+1,_,zo,rfl,rfl,?_⟩;rw[Hsu.o];simpa using Hfin.o):P:=h
theorem qgV(h:P:=by intro va vc w2 ho2 hg2 hr2;have HO2:=zh (HO.o.aP.app ho2 hg2 hr2 zS).bK.bK;clear HO ho2 hg2 hr2 y0 y1 yl;go_wp2;exact hX.o _ _ _ zo rfl ⟨i+1,_,_,zo,rfl,rfl,by rw[HK2.o];exact HX2.o,by rw[HK2.o];simpa using HO2.o⟩):P:=h
theorem qgW(h:P:=by go_wp2;exact hX.o _ _ _ zo rfl ⟨i+1,zo,rfl,by rw[HS.o]<;>rfl,HO1.o.Fa _⟩):P:=h
theorem qgX(h:P:=by obtain⟨cs,-,-,⟨u,u2,rfl,h3,h4,-⟩,hc⟩:=hx.at' h;exact⟨u,u2,Mem_cell_le hM (dZ hown hg mk (hc 0 _ rfl)),Mem_cell_le hM (dZ hown hg mk (hc 1 _ rfl)),h3.le hm fun _ _ h=>h.le hm,h4.le hm fun _ _ h=>h.le hm⟩):P:=h
theorem qgY(h:P:=by have HB:=zh hO.az;clear hO hX HM;go_wp2;exact hR.o _ _ ⟨n,rfl,HB.o,HF.o⟩):P:=h
theorem qgZ(h:P:=by intro w' ho hg;have HF:=zh (HO.o.aW ho hg);have hr:=dU.load hl ho.all;clear HO hg ho HC;go_wp2;refine yV (v:=.tuple #[.agg D.toArray,.bool true]) (ek results72 rfl hr) rfl ?_;exact hR.o _ _ ⟨HR.o,HF.o.az⟩):P:=h
theorem qaX(h:P:=by go_wp2;refine yV (v:=.tuple #[]) (by simp[results,results101,go_sem]) rfl ?_;exact hR.o _ _ ⟨rfl,HO.o⟩):P:=h
theorem qg0(h:P:=by have HT:=zh (show ∀x∈l,∃y∈l',Q x y from fun x hx=>by obtain⟨j,hj,rfl⟩:=yX hx;exact HD.o j hj zo);have HB:=zh hO.az;clear hO hX HD hci hle;go_wp2;exact hR.o _ _ ⟨aR (by rw[aM HT.o]),HB.o⟩):P:=h
theorem qg1(h:P:=by rintro z1 vs w3-⟨rfl,hb⟩;simp[bB,lk];have HBB:=zh hb;clear hb;go_wp2;exact hR.o _ _ ⟨rfl,HBB.o⟩):P:=h
theorem qa0(h:P:=by exact⟨fun h0=>(by rw[hr']at h0;cases h0),fun j hj=>(by rw[hr']at hj;obtain rfl:=zZ.1 hj;exact h)⟩):P:=h
theorem qa1(h:P:=by exact hR.o _ _ ⟨s,_,_,_,rfl,Hk.o.1,Hk.o.2.1,Hk.o.2.2.1,Hk.o.2.2.2⟩):P:=h
theorem qg2(h:P:=by have e22:a.tmps.getD 22 undef=_:=RA.d 19 rfl;have e20:a.tmps.getD 20 undef=_:=RA.d 17 rfl;cases ho;refine fH rfl (eX rfl rfl e20) (aO (by go_simp;try (intro hh;omega)) ⟨_,rfl,zR _ _,rfl⟩)):P:=h
theorem qg3(h:P:=by go_wp2;refine hR.o _ _ ⟨aR ?_,hbel⟩;rw[aM (Hrel.o.2 ?_)];rw[zQ zo,zQ (by rw[<-Hlen.o];omega)]):P:=h
theorem qa4(h:P:=by exact hR.o _ _ ⟨by rw[HL.o]<;>rfl,HB.o⟩):P:=h
theorem qa5(h:P:=by have e1:=RA.k 1;have e13:a.tmps.getD 13 undef=_:=RA.d 10 rfl;cases ho;exact wy rfl rfl rfl e13 rfl):P:=h
theorem qg4(h:P:=by have e1:=RA.k 1;cases ho;refine aJ rfl rfl (aO (dU.exec (b:=w.heap.size) (off:=0) rfl zg hl (fun j u hj=>by rw[yZ];exact HC.o _ (Mem_inn_le HLE.o HOX.ay) j u hj)) ⟨_,rfl,zR _ _,rfl⟩)):P:=h
theorem qa7(h:P:=by exact hR.o _ _ ⟨_,rfl,Hfin.o.1,Hfin.o.2⟩):P:=h
theorem qg5(h:P:=by have HK2:=zh (HZ.o hne e1 (.inr e3));rw[aF e3];clear HN HZ e1 e3 hX2;go_wp2;exact hX.o _ _ _ zo rfl ⟨i+1,_,_,zo,rfl,rfl,by rw[HK2.o];exact HX.o,by rw[HK2.o];exact HO4.o.tail.tail⟩):P:=h
theorem qa9(h:P:=by go_wp2;refine⟨zS,.inl ⟨_,_,rfl,run_takeDeferred hbl,?_⟩⟩;exact⟨.slice xa xs.length xc,by simp[results,results117,go_sem],hR.o _ _ ⟨_,xs,rfl,Hk.o.1,Hk.o.2.1,Hk.o.2.2⟩⟩):P:=h
theorem qg6(h:P:=by simp only[yA,forall_eq_or_imp];exact⟨ho,fun it hi=>bA.oK (h.ok it (zU _ hi)) fun k hk=>hg.block k (bA.lt (h.ok it (zU _ hi)) hk) (fun e=>hap.1 it hi g rfl (by cases e;exact hk))⟩):P:=h
theorem qg7(h:P:=by go_wp2;exact hR.o _ _ ⟨aR (by rw[aF HX.o]),HB.o⟩):P:=h
theorem qbd(h:P:=by cases ho;exact wy rfl rfl rfl e63 rfl):P:=h
theorem qbe(h:P:=by have HK2:=zh (HZ.o hne e1 (.inl e2));clear HN HZ HQ2 e1 hX2;go_wp2;exact hX.o _ _ _ zo rfl ⟨i+1,_,_,zo,rfl,rfl,by rw[HK2.o];exact HX.o,by rw[HK2.o];exact HO3.o.tail.tail⟩):P:=h
theorem qaW(h:P:=by exact hR.o _ _ ⟨_,_,rfl,Hk.o.1,Hk.o.2⟩):P:=h
theorem qg8(h:P:=by exact hR.o _ _ ⟨by rw[HL2.o]<;>rfl,HO2.o.az⟩):P:=h
theorem qg9(h:P:=by intro va vc w2 ho2 hg2 hr2;have HO2:=zh (HO1.o.av.app ho2 hg2 hr2 zS).bK;clear HO1 ho2 hg2 hr2 g0 g1 gl;go_wp2;exact hX.o _ _ _ zo rfl ⟨i+1,_,_,zo,rfl,rfl,HV.o,HO2.o⟩):P:=h
theorem qbh(h:P:=by go_wp2;exact hY.o _ _ rfl ⟨rfl,HO.o⟩):P:=h
theorem qbi(h:P:=by simpa using this):P:=h
theorem qha(h:P:=by refine(HL2.o _ HO2.o.ay).mono ?_;rintro e w3 ⟨rfl,hb3⟩;have HB:=zh (HO2.o.aS hb3).az;clear HO2 HL2 hb3 q2 q3;go_wp2;exact hR.o _ _ ⟨aR (by rw[HF.o]),HB.o⟩):P:=h
theorem qbl(h:P:=by have e59:a.tmps.getD 59 undef=_:=RA.d 3 rfl;cases ho;exact wn rfl rfl rfl e59 rfl rfl):P:=h
theorem qbm(h:P:=by rw[Oper.semAt_plain F _ _ (by rw[ho];intro c hc';cases hc')];simp[execOp,ho,resolve,invoke,builtin,hs,hx,hr,Result.andThen];exact hK _ _ (h va vc w' h2 h3 h4)):P:=h
theorem qbn(h:P:=by have e27:a.tmps.getD 27 undef=_:=RA.d 24 rfl;cases ho;exact wy rfl rfl rfl e27 rfl):P:=h
theorem qbo(h:P:=by go_wp2;exact hR.o _ _ ⟨_,rfl,HF.o⟩):P:=h
theorem qbp(h:P:=by go_wp2;exact hX.o _ _ _ zo rfl ⟨i+1,zo,rfl,rfl,HO2.o⟩):P:=h
theorem qhb(h:P:=by have HN2:=zh (HN.o fun _ _ h=>h.elim e2 (fun h=>h e3));rw[aM e3];clear HN HZ e1 e3;go_wp2;exact hX2.o _ _ _ zo rfl ⟨k+1,zo,rfl,rfl,HN2.o,HO4.o.tail⟩):P:=h
theorem qhc(h:P:=by exact hX.o _ _ rfl ⟨by rw[HP.o]<;>rfl,HO.o.aS hb1⟩):P:=h
theorem qbs(h:P:=by obtain⟨a,c,h1,h2,h3,h4⟩:=h;refine⟨a,c,h1,h2,h3,fun hne=>?_⟩;obtain⟨b,off,h5,h6⟩:=h4 hne;exact⟨b,off,h5,fun i hi=>hr _ _ _ (h6 i hi)⟩):P:=h
theorem qbt(h:P:=by exact⟨_,0,zG _,rfl,rfl,HO.o⟩):P:=h
theorem qhd(h:P:=by refine(HBT.o _ HO4.o.ay).mono ?_;rintro e w5 ⟨rfl,hb5⟩;have HO5:=zh (HO4.o.aS hb5);clear HO4 hb5 q1;go_wp2;exact hY.o _ _ rfl ⟨rfl,HO5.o⟩):P:=h
theorem qhe(h:P:=by have e63:a.tmps.getD 63 undef=_:=RA.d 4 rfl;cases ho;refine fH rfl (eX rfl rfl e63) (aO (by go_simp;try (intro hh;omega)) ⟨_,rfl,zR _ _,rfl⟩)):P:=h
theorem qbw(h:P:=by clear hO1 HO hn HN;go_wp2;refine yV (v:=.tuple #[]) (by simp[results,results114,go_sem]) rfl ?_;refine hR.o _ _ ⟨rfl,?_⟩;rw[HB.o];exact HO1.o):P:=h
theorem qbx(h:P:=by exact⟨_,0,zG _,rfl,rfl,rfl,HO.o⟩):P:=h
theorem qhf(h:P:=by refine(HT.o _).mono ?_;rintro e w1 ⟨rfl,hb1⟩;have HB:=zh (HO.o.aS hb1).az;clear HO HT HC hb1;go_wp2;exact hR.o _ _ ⟨aR HX.o.symm,HB.o⟩):P:=h
theorem qbz(h:P:=by go_wp2;exact hX.o _ _ _ zo rfl ⟨i+1,zo,rfl,rfl,by rw[HE.o];exact HO1.o⟩):P:=h
theorem qhg(h:P:=by go_wp2;exact hR.o _ _ ⟨aR (by rw[aF HE3.o]),HB.o⟩):P:=h
theorem qhh(h:P:=by have HN2:=zh (HN.o fun _ h=>absurd h e1);rw[aF e1];clear HN HZ HQ2 e1;go_wp2;exact hX2.o _ _ _ zo rfl ⟨k+1,zo,rfl,rfl,HN2.o,HO3.o.tail⟩):P:=h
theorem qhi(h:P:=by go_wp2;refine yV (v:=.agg #[.slice none 0 0]) (by simp[results,results45,go_sem]) rfl ?_;exact hR.o _ _ ⟨_,[],rfl,HO.o.az,dJ _,Hl.o,zS⟩):P:=h
theorem qbD(h:P:=by go_wp2;exact hR.o _ _ ⟨rfl,rfl⟩):P:=h
theorem qhj(h:P:=by go_wp2;exact hR.o _ _ ⟨aR (by rw[aF (fun h=>hlen (by rw[h]))]),zR _ _⟩):P:=h
theorem qbF(h:P:=by subst hne;have HN2:=zh (HN.o fun h=>absurd rfl h);clear HN HZ HQ1 HQ2;go_wp2;exact hX2.o _ _ _ zo rfl ⟨k+1,zo,rfl,rfl,HN2.o,HO.o.tail⟩):P:=h
theorem qbG(h:P:=by obtain⟨a,c,rfl,-⟩:=h3;obtain⟨a',c',rfl,-⟩:=h4;simp only[yA,List.not_mem_nil,or_false]at hx;rcases hx with rfl|rfl<;>rfl):P:=h
theorem qhk(h:P:=by rintro e w' ⟨r,rfl,hb,hr⟩;exact⟨_,rfl,_,rfl,hb,fO (R:=fun M u=>bG (bq M n) M u L2) (fun k _ h=>bG.gH k h) HO2.ay hb hr⟩):P:=h
theorem qhl(h:P:=by rintro e w' ⟨r,rfl,hb,hr⟩;exact⟨_,rfl,_,rfl,hb,fO (R:=fun M u=>bG (bq M n) M u L1) (fun k _ h=>bG.gH k h) HO2.ay hb hr⟩):P:=h
theorem qje(h:P:=by exact hR.o _ _ ⟨_,_,rfl,Hk.o.1,by rw[Hk.o.2.2];exact Hk.o.2.1⟩):P:=h
theorem qbJ(h:P:=by exact hR.o _ _ ⟨_,C,rfl,Hk.o.1,Hk.o.2.1,Hk.o.2.2.1,Hk.o.2.2.2⟩):P:=h
theorem qbK(h:P:=by subst hji;exact hy.wpOp hi hS ⟨.inl rfl,H⟩):P:=h
theorem qbL(h:P:=by exact hX.o _ _ _ zo rfl ⟨k+1,zo,rfl,rfl,HL0.o trivial,HO4.o⟩):P:=h
theorem qhm(h:P:=by go_wp2;exact hR.o _ _ ⟨rfl,cu (zR _ _) _⟩):P:=h
theorem qhn(h:P:=by go_wp2;exact hR.o _ _ ⟨false,rfl,HO.o.az,fun h=>by cases h⟩):P:=h
theorem qho(h:P:=by go_wp2;exact hR.o _ _ ⟨aR (by rw[aF HX.o]),(HO.o.Fa _).az⟩):P:=h
theorem qbP(h:P:=by obtain⟨u,u2,e,h1,h2,h3⟩:=h;exact⟨u,u2,e,h1.le hle fun _ _ h=>h.le hle,h2.le hle fun _ _ h=>h.le hle,h3⟩):P:=h
theorem qbQ(h:P:=by refine hZ.o _ _ _ zo rfl ⟨j+1,zo,rfl,rfl,?_⟩;rw[Hgo.o,zJ (by rw[Int.toNat_natCast];omega)];exact hO6.al' _):P:=h
theorem qbR(h:P:=by rintro e w' ⟨rfl,rfl⟩;exact⟨_,rfl,_,rfl,zR _ _,rfl⟩):P:=h
theorem qbS(h:P:=by exact⟨_,0,zG _,rfl,rfl,fun j _ h=>absurd h (xY _),HO.o⟩):P:=h
theorem qhp(h:P:=by have h:=HO.o.aW ob1 hg1;exact⟨_,Mem_le_add h.jG,h.gU,fun j u hj=>Mem_add_cell h.obj (by simpa using hj)⟩):P:=h
theorem qbU(h:P:=by exact⟨_,0,zG _,rfl,rfl,Iff.rfl,zR _ _⟩):P:=h
theorem qbV(h:P:=by subst e;exact h):P:=h
theorem qbW(h:P:=by obtain⟨u,u2,e,h1,h2⟩:=h;exact⟨u,u2,e,h1.le hle fun _ _ h=>h.le hle,h2.le hle fun _ _ h=>h.le hle⟩):P:=h
theorem qbX(h:P:=by injection h with h1 h2 h3;exact⟨_,h1⟩):P:=h
theorem qbY(h:P:=by rw[List.nodup_append];exact⟨h.nodup,zS,fun a ha b hb e=>hx (by rw[zZ.1 hb]at e;rw[<-e];exact ha)⟩):P:=h
theorem qbZ(h:P:=by simp only[Op.eqFields];simp[part,isAgg,go_sem,e2];by_cases h1:a=a'<;>by_cases h2:b=b'<;>simp[h1,h2]):P:=h
theorem qb0(h:P:=by have HQ:=zh hq;clear HLS hq;go_wp2;exact hY.o _ _ _ zo rfl ⟨j+1,zo,rfl,rfl,by rw[HQ.o];exact HO2.o⟩):P:=h
theorem qhq(h:P:=by exact hR.o _ _ ⟨aR (by rw[aF HL.o]),(hO3.aS hb3).az⟩):P:=h
theorem qb2(h:P:=by obtain⟨x,y,h1,h2,h3,h4⟩:=k;exact⟨x,y,Mem_cell_le h h1,Mem_cell_le h h2,h3.le h hr,h4.le h hr⟩):P:=h
theorem qhr(h:P:=by go_wp2;exact hR.o _ _ ⟨aR (by rw[aF HL.o]),HO.o.az⟩):P:=h
theorem qhs(h:P:=by simp only[yA,forall_eq_or_imp];exact⟨fun k hk=>h.iA _ (yF ..) k hk,fun it hi=>h.iA it (zU _ hi)⟩):P:=h
theorem qb5(h:P:=by simp[h']at h0 h1;rw[h0]at h1;cases h1):P:=h
theorem qb6(h:P:=by have e1:=RA.k 1;have e53:a.tmps.getD 53 undef=_:=RA.d 17 rfl;cases ho;exact wy rfl rfl rfl e53 rfl):P:=h
theorem qb7(h:P:=by exact hY.o _ _ _ zo rfl ⟨ou,ag,k+1,zo,rfl,hlu,rfl,hO,hs2,hag,fun h=>⟨(hcl h).1,hclk zS h⟩⟩):P:=h
theorem qb8(h:P:=by exact hR.o _ _ ⟨rfl,zR _ _⟩):P:=h
theorem qht(h:P:=by rintro⟨x,y,h,_⟩;simp[lu,bY,oN,iy,gJ,Vl.aN]at h):P:=h
theorem qhu(h:P:=by exact xq (S:=fun v=>v∈seen) h.start (fun v hv b hb=>(hd v hv).2 b hb) (fun v hv=>(hd v hv).1)):P:=h
theorem qcb(h:P:=by have:=hc w;rw[show done++k::ks=(done++[k])++ks by simp,List.countP_append]at this;omega):P:=h
theorem qcc(h:P:=by simp[Array.getElem?_eq_none h']at h1):P:=h
theorem qcd(h:P:=by show f.1.1.data.toList.length+1<=1000;rw[Array.length_toList];show f.1.1.size+1<=1000;omega):P:=h
theorem qhw(h:P:=by rintro e w' ⟨s,ui,uf,ut,rfl,hb,h⟩;exact⟨_,rfl,_,rfl,hb,fO ZM.le HO5.ay hb (azM h)⟩):P:=h
theorem qcg(h:P:=by obtain⟨es,clock,hb,F,hs,hD⟩:=h;exact⟨_,hb,fun w' b' h'=>⟨es,clock,h',F,hs,hD⟩⟩):P:=h
theorem qch(h:P:=by have HO3:=zh hO2;clear hO2 hY HS;go_wp2;exact hX.o _ _ _ zo rfl ⟨i+1,zo,rfl,rfl,HO3.o⟩):P:=h
theorem qci(h:P:=by rw[Array.setIfInBounds_comm _ _ hji];exact h3.2.2):P:=h
theorem qhx(h:P:=by rintro e w' ⟨ri,rf,rt,rfl,hb,hn⟩;exact⟨_,rfl,_,rfl,hb,fO Sj.le HO2.ay hb (Iz hn)⟩):P:=h
theorem qhy(h:P:=by exact hR.o _ _ ⟨most+1,rfl,HO1.o.az,.over h0⟩):P:=h
theorem qcl(h:P:=by exact hX.o _ _ _ zo rfl ⟨3,zo,rfl,rfl,fun _=>H1.o zo,fun h=>H2.o zo,fun h=>zS,HO2.o⟩):P:=h
theorem qhz(h:P:=by cases ho;refine aJ rfl rfl (aO (by go_simp;try (intro hh;omega)) ⟨_,rfl,zR _ _,rfl⟩)):P:=h
theorem qhA(h:P:=by rintro e w' ⟨ri,rf,rfl,hb,hn⟩;exact⟨_,rfl,_,rfl,hb,fO iR.le HO3.ay hb (qF hn)⟩):P:=h
theorem qco(h:P:=by go_wp2;exact hR.o _ _ ⟨by simp<;>rfl,rfl⟩):P:=h
theorem qcp(h:P:=by simp at h6;exact Hrel.o.trans (HD.o.trans ⟨fun h=>h.2,fun h=>⟨He.o.2 zo,h⟩⟩)):P:=h
theorem qcq(h:P:=by rintro e w' ⟨he,rfl⟩;exact⟨he,xs,hx,h⟩):P:=h
theorem qcr(h:P:=by exact hX.o _ _ _ zo rfl ⟨2,zo,rfl,rfl,fun _=>H1.o zo,fun h=>zS,fun h=>zo,HO2.o⟩):P:=h
theorem qhB(h:P:=by cases ho;refine aJ rfl rfl (aO (by go_simp;intro hh;omega) ⟨_,rfl,zR _ _,rfl⟩)):P:=h
theorem qcu(h:P:=by rw[zH h,List.flatMap_append];simp):P:=h
theorem qhC(h:P:=by exact hR.o _ _ ⟨aR (by rw[HX.o]),HO.o.az⟩):P:=h
theorem qcw(h:P:=by obtain⟨y,h3,rfl⟩:=yD.1 hx;have:=h8 y (xR.1 h3).1;show y.1.length+1<=9;omega):P:=h
theorem qcx(h:P:=by exact hX.o _ _ _ zo rfl ⟨1,zo,rfl,rfl,fun _=>zS,fun h=>zo,fun h=>zo,HO2.o⟩):P:=h
theorem qhD(h:P:=by rintro e w' ⟨v,rfl,hb,hn⟩;exact⟨_,rfl,_,rfl,hb,fO FC.le HO2.ay hb hn⟩):P:=h
theorem qcz(h:P:=by intro b hb k h1 h2;exact hap.1 b hb k h1 h2):P:=h
theorem qhE(h:P:=by exact hX.o _ _ _ zo rfl ⟨k+1,zo,rfl,rfl,by rw[hrel,HD.o,zJ zo],cu hbel _⟩):P:=h
theorem qhF(h:P:=by exact hX.o _ _ _ zo rfl ⟨k+1,mk2,zo,rfl,rfl,HN2.o,HO2.o.1.aS hb2,HO2.o.2⟩):P:=h
theorem qhG(h:P:=by rw[aF v];clear v q1 HL;go_wp2;exact hR.o _ _ ⟨aR (by rw[HF.o]),HO1.o.az⟩):P:=h
theorem qhH(h:P:=by rw[aF v'];clear v' HL1;go_wp2;exact hR.o _ _ ⟨aR (by rw[HF.o]),HO2.o.az⟩):P:=h
theorem qhI(h:P:=by have h3:=wM (n:=n) hd;have:=h.cnt;exact⟨⟨h1.1,h2.1,zo⟩,h1.2,h2.2,zo⟩):P:=h
theorem qcF(h:P:=by all_goals exact hY.o _ _ rfl ⟨rfl,rfl⟩):P:=h
theorem qcG(h:P:=by obtain⟨d,k1,k2⟩:=Option.map_eq_some_iff.1 this;exact⟨d,k1,k2.symm⟩):P:=h
theorem qhJ(h:P:=by go_wp2;exact hY.o _ _ _ zo rfl ⟨j+1,zo,rfl,rfl,HA2.o,(HO.o.Fa _).tail⟩):P:=h
theorem qcI(h:P:=by rw[getD_set_ne true hjk]at hun;exact hun):P:=h
theorem qcJ(h:P:=by obtain⟨D,hD,h1⟩:=h.ex;exact⟨D,fun w b hb=>(hD w b hb).mono hn,h1⟩):P:=h
theorem qcK(h:P:=by exact⟨u,by rw[yK (by rw[h.len];omega)];exact h1,by rw[xM c];exact h2⟩):P:=h
theorem qhK(h:P:=by exact hY.o _ _ rfl ⟨rfl,hO7.bK.bK.bK⟩):P:=h
theorem qcN(h:P:=by simp only[zZ]at h;subst h;exact⟨by simp;omega,by simpa using h256⟩):P:=h
theorem qhM(h:P:=by rw[aM h];obtain⟨y,hy,h⟩:=h;exact List.any_eq_true.2 ⟨y,hy,aM h⟩):P:=h
theorem qcP(h:P:=by obtain⟨q,-,hq⟩:=xW.1 hv;simp at hq;rcases hq with rfl|rfl<;>rfl):P:=h
theorem qcQ(h:P:=by exact⟨_,0,zG _,rfl,rfl,Iff.rfl,HO.o⟩):P:=h
theorem qhN(h:P:=by exact hR.o _ _ ⟨_,rfl,HO5.o.az,HC.o⟩):P:=h
theorem qcS(h:P:=by exact⟨_,_,hr,.inr ⟨rfl,mk2,_,⟨.exit id,L2,hi,rfl⟩,ho4,hm⟩⟩):P:=h
theorem qcT(h:P:=by rw[yN (by rw[h.len];omega)];simp[h.len]):P:=h
theorem qcU(h:P:=by have:f=g:=funext e;rw[<-this];exact h):P:=h
theorem qhO(h:P:=by have:=List.findIdx?_eq_none_iff.1 e x hx;rw[aM hh]at this;cases this):P:=h
theorem qcW(h:P:=by go_wp2;exact hX.o _ _ _ zo rfl ⟨k+1,zo,rfl,by rw[Hst.o];rfl,HO.o⟩):P:=h
theorem qcX(h:P:=by exact⟨_,_,hr,.inr ⟨rfl,mk2,_,⟨.goto t,L2,hi,rfl⟩,ho4,hm⟩⟩):P:=h
theorem qcY(h:P:=by exact .inr (.inl h)):P:=h
theorem qcZ(h:P:=by exact .inl (.inl h)):P:=h
theorem qc0(h:P:=by apply vF (by simp[e2]);intro i a b;simp):P:=h
theorem qhP(h:P:=by show bE [(⟨0,255,1⟩:Ed)] b=_;simp only[bE];rw[zK ⟨zG _,zo⟩]):P:=h
theorem qc8(h:P:=by exact⟨_,0,zG _,rfl,rfl,rfl,zR _ _⟩):P:=h
theorem qc9(h:P:=by clear hown;go_wp2;exact hR.o _ _ ⟨by rw[<-HT.o]<;>rfl,HB.o⟩):P:=h
theorem qhQ(h:P:=by cases ho;exact aJ rfl rfl (aO zg ⟨_,rfl,cu (zR _ _) _,ezG win⟩)):P:=h
theorem qhR(h:P:=by rw[List.reverse_cons,fe,yN (by rw[dP];simp),dP];simp[Nat.add_comm]):P:=h
theorem qhS(h:P:=by have:=JE hfirst HW.o.2.2 z hz;simp[kV,ByteArray.size,maxLen];omega):P:=h
theorem qdd(h:P:=by exact⟨_,_,hr,.inr ⟨rfl,mk2,_,⟨.ret,L2,hi,rfl⟩,ho4,hm⟩⟩):P:=h
theorem qde(h:P:=by exact List.prefix_append _ _):P:=h
theorem qhT(h:P:=by cases ho;exact aJ rfl rfl (aO zg ⟨_,rfl,cu (zR _ _) _,TU win⟩)):P:=h
theorem qdf(h:P:=by obtain⟨k',h1,h2⟩:=h.vals x hx;exact⟨k',yP.2 (.inl h1),h2⟩):P:=h
theorem qhU(h:P:=by exact hR.o _ _ ⟨_,rfl,HO2.o.az,HE3.o (H1.o zo) (H2.o zo) zD⟩):P:=h
theorem qhV(h:P:=by intro s hs;simp only[O8,zZ]at hs;subst hs;exact⟨xU _,xU _⟩):P:=h
theorem qdi(h:P:=by refine and_congr_right fun hv=>?_;simp only[hv,true_and];omega):P:=h
theorem qdk(h:P:=by go_wp2;exact hX.o _ _ _ zo rfl ⟨i+1,zo,rfl,rfl,HX2.o,HO.o⟩):P:=h
theorem qdl(h:P:=by exact⟨_,0,mk,zG _,rfl,rfl,fun j _ h=>absurd h (xY _),HO.o⟩):P:=h
theorem qhW(h:P:=by clear hc;go_wp2;exact hR.o _ _ ⟨aR (by rw[<-HC.o]),HB.o⟩):P:=h
theorem qdn(h:P:=by rw[Nat.mul_comm,Nat.mul_add_div zo,Nat.div_eq_of_lt zo];omega):P:=h
theorem qdo(h:P:=by exact⟨_,_,hr,.inl ⟨rfl,mk2,_,⟨L2,hi,rfl⟩,ho4,hm⟩⟩):P:=h
theorem qhX(h:P:=by exact hR.o _ _ ⟨aR (by rw[aF HZ2.o]),(HO2.o.1.aS hb2).az⟩):P:=h
theorem qhY(h:P:=by exact hR.o _ _ ⟨by rw[aF HR.o]<;>rfl,(HO.o.aS hb2).az⟩):P:=h
theorem qdr(h:P:=by exact .inl (.inl (.inr h))):P:=h
theorem qds(h:P:=by exact .inl (.inl (.inl h))):P:=h
theorem qdt(h:P:=by simp only[yO];omega):P:=h
theorem qdu(h:P:=by injection e with e;exact⟨gb,e⟩):P:=h
theorem qhZ(h:P:=by go_wp2;exact hR.o _ _ ⟨jq (by rw[hrel,zQ zo];rfl),hbel⟩):P:=h
theorem qdw(h:P:=by exact .inr (.inr h)):P:=h
theorem qdx(h:P:=by obtain⟨x,y,-,h4,-,h5⟩:=h3.v;exact⟨⟨x,h4⟩,y,h5⟩):P:=h
theorem qh0(h:P:=by all_goals exact hR.o _ _ ⟨by rw[aF HR.o]<;>rfl,HB.o⟩):P:=h
theorem qdz(h:P:=by split<;>split<;>omega):P:=h
theorem qdA(h:P:=by simp only;omega):P:=h
theorem qdB(h:P:=by rw[zY]at hk;simp[results,hf,asAddr,hk,hr,Result.andThen]):P:=h
theorem qh2(h:P:=by exact hR.o _ _ ⟨aR (by rw[aF HX.o]),(HO.o.aS hb2).az⟩):P:=h
theorem qh3(h:P:=by exact hR.o _ _ ⟨aR (by rw[aF HX.o]),(HO.o.aS hb1).az⟩):P:=h
theorem qh4(h:P:=by rintro e w' ⟨rfl,rfl⟩;exact⟨none,0,rfl,h.fC _ _⟩):P:=h
theorem qh5(h:P:=by go_wp2;exact hR.o _ _ ⟨aR (by rw[aF HX2.o]),HO.o.az⟩):P:=h
theorem qh6(h:P:=by exact hR.o _ _ ⟨by rw[HL.o]<;>rfl,(hO3.aS hb3).az⟩):P:=h
theorem qh7(h:P:=by have:=congrArg Cv h;rw[(rT _).1,(rT _).1]at this;omega):P:=h
theorem qh8(h:P:=by go_wp2;exact hR.o _ _ ⟨by rw[aM HR.o]<;>rfl,HB.o⟩):P:=h
theorem qh9(h:P:=by go_wp2;exact hR.o _ _ ⟨aR (by rw[aF HX.o]),HO.o.az⟩):P:=h
theorem qia(h:P:=by go_wp2;exact hR.o _ _ ⟨aR (by rw[HX.o,HA2.o]),HB.o⟩):P:=h
theorem qib(h:P:=by exact⟨v,s,e,hv.mono zo,by rw[Aw hv.ht zo];exact hb⟩):P:=h
theorem qic(h:P:=by rintro rfl;exact aG zk hj):P:=h
theorem qdP(h:P:=by intro h;simp[h]at hlt):P:=h
theorem qdQ(h:P:=by simpa using hu):P:=h
theorem qdR(h:P:=by unfold maxLen;omega):P:=h
theorem qdS(h:P:=by simp[Value.oneCell']):P:=h
theorem qdT(h:P:=by go_simp;first|exact⟨rfl,rfl⟩|rfl):P:=h
theorem qdV(h:P:=by go_simp;first|done|exact⟨rfl,rfl⟩|rfl):P:=h
theorem qdU(h:P:=by simpa using hj):P:=h
theorem qdW(h:P:=by simp;omega):P:=h
theorem qdX(h:P:=by rw[e2];exact i.isLt):P:=h
theorem qdY(h:P:=by simpa using hl):P:=h
theorem qdZ(h:P:=by simpa using hl2):P:=h
theorem qd0(h:P:=by simpa using hl1):P:=h
theorem qd1(h:P:=by intro h;simp[h]at hlt'):P:=h
theorem qid(h:P:=by simpa using vJ):P:=h
theorem qd3(h:P:=by intro h;have:=HVL.o;rw[h]at this;simp at this;omega):P:=h
theorem qd6(h:P:=by simp[results,results53,go_sem,k0,k1,k2,k3,k4]):P:=h
theorem qd7(h:P:=by simp at hd;rcases hd with rfl|rfl|rfl|rfl<;>kernel_rfl):P:=h
theorem qd9(h:P:=by simpa using h):P:=h
theorem qd8(h:P:=by simp[hx]):P:=h
theorem qeb(h:P:=by intro h;simp[h]at hlt2):P:=h
theorem qie(h:P:=by rintro rfl;exact tZ zk hj):P:=h
theorem qeg(h:P:=by simp at hd;subst hd;kernel_rfl):P:=h
theorem qeh(h:P:=by simp at hd;rcases hd with rfl;kernel_rfl):P:=h
theorem qei(h:P:=by simp[hy]):P:=h
theorem qej(h:P:=by rw[h]at hr;cases hr):P:=h
theorem qec(h:P:=by simp at hd;omega):P:=h
theorem qd5(h:P:=by have:=HEL0.o;omega):P:=h
theorem qek(h:P:=by have:=Hxy.o;omega):P:=h
theorem qel(h:P:=by intro h;simp[h]at hs):P:=h
theorem qem(h:P:=by go_simp):P:=h
theorem qef(h:P:=by simpa using hi):P:=h
theorem qig(h:P:=by rw[aF ev];simp):P:=h
theorem qd4(h:P:=by simp[results,results91,go_sem,g6,g7]):P:=h
theorem qeq(h:P:=by rw[<-HCF.o];exact hcd):P:=h
theorem qer(h:P:=by simp[results,results124,go_sem,g4]):P:=h
theorem qeo(h:P:=by simp[hl]):P:=h
theorem qes(h:P:=by simpa using hlD):P:=h
theorem qet(h:P:=by intro h;rw[h]at hkt;simp at hkt):P:=h
theorem qeu(h:P:=by simpa using h2):P:=h
theorem qev(h:P:=by simp[hz]):P:=h
theorem qih(h:P:=by have:=H.Bg;omega):P:=h
theorem qea(h:P:=by simp at hd;rcases hd with rfl|rfl<;>kernel_rfl):P:=h
theorem qey(h:P:=by simp[results,results61,go_sem,k0,k1,k2,k3,k4,k5]):P:=h
theorem qez(h:P:=by simp[hk]):P:=h
theorem qii(h:P:=by simp[Be]):P:=h
theorem qeB(h:P:=by show j<out.length;omega):P:=h
theorem qeC(h:P:=by rw[HX.o]):P:=h
theorem qeE(h:P:=by simpa using hk):P:=h
theorem qeF(h:P:=by simpa using h3):P:=h
theorem qeG(h:P:=by intro h;simp[h]at h0):P:=h
theorem qeH(h:P:=by simpa using c):P:=h
theorem qeI(h:P:=by simp[h]):P:=h
theorem qeJ(h:P:=by cases h):P:=h
theorem qeK(h:P:=by simp[opC]):P:=h
theorem qeL(h:P:=by rw[h];rfl):P:=h
theorem qeN(h:P:=by simp[Lib.byteCells,ByteArray.size];omega):P:=h
theorem qeO(h:P:=by rw[hb];omega):P:=h
theorem qeP(h:P:=by rw[e2];exact y.isLt):P:=h
theorem qeQ(h:P:=by rw[e2];exact x.isLt):P:=h
theorem qeR(h:P:=by simpa using E.size):P:=h
theorem qeS(h:P:=by rw[ih.len];exact c):P:=h
theorem qeT(h:P:=by simp[la,lb]):P:=h
theorem qij(h:P:=by simpa using qH hj):P:=h
theorem qik(h:P:=by simpa using kZ hj):P:=h
theorem qeW(h:P:=by simpa using hlD'):P:=h
theorem qeX(h:P:=by simp[results,results103,go_sem,g1]):P:=h
theorem qeY(h:P:=by rw[hsz];exact hl):P:=h
theorem qeZ(h:P:=by have:=HL.o;omega):P:=h
theorem qe0(h:P:=by simp[results,results90,go_sem,g4]):P:=h
theorem qe1(h:P:=by simpa using hlt):P:=h
theorem qe2(h:P:=by simp[results,results240,go_sem]):P:=h
theorem qe3(h:P:=by simp[results,results191,go_sem]):P:=h
theorem qe4(h:P:=by simp[hl2]):P:=h
theorem qeM(h:P:=by rw[e];rfl):P:=h
theorem qe5(h:P:=by intro j u hj;rw[Addr.add_lit,yZ];exact HO8.o.obj.cell qdU):P:=h
theorem qe7(h:P:=by intro j u hj;rw[Addr.add_lit,yZ];exact HO7.o.obj.cell qdU):P:=h
theorem qe8(h:P:=by intro j u hj;rw[Addr.add_lit,yZ];exact HO4.o.obj.cell qdU):P:=h
theorem qe9(h:P:=by intro j u hj;rw[Addr.add_lit,yZ];exact HO1.o.obj.cell qdU):P:=h
theorem qfa(h:P:=by intro j u hj;rw[Addr.add_lit,yZ];exact HO.o.obj.cell qdU):P:=h
theorem qil(h:P:=by exact ax rfl fun w' hS'=>by have q:=Hcvf.o _ hS';have q1:=Hx3.o _ hS';have q2:=Mem_cell_lt hS' (Mem_cell_le hle3 x3);have q3:=Mem_cell_lt hS' (Mem_cell_le Hst.o.2.2.2 HE.o.cv);go_simp;rfl):P:=h
theorem qim(h:P:=by exact ax rfl fun w' hS'=>by have q:=hS'.2.1;have q1:=hS'.2.2;have q2:=Mem_cell_w hS'.1 hca;have q3:=Mem_cell_lt hS'.1 hca;go_simp;rfl):P:=h
theorem qin(h:P:=by exact ax rfl fun w' hS'=>by have p7:=hS'.1.cell n7;have pl:=hS'.1.lt;have p1:=Mem_cell_w hS'.2 HX.o.1;have p2:=Mem_cell_w hS'.2 HX.o.2;have p3:=Mem_cell_lt hS'.2 HX.o.1;go_simp;first|done|rfl):P:=h
theorem qfd(h:P:=by exact fun _ _ _ h=>h):P:=h
theorem qio(h:P:=by exact ax rfl fun w' hS'=>by have p1:=hS'.1.cell (i:=1) rfl;have p2:=hS'.1.lt;have p3:=hS'.2.1.cell H0;have p4:=hS'.2.1.lt;have p5:=hS'.2.2.1;have p6:=hS'.2.2.2;go_simp;first|done|rfl):P:=h
theorem qip(h:P:=by exact fun j w' hj hd=>hd qic qic qic):P:=h
theorem qiq(h:P:=by exact ax rfl fun w' hS'=>by go_simp;rfl):P:=h
theorem qir(h:P:=by exact ax rfl fun w' hS'=>by have q:=hS'.1.cell (i:=0) rfl;have q1:=hS'.2.cell (i:=0) rfl;have q2:=hS'.2.cell (i:=1) rfl;go_simp;rfl):P:=h
theorem qis(h:P:=by exact fun j w' hj hd=>hd qic):P:=h
theorem qit(h:P:=by exact ax rfl fun w' hS'=>by have p1:=hS'.1.cell (i:=1) rfl;have p2:=hS'.1.lt;have p3:=hS'.2.1.cell H0;have p4:=hS'.2.1.lt;go_simp;first|done|rfl):P:=h
theorem qiu(h:P:=by exact Mem_inn_le HM.o.1 hO.ay):P:=h
theorem qiv(h:P:=by exact zi (fun j u=>@lh d x y j u) (fun j u=>@pI d x y j u)):P:=h
theorem qiw(h:P:=by exact ax rfl fun w' hS'=>by have q:=hS'.2.1;have q1:=hS'.2.2;go_simp;rfl):P:=h
theorem qix(h:P:=by exact aJ rfl rfl (qN dU (.tmp 2) (.tmp 22) rfl (cs:=(A++B).toArray) zg zg rfl qeT (fun u hu=>by rcases yP.1 qdQ with h|h<;>first|exact oa u h|exact ob u h) hO5.aP.obj fun w5 ob5 hg5=>?_)):P:=h
theorem qiz(h:P:=by exact Mem_inn_le HLE.o HOX.ay):P:=h
theorem qiA(h:P:=by exact fun j w' hj hd=>hd qic qic):P:=h
theorem qiB(h:P:=by exact ax rfl fun w' hS'=>kK.exec rfl zg lb hS'.1.all):P:=h
theorem qiC(h:P:=by exact ax rfl fun w' hS'=>kK.exec rfl zg la hS'.2.all):P:=h
theorem qiD(h:P:=by exact hzT HS.o.1 HS.o.2.1 k):P:=h
theorem qfz(h:P:=by exact Mem_cell_le HL4.o (HC.o j u hj)):P:=h
theorem qiE(h:P:=by exact zi (Mem_le_grow (w:=w3) hO2.ay) hcs):P:=h
theorem qiF(h:P:=by exact zi hO2.az (zi (aX hO2.done hst) (zi hlang hClen))):P:=h
theorem qiG(h:P:=by exact ax rfl fun w' hS'=>nL rfl zg zg (Fu la lb w')):P:=h
theorem qfF(h:P:=by exact Mem_of_inn w):P:=h
theorem qiH(h:P:=by exact nE l l' k hlt hlt'):P:=h
theorem qfH(h:P:=by exact Mem_add_cell (m:=m) hO.obj (i:=i) (v:=u) hi):P:=h
theorem qiI(h:P:=by exact zi hO4.az (zi (hs.le hO4.done) (zi hS hL))):P:=h
theorem qiJ(h:P:=by exact uC C l l' k hlt hlt'):P:=h
theorem qiK(h:P:=by exact ry (n:=0) HM.o.1.at'):P:=h
theorem qfM(h:P:=by exact Mem_cell_le hle HS.o.2.2.2):P:=h
theorem qiL(h:P:=by exact Au win zS (zI _) zo o1 rfl):P:=h
theorem qiM(h:P:=by exact ek results55 rfl hr):P:=h
theorem qiN(h:P:=by exact cu (zR _ _) _):P:=h
theorem qiO(h:P:=by exact jy (k:=1) zS zS):P:=h
theorem qfS(h:P:=by exact Mem_cell_le hO.ext.le hu):P:=h
theorem qiP(h:P:=by exact yh C l l' _ (zI _)):P:=h
theorem qiQ(h:P:=by exact uD C l l' k hlt zo):P:=h
theorem qfV(h:P:=by exact Mem_inn_le HLE.o h):P:=h
theorem qiy(h:P:=by exact zi hO2.az (zi (hn.le hO2.done) hf)):P:=h
theorem qiR(h:P:=by exact qZ (k:=2) fun x hx=>by rw[List.eq_of_mem_replicate hx];exact zI _):P:=h
theorem qiS(h:P:=by exact ax rfl fun w' hS'=>by have q:=hS'.cell (i:=0) rfl;go_simp;rfl):P:=h
theorem qiU(h:P:=by exact zi (fun j u=>@lh d' x' y' j u) (fun j u=>@pI d' x' y' j u)):P:=h
theorem qiV(h:P:=by exact pU (wN n) d d' x y x' y' m _ hO.ay h1 h2 h1' h2' kd kd'):P:=h
theorem qiW(h:P:=by exact Mem_wins_inn HO2.ay win [13]):P:=h
theorem qgb(h:P:=by exact Mem_inn_le HM.o.1 h):P:=h
theorem qiX(h:P:=by exact zi hO2.az (aX hO2.done hst)):P:=h
theorem qiY(h:P:=by exact ji h1.valid 14):P:=h
theorem qiZ(h:P:=by exact ax rfl fun w' hS'=>by have q:=hS'.cell H1;go_simp;rfl):P:=h
theorem qi0(h:P:=by exact Mem_le_wins HO2.ay win [13]):P:=h
theorem qi1(h:P:=by exact lI (Wy s k) (Wy s k) x x M2 w' h HT2.o hv hmk hv hmk):P:=h
theorem qi2(h:P:=by exact zi hO.az hfin):P:=h
theorem qi3(h:P:=by exact ww w.heap.size w.heap.size _ _ _ hB1 qeN hb3.size):P:=h
theorem qi4(h:P:=by exact zi hO7.av.obj hO7.aP.obj):P:=h
theorem qi5(h:P:=by exact zi hO.az (hr.le hO.done)):P:=h
theorem qi6(h:P:=by exact jL _ _ _ _ mk2 _ hO6.ay ⟨p2,bZ l2 p1⟩ zS zS):P:=h
theorem qgm(h:P:=by exact zi k1 (zi k2 k3)):P:=h
theorem qi7(h:P:=by exact ry (n:=0) HM.o.2.1.at'):P:=h
theorem qi8(h:P:=by exact Mem_wins_le (es:=[7,6,15,14]) HO2.ay win zS):P:=h
theorem qi9(h:P:=by exact Mem_wins_le (es:=[5,4,11,10]) HO2.ay win zS):P:=h
theorem qgq(h:P:=by exact Mem_le_grow hin):P:=h
theorem qja(h:P:=by exact yj n _ _ hp.s2 hq.s2 hp.c2 hq.c2 h1.2 h2.2):P:=h
theorem qjb(h:P:=by exact yj n _ _ hp.s1 hq.s1 hp.c1 hq.c1 h1.1 h2.1):P:=h
theorem qjc(h:P:=by exact hzX HS.o.1 HS.o.2.1 k):P:=h
theorem qjd(h:P:=by exact Mem_wins_le (es:=[23,29]) HO3.ay win zS):P:=h
