/- Short words. -/
import Derived.Test.YtdgjplfcpcphoaaGreatDoorProg
import Derived.WalkKit
import Derived.Lib.Hide
open Go Go.RowKit Go.Proofs
theorem zo {P : Prop} (h : P := by omega) : P := h
theorem zk {P : Prop} (h : P := by kernel_rfl) : P := h
theorem zS {P : Prop} (h : P := by simp) : P := h
theorem zD {P : Prop} (h : P := by decide) : P := h
theorem zg {P : Prop} (h : P := by go_simp; first | done | rfl) : P := h
theorem zh {P : Prop} (h : P) : Hid P := h
theorem zi {P Q : Prop} (x : P) (y : Q) : P ∧ Q := ⟨x, y⟩
theorem zA {P : Prop} (h : P := by assumption) : P := h
theorem zF : type_of% @List.getElem_mem := @List.getElem_mem
theorem zG : type_of% @Nat.zero_le := @Nat.zero_le
theorem zH : type_of% @List.take_succ_eq_append_getElem := @List.take_succ_eq_append_getElem
theorem zI : type_of% @Nat.le_refl := @Nat.le_refl
theorem zJ : type_of% @if_neg := @if_neg
theorem zK : type_of% @if_pos := @if_pos
theorem zL : type_of% @List.length_append := @List.length_append
theorem zM : type_of% @decide_eq_false := @decide_eq_false
theorem zN : type_of% @decide_eq_true := @decide_eq_true
theorem zO : type_of% @beq_eq_false_iff_ne := @beq_eq_false_iff_ne
theorem zP : type_of% @Classical.byContradiction := @Classical.byContradiction
theorem zQ : type_of% @List.drop_eq_nil_of_le := @List.drop_eq_nil_of_le
theorem zR : type_of% @Below.refl := @Below.refl
theorem zT : type_of% @Int.eq_ofNat_of_zero_le := @Int.eq_ofNat_of_zero_le
theorem zU : type_of% @List.mem_cons_of_mem := @List.mem_cons_of_mem
theorem zY : type_of% @Array.getD_eq_getD_getElem? := @Array.getD_eq_getD_getElem?
theorem zZ : type_of% @List.mem_singleton := @List.mem_singleton
theorem yA : type_of% @List.mem_cons := @List.mem_cons
theorem yB : type_of% @List.getElem?_eq_some_iff := @List.getElem?_eq_some_iff
theorem yC : type_of% @Array.getElem?_eq_some_iff := @Array.getElem?_eq_some_iff
theorem yD : type_of% @List.mem_map := @List.mem_map
theorem yE : type_of% @List.drop_eq_getElem_cons := @List.drop_eq_getElem_cons
theorem yF : type_of% @List.mem_cons_self := @List.mem_cons_self
theorem yG : type_of% @List.take_length := @List.take_length
theorem yH : type_of% @List.getElem?_eq_getElem := @List.getElem?_eq_getElem
theorem yI : type_of% @List.map_append := @List.map_append
theorem yJ : type_of% @Nat.le_trans := @Nat.le_trans
theorem yK : type_of% @List.getElem?_append_left := @List.getElem?_append_left
theorem yL : type_of% @List.map_cons := @List.map_cons
theorem yM : type_of% @List.eq_nil_of_length_eq_zero := @List.eq_nil_of_length_eq_zero
theorem yN : type_of% @List.getElem?_append_right := @List.getElem?_append_right
theorem yO : type_of% @List.length_cons := @List.length_cons
theorem yP : type_of% @List.mem_append := @List.mem_append
theorem yQ : type_of% @List.mem_range := @List.mem_range
theorem yR : type_of% @List.append_nil := @List.append_nil
theorem yS : type_of% @List.pairwise_cons := @List.pairwise_cons
theorem yT : type_of% @List.mem_iff_getElem := @List.mem_iff_getElem
theorem yU : type_of% @List.getD_eq_getElem?_getD := @List.getD_eq_getElem?_getD
theorem yV : type_of% @bodyPost_ret := @bodyPost_ret
theorem yX : type_of% @List.getElem_of_mem := @List.getElem_of_mem
theorem yY : type_of% @List.length_pos_iff := @List.length_pos_iff
theorem yZ : type_of% @Nat.zero_add := @Nat.zero_add
theorem xA : type_of% @Option.getD_some := @Option.getD_some
theorem xB : type_of% @List.map_nil := @List.map_nil
theorem xC : type_of% @List.length_map := @List.length_map
theorem xD : type_of% @List.append_assoc := @List.append_assoc
theorem xE : type_of% @ByteArray.toList_eq := @ByteArray.toList_eq
theorem xG : type_of% @Bool.and_eq_true := @Bool.and_eq_true
theorem xH : type_of% @List.take_of_length_le := @List.take_of_length_le
theorem xI : type_of% @List.mem_append_left := @List.mem_append_left
theorem xJ : type_of% @List.length_eq_zero_iff := @List.length_eq_zero_iff
theorem xK : type_of% @List.cons_append := @List.cons_append
theorem xL : type_of% @List.getElem_cons_zero := @List.getElem_cons_zero
theorem xM : type_of% @List.getElem_append_left := @List.getElem_append_left
theorem xN : type_of% @List.nil_append := @List.nil_append
theorem xO : type_of% @List.flatMap_cons := @List.flatMap_cons
theorem xP : type_of% @Nat.lt_of_lt_of_le := @Nat.lt_of_lt_of_le
theorem xQ : type_of% @List.getElem_map := @List.getElem_map
theorem xR : type_of% @List.mem_filter := @List.mem_filter
theorem xS : type_of% @List.mem_append_right := @List.mem_append_right
theorem xU : type_of% @Int.le_refl := @Int.le_refl
theorem xV : type_of% @Nat.mul_le_mul := @Nat.mul_le_mul
theorem xW : type_of% @List.mem_flatMap := @List.mem_flatMap
theorem xX : type_of% @List.mem_of_mem_take := @List.mem_of_mem_take
theorem xY : type_of% @Nat.not_lt_zero := @Nat.not_lt_zero
theorem xZ : type_of% @List.map_congr_left := @List.map_congr_left
theorem vB : type_of% @List.length_filter_le := @List.length_filter_le
theorem vC : type_of% @List.getElem?_eq_none := @List.getElem?_eq_none
theorem vD : type_of% @List.all_eq_true := @List.all_eq_true
theorem vE : type_of% @List.map_map := @List.map_map
theorem vF : type_of% @List.ext_getElem := @List.ext_getElem
theorem vG : type_of% @List.sum_cons := @List.sum_cons
theorem vH : type_of% @Option.map_some := @Option.map_some
abbrev zt (a : Act) (s : Nat) (v : Value) : Prop := a.tmps.getD s undef = v
abbrev zC (f : FuncId) (x : Array Value) (w : World) (X : Ending → World → Prop) : Prop := Calls Tryz.prog f x w X
abbrev zX (f : FuncId) (x : Array Value) (w : World) (v : Value) : Prop := Calls Tryz.prog f x w fun e w' => e = .returned v ∧ Below w.heap.size w w'
abbrev zW := World
abbrev zV := Value
abbrev zB (w w' : World) : Prop := Below w.heap.size w w'
theorem Go.RowKit.Hid.o {p : Prop} (h : Hid p) : p := h
theorem Go.RowKit.Hid.p {α β : Sort _} {P Q : α → β → Prop} (h : Hid (∀ a b, P a b → Q a b)) {a : α} {b : β} (x : P a b) : Q a b := h a b x
variable {P:Prop}
theorem qaa(h:P:=by cases ho;exact wv rfl rfl rfl):P:=h
theorem qab(h:P:=by rintro e w' ⟨rfl,hb⟩;exact⟨_,rfl,_,rfl,hb,rfl⟩):P:=h
theorem qac(h:P:=by cases ho;refine aJ rfl rfl (aN (by go_simp;try (intro hh;omega)) ⟨_,rfl,zR _ _,rfl⟩)):P:=h
theorem qad(h:P:=by have e28:a.tmps.getD 28 undef=_:=RA.d 2 rfl;cases ho;exact wn rfl rfl rfl e28 rfl rfl):P:=h
theorem qae(h:P:=by have e28:a.tmps.getD 28 undef=_:=RA.d 2 rfl;cases ho;exact wy rfl rfl rfl e28 rfl):P:=h
theorem qaf(h:P:=by subst hb;clear HBB;go_wp2;exact hY.o _ _ rfl ⟨rfl,HO.o⟩):P:=h
theorem qag(h:P:=by go_wp2;exact hR.o _ _ ⟨rfl,HB.o⟩):P:=h
theorem qah(h:P:=by clear HL;go_wp2;exact hR.o _ _ ⟨by rw[HL2.o]<;>rfl,HB.o⟩):P:=h
theorem qai(h:P:=by exact hR.o _ _ ⟨_,rfl,Hfin.o.1,Hfin.o.2⟩):P:=h
theorem qaj(h:P:=by intro va vc w3 hown3 hgrow hrow3;have hO4:=(hO3.au.app hown3 hgrow hrow3 zS).bL;have Hfin:=zh hO4;clear hO4 hown3 hgrow hrow3 hO3;go_wp2;refine hY.o _ _ _ zo rfl ⟨q+1,_,zo,rfl,rfl,?_⟩;rw[Hsu.o];simpa using Hfin.o):P:=h
theorem qak(h:P:=by simp only[yA,forall_eq_or_imp];exact⟨fun k hk=>by simp only[bF.blk,Option.some.injEq]at hk;subst hk;exact hf,fun it hi=>h.gV it (zU _ hi)⟩):P:=h
theorem qal(h:P:=by refine aV 12 zk (aJ rfl rfl (cO zg (lD rfl ?_)));refine gG zk ?_ _;exact hY.o _ _ rfl ⟨S,rfl,hZ⟩):P:=h
theorem qam(h:P:=by go_wp2;refine hR.o _ _ ⟨aS ?_,hbel⟩;rw[aO (Hrel.o.2 ?_)];rw[zQ zo,zQ (by rw[<-Hlen.o];omega)]):P:=h
theorem qan(h:P:=by exact hX.o _ _ _ zo rfl ⟨k+1,zo,rfl,rfl,by rw[hrel,HD.o,zJ zo],bE hbel _⟩):P:=h
theorem qao(h:P:=by clear HD HL he hX;go_wp2;exact hR.o _ _ ⟨by rw[<-HX.o]<;>rfl,HO.o.az⟩):P:=h
theorem qap(h:P:=by intro jump W3 mk2 L2 h3;have h4:=h3.perm (r9 _ _ L2 Lr).symm;have hl3:=h4.gQ;have hr:=run_endRound (P:=P) jump hl3;refine⟨_,hr,?_⟩;have:=h4.jP (o':=.loop { rec .ready none with state:=if jump.isNone then .ready else .done,pending:=jump }) (World.putObj_heap_same (yC.1 hl3).1) (grownBy_putObj' _ _ _);rw[hrec]at this⊢;exact this):P:=h
theorem qaq(h:P:=by refine⟨_,rfl,.inr (Mem_inn_le (Mem.le_trans hle7 k3) k2.ay),?_⟩;go_simp;refine bQ 16 zk (aJ rfl rfl (aN (by go_simp;first|done|exact⟨rfl,rfl⟩|rfl) ⟨.inl rfl,?_⟩));refine jk zk ?_ _;refine hV.o _ _ rfl ⟨false,mk5,Lt5,rfl,Mem.le_trans hle7 k3,k2,fun _=>?_,fun h=>by cases h⟩;rw[HDn.o b hb1,<-xD,Ht.o];exact k1):P:=h
theorem qar(h:P:=by clear HD;go_wp2;exact hX.o _ _ _ zo rfl ⟨k+1,zo,zo,rfl,rfl,HL.o,HO.o⟩):P:=h
theorem qas(h:P:=by refine⟨_,rfl,.inr (Mem_inn_le (Mem.le_trans hle7 k4) k3.ay),?_⟩;go_simp;refine bQ 16 zk (aJ rfl rfl (aN (by go_simp;first|done|exact⟨rfl,rfl⟩|rfl) ⟨.inl rfl,?_⟩));refine jk zk ?_ _;exact hV.o _ _ rfl ⟨true,mk5,Lt5,rfl,Mem.le_trans hle7 k4,k3,(fun h=>by cases h),fun _=>⟨qq,k0,by rw[Ht.o];exact k1,k2⟩⟩):P:=h
theorem qat(h:P:=by have HL:=zh (show l=l' from Hrel.o.2 (by rw[zQ zo,zQ (by rw[<-Hlen.o];omega)]));have HB:=zh hO.az;clear hO hX;go_wp2;exact hR.o _ _ ⟨aS (by rw[aO HL.o]),HB.o⟩):P:=h
theorem qau(h:P:=by have hd:(r != 0)=true:=bne_iff_ne.2 he;have HB:=zh (zi (HL1.o he) (hO3.aP hb3).az);clear HL0 HL1 he hX hO3;go_wp2;exact hR.o _ _ ⟨by rw[HB.o.1]<;>rfl,HB.o.2⟩):P:=h
theorem qav(h:P:=by exact⟨_,rfl,_,rfl,hb,ig dY.le HO2.ay hb (je hn)⟩):P:=h
theorem qaw(h:P:=by have hpl:(iQ p out).length=out.length:=rX _ _;have hst:=kK (m:=mk) (l:=iQ p out) (by rw[hpl];exact hO.row) hmem;have hst:=pJ hO.bJ.done hst;have Hk:=zh (zi hO.az (zi hst hall));clear hst hmem hall hpl hO;go_wp2;refine hR.o _ _ ⟨_,rfl,Hk.o.1,?_⟩;rw[show((k:Int)).toNat=k from rfl,Hk.o.2.2];exact Hk.o.2.1):P:=h
theorem qax(h:P:=by exact hR.o _ _ ⟨_,_,rfl,Hk.o.1,Hk.o.2⟩):P:=h
theorem qay(h:P:=by cases ho;exact aJ rfl rfl (aN zg ⟨_,rfl,bE (zR _ _) _,C9 win⟩)):P:=h
theorem qaz(h:P:=by have hl3:=ho.gQ;have hO4:=ho.jP (o':=.loop { rec .done (some c)with state:=.exhausted }) (World.putObj_heap_same (yC.1 hl3).1) (grownBy_putObj' _ _ _);refine⟨some c,_,?_,hstop D c xs _ mk2 L hS hI hO4.tail hm⟩;have:=run_endLoop (P:=P) hl3 (by rw[hrec];simp);rw[this,hrec]):P:=h
theorem qaA(h:P:=by exact⟨_,0,zG _,rfl,rfl,Iff.rfl,zR _ _⟩):P:=h
theorem qaB(h:P:=by have hl3:=ho.gQ;have hO4:=ho.jP (o':=.loop { rec .ready none with state:=.exhausted }) (World.putObj_heap_same (yC.1 hl3).1) (grownBy_putObj' _ _ _);refine⟨none,_,?_,hdone D xs _ mk2 L hS hI hO4.tail hm⟩;have:=run_endLoop (P:=P) hl3 (by rw[hrec];simp);rw[this,hrec]):P:=h
theorem qaC(h:P:=by go_wp2;exact hR.o _ _ ⟨aS (by rw[aA (fun h=>hlen (by rw[h]))]),zR _ _⟩):P:=h
theorem qaD(h:P:=by exact hR.o _ _ ⟨by rw[<-HX.o]<;>rfl,(HO.o.aP hb3).az⟩):P:=h
theorem qaE(h:P:=by exact hX.o _ _ _ zo rfl ⟨k+1,zo,rfl,rfl,HL.o,(hO3.aP hb3).tail.tail⟩):P:=h
theorem qaF(h:P:=by obtain rfl:i=KL.length:=zo;rw[yG]at hr hO;have hv:=bO.JH (m:=m.grow w wr) (l:=KD) (by rw[HE.o,zL,<-HT.o];exact hO.row) (by rw[HE.o];exact hr) hO.free hO.bJ.done;have HF:=zh (zi hO.az hv);clear hO hr hX hv;go_wp2;exact hR.o _ _ ⟨_,rfl,HF.o⟩):P:=h
theorem qaG(h:P:=by refine⟨_,0,zG _,rfl,rfl,?_⟩;have:=(Own.start hm).al (zeroCells175.setIfInBounds 0 (.bool true)) 175;rw[sO,ma,iL,dF (P':=nA (l.take 0)) (by intro b _;simp[nA])]at this;rw[sO,ma,iL,dF (P':=nA (l.take 0)) (by intro b _;simp[nA])];exact this):P:=h
theorem qaH(h:P:=by intro va vc w2 ho2 hg2 hr2;have hO2:=HO1.o.app ho2 hg2 hr2 (zI _);rw[Nat.add_assoc,<-HR.o]at hO2;have HO2:=zh hO2;clear HO1 ho2 hg2 hr2 hO2;go_wp2;refine hX.o _ _ _ zo rfl ⟨i+1,_,_,_,zo,rfl,?_,HR1.o,HO2.o⟩;rw[HR.o,<-Nat.add_assoc];rfl):P:=h
theorem qaI(h:P:=by go_wp2;exact hR.o _ _ ⟨_,rfl,HF.o⟩):P:=h
theorem qaJ(h:P:=by rw[hk]at c2;clear HB HS HD hs hk;go_wp2;exact hR.o _ _ ⟨by rw[HE.o]<;>rfl,HF.o⟩):P:=h
theorem qaK(h:P:=by intro va vc w7 hown7 hgrow7 hrow7;have hO4:=(hO3.au.app hown7 hgrow7 hrow7 zS).bL;have HO4:=zh hO4;clear hown7 hgrow7 hrow7 hO3 hnews hO4;go_wp2;refine hV.o _ _ _ zo rfl ⟨i+1,.slice va (i+1+1) vc,zo,rfl,rfl,?_⟩;rw[HS.o.2,yI];exact HO4.o):P:=h
theorem qaL(h:P:=by exact hR.o _ _ ⟨rfl,hb1⟩):P:=h
theorem qaM(h:P:=by intro win a wr E;have e2:a.tmps.getD 2 undef=.bool (tf (I=(dz I F).i/\F=(dz I F).rf)):=E.fact 4 _ zo rfl;obtain⟨t1,d⟩:=a;obtain rfl:d=[]:=E.defers;refine bY zk (hY.o _ _ E.size ⟨?_,(HO.o.dr.aP E.az).az⟩) _;simp only[yL,xB,e2]):P:=h
theorem qaN(h:P:=by obtain rfl:i=l.length:=zo;have HR:=zh (show fM l from⟨fun f hf=>by obtain⟨j,hj,rfl⟩:=yX hf;exact hA j hj hj,fun j hj=>hB j hj hj⟩);have HB:=zh hO.az;clear hA hB hO hX;go_wp2;exact hR.o _ _ ⟨by rw[aO HR.o]<;>rfl,HB.o⟩):P:=h
theorem qaO(h:P:=by have e7:=RA.k 7;have e83:a.tmps.getD 83 undef=_:=RA.d 55 rfl;cases ho;refine gF rfl (fD rfl rfl e83) (aN (iH.exec (b:=g3) (off:=0) rfl zg hl9 (fun j u hj=>by rw[yZ];exact Mem_cell_w HO2.ay (HC13.o j u hj))) ⟨_,rfl,zR _ _,rfl⟩)):P:=h
theorem qaP(h:P:=by have e3:=RA.k 3;have e25:a.tmps.getD 25 undef=_:=RA.d 11 rfl;cases ho;refine gF rfl (fD rfl rfl e25) (aN (iY.exec (b:=w.heap.size+1) (off:=0) rfl zg hl' (fun j u hj=>by rw[yZ];exact HC'.o _ HO2.ay j u hj)) ⟨_,rfl,zR _ _,rfl⟩)):P:=h
theorem qaQ(h:P:=by rintro e w' ⟨r,rfl,hb,hn⟩;exact⟨_,rfl,_,rfl,hb,ig qZ.le HO2.ay hb (ry hn)⟩):P:=h
theorem qaR(h:P:=by have e2:=RA.k 2;have e25:a.tmps.getD 25 undef=_:=RA.d 11 rfl;cases ho;refine gF rfl (fD rfl rfl e25) (aN (iY.exec (b:=w.heap.size) (off:=0) rfl zg hl (fun j u hj=>by rw[yZ];exact HC.o _ HO2.ay j u hj)) ⟨_,rfl,zR _ _,rfl⟩)):P:=h
theorem qaS(h:P:=by go_wp2;exact hR.o _ _ ⟨rfl,bE (zR _ _) _⟩):P:=h
theorem qaT(h:P:=by intro va vc w7 hown7 hgrow7 hrow7;have HO3:=zh (hO2.app hown7 hgrow7 hrow7 zS).bL.bL;clear hown7 hgrow7 hrow7 hO2 hnews s1 s2 s3;go_wp2;refine hX.o _ _ _ zo rfl ⟨k+1,_,zo,rfl,rfl,hnz.o,?_⟩;rw[hC,HS.o,zL,yI];exact HO3.o):P:=h
theorem qaU(h:P:=by intro w' ho hg;have HF:=zh (HO.o.bN ho hg);have hr:=iY.load (cs:=uG.toList) rfl ho.all;clear HO hg ho;go_wp2;refine yV (v:=.tuple #[.agg uG,.bool false]) (kw results32 rfl hr) rfl ?_;exact hR.o _ _ ⟨HR.o,HF.o.az⟩):P:=h
theorem qaV(h:P:=by go_wp2;exact hX.o _ _ _ zo rfl ⟨i+1,zo,rfl,by rw[HS.o]<;>rfl,HO1.o.Ep _⟩):P:=h
theorem qaW(h:P:=by intro va vc w2 ho2 hg2 hr2;have hO2:=HO1.o.app ho2 hg2 hr2 (zI _);rw[<-HR.o]at hO2;have HO2:=zh hO2;clear HO1 ho2 hg2 hr2 hO2;go_wp2;refine hX.o _ _ _ zo rfl ⟨i+1,_,_,_,zo,rfl,?_,HR1.o,HO2.o⟩;rw[HR.o];rfl):P:=h
theorem qaX(h:P:=by exact⟨none,0,by simp[iQ],by simp[iQ],zG _,fun h=>absurd (by simp[iQ]) h⟩):P:=h
theorem qaY(h:P:=by intro w' ho hg;have HF:=zh (HO.o.bN ho hg);have hr:=iY.load hl ho.all;clear HO hg ho HC;go_wp2;refine yV (v:=.tuple #[.agg D.toArray,.bool true]) (kw results32 rfl hr) rfl ?_;exact hR.o _ _ ⟨HR.o,HF.o.az⟩):P:=h
theorem qaZ(h:P:=by go_wp2;refine yV (v:=.tuple #[]) (by simp[results,results237,go_sem]) rfl ?_;exact hR.o _ _ ⟨rfl,HO.o⟩):P:=h
theorem qa0(h:P:=by exact hR.o _ _ ⟨rfl,(HO.o.aP hb1).az⟩):P:=h
theorem qa1(h:P:=by clear HE HNO c0;go_wp2;exact hR.o _ _ ⟨by rw[HF.o]<;>rfl,HO1.o.az⟩):P:=h
theorem qa2(h:P:=by exact⟨fun h0=>(by rw[hr']at h0;cases h0),fun j hj=>(by rw[hr']at hj;obtain rfl:=zZ.1 hj;exact h)⟩):P:=h
theorem qa3(h:P:=by refine hX.o _ _ _ zo rfl ⟨k+1,zo,rfl,rfl,?_,below_drewN hbel _⟩;have h6:=‹(!l[k].1==l'[k].1)=false/\_›;simp at h6;exact Hrel.o.trans (HD.o.trans ⟨fun h=>h.2,fun h=>⟨He.o.2 zo,h⟩⟩)):P:=h
theorem qa4(h:P:=by intro va vc w1 ho1 hg1 hr1;have hO1:=(HO.o.au.app ho1 hg1 hr1 zS).bL;have HO1:=zh hO1;clear HO hO1 ho1 hg1 hr1 g0 g1 gl;go_wp2;exact hX.o _ _ _ zo rfl ⟨i+1,_,_,zo,rfl,rfl,HV.o,HO1.o⟩):P:=h
theorem qa5(h:P:=by simpa using this):P:=h
theorem qa6(h:P:=by go_wp2;exact hR.o _ _ ⟨_,rfl,HBL.o,Hh.o⟩):P:=h
theorem qa7(h:P:=by go_wp2;refine⟨zS,.inl ⟨_,_,rfl,run_takeDeferred hbl,?_⟩⟩;exact⟨.slice xa xs.length xc,by simp[results,results140,go_sem],hR.o _ _ ⟨_,xs,rfl,Hk.o.1,Hk.o.2.1,Hk.o.2.2⟩⟩):P:=h
theorem qa8(h:P:=by exact⟨_,0,zG _,rfl,rfl,rfl,zR _ _⟩):P:=h
theorem qa9(h:P:=by cases ho;refine aJ rfl rfl (aN (iH.exec (b:=w.heap.size+1) (off:=0) rfl zg hl1' (fun j u hj=>by rw[yZ];exact HC'.o _ HO2.ay j u (by simpa using HD2.o j u hj))) ⟨_,rfl,zR _ _,rfl⟩)):P:=h
theorem qba(h:P:=by simp only[yA,forall_eq_or_imp];exact⟨ho,fun it hi=>bF.nP (h.ok it (zU _ hi)) fun k hk=>hg.block k (bF.lt (h.ok it (zU _ hi)) hk) (fun e=>hap.1 it hi g rfl (by cases e;exact hk))⟩):P:=h
theorem qbb(h:P:=by go_wp2;refine hY.o _ _ _ zo rfl ⟨k+1,_,zo,rfl,rfl,?_⟩;rw[hD1,HS.o,HZ1.o,zL,yI];exact HO3.o):P:=h
theorem qbc(h:P:=by cases ho;refine aJ rfl rfl (aN (iH.exec (b:=w.heap.size) (off:=0) rfl zg hl1 (fun j u hj=>by rw[yZ];exact HC.o _ HO2.ay j u (by simpa using HD1.o j u hj))) ⟨_,rfl,zR _ _,rfl⟩)):P:=h
theorem qbd(h:P:=by rintro e w' ⟨ri,rf,rfl,hb,hn⟩;rw[H1.o.1]at hn;exact⟨_,rfl,_,rfl,hb,jV (ds:=[2]) dY.le HO2.ay zS (fun d hd=>(RA.ik d (by simp at hd;subst hd;kernel_rfl)).2.2) hb (je hn)⟩):P:=h
theorem qbe(h:P:=by refine HB1.o.mono ?_;rintro e w2 ⟨rfl,hb2⟩;have Hb:=zh (HO1.o.aP hb2).az;clear HO1 hb2 HB1 q0 q1;go_wp2;exact hR.o _ _ ⟨aS (dh ⟨fun h=>⟨E1.o,h⟩,fun h=>h.2⟩),Hb.o⟩):P:=h
theorem qbf(h:P:=by have e5:=RA.k 5;cases ho;refine aJ rfl rfl (aN (iH.exec (b:=w.heap.size+1+1) (off:=0) rfl zg hl2 (fun j u hj=>by rw[yZ];exact HC2.o _ HO2.ay j u hj)) ⟨_,rfl,zR _ _,rfl⟩)):P:=h
theorem qbg(h:P:=by exact hR.o _ _ ⟨by rw[HL2.o]<;>rfl,HO2.o.az⟩):P:=h
theorem qbh(h:P:=by have e4:=RA.k 4;cases ho;refine aJ rfl rfl (aN (iH.exec (b:=w.heap.size+1) (off:=0) rfl zg hl1 (fun j u hj=>by rw[yZ];exact HC1.o _ HO2.ay j u hj)) ⟨_,rfl,zR _ _,rfl⟩)):P:=h
theorem qbi(h:P:=by intro va vc w2 ho2 hg2 hr2;have HO2:=zh (HO1.o.au.app ho2 hg2 hr2 zS).bL;clear HO1 ho2 hg2 hr2 g0 g1 gl;go_wp2;exact hX.o _ _ _ zo rfl ⟨i+1,_,_,zo,rfl,rfl,HV.o,HO2.o⟩):P:=h
theorem qbj(h:P:=by exact⟨_,0,zG _,rfl,rfl,HO.o⟩):P:=h
theorem qbk(h:P:=by have e3:=RA.k 3;cases ho;refine aJ rfl rfl (aN (iH.exec (b:=w.heap.size) (off:=0) rfl zg hl0 (fun j u hj=>by rw[yZ];exact HC0.o _ HO2.ay j u hj)) ⟨_,rfl,zR _ _,rfl⟩)):P:=h
theorem qbl(h:P:=by exact⟨_,0,zG _,zG _,rfl,rfl,rfl,HO.o⟩):P:=h
theorem qbm(h:P:=by clear ha hb;go_wp2;exact hX.o _ _ _ zo rfl ⟨k+1,zo,rfl,rfl,Hrel.o.trans (HD.o.trans ⟨fun h=>h.elim (fun h=>absurd h.2 (by have:=Hb.o;omega)) id,.inr⟩),HO2.o⟩):P:=h
theorem qbn(h:P:=by clear ha;go_wp2;exact hX.o _ _ _ zo rfl ⟨k+1,zo,rfl,rfl,Hrel.o.trans (HD.o.trans ⟨fun h=>h.elim (fun h=>absurd h.1 (by have:=Ha.o;omega)) id,.inr⟩),HO2.o⟩):P:=h
theorem qbo(h:P:=by rename_i hc;obtain⟨e,he,e2⟩:=ih h;exact⟨e,by simp[he],by rw[zJ hc];exact e2⟩):P:=h
theorem qbp(h:P:=by refine hR.o _ _ ⟨aS ?_,below_drewN hbel _⟩;rw[aA];intro h;have h5:=He.o.1 (HD.o.1 (Hrel.o.1 h)).1;have h6:=‹(!l[k].1==l'[k].1)=true\/_›;simp[h5]at h6):P:=h
theorem qbq(h:P:=by rw[Oper.semAt_plain F _ _ (by rw[ho];intro c hc';cases hc')];simp[execOp,ho,resolve,invoke,builtin,hs,hx,hr,Result.andThen];exact hK _ _ (h va vc w' h2 h3 h4)):P:=h
theorem qbr(h:P:=by have ht:=aA hc;rw[ht]at k1;rw[ht,zJ zS,yR]at hsu;have Hsu:=zh hsu;clear hsu ht;go_wp2;refine hY.o _ _ _ zo rfl ⟨q+1,v,zo,rfl,rfl,?_⟩;rw[Hsu.o];exact hO2):P:=h
theorem qbs(h:P:=by all_goals exact hR.o _ _ ⟨by rw[aA HR.o]<;>rfl,HB.o⟩):P:=h
theorem qbt(h:P:=by rw[aA h1];have HB:=zh hO.az;have HE2:=zh (show ¬s.gB from fun h=>h1 (HE.o.1 h).1);clear hO HE h1 HT;go_wp2;exact hR.o _ _ ⟨aS (by rw[aA HE2.o]),HB.o⟩):P:=h
theorem qbu(h:P:=by have e63:a.tmps.getD 63 undef=_:=RA.d 7 rfl;cases ho;exact wy rfl rfl rfl e63 rfl):P:=h
theorem qbv(h:P:=by go_wp2;exact hX.o _ _ _ zo rfl ⟨i+1,zo,rfl,rfl,HO2.o⟩):P:=h
theorem qbw(h:P:=by exact hX.o _ _ rfl ⟨by rw[HP.o]<;>rfl,HO.o.aP hb1⟩):P:=h
theorem qbx(h:P:=by obtain⟨a,c,h1,h2,h3,h4⟩:=h;refine⟨a,c,h1,h2,h3,fun hne=>?_⟩;obtain⟨b,off,h5,h6⟩:=h4 hne;exact⟨b,off,h5,fun i hi=>hr _ _ _ (h6 i hi)⟩):P:=h
theorem qby(h:P:=by exact⟨_,rfl,_,rfl,hb,jV (ds:=[1,3]) dY.le HO2.ay zS (fun d hd=>(RA.ik d (by simp at hd;rcases hd with rfl|rfl<;>kernel_rfl)).2.2) hb (je hn)⟩):P:=h
theorem qbz(h:P:=by go_wp2;exact hR.o _ _ ⟨by rw[aO HR.o]<;>rfl,HB.o⟩):P:=h
theorem qbA(h:P:=by go_wp2;exact hR.o _ _ ⟨by rw[HX.o]<;>rfl,HO.o.az⟩):P:=h
theorem qbB(h:P:=by go_wp2;exact hR.o _ _ ⟨by rw[HF.o]<;>rfl,HO.o.az⟩):P:=h
theorem qbC(h:P:=by clear hO1 HO hn HN;go_wp2;refine yV (v:=.tuple #[]) (by simp[results,results137,go_sem]) rfl ?_;refine hR.o _ _ ⟨rfl,?_⟩;rw[HB.o];exact HO1.o):P:=h
theorem qbD(h:P:=by exact⟨_,0,zG _,rfl,rfl,rfl,HO.o⟩):P:=h
theorem qbE(h:P:=by exact hY.o _ _ rfl ⟨_,_,rfl,by go_simp,by go_simp,by go_simp,by go_simp,(by simp<;>omega),(by simp<;>omega),(bE (bE (zR _ _) _) _).drew⟩):P:=h
theorem qbF(h:P:=by go_wp2;refine hX.o _ _ _ zo rfl ⟨k+1,zo,rfl,rfl,hrel.trans (Hs.o.trans ⟨fun h=>h.2,fun h=>⟨hrel2.2 ?_,h⟩⟩),hbel2⟩;rw[zQ zo];trivial):P:=h
theorem qbG(h:P:=by go_wp2;exact hX.o _ _ _ zo rfl ⟨i+1,zo,rfl,rfl,by rw[HE.o];exact HO1.o⟩):P:=h
theorem qbH(h:P:=by go_wp2;exact hR.o _ _ ⟨aS (by rw[aA HE3.o]),HB.o⟩):P:=h
theorem qbI(h:P:=by rw[aA hwf];have Hk:=zh (zi hwf (zi hmin hnot));clear hmin hnot hwf;go_wp2;exact hR.o _ _ ⟨aS (by rw[aA (fun h=>Hk.o.1 h.wf)]),HO2.o.az⟩):P:=h
theorem qbJ(h:P:=by rw[aA e1];have Hb:=zh hO1.az;have E1:=zh e1;clear HO hO1 hb1 HA HB e1;go_wp2;exact hR.o _ _ ⟨aS (by rw[aA (fun h=>E1.o h.1)]),Hb.o⟩):P:=h
theorem qbK(h:P:=by have Hk:=zh (zi hO.az (zi hst hfi));clear hst hmem hpl hO hpe hfi hout;go_wp2;exact hR.o _ _ ⟨_,out,rfl,Hk.o.1,Hk.o.2.1,Hk.o.2.2⟩):P:=h
theorem qbL(h:P:=by have HC:=zh (show tc=tf s.gB by rw[<-hc];exact(dh HE2.o).symm);clear hc;go_wp2;exact hR.o _ _ ⟨aS (by rw[<-HC.o]),HB.o⟩):P:=h
theorem qbM(h:P:=by rintro e w' ⟨r,rfl,hb,hr⟩;exact⟨_,rfl,_,rfl,hb,ig (R:=fun M u=>bO (bG M n) M u L2) (fun k _ h=>bO.iU k h) HO2.ay hb hr⟩):P:=h
theorem qbN(h:P:=by rintro e w' ⟨r,rfl,hb,hr⟩;exact⟨_,rfl,_,rfl,hb,ig (R:=fun M u=>bO (bG M n) M u L1) (fun k _ h=>bO.iU k h) HO2.ay hb hr⟩):P:=h
theorem qbO(h:P:=by refine HS.o.mono ?_;rintro e w3 ⟨rfl,hb3⟩;have hb4:=(HO2.o.aP hb3).az;go_wp2;exact hR.o _ _ ⟨aS (by rw[dh Hk.o.1]),hb4⟩):P:=h
theorem qbP(h:P:=by have:=congrArg List.length hout;rw[List.length_take]at this;omega):P:=h
theorem qbQ(h:P:=by split<;>split<;>omega):P:=h
theorem qbR(h:P:=by subst hji;exact hy.wpOp hi hS ⟨.inl rfl,H⟩):P:=h
theorem qbS(h:P:=by exact hX.o _ _ _ zo rfl ⟨k+1,zo,rfl,rfl,HL0.o trivial,HO4.o⟩):P:=h
theorem qbT(h:P:=by cases ho;refine aJ rfl rfl (aN (iY.exec (b:=b') (off:=off'+k*18) rfl zg hl2 (HC2.o _ HO2.ay)) ⟨_,rfl,zR _ _,rfl⟩)):P:=h
theorem qbU(h:P:=by intro hj0;refine⟨Mem_cell_w hmr2 (h10 (j-1) zo).2.1,?_⟩;simp[nM,show 0<j/\j<=s.aH.length from⟨hj0,zo⟩]):P:=h
theorem qbV(h:P:=by clear ha hb;go_wp2;exact hR.o _ _ ⟨aS (by rw[aO (HM.o.2 (Hrel.o.2 (HD.o.2 (.inl ⟨Ha.o,Hb.o⟩))))]),HO2.o.az⟩):P:=h
theorem qbW(h:P:=by cases ho;refine aJ rfl rfl (aN (iY.exec (b:=b) (off:=off+k*18) rfl zg hl1 (HC1.o _ HO2.ay)) ⟨_,rfl,zR _ _,rfl⟩)):P:=h
theorem qbX(h:P:=by go_wp2;exact hX.o _ _ _ zo rfl ⟨k+1,zo,rfl,rfl,by rw[Hrel.o,HD.o,zJ (by rw[aA Hx.o];simp)],below_drewN hbel _⟩):P:=h
theorem qbY(h:P:=by go_wp2;exact hR.o _ _ ⟨0,rfl,HB.o,HC.o⟩):P:=h
theorem qbZ(h:P:=by exact⟨_,0,zG _,rfl,rfl,fun j hj h=>absurd h (xY _),HO.o⟩):P:=h
theorem qb0(h:P:=by refine hZ.o _ _ _ zo rfl ⟨j+1,zo,rfl,rfl,?_⟩;rw[Hgo.o,zJ (by rw[Int.toNat_natCast];omega)];exact hO6.al' _):P:=h
theorem qb1(h:P:=by refine hR.o _ _ ⟨_,[],by rw[aO hwf];rfl,Hk.o.1.az,jd _,zS,fun _=>⟨mM,fun x=>?_⟩,fun _=>rfl⟩;rw[Hk.o.2]):P:=h
theorem qb2(h:P:=by go_wp2;exact hR.o _ _ ⟨dU (by rw[hrel,zQ zo];rfl),hbel⟩):P:=h
theorem qb3(h:P:=by all_goals exact hY.o _ _ rfl ⟨rfl,rfl⟩):P:=h
theorem qb4(h:P:=by have:=@ih c (by simpa using h) (by simpa [bt]using hb);simp only[List.set_cons_succ,List.count_cons];omega):P:=h
theorem qb5(h:P:=by rw[zH h,List.flatMap_append];simp):P:=h
theorem qb6(h:P:=by rintro z vs w1-⟨rfl,hb⟩;simp[aX,lk];have Hb:=zh hb;clear hb HO;go_wp2;exact hR.o _ _ ⟨rfl,Hb.o⟩):P:=h
theorem qb7(h:P:=by refine(Cs _ _ _).mono ?_;rintro e w7 ⟨rfl,rfl⟩;rw[HS.o];go_wp2;exact hR.o _ _ ⟨_,rfl,HO5.o,HX.o⟩):P:=h
theorem qb8(h:P:=by injection h with h1 h2 h3;exact⟨_,h1⟩):P:=h
theorem qb9(h:P:=by exact hR.o _ _ ⟨by rw[HX.o]<;>rfl,(HO.o.aP hb1).az⟩):P:=h
theorem qca(h:P:=by rw[List.nodup_append];exact⟨h.nodup,zS,fun a ha b hb e=>hx (by rw[zZ.1 hb]at e;rw[<-e];exact ha)⟩):P:=h
theorem qcb(h:P:=by simp only[Op.eqFields];simp[part,isAgg,go_sem,e2];by_cases h1:a=a'<;>by_cases h2:b=b'<;>simp[h1,h2]):P:=h
theorem qcc(h:P:=by have HQ:=zh hq;clear HLS hq;go_wp2;exact hY.o _ _ _ zo rfl ⟨j+1,zo,rfl,rfl,by rw[HQ.o];exact HO2.o⟩):P:=h
theorem qcd(h:P:=by exact hR.o _ _ ⟨by rw[HX.o]<;>rfl,(hO1.aP hb2).az⟩):P:=h
theorem qce(h:P:=by exact hR.o _ _ ⟨aS (by rw[aA HL.o]),(hO3.aP hb3).az⟩):P:=h
theorem qcf(h:P:=by obtain⟨x,y,h1,h2,h3,h4⟩:=k;exact⟨x,y,Mem_cell_le h h1,Mem_cell_le h h2,h3.le h hr,h4.le h hr⟩):P:=h
theorem qcg(h:P:=by go_wp2;exact hR.o _ _ ⟨aS (by rw[aA HL.o]),HO.o.az⟩):P:=h
theorem qch(h:P:=by simp only[yA,forall_eq_or_imp];exact⟨fun k hk=>h.gV _ (yF ..) k hk,fun it hi=>h.gV it (zU _ hi)⟩):P:=h
theorem qci(h:P:=by simp[h']at h0 h1;rw[h0]at h1;cases h1):P:=h
theorem qcj(h:P:=by rw[h1,zJ];intro h;obtain⟨y,hy,hp⟩:=List.findIdx_lt_length.1 h;exact h2 y hy (by simpa using hp)):P:=h
theorem qck(h:P:=by exact hY.o _ _ _ zo rfl ⟨ou,ag,k+1,zo,rfl,hlu,rfl,hO,hs2,hag,fun h=>⟨(hcl h).1,hclk zS h⟩⟩):P:=h
theorem qcl(h:P:=by exact hR.o _ _ ⟨_,[],by rw[aA Hk.o.2];rfl,Hk.o.1.az,jd _,zS,fun h=>absurd h Hk.o.2,fun _=>rfl⟩):P:=h
theorem qcm(h:P:=by exact hR.o _ _ ⟨rfl,zR _ _⟩):P:=h
theorem qcn(h:P:=by go_wp2;exact hR.o _ _ ⟨by rw[HF.o]<;>rfl,HB.o⟩):P:=h
theorem qco(h:P:=by exact wh (S:=fun v=>v∈seen) h.start (fun v hv b hb=>(hd v hv).2 b hb) (fun v hv=>(hd v hv).1)):P:=h
theorem qcp(h:P:=by simp[Array.getElem?_eq_none h']at h1):P:=h
theorem qcq(h:P:=by go_wp2;exact hR.o _ _ ⟨dU (by rw[Hrel.o,HD.o,zK (aO Hx.o)]),dD hb0 (below_drewN hbel _)⟩):P:=h
theorem qcr(h:P:=by clear hO;go_wp2;exact hR.o _ _ ⟨aS (by rw[aA (fun h=>HN.o (Hrel.o.1 (HM.o.1 h)))]),Hk.o⟩):P:=h
theorem qcs(h:P:=by obtain⟨es,clock,hb,F,hs,hD⟩:=h;exact⟨_,hb,fun w' b' h'=>⟨es,clock,h',F,hs,hD⟩⟩):P:=h
theorem qct(h:P:=by have HO3:=zh hO2;clear hO2 hY HS;go_wp2;exact hX.o _ _ _ zo rfl ⟨i+1,zo,rfl,rfl,HO3.o⟩):P:=h
theorem qcu(h:P:=by rw[Array.setIfInBounds_comm _ _ hji];exact h3.2.2):P:=h
theorem qcv(h:P:=by refine⟨_,0,zG _,rfl,rfl,?_⟩;rw[dF (P':=nA (l.take k)) (by intro b _;simp)];exact hO'):P:=h
theorem qcw(h:P:=by exact hX.o _ _ _ zo rfl ⟨k+1,_,_,zo,rfl,rfl,by rw[hE];exact HV.o.1,HV.o.2.1,HV.o.2.2⟩):P:=h
theorem qcx(h:P:=by exact hR.o _ _ ⟨dU (by rw[hrel,HD.o,zK ⟨by assumption,by assumption⟩]),bE hbel _⟩):P:=h
theorem qcy(h:P:=by exact⟨_,0,zG _,rfl,rfl,fun j hj h=>absurd h (xY _),fun j hj h=>absurd h (xY _),HO.o⟩):P:=h
theorem qcz(h:P:=by exact hX.o _ _ _ zo rfl ⟨3,zo,rfl,rfl,fun _=>H1.o zo,fun h=>H2.o zo,fun h=>zS,HO2.o⟩):P:=h
theorem qcA(h:P:=by rw[List.findIdx_eq h1];exact⟨by simpa using h3,fun j hj=>by simpa using h4 j zo hj⟩):P:=h
theorem qcB(h:P:=by rintro e w' ⟨ri,rf,rfl,hb,hn⟩;exact⟨_,rfl,_,rfl,hb,ig dY.le HO3.ay hb (je hn)⟩):P:=h
theorem qcC(h:P:=by go_wp2;exact hX.o _ _ _ zo rfl ⟨i+1,_,out,mk,zo,rfl,rfl,HO.o.2.1,HO.o.1,HO.o.2.2⟩):P:=h
theorem qcD(h:P:=by have HO3:=zh hO3;clear hO3;go_wp2;exact hY.o _ _ _ zo rfl ⟨j+1,zo,rfl,rfl,HO3.o⟩):P:=h
theorem qcE(h:P:=by exact hX.o _ _ _ zo rfl ⟨2,zo,rfl,rfl,fun _=>H1.o zo,fun h=>zS,fun h=>zo,HO2.o⟩):P:=h
theorem qcF(h:P:=by have e50:a.tmps.getD 50 undef=_:=RA.d 22 rfl;cases ho;exact wy rfl rfl rfl e50 rfl):P:=h
theorem qcG(h:P:=by have e39:a.tmps.getD 39 undef=_:=RA.d 11 rfl;cases ho;exact wy rfl rfl rfl e39 rfl):P:=h
theorem qcH(h:P:=by cases ho;refine aJ rfl rfl (aN (by go_simp;intro hh;omega) ⟨_,rfl,zR _ _,rfl⟩)):P:=h
theorem qcI(h:P:=by rw[show(Ls.map gH).take Ls.length=Ls.map gH by rw[<-xC (f:=gH),yG],<-h,yG]):P:=h
theorem qcJ(h:P:=by exact⟨_,0,_,[],zG _,rfl,rfl,.nil _,HO.o⟩):P:=h
theorem qcK(h:P:=by exact .inl (.inl h)):P:=h
theorem qcL(h:P:=by exact hX.o _ _ _ zo rfl ⟨1,zo,rfl,rfl,fun _=>zS,fun h=>zo,fun h=>zo,HO2.o⟩):P:=h
theorem qcM(h:P:=by exact hR.o _ _ ⟨_,rfl,Hk.o.1.az,by rw[OI Hk.o.2];exact aW Hk.o.1.done hl0⟩):P:=h
theorem qcN(h:P:=by rintro e w' ⟨v,rfl,hb,hn⟩;exact⟨_,rfl,_,rfl,hb,ig Dy.le HO2.ay hb hn⟩):P:=h
theorem qcO(h:P:=by intro b hb k h1 h2;exact hap.1 b hb k h1 h2):P:=h
theorem qcP(h:P:=by exact hR.o _ _ ⟨none,rfl,Hk.o.1,Hk.o.2⟩):P:=h
theorem qcQ(h:P:=by exact .inl (.inl (.inr h))):P:=h
theorem qcR(h:P:=by exact .inl (.inl (.inl h))):P:=h
theorem qcS(h:P:=by all_goals exact hY.o _ _ _ zo rfl ⟨i+1,zo,rfl,by rw[HHS.o]<;>rfl,HO.o⟩):P:=h
theorem qcT(h:P:=by go_wp2;refine hR.o _ _ ⟨aS ?_,hbel⟩;rw[aO (hrel.2 (by rw[zQ zo];simp))]):P:=h
theorem qcU(h:P:=by exact .inr (.inr (.inl h.symm))):P:=h
theorem qcV(h:P:=by go_wp2;exact hY.o _ _ _ zo rfl ⟨j+1,zo,rfl,rfl,HA2.o,(HO.o.Ep _).tail⟩):P:=h
theorem qcW(h:P:=by rw[getD_set_ne true hjk]at hun;exact hun):P:=h
theorem qcX(h:P:=by rintro e w' ⟨r,rfl,hb,hst⟩;exact⟨_,rfl,_,rfl,hb,SL HO2.ay hb hst⟩):P:=h
theorem qcY(h:P:=by obtain⟨x,hx⟩:=hpre;rw[<-hx,yK (yB.1 HC.o.2.2.1).1];exact HC.o.2.2.1):P:=h
theorem qcZ(h:P:=by obtain⟨D,hD,h1⟩:=h.ex;exact⟨D,fun w b hb=>(hD w b hb).mono hn,h1⟩):P:=h
theorem qc0(h:P:=by exact⟨u,by rw[yK (by rw[h.len];omega)];exact h1,by rw[xM c];exact h2⟩):P:=h
theorem qc7(h:P:=by clear hb2 HO1 HK hcr2 hh;go_wp2;exact hR.o _ _ ⟨by rw[HV.o];rfl,hF.o⟩):P:=h
theorem qc8(h:P:=by simp only[zZ]at h;subst h;exact⟨by simp;omega,by simpa using h256⟩):P:=h
theorem qc9(h:P:=by rename_i hc;exact⟨x,zS,by rw[zK hc]⟩):P:=h
theorem qda(h:P:=by exact⟨_,0,zG _,rfl,rfl,Iff.rfl,HO.o⟩):P:=h
theorem qdb(h:P:=by exact hR.o _ _ ⟨_,rfl,HO5.o.az,HC.o⟩):P:=h
theorem qdc(h:P:=by exact h.elim .inl (fun h=>.inr (.inl h))):P:=h
theorem qdd(h:P:=by exact⟨_,_,hr,.inr ⟨rfl,mk2,_,⟨.exit id,L2,hi,rfl⟩,ho4,hm⟩⟩):P:=h
theorem qde(h:P:=by simp[aA h];exact gK x):P:=h
theorem qdf(h:P:=by rw[yN (by rw[h.len];omega)];simp[h.len]):P:=h
theorem qdg(h:P:=by have:f=g:=funext e;rw[<-this];exact h):P:=h
theorem qdh(h:P:=by exact⟨_,_,hr,.inr ⟨rfl,mk2,_,⟨.goto t,L2,hi,rfl⟩,ho4,hm⟩⟩):P:=h
theorem qdi(h:P:=by exact .inr (.inl h)):P:=h
theorem qdj(h:P:=by go_wp2;exact hR.o _ _ ⟨dU (by rw[Hrel.o,zQ zo];rfl),dD hb0 hbel⟩):P:=h
theorem qdk(h:P:=by clear HE e1;go_wp2;exact hR.o _ _ ⟨by rw[HX.o]<;>rfl,HO1.o.az⟩):P:=h
theorem qdl(h:P:=by exact hR.o _ _ ⟨_,rfl,Hk.o.1.az,by rw[bX,aA Hk.o.2];exact jd _⟩):P:=h
theorem qdm(h:P:=by clear hown;go_wp2;exact hR.o _ _ ⟨by rw[<-HT.o]<;>rfl,HB.o⟩):P:=h
theorem qdn(h:P:=by rw[List.reverse_cons,bM,yN (by rw[dA];simp),dA];simp[Nat.add_comm]):P:=h
theorem qdo(h:P:=by have:=GR hfirst HW.o.2.2 z hz;simp[fo,ByteArray.size,maxLen];omega):P:=h
theorem qdp(h:P:=by exact⟨_,_,hr,.inr ⟨rfl,mk2,_,⟨.ret,L2,hi,rfl⟩,ho4,hm⟩⟩):P:=h
theorem qdq(h:P:=by exact hR.o _ _ ⟨_,C,rfl,Hk.o.1,Hk.o.2.1,Hk.o.2.2.1,Hk.o.2.2.2⟩):P:=h
theorem qdr(h:P:=by exact List.prefix_append _ _):P:=h
theorem qds(h:P:=by exact hR.o _ _ ⟨_,rfl,HO5.o,HC.o⟩):P:=h
theorem qdt(h:P:=by exact hR.o _ _ ⟨_,rfl,HO2.o.az,HE3.o (H1.o zo) (H2.o zo) zD⟩):P:=h
theorem qdu(h:P:=by go_wp2;exact hX.o _ _ _ zo rfl ⟨i+1,zo,rfl,rfl,HX2.o,HO.o⟩):P:=h
theorem qdv(h:P:=by go_wp2;exact hR.o _ _ ⟨rfl,rfl⟩):P:=h
theorem qdw(h:P:=by go_wp2;exact hR.o _ _ ⟨dU (by rw[Hrel.o,zQ zo];rfl),hbel⟩):P:=h
theorem qdx(h:P:=by exact⟨_,_,hr,.inl ⟨rfl,mk2,_,⟨L2,hi,rfl⟩,ho4,hm⟩⟩):P:=h
theorem qdy(h:P:=by rw[h1];unfold maxLen;omega):P:=h
theorem qdz(h:P:=by exact⟨_,0,_,xs,mk,zG _,rfl,rfl,by simpa using HV.o,HO.o⟩):P:=h
theorem qdA(h:P:=by exact hR.o _ _ ⟨by rw[aA HR.o]<;>rfl,(HO.o.aP hb4).az⟩):P:=h
theorem qdB(h:P:=by exact hR.o _ _ ⟨by rw[aA HR.o]<;>rfl,(HO.o.aP hb2).az⟩):P:=h
theorem qdC(h:P:=by simp only[yO];omega):P:=h
theorem qdD(h:P:=by exact .inr (.inr h)):P:=h
theorem qdE(h:P:=by show k+1<=(cu cf dl lo hi s o cuts.length).1.length;omega):P:=h
theorem qdF(h:P:=by obtain⟨x,y,-,h4,-,h5⟩:=h3.v;exact⟨⟨x,h4⟩,y,h5⟩):P:=h
theorem qdG(h:P:=by obtain⟨h1,h2⟩:=yB.1 h;rw[<-h2,List.set_getElem_self]):P:=h
theorem qdH(h:P:=by exact aJ rfl rfl (aN zg ⟨_,rfl,bE (zR _ _) _,azn win⟩)):P:=h
theorem qdI(h:P:=by have:=HO5.o;simpa [dO]using this):P:=h
theorem qdJ(h:P:=by go_wp2;refine hV.o _ _ rfl ⟨?_,rfl⟩;rw[<-Hhi.o];rfl):P:=h
theorem qdK(h:P:=by exact⟨_,0,_,xs,zG _,rfl,rfl,by simpa using HV.o,HO.o⟩):P:=h
theorem qdL(h:P:=by exact hR.o _ _ ⟨aS (by rw[aA HX.o]),(HO.o.aP hb2).az⟩):P:=h
theorem qdM(h:P:=by exact List.prefix_rfl):P:=h
theorem qdN(h:P:=by go_wp2;exact hR.o _ _ ⟨aS (by rw[aA HX2.o]),HO.o.az⟩):P:=h
theorem qdO(h:P:=by exact hR.o _ _ ⟨by rw[HX.o]<;>rfl,(hO2.aP hb3).az⟩):P:=h
theorem qdP(h:P:=by exact hR.o _ _ ⟨by rw[HL.o]<;>rfl,(hO3.aP hb3).az⟩):P:=h
theorem qdQ(h:P:=by have:=congrArg A7 h;rw[(qy _).1,(qy _).1]at this;omega):P:=h
theorem qdR(h:P:=by go_wp2;exact hR.o _ _ ⟨by rw[aA HR.o]<;>rfl,HB.o⟩):P:=h
theorem qdS(h:P:=by go_wp2;exact hR.o _ _ ⟨aS (by rw[aA HX.o]),HO.o.az⟩):P:=h
theorem qdT(h:P:=by go_wp2;exact hR.o _ _ ⟨aS (by rw[HX.o,HA2.o]),HB.o⟩):P:=h
theorem qdU(h:P:=by exact⟨v,s,e,hv.mono zo,by rw[lm hv.ht zo];exact hb⟩):P:=h
theorem qdV(h:P:=by exact⟨_,0,zG _,rfl,rfl,by rw[HE.o,HKP.o];rfl,HO2.o⟩):P:=h
theorem qdW(h:P:=by rintro rfl;exact aL zk hj):P:=h
theorem qdX(h:P:=by intro h;simp[h]at hlt):P:=h
theorem qdY(h:P:=by unfold maxLen;omega):P:=h
theorem qdZ(h:P:=by simp[Value.oneCell']):P:=h
theorem qd0(h:P:=by go_simp;first|exact⟨rfl,rfl⟩|rfl):P:=h
theorem qd1(h:P:=by go_simp;first|done|exact⟨rfl,rfl⟩|rfl):P:=h
theorem qd2(h:P:=by simpa using hu):P:=h
theorem qd3(h:P:=by intro h;simp[h]at hlt'):P:=h
theorem qd4(h:P:=by simp;omega):P:=h
theorem qd5(h:P:=by simpa using hl2):P:=h
theorem qd6(h:P:=by intro h;simp[h]at hlt2):P:=h
theorem qd7(h:P:=by simpa using hl1):P:=h
theorem qd8(h:P:=by intro h;have:=HVL.o;rw[h]at this;simp at this;omega):P:=h
theorem qd9(h:P:=by simp[results,results62,go_sem,k0,k1,k2,k3,k4]):P:=h
theorem qea(h:P:=by simpa using hl):P:=h
theorem qeb(h:P:=by simpa using hj):P:=h
theorem qec(h:P:=by intro h;simp[h]at hs):P:=h
theorem qed(h:P:=by have hc:=fun w'=>hcf.o (bB A' pa) (bB B' pb) w';go_simp;rfl):P:=h
theorem qee(h:P:=by have:=(tY.eq _ _ trivial trivial).1 e;omega):P:=h
theorem qef(h:P:=by simpa using E.size):P:=h
theorem qeg(h:P:=by simp at hd;omega):P:=h
theorem qeh(h:P:=by intro h;simp[h]at hlj):P:=h
theorem qei(h:P:=by rintro rfl;exact rP zk hj):P:=h
theorem qej(h:P:=by go_simp):P:=h
theorem qek(h:P:=by simp at hd;rcases hd with rfl|rfl|rfl|rfl<;>kernel_rfl):P:=h
theorem qel(h:P:=by simp[hx]):P:=h
theorem qem(h:P:=by go_simp;exact⟨rfl,rfl⟩):P:=h
theorem qen(h:P:=by rw[h]at hr;cases hr):P:=h
theorem qeo(h:P:=by simpa using h):P:=h
theorem qep(h:P:=by simp at hd;rcases hd with rfl|rfl<;>kernel_rfl):P:=h
theorem qeq(h:P:=by intro h;simp[h]at hlt3):P:=h
theorem qer(h:P:=by simp at hd;subst hd;kernel_rfl):P:=h
theorem qes(h:P:=by have:=Hxy.o;omega):P:=h
theorem qet(h:P:=by have:=HL.o;omega):P:=h
theorem qeu(h:P:=by intro h;have:=congrArg List.length h;simp[kE]at this;rw[this]at hs;simp at hs):P:=h
theorem qev(h:P:=by cases h):P:=h
theorem qew(h:P:=by rw[e];rfl):P:=h
theorem qex(h:P:=by simp[results,results97,go_sem,g1]):P:=h
theorem qey(h:P:=by simp[hy]):P:=h
theorem qez(h:P:=by rw[HX.o]):P:=h
theorem qeA(h:P:=by simpa using hlt):P:=h
theorem qeB(h:P:=by intro h;rw[h]at hkt;simp at hkt):P:=h
theorem qeC(h:P:=by simpa using hi):P:=h
theorem qeD(h:P:=by simpa using h1):P:=h
theorem qeE(h:P:=by simpa [kE]using hs):P:=h
theorem qeF(h:P:=by simpa using qR hj):P:=h
theorem qeG(h:P:=by simpa using qM hj):P:=h
theorem qeH(h:P:=by have:=H.yw;omega):P:=h
theorem qeI(h:P:=by go_simp;rfl):P:=h
theorem qeJ(h:P:=by go_simp;first|done|rfl|exact E8 _|simp[E8]):P:=h
theorem qeK(h:P:=by simp[results,results92,go_sem,k0,k1,k2,k3,k4,k5]):P:=h
theorem qeL(h:P:=by simp[hk]):P:=h
theorem qeM(h:P:=by show j<out.length;omega):P:=h
theorem qeN(h:P:=by intro h;simp[h]at hpos):P:=h
theorem qeO(h:P:=by simpa using h3):P:=h
theorem qeP(h:P:=by simpa using h2):P:=h
theorem qeQ(h:P:=by simpa using c):P:=h
theorem qeR(h:P:=by simp[h]):P:=h
theorem qeS(h:P:=by have:=HL.o;have:=HT.o;unfold maxLen;omega):P:=h
theorem qeT(h:P:=by simp[World.setCell]):P:=h
theorem qeU(h:P:=by simp[Lib.byteCells,ByteArray.size];omega):P:=h
theorem qeV(h:P:=by rw[pU];omega):P:=h
theorem qeW(h:P:=by rw[ih.len];exact c):P:=h
theorem qeX(h:P:=by simp[results,results240,go_sem,g5]):P:=h
theorem qeY(h:P:=by simp[results,results197,go_sem,g1]):P:=h
theorem qeZ(h:P:=by simp[results,results160,go_sem,g4]):P:=h
theorem qe0(h:P:=by rw[h]):P:=h
theorem qe1(h:P:=by rw[tC];exact hs):P:=h
theorem qe2(h:P:=by rw[hl,jK,zJ hz]):P:=h
theorem qe3(h:P:=by simp[results,results260,go_sem]):P:=h
theorem qe4(h:P:=by simp[results,results216,go_sem]):P:=h
theorem qe5(h:P:=by simp[hl2]):P:=h
theorem qe6(h:P:=by have:gN 1=1:=rfl;rw[this];omega):P:=h
theorem qe7(h:P:=by intro j u hj;rw[Addr.add_lit,yZ];exact HO1.o.obj.cell qeb):P:=h
theorem qe8(h:P:=by intro j u hj;rw[Addr.add_lit,yZ];exact HO.o.obj.cell qeb):P:=h
theorem qe9(h:P:=by exact aB rfl fun w' hS'=>by have q:=Hcvf.o _ hS';have q1:=Hx3.o _ hS';have q2:=Mem_cell_lt hS' (Mem_cell_le hle3 x3);have q3:=Mem_cell_lt hS' (Mem_cell_le Hst.o.2.2.2 HE.o.cv);go_simp;rfl):P:=h
theorem qfa(h:P:=by exact aB rfl fun w' hS'=>by have q0:=hS'.2.1;have q1:=hS'.2.2;have q2:=Mem_cell_w hS'.1 hX1;have q3:=Mem_cell_lt hS'.1 hX1;have q4:=Mem_cell_w hS'.1 hX2;have q5:=Mem_cell_lt hS'.1 hX2;go_simp;rfl):P:=h
theorem qfb(h:P:=by exact aB rfl fun w' hS'=>by have q:=hS'.2.1;have q1:=hS'.2.2;have q2:=Mem_cell_w hS'.1 hca;have q3:=Mem_cell_lt hS'.1 hca;go_simp;rfl):P:=h
theorem qfc(h:P:=by exact fun _ _ _ h=>h):P:=h
theorem qfd(h:P:=by exact fun j w' hj hd=>hd qdW qdW qdW):P:=h
theorem qfe(h:P:=by exact aB rfl fun w' hS'=>by have q:=hS'.cell (i:=0) rfl;go_simp;rfl):P:=h
theorem qff(h:P:=by exact aB rfl fun w' hS'=>by have q:=hS'.1.cell (i:=1) rfl;have q1:=hS'.2.cell (i:=0) rfl;have q2:=hS'.2.cell (i:=1) rfl;go_simp;rfl):P:=h
theorem qfg(h:P:=by exact aB rfl fun w' hS'=>by have q:=hS'.1.cell (i:=0) rfl;have q1:=hS'.2.cell (i:=0) rfl;have q2:=hS'.2.cell (i:=1) rfl;go_simp;rfl):P:=h
theorem qfh(h:P:=by exact aN (iH.exec (b:=g3) (off:=0) rfl zg hl9 (fun j u hj=>by rw[yZ];exact Mem_cell_w HO2.ay (HC13.o j u hj))) ⟨_,rfl,zR _ _,rfl⟩):P:=h
theorem qfi(h:P:=by exact zi (fun j u=>@lW d x y j u) (fun j u=>@oh d x y j u)):P:=h
theorem qfj(h:P:=by exact aB rfl fun w' hS'=>by have q:=hS'.2.1;have q1:=hS'.2.2;go_simp;rfl):P:=h
theorem qfk(h:P:=by exact aB rfl fun w' hS'=>by go_simp;rfl):P:=h
theorem qfl(h:P:=by exact Mem_cell_le hO.ext.le hu):P:=h
theorem qfm(h:P:=by exact fun j w' hj hd=>hd qdW qdW):P:=h
theorem qfn(h:P:=by exact zi hO.az (hr.le hO.done)):P:=h
theorem qfo(h:P:=by exact jA l l' k hlt hlt'):P:=h
theorem qfp(h:P:=by exact BQ (fun h=>absurd (HBB.o.2 h) zS) hk hk'):P:=h
theorem qfq(h:P:=by exact Mem_wins_le (es:=[1,3]) hO1.XB win zS):P:=h
theorem qfr(h:P:=by exact Mem_wins_le (es:=[1,3]) HO2.ay win zS):P:=h
theorem qfs(h:P:=by exact jW C l l' k hlt hlt'):P:=h
theorem qft(h:P:=by exact Mem_cell_le hle HS.o.2.2.2):P:=h
theorem qfu(h:P:=by exact Mem_le_grow HO.o.ay):P:=h
theorem qfv(h:P:=by exact Mem_cell_le hO.ext.le hu'):P:=h
theorem qfw(h:P:=by exact pV C l l' k hlt zo):P:=h
theorem qfx(h:P:=by exact oI C l l' _ (zI _)):P:=h
theorem qfy(h:P:=by exact vK v x m n _ hO.ay htab hv hf hct):P:=h
theorem qfz(h:P:=by exact zi hrow2 (Mem.le_trans hmk hmk2)):P:=h
theorem qfA(h:P:=by exact Jz (Mem.le_trans HLE.o (Mem.le_trans HS.o.2.2.2 HX1.o.2)) HU.o):P:=h
theorem qfB(h:P:=by exact bE (zR _ _) _):P:=h
theorem qfC(h:P:=by exact zi (fun j u=>@lW d' x' y' j u) (fun j u=>@oh d' x' y' j u)):P:=h
theorem qfD(h:P:=by exact dS (m:=m) hO2.row (fun x hx=>by have:=uz l 256 x hx;omega)):P:=h
theorem qfE(h:P:=by exact Mem_cell_le hmk d1.1):P:=h
theorem qfF(h:P:=by exact Mem_wins_inn HO2.ay win [1,3]):P:=h
theorem qfG(h:P:=by exact Mem_le_grow hin):P:=h
theorem qfH(h:P:=by exact j6 fT sv M 2 wr HO2.ay HSV.o):P:=h
theorem qfI(h:P:=by exact aB rfl fun w' hS'=>by have q:=hS'.cell H1;go_simp;rfl):P:=h
theorem qfJ(h:P:=by exact Mem_cell_le hmm u6):P:=h
theorem qfK(h:P:=by exact Mem_cell_le hmm u1):P:=h
theorem qfL(h:P:=by exact zi hO2.az (zi (aW hO2.done hst) (zi hlang hClen))):P:=h
theorem qfM(h:P:=by exact zi hO.az hfin):P:=h
theorem qfN(h:P:=by exact uP w.heap.size w.heap.size _ _ _ hB1 qeU hb3.size):P:=h
theorem qfO(h:P:=by exact zi k1 (zi k2 k3)):P:=h
theorem qfP(h:P:=by exact zi (Mem_cell_le l2 (c1 1 _ rfl)) (c2 1 _ rfl)):P:=h
theorem qfQ(h:P:=by exact zi (Mem_cell_le l2 (c1 0 _ rfl)) (c2 0 _ rfl)):P:=h
theorem qfR(h:P:=by exact Mem_le_grow (w:=w4) hin):P:=h
theorem qfS(h:P:=by exact Mem_wins_le (es:=[7,6,15,14]) HO2.ay win zS):P:=h
theorem qfT(h:P:=by exact Mem_wins_le (es:=[2,1,5,4]) HO2.ay win zS):P:=h
theorem qfU(h:P:=by exact zi hO4.az hfin):P:=h
theorem qfV(h:P:=by exact Mem_none_of_ge HO.o.dr.ay (E.ik j zo).1):P:=h
