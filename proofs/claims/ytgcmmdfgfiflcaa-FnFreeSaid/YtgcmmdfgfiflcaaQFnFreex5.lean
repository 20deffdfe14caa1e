import Derived.Test.YtgcmmdfgfiflcaaQFnFreex0
import Derived.Test.YtgcmmdfgfiflcaaQFnFreex1
import Derived.Test.YtgcmmdfgfiflcaaQFnFreex4
namespace Go.Proofs.Ytgcmmdfgfiflcaa.QFnFree
open Go.RowKit Go.Proofs.YtgcmmdfgfiflcaaW.PrintWords Go.Proofs.YtgcmmdfgfiflcaaW.PrintLast Go.Proofs.YtgcmmdfgfiflcaaW.PrintMore
attribute [local go_sem] max2_int min2_int max_two min_two max_three min_three max_four min_four
set_option linter.unusedVariables false
set_option linter.unusedSimpArgs false
set_option maxHeartbeats 8000000
set_option maxRecDepth 100000
mutual
def spec_VarsOf.l0:Nat→List ByteArray→Int→Int→Int→ByteArray→List (S27)→List (S33)→Option (List ByteArray)
 | 0,_,_,_,_,_,_,_=>none
 | k + 1,x3,x4,x437000,x437001,x437002,x437003,x437004=>if x4 < (x437003.length:Int) then (if 0≤x4 then ((spec_VarsOf.f k ((rd_T27 x437003 x4).f0) ((rd_T27 x437003 x4).f1) ((rd_T27 x437003 x4).f2) ((rd_T27 x437003 x4).f3) ((rd_T27 x437003 x4).f4)).bind fun t444=>(if x3.length + t444.length < 8796093022208 then (spec_VarsOf.l0 k (x3 ++ t444) (wrap64 (x4 + 1)) x437000 x437001 x437002 x437003 x437004) else (none))) else (none)) else (some x3)
def spec_VarsOf.f:Nat→Int→Int→ByteArray→List (S27)→List (S33)→Option (List ByteArray)
 | 0,_,_,_,_,_=>none
 | k + 1,a0_0,a0_1,a0_2,l0_3,l0_4=>(some (([]:List ByteArray):List ByteArray)).bind fun y437=>(if a0_0=3 then (if a0_2.toList=([95]:List UInt8) then (some y437) else (if y437.length < 8796093022208 then (some (y437 ++ [a0_2])) else (none))) else (spec_VarsOf.l0 k y437 0 a0_0 a0_1 a0_2 l0_3 l0_4))
end
theorem spec_VarsOf.mono_l:∀ k,(∀ y0 y1 y2 y3 y4,LeO (spec_VarsOf.f k y0 y1 y2 y3 y4) (spec_VarsOf.f (k + 1) y0 y1 y2 y3 y4))∧(∀ y0 y1 y2 y3 y4 y5 y6,LeO (spec_VarsOf.l0 k y0 y1 y2 y3 y4 y5 y6) (spec_VarsOf.l0 (k + 1) y0 y1 y2 y3 y4 y5 y6))
 | 0=>⟨fun _ _ _ _ _ r h=>by simp [spec_VarsOf.f] at h,fun _ _ _ _ _ _ _ r h=>by simp [spec_VarsOf.l0] at h⟩
 | k + 1=>by
  obtain ⟨ih0,ih1⟩:=spec_VarsOf.mono_l k
  refine ⟨?_,?_⟩
  ·intro y0 y1 y2 y3 y4
   unfold spec_VarsOf.f
   with_reducible repeat' first|apply ih0|apply ih1|apply LeO.refl|apply LeO.none|apply LeO.ite|refine LeO.bind ?_ (fun _=>?_)
  ·intro y0 y1 y2 y3 y4 y5 y6
   unfold spec_VarsOf.l0
   with_reducible repeat' first|apply ih0|apply ih1|apply LeO.refl|apply LeO.none|apply LeO.ite|refine LeO.bind ?_ (fun _=>?_)
theorem spec_VarsOf.mono:∀ a0 a1 a2 a3 a4 k,LeO (spec_VarsOf.f k a0 a1 a2 a3 a4) (spec_VarsOf.f (k + 1) a0 a1 a2 a3 a4):=by
 intro a0 a1 a2 a3 a4 k;obtain ⟨ih0,ih1⟩:=spec_VarsOf.mono_l k
 exact ih0 a0 a1 a2 a3 a4
theorem spec_VarsOf.calls (k:Nat):∀ (a0_0:Int) (a0_1:Int) (a0_2:ByteArray) (A0_3:Option Addr) (c0_3:Nat) (l0_3:List (S27)) (A0_4:Option Addr) (c0_4:Nat) (l0_4:List (S33)) (r:List ByteArray) (w:World) (hr0_3:Kd.C k27 w A0_3 l0_3.length l0_3) (hc0_3:l0_3.length≤c0_3) (hr0_4:Kd.C k33 w A0_4 l0_4.length l0_4) (hc0_4:l0_4.length≤c0_4) (h:spec_VarsOf.f k a0_0 a0_1 a0_2 l0_3 l0_4=some r),
  Calls Try.prog 22 #[.agg #[.int .i64 a0_0,.int .i64 a0_1,.string a0_2,.slice A0_3 l0_3.length c0_3,.slice A0_4 l0_4.length c0_4]] w fun e w'=>∃ v0_:Value,e=.returned (v0_)∧Kd.R Kd.string 9 w' w.heap.size (fun _=>True) v0_ r∧Below w.heap.size w w':=by
 induction k using Nat.strongRecOn with
 | _ k ih =>
 intro a0_0 a0_1 a0_2 A0_3 c0_3 l0_3 A0_4 c0_4 l0_4 r w hr0_3 hc0_3 hr0_4 hc0_4 h
 cases k with
 | zero=>exact absurd h (by simp [spec_VarsOf.f])
 | succ k =>
 simp only [spec_VarsOf.f] at h;have hu27:=Try.underlying27;have HR0_3:=Aside0.mk hr0_3;have HC0_3:=Aside0.mk hc0_3;clear hr0_3 hc0_3;have HR0_4:=Aside0.mk hr0_4;have HC0_4:=Aside0.mk hc0_4;clear hr0_4 hc0_4;have HB:=Aside0.mk (Below.refl w.heap.size w);have H:((some (([]:List ByteArray):List ByteArray)).bind fun y437=>(if a0_0=3 then (if a0_2.toList=([95]:List UInt8) then (some y437) else (if y437.length < 8796093022208 then (some (y437 ++ [a0_2])) else (none))) else (spec_VarsOf.l0 k y437 0 a0_0 a0_1 a0_2 l0_3 l0_4)))=some r:=h;clear h;obtain ⟨y437,hy437⟩:∃ y_:List ByteArray,y_=(([]:List ByteArray)):=⟨_,rfl⟩;replace H:(if a0_0=3 then (if a0_2.toList=([95]:List UInt8) then (some y437) else (if y437.length < 8796093022208 then (some (y437 ++ [a0_2])) else (none))) else (spec_VarsOf.l0 k y437 0 a0_0 a0_1 a0_2 l0_3 l0_4))=some r:=hw hy437 H
 have Ny437:=Aside0.mk hy437;clear hy437
 by_cases c2:a0_0=3
 ·rw [if_pos c2] at H
  have c2b0:(a0_0 == 3)=true:=beq_iff_eq.mpr c2;have c2b1:(a0_0 != 3)=false:=bne_eq_false_iff_eq.mpr c2;clear c2
  by_cases c3:a0_2.toList=([95]:List UInt8)
  ·rw [if_pos c3] at H
   have c3b0:(a0_2.toList == ([95]:List UInt8))=true:=beq_iff_eq.mpr c3;have c3b1:(a0_2.toList != ([95]:List UInt8))=false:=bne_eq_false_iff_eq.mpr c3;clear c3;obtain rfl:=Option.some.inj H
   go_enter Try.func22,Try.ntmps22
   go_wp2_with (first|((with_reducible refine gate_dst (N:=1) rfl ?_);refine box_event ?hg (N:=1) ?hd (cs:=#[.int .i64 a0_0,.int .i64 a0_1,.string a0_2,.slice A0_3 l0_3.length c0_3,.slice A0_4 l0_4.length c0_4]) (t:=27) ?hr ?_;(case hd|hg=>rfl);(case hr=>first|(go_simp;done)|(go_simp;rfl));intro gb436 hg w4 hbox hb;have n_:=ai (bq HB hb)<|aj (hbox)<|ai (bz hg HB)<|bz hg HB;clear HB;obtain ⟨HB,BK436,GW436,GE436⟩:=n_;clear hb hbox hg)|((with_reducible refine gate_dst (N:=5) rfl ?_);refine Kd.R_lit Kd.string _ 9 ?hg (N:=5) ?hd (xs:=([]:List ByteArray)) (inner:=[]) (ok:=fun _=>True) (okp:=fun _=>True) ?hr ?hp (fun _ hk=>hk) trivial (Below.refl _ _) (Nat.le_refl _) (by simp) ?_;(case hd|hg=>rfl);(case hr=>first|(go_simp;done)|(go_simp;rfl));(case hp=>exact (Reps.none _ _));intro v438 w5 ho6 hb hg_ hnew_;clear hg_ hnew_;(first|rw [← Ny437.out] at ho6|(simp only [Int.reduceToNat] at ho6;rw [← Ny437.out] at ho6));have n_:=aj (Kd.R_lower ho6 (below_size (bl HB.out)))<|ai (bw BK436 hb)<|bq HB hb;clear BK436 HB;obtain ⟨HO439,BK436,HB⟩:=n_;clear hb ho6;obtain ⟨h7_0,h7_1,h7_2,h7_3,h7_4⟩:=kb5 BK436.out;obtain ⟨z7_0,z7_1,z7_2,z7_3,z7_4⟩:=kz5 BK436.out))
   go_ret
   exact ⟨_,cl,rk HO439.out,bl HB.out⟩
  ·rw [if_neg c3] at H
   have c3b0:(a0_2.toList == ([95]:List UInt8))=false:=beq_eq_false_iff_ne.mpr c3;have c3b1:(a0_2.toList != ([95]:List UInt8))=true:=bne_iff_ne.mpr c3
   by_cases c8:y437.length < 8796093022208
   ·rw [if_pos c8] at H
    have LMc8:=Aside0.mk c8;clear c8;obtain ⟨y440,hy440⟩:∃ y_:List ByteArray,y_=(y437 ++ [a0_2]):=⟨_,rfl⟩;replace H:(some y440)=some r:=hw hy440 H
    have Ny440:=Aside0.mk hy440;clear hy440;obtain rfl:=Option.some.inj H
    go_enter Try.func22,Try.ntmps22
    go_wp2_with (first|((with_reducible refine gate_dst (N:=1) rfl ?_);refine box_event ?hg (N:=1) ?hd (cs:=#[.int .i64 a0_0,.int .i64 a0_1,.string a0_2,.slice A0_3 l0_3.length c0_3,.slice A0_4 l0_4.length c0_4]) (t:=27) ?hr ?_;(case hd|hg=>rfl);(case hr=>first|(go_simp;done)|(go_simp;rfl));intro gb436 hg w9 hbox hb;have n_:=ai (bq HB hb)<|aj (hbox)<|ai (bz hg HB)<|bz hg HB;clear HB;obtain ⟨HB,BK436,GW436,GE436⟩:=n_;clear hb hbox hg)|((with_reducible refine gate_dst (N:=5) rfl ?_);refine Kd.R_lit Kd.string _ 9 ?hg (N:=5) ?hd (xs:=([]:List ByteArray)) (inner:=[]) (ok:=fun _=>True) (okp:=fun _=>True) ?hr ?hp (fun _ hk=>hk) trivial (Below.refl _ _) (Nat.le_refl _) (by simp) ?_;(case hd|hg=>rfl);(case hr=>first|(go_simp;done)|(go_simp;rfl));(case hp=>exact (Reps.none _ _));intro v438 w10 ho11 hb hg_ hnew_;clear hg_ hnew_;(first|rw [← Ny437.out] at ho11|(simp only [Int.reduceToNat] at ho11;rw [← Ny437.out] at ho11));have n_:=aj (Kd.R_lower ho11 (below_size (bl HB.out)))<|ai (bw BK436 hb)<|bq HB hb;clear BK436 HB;obtain ⟨HO439,BK436,HB⟩:=n_;clear hb ho11;obtain ⟨h12_0,h12_1,h12_2,h12_3,h12_4⟩:=kb5 BK436.out;obtain ⟨z12_0,z12_1,z12_2,z12_3,z12_4⟩:=kz5 BK436.out)|((with_reducible refine gate_builtin (b:=.append) (xs:=#[.tmp 12,.tmp 15]) rfl ?_);at_builtin;refine Kd.R_append Kd.string (w0:=w) w.heap.size rfl (.tmp 12) (.tmp 15) 29 9 (.string ⟨#[]⟩) 16 rfl Try.underlying29 info9 rfl (by decide) (by omega) v438 y437 a0_2 [.string a0_2] (fun _=>True) (fun _=>False) rfl rfl ?aP (fun _ hk=>hk.elim) ?aF ?aO ?aB ?aS ?aL ?_;(case aP=>exact rfl);(case aB=>exact (bl HB.out));(case aF=>exact (fun _ _=>trivial));(case aO=>exact (rk HO439.out));(case aS=>exact (below_size (bl HB.out)));(case aL=>have:=LMc8.out;omega);intro v441 w13 ho hb hg hat;rw [← Ny440.out] at ho;have n_:=aj (blk_grown (g:=gb436) (o:=.cells #[.int .i64 a0_0,.int .i64 a0_1,.string a0_2,.slice A0_3 l0_3.length c0_3,.slice A0_4 l0_4.length c0_4] 27 (0,0)) (bk BK436.out) hg (Kd.R_ne HO439.out BK436.out (by decide)))<|aj (hb)<|Aside0.mk (ho);clear BK436 HB HO439;obtain ⟨BK436,HB,HO442⟩:=n_;clear ho hb hg hat))
    go_ret
    exact ⟨_,cl,rk HO442.out,bl HB.out⟩
   ·rw [if_neg c8] at H
    exact absurd H (by simp)
 ·rw [if_neg c2] at H
  have c2b0:(a0_0 == 3)=false:=beq_eq_false_iff_ne.mpr c2;have c2b1:(a0_0 != 3)=true:=bne_iff_ne.mpr c2;have H':=Aside0.mk H;clear H
  go_enter Try.func22,Try.ntmps22
  go_wp2_with (first|((with_reducible refine gate_dst (N:=1) rfl ?_);refine box_event ?hg (N:=1) ?hd (cs:=#[.int .i64 a0_0,.int .i64 a0_1,.string a0_2,.slice A0_3 l0_3.length c0_3,.slice A0_4 l0_4.length c0_4]) (t:=27) ?hr ?_;(case hd|hg=>rfl);(case hr=>first|(go_simp;done)|(go_simp;rfl));intro gb436 hg w14 hbox hb;have n_:=ai (bq HB hb)<|aj (hbox)<|ai (bz hg HB)<|bz hg HB;clear HB;obtain ⟨HB,BK436,GW436,GE436⟩:=n_;clear hb hbox hg)|((with_reducible refine gate_dst (N:=5) rfl ?_);refine Kd.R_lit Kd.string _ 9 ?hg (N:=5) ?hd (xs:=([]:List ByteArray)) (inner:=[]) (ok:=fun _=>True) (okp:=fun _=>True) ?hr ?hp (fun _ hk=>hk) trivial (Below.refl _ _) (Nat.le_refl _) (by simp) ?_;(case hd|hg=>rfl);(case hr=>first|(go_simp;done)|(go_simp;rfl));(case hp=>exact (Reps.none _ _));intro v438 w15 ho16 hb hg_ hnew_;clear hg_ hnew_;(first|rw [← Ny437.out] at ho16|(simp only [Int.reduceToNat] at ho16;rw [← Ny437.out] at ho16));have n_:=aj (Kd.R_lower ho16 (below_size (bl HB.out)))<|ai (bw BK436 hb)<|bq HB hb;clear BK436 HB;obtain ⟨HO439,BK436,HB⟩:=n_;clear hb ho16;obtain ⟨h17_0,h17_1,h17_2,h17_3,h17_4⟩:=kb5 BK436.out;obtain ⟨z17_0,z17_1,z17_2,z17_3,z17_4⟩:=kz5 BK436.out))
  go_loopg [3,4] k (fun kq v3 v4 w'=>∃ (x3_1:List ByteArray) (x4_1:Int),v4=.int .i64 x4_1∧Aside0 (spec_VarsOf.l0 kq x3_1 x4_1 a0_0 a0_1 a0_2 l0_3 l0_4=some r)∧Aside0 (kq≤k)∧Aside0 (Kd.R Kd.string 9 w' w.heap.size (fun _=>True) v3 x3_1)∧Aside0 (w'.heap[gb436]?=some (.cells #[.int .i64 a0_0,.int .i64 a0_1,.string a0_2,(.slice A0_3 l0_3.length c0_3),(.slice A0_4 l0_4.length c0_4)] 27 (0,0)))∧Aside0 (Below w.heap.size w w'))
  case atStart=>exact ⟨(y437),(0),(cl2),H',⟨Nat.le_refl _⟩,⟨rk HO439.out⟩,⟨bk BK436.out⟩,⟨bl HB.out⟩⟩
  case round =>
   clear H';(try clear c2);(try clear c2b0);(try clear c2b1);(try clear h17_0 h17_1 h17_2 h17_3 h17_4);(try clear z17_0 z17_1 z17_2 z17_3 z17_4);(try clear BK436);(try clear HB);obtain ⟨x3_1,x4_1,rfl,HA,HK1,HO_3,BK436,HB⟩:=hrel
   cases gk with
   | zero=>exact absurd HA.out (by simp [spec_VarsOf.l0])
   | succ k1 =>
    have H:=HA.out;clear HA;simp only [spec_VarsOf.l0] at H
    by_cases c18:x4_1 < (l0_3.length:Int)
    ·rw [if_pos c18] at H
     have c18b0:decide (x4_1 < (l0_3.length:Int))=true:=decide_eq_true c18;clear c18
     by_cases c19:0≤x4_1
     ·rw [if_pos c19] at H
      have c19b0:decide (0≤x4_1)=true:=decide_eq_true c19;clear c19;replace H:=bs H;obtain ⟨t444,A200,H⟩:=H;replace H:(if x3_1.length + t444.length < 8796093022208 then (spec_VarsOf.l0 k1 (x3_1 ++ t444) (wrap64 (x4_1 + 1)) a0_0 a0_1 a0_2 l0_3 l0_4) else (none))=some r:=H;have A20:=Aside0.mk A200;clear A200
      by_cases c21:x3_1.length + t444.length < 8796093022208
      ·rw [if_pos c21] at H
       have LMc21:=Aside0.mk c21;clear c21;obtain ⟨y447,hy447⟩:∃ y_:List ByteArray,y_=(x3_1 ++ t444):=⟨_,rfl⟩;replace H:(spec_VarsOf.l0 k1 y447 (wrap64 (x4_1 + 1)) a0_0 a0_1 a0_2 l0_3 l0_4)=some r:=hw hy447 H
       have Ny447:=Aside0.mk hy447;clear hy447;have H':=Aside0.mk H;clear H;obtain ⟨h22_0,h22_1,h22_2,h22_3,h22_4⟩:=kb5 BK436.out;have p443:0≤(x4_1:Int):=od;have q443:x4_1 < (l0_3.length:Int):=od;obtain ⟨ad443,A443_3,c443_3,A443_4,c443_4,e443,hx443_0,hx443_1,hx443_2,hx443_3,hx443_4,hl443_3,hi443_3,hl443_4,hi443_4⟩:=at_T27 HR0_3.out x4_1 p443 q443;cases e443;replace hx443_0:=cb HB hx443_0;replace hx443_1:=cb HB hx443_1;replace hx443_2:=cb HB hx443_2;replace hx443_3:=cb HB hx443_3;replace hx443_4:=cb HB hx443_4;have HR443_3:=Aside0.mk hi443_3;have HC443_3:=Aside0.mk hl443_3;clear hi443_3 hl443_3;have HR443_4:=Aside0.mk hi443_4;have HC443_4:=Aside0.mk hl443_4;clear hi443_4 hl443_4;replace p443:=eq_true p443;replace q443:=eq_true q443
       go_wp2_with (first|((with_reducible refine gate_callee (f:=22) rfl ?_);refine goesL_ (some 31) rfl rfl Try.func22 (by kernel_rfl) rfl #[.agg #[.int .i64 ((rd_T27 l0_3 x4_1).f0),.int .i64 ((rd_T27 l0_3 x4_1).f1),.string ((rd_T27 l0_3 x4_1).f2),.slice A443_3 ((rd_T27 l0_3 x4_1).f3).length c443_3,.slice A443_4 ((rd_T27 l0_3 x4_1).f4).length c443_4]] rfl gs ?_;(with_reducible refine (ih k1 (by have:=HK1.out;omega) ((rd_T27 l0_3 x4_1).f0) ((rd_T27 l0_3 x4_1).f1) ((rd_T27 l0_3 x4_1).f2) _ _ ((rd_T27 l0_3 x4_1).f3) _ _ ((rd_T27 l0_3 x4_1).f4) t444 _ ?side1 ?side2 ?side3 ?side4 A20.out).mono ?_);(case side1=>exact ck (Kd.C_below HR443_3.out HB.out));(case side2=>exact HC443_3.out);(case side3=>exact ck (Kd.C_below HR443_4.out HB.out));(case side4=>exact HC443_4.out);rintro e w23 ⟨v445,rfl,ho0,hb⟩;refine ⟨_,rfl,?_⟩;have n_:=aj (Kd.R_elder' (rk HO_3.out) (Kd.R_base ho0) hb)<|aj (Kd.R_lower (Kd.R_new' ho0 (Kd.R_lt (rk HO_3.out))) (below_size (bl HB.out)))<|ai (bw BK436 hb)<|bq HB hb;clear HO_3 BK436 HB;obtain ⟨HO_3,HO446,BK436,HB⟩:=n_;(try clear hb);(try clear hk);(try clear ho0);obtain ⟨Ao25,co25,eo25⟩:=Kd.R_slice HO446.out;subst eo25)|((with_reducible refine gate_builtin (b:=.append) (xs:=#[.tmp 25,.tmp 31]) rfl ?_);at_builtin;refine Kd.R_append_rows Kd.string (w0:=w) w.heap.size rfl (.tmp 25) (.tmp 31) 29 9 (.string ⟨#[]⟩) 16 rfl Try.underlying29 info9 rfl (by decide) (by omega) u3 x3_1 t444 _ _ _ (fun k_=>some k_≠(.slice Ao25 t444.length co25:Value).ownBlock) (fun _=>False) rfl rfl ?aO ?aR (fun _ _ h=>h) (fun _ h=>h.elim) ?aF ?aB ?aS ?aL ?_;(case aR=>exact ck (Kd.R_reads' HO446.out).2.2);(case aB=>exact (bl HB.out));(case aF=>exact (fun k_ hk=>Kd.fresh' (Kd.R_lt (rk HO446.out)) k_ hk));(case aO=>exact (Kd.R_mono (rfm HO_3.out) (fun _ hk=>hk.2)));(case aS=>exact (below_size (bl HB.out)));(case aL=>have:=LMc21.out;omega);intro v448 w24 ho hb hg hat;rw [← Ny447.out] at ho;have n_:=aj (blk_grown (g:=gb436) (o:=.cells #[.int .i64 a0_0,.int .i64 a0_1,.string a0_2,.slice (some ad443) l0_3.length c0_3,.slice A0_4 l0_4.length c0_4] 27 (0,0)) (bk BK436.out) hg (Kd.R_ne HO_3.out BK436.out (by decide)))<|aj (Kd.R_after (ok:=(fun _=>True)) (rk HO446.out) hg hat)<|aj (hb)<|Aside0.mk (ho);clear BK436 HO446 HB HO_3;obtain ⟨BK436,HO446,HB,HO449⟩:=n_;clear ho hb hg hat))
       go_roundg k1
       case measure=>have:=HK1.out;omega
       case rel=>exact ⟨(y447),(wrap64 (x4_1 + 1)),(cl2),H',⟨by have:=HK1.out;omega⟩,⟨Kd.R_mono (rfm HO449.out) (fun _ hk=>trivial)⟩,⟨bk BK436.out⟩,⟨bl HB.out⟩⟩
      ·rw [if_neg c21] at H
       exact absurd H (by simp)
     ·rw [if_neg c19] at H
      exact absurd H (by simp)
    ·rw [if_neg c18] at H
     have c18b0:decide (x4_1 < (l0_3.length:Int))=false:=decide_eq_false c18;clear c18;obtain rfl:=Option.some.inj H;obtain ⟨h26_0,h26_1,h26_2,h26_3,h26_4⟩:=kb5 BK436.out
     go_wp2
     go_ret
     exact ⟨_,cl,rk HO_3.out,bl HB.out⟩
def spec_l1In.f (a0:Int) (a1:Int) (a2:Int):Option (Bool):=if a0 ≥ a1 then (some (decide (a0≤a2))) else (some false)
theorem spec_l1In.calls (a0:Int) (a1:Int) (a2:Int) (r:Bool) (w:World) (h:spec_l1In.f a0 a1 a2=some r) :
  Calls Try.prog 42 #[.int .i64 a0,.int .i64 a1,.int .i64 a2] w fun e w'=>e=.returned (.bool r)∧Drawn0 w w':=by
 have H:(if a0 ≥ a1 then (some (decide (a0≤a2))) else (some false))=some r:=h;clear h
 by_cases c4:a0 ≥ a1
 ·rw [if_pos c4] at H
  have c4b0:decide (a1≤a0)=true:=decide_eq_true c4;clear c4;obtain rfl:=Option.some.inj H
  go_enter Try.func42,Try.ntmps42
  go_wp2
  go_ret
  exact ⟨cl2,d0⟩
 ·rw [if_neg c4] at H
  have c4b0:decide (a1≤a0)=false:=decide_eq_false c4;clear c4;obtain rfl:=Option.some.inj H
  go_enter Try.func42,Try.ntmps42
  go_wp2
  go_ret
  exact ⟨cl2,d0⟩
def spec_AtomOk.l0:Nat→ByteArray→Int→Option (Bool)
 | 0,_,_=>none
 | k + 1,x0,x3=>if x3 < (x0.size:Int) then (if 0≤x3 then ((spec_l1In.f (wrap64 (bt x0 x3)) 97 122).bind fun t451=>(if t451=true then (spec_AtomOk.l0 k x0 (wrap64 (x3 + 1))) else (if x3=0 then (some false) else ((spec_l1In.f (wrap64 (bt x0 x3)) 48 57).bind fun t452=>(if t452=true then (spec_AtomOk.l0 k x0 (wrap64 (x3 + 1))) else (if (wrap64 (bt x0 x3))=95 then (spec_AtomOk.l0 k x0 (wrap64 (x3 + 1))) else (some false))))))) else (none)) else ((spec_l1In.f (x0.size:Int) 1 20).bind fun t450=>(some t450))
def spec_AtomOk.f (k:Nat) (a0:ByteArray):Option (Bool):=spec_AtomOk.l0 k a0 0
theorem spec_AtomOk.mono_l:∀ k,(∀ y0 y1,LeO (spec_AtomOk.l0 k y0 y1) (spec_AtomOk.l0 (k + 1) y0 y1))
 | 0=>fun _ _ r h=>by simp [spec_AtomOk.l0] at h
 | k + 1=>by
  have ih0:=spec_AtomOk.mono_l k
  ·intro y0 y1
   unfold spec_AtomOk.l0
   with_reducible repeat' first|apply ih0|apply LeO.refl|apply LeO.none|apply LeO.ite|refine LeO.bind ?_ (fun _=>?_)
theorem spec_AtomOk.mono:∀ a0 k,LeO (spec_AtomOk.f k a0) (spec_AtomOk.f (k + 1) a0):=by
 intro a0 k;have ih0:=spec_AtomOk.mono_l k
 unfold spec_AtomOk.f
 with_reducible repeat' first|apply ih0|apply LeO.refl|apply LeO.none|apply LeO.ite|refine LeO.bind ?_ (fun _=>?_)
theorem spec_AtomOk.calls (k:Nat) (a0:ByteArray) (r:Bool) (w:World) (h:spec_AtomOk.f k a0=some r) :
  Calls Try.prog 48 #[.string a0] w fun e w'=>e=.returned (.bool r)∧Drawn0 w w':=by
 have H:(spec_AtomOk.l0 k a0 0)=some r:=h;clear h;have H':=Aside0.mk H;clear H
 go_enter Try.func48,Try.ntmps48
 go_wp2
 go_loopg [3] k (fun kq v3 w'=>∃ (x3_1:Int),v3=.int .i64 x3_1∧Aside0 (spec_AtomOk.l0 kq a0 x3_1=some r)∧Aside0 (kq≤k)∧Drawn0 w w')
 case atStart=>exact ⟨(0),(cl2),H',⟨Nat.le_refl _⟩,d0⟩
 case round =>
  clear H';obtain ⟨x3_1,rfl,HA,HK1,⟨m1,rfl⟩⟩:=hrel
  cases gk with
  | zero=>exact absurd HA.out (by simp [spec_AtomOk.l0])
  | succ k1 =>
   have H:=HA.out;clear HA;simp only [spec_AtomOk.l0] at H
   by_cases c2:x3_1 < (a0.size:Int)
   ·rw [if_pos c2] at H
    have c2b0:decide (x3_1 < (a0.size:Int))=true:=decide_eq_true c2;clear c2
    by_cases c3:0≤x3_1
    ·rw [if_pos c3] at H
     have c3b0:decide (0≤x3_1)=true:=decide_eq_true c3;clear c3;replace H:=bs H;obtain ⟨t451,A50,H⟩:=H;replace H:(if t451=true then (spec_AtomOk.l0 k1 a0 (wrap64 (x3_1 + 1))) else (if x3_1=0 then (some false) else ((spec_l1In.f (wrap64 (bt a0 x3_1)) 48 57).bind fun t452=>(if t452=true then (spec_AtomOk.l0 k1 a0 (wrap64 (x3_1 + 1))) else (if (wrap64 (bt a0 x3_1))=95 then (spec_AtomOk.l0 k1 a0 (wrap64 (x3_1 + 1))) else (some false))))))=some r:=H;have A5:=Aside0.mk A50;clear A50
     by_cases c6:t451=true
     ·subst c6
      replace H:(spec_AtomOk.l0 k1 a0 (wrap64 (x3_1 + 1)))=some r:=pt H;have H':=Aside0.mk H;clear H;have p4:0≤(x3_1:Int):=od;have q4:x3_1 < (a0.size:Int):=od;have hx4:=bt_at a0 x3_1;replace p4:=eq_true p4;replace q4:=eq_true q4
      go_wp2_with (first|((with_reducible refine gate_callee (f:=42) rfl ?_);refine goesL_ (some 17) rfl rfl Try.func42 (by kernel_rfl) rfl #[.int .i64 (wrap64 (bt a0 x3_1)),.int .i64 97,.int .i64 122] rfl gs ?_;(with_reducible refine (spec_l1In.calls (wrap64 (bt a0 x3_1)) 97 122 true _ A5.out).mono ?_);rintro e w' ⟨rfl,⟨nd,rfl⟩⟩;refine ⟨_,rfl,?_⟩))
      go_roundg k1
      case measure=>have:=HK1.out;omega
      case rel=>exact ⟨(wrap64 (x3_1 + 1)),(cl2),H',⟨by have:=HK1.out;omega⟩,d0⟩
     ·replace c6:=Bool.eq_false_iff.mpr c6
      subst c6;replace H:(if x3_1=0 then (some false) else ((spec_l1In.f (wrap64 (bt a0 x3_1)) 48 57).bind fun t452=>(if t452=true then (spec_AtomOk.l0 k1 a0 (wrap64 (x3_1 + 1))) else (if (wrap64 (bt a0 x3_1))=95 then (spec_AtomOk.l0 k1 a0 (wrap64 (x3_1 + 1))) else (some false)))))=some r:=nt H
      by_cases c7:x3_1=0
      ·rw [if_pos c7] at H
       have c7b0:(x3_1 == 0)=true:=beq_iff_eq.mpr c7;have c7b1:(x3_1 != 0)=false:=bne_eq_false_iff_eq.mpr c7;clear c7;obtain rfl:=Option.some.inj H;have p4:0≤(x3_1:Int):=od;have q4:x3_1 < (a0.size:Int):=od;have hx4:=bt_at a0 x3_1;replace p4:=eq_true p4;replace q4:=eq_true q4
       go_wp2_with (first|((with_reducible refine gate_callee (f:=42) rfl ?_);refine goesL_ (some 17) rfl rfl Try.func42 (by kernel_rfl) rfl #[.int .i64 (wrap64 (bt a0 x3_1)),.int .i64 97,.int .i64 122] rfl gs ?_;(with_reducible refine (spec_l1In.calls (wrap64 (bt a0 x3_1)) 97 122 false _ A5.out).mono ?_);rintro e w' ⟨rfl,⟨nd,rfl⟩⟩;refine ⟨_,rfl,?_⟩))
       go_ret
       exact ⟨cl2,d0⟩
      ·rw [if_neg c7] at H
       have c7b0:(x3_1 == 0)=false:=beq_eq_false_iff_ne.mpr c7;have c7b1:(x3_1 != 0)=true:=bne_iff_ne.mpr c7;replace H:=bs H;obtain ⟨t452,A80,H⟩:=H;replace H:(if t452=true then (spec_AtomOk.l0 k1 a0 (wrap64 (x3_1 + 1))) else (if (wrap64 (bt a0 x3_1))=95 then (spec_AtomOk.l0 k1 a0 (wrap64 (x3_1 + 1))) else (some false)))=some r:=H;have A8:=Aside0.mk A80;clear A80
       by_cases c9:t452=true
       ·subst c9
        replace H:(spec_AtomOk.l0 k1 a0 (wrap64 (x3_1 + 1)))=some r:=pt H;have H':=Aside0.mk H;clear H;have p4:0≤(x3_1:Int):=od;have q4:x3_1 < (a0.size:Int):=od;have hx4:=bt_at a0 x3_1;replace p4:=eq_true p4;replace q4:=eq_true q4
        go_wp2_with (first|((with_reducible refine gate_callee (f:=42) rfl ?_);refine goesL_ (some 17) rfl rfl Try.func42 (by kernel_rfl) rfl #[.int .i64 (wrap64 (bt a0 x3_1)),.int .i64 97,.int .i64 122] rfl gs ?_;(with_reducible refine (spec_l1In.calls (wrap64 (bt a0 x3_1)) 97 122 false _ A5.out).mono ?_);rintro e w' ⟨rfl,⟨nd,rfl⟩⟩;refine ⟨_,rfl,?_⟩)|(go_at_call 42;(with_reducible refine (spec_l1In.calls (wrap64 (bt a0 x3_1)) 48 57 true _ A8.out).mono ?_);rintro e w' ⟨rfl,⟨nd,rfl⟩⟩))
        go_roundg k1
        case measure=>have:=HK1.out;omega
        case rel=>exact ⟨(wrap64 (x3_1 + 1)),(cl2),H',⟨by have:=HK1.out;omega⟩,d0⟩
       ·replace c9:=Bool.eq_false_iff.mpr c9
        subst c9;replace H:(if (wrap64 (bt a0 x3_1))=95 then (spec_AtomOk.l0 k1 a0 (wrap64 (x3_1 + 1))) else (some false))=some r:=nt H
        by_cases c10:(wrap64 (bt a0 x3_1))=95
        ·rw [if_pos c10] at H
         have c10b0:((wrap64 (bt a0 x3_1)) == 95)=true:=beq_iff_eq.mpr c10;have c10b1:((wrap64 (bt a0 x3_1)) != 95)=false:=bne_eq_false_iff_eq.mpr c10;clear c10;have H':=Aside0.mk H;clear H;have p4:0≤(x3_1:Int):=od;have q4:x3_1 < (a0.size:Int):=od;have hx4:=bt_at a0 x3_1;replace p4:=eq_true p4;replace q4:=eq_true q4
         go_wp2_with (first|((with_reducible refine gate_callee (f:=42) rfl ?_);refine goesL_ (some 17) rfl rfl Try.func42 (by kernel_rfl) rfl #[.int .i64 (wrap64 (bt a0 x3_1)),.int .i64 97,.int .i64 122] rfl gs ?_;(with_reducible refine (spec_l1In.calls (wrap64 (bt a0 x3_1)) 97 122 false _ A5.out).mono ?_);rintro e w' ⟨rfl,⟨nd,rfl⟩⟩;refine ⟨_,rfl,?_⟩)|(go_at_call 42;(with_reducible refine (spec_l1In.calls (wrap64 (bt a0 x3_1)) 48 57 false _ A8.out).mono ?_);rintro e w' ⟨rfl,⟨nd,rfl⟩⟩))
         go_roundg k1
         case measure=>have:=HK1.out;omega
         case rel=>exact ⟨(wrap64 (x3_1 + 1)),(cl2),H',⟨by have:=HK1.out;omega⟩,d0⟩
        ·rw [if_neg c10] at H
         have c10b0:((wrap64 (bt a0 x3_1)) == 95)=false:=beq_eq_false_iff_ne.mpr c10;have c10b1:((wrap64 (bt a0 x3_1)) != 95)=true:=bne_iff_ne.mpr c10;obtain rfl:=Option.some.inj H;have p4:0≤(x3_1:Int):=od;have q4:x3_1 < (a0.size:Int):=od;have hx4:=bt_at a0 x3_1;replace p4:=eq_true p4;replace q4:=eq_true q4
         go_wp2_with (first|((with_reducible refine gate_callee (f:=42) rfl ?_);refine goesL_ (some 17) rfl rfl Try.func42 (by kernel_rfl) rfl #[.int .i64 (wrap64 (bt a0 x3_1)),.int .i64 97,.int .i64 122] rfl gs ?_;(with_reducible refine (spec_l1In.calls (wrap64 (bt a0 x3_1)) 97 122 false _ A5.out).mono ?_);rintro e w' ⟨rfl,⟨nd,rfl⟩⟩;refine ⟨_,rfl,?_⟩)|(go_at_call 42;(with_reducible refine (spec_l1In.calls (wrap64 (bt a0 x3_1)) 48 57 false _ A8.out).mono ?_);rintro e w' ⟨rfl,⟨nd,rfl⟩⟩))
         go_ret
         exact ⟨cl2,d0⟩
    ·rw [if_neg c3] at H
     exact absurd H (by simp)
   ·rw [if_neg c2] at H
    have c2b0:decide (x3_1 < (a0.size:Int))=false:=decide_eq_false c2;clear c2;replace H:=bs H;obtain ⟨t450,A110,H⟩:=H;replace H:(some t450)=some r:=H;have A11:=Aside0.mk A110;clear A110;obtain rfl:=Option.some.inj H
    go_wp2_with (first|((with_reducible refine gate_callee (f:=42) rfl ?_);refine goesL_ (some 35) rfl rfl Try.func42 (by kernel_rfl) rfl #[.int .i64 (a0.size:Int),.int .i64 1,.int .i64 20] rfl gs ?_;(with_reducible refine (spec_l1In.calls (a0.size:Int) 1 20 t450 _ A11.out).mono ?_);rintro e w' ⟨rfl,⟨nd,rfl⟩⟩;refine ⟨_,rfl,?_⟩))
    go_ret
    exact ⟨cl2,d0⟩
def spec_l4Reserved.f (a0:ByteArray):Option (Bool):=if a0.toList=([99,97,115,101]:List UInt8) then (some true) else (if a0.toList=([111,102]:List UInt8) then (some true) else (some (a0.toList == ([101,110,100]:List UInt8))))
theorem spec_l4Reserved.calls (a0:ByteArray) (r:Bool) (w:World) (h:spec_l4Reserved.f a0=some r) :
  Calls Try.prog 49 #[.string a0] w fun e w'=>e=.returned (.bool r)∧Drawn0 w w':=by
 have H:(if a0.toList=([99,97,115,101]:List UInt8) then (some true) else (if a0.toList=([111,102]:List UInt8) then (some true) else (some (a0.toList == ([101,110,100]:List UInt8)))))=some r:=h;clear h
 by_cases c2:a0.toList=([99,97,115,101]:List UInt8)
 ·rw [if_pos c2] at H
  have c2b0:(a0.toList == ([99,97,115,101]:List UInt8))=true:=beq_iff_eq.mpr c2;have c2b1:(a0.toList != ([99,97,115,101]:List UInt8))=false:=bne_eq_false_iff_eq.mpr c2;clear c2;obtain rfl:=Option.some.inj H
  go_enter Try.func49,Try.ntmps49
  go_wp2
  go_ret
  exact ⟨cl2,d0⟩
 ·rw [if_neg c2] at H
  have c2b0:(a0.toList == ([99,97,115,101]:List UInt8))=false:=beq_eq_false_iff_ne.mpr c2;have c2b1:(a0.toList != ([99,97,115,101]:List UInt8))=true:=bne_iff_ne.mpr c2
  by_cases c3:a0.toList=([111,102]:List UInt8)
  ·rw [if_pos c3] at H
   have c3b0:(a0.toList == ([111,102]:List UInt8))=true:=beq_iff_eq.mpr c3;have c3b1:(a0.toList != ([111,102]:List UInt8))=false:=bne_eq_false_iff_eq.mpr c3;clear c3;obtain rfl:=Option.some.inj H
   go_enter Try.func49,Try.ntmps49
   go_wp2
   go_ret
   exact ⟨cl2,d0⟩
  ·rw [if_neg c3] at H
   have c3b0:(a0.toList == ([111,102]:List UInt8))=false:=beq_eq_false_iff_ne.mpr c3;have c3b1:(a0.toList != ([111,102]:List UInt8))=true:=bne_iff_ne.mpr c3;obtain rfl:=Option.some.inj H
   go_enter Try.func49,Try.ntmps49
   go_wp2
   go_ret
   exact ⟨cl2,d0⟩
def spec_l4Atom.f (k:Nat) (a0:ByteArray):Option (Bool):=(spec_AtomOk.f k a0).bind fun t453=>(if t453=true then ((spec_l4Reserved.f a0).bind fun t454=>(some (!t454))) else (some false))
theorem spec_l4Atom.mono:∀ a0 k,LeO (spec_l4Atom.f k a0) (spec_l4Atom.f (k + 1) a0):=by
 intro a0 k
 unfold spec_l4Atom.f
 with_reducible repeat' first|apply spec_AtomOk.mono|apply LeO.refl|apply LeO.none|apply LeO.ite|refine LeO.bind ?_ (fun _=>?_)
theorem spec_l4Atom.calls (k:Nat) (a0:ByteArray) (r:Bool) (w:World) (h:spec_l4Atom.f k a0=some r) :
  Calls Try.prog 43 #[.string a0] w fun e w'=>e=.returned (.bool r)∧Drawn0 w w':=by
 have H:((spec_AtomOk.f k a0).bind fun t453=>(if t453=true then ((spec_l4Reserved.f a0).bind fun t454=>(some (!t454))) else (some false)))=some r:=h;clear h;replace H:=bs H;obtain ⟨t453,A20,H⟩:=H;replace H:(if t453=true then ((spec_l4Reserved.f a0).bind fun t454=>(some (!t454))) else (some false))=some r:=H;have A2:=Aside0.mk A20;clear A20
 by_cases c3:t453=true
 ·subst c3
  replace H:((spec_l4Reserved.f a0).bind fun t454=>(some (!t454)))=some r:=pt H;replace H:=bs H;obtain ⟨t454,A40,H⟩:=H;replace H:(some (!t454))=some r:=H;have A4:=Aside0.mk A40;clear A40;obtain rfl:=Option.some.inj H
  go_enter Try.func43,Try.ntmps43
  go_wp2_with (first|((with_reducible refine gate_callee (f:=48) rfl ?_);refine goesL_ (some 4) rfl rfl Try.func48 (by kernel_rfl) rfl #[.string a0] rfl gs ?_;(with_reducible refine (spec_AtomOk.calls k a0 true _ A2.out).mono ?_);rintro e w' ⟨rfl,⟨nd,rfl⟩⟩;refine ⟨_,rfl,?_⟩)|(go_at_call 49;(with_reducible refine (spec_l4Reserved.calls a0 t454 _ A4.out).mono ?_);rintro e w' ⟨rfl,⟨nd,rfl⟩⟩))
  go_ret
  exact ⟨cl2,d0⟩
 ·replace c3:=Bool.eq_false_iff.mpr c3
  subst c3;replace H:(some false)=some r:=nt H;obtain rfl:=Option.some.inj H
  go_enter Try.func43,Try.ntmps43
  go_wp2_with (first|((with_reducible refine gate_callee (f:=48) rfl ?_);refine goesL_ (some 4) rfl rfl Try.func48 (by kernel_rfl) rfl #[.string a0] rfl gs ?_;(with_reducible refine (spec_AtomOk.calls k a0 false _ A2.out).mono ?_);rintro e w' ⟨rfl,⟨nd,rfl⟩⟩;refine ⟨_,rfl,?_⟩))
  go_ret
  exact ⟨cl2,d0⟩
def spec_l3Large.f (a0:Int):Option (Bool):=(spec_l1In.f (wrap64 (a0)) 65 90).bind fun t455=>(if t455=true then (some true) else (some (a0 == 95)))
theorem spec_l3Large.calls (a0:Int) (r:Bool) (w:World) (h:spec_l3Large.f a0=some r) :
  Calls Try.prog 50 #[.int .u8 a0] w fun e w'=>e=.returned (.bool r)∧Drawn0 w w':=by
 have H:((spec_l1In.f (wrap64 (a0)) 65 90).bind fun t455=>(if t455=true then (some true) else (some (a0 == 95))))=some r:=h;clear h;replace H:=bs H;obtain ⟨t455,A20,H⟩:=H;replace H:(if t455=true then (some true) else (some (a0 == 95)))=some r:=H;have A2:=Aside0.mk A20;clear A20
 by_cases c3:t455=true
 ·subst c3
  replace H:(some true)=some r:=pt H;obtain rfl:=Option.some.inj H
  go_enter Try.func50,Try.ntmps50
  go_wp2_with (first|((with_reducible refine gate_callee (f:=42) rfl ?_);refine goesL_ (some 5) rfl rfl Try.func42 (by kernel_rfl) rfl #[.int .i64 (wrap64 (a0)),.int .i64 65,.int .i64 90] rfl gs ?_;(with_reducible refine (spec_l1In.calls (wrap64 (a0)) 65 90 true _ A2.out).mono ?_);rintro e w' ⟨rfl,⟨nd,rfl⟩⟩;refine ⟨_,rfl,?_⟩))
  go_ret
  exact ⟨cl2,d0⟩
 ·replace c3:=Bool.eq_false_iff.mpr c3
  subst c3;replace H:(some (a0 == 95))=some r:=nt H;obtain rfl:=Option.some.inj H
  go_enter Try.func50,Try.ntmps50
  go_wp2_with (first|((with_reducible refine gate_callee (f:=42) rfl ?_);refine goesL_ (some 5) rfl rfl Try.func42 (by kernel_rfl) rfl #[.int .i64 (wrap64 (a0)),.int .i64 65,.int .i64 90] rfl gs ?_;(with_reducible refine (spec_l1In.calls (wrap64 (a0)) 65 90 false _ A2.out).mono ?_);rintro e w' ⟨rfl,⟨nd,rfl⟩⟩;refine ⟨_,rfl,?_⟩))
  go_ret
  exact ⟨cl2,d0⟩
def spec_l3Small.f (a0:Int):Option (Bool):=(spec_l1In.f (wrap64 (a0)) 97 122).bind fun t456=>(some t456)
theorem spec_l3Small.calls (a0:Int) (r:Bool) (w:World) (h:spec_l3Small.f a0=some r) :
  Calls Try.prog 51 #[.int .u8 a0] w fun e w'=>e=.returned (.bool r)∧Drawn0 w w':=by
 have H:((spec_l1In.f (wrap64 (a0)) 97 122).bind fun t456=>(some t456))=some r:=h;clear h;replace H:=bs H;obtain ⟨t456,A20,H⟩:=H;replace H:(some t456)=some r:=H;have A2:=Aside0.mk A20;clear A20;obtain rfl:=Option.some.inj H
 go_enter Try.func51,Try.ntmps51
 go_wp2_with (first|((with_reducible refine gate_callee (f:=42) rfl ?_);refine goesL_ (some 5) rfl rfl Try.func42 (by kernel_rfl) rfl #[.int .i64 (wrap64 (a0)),.int .i64 97,.int .i64 122] rfl gs ?_;(with_reducible refine (spec_l1In.calls (wrap64 (a0)) 97 122 t456 _ A2.out).mono ?_);rintro e w' ⟨rfl,⟨nd,rfl⟩⟩;refine ⟨_,rfl,?_⟩))
 go_ret
 exact ⟨cl2,d0⟩
def spec_l3Digit.f (a0:Int):Option (Bool):=(spec_l1In.f (wrap64 (a0)) 48 57).bind fun t457=>(some t457)
theorem spec_l3Digit.calls (a0:Int) (r:Bool) (w:World) (h:spec_l3Digit.f a0=some r) :
  Calls Try.prog 52 #[.int .u8 a0] w fun e w'=>e=.returned (.bool r)∧Drawn0 w w':=by
 have H:((spec_l1In.f (wrap64 (a0)) 48 57).bind fun t457=>(some t457))=some r:=h;clear h;replace H:=bs H;obtain ⟨t457,A20,H⟩:=H;replace H:(some t457)=some r:=H;have A2:=Aside0.mk A20;clear A20;obtain rfl:=Option.some.inj H
 go_enter Try.func52,Try.ntmps52
 go_wp2_with (first|((with_reducible refine gate_callee (f:=42) rfl ?_);refine goesL_ (some 5) rfl rfl Try.func42 (by kernel_rfl) rfl #[.int .i64 (wrap64 (a0)),.int .i64 48,.int .i64 57] rfl gs ?_;(with_reducible refine (spec_l1In.calls (wrap64 (a0)) 48 57 t457 _ A2.out).mono ?_);rintro e w' ⟨rfl,⟨nd,rfl⟩⟩;refine ⟨_,rfl,?_⟩))
 go_ret
 exact ⟨cl2,d0⟩
def spec_l3VarOk.l0:Nat→ByteArray→Int→Option (Bool)
 | 0,_,_=>none
 | k + 1,x0,x3=>if x3 < (x0.size:Int) then (if 0≤x3 then ((spec_l3Large.f (bt x0 x3)).bind fun t459=>(if t459=true then (spec_l3VarOk.l0 k x0 (wrap64 (x3 + 1))) else (if x3=0 then (some false) else ((spec_l3Small.f (bt x0 x3)).bind fun t460=>(if t460=true then (spec_l3VarOk.l0 k x0 (wrap64 (x3 + 1))) else ((spec_l3Digit.f (bt x0 x3)).bind fun t461=>(if t461=true then (spec_l3VarOk.l0 k x0 (wrap64 (x3 + 1))) else (some false)))))))) else (none)) else ((spec_l1In.f (x0.size:Int) 1 20).bind fun t458=>(some t458))
def spec_l3VarOk.f (k:Nat) (a0:ByteArray):Option (Bool):=spec_l3VarOk.l0 k a0 0
theorem spec_l3VarOk.mono_l:∀ k,(∀ y0 y1,LeO (spec_l3VarOk.l0 k y0 y1) (spec_l3VarOk.l0 (k + 1) y0 y1))
 | 0=>fun _ _ r h=>by simp [spec_l3VarOk.l0] at h
 | k + 1=>by
  have ih0:=spec_l3VarOk.mono_l k
  ·intro y0 y1
   unfold spec_l3VarOk.l0
   with_reducible repeat' first|apply ih0|apply LeO.refl|apply LeO.none|apply LeO.ite|refine LeO.bind ?_ (fun _=>?_)
theorem spec_l3VarOk.mono:∀ a0 k,LeO (spec_l3VarOk.f k a0) (spec_l3VarOk.f (k + 1) a0):=by
 intro a0 k;have ih0:=spec_l3VarOk.mono_l k
 unfold spec_l3VarOk.f
 with_reducible repeat' first|apply ih0|apply LeO.refl|apply LeO.none|apply LeO.ite|refine LeO.bind ?_ (fun _=>?_)
theorem spec_l3VarOk.calls (k:Nat) (a0:ByteArray) (r:Bool) (w:World) (h:spec_l3VarOk.f k a0=some r) :
  Calls Try.prog 44 #[.string a0] w fun e w'=>e=.returned (.bool r)∧Drawn0 w w':=by
 have H:(spec_l3VarOk.l0 k a0 0)=some r:=h;clear h;have H':=Aside0.mk H;clear H
 go_enter Try.func44,Try.ntmps44
 go_wp2
 go_loopg [3] k (fun kq v3 w'=>∃ (x3_1:Int),v3=.int .i64 x3_1∧Aside0 (spec_l3VarOk.l0 kq a0 x3_1=some r)∧Aside0 (kq≤k)∧Drawn0 w w')
 case atStart=>exact ⟨(0),(cl2),H',⟨Nat.le_refl _⟩,d0⟩
 case round =>
  clear H';obtain ⟨x3_1,rfl,HA,HK1,⟨m1,rfl⟩⟩:=hrel
  cases gk with
  | zero=>exact absurd HA.out (by simp [spec_l3VarOk.l0])
  | succ k1 =>
   have H:=HA.out;clear HA;simp only [spec_l3VarOk.l0] at H
   by_cases c2:x3_1 < (a0.size:Int)
   ·rw [if_pos c2] at H
    have c2b0:decide (x3_1 < (a0.size:Int))=true:=decide_eq_true c2;clear c2
    by_cases c3:0≤x3_1
    ·rw [if_pos c3] at H
     have c3b0:decide (0≤x3_1)=true:=decide_eq_true c3;clear c3;replace H:=bs H;obtain ⟨t459,A50,H⟩:=H;replace H:(if t459=true then (spec_l3VarOk.l0 k1 a0 (wrap64 (x3_1 + 1))) else (if x3_1=0 then (some false) else ((spec_l3Small.f (bt a0 x3_1)).bind fun t460=>(if t460=true then (spec_l3VarOk.l0 k1 a0 (wrap64 (x3_1 + 1))) else ((spec_l3Digit.f (bt a0 x3_1)).bind fun t461=>(if t461=true then (spec_l3VarOk.l0 k1 a0 (wrap64 (x3_1 + 1))) else (some false)))))))=some r:=H;have A5:=Aside0.mk A50;clear A50
     by_cases c6:t459=true
     ·subst c6
      replace H:(spec_l3VarOk.l0 k1 a0 (wrap64 (x3_1 + 1)))=some r:=pt H;have H':=Aside0.mk H;clear H;have p4:0≤(x3_1:Int):=od;have q4:x3_1 < (a0.size:Int):=od;have hx4:=bt_at a0 x3_1;replace p4:=eq_true p4;replace q4:=eq_true q4
      go_wp2_with (first|((with_reducible refine gate_callee (f:=50) rfl ?_);refine goesL_ (some 13) rfl rfl Try.func50 (by kernel_rfl) rfl #[.int .u8 (bt a0 x3_1)] rfl gs ?_;(with_reducible refine (spec_l3Large.calls (bt a0 x3_1) true _ A5.out).mono ?_);rintro e w' ⟨rfl,⟨nd,rfl⟩⟩;refine ⟨_,rfl,?_⟩))
      go_roundg k1
      case measure=>have:=HK1.out;omega
      case rel=>exact ⟨(wrap64 (x3_1 + 1)),(cl2),H',⟨by have:=HK1.out;omega⟩,d0⟩
     ·replace c6:=Bool.eq_false_iff.mpr c6
      subst c6;replace H:(if x3_1=0 then (some false) else ((spec_l3Small.f (bt a0 x3_1)).bind fun t460=>(if t460=true then (spec_l3VarOk.l0 k1 a0 (wrap64 (x3_1 + 1))) else ((spec_l3Digit.f (bt a0 x3_1)).bind fun t461=>(if t461=true then (spec_l3VarOk.l0 k1 a0 (wrap64 (x3_1 + 1))) else (some false))))))=some r:=nt H
      by_cases c7:x3_1=0
      ·rw [if_pos c7] at H
       have c7b0:(x3_1 == 0)=true:=beq_iff_eq.mpr c7;have c7b1:(x3_1 != 0)=false:=bne_eq_false_iff_eq.mpr c7;clear c7;obtain rfl:=Option.some.inj H;have p4:0≤(x3_1:Int):=od;have q4:x3_1 < (a0.size:Int):=od;have hx4:=bt_at a0 x3_1;replace p4:=eq_true p4;replace q4:=eq_true q4
       go_wp2_with (first|((with_reducible refine gate_callee (f:=50) rfl ?_);refine goesL_ (some 13) rfl rfl Try.func50 (by kernel_rfl) rfl #[.int .u8 (bt a0 x3_1)] rfl gs ?_;(with_reducible refine (spec_l3Large.calls (bt a0 x3_1) false _ A5.out).mono ?_);rintro e w' ⟨rfl,⟨nd,rfl⟩⟩;refine ⟨_,rfl,?_⟩))
       go_ret
       exact ⟨cl2,d0⟩
      ·rw [if_neg c7] at H
       have c7b0:(x3_1 == 0)=false:=beq_eq_false_iff_ne.mpr c7;have c7b1:(x3_1 != 0)=true:=bne_iff_ne.mpr c7;replace H:=bs H;obtain ⟨t460,A90,H⟩:=H;replace H:(if t460=true then (spec_l3VarOk.l0 k1 a0 (wrap64 (x3_1 + 1))) else ((spec_l3Digit.f (bt a0 x3_1)).bind fun t461=>(if t461=true then (spec_l3VarOk.l0 k1 a0 (wrap64 (x3_1 + 1))) else (some false))))=some r:=H;have A9:=Aside0.mk A90;clear A90
       by_cases c10:t460=true
       ·subst c10
        replace H:(spec_l3VarOk.l0 k1 a0 (wrap64 (x3_1 + 1)))=some r:=pt H;have H':=Aside0.mk H;clear H;have p4:0≤(x3_1:Int):=od;have q4:x3_1 < (a0.size:Int):=od;have hx4:=bt_at a0 x3_1;replace p4:=eq_true p4;replace q4:=eq_true q4
        go_wp2_with (first|((with_reducible refine gate_callee (f:=50) rfl ?_);refine goesL_ (some 13) rfl rfl Try.func50 (by kernel_rfl) rfl #[.int .u8 (bt a0 x3_1)] rfl gs ?_;(with_reducible refine (spec_l3Large.calls (bt a0 x3_1) false _ A5.out).mono ?_);rintro e w' ⟨rfl,⟨nd,rfl⟩⟩;refine ⟨_,rfl,?_⟩;have p8:0≤(x3_1:Int):=od;have q8:x3_1 < (a0.size:Int):=od;have hx8:=bt_at a0 x3_1;replace p8:=eq_true p8;replace q8:=eq_true q8)|(go_at_call 51;(with_reducible refine (spec_l3Small.calls (bt a0 x3_1) true _ A9.out).mono ?_);rintro e w' ⟨rfl,⟨nd,rfl⟩⟩))
        go_roundg k1
        case measure=>have:=HK1.out;omega
        case rel=>exact ⟨(wrap64 (x3_1 + 1)),(cl2),H',⟨by have:=HK1.out;omega⟩,d0⟩
       ·replace c10:=Bool.eq_false_iff.mpr c10
        subst c10;replace H:((spec_l3Digit.f (bt a0 x3_1)).bind fun t461=>(if t461=true then (spec_l3VarOk.l0 k1 a0 (wrap64 (x3_1 + 1))) else (some false)))=some r:=nt H;replace H:=bs H;obtain ⟨t461,A120,H⟩:=H;replace H:(if t461=true then (spec_l3VarOk.l0 k1 a0 (wrap64 (x3_1 + 1))) else (some false))=some r:=H;have A12:=Aside0.mk A120;clear A120
        by_cases c13:t461=true
        ·subst c13
         replace H:(spec_l3VarOk.l0 k1 a0 (wrap64 (x3_1 + 1)))=some r:=pt H;have H':=Aside0.mk H;clear H;have p4:0≤(x3_1:Int):=od;have q4:x3_1 < (a0.size:Int):=od;have hx4:=bt_at a0 x3_1;replace p4:=eq_true p4;replace q4:=eq_true q4
         go_wp2_with (first|((with_reducible refine gate_callee (f:=50) rfl ?_);refine goesL_ (some 13) rfl rfl Try.func50 (by kernel_rfl) rfl #[.int .u8 (bt a0 x3_1)] rfl gs ?_;(with_reducible refine (spec_l3Large.calls (bt a0 x3_1) false _ A5.out).mono ?_);rintro e w' ⟨rfl,⟨nd,rfl⟩⟩;refine ⟨_,rfl,?_⟩;have p8:0≤(x3_1:Int):=od;have q8:x3_1 < (a0.size:Int):=od;have hx8:=bt_at a0 x3_1;replace p8:=eq_true p8;replace q8:=eq_true q8)|(go_at_call 51;(with_reducible refine (spec_l3Small.calls (bt a0 x3_1) false _ A9.out).mono ?_);rintro e w' ⟨rfl,⟨nd,rfl⟩⟩;have p11:0≤(x3_1:Int):=od;have q11:x3_1 < (a0.size:Int):=od;have hx11:=bt_at a0 x3_1;replace p11:=eq_true p11;replace q11:=eq_true q11)|(go_at_call 52;(with_reducible refine (spec_l3Digit.calls (bt a0 x3_1) true _ A12.out).mono ?_);rintro e w' ⟨rfl,⟨nd,rfl⟩⟩))
         go_roundg k1
         case measure=>have:=HK1.out;omega
         case rel=>exact ⟨(wrap64 (x3_1 + 1)),(cl2),H',⟨by have:=HK1.out;omega⟩,d0⟩
        ·replace c13:=Bool.eq_false_iff.mpr c13
         subst c13;replace H:(some false)=some r:=nt H;obtain rfl:=Option.some.inj H;have p4:0≤(x3_1:Int):=od;have q4:x3_1 < (a0.size:Int):=od;have hx4:=bt_at a0 x3_1;replace p4:=eq_true p4;replace q4:=eq_true q4
         go_wp2_with (first|((with_reducible refine gate_callee (f:=50) rfl ?_);refine goesL_ (some 13) rfl rfl Try.func50 (by kernel_rfl) rfl #[.int .u8 (bt a0 x3_1)] rfl gs ?_;(with_reducible refine (spec_l3Large.calls (bt a0 x3_1) false _ A5.out).mono ?_);rintro e w' ⟨rfl,⟨nd,rfl⟩⟩;refine ⟨_,rfl,?_⟩;have p8:0≤(x3_1:Int):=od;have q8:x3_1 < (a0.size:Int):=od;have hx8:=bt_at a0 x3_1;replace p8:=eq_true p8;replace q8:=eq_true q8)|(go_at_call 51;(with_reducible refine (spec_l3Small.calls (bt a0 x3_1) false _ A9.out).mono ?_);rintro e w' ⟨rfl,⟨nd,rfl⟩⟩;have p11:0≤(x3_1:Int):=od;have q11:x3_1 < (a0.size:Int):=od;have hx11:=bt_at a0 x3_1;replace p11:=eq_true p11;replace q11:=eq_true q11)|(go_at_call 52;(with_reducible refine (spec_l3Digit.calls (bt a0 x3_1) false _ A12.out).mono ?_);rintro e w' ⟨rfl,⟨nd,rfl⟩⟩))
         go_ret
         exact ⟨cl2,d0⟩
    ·rw [if_neg c3] at H
     exact absurd H (by simp)
   ·rw [if_neg c2] at H
    have c2b0:decide (x3_1 < (a0.size:Int))=false:=decide_eq_false c2;clear c2;replace H:=bs H;obtain ⟨t458,A140,H⟩:=H;replace H:(some t458)=some r:=H;have A14:=Aside0.mk A140;clear A140;obtain rfl:=Option.some.inj H
    go_wp2_with (first|((with_reducible refine gate_callee (f:=42) rfl ?_);refine goesL_ (some 35) rfl rfl Try.func42 (by kernel_rfl) rfl #[.int .i64 (a0.size:Int),.int .i64 1,.int .i64 20] rfl gs ?_;(with_reducible refine (spec_l1In.calls (a0.size:Int) 1 20 t458 _ A14.out).mono ?_);rintro e w' ⟨rfl,⟨nd,rfl⟩⟩;refine ⟨_,rfl,?_⟩))
    go_ret
    exact ⟨cl2,d0⟩
def spec_l4Op.f (a0:ByteArray):Option (Bool):=if a0.toList=([43]:List UInt8) then (some true) else (if a0.toList=([45]:List UInt8) then (some true) else (if a0.toList=([42]:List UInt8) then (some true) else (if a0.toList=([61,61]:List UInt8) then (some true) else (some (a0.toList == ([60]:List UInt8))))))
theorem spec_l4Op.calls (a0:ByteArray) (r:Bool) (w:World) (h:spec_l4Op.f a0=some r) :
  Calls Try.prog 45 #[.string a0] w fun e w'=>e=.returned (.bool r)∧Drawn0 w w':=by
 have H:(if a0.toList=([43]:List UInt8) then (some true) else (if a0.toList=([45]:List UInt8) then (some true) else (if a0.toList=([42]:List UInt8) then (some true) else (if a0.toList=([61,61]:List UInt8) then (some true) else (some (a0.toList == ([60]:List UInt8)))))))=some r:=h;clear h
 by_cases c2:a0.toList=([43]:List UInt8)
 ·rw [if_pos c2] at H
  have c2b0:(a0.toList == ([43]:List UInt8))=true:=beq_iff_eq.mpr c2;have c2b1:(a0.toList != ([43]:List UInt8))=false:=bne_eq_false_iff_eq.mpr c2;clear c2;obtain rfl:=Option.some.inj H
  go_enter Try.func45,Try.ntmps45
  go_wp2
  go_ret
  exact ⟨cl2,d0⟩
 ·rw [if_neg c2] at H
  have c2b0:(a0.toList == ([43]:List UInt8))=false:=beq_eq_false_iff_ne.mpr c2;have c2b1:(a0.toList != ([43]:List UInt8))=true:=bne_iff_ne.mpr c2
  by_cases c3:a0.toList=([45]:List UInt8)
  ·rw [if_pos c3] at H
   have c3b0:(a0.toList == ([45]:List UInt8))=true:=beq_iff_eq.mpr c3;have c3b1:(a0.toList != ([45]:List UInt8))=false:=bne_eq_false_iff_eq.mpr c3;clear c3;obtain rfl:=Option.some.inj H
   go_enter Try.func45,Try.ntmps45
   go_wp2
   go_ret
   exact ⟨cl2,d0⟩
  ·rw [if_neg c3] at H
   have c3b0:(a0.toList == ([45]:List UInt8))=false:=beq_eq_false_iff_ne.mpr c3;have c3b1:(a0.toList != ([45]:List UInt8))=true:=bne_iff_ne.mpr c3
   by_cases c4:a0.toList=([42]:List UInt8)
   ·rw [if_pos c4] at H
    have c4b0:(a0.toList == ([42]:List UInt8))=true:=beq_iff_eq.mpr c4;have c4b1:(a0.toList != ([42]:List UInt8))=false:=bne_eq_false_iff_eq.mpr c4;clear c4;obtain rfl:=Option.some.inj H
    go_enter Try.func45,Try.ntmps45
    go_wp2
    go_ret
    exact ⟨cl2,d0⟩
   ·rw [if_neg c4] at H
    have c4b0:(a0.toList == ([42]:List UInt8))=false:=beq_eq_false_iff_ne.mpr c4;have c4b1:(a0.toList != ([42]:List UInt8))=true:=bne_iff_ne.mpr c4
    by_cases c5:a0.toList=([61,61]:List UInt8)
    ·rw [if_pos c5] at H
     have c5b0:(a0.toList == ([61,61]:List UInt8))=true:=beq_iff_eq.mpr c5;have c5b1:(a0.toList != ([61,61]:List UInt8))=false:=bne_eq_false_iff_eq.mpr c5;clear c5;obtain rfl:=Option.some.inj H
     go_enter Try.func45,Try.ntmps45
     go_wp2
     go_ret
     exact ⟨cl2,d0⟩
    ·rw [if_neg c5] at H
     have c5b0:(a0.toList == ([61,61]:List UInt8))=false:=beq_eq_false_iff_ne.mpr c5;have c5b1:(a0.toList != ([61,61]:List UInt8))=true:=bne_iff_ne.mpr c5;obtain rfl:=Option.some.inj H
     go_enter Try.func45,Try.ntmps45
     go_wp2
     go_ret
     exact ⟨cl2,d0⟩
mutual
def spec_l4Shape.j0:Nat→Bool→Int→Bool→Int→Int→ByteArray→List (S27)→List (S33)→Option (Bool)
 | 0,_,_,_,_,_,_,_,_=>none
 | k + 1,x1,x5,x27,x463000,x463001,x463002,x463003,x463004=>if x27=true then (some false) else (if x463000=1 then ((spec_l1In.f x463001 0 1000000000000).bind fun t463=>(if t463=true then (if x463002.toList=([]:List UInt8) then (some (x5 == 0)) else (some false)) else (some false))) else (if x463000=2 then ((spec_l4Atom.f k x463002).bind fun t464=>(if t464=true then (some (x5 == 0)) else (some false))) else (if x463000=3 then ((spec_l3VarOk.f k x463002).bind fun t465=>(if t465=true then (if x5=0 then (if x1=true then (some true) else (some (x463002.toList != ([95]:List UInt8)))) else (some false)) else (some false))) else (if x463000=4 then (spec_l4Shape.j1 k x1 x5 x463000 (x463000 == 4) x463000 x463001 x463002 x463003 x463004) else (spec_l4Shape.j1 k x1 x5 x463000 (x463000 == 5) x463000 x463001 x463002 x463003 x463004)))))
def spec_l4Shape.j1:Nat→Bool→Int→Int→Bool→Int→Int→ByteArray→List (S27)→List (S33)→Option (Bool)
 | 0,_,_,_,_,_,_,_,_,_=>none
 | k + 1,x1,x5,x29,x70,x463000,x463001,x463002,x463003,x463004=>if x70=true then (if x463002.toList=([]:List UInt8) then (some (decide (x5≤20))) else (some false)) else (if x29=6 then (if x463002.toList=([]:List UInt8) then ((spec_l1In.f x5 2 6).bind fun t466=>(some t466)) else (some false)) else (if x29=7 then (if x1=true then (some false) else ((spec_l4Op.f x463002).bind fun t467=>(if t467=true then (some (x5 == 2)) else (some false)))) else (if x29=8 then (if x1=true then (some false) else ((spec_l4Atom.f k x463002).bind fun t468=>(if t468=true then (some (decide (x5≤4))) else (some false)))) else (if x29=9 then (if x1=true then (some false) else (if x463002.toList=([]:List UInt8) then (if x5=1 then ((spec_l1In.f (x463004.length:Int) 1 6).bind fun t469=>(some t469)) else (some false)) else (some false))) else (some false)))))
end
def spec_l4Shape.f (k:Nat) (a0_0:Int) (a0_1:Int) (a0_2:ByteArray) (l0_3:List (S27)) (l0_4:List (S33)) (a1:Bool):Option (Bool):=if a0_0=9 then (if a0_0=1 then (spec_l4Shape.j0 k a1 (l0_3.length:Int) false a0_0 a0_1 a0_2 l0_3 l0_4) else (spec_l4Shape.j0 k a1 (l0_3.length:Int) (a0_1 != 0) a0_0 a0_1 a0_2 l0_3 l0_4)) else (if (l0_4.length:Int) > 0 then (spec_l4Shape.j0 k a1 (l0_3.length:Int) true a0_0 a0_1 a0_2 l0_3 l0_4) else (if a0_0=1 then (spec_l4Shape.j0 k a1 (l0_3.length:Int) false a0_0 a0_1 a0_2 l0_3 l0_4) else (spec_l4Shape.j0 k a1 (l0_3.length:Int) (a0_1 != 0) a0_0 a0_1 a0_2 l0_3 l0_4)))
theorem spec_l4Shape.mono_l:∀ k,(∀ y0 y1 y2 y3 y4 y5 y6 y7,LeO (spec_l4Shape.j0 k y0 y1 y2 y3 y4 y5 y6 y7) (spec_l4Shape.j0 (k + 1) y0 y1 y2 y3 y4 y5 y6 y7))∧(∀ y0 y1 y2 y3 y4 y5 y6 y7 y8,LeO (spec_l4Shape.j1 k y0 y1 y2 y3 y4 y5 y6 y7 y8) (spec_l4Shape.j1 (k + 1) y0 y1 y2 y3 y4 y5 y6 y7 y8))
 | 0=>⟨fun _ _ _ _ _ _ _ _ r h=>by simp [spec_l4Shape.j0] at h,fun _ _ _ _ _ _ _ _ _ r h=>by simp [spec_l4Shape.j1] at h⟩
 | k + 1=>by
  obtain ⟨ih0,ih1⟩:=spec_l4Shape.mono_l k
  refine ⟨?_,?_⟩
  ·intro y0 y1 y2 y3 y4 y5 y6 y7
   unfold spec_l4Shape.j0
   with_reducible repeat' first|apply ih0|apply ih1|apply spec_l3VarOk.mono|apply spec_l4Atom.mono|apply LeO.refl|apply LeO.none|apply LeO.ite|refine LeO.bind ?_ (fun _=>?_)
  ·intro y0 y1 y2 y3 y4 y5 y6 y7 y8
   unfold spec_l4Shape.j1
   with_reducible repeat' first|apply ih0|apply ih1|apply spec_l3VarOk.mono|apply spec_l4Atom.mono|apply LeO.refl|apply LeO.none|apply LeO.ite|refine LeO.bind ?_ (fun _=>?_)
theorem spec_l4Shape.mono:∀ a0 a1 a2 a3 a4 a5 k,LeO (spec_l4Shape.f k a0 a1 a2 a3 a4 a5) (spec_l4Shape.f (k + 1) a0 a1 a2 a3 a4 a5):=by
 intro a0 a1 a2 a3 a4 a5 k;obtain ⟨ih0,ih1⟩:=spec_l4Shape.mono_l k
 unfold spec_l4Shape.f
 with_reducible repeat' first|apply ih0|apply ih1|apply spec_l3VarOk.mono|apply spec_l4Atom.mono|apply LeO.refl|apply LeO.none|apply LeO.ite|refine LeO.bind ?_ (fun _=>?_)
theorem spec_l4Shape.calls (k:Nat) (a0_0:Int) (a0_1:Int) (a0_2:ByteArray) (A0_3:Option Addr) (c0_3:Nat) (l0_3:List (S27)) (A0_4:Option Addr) (c0_4:Nat) (l0_4:List (S33)) (a1:Bool) (r:Bool) (w:World) (hr0_3:Kd.C k27 w A0_3 l0_3.length l0_3) (hc0_3:l0_3.length≤c0_3) (hr0_4:Kd.C k33 w A0_4 l0_4.length l0_4) (hc0_4:l0_4.length≤c0_4) (h:spec_l4Shape.f k a0_0 a0_1 a0_2 l0_3 l0_4 a1=some r) :
  Calls Try.prog 37 #[.agg #[.int .i64 a0_0,.int .i64 a0_1,.string a0_2,.slice A0_3 l0_3.length c0_3,.slice A0_4 l0_4.length c0_4],.bool a1] w fun e w'=>e=.returned (.bool r)∧Below w.heap.size w w':=by
 have hu27:=Try.underlying27;have HR0_3:=Aside0.mk hr0_3;have HC0_3:=Aside0.mk hc0_3;clear hr0_3 hc0_3;have HR0_4:=Aside0.mk hr0_4;have HC0_4:=Aside0.mk hc0_4;clear hr0_4 hc0_4;have HB:=Aside0.mk (Below.refl w.heap.size w);have H:(if a0_0=9 then (if a0_0=1 then (spec_l4Shape.j0 k a1 (l0_3.length:Int) false a0_0 a0_1 a0_2 l0_3 l0_4) else (spec_l4Shape.j0 k a1 (l0_3.length:Int) (a0_1 != 0) a0_0 a0_1 a0_2 l0_3 l0_4)) else (if (l0_4.length:Int) > 0 then (spec_l4Shape.j0 k a1 (l0_3.length:Int) true a0_0 a0_1 a0_2 l0_3 l0_4) else (if a0_0=1 then (spec_l4Shape.j0 k a1 (l0_3.length:Int) false a0_0 a0_1 a0_2 l0_3 l0_4) else (spec_l4Shape.j0 k a1 (l0_3.length:Int) (a0_1 != 0) a0_0 a0_1 a0_2 l0_3 l0_4))))=some r:=h;clear h;have HC3:=Aside0.mk H;clear H
 go_enter Try.func37,Try.ntmps37
 go_upto_region 2 with (first|((with_reducible refine gate_dst (N:=2) rfl ?_);(try (refine gate_guard (by rfl) ?_;dsimp only));refine box_event ?hg (N:=2) ?hd (cs:=#[.int .i64 a0_0,.int .i64 a0_1,.string a0_2,.slice A0_3 l0_3.length c0_3,.slice A0_4 l0_4.length c0_4]) (t:=27) ?hr ?_;(case hd|hg=>rfl);(case hr=>first|(go_simp;done)|(go_simp;rfl));intro gb462 hg w4 hbox hb;have n_:=ai (bq HB hb)<|aj (hbox)<|ai (bz hg HB)<|bz hg HB;clear HB;obtain ⟨HB,BK462,GW462,GE462⟩:=n_;clear hb hbox hg;obtain ⟨h5_0,h5_1,h5_2,h5_3,h5_4⟩:=kb5 BK462.out;obtain ⟨z5_0,z5_1,z5_2,z5_3,z5_4⟩:=kz5 BK462.out))
 (try simp only [Act.put,List.setIfInBounds_toArray,List.set_cons_zero,List.set_cons_succ])
 go_cut [27] (fun v27 wc=>∃ (kq:Nat) (x27_2:Bool),v27=.bool x27_2∧Aside0 (spec_l4Shape.j0 kq a1 (l0_3.length:Int) x27_2 a0_0 a0_1 a0_2 l0_3 l0_4=some r)∧Aside0 (kq≤k)∧Aside0 (wc.heap[gb462]?=some (.cells #[.int .i64 a0_0,.int .i64 a0_1,.string a0_2,(.slice A0_3 l0_3.length c0_3),(.slice A0_4 l0_4.length c0_4)] 27 (0,0)))∧Aside0 (Below w.heap.size w wc))
 case first =>
  have H:=HC3.out;clear HC3
  by_cases c6:a0_0=9
  ·rw [if_pos c6] at H
   have c6b0:(a0_0 == 9)=true:=beq_iff_eq.mpr c6;have c6b1:(a0_0 != 9)=false:=bne_eq_false_iff_eq.mpr c6;clear c6
   (first|rw [c6b0]|(simp only [i64_w,i32_w];rw [c6b0])|(simp only [c6b2,Bool.not_true,Bool.not_false])|skip)
   by_cases c7:a0_0=1
   ·rw [if_pos c7] at H
    have c7b0:(a0_0 == 1)=true:=beq_iff_eq.mpr c7;have c7b1:(a0_0 != 1)=false:=bne_eq_false_iff_eq.mpr c7;clear c7;have H':=Aside0.mk H;clear H;obtain ⟨h8_0,h8_1,h8_2,h8_3,h8_4⟩:=kb5 BK462.out
    go_wp2
    go_meet
    case rel=>exact ⟨_,(false),(cl2),H',⟨by first|omega|exact Nat.le_refl _⟩,⟨bk BK462.out⟩,⟨bl HB.out⟩⟩
   ·rw [if_neg c7] at H
    have c7b0:(a0_0 == 1)=false:=beq_eq_false_iff_ne.mpr c7;have c7b1:(a0_0 != 1)=true:=bne_iff_ne.mpr c7;have H':=Aside0.mk H;clear H;obtain ⟨h9_0,h9_1,h9_2,h9_3,h9_4⟩:=kb5 BK462.out
    go_wp2
    go_meet
    case rel=>exact ⟨_,((a0_1 != 0)),(cl2),H',⟨by first|omega|exact Nat.le_refl _⟩,⟨bk BK462.out⟩,⟨bl HB.out⟩⟩
  ·rw [if_neg c6] at H
   have c6b0:(a0_0 == 9)=false:=beq_eq_false_iff_ne.mpr c6;have c6b1:(a0_0 != 9)=true:=bne_iff_ne.mpr c6
   (first|rw [c6b0]|(simp only [i64_w,i32_w];rw [c6b0])|(simp only [c6b2,Bool.not_true,Bool.not_false])|skip)
   by_cases c10:(l0_4.length:Int) > 0
   ·rw [if_pos c10] at H
    have c10b0:decide (0 < (l0_4.length:Int))=true:=decide_eq_true c10;have c10b1:decide (0 < l0_4.length)=true:=decide_eq_true (by omega);clear c10;have H':=Aside0.mk H;clear H;obtain ⟨h11_0,h11_1,h11_2,h11_3,h11_4⟩:=kb5 BK462.out
    go_wp2
    go_meet
    case rel=>exact ⟨_,(true),(cl2),H',⟨by first|omega|exact Nat.le_refl _⟩,⟨bk BK462.out⟩,⟨bl HB.out⟩⟩
   ·rw [if_neg c10] at H
    have c10b0:decide (0 < (l0_4.length:Int))=false:=decide_eq_false c10;have c10b1:decide (0 < l0_4.length)=false:=decide_eq_false (by omega);clear c10
    by_cases c12:a0_0=1
    ·rw [if_pos c12] at H
     have c12b0:(a0_0 == 1)=true:=beq_iff_eq.mpr c12;have c12b1:(a0_0 != 1)=false:=bne_eq_false_iff_eq.mpr c12;clear c12;have H':=Aside0.mk H;clear H;obtain ⟨h13_0,h13_1,h13_2,h13_3,h13_4⟩:=kb5 BK462.out
     go_wp2
     go_meet
     case rel=>exact ⟨_,(false),(cl2),H',⟨by first|omega|exact Nat.le_refl _⟩,⟨bk BK462.out⟩,⟨bl HB.out⟩⟩
    ·rw [if_neg c12] at H
     have c12b0:(a0_0 == 1)=false:=beq_eq_false_iff_ne.mpr c12;have c12b1:(a0_0 != 1)=true:=bne_iff_ne.mpr c12;have H':=Aside0.mk H;clear H;obtain ⟨h14_0,h14_1,h14_2,h14_3,h14_4⟩:=kb5 BK462.out
     go_wp2
     go_meet
     case rel=>exact ⟨_,((a0_1 != 0)),(cl2),H',⟨by first|omega|exact Nat.le_refl _⟩,⟨bk BK462.out⟩,⟨bl HB.out⟩⟩
 case rest =>
  clear HC3;(try clear h5_0 h5_1 h5_2 h5_3 h5_4);(try clear z5_0 z5_1 z5_2 z5_3 z5_4);(try clear BK462);(try clear HB);obtain ⟨kq,x27_2,rfl,HA,HJ2,BK462,HB⟩:=hcut
  cases kq with
  | zero=>exact absurd HA.out (by simp [spec_l4Shape.j0])
  | succ kj2 =>
   have H:=HA.out;clear HA;simp only [spec_l4Shape.j0] at H
   by_cases c15:x27_2=true
   ·subst c15
    replace H:(some false)=some r:=pt H;obtain rfl:=Option.some.inj H
    go_wp2
    go_ret
    exact ⟨cl,bl HB.out⟩
   ·replace c15:=Bool.eq_false_iff.mpr c15
    subst c15;replace H:(if a0_0=1 then ((spec_l1In.f a0_1 0 1000000000000).bind fun t463=>(if t463=true then (if a0_2.toList=([]:List UInt8) then (some ((l0_3.length:Int) == 0)) else (some false)) else (some false))) else (if a0_0=2 then ((spec_l4Atom.f kj2 a0_2).bind fun t464=>(if t464=true then (some ((l0_3.length:Int) == 0)) else (some false))) else (if a0_0=3 then ((spec_l3VarOk.f kj2 a0_2).bind fun t465=>(if t465=true then (if (l0_3.length:Int)=0 then (if a1=true then (some true) else (some (a0_2.toList != ([95]:List UInt8)))) else (some false)) else (some false))) else (if a0_0=4 then (spec_l4Shape.j1 kj2 a1 (l0_3.length:Int) a0_0 (a0_0 == 4) a0_0 a0_1 a0_2 l0_3 l0_4) else (spec_l4Shape.j1 kj2 a1 (l0_3.length:Int) a0_0 (a0_0 == 5) a0_0 a0_1 a0_2 l0_3 l0_4)))))=some r:=nt H
    by_cases c16:a0_0=1
    ·rw [if_pos c16] at H
     have c16b0:(a0_0 == 1)=true:=beq_iff_eq.mpr c16;have c16b1:(a0_0 != 1)=false:=bne_eq_false_iff_eq.mpr c16;clear c16;replace H:=bs H;obtain ⟨t463,A170,H⟩:=H;replace H:(if t463=true then (if a0_2.toList=([]:List UInt8) then (some ((l0_3.length:Int) == 0)) else (some false)) else (some false))=some r:=H;have A17:=Aside0.mk A170;clear A170
     by_cases c18:t463=true
     ·subst c18
      replace H:(if a0_2.toList=([]:List UInt8) then (some ((l0_3.length:Int) == 0)) else (some false))=some r:=pt H
      by_cases c19:a0_2.toList=([]:List UInt8)
      ·rw [if_pos c19] at H
       have c19b0:(a0_2.toList == ([]:List UInt8))=true:=beq_iff_eq.mpr c19;have c19b1:(a0_2.toList != ([]:List UInt8))=false:=bne_eq_false_iff_eq.mpr c19;clear c19;obtain rfl:=Option.some.inj H;obtain ⟨h20_0,h20_1,h20_2,h20_3,h20_4⟩:=kb5 BK462.out
       go_wp2_with (first|((with_reducible refine gate_callee (f:=42) rfl ?_);refine goesL_ (some 34) rfl rfl Try.func42 (by kernel_rfl) rfl #[.int .i64 a0_1,.int .i64 0,.int .i64 1000000000000] rfl gs ?_;(with_reducible refine (spec_l1In.calls a0_1 0 1000000000000 true _ A17.out).mono ?_);rintro e w' ⟨rfl,⟨nd,rfl⟩⟩;refine ⟨_,rfl,?_⟩))
       go_ret
       exact ⟨cl,bl HB.out⟩
      ·rw [if_neg c19] at H
       have c19b0:(a0_2.toList == ([]:List UInt8))=false:=beq_eq_false_iff_ne.mpr c19;have c19b1:(a0_2.toList != ([]:List UInt8))=true:=bne_iff_ne.mpr c19;obtain rfl:=Option.some.inj H;obtain ⟨h21_0,h21_1,h21_2,h21_3,h21_4⟩:=kb5 BK462.out
       go_wp2_with (first|((with_reducible refine gate_callee (f:=42) rfl ?_);refine goesL_ (some 34) rfl rfl Try.func42 (by kernel_rfl) rfl #[.int .i64 a0_1,.int .i64 0,.int .i64 1000000000000] rfl gs ?_;(with_reducible refine (spec_l1In.calls a0_1 0 1000000000000 true _ A17.out).mono ?_);rintro e w' ⟨rfl,⟨nd,rfl⟩⟩;refine ⟨_,rfl,?_⟩))
       go_ret
       exact ⟨cl,bl HB.out⟩
     ·replace c18:=Bool.eq_false_iff.mpr c18
      subst c18;replace H:(some false)=some r:=nt H;obtain rfl:=Option.some.inj H;obtain ⟨h22_0,h22_1,h22_2,h22_3,h22_4⟩:=kb5 BK462.out
      go_wp2_with (first|((with_reducible refine gate_callee (f:=42) rfl ?_);refine goesL_ (some 34) rfl rfl Try.func42 (by kernel_rfl) rfl #[.int .i64 a0_1,.int .i64 0,.int .i64 1000000000000] rfl gs ?_;(with_reducible refine (spec_l1In.calls a0_1 0 1000000000000 false _ A17.out).mono ?_);rintro e w' ⟨rfl,⟨nd,rfl⟩⟩;refine ⟨_,rfl,?_⟩))
      go_ret
      exact ⟨cl,bl HB.out⟩
    ·rw [if_neg c16] at H
     have c16b0:(a0_0 == 1)=false:=beq_eq_false_iff_ne.mpr c16;have c16b1:(a0_0 != 1)=true:=bne_iff_ne.mpr c16
     by_cases c23:a0_0=2
     ·rw [if_pos c23] at H
      have c23b0:(a0_0 == 2)=true:=beq_iff_eq.mpr c23;have c23b1:(a0_0 != 2)=false:=bne_eq_false_iff_eq.mpr c23;clear c23;replace H:=bs H;obtain ⟨t464,A240,H⟩:=H;replace H:(if t464=true then (some ((l0_3.length:Int) == 0)) else (some false))=some r:=H;have A24:=Aside0.mk A240;clear A240
      by_cases c25:t464=true
      ·subst c25
       replace H:(some ((l0_3.length:Int) == 0))=some r:=pt H;obtain rfl:=Option.some.inj H;obtain ⟨h26_0,h26_1,h26_2,h26_3,h26_4⟩:=kb5 BK462.out
       go_wp2_with (first|((with_reducible refine gate_callee (f:=43) rfl ?_);refine goesL_ (some 48) rfl rfl Try.func43 (by kernel_rfl) rfl #[.string a0_2] rfl gs ?_;(with_reducible refine (spec_l4Atom.calls kj2 a0_2 true _ A24.out).mono ?_);rintro e w' ⟨rfl,⟨nd,rfl⟩⟩;refine ⟨_,rfl,?_⟩))
       go_ret
       exact ⟨cl,bl HB.out⟩
      ·replace c25:=Bool.eq_false_iff.mpr c25
       subst c25;replace H:(some false)=some r:=nt H;obtain rfl:=Option.some.inj H;obtain ⟨h27_0,h27_1,h27_2,h27_3,h27_4⟩:=kb5 BK462.out
       go_wp2_with (first|((with_reducible refine gate_callee (f:=43) rfl ?_);refine goesL_ (some 48) rfl rfl Try.func43 (by kernel_rfl) rfl #[.string a0_2] rfl gs ?_;(with_reducible refine (spec_l4Atom.calls kj2 a0_2 false _ A24.out).mono ?_);rintro e w' ⟨rfl,⟨nd,rfl⟩⟩;refine ⟨_,rfl,?_⟩))
       go_ret
       exact ⟨cl,bl HB.out⟩
     ·rw [if_neg c23] at H
      have c23b0:(a0_0 == 2)=false:=beq_eq_false_iff_ne.mpr c23;have c23b1:(a0_0 != 2)=true:=bne_iff_ne.mpr c23
      by_cases c28:a0_0=3
      ·rw [if_pos c28] at H
       have c28b0:(a0_0 == 3)=true:=beq_iff_eq.mpr c28;have c28b1:(a0_0 != 3)=false:=bne_eq_false_iff_eq.mpr c28;clear c28;replace H:=bs H;obtain ⟨t465,A290,H⟩:=H;replace H:(if t465=true then (if (l0_3.length:Int)=0 then (if a1=true then (some true) else (some (a0_2.toList != ([95]:List UInt8)))) else (some false)) else (some false))=some r:=H;have A29:=Aside0.mk A290;clear A290
       by_cases c30:t465=true
       ·subst c30
        replace H:(if (l0_3.length:Int)=0 then (if a1=true then (some true) else (some (a0_2.toList != ([95]:List UInt8)))) else (some false))=some r:=pt H
        by_cases c31:(l0_3.length:Int)=0
        ·rw [if_pos c31] at H
         have c31b0:((l0_3.length:Int) == 0)=true:=beq_iff_eq.mpr c31;have c31b1:((l0_3.length:Int) != 0)=false:=bne_eq_false_iff_eq.mpr c31;clear c31
         by_cases c32:a1=true
         ·subst c32
          replace H:(some true)=some r:=pt H;obtain rfl:=Option.some.inj H;obtain ⟨h33_0,h33_1,h33_2,h33_3,h33_4⟩:=kb5 BK462.out
          go_wp2_with (first|((with_reducible refine gate_callee (f:=44) rfl ?_);refine goesL_ (some 57) rfl rfl Try.func44 (by kernel_rfl) rfl #[.string a0_2] rfl gs ?_;(with_reducible refine (spec_l3VarOk.calls kj2 a0_2 true _ A29.out).mono ?_);rintro e w' ⟨rfl,⟨nd,rfl⟩⟩;refine ⟨_,rfl,?_⟩))
          go_ret
          exact ⟨cl,bl HB.out⟩
         ·replace c32:=Bool.eq_false_iff.mpr c32
          subst c32;replace H:(some (a0_2.toList != ([95]:List UInt8)))=some r:=nt H;obtain rfl:=Option.some.inj H;obtain ⟨h34_0,h34_1,h34_2,h34_3,h34_4⟩:=kb5 BK462.out
          go_wp2_with (first|((with_reducible refine gate_callee (f:=44) rfl ?_);refine goesL_ (some 57) rfl rfl Try.func44 (by kernel_rfl) rfl #[.string a0_2] rfl gs ?_;(with_reducible refine (spec_l3VarOk.calls kj2 a0_2 true _ A29.out).mono ?_);rintro e w' ⟨rfl,⟨nd,rfl⟩⟩;refine ⟨_,rfl,?_⟩))
          go_ret
          exact ⟨cl,bl HB.out⟩
        ·rw [if_neg c31] at H
         have c31b0:((l0_3.length:Int) == 0)=false:=beq_eq_false_iff_ne.mpr c31;have c31b1:((l0_3.length:Int) != 0)=true:=bne_iff_ne.mpr c31;have c31b2 : ¬ (l0_3=[]):=fun h_=>c31 (by rw [h_];rfl)
         obtain rfl:=Option.some.inj H;obtain ⟨h35_0,h35_1,h35_2,h35_3,h35_4⟩:=kb5 BK462.out
         go_wp2_with (first|((with_reducible refine gate_callee (f:=44) rfl ?_);refine goesL_ (some 57) rfl rfl Try.func44 (by kernel_rfl) rfl #[.string a0_2] rfl gs ?_;(with_reducible refine (spec_l3VarOk.calls kj2 a0_2 true _ A29.out).mono ?_);rintro e w' ⟨rfl,⟨nd,rfl⟩⟩;refine ⟨_,rfl,?_⟩))
         go_ret
         exact ⟨cl,bl HB.out⟩
       ·replace c30:=Bool.eq_false_iff.mpr c30
        subst c30;replace H:(some false)=some r:=nt H;obtain rfl:=Option.some.inj H;obtain ⟨h36_0,h36_1,h36_2,h36_3,h36_4⟩:=kb5 BK462.out
        go_wp2_with (first|((with_reducible refine gate_callee (f:=44) rfl ?_);refine goesL_ (some 57) rfl rfl Try.func44 (by kernel_rfl) rfl #[.string a0_2] rfl gs ?_;(with_reducible refine (spec_l3VarOk.calls kj2 a0_2 false _ A29.out).mono ?_);rintro e w' ⟨rfl,⟨nd,rfl⟩⟩;refine ⟨_,rfl,?_⟩))
        go_ret
        exact ⟨cl,bl HB.out⟩
      ·rw [if_neg c28] at H
       have c28b0:(a0_0 == 3)=false:=beq_eq_false_iff_ne.mpr c28;have c28b1:(a0_0 != 3)=true:=bne_iff_ne.mpr c28;have HC37:=Aside0.mk H;clear H;obtain ⟨h38_0,h38_1,h38_2,h38_3,h38_4⟩:=kb5 BK462.out
       go_upto_if 70 with (fail)
       go_cut [70] (fun v70 wc=>∃ (kq:Nat) (x70_36:Bool),v70=.bool x70_36∧Aside0 (spec_l4Shape.j1 kq a1 (l0_3.length:Int) a0_0 x70_36 a0_0 a0_1 a0_2 l0_3 l0_4=some r)∧Aside0 (kq≤kj2)∧Aside0 (wc.heap[gb462]?=some (.cells #[.int .i64 a0_0,.int .i64 a0_1,.string a0_2,(.slice A0_3 l0_3.length c0_3),(.slice A0_4 l0_4.length c0_4)] 27 (0,0)))∧Aside0 (Below w.heap.size w wc))
       case first =>
        have H:=HC37.out;clear HC37
        by_cases c39:a0_0=4
        ·rw [if_pos c39] at H
         have c39b0:(a0_0 == 4)=true:=beq_iff_eq.mpr c39;have c39b1:(a0_0 != 4)=false:=bne_eq_false_iff_eq.mpr c39;clear c39
         (first|rw [c39b0]|(simp only [i64_w,i32_w];rw [c39b0])|(simp only [c39b2,Bool.not_true,Bool.not_false])|skip)
         have H':=Aside0.mk H;clear H
         go_wp2
         go_meet
         case rel=>exact ⟨_,((a0_0 == 4)),(cl2),H',⟨by have:=HJ2.out;first|omega|exact Nat.le_refl _⟩,⟨bk BK462.out⟩,⟨bl HB.out⟩⟩
        ·rw [if_neg c39] at H
         have c39b0:(a0_0 == 4)=false:=beq_eq_false_iff_ne.mpr c39;have c39b1:(a0_0 != 4)=true:=bne_iff_ne.mpr c39
         (first|rw [c39b0]|(simp only [i64_w,i32_w];rw [c39b0])|(simp only [c39b2,Bool.not_true,Bool.not_false])|skip)
         have H':=Aside0.mk H;clear H
         go_wp2
         go_meet
         case rel=>exact ⟨_,((a0_0 == 5)),(cl2),H',⟨by have:=HJ2.out;first|omega|exact Nat.le_refl _⟩,⟨bk BK462.out⟩,⟨bl HB.out⟩⟩
       case rest =>
        clear HC37;(try clear c15);(try clear c16);(try clear c16b0);(try clear c16b1);(try clear c23);(try clear c23b0);(try clear c23b1);(try clear c28);(try clear c28b0);(try clear c28b1);(try clear h38_0 h38_1 h38_2 h38_3 h38_4);(try clear h5_0 h5_1 h5_2 h5_3 h5_4)
        (try clear z5_0 z5_1 z5_2 z5_3 z5_4);(try clear BK462);(try clear HB);obtain ⟨kq,x70_36,rfl,HA,HJ36,BK462,HB⟩:=hcut
        cases kq with
        | zero=>exact absurd HA.out (by simp [spec_l4Shape.j1])
        | succ kj36 =>
         have H:=HA.out;clear HA;simp only [spec_l4Shape.j1] at H
         by_cases c40:x70_36=true
         ·subst c40
          replace H:(if a0_2.toList=([]:List UInt8) then (some (decide ((l0_3.length:Int)≤20))) else (some false))=some r:=pt H
          by_cases c41:a0_2.toList=([]:List UInt8)
          ·rw [if_pos c41] at H
           have c41b0:(a0_2.toList == ([]:List UInt8))=true:=beq_iff_eq.mpr c41;have c41b1:(a0_2.toList != ([]:List UInt8))=false:=bne_eq_false_iff_eq.mpr c41;clear c41;obtain rfl:=Option.some.inj H;obtain ⟨h42_0,h42_1,h42_2,h42_3,h42_4⟩:=kb5 BK462.out
           go_wp2
           go_ret
           exact ⟨cl,bl HB.out⟩
          ·rw [if_neg c41] at H
           have c41b0:(a0_2.toList == ([]:List UInt8))=false:=beq_eq_false_iff_ne.mpr c41;have c41b1:(a0_2.toList != ([]:List UInt8))=true:=bne_iff_ne.mpr c41;obtain rfl:=Option.some.inj H;obtain ⟨h43_0,h43_1,h43_2,h43_3,h43_4⟩:=kb5 BK462.out
           go_wp2
           go_ret
           exact ⟨cl,bl HB.out⟩
         ·replace c40:=Bool.eq_false_iff.mpr c40
          subst c40;replace H:(if a0_0=6 then (if a0_2.toList=([]:List UInt8) then ((spec_l1In.f (l0_3.length:Int) 2 6).bind fun t466=>(some t466)) else (some false)) else (if a0_0=7 then (if a1=true then (some false) else ((spec_l4Op.f a0_2).bind fun t467=>(if t467=true then (some ((l0_3.length:Int) == 2)) else (some false)))) else (if a0_0=8 then (if a1=true then (some false) else ((spec_l4Atom.f kj36 a0_2).bind fun t468=>(if t468=true then (some (decide ((l0_3.length:Int)≤4))) else (some false)))) else (if a0_0=9 then (if a1=true then (some false) else (if a0_2.toList=([]:List UInt8) then (if (l0_3.length:Int)=1 then ((spec_l1In.f (l0_4.length:Int) 1 6).bind fun t469=>(some t469)) else (some false)) else (some false))) else (some false)))))=some r:=nt H
          by_cases c44:a0_0=6
          ·rw [if_pos c44] at H
           have c44b0:(a0_0 == 6)=true:=beq_iff_eq.mpr c44;have c44b1:(a0_0 != 6)=false:=bne_eq_false_iff_eq.mpr c44;clear c44
           by_cases c45:a0_2.toList=([]:List UInt8)
           ·rw [if_pos c45] at H
            have c45b0:(a0_2.toList == ([]:List UInt8))=true:=beq_iff_eq.mpr c45;have c45b1:(a0_2.toList != ([]:List UInt8))=false:=bne_eq_false_iff_eq.mpr c45;clear c45;replace H:=bs H;obtain ⟨t466,A460,H⟩:=H;replace H:(some t466)=some r:=H;have A46:=Aside0.mk A460;clear A460;obtain rfl:=Option.some.inj H;obtain ⟨h47_0,h47_1,h47_2,h47_3,h47_4⟩:=kb5 BK462.out
            go_wp2_with (first|(go_at_call 42;(with_reducible refine (spec_l1In.calls (l0_3.length:Int) 2 6 t466 _ A46.out).mono ?_);rintro e w' ⟨rfl,⟨nd,rfl⟩⟩))
            go_ret
            exact ⟨cl,bl HB.out⟩
           ·rw [if_neg c45] at H
            have c45b0:(a0_2.toList == ([]:List UInt8))=false:=beq_eq_false_iff_ne.mpr c45;have c45b1:(a0_2.toList != ([]:List UInt8))=true:=bne_iff_ne.mpr c45;obtain rfl:=Option.some.inj H;obtain ⟨h48_0,h48_1,h48_2,h48_3,h48_4⟩:=kb5 BK462.out
            go_wp2
            go_ret
            exact ⟨cl,bl HB.out⟩
          ·rw [if_neg c44] at H
           have c44b0:(a0_0 == 6)=false:=beq_eq_false_iff_ne.mpr c44;have c44b1:(a0_0 != 6)=true:=bne_iff_ne.mpr c44
           by_cases c49:a0_0=7
           ·rw [if_pos c49] at H
            have c49b0:(a0_0 == 7)=true:=beq_iff_eq.mpr c49;have c49b1:(a0_0 != 7)=false:=bne_eq_false_iff_eq.mpr c49;clear c49
            by_cases c50:a1=true
            ·subst c50
             replace H:(some false)=some r:=pt H;obtain rfl:=Option.some.inj H
             go_wp2
             go_ret
             exact ⟨cl,bl HB.out⟩
            ·replace c50:=Bool.eq_false_iff.mpr c50
             subst c50;replace H:((spec_l4Op.f a0_2).bind fun t467=>(if t467=true then (some ((l0_3.length:Int) == 2)) else (some false)))=some r:=nt H;replace H:=bs H;obtain ⟨t467,A510,H⟩:=H;replace H:(if t467=true then (some ((l0_3.length:Int) == 2)) else (some false))=some r:=H;have A51:=Aside0.mk A510;clear A510
             by_cases c52:t467=true
             ·subst c52
              replace H:(some ((l0_3.length:Int) == 2))=some r:=pt H;obtain rfl:=Option.some.inj H;obtain ⟨h53_0,h53_1,h53_2,h53_3,h53_4⟩:=kb5 BK462.out
              go_wp2_with (first|(go_at_call 45;(with_reducible refine (spec_l4Op.calls a0_2 true _ A51.out).mono ?_);rintro e w' ⟨rfl,⟨nd,rfl⟩⟩))
              go_ret
              exact ⟨cl,bl HB.out⟩
             ·replace c52:=Bool.eq_false_iff.mpr c52
              subst c52;replace H:(some false)=some r:=nt H;obtain rfl:=Option.some.inj H;obtain ⟨h54_0,h54_1,h54_2,h54_3,h54_4⟩:=kb5 BK462.out
              go_wp2_with (first|(go_at_call 45;(with_reducible refine (spec_l4Op.calls a0_2 false _ A51.out).mono ?_);rintro e w' ⟨rfl,⟨nd,rfl⟩⟩))
              go_ret
              exact ⟨cl,bl HB.out⟩
           ·rw [if_neg c49] at H
            have c49b0:(a0_0 == 7)=false:=beq_eq_false_iff_ne.mpr c49;have c49b1:(a0_0 != 7)=true:=bne_iff_ne.mpr c49
            by_cases c55:a0_0=8
            ·rw [if_pos c55] at H
             have c55b0:(a0_0 == 8)=true:=beq_iff_eq.mpr c55;have c55b1:(a0_0 != 8)=false:=bne_eq_false_iff_eq.mpr c55;clear c55
             by_cases c56:a1=true
             ·subst c56
              replace H:(some false)=some r:=pt H;obtain rfl:=Option.some.inj H
              go_wp2
              go_ret
              exact ⟨cl,bl HB.out⟩
             ·replace c56:=Bool.eq_false_iff.mpr c56
              subst c56;replace H:((spec_l4Atom.f kj36 a0_2).bind fun t468=>(if t468=true then (some (decide ((l0_3.length:Int)≤4))) else (some false)))=some r:=nt H;replace H:=bs H;obtain ⟨t468,A570,H⟩:=H;replace H:(if t468=true then (some (decide ((l0_3.length:Int)≤4))) else (some false))=some r:=H;have A57:=Aside0.mk A570;clear A570
              by_cases c58:t468=true
              ·subst c58
               replace H:(some (decide ((l0_3.length:Int)≤4)))=some r:=pt H;obtain rfl:=Option.some.inj H;obtain ⟨h59_0,h59_1,h59_2,h59_3,h59_4⟩:=kb5 BK462.out
               go_wp2_with (first|(go_at_call 43;(with_reducible refine (spec_l4Atom.calls kj36 a0_2 true _ A57.out).mono ?_);rintro e w' ⟨rfl,⟨nd,rfl⟩⟩))
               go_ret
               exact ⟨cl,bl HB.out⟩
              ·replace c58:=Bool.eq_false_iff.mpr c58
               subst c58;replace H:(some false)=some r:=nt H;obtain rfl:=Option.some.inj H;obtain ⟨h60_0,h60_1,h60_2,h60_3,h60_4⟩:=kb5 BK462.out
               go_wp2_with (first|(go_at_call 43;(with_reducible refine (spec_l4Atom.calls kj36 a0_2 false _ A57.out).mono ?_);rintro e w' ⟨rfl,⟨nd,rfl⟩⟩))
               go_ret
               exact ⟨cl,bl HB.out⟩
            ·rw [if_neg c55] at H
             have c55b0:(a0_0 == 8)=false:=beq_eq_false_iff_ne.mpr c55;have c55b1:(a0_0 != 8)=true:=bne_iff_ne.mpr c55
             by_cases c61:a0_0=9
             ·rw [if_pos c61] at H
              have c61b0:(a0_0 == 9)=true:=beq_iff_eq.mpr c61;have c61b1:(a0_0 != 9)=false:=bne_eq_false_iff_eq.mpr c61;clear c61
              by_cases c62:a1=true
              ·subst c62
               replace H:(some false)=some r:=pt H;obtain rfl:=Option.some.inj H
               go_wp2
               go_ret
               exact ⟨cl,bl HB.out⟩
              ·replace c62:=Bool.eq_false_iff.mpr c62
               subst c62;replace H:(if a0_2.toList=([]:List UInt8) then (if (l0_3.length:Int)=1 then ((spec_l1In.f (l0_4.length:Int) 1 6).bind fun t469=>(some t469)) else (some false)) else (some false))=some r:=nt H
               by_cases c63:a0_2.toList=([]:List UInt8)
               ·rw [if_pos c63] at H
                have c63b0:(a0_2.toList == ([]:List UInt8))=true:=beq_iff_eq.mpr c63;have c63b1:(a0_2.toList != ([]:List UInt8))=false:=bne_eq_false_iff_eq.mpr c63;clear c63
                by_cases c64:(l0_3.length:Int)=1
                ·rw [if_pos c64] at H
                 have c64b0:((l0_3.length:Int) == 1)=true:=beq_iff_eq.mpr c64;have c64b1:((l0_3.length:Int) != 1)=false:=bne_eq_false_iff_eq.mpr c64;clear c64;replace H:=bs H;obtain ⟨t469,A650,H⟩:=H;replace H:(some t469)=some r:=H;have A65:=Aside0.mk A650;clear A650;obtain rfl:=Option.some.inj H;obtain ⟨h66_0,h66_1,h66_2,h66_3,h66_4⟩:=kb5 BK462.out
                 go_wp2_with (first|(go_at_call 42;(with_reducible refine (spec_l1In.calls (l0_4.length:Int) 1 6 t469 _ A65.out).mono ?_);rintro e w' ⟨rfl,⟨nd,rfl⟩⟩))
                 go_ret
                 exact ⟨cl,bl HB.out⟩
                ·rw [if_neg c64] at H
                 have c64b0:((l0_3.length:Int) == 1)=false:=beq_eq_false_iff_ne.mpr c64;have c64b1:((l0_3.length:Int) != 1)=true:=bne_iff_ne.mpr c64;obtain rfl:=Option.some.inj H;obtain ⟨h67_0,h67_1,h67_2,h67_3,h67_4⟩:=kb5 BK462.out
                 go_wp2
                 go_ret
                 exact ⟨cl,bl HB.out⟩
               ·rw [if_neg c63] at H
                have c63b0:(a0_2.toList == ([]:List UInt8))=false:=beq_eq_false_iff_ne.mpr c63;have c63b1:(a0_2.toList != ([]:List UInt8))=true:=bne_iff_ne.mpr c63;obtain rfl:=Option.some.inj H;obtain ⟨h68_0,h68_1,h68_2,h68_3,h68_4⟩:=kb5 BK462.out
                go_wp2
                go_ret
                exact ⟨cl,bl HB.out⟩
             ·rw [if_neg c61] at H
              have c61b0:(a0_0 == 9)=false:=beq_eq_false_iff_ne.mpr c61;have c61b1:(a0_0 != 9)=true:=bne_iff_ne.mpr c61;obtain rfl:=Option.some.inj H
              go_wp2
              go_ret
              exact ⟨cl,bl HB.out⟩
def spec_l4Once.l0:Nat→List ByteArray→Int→Option (Bool)
 | 0,_,_=>none
 | k + 1,x0,x3=>if x3 < (x0.length:Int) then (if 0≤x3 then (if x3≤(x0.length:Int) then ((spec_l4Has.f k (x0.take (x3:Int).toNat) (rdOf ByteArray.empty x0 x3)).bind fun t475=>(if t475=true then (some false) else (spec_l4Once.l0 k x0 (wrap64 (x3 + 1))))) else (none)) else (none)) else (some true)
def spec_l4Once.f (k:Nat) (l0:List ByteArray):Option (Bool):=spec_l4Once.l0 k l0 0
theorem spec_l4Once.mono_l:∀ k,(∀ y0 y1,LeO (spec_l4Once.l0 k y0 y1) (spec_l4Once.l0 (k + 1) y0 y1))
 | 0=>fun _ _ r h=>by simp [spec_l4Once.l0] at h
 | k + 1=>by
  have ih0:=spec_l4Once.mono_l k
  ·intro y0 y1
   unfold spec_l4Once.l0
   with_reducible repeat' first|apply ih0|apply spec_l4Has.mono|apply LeO.refl|apply LeO.none|apply LeO.ite|refine LeO.bind ?_ (fun _=>?_)
theorem spec_l4Once.mono:∀ a0 k,LeO (spec_l4Once.f k a0) (spec_l4Once.f (k + 1) a0):=by
 intro a0 k;have ih0:=spec_l4Once.mono_l k
 unfold spec_l4Once.f
 with_reducible repeat' first|apply ih0|apply spec_l4Has.mono|apply LeO.refl|apply LeO.none|apply LeO.ite|refine LeO.bind ?_ (fun _=>?_)
theorem spec_l4Once.calls (k:Nat) (A0:Option Addr) (c0:Nat) (l0:List ByteArray) (r:Bool) (w:World) (hr0:Kd.C Kd.string w A0 l0.length l0) (hc0:l0.length≤c0) (h:spec_l4Once.f k l0=some r) :
  Calls Try.prog 38 #[.slice A0 l0.length c0] w fun e w'=>e=.returned (.bool r)∧Drawn0 w w':=by
 have HR0:=Aside0.mk hr0;have HC0:=Aside0.mk hc0;clear hr0 hc0;have H:(spec_l4Once.l0 k l0 0)=some r:=h;clear h;have H':=Aside0.mk H;clear H
 go_enter Try.func38,Try.ntmps38
 go_wp2
 repeat (go_quiet (fail);try go_wp2)
 go_loopg [3] k (fun kq v3 w'=>∃ (x3_1:Int),v3=.int .i64 x3_1∧Aside0 (spec_l4Once.l0 kq l0 x3_1=some r)∧Aside0 (kq≤k)∧Drawn0 w w')
 case atStart=>exact ⟨(0),(cl2),H',⟨Nat.le_refl _⟩,d0⟩
 case round =>
  clear H';obtain ⟨x3_1,rfl,HA,HK1,⟨m1,rfl⟩⟩:=hrel
  cases gk with
  | zero=>exact absurd HA.out (by simp [spec_l4Once.l0])
  | succ k1 =>
   have H:=HA.out;clear HA;simp only [spec_l4Once.l0] at H
   by_cases c2:x3_1 < (l0.length:Int)
   ·rw [if_pos c2] at H
    have c2b0:decide (x3_1 < (l0.length:Int))=true:=decide_eq_true c2;clear c2
    by_cases c3:0≤x3_1
    ·rw [if_pos c3] at H
     have c3b0:=eq_true c3;have c3b1:decide (0≤x3_1)=true:=decide_eq_true c3;clear c3
     by_cases c4:x3_1≤(l0.length:Int)
     ·rw [if_pos c4] at H
      have c4b0:=eq_true c4;have c4b1:decide (x3_1≤(l0.length:Int))=true:=decide_eq_true c4;clear c4;obtain ⟨y470,hy470⟩:∃ y_:List ByteArray,y_=(l0.take (x3_1:Int).toNat):=⟨_,rfl⟩;replace H:((spec_l4Has.f k1 y470 (rdOf ByteArray.empty l0 x3_1)).bind fun t475=>(if t475=true then (some false) else (spec_l4Once.l0 k1 l0 (wrap64 (x3_1 + 1)))))=some r:=hw hy470 H
      have Ny470:=Aside0.mk hy470;clear hy470;replace H:=bs H;obtain ⟨t475,A50,H⟩:=H;replace H:(if t475=true then (some false) else (spec_l4Once.l0 k1 l0 (wrap64 (x3_1 + 1))))=some r:=H;have A5:=Aside0.mk A50;clear A50
      by_cases c6:t475=true
      ·subst c6
       replace H:(some false)=some r:=pt H;obtain rfl:=Option.some.inj H;have q7:(x3_1:Int)≤((l0.length:Int):Int):=od;obtain ⟨i07,hi07,_,hsz7,_⟩:=info_parts info9;have hroom7:l0.length≤c0:=HC0.out;have hC7:Kd.C Kd.string _ A0 l0.length l0:=HR0.out;have hcut7:=cut_to (P:=Try.prog) 29 9 .i64 Try.underlying29 hi07 A0 l0.length c0 x3_1 (od) q7 hroom7;have hr7:=Kd.C_take (m:=(x3_1:Int).toNat) hC7 (by omega);have hy7:y470.length=(x3_1:Int).toNat:=(by rw [Ny470.out,List.length_take];omega);rw [← Ny470.out] at hr7;rw [← hy7] at hcut7;have HR473:=Aside0.mk hr7;have HC473:=Aside0.mk (show y470.length≤c0 from by omega);clear hr7 hC7 hroom7 hi07 hsz7;have KY7:=Aside0.mk hy7;clear hy7;replace q7:=eq_true q7;have p474:0≤(x3_1:Int):=od;have q474:x3_1 < (l0.length:Int):=od;obtain ⟨ad474,e474,hx474_0⟩:=Kd.at_string HR0.out x3_1 p474 q474;cases e474;replace p474:=eq_true p474;replace q474:=eq_true q474
       go_wp2_with (first|(go_at_call 21;(with_reducible refine (spec_l4Has.calls k1 _ _ y470 (rdOf ByteArray.empty l0 x3_1) true _ ?side1 ?side2 A5.out).mono ?_);(case side1=>exact ck HR473.out);(case side2=>exact HC473.out);rintro e w' ⟨rfl,⟨nd,rfl⟩⟩;(try first|exact ⟨rfl,_,World.drewN_drewN _ _ _⟩|exact ⟨rfl,_,Eq.trans (World.drewN_drewN _ _ _) (congrArg (World.drewN _) (Nat.add_assoc _ _ _))⟩)))
       repeat (go_quiet (first|(go_at_call 21;(with_reducible refine (spec_l4Has.calls k1 _ _ y470 (rdOf ByteArray.empty l0 x3_1) true _ ?side1 ?side2 A5.out).mono ?_);(case side1=>exact ck HR473.out);(case side2=>exact HC473.out);rintro e w' ⟨rfl,⟨nd,rfl⟩⟩;(try first|exact ⟨rfl,_,World.drewN_drewN _ _ _⟩|exact ⟨rfl,_,Eq.trans (World.drewN_drewN _ _ _) (congrArg (World.drewN _) (Nat.add_assoc _ _ _))⟩)));try go_wp2_with (first|(go_at_call 21;(with_reducible refine (spec_l4Has.calls k1 _ _ y470 (rdOf ByteArray.empty l0 x3_1) true _ ?side1 ?side2 A5.out).mono ?_);(case side1=>exact ck HR473.out);(case side2=>exact HC473.out);rintro e w' ⟨rfl,⟨nd,rfl⟩⟩;(try first|exact ⟨rfl,_,World.drewN_drewN _ _ _⟩|exact ⟨rfl,_,Eq.trans (World.drewN_drewN _ _ _) (congrArg (World.drewN _) (Nat.add_assoc _ _ _))⟩))))
       go_ret
       exact ⟨cl2,d0⟩
      ·replace c6:=Bool.eq_false_iff.mpr c6
       subst c6;replace H:(spec_l4Once.l0 k1 l0 (wrap64 (x3_1 + 1)))=some r:=nt H;have H':=Aside0.mk H;clear H;have q8:(x3_1:Int)≤((l0.length:Int):Int):=od;obtain ⟨i08,hi08,_,hsz8,_⟩:=info_parts info9;have hroom8:l0.length≤c0:=HC0.out;have hC8:Kd.C Kd.string _ A0 l0.length l0:=HR0.out;have hcut8:=cut_to (P:=Try.prog) 29 9 .i64 Try.underlying29 hi08 A0 l0.length c0 x3_1 (od) q8 hroom8;have hr8:=Kd.C_take (m:=(x3_1:Int).toNat) hC8 (by omega);have hy8:y470.length=(x3_1:Int).toNat:=(by rw [Ny470.out,List.length_take];omega);rw [← Ny470.out] at hr8;rw [← hy8] at hcut8;have HR473:=Aside0.mk hr8;have HC473:=Aside0.mk (show y470.length≤c0 from by omega);clear hr8 hC8 hroom8 hi08 hsz8;have KY8:=Aside0.mk hy8;clear hy8;replace q8:=eq_true q8;have p474:0≤(x3_1:Int):=od;have q474:x3_1 < (l0.length:Int):=od;obtain ⟨ad474,e474,hx474_0⟩:=Kd.at_string HR0.out x3_1 p474 q474;cases e474;replace p474:=eq_true p474;replace q474:=eq_true q474
       go_wp2_with (first|(go_at_call 21;(with_reducible refine (spec_l4Has.calls k1 _ _ y470 (rdOf ByteArray.empty l0 x3_1) false _ ?side1 ?side2 A5.out).mono ?_);(case side1=>exact ck HR473.out);(case side2=>exact HC473.out);rintro e w' ⟨rfl,⟨nd,rfl⟩⟩;(try first|exact ⟨rfl,_,World.drewN_drewN _ _ _⟩|exact ⟨rfl,_,Eq.trans (World.drewN_drewN _ _ _) (congrArg (World.drewN _) (Nat.add_assoc _ _ _))⟩)))
       repeat (go_quiet (first|(go_at_call 21;(with_reducible refine (spec_l4Has.calls k1 _ _ y470 (rdOf ByteArray.empty l0 x3_1) false _ ?side1 ?side2 A5.out).mono ?_);(case side1=>exact ck HR473.out);(case side2=>exact HC473.out);rintro e w' ⟨rfl,⟨nd,rfl⟩⟩;(try first|exact ⟨rfl,_,World.drewN_drewN _ _ _⟩|exact ⟨rfl,_,Eq.trans (World.drewN_drewN _ _ _) (congrArg (World.drewN _) (Nat.add_assoc _ _ _))⟩)));try go_wp2_with (first|(go_at_call 21;(with_reducible refine (spec_l4Has.calls k1 _ _ y470 (rdOf ByteArray.empty l0 x3_1) false _ ?side1 ?side2 A5.out).mono ?_);(case side1=>exact ck HR473.out);(case side2=>exact HC473.out);rintro e w' ⟨rfl,⟨nd,rfl⟩⟩;(try first|exact ⟨rfl,_,World.drewN_drewN _ _ _⟩|exact ⟨rfl,_,Eq.trans (World.drewN_drewN _ _ _) (congrArg (World.drewN _) (Nat.add_assoc _ _ _))⟩))))
       go_roundg k1
       case measure=>have:=HK1.out;omega
       case rel=>exact ⟨(wrap64 (x3_1 + 1)),(cl2),H',⟨by have:=HK1.out;omega⟩,d0⟩
     ·rw [if_neg c4] at H
      exact absurd H (by simp)
    ·rw [if_neg c3] at H
     exact absurd H (by simp)
   ·rw [if_neg c2] at H
    have c2b0:decide (x3_1 < (l0.length:Int))=false:=decide_eq_false c2;clear c2;obtain rfl:=Option.some.inj H
    go_wp2
    repeat (go_quiet (fail);try go_wp2)
    go_ret
    exact ⟨cl2,d0⟩
mutual
def spec_l4Look.j0:Nat→Bool→Int→Int→Bool→Int→Int→ByteArray→List (S27)→List (S33)→Option (Int)
 | 0,_,_,_,_,_,_,_,_,_=>none
 | k + 1,x1,x2,x3,x22,x477000,x477001,x477002,x477003,x477004=>if x22=true then (some (-1)) else (spec_l4Look.l0 k x1 x2 (wrap64 (x3 - 1)) 0 x477000 x477001 x477002 x477003 x477004)
def spec_l4Look.j2:Nat→Int→Int→Int→Int→ByteArray→List (S27)→List (S33)→Option (Int)
 | 0,_,_,_,_,_,_,_=>none
 | k + 1,x2,x3,x477000,x477001,x477002,x477003,x477004=>spec_l4Look.l1 k x2 x3 0 x477000 x477001 x477002 x477003 x477004
def spec_l4Look.l1:Nat→Int→Int→Int→Int→Int→ByteArray→List (S27)→List (S33)→Option (Int)
 | 0,_,_,_,_,_,_,_,_=>none
 | k + 1,x2,x3,x10,x477000,x477001,x477002,x477003,x477004=>if x10 < (x477004.length:Int) then (spec_l4Look.j4 k x2 x3 x10 (decide (x3 ≥ 0)) x477000 x477001 x477002 x477003 x477004) else (spec_l4Look.j4 k x2 x3 x10 false x477000 x477001 x477002 x477003 x477004)
def spec_l4Look.j4:Nat→Int→Int→Int→Bool→Int→Int→ByteArray→List (S27)→List (S33)→Option (Int)
 | 0,_,_,_,_,_,_,_,_,_=>none
 | k + 1,x2,x3,x10,x54,x477000,x477001,x477002,x477003,x477004=>if x54=true then (if 0≤x10 then (if x10 < (x477004.length:Int) then ((spec_VarsOf.f k ((rd_T33 x477004 x10).f0.f0) ((rd_T33 x477004 x10).f0.f1) ((rd_T33 x477004 x10).f0.f2) ((rd_T33 x477004 x10).f0.f3) ((rd_T33 x477004 x10).f0.f4)).bind fun t481=>((spec_l4Once.f k t481).bind fun t484=>(if t484=true then ((spec_l4Look.f k ((rd_T33 x477004 x10).f0.f0) ((rd_T33 x477004 x10).f0.f1) ((rd_T33 x477004 x10).f0.f2) ((rd_T33 x477004 x10).f0.f3) ((rd_T33 x477004 x10).f0.f4) true (wrap64 (x2 - 1)) x3).bind fun t486=>(if t486 ≥ 0 then ((spec_l4Look.f k ((rd_T33 x477004 x10).f1.f0) ((rd_T33 x477004 x10).f1.f1) ((rd_T33 x477004 x10).f1.f2) ((rd_T33 x477004 x10).f1.f3) ((rd_T33 x477004 x10).f1.f4) false (wrap64 (x2 - 1)) t486).bind fun t488=>(spec_l4Look.l1 k x2 t488 (wrap64 (x10 + 1)) x477000 x477001 x477002 x477003 x477004)) else (spec_l4Look.l1 k x2 t486 (wrap64 (x10 + 1)) x477000 x477001 x477002 x477003 x477004))) else (some (-1))))) else (none)) else (none)) else (some x3)
def spec_l4Look.l0:Nat→Bool→Int→Int→Int→Int→Int→ByteArray→List (S27)→List (S33)→Option (Int)
 | 0,_,_,_,_,_,_,_,_,_=>none
 | k + 1,x1,x2,x3,x9,x477000,x477001,x477002,x477003,x477004=>if x9 < (x477003.length:Int) then (if x3 ≥ 0 then (if 0≤x9 then ((spec_l4Look.f k ((rd_T27 x477003 x9).f0) ((rd_T27 x477003 x9).f1) ((rd_T27 x477003 x9).f2) ((rd_T27 x477003 x9).f3) ((rd_T27 x477003 x9).f4) x1 (wrap64 (x2 - 1)) x3).bind fun t479=>(spec_l4Look.l0 k x1 x2 t479 (wrap64 (x9 + 1)) x477000 x477001 x477002 x477003 x477004)) else (none)) else (spec_l4Look.j2 k x2 x3 x477000 x477001 x477002 x477003 x477004)) else (spec_l4Look.j2 k x2 x3 x477000 x477001 x477002 x477003 x477004)
def spec_l4Look.f:Nat→Int→Int→ByteArray→List (S27)→List (S33)→Bool→Int→Int→Option (Int)
 | 0,_,_,_,_,_,_,_,_=>none
 | k + 1,a0_0,a0_1,a0_2,l0_3,l0_4,a1,a2,a3=>if a2 < 1 then (spec_l4Look.j0 k a1 a2 a3 true a0_0 a0_1 a0_2 l0_3 l0_4) else (if a3 < 1 then (spec_l4Look.j0 k a1 a2 a3 true a0_0 a0_1 a0_2 l0_3 l0_4) else ((spec_l4Shape.f k a0_0 a0_1 a0_2 l0_3 l0_4 a1).bind fun t477=>(spec_l4Look.j0 k a1 a2 a3 (!t477) a0_0 a0_1 a0_2 l0_3 l0_4)))
end
theorem spec_l4Look.mono_l:∀ k,(∀ y0 y1 y2 y3 y4 y5 y6 y7,LeO (spec_l4Look.f k y0 y1 y2 y3 y4 y5 y6 y7) (spec_l4Look.f (k + 1) y0 y1 y2 y3 y4 y5 y6 y7))∧(∀ y0 y1 y2 y3 y4 y5 y6 y7 y8,LeO (spec_l4Look.j0 k y0 y1 y2 y3 y4 y5 y6 y7 y8) (spec_l4Look.j0 (k + 1) y0 y1 y2 y3 y4 y5 y6 y7 y8))∧(∀ y0 y1 y2 y3 y4 y5 y6,LeO (spec_l4Look.j2 k y0 y1 y2 y3 y4 y5 y6) (spec_l4Look.j2 (k + 1) y0 y1 y2 y3 y4 y5 y6))∧(∀ y0 y1 y2 y3 y4 y5 y6 y7,LeO (spec_l4Look.l1 k y0 y1 y2 y3 y4 y5 y6 y7) (spec_l4Look.l1 (k + 1) y0 y1 y2 y3 y4 y5 y6 y7))∧(∀ y0 y1 y2 y3 y4 y5 y6 y7 y8,LeO (spec_l4Look.j4 k y0 y1 y2 y3 y4 y5 y6 y7 y8) (spec_l4Look.j4 (k + 1) y0 y1 y2 y3 y4 y5 y6 y7 y8))∧(∀ y0 y1 y2 y3 y4 y5 y6 y7 y8,LeO (spec_l4Look.l0 k y0 y1 y2 y3 y4 y5 y6 y7 y8) (spec_l4Look.l0 (k + 1) y0 y1 y2 y3 y4 y5 y6 y7 y8))
 | 0=>⟨fun _ _ _ _ _ _ _ _ r h=>by simp [spec_l4Look.f] at h,fun _ _ _ _ _ _ _ _ _ r h=>by simp [spec_l4Look.j0] at h,fun _ _ _ _ _ _ _ r h=>by simp [spec_l4Look.j2] at h,fun _ _ _ _ _ _ _ _ r h=>by simp [spec_l4Look.l1] at h,fun _ _ _ _ _ _ _ _ _ r h=>by simp [spec_l4Look.j4] at h,fun _ _ _ _ _ _ _ _ _ r h=>by simp [spec_l4Look.l0] at h⟩
 | k + 1=>by
  obtain ⟨ih0,ih1,ih2,ih3,ih4,ih5⟩:=spec_l4Look.mono_l k
  refine ⟨?_,?_,?_,?_,?_,?_⟩
  ·intro y0 y1 y2 y3 y4 y5 y6 y7
   unfold spec_l4Look.f
   with_reducible repeat' first|apply ih0|apply ih1|apply ih2|apply ih3|apply ih4|apply ih5|apply spec_VarsOf.mono|apply spec_l4Once.mono|apply spec_l4Shape.mono|apply LeO.refl|apply LeO.none|apply LeO.ite|refine LeO.bind ?_ (fun _=>?_)
  ·intro y0 y1 y2 y3 y4 y5 y6 y7 y8
   unfold spec_l4Look.j0
   with_reducible repeat' first|apply ih0|apply ih1|apply ih2|apply ih3|apply ih4|apply ih5|apply spec_VarsOf.mono|apply spec_l4Once.mono|apply spec_l4Shape.mono|apply LeO.refl|apply LeO.none|apply LeO.ite|refine LeO.bind ?_ (fun _=>?_)
  ·intro y0 y1 y2 y3 y4 y5 y6
   unfold spec_l4Look.j2
   with_reducible repeat' first|apply ih0|apply ih1|apply ih2|apply ih3|apply ih4|apply ih5|apply spec_VarsOf.mono|apply spec_l4Once.mono|apply spec_l4Shape.mono|apply LeO.refl|apply LeO.none|apply LeO.ite|refine LeO.bind ?_ (fun _=>?_)
  ·intro y0 y1 y2 y3 y4 y5 y6 y7
   unfold spec_l4Look.l1
   with_reducible repeat' first|apply ih0|apply ih1|apply ih2|apply ih3|apply ih4|apply ih5|apply spec_VarsOf.mono|apply spec_l4Once.mono|apply spec_l4Shape.mono|apply LeO.refl|apply LeO.none|apply LeO.ite|refine LeO.bind ?_ (fun _=>?_)
  ·intro y0 y1 y2 y3 y4 y5 y6 y7 y8
   unfold spec_l4Look.j4
   with_reducible repeat' first|apply ih0|apply ih1|apply ih2|apply ih3|apply ih4|apply ih5|apply spec_VarsOf.mono|apply spec_l4Once.mono|apply spec_l4Shape.mono|apply LeO.refl|apply LeO.none|apply LeO.ite|refine LeO.bind ?_ (fun _=>?_)
  ·intro y0 y1 y2 y3 y4 y5 y6 y7 y8
   unfold spec_l4Look.l0
   with_reducible repeat' first|apply ih0|apply ih1|apply ih2|apply ih3|apply ih4|apply ih5|apply spec_VarsOf.mono|apply spec_l4Once.mono|apply spec_l4Shape.mono|apply LeO.refl|apply LeO.none|apply LeO.ite|refine LeO.bind ?_ (fun _=>?_)
theorem spec_l4Look.mono:∀ a0 a1 a2 a3 a4 a5 a6 a7 k,LeO (spec_l4Look.f k a0 a1 a2 a3 a4 a5 a6 a7) (spec_l4Look.f (k + 1) a0 a1 a2 a3 a4 a5 a6 a7):=by
 intro a0 a1 a2 a3 a4 a5 a6 a7 k;obtain ⟨ih0,ih1,ih2,ih3,ih4,ih5⟩:=spec_l4Look.mono_l k
 exact ih0 a0 a1 a2 a3 a4 a5 a6 a7
theorem spec_l4Look.calls (k:Nat):∀ (a0_0:Int) (a0_1:Int) (a0_2:ByteArray) (A0_3:Option Addr) (c0_3:Nat) (l0_3:List (S27)) (A0_4:Option Addr) (c0_4:Nat) (l0_4:List (S33)) (a1:Bool) (a2:Int) (a3:Int) (r:Int) (w:World) (hr0_3:Kd.C k27 w A0_3 l0_3.length l0_3) (hc0_3:l0_3.length≤c0_3) (hr0_4:Kd.C k33 w A0_4 l0_4.length l0_4) (hc0_4:l0_4.length≤c0_4) (h:spec_l4Look.f k a0_0 a0_1 a0_2 l0_3 l0_4 a1 a2 a3=some r),
  Calls Try.prog 31 #[.agg #[.int .i64 a0_0,.int .i64 a0_1,.string a0_2,.slice A0_3 l0_3.length c0_3,.slice A0_4 l0_4.length c0_4],.bool a1,.int .i64 a2,.int .i64 a3] w fun e w'=>e=.returned (.int .i64 r)∧Below w.heap.size w w':=by
 induction k using Nat.strongRecOn with
 | _ k ih =>
 intro a0_0 a0_1 a0_2 A0_3 c0_3 l0_3 A0_4 c0_4 l0_4 a1 a2 a3 r w hr0_3 hc0_3 hr0_4 hc0_4 h
 cases k with
 | zero=>exact absurd h (by simp [spec_l4Look.f])
 | succ k =>
 simp only [spec_l4Look.f] at h;have hu27:=Try.underlying27;have HR0_3:=Aside0.mk hr0_3;have HC0_3:=Aside0.mk hc0_3;clear hr0_3 hc0_3;have HR0_4:=Aside0.mk hr0_4;have HC0_4:=Aside0.mk hc0_4;clear hr0_4 hc0_4;have HB:=Aside0.mk (Below.refl w.heap.size w);have H:(if a2 < 1 then (spec_l4Look.j0 k a1 a2 a3 true a0_0 a0_1 a0_2 l0_3 l0_4) else (if a3 < 1 then (spec_l4Look.j0 k a1 a2 a3 true a0_0 a0_1 a0_2 l0_3 l0_4) else ((spec_l4Shape.f k a0_0 a0_1 a0_2 l0_3 l0_4 a1).bind fun t477=>(spec_l4Look.j0 k a1 a2 a3 (!t477) a0_0 a0_1 a0_2 l0_3 l0_4))))=some r:=h;clear h;have HC5:=Aside0.mk H;clear H
 go_enter Try.func31,Try.ntmps31
 go_upto_region 1 with (first|((with_reducible refine gate_dst (N:=4) rfl ?_);refine box_event ?hg (N:=4) ?hd (cs:=#[.int .i64 a0_0,.int .i64 a0_1,.string a0_2,.slice A0_3 l0_3.length c0_3,.slice A0_4 l0_4.length c0_4]) (t:=27) ?hr ?_;(case hd|hg=>rfl);(case hr=>first|(go_simp;done)|(go_simp;rfl));intro gb476 hg w6 hbox hb;have n_:=ai (bq HB hb)<|aj (hbox)<|ai (bz hg HB)<|bz hg HB;clear HB;obtain ⟨HB,BK476,GW476,GE476⟩:=n_;clear hb hbox hg))
 (try simp only [Act.put,List.setIfInBounds_toArray,List.set_cons_zero,List.set_cons_succ])
 go_cut [22] (fun v22 wc=>∃ (kq:Nat) (x22_4:Bool),v22=.bool x22_4∧Aside0 (spec_l4Look.j0 kq a1 a2 a3 x22_4 a0_0 a0_1 a0_2 l0_3 l0_4=some r)∧Aside0 (kq≤k)∧Aside0 (wc.heap[gb476]?=some (.cells #[.int .i64 a0_0,.int .i64 a0_1,.string a0_2,(.slice A0_3 l0_3.length c0_3),(.slice A0_4 l0_4.length c0_4)] 27 (0,0)))∧Aside0 (Below w.heap.size w wc))
 case first =>
  have H:=HC5.out;clear HC5
  by_cases c7:a2 < 1
  ·rw [if_pos c7] at H
   have c7b0:decide (a2 < 1)=true:=decide_eq_true c7;clear c7
   (first|rw [c7b0]|(simp only [i64_w,i32_w];rw [c7b0])|(simp only [c7b2,Bool.not_true,Bool.not_false])|skip)
   have H':=Aside0.mk H;clear H
   go_wp2
   go_meet
   case rel=>exact ⟨_,(true),(cl2),H',⟨by first|omega|exact Nat.le_refl _⟩,⟨bk BK476.out⟩,⟨bl HB.out⟩⟩
  ·rw [if_neg c7] at H
   have c7b0:decide (a2 < 1)=false:=decide_eq_false c7;clear c7
   (first|rw [c7b0]|(simp only [i64_w,i32_w];rw [c7b0])|(simp only [c7b2,Bool.not_true,Bool.not_false])|skip)
   by_cases c8:a3 < 1
   ·rw [if_pos c8] at H
    have c8b0:decide (a3 < 1)=true:=decide_eq_true c8;clear c8;have H':=Aside0.mk H;clear H
    go_wp2
    go_meet
    case rel=>exact ⟨_,(true),(cl2),H',⟨by first|omega|exact Nat.le_refl _⟩,⟨bk BK476.out⟩,⟨bl HB.out⟩⟩
   ·rw [if_neg c8] at H
    have c8b0:decide (a3 < 1)=false:=decide_eq_false c8;clear c8;replace H:=bs H;obtain ⟨t477,A90,H⟩:=H;replace H:(spec_l4Look.j0 k a1 a2 a3 (!t477) a0_0 a0_1 a0_2 l0_3 l0_4)=some r:=H;have A9:=Aside0.mk A90;clear A90;have H':=Aside0.mk H;clear H;obtain ⟨h10_0,h10_1,h10_2,h10_3,h10_4⟩:=kb5 BK476.out
    go_wp2_with (first|(go_at_call 37;(with_reducible refine (spec_l4Shape.calls k a0_0 a0_1 a0_2 _ _ l0_3 _ _ l0_4 a1 t477 _ ?side1 ?side2 ?side3 ?side4 A9.out).mono ?_);(case side1=>exact ck (Kd.C_below HR0_3.out HB.out));(case side2=>exact HC0_3.out);(case side3=>exact ck (Kd.C_below HR0_4.out HB.out));(case side4=>exact HC0_4.out);rintro e w11 ⟨rfl,hb⟩;have n_:=ai (bw BK476 hb)<|bq HB hb;clear BK476 HB;obtain ⟨BK476,HB⟩:=n_;(try clear hb);(try clear hi)))
    go_meet
    case rel=>exact ⟨_,(!t477),(cl2),H',⟨by first|omega|exact Nat.le_refl _⟩,⟨bk BK476.out⟩,⟨bl HB.out⟩⟩
 case rest =>
  clear HC5;(try clear BK476);(try clear HB);obtain ⟨kq,x22_4,rfl,HA,HJ4,BK476,HB⟩:=hcut
  cases kq with
  | zero=>exact absurd HA.out (by simp [spec_l4Look.j0])
  | succ kj4 =>
   have H:=HA.out;clear HA;simp only [spec_l4Look.j0] at H
   by_cases c12:x22_4=true
   ·subst c12
    replace H:(some (-1))=some r:=pt H;obtain rfl:=Option.some.inj H
    go_wp2
    go_ret
    exact ⟨cl,bl HB.out⟩
   ·replace c12:=Bool.eq_false_iff.mpr c12
    subst c12;replace H:(spec_l4Look.l0 kj4 a1 a2 (wrap64 (a3 - 1)) 0 a0_0 a0_1 a0_2 l0_3 l0_4)=some r:=nt H;have HC13:=Aside0.mk H;clear H
    go_upto_block 0 with (fail)
    go_cut [3] (fun v3 wc=>∃ (kq:Nat) (x3_12:Int),v3=.int .i64 x3_12∧Aside0 (spec_l4Look.j2 kq a2 x3_12 a0_0 a0_1 a0_2 l0_3 l0_4=some r)∧Aside0 (kq≤kj4)∧Aside0 (wc.heap[gb476]?=some (.cells #[.int .i64 a0_0,.int .i64 a0_1,.string a0_2,(.slice A0_3 l0_3.length c0_3),(.slice A0_4 l0_4.length c0_4)] 27 (0,0)))∧Aside0 (Below w.heap.size w wc))
    case first =>
     have H:=HC13.out;clear HC13;have H':=Aside0.mk H;clear H
     go_wp2
     go_loopg [3,9] kj4 (fun kq v3 v9 w'=>∃ (x3_2:Int) (x9_2:Int),v3=.int .i64 x3_2∧v9=.int .i64 x9_2∧Aside0 (spec_l4Look.l0 kq a1 a2 x3_2 x9_2 a0_0 a0_1 a0_2 l0_3 l0_4=some r)∧Aside0 (kq≤kj4)∧Aside0 (w'.heap[gb476]?=some (.cells #[.int .i64 a0_0,.int .i64 a0_1,.string a0_2,(.slice A0_3 l0_3.length c0_3),(.slice A0_4 l0_4.length c0_4)] 27 (0,0)))∧Aside0 (Below w.heap.size w w'))
     case atStart=>exact ⟨(wrap64 (a3 - 1)),(0),(cl2),(cl2),H',⟨Nat.le_refl _⟩,⟨bk BK476.out⟩,⟨bl HB.out⟩⟩
     case round =>
      clear H';(try clear c12);(try clear p2);(try clear BK476);(try clear HB);obtain ⟨x3_2,x9_2,rfl,rfl,HA,HK2,BK476,HB⟩:=hrel
      cases gk with
      | zero=>exact absurd HA.out (by simp [spec_l4Look.l0])
      | succ k2 =>
       have H:=HA.out;clear HA;simp only [spec_l4Look.l0] at H
       by_cases c14:x9_2 < (l0_3.length:Int)
       ·rw [if_pos c14] at H
        have c14b0:decide (x9_2 < (l0_3.length:Int))=true:=decide_eq_true c14;clear c14
        (first|rw [c14b0]|(simp only [i64_w,i32_w];rw [c14b0])|(simp only [c14b2,Bool.not_true,Bool.not_false])|skip)
        by_cases c15:x3_2 ≥ 0
        ·rw [if_pos c15] at H
         have c15b0:decide (0≤x3_2)=true:=decide_eq_true c15;clear c15
         by_cases c16:0≤x9_2
         ·rw [if_pos c16] at H
          have c16b0:decide (0≤x9_2)=true:=decide_eq_true c16;clear c16;replace H:=bs H;obtain ⟨t479,A170,H⟩:=H;replace H:(spec_l4Look.l0 k2 a1 a2 t479 (wrap64 (x9_2 + 1)) a0_0 a0_1 a0_2 l0_3 l0_4)=some r:=H;have A17:=Aside0.mk A170;clear A170;have H':=Aside0.mk H;clear H;obtain ⟨h18_0,h18_1,h18_2,h18_3,h18_4⟩:=kb5 BK476.out;have p478:0≤(x9_2:Int):=od;have q478:x9_2 < (l0_3.length:Int):=od;obtain ⟨ad478,A478_3,c478_3,A478_4,c478_4,e478,hx478_0,hx478_1,hx478_2,hx478_3,hx478_4,hl478_3,hi478_3,hl478_4,hi478_4⟩:=at_T27 HR0_3.out x9_2 p478 q478;cases e478;replace hx478_0:=cb HB hx478_0;replace hx478_1:=cb HB hx478_1;replace hx478_2:=cb HB hx478_2;replace hx478_3:=cb HB hx478_3;replace hx478_4:=cb HB hx478_4;have HR478_3:=Aside0.mk hi478_3;have HC478_3:=Aside0.mk hl478_3;clear hi478_3 hl478_3;have HR478_4:=Aside0.mk hi478_4;have HC478_4:=Aside0.mk hl478_4;clear hi478_4 hl478_4;replace p478:=eq_true p478;replace q478:=eq_true q478
          go_wp2_with (first|((with_reducible refine gate_callee (f:=31) rfl ?_);refine goesL_ (some 45) rfl rfl Try.func31 (by kernel_rfl) rfl #[.agg #[.int .i64 ((rd_T27 l0_3 x9_2).f0),.int .i64 ((rd_T27 l0_3 x9_2).f1),.string ((rd_T27 l0_3 x9_2).f2),.slice A478_3 ((rd_T27 l0_3 x9_2).f3).length c478_3,.slice A478_4 ((rd_T27 l0_3 x9_2).f4).length c478_4],.bool a1,.int .i64 (wrap64 (a2 - 1)),.int .i64 x3_2] rfl gs ?_;(with_reducible refine (ih k2 (by have:=HJ4.out;have:=HK2.out;omega) ((rd_T27 l0_3 x9_2).f0) ((rd_T27 l0_3 x9_2).f1) ((rd_T27 l0_3 x9_2).f2) _ _ ((rd_T27 l0_3 x9_2).f3) _ _ ((rd_T27 l0_3 x9_2).f4) a1 (wrap64 (a2 - 1)) x3_2 t479 _ ?side1 ?side2 ?side3 ?side4 A17.out).mono ?_);(case side1=>exact ck (Kd.C_below HR478_3.out HB.out));(case side2=>exact HC478_3.out);(case side3=>exact ck (Kd.C_below HR478_4.out HB.out));(case side4=>exact HC478_4.out);rintro e w19 ⟨rfl,hb⟩;refine ⟨_,rfl,?_⟩;have n_:=ai (bw BK476 hb)<|bq HB hb;clear BK476 HB;obtain ⟨BK476,HB⟩:=n_;(try clear hb);(try clear hi)))
          go_roundg k2
          case measure=>have:=HJ4.out;have:=HK2.out;omega
          case rel=>exact ⟨(t479),(wrap64 (x9_2 + 1)),(cl2),(cl2),H',⟨by have:=HJ4.out;have:=HK2.out;omega⟩,⟨bk BK476.out⟩,⟨bl HB.out⟩⟩
         ·rw [if_neg c16] at H
          exact absurd H (by simp)
        ·rw [if_neg c15] at H
         have c15b0:decide (0≤x3_2)=false:=decide_eq_false c15;clear c15;have H':=Aside0.mk H;clear H;obtain ⟨h20_0,h20_1,h20_2,h20_3,h20_4⟩:=kb5 BK476.out
         go_wp2
         go_meet
         case rel=>exact ⟨_,(x3_2),(cl2),H',⟨by have:=HJ4.out;have:=HK2.out;first|omega|exact Nat.le_refl _⟩,⟨bk BK476.out⟩,⟨bl HB.out⟩⟩
       ·rw [if_neg c14] at H
        have c14b0:decide (x9_2 < (l0_3.length:Int))=false:=decide_eq_false c14;clear c14
        (first|rw [c14b0]|(simp only [i64_w,i32_w];rw [c14b0])|(simp only [c14b2,Bool.not_true,Bool.not_false])|skip)
        have H':=Aside0.mk H;clear H;obtain ⟨h21_0,h21_1,h21_2,h21_3,h21_4⟩:=kb5 BK476.out
        go_wp2
        go_meet
        case rel=>exact ⟨_,(x3_2),(cl2),H',⟨by have:=HJ4.out;have:=HK2.out;first|omega|exact Nat.le_refl _⟩,⟨bk BK476.out⟩,⟨bl HB.out⟩⟩
    case rest =>
     clear HC13;(try clear c12);(try clear p2);(try clear p6);(try clear BK476);(try clear HB);obtain ⟨kq,x3_12,rfl,HA,HJ12,BK476,HB⟩:=hcut
     cases kq with
     | zero=>exact absurd HA.out (by simp [spec_l4Look.j2])
     | succ kj12 =>
      have H:=HA.out;clear HA;simp only [spec_l4Look.j2] at H;have H':=Aside0.mk H;clear H
      go_wp2
      go_loopg [3,10] kj12 (fun kq v3 v10 w'=>∃ (x3_3:Int) (x10_3:Int),v3=.int .i64 x3_3∧v10=.int .i64 x10_3∧Aside0 (spec_l4Look.l1 kq a2 x3_3 x10_3 a0_0 a0_1 a0_2 l0_3 l0_4=some r)∧Aside0 (kq≤kj12)∧Aside0 (w'.heap[gb476]?=some (.cells #[.int .i64 a0_0,.int .i64 a0_1,.string a0_2,(.slice A0_3 l0_3.length c0_3),(.slice A0_4 l0_4.length c0_4)] 27 (0,0)))∧Aside0 (Below w.heap.size w w'))
      case atStart=>exact ⟨(x3_12),(0),(cl2),(cl2),H',⟨Nat.le_refl _⟩,⟨bk BK476.out⟩,⟨bl HB.out⟩⟩
      case round =>
       clear H';(try clear c12);(try clear p2);(try clear p4);(try clear p6);(try clear q4);(try clear BK476);(try clear HB);obtain ⟨x3_3,x10_3,rfl,rfl,HA,HK3,BK476,HB⟩:=hrel
       cases gk with
       | zero=>exact absurd HA.out (by simp [spec_l4Look.l1])
       | succ k3 =>
        have H:=HA.out;clear HA;simp only [spec_l4Look.l1] at H;have HC22:=Aside0.mk H;clear H
        go_upto_region 9 with (fail)
        go_cut [54] (fun v54 wc=>∃ (kq:Nat) (x54_21:Bool),v54=.bool x54_21∧Aside0 (spec_l4Look.j4 kq a2 x3_3 x10_3 x54_21 a0_0 a0_1 a0_2 l0_3 l0_4=some r)∧Aside0 (kq≤k3)∧Aside0 (wc.heap[gb476]?=some (.cells #[.int .i64 a0_0,.int .i64 a0_1,.string a0_2,(.slice A0_3 l0_3.length c0_3),(.slice A0_4 l0_4.length c0_4)] 27 (0,0)))∧Aside0 (Below w.heap.size w wc))
        case first =>
         have H:=HC22.out;clear HC22
         by_cases c23:x10_3 < (l0_4.length:Int)
         ·rw [if_pos c23] at H
          have c23b0:decide (x10_3 < (l0_4.length:Int))=true:=decide_eq_true c23;clear c23
          (first|rw [c23b0]|(simp only [i64_w,i32_w];rw [c23b0])|(simp only [c23b2,Bool.not_true,Bool.not_false])|skip)
          have H':=Aside0.mk H;clear H;obtain ⟨h24_0,h24_1,h24_2,h24_3,h24_4⟩:=kb5 BK476.out
          go_wp2
          go_meet
          case rel=>exact ⟨_,(decide (x3_3 ≥ 0)),(cl2),H',⟨by have:=HJ4.out;have:=HJ12.out;have:=HK3.out;first|omega|exact Nat.le_refl _⟩,⟨bk BK476.out⟩,⟨bl HB.out⟩⟩
         ·rw [if_neg c23] at H
          have c23b0:decide (x10_3 < (l0_4.length:Int))=false:=decide_eq_false c23;clear c23
          (first|rw [c23b0]|(simp only [i64_w,i32_w];rw [c23b0])|(simp only [c23b2,Bool.not_true,Bool.not_false])|skip)
          have H':=Aside0.mk H;clear H;obtain ⟨h25_0,h25_1,h25_2,h25_3,h25_4⟩:=kb5 BK476.out
          go_wp2
          go_meet
          case rel=>exact ⟨_,(false),(cl2),H',⟨by have:=HJ4.out;have:=HJ12.out;have:=HK3.out;first|omega|exact Nat.le_refl _⟩,⟨bk BK476.out⟩,⟨bl HB.out⟩⟩
        case rest =>
         clear HC22;(try clear c12);(try clear p2);(try clear p4);(try clear p6);(try clear q4);(try clear BK476);(try clear HB);obtain ⟨kq,x54_21,rfl,HA,HJ21,BK476,HB⟩:=hcut
         cases kq with
         | zero=>exact absurd HA.out (by simp [spec_l4Look.j4])
         | succ kj21 =>
          have H:=HA.out;clear HA;simp only [spec_l4Look.j4] at H
          by_cases c26:x54_21=true
          ·subst c26
           replace H:(if 0≤x10_3 then (if x10_3 < (l0_4.length:Int) then ((spec_VarsOf.f kj21 ((rd_T33 l0_4 x10_3).f0.f0) ((rd_T33 l0_4 x10_3).f0.f1) ((rd_T33 l0_4 x10_3).f0.f2) ((rd_T33 l0_4 x10_3).f0.f3) ((rd_T33 l0_4 x10_3).f0.f4)).bind fun t481=>((spec_l4Once.f kj21 t481).bind fun t484=>(if t484=true then ((spec_l4Look.f kj21 ((rd_T33 l0_4 x10_3).f0.f0) ((rd_T33 l0_4 x10_3).f0.f1) ((rd_T33 l0_4 x10_3).f0.f2) ((rd_T33 l0_4 x10_3).f0.f3) ((rd_T33 l0_4 x10_3).f0.f4) true (wrap64 (a2 - 1)) x3_3).bind fun t486=>(if t486 ≥ 0 then ((spec_l4Look.f kj21 ((rd_T33 l0_4 x10_3).f1.f0) ((rd_T33 l0_4 x10_3).f1.f1) ((rd_T33 l0_4 x10_3).f1.f2) ((rd_T33 l0_4 x10_3).f1.f3) ((rd_T33 l0_4 x10_3).f1.f4) false (wrap64 (a2 - 1)) t486).bind fun t488=>(spec_l4Look.l1 kj21 a2 t488 (wrap64 (x10_3 + 1)) a0_0 a0_1 a0_2 l0_3 l0_4)) else (spec_l4Look.l1 kj21 a2 t486 (wrap64 (x10_3 + 1)) a0_0 a0_1 a0_2 l0_3 l0_4))) else (some (-1))))) else (none)) else (none))=some r:=pt H
           by_cases c27:0≤x10_3
           ·rw [if_pos c27] at H
            have c27b0:decide (0≤x10_3)=true:=decide_eq_true c27;clear c27
            by_cases c28:x10_3 < (l0_4.length:Int)
            ·rw [if_pos c28] at H
             have c28b0:decide (x10_3 < (l0_4.length:Int))=true:=decide_eq_true c28;clear c28;replace H:=bs H;obtain ⟨t481,A290,H⟩:=H;replace H:((spec_l4Once.f kj21 t481).bind fun t484=>(if t484=true then ((spec_l4Look.f kj21 ((rd_T33 l0_4 x10_3).f0.f0) ((rd_T33 l0_4 x10_3).f0.f1) ((rd_T33 l0_4 x10_3).f0.f2) ((rd_T33 l0_4 x10_3).f0.f3) ((rd_T33 l0_4 x10_3).f0.f4) true (wrap64 (a2 - 1)) x3_3).bind fun t486=>(if t486 ≥ 0 then ((spec_l4Look.f kj21 ((rd_T33 l0_4 x10_3).f1.f0) ((rd_T33 l0_4 x10_3).f1.f1) ((rd_T33 l0_4 x10_3).f1.f2) ((rd_T33 l0_4 x10_3).f1.f3) ((rd_T33 l0_4 x10_3).f1.f4) false (wrap64 (a2 - 1)) t486).bind fun t488=>(spec_l4Look.l1 kj21 a2 t488 (wrap64 (x10_3 + 1)) a0_0 a0_1 a0_2 l0_3 l0_4)) else (spec_l4Look.l1 kj21 a2 t486 (wrap64 (x10_3 + 1)) a0_0 a0_1 a0_2 l0_3 l0_4))) else (some (-1))))=some r:=H;have A29:=Aside0.mk A290;clear A290;replace H:=bs H;obtain ⟨t484,A300,H⟩:=H;replace H:(if t484=true then ((spec_l4Look.f kj21 ((rd_T33 l0_4 x10_3).f0.f0) ((rd_T33 l0_4 x10_3).f0.f1) ((rd_T33 l0_4 x10_3).f0.f2) ((rd_T33 l0_4 x10_3).f0.f3) ((rd_T33 l0_4 x10_3).f0.f4) true (wrap64 (a2 - 1)) x3_3).bind fun t486=>(if t486 ≥ 0 then ((spec_l4Look.f kj21 ((rd_T33 l0_4 x10_3).f1.f0) ((rd_T33 l0_4 x10_3).f1.f1) ((rd_T33 l0_4 x10_3).f1.f2) ((rd_T33 l0_4 x10_3).f1.f3) ((rd_T33 l0_4 x10_3).f1.f4) false (wrap64 (a2 - 1)) t486).bind fun t488=>(spec_l4Look.l1 kj21 a2 t488 (wrap64 (x10_3 + 1)) a0_0 a0_1 a0_2 l0_3 l0_4)) else (spec_l4Look.l1 kj21 a2 t486 (wrap64 (x10_3 + 1)) a0_0 a0_1 a0_2 l0_3 l0_4))) else (some (-1)))=some r:=H;have A30:=Aside0.mk A300;clear A300
             by_cases c31:t484=true
             ·subst c31
              replace H:((spec_l4Look.f kj21 ((rd_T33 l0_4 x10_3).f0.f0) ((rd_T33 l0_4 x10_3).f0.f1) ((rd_T33 l0_4 x10_3).f0.f2) ((rd_T33 l0_4 x10_3).f0.f3) ((rd_T33 l0_4 x10_3).f0.f4) true (wrap64 (a2 - 1)) x3_3).bind fun t486=>(if t486 ≥ 0 then ((spec_l4Look.f kj21 ((rd_T33 l0_4 x10_3).f1.f0) ((rd_T33 l0_4 x10_3).f1.f1) ((rd_T33 l0_4 x10_3).f1.f2) ((rd_T33 l0_4 x10_3).f1.f3) ((rd_T33 l0_4 x10_3).f1.f4) false (wrap64 (a2 - 1)) t486).bind fun t488=>(spec_l4Look.l1 kj21 a2 t488 (wrap64 (x10_3 + 1)) a0_0 a0_1 a0_2 l0_3 l0_4)) else (spec_l4Look.l1 kj21 a2 t486 (wrap64 (x10_3 + 1)) a0_0 a0_1 a0_2 l0_3 l0_4)))=some r:=pt H;replace H:=bs H;obtain ⟨t486,A320,H⟩:=H;replace H:(if t486 ≥ 0 then ((spec_l4Look.f kj21 ((rd_T33 l0_4 x10_3).f1.f0) ((rd_T33 l0_4 x10_3).f1.f1) ((rd_T33 l0_4 x10_3).f1.f2) ((rd_T33 l0_4 x10_3).f1.f3) ((rd_T33 l0_4 x10_3).f1.f4) false (wrap64 (a2 - 1)) t486).bind fun t488=>(spec_l4Look.l1 kj21 a2 t488 (wrap64 (x10_3 + 1)) a0_0 a0_1 a0_2 l0_3 l0_4)) else (spec_l4Look.l1 kj21 a2 t486 (wrap64 (x10_3 + 1)) a0_0 a0_1 a0_2 l0_3 l0_4))=some r:=H;have A32:=Aside0.mk A320;clear A320
              by_cases c33:t486 ≥ 0
              ·rw [if_pos c33] at H
               have c33b0:decide (0≤t486)=true:=decide_eq_true c33;clear c33;replace H:=bs H;obtain ⟨t488,A340,H⟩:=H;replace H:(spec_l4Look.l1 kj21 a2 t488 (wrap64 (x10_3 + 1)) a0_0 a0_1 a0_2 l0_3 l0_4)=some r:=H;have A34:=Aside0.mk A340;clear A340;have H':=Aside0.mk H;clear H;obtain ⟨h35_0,h35_1,h35_2,h35_3,h35_4⟩:=kb5 BK476.out;have p480:0≤(x10_3:Int):=od;have q480:x10_3 < (l0_4.length:Int):=od;obtain ⟨ad480,A480_3,c480_3,A480_4,c480_4,A480_8,c480_8,A480_9,c480_9,e480,hx480_0,hx480_1,hx480_2,hx480_3,hx480_4,hx480_5,hx480_6,hx480_7,hx480_8,hx480_9,hl480_3,hi480_3,hl480_4,hi480_4,hl480_8,hi480_8,hl480_9,hi480_9⟩:=at_T33 HR0_4.out x10_3 p480 q480;cases e480;replace hx480_0:=cb HB hx480_0;replace hx480_1:=cb HB hx480_1;replace hx480_2:=cb HB hx480_2;replace hx480_3:=cb HB hx480_3;replace hx480_4:=cb HB hx480_4;replace hx480_5:=cb HB hx480_5;replace hx480_6:=cb HB hx480_6;replace hx480_7:=cb HB hx480_7;replace hx480_8:=cb HB hx480_8;replace hx480_9:=cb HB hx480_9;have HR480_3:=Aside0.mk hi480_3;have HC480_3:=Aside0.mk hl480_3;clear hi480_3 hl480_3;have HR480_4:=Aside0.mk hi480_4;have HC480_4:=Aside0.mk hl480_4;clear hi480_4 hl480_4;have HR480_8:=Aside0.mk hi480_8;have HC480_8:=Aside0.mk hl480_8;clear hi480_8 hl480_8;have HR480_9:=Aside0.mk hi480_9;have HC480_9:=Aside0.mk hl480_9;clear hi480_9 hl480_9;replace p480:=eq_true p480;replace q480:=eq_true q480
               go_wp2_with (first|((with_reducible refine gate_callee (f:=22) rfl ?_);refine goesL_ (some 63) rfl rfl Try.func22 (by kernel_rfl) rfl #[.agg #[.int .i64 ((rd_T33 l0_4 x10_3).f0.f0),.int .i64 ((rd_T33 l0_4 x10_3).f0.f1),.string ((rd_T33 l0_4 x10_3).f0.f2),.slice A480_3 ((rd_T33 l0_4 x10_3).f0.f3).length c480_3,.slice A480_4 ((rd_T33 l0_4 x10_3).f0.f4).length c480_4]] rfl gs ?_;(with_reducible refine (spec_VarsOf.calls kj21 ((rd_T33 l0_4 x10_3).f0.f0) ((rd_T33 l0_4 x10_3).f0.f1) ((rd_T33 l0_4 x10_3).f0.f2) _ _ ((rd_T33 l0_4 x10_3).f0.f3) _ _ ((rd_T33 l0_4 x10_3).f0.f4) t481 _ ?side1 ?side2 ?side3 ?side4 A29.out).mono ?_);(case side1=>exact ck (Kd.C_below HR480_3.out HB.out));(case side2=>exact HC480_3.out);(case side3=>exact ck (Kd.C_below HR480_4.out HB.out));(case side4=>exact HC480_4.out);rintro e w36 ⟨v482,rfl,ho0,hb⟩;refine ⟨_,rfl,?_⟩;have n_:=aj (Kd.R_lower ho0 (below_size (bl HB.out)))<|ai (bw BK476 hb)<|bq HB hb;clear BK476 HB;obtain ⟨HO483,BK476,HB⟩:=n_;(try clear hb);(try clear ho0);obtain ⟨Ao37,co37,eo37⟩:=Kd.R_slice HO483.out;subst eo37)|((with_reducible refine gate_callee (f:=38) rfl ?_);refine goesL_ (some 64) rfl rfl Try.func38 (by kernel_rfl) rfl #[.slice Ao37 t481.length co37] rfl gs ?_;(with_reducible refine (spec_l4Once.calls kj21 _ _ t481 true _ ?side1 ?side2 A30.out).mono ?_);(case side1=>exact ck (Kd.R_reads' HO483.out).2.2);(case side2=>exact (Kd.R_reads' HO483.out).2.1);rintro e w' ⟨rfl,⟨nd,rfl⟩⟩;refine ⟨_,rfl,?_⟩;obtain ⟨h38_0,h38_1,h38_2,h38_3,h38_4⟩:=kb5 BK476.out;obtain ⟨z38_0,z38_1,z38_2,z38_3,z38_4⟩:=kz5 BK476.out;have p485:0≤(x10_3:Int):=od;have q485:x10_3 < (l0_4.length:Int):=od;obtain ⟨ad485,A485_3,c485_3,A485_4,c485_4,A485_8,c485_8,A485_9,c485_9,e485,hx485_0,hx485_1,hx485_2,hx485_3,hx485_4,hx485_5,hx485_6,hx485_7,hx485_8,hx485_9,hl485_3,hi485_3,hl485_4,hi485_4,hl485_8,hi485_8,hl485_9,hi485_9⟩:=at_T33 HR0_4.out x10_3 p485 q485;obtain rfl:ad480=ad485:=(by injection e485);replace hx485_0:=cb HB hx485_0;replace hx485_1:=cb HB hx485_1;replace hx485_2:=cb HB hx485_2;replace hx485_3:=cb HB hx485_3;replace hx485_4:=cb HB hx485_4;replace hx485_5:=cb HB hx485_5;replace hx485_6:=cb HB hx485_6;replace hx485_7:=cb HB hx485_7;replace hx485_8:=cb HB hx485_8;replace hx485_9:=cb HB hx485_9;have HR485_3:=Aside0.mk hi485_3;have HC485_3:=Aside0.mk hl485_3;clear hi485_3 hl485_3;have HR485_4:=Aside0.mk hi485_4;have HC485_4:=Aside0.mk hl485_4;clear hi485_4 hl485_4;have HR485_8:=Aside0.mk hi485_8;have HC485_8:=Aside0.mk hl485_8;clear hi485_8 hl485_8;have HR485_9:=Aside0.mk hi485_9;have HC485_9:=Aside0.mk hl485_9;clear hi485_9 hl485_9;replace p485:=eq_true p485;replace q485:=eq_true q485)|((with_reducible refine gate_callee (f:=31) rfl ?_);refine goesL_ (some 75) rfl rfl Try.func31 (by kernel_rfl) rfl #[.agg #[.int .i64 ((rd_T33 l0_4 x10_3).f0.f0),.int .i64 ((rd_T33 l0_4 x10_3).f0.f1),.string ((rd_T33 l0_4 x10_3).f0.f2),.slice A485_3 ((rd_T33 l0_4 x10_3).f0.f3).length c485_3,.slice A485_4 ((rd_T33 l0_4 x10_3).f0.f4).length c485_4],.bool true,.int .i64 (wrap64 (a2 - 1)),.int .i64 x3_3] rfl gs ?_;(with_reducible refine (ih kj21 (by have:=HJ4.out;have:=HJ12.out;have:=HK3.out;have:=HJ21.out;omega) ((rd_T33 l0_4 x10_3).f0.f0) ((rd_T33 l0_4 x10_3).f0.f1) ((rd_T33 l0_4 x10_3).f0.f2) _ _ ((rd_T33 l0_4 x10_3).f0.f3) _ _ ((rd_T33 l0_4 x10_3).f0.f4) true (wrap64 (a2 - 1)) x3_3 t486 _ ?side1 ?side2 ?side3 ?side4 A32.out).mono ?_);(case side1=>exact ck (Kd.C_below HR485_3.out (bl HB.out)));(case side2=>exact HC485_3.out);(case side3=>exact ck (Kd.C_below HR485_4.out (bl HB.out)));(case side4=>exact HC485_4.out);rintro e w39 ⟨rfl,hb⟩;refine ⟨_,rfl,?_⟩;have n_:=ai (rwm HO483 hb)<|ai (bw BK476 hb)<|bq HB hb;clear HO483 BK476 HB;obtain ⟨HO483,BK476,HB⟩:=n_;(try clear hb);(try clear hb2);(try clear hk);(try clear hi);obtain ⟨h40_0,h40_1,h40_2,h40_3,h40_4⟩:=kb5 BK476.out;obtain ⟨z40_0,z40_1,z40_2,z40_3,z40_4⟩:=kz5 BK476.out;have p487:0≤(x10_3:Int):=od;have q487:x10_3 < (l0_4.length:Int):=od;obtain ⟨ad487,A487_3,c487_3,A487_4,c487_4,A487_8,c487_8,A487_9,c487_9,e487,hx487_0,hx487_1,hx487_2,hx487_3,hx487_4,hx487_5,hx487_6,hx487_7,hx487_8,hx487_9,hl487_3,hi487_3,hl487_4,hi487_4,hl487_8,hi487_8,hl487_9,hi487_9⟩:=at_T33 HR0_4.out x10_3 p487 q487;obtain rfl:ad480=ad487:=(by injection e487);replace hx487_0:=cb HB hx487_0;replace hx487_1:=cb HB hx487_1;replace hx487_2:=cb HB hx487_2;replace hx487_3:=cb HB hx487_3;replace hx487_4:=cb HB hx487_4;replace hx487_5:=cb HB hx487_5;replace hx487_6:=cb HB hx487_6;replace hx487_7:=cb HB hx487_7;replace hx487_8:=cb HB hx487_8;replace hx487_9:=cb HB hx487_9;have HR487_3:=Aside0.mk hi487_3;have HC487_3:=Aside0.mk hl487_3;clear hi487_3 hl487_3;have HR487_4:=Aside0.mk hi487_4;have HC487_4:=Aside0.mk hl487_4;clear hi487_4 hl487_4;have HR487_8:=Aside0.mk hi487_8;have HC487_8:=Aside0.mk hl487_8;clear hi487_8 hl487_8;have HR487_9:=Aside0.mk hi487_9;have HC487_9:=Aside0.mk hl487_9;clear hi487_9 hl487_9;replace p487:=eq_true p487;replace q487:=eq_true q487)|((with_reducible refine gate_callee (f:=31) rfl ?_);refine goesL_ (some 87) rfl rfl Try.func31 (by kernel_rfl) rfl #[.agg #[.int .i64 ((rd_T33 l0_4 x10_3).f1.f0),.int .i64 ((rd_T33 l0_4 x10_3).f1.f1),.string ((rd_T33 l0_4 x10_3).f1.f2),.slice A487_8 ((rd_T33 l0_4 x10_3).f1.f3).length c487_8,.slice A487_9 ((rd_T33 l0_4 x10_3).f1.f4).length c487_9],.bool false,.int .i64 (wrap64 (a2 - 1)),.int .i64 t486] rfl gs ?_;(with_reducible refine (ih kj21 (by have:=HJ4.out;have:=HJ12.out;have:=HK3.out;have:=HJ21.out;omega) ((rd_T33 l0_4 x10_3).f1.f0) ((rd_T33 l0_4 x10_3).f1.f1) ((rd_T33 l0_4 x10_3).f1.f2) _ _ ((rd_T33 l0_4 x10_3).f1.f3) _ _ ((rd_T33 l0_4 x10_3).f1.f4) false (wrap64 (a2 - 1)) t486 t488 _ ?side1 ?side2 ?side3 ?side4 A34.out).mono ?_);(case side1=>exact ck (Kd.C_below HR487_8.out HB.out));(case side2=>exact HC487_8.out);(case side3=>exact ck (Kd.C_below HR487_9.out HB.out));(case side4=>exact HC487_9.out);rintro e w41 ⟨rfl,hb⟩;refine ⟨_,rfl,?_⟩;have n_:=ai (rwm HO483 hb)<|ai (bw BK476 hb)<|bq HB hb;clear HO483 BK476 HB;obtain ⟨HO483,BK476,HB⟩:=n_;(try clear hb);(try clear hb2);(try clear hk);(try clear hi)))
               go_roundg kj21
               case measure=>have:=HJ4.out;have:=HJ12.out;have:=HK3.out;have:=HJ21.out;omega
               case rel=>exact ⟨(t488),(wrap64 (x10_3 + 1)),(cl2),(cl2),H',⟨by have:=HJ4.out;have:=HJ12.out;have:=HK3.out;have:=HJ21.out;omega⟩,⟨bk BK476.out⟩,⟨bl HB.out⟩⟩
              ·rw [if_neg c33] at H
               have c33b0:decide (0≤t486)=false:=decide_eq_false c33;clear c33;have H':=Aside0.mk H;clear H;obtain ⟨h42_0,h42_1,h42_2,h42_3,h42_4⟩:=kb5 BK476.out;have p480:0≤(x10_3:Int):=od;have q480:x10_3 < (l0_4.length:Int):=od;obtain ⟨ad480,A480_3,c480_3,A480_4,c480_4,A480_8,c480_8,A480_9,c480_9,e480,hx480_0,hx480_1,hx480_2,hx480_3,hx480_4,hx480_5,hx480_6,hx480_7,hx480_8,hx480_9,hl480_3,hi480_3,hl480_4,hi480_4,hl480_8,hi480_8,hl480_9,hi480_9⟩:=at_T33 HR0_4.out x10_3 p480 q480;cases e480;replace hx480_0:=cb HB hx480_0;replace hx480_1:=cb HB hx480_1;replace hx480_2:=cb HB hx480_2;replace hx480_3:=cb HB hx480_3;replace hx480_4:=cb HB hx480_4;replace hx480_5:=cb HB hx480_5;replace hx480_6:=cb HB hx480_6;replace hx480_7:=cb HB hx480_7;replace hx480_8:=cb HB hx480_8;replace hx480_9:=cb HB hx480_9;have HR480_3:=Aside0.mk hi480_3;have HC480_3:=Aside0.mk hl480_3;clear hi480_3 hl480_3;have HR480_4:=Aside0.mk hi480_4;have HC480_4:=Aside0.mk hl480_4;clear hi480_4 hl480_4;have HR480_8:=Aside0.mk hi480_8;have HC480_8:=Aside0.mk hl480_8;clear hi480_8 hl480_8;have HR480_9:=Aside0.mk hi480_9;have HC480_9:=Aside0.mk hl480_9;clear hi480_9 hl480_9;replace p480:=eq_true p480;replace q480:=eq_true q480
               go_wp2_with (first|((with_reducible refine gate_callee (f:=22) rfl ?_);refine goesL_ (some 63) rfl rfl Try.func22 (by kernel_rfl) rfl #[.agg #[.int .i64 ((rd_T33 l0_4 x10_3).f0.f0),.int .i64 ((rd_T33 l0_4 x10_3).f0.f1),.string ((rd_T33 l0_4 x10_3).f0.f2),.slice A480_3 ((rd_T33 l0_4 x10_3).f0.f3).length c480_3,.slice A480_4 ((rd_T33 l0_4 x10_3).f0.f4).length c480_4]] rfl gs ?_;(with_reducible refine (spec_VarsOf.calls kj21 ((rd_T33 l0_4 x10_3).f0.f0) ((rd_T33 l0_4 x10_3).f0.f1) ((rd_T33 l0_4 x10_3).f0.f2) _ _ ((rd_T33 l0_4 x10_3).f0.f3) _ _ ((rd_T33 l0_4 x10_3).f0.f4) t481 _ ?side1 ?side2 ?side3 ?side4 A29.out).mono ?_);(case side1=>exact ck (Kd.C_below HR480_3.out HB.out));(case side2=>exact HC480_3.out);(case side3=>exact ck (Kd.C_below HR480_4.out HB.out));(case side4=>exact HC480_4.out);rintro e w43 ⟨v482,rfl,ho0,hb⟩;refine ⟨_,rfl,?_⟩;have n_:=aj (Kd.R_lower ho0 (below_size (bl HB.out)))<|ai (bw BK476 hb)<|bq HB hb;clear BK476 HB;obtain ⟨HO483,BK476,HB⟩:=n_;(try clear hb);(try clear ho0);obtain ⟨Ao44,co44,eo44⟩:=Kd.R_slice HO483.out;subst eo44)|((with_reducible refine gate_callee (f:=38) rfl ?_);refine goesL_ (some 64) rfl rfl Try.func38 (by kernel_rfl) rfl #[.slice Ao44 t481.length co44] rfl gs ?_;(with_reducible refine (spec_l4Once.calls kj21 _ _ t481 true _ ?side1 ?side2 A30.out).mono ?_);(case side1=>exact ck (Kd.R_reads' HO483.out).2.2);(case side2=>exact (Kd.R_reads' HO483.out).2.1);rintro e w' ⟨rfl,⟨nd,rfl⟩⟩;refine ⟨_,rfl,?_⟩;obtain ⟨h45_0,h45_1,h45_2,h45_3,h45_4⟩:=kb5 BK476.out;obtain ⟨z45_0,z45_1,z45_2,z45_3,z45_4⟩:=kz5 BK476.out;have p485:0≤(x10_3:Int):=od;have q485:x10_3 < (l0_4.length:Int):=od;obtain ⟨ad485,A485_3,c485_3,A485_4,c485_4,A485_8,c485_8,A485_9,c485_9,e485,hx485_0,hx485_1,hx485_2,hx485_3,hx485_4,hx485_5,hx485_6,hx485_7,hx485_8,hx485_9,hl485_3,hi485_3,hl485_4,hi485_4,hl485_8,hi485_8,hl485_9,hi485_9⟩:=at_T33 HR0_4.out x10_3 p485 q485;obtain rfl:ad480=ad485:=(by injection e485);replace hx485_0:=cb HB hx485_0;replace hx485_1:=cb HB hx485_1;replace hx485_2:=cb HB hx485_2;replace hx485_3:=cb HB hx485_3;replace hx485_4:=cb HB hx485_4;replace hx485_5:=cb HB hx485_5;replace hx485_6:=cb HB hx485_6;replace hx485_7:=cb HB hx485_7;replace hx485_8:=cb HB hx485_8;replace hx485_9:=cb HB hx485_9;have HR485_3:=Aside0.mk hi485_3;have HC485_3:=Aside0.mk hl485_3;clear hi485_3 hl485_3;have HR485_4:=Aside0.mk hi485_4;have HC485_4:=Aside0.mk hl485_4;clear hi485_4 hl485_4;have HR485_8:=Aside0.mk hi485_8;have HC485_8:=Aside0.mk hl485_8;clear hi485_8 hl485_8;have HR485_9:=Aside0.mk hi485_9;have HC485_9:=Aside0.mk hl485_9;clear hi485_9 hl485_9;replace p485:=eq_true p485;replace q485:=eq_true q485)|((with_reducible refine gate_callee (f:=31) rfl ?_);refine goesL_ (some 75) rfl rfl Try.func31 (by kernel_rfl) rfl #[.agg #[.int .i64 ((rd_T33 l0_4 x10_3).f0.f0),.int .i64 ((rd_T33 l0_4 x10_3).f0.f1),.string ((rd_T33 l0_4 x10_3).f0.f2),.slice A485_3 ((rd_T33 l0_4 x10_3).f0.f3).length c485_3,.slice A485_4 ((rd_T33 l0_4 x10_3).f0.f4).length c485_4],.bool true,.int .i64 (wrap64 (a2 - 1)),.int .i64 x3_3] rfl gs ?_;(with_reducible refine (ih kj21 (by have:=HJ4.out;have:=HJ12.out;have:=HK3.out;have:=HJ21.out;omega) ((rd_T33 l0_4 x10_3).f0.f0) ((rd_T33 l0_4 x10_3).f0.f1) ((rd_T33 l0_4 x10_3).f0.f2) _ _ ((rd_T33 l0_4 x10_3).f0.f3) _ _ ((rd_T33 l0_4 x10_3).f0.f4) true (wrap64 (a2 - 1)) x3_3 t486 _ ?side1 ?side2 ?side3 ?side4 A32.out).mono ?_);(case side1=>exact ck (Kd.C_below HR485_3.out (bl HB.out)));(case side2=>exact HC485_3.out);(case side3=>exact ck (Kd.C_below HR485_4.out (bl HB.out)));(case side4=>exact HC485_4.out);rintro e w46 ⟨rfl,hb⟩;refine ⟨_,rfl,?_⟩;have n_:=ai (rwm HO483 hb)<|ai (bw BK476 hb)<|bq HB hb;clear HO483 BK476 HB;obtain ⟨HO483,BK476,HB⟩:=n_;(try clear hb);(try clear hb2);(try clear hk);(try clear hi)))
               go_roundg kj21
               case measure=>have:=HJ4.out;have:=HJ12.out;have:=HK3.out;have:=HJ21.out;omega
               case rel=>exact ⟨(t486),(wrap64 (x10_3 + 1)),(cl2),(cl2),H',⟨by have:=HJ4.out;have:=HJ12.out;have:=HK3.out;have:=HJ21.out;omega⟩,⟨bk BK476.out⟩,⟨bl HB.out⟩⟩
             ·replace c31:=Bool.eq_false_iff.mpr c31
              subst c31;replace H:(some (-1))=some r:=nt H;obtain rfl:=Option.some.inj H;obtain ⟨h47_0,h47_1,h47_2,h47_3,h47_4⟩:=kb5 BK476.out;have p480:0≤(x10_3:Int):=od;have q480:x10_3 < (l0_4.length:Int):=od;obtain ⟨ad480,A480_3,c480_3,A480_4,c480_4,A480_8,c480_8,A480_9,c480_9,e480,hx480_0,hx480_1,hx480_2,hx480_3,hx480_4,hx480_5,hx480_6,hx480_7,hx480_8,hx480_9,hl480_3,hi480_3,hl480_4,hi480_4,hl480_8,hi480_8,hl480_9,hi480_9⟩:=at_T33 HR0_4.out x10_3 p480 q480;cases e480;replace hx480_0:=cb HB hx480_0;replace hx480_1:=cb HB hx480_1;replace hx480_2:=cb HB hx480_2;replace hx480_3:=cb HB hx480_3;replace hx480_4:=cb HB hx480_4;replace hx480_5:=cb HB hx480_5;replace hx480_6:=cb HB hx480_6;replace hx480_7:=cb HB hx480_7;replace hx480_8:=cb HB hx480_8;replace hx480_9:=cb HB hx480_9;have HR480_3:=Aside0.mk hi480_3;have HC480_3:=Aside0.mk hl480_3;clear hi480_3 hl480_3;have HR480_4:=Aside0.mk hi480_4;have HC480_4:=Aside0.mk hl480_4;clear hi480_4 hl480_4;have HR480_8:=Aside0.mk hi480_8;have HC480_8:=Aside0.mk hl480_8;clear hi480_8 hl480_8;have HR480_9:=Aside0.mk hi480_9;have HC480_9:=Aside0.mk hl480_9;clear hi480_9 hl480_9;replace p480:=eq_true p480;replace q480:=eq_true q480
              go_wp2_with (first|((with_reducible refine gate_callee (f:=22) rfl ?_);refine goesL_ (some 63) rfl rfl Try.func22 (by kernel_rfl) rfl #[.agg #[.int .i64 ((rd_T33 l0_4 x10_3).f0.f0),.int .i64 ((rd_T33 l0_4 x10_3).f0.f1),.string ((rd_T33 l0_4 x10_3).f0.f2),.slice A480_3 ((rd_T33 l0_4 x10_3).f0.f3).length c480_3,.slice A480_4 ((rd_T33 l0_4 x10_3).f0.f4).length c480_4]] rfl gs ?_;(with_reducible refine (spec_VarsOf.calls kj21 ((rd_T33 l0_4 x10_3).f0.f0) ((rd_T33 l0_4 x10_3).f0.f1) ((rd_T33 l0_4 x10_3).f0.f2) _ _ ((rd_T33 l0_4 x10_3).f0.f3) _ _ ((rd_T33 l0_4 x10_3).f0.f4) t481 _ ?side1 ?side2 ?side3 ?side4 A29.out).mono ?_);(case side1=>exact ck (Kd.C_below HR480_3.out HB.out));(case side2=>exact HC480_3.out);(case side3=>exact ck (Kd.C_below HR480_4.out HB.out));(case side4=>exact HC480_4.out);rintro e w48 ⟨v482,rfl,ho0,hb⟩;refine ⟨_,rfl,?_⟩;have n_:=aj (Kd.R_lower ho0 (below_size (bl HB.out)))<|ai (bw BK476 hb)<|bq HB hb;clear BK476 HB;obtain ⟨HO483,BK476,HB⟩:=n_;(try clear hb);(try clear ho0);obtain ⟨Ao49,co49,eo49⟩:=Kd.R_slice HO483.out;subst eo49)|((with_reducible refine gate_callee (f:=38) rfl ?_);refine goesL_ (some 64) rfl rfl Try.func38 (by kernel_rfl) rfl #[.slice Ao49 t481.length co49] rfl gs ?_;(with_reducible refine (spec_l4Once.calls kj21 _ _ t481 false _ ?side1 ?side2 A30.out).mono ?_);(case side1=>exact ck (Kd.R_reads' HO483.out).2.2);(case side2=>exact (Kd.R_reads' HO483.out).2.1);rintro e w' ⟨rfl,⟨nd,rfl⟩⟩;refine ⟨_,rfl,?_⟩))
              go_ret
              exact ⟨cl,bl HB.out⟩
            ·rw [if_neg c28] at H
             exact absurd H (by simp)
           ·rw [if_neg c27] at H
            exact absurd H (by simp)
          ·replace c26:=Bool.eq_false_iff.mpr c26
           subst c26;replace H:(some x3_3)=some r:=nt H;obtain rfl:=Option.some.inj H
           go_wp2
           go_ret
           exact ⟨cl,bl HB.out⟩
def spec_ExprOk.f (k:Nat) (a0_0:Int) (a0_1:Int) (a0_2:ByteArray) (l0_3:List (S27)) (l0_4:List (S33)):Option (Bool):=(spec_l4Look.f k a0_0 a0_1 a0_2 l0_3 l0_4 false 10 300).bind fun t490=>(some (decide (t490 ≥ 0)))
theorem spec_ExprOk.mono:∀ a0 a1 a2 a3 a4 k,LeO (spec_ExprOk.f k a0 a1 a2 a3 a4) (spec_ExprOk.f (k + 1) a0 a1 a2 a3 a4):=by
 intro a0 a1 a2 a3 a4 k
 unfold spec_ExprOk.f
 with_reducible repeat' first|apply spec_l4Look.mono|apply LeO.refl|apply LeO.none|apply LeO.ite|refine LeO.bind ?_ (fun _=>?_)
theorem spec_ExprOk.calls (k:Nat) (a0_0:Int) (a0_1:Int) (a0_2:ByteArray) (A0_3:Option Addr) (c0_3:Nat) (l0_3:List (S27)) (A0_4:Option Addr) (c0_4:Nat) (l0_4:List (S33)) (r:Bool) (w:World) (hr0_3:Kd.C k27 w A0_3 l0_3.length l0_3) (hc0_3:l0_3.length≤c0_3) (hr0_4:Kd.C k33 w A0_4 l0_4.length l0_4) (hc0_4:l0_4.length≤c0_4) (h:spec_ExprOk.f k a0_0 a0_1 a0_2 l0_3 l0_4=some r) :
  Calls Try.prog 18 #[.agg #[.int .i64 a0_0,.int .i64 a0_1,.string a0_2,.slice A0_3 l0_3.length c0_3,.slice A0_4 l0_4.length c0_4]] w fun e w'=>e=.returned (.bool r)∧Below w.heap.size w w':=by
 have hu27:=Try.underlying27;have HR0_3:=Aside0.mk hr0_3;have HC0_3:=Aside0.mk hc0_3;clear hr0_3 hc0_3;have HR0_4:=Aside0.mk hr0_4;have HC0_4:=Aside0.mk hc0_4;clear hr0_4 hc0_4;have HB:=Aside0.mk (Below.refl w.heap.size w);have H:((spec_l4Look.f k a0_0 a0_1 a0_2 l0_3 l0_4 false 10 300).bind fun t490=>(some (decide (t490 ≥ 0))))=some r:=h;clear h;replace H:=bs H;obtain ⟨t490,A20,H⟩:=H;replace H:(some (decide (t490 ≥ 0)))=some r:=H;have A2:=Aside0.mk A20;clear A20;obtain rfl:=Option.some.inj H
 go_enter Try.func18,Try.ntmps18
 go_wp2_with (first|((with_reducible refine gate_dst (N:=1) rfl ?_);refine box_event ?hg (N:=1) ?hd (cs:=#[.int .i64 a0_0,.int .i64 a0_1,.string a0_2,.slice A0_3 l0_3.length c0_3,.slice A0_4 l0_4.length c0_4]) (t:=27) ?hr ?_;(case hd|hg=>rfl);(case hr=>first|(go_simp;done)|(go_simp;rfl));intro gb489 hg w3 hbox hb;have n_:=ai (bq HB hb)<|aj (hbox)<|ai (bz hg HB)<|bz hg HB;clear HB;obtain ⟨HB,BK489,GW489,GE489⟩:=n_;clear hb hbox hg;obtain ⟨h4_0,h4_1,h4_2,h4_3,h4_4⟩:=kb5 BK489.out;obtain ⟨z4_0,z4_1,z4_2,z4_3,z4_4⟩:=kz5 BK489.out)|((with_reducible refine gate_callee (f:=31) rfl ?_);refine goesL_ (some 4) rfl rfl Try.func31 (by kernel_rfl) rfl #[.agg #[.int .i64 a0_0,.int .i64 a0_1,.string a0_2,.slice A0_3 l0_3.length c0_3,.slice A0_4 l0_4.length c0_4],.bool false,.int .i64 10,.int .i64 300] rfl gs ?_;(with_reducible refine (spec_l4Look.calls k a0_0 a0_1 a0_2 _ _ l0_3 _ _ l0_4 false 10 300 t490 _ ?side1 ?side2 ?side3 ?side4 A2.out).mono ?_);(case side1=>exact ck (Kd.C_below HR0_3.out HB.out));(case side2=>exact HC0_3.out);(case side3=>exact ck (Kd.C_below HR0_4.out HB.out));(case side4=>exact HC0_4.out);rintro e w5 ⟨rfl,hb⟩;refine ⟨_,rfl,?_⟩;have n_:=ai (bw BK489 hb)<|bq HB hb;clear BK489 HB;obtain ⟨BK489,HB⟩:=n_;(try clear hb);(try clear hi)))
 go_ret
 exact ⟨cl,bl HB.out⟩
def spec_l4Right.f (k:Nat) (s0_0:List Int) (s0_1:Int) (s0_2:Int) (l1:List ByteArray):Option (Int×Int×ByteArray×(List (S27))×(List (S33))×Int×Int):=(spec_l4Draw.f k s0_0 s0_1 s0_2 3 l1).bind fun bt492=>((spec_ExprOk.f k bt492.1 bt492.2.1 bt492.2.2.1 bt492.2.2.2.1 bt492.2.2.2.2.1).bind fun t504=>(if t504=true then (some (bt492.1,bt492.2.1,bt492.2.2.1,bt492.2.2.2.1,bt492.2.2.2.2.1,bt492.2.2.2.2.2.1,bt492.2.2.2.2.2.2)) else ((spec_l4Int.f 1).bind fun bt505=>(some (bt505.1,bt505.2.1,bt505.2.2.1,bt505.2.2.2.1,bt505.2.2.2.2,bt492.2.2.2.2.2.1,bt492.2.2.2.2.2.2)))))
theorem spec_l4Right.mono:∀ a0 a1 a2 a3 k,LeO (spec_l4Right.f k a0 a1 a2 a3) (spec_l4Right.f (k + 1) a0 a1 a2 a3):=by
 intro a0 a1 a2 a3 k
 unfold spec_l4Right.f
 with_reducible repeat' first|apply spec_ExprOk.mono|apply spec_l4Draw.mono|apply LeO.refl|apply LeO.none|apply LeO.ite|refine LeO.bind ?_ (fun _=>?_)
theorem spec_l4Right.calls (k:Nat) (g:Nat) (s0_0:List Int) (s0_1:Int) (s0_2:Int) (A1:Option Addr) (c1:Nat) (l1:List ByteArray) (r1:Int) (r2:Int) (r3:ByteArray) (r4:List (S27)) (r5:List (S33)) (r6:Int) (r7:Int) (w0 w:World) (hI:IsS44 w0 w g s0_0 s0_1 s0_2) (hB:Below w0.heap.size w0 w) (hr1:Kd.C Kd.string w A1 l1.length l1) (hc1:l1.length≤c1) (hf1:∀ ad,A1=some ad→0 < l1.length→ad.block≠g) (h:spec_l4Right.f k s0_0 s0_1 s0_2 l1=some (r1,r2,r3,r4,r5,r6,r7)) :
  Calls Try.prog 11 #[.pointer (some ⟨g,0,none⟩),.slice A1 l1.length c1] w fun e w'=>∃ v3_ v4_:Value,e=.returned (.agg #[.int .i64 r1,.int .i64 r2,.string r3,v3_,v4_])∧Kd.N k27 27 w' w.heap.size (fun k_=>(w.heap.size≤k_)∧some k_≠(v4_:Value).ownBlock) v3_ r4∧Kd.N k33 33 w' w.heap.size (fun k_=>(w.heap.size≤k_)∧some k_≠(v3_:Value).ownBlock) v4_ r5∧IsS44 w0 w' g s0_0 r6 r7∧Below w0.heap.size w0 w'∧KeepBut w w' g none:=by
 have hu27:=Try.underlying27;have HR1:=Aside0.mk hr1;have HC1:=Aside0.mk hc1;clear hr1 hc1;have HI0:=Aside0.mk hI;have HK:=Aside0.mk (KeepBut.refl w g none);have HL:=Aside0.mk hB.size;clear hI;have HW0:=Aside0.mk hB.size;have HB:=Aside0.mk hB;clear hB;have H:((spec_l4Draw.f k s0_0 s0_1 s0_2 3 l1).bind fun bt492=>((spec_ExprOk.f k bt492.1 bt492.2.1 bt492.2.2.1 bt492.2.2.2.1 bt492.2.2.2.2.1).bind fun t504=>(if t504=true then (some (bt492.1,bt492.2.1,bt492.2.2.1,bt492.2.2.2.1,bt492.2.2.2.2.1,bt492.2.2.2.2.2.1,bt492.2.2.2.2.2.2)) else ((spec_l4Int.f 1).bind fun bt505=>(some (bt505.1,bt505.2.1,bt505.2.2.1,bt505.2.2.2.1,bt505.2.2.2.2,bt492.2.2.2.2.2.1,bt492.2.2.2.2.2.2))))))=some (r1,r2,r3,r4,r5,r6,r7):=h;clear h;replace H:=bs H;obtain ⟨⟨t492,t493,t494,t495,t498,t501,t502⟩,A30,H⟩:=H;replace H:((spec_ExprOk.f k t492 t493 t494 t495 t498).bind fun t504=>(if t504=true then (some (t492,t493,t494,t495,t498,t501,t502)) else ((spec_l4Int.f 1).bind fun bt505=>(some (bt505.1,bt505.2.1,bt505.2.2.1,bt505.2.2.2.1,bt505.2.2.2.2,t501,t502)))))=some (r1,r2,r3,r4,r5,r6,r7):=H;have A3:=Aside0.mk A30;clear A30;replace H:=bs H;obtain ⟨t504,A40,H⟩:=H;replace H:(if t504=true then (some (t492,t493,t494,t495,t498,t501,t502)) else ((spec_l4Int.f 1).bind fun bt505=>(some (bt505.1,bt505.2.1,bt505.2.2.1,bt505.2.2.2.1,bt505.2.2.2.2,t501,t502))))=some (r1,r2,r3,r4,r5,r6,r7):=H;have A4:=Aside0.mk A40;clear A40
 by_cases c5:t504=true
 ·subst c5
  replace H:(some (t492,t493,t494,t495,t498,t501,t502))=some (r1,r2,r3,r4,r5,r6,r7):=pt H;simp only [Option.some.injEq,Prod.mk.injEq] at H;obtain ⟨rfl,rfl,rfl,rfl,rfl,rfl,rfl⟩:=H
  go_enter Try.func11,Try.ntmps11
  go_wp2_with (first|((with_reducible refine gate_dst (N:=4) rfl ?_);refine box_event ?hg (N:=4) ?hd (cs:=#[.int .i64 0,.int .i64 0,.string (⟨#[]⟩:ByteArray),.slice none 0 0,.slice none 0 0]) (t:=27) ?hr ?_;(case hd|hg=>rfl);(case hr=>first|(go_simp;done)|(go_simp;rfl));intro gb491 hg w6 hbox hb;have n_:=aj (IsS44.below (i44 HI0.out) hb)<|ai (kt HK hb)<|ai (bqs (IsS44.ge HI0.out) HB hb)<|aj (hbox)<|aj ((gw hg HK))<|aj ((Nat.le_trans HW0.out (gw hg HK):w0.heap.size≤gb491))<|aj ((by rw [hg];exact Nat.ne_of_lt (IsS44.lt (show IsS44 w0 _ g s0_0 s0_1 s0_2 from i44 HI0.out)):g≠gb491))<|Aside0.mk ((by rw [hg];exact Nat.ne_of_gt (IsS44.lt (show IsS44 w0 _ g s0_0 s0_1 s0_2 from i44 HI0.out)):gb491≠g));clear HI0 HK HB;obtain ⟨HI0,HK,HB,BK491,GW491,GE491,NB0_491,NB491_0⟩:=n_;clear hb hbox hg)|((with_reducible refine gate_callee (f:=17) rfl ?_);refine goesL_ (some 8) rfl rfl Try.func17 (by kernel_rfl) rfl #[.pointer (some ⟨g,0,none⟩),.int .i64 3,.slice A1 l1.length c1] rfl gs ?_;(with_reducible refine (spec_l4Draw.calls k g s0_0 s0_1 s0_2 3 _ _ l1 t492 t493 t494 t495 t498 t501 t502 w0 _ ?side1 ?side2 ?side3 ?side4 ?side5 A3.out).mono ?_);(case side1=>exact i44 HI0.out);(case side2=>exact b44 HB.out);(case side3=>exact Kd.C_keep (⟨#[]⟩:ByteArray) HR1.out (kk HK.out) hf1);(case side4=>exact HC1.out);(case side5=>exact hf1);rintro e w7 ⟨v496,v499,rfl,ho0,ho1,hi,hb,hk⟩;refine ⟨_,rfl,?_⟩;have n_:=aj (kq hk BK491 NB491_0)<|aj (Kd.N_lower (Kd.N_mono (ok':=fun k_=>(w.heap.size≤k_)∧some k_≠(v499:Value).ownBlock∧k_≠gb491∧k_≠g) ho0 (fun k_ hk_=>⟨(Nat.le_trans (ks HK) hk_.1),hk_.2,(fb BK491 k_ hk_.1),(IsS44.fresh (i44 HI0.out) k_ hk_.1)⟩)) (ks HK))<|aj (Kd.N_lower (Kd.N_mono (ok':=fun k_=>(w.heap.size≤k_)∧some k_≠(v496:Value).ownBlock∧k_≠gb491∧k_≠g) ho1 (fun k_ hk_=>⟨(Nat.le_trans (ks HK) hk_.1),hk_.2,(fb BK491 k_ hk_.1),(IsS44.fresh (i44 HI0.out) k_ hk_.1)⟩)) (ks HK))<|aj (KeepBut.trans (kk HK.out) hk (.inl rfl))<|aj (hb)<|Aside0.mk (hi);clear BK491 HK HB HI0;obtain ⟨BK491,HO497,HO500,HK,HB,HI0⟩:=n_;(try clear hb);(try clear hk);(try clear hi);(try clear ho0);(try clear ho1))|((with_reducible refine gate_dst (N:=5) rfl ?_);refine box_event ?hg (N:=5) ?hd (cs:=#[.int .i64 0,.int .i64 0,.string (⟨#[]⟩:ByteArray),.slice none 0 0,.slice none 0 0]) (t:=27) ?hr ?_;(case hd|hg=>rfl);(case hr=>first|(go_simp;done)|(go_simp;rfl));intro gb503 hg w8 hbox hb;have n_:=ai (nbm HO497 hg hb)<|ai (nbm HO500 hg hb)<|aj (IsS44.below (i44 HI0.out) hb)<|ai (bw BK491 hb)<|ai (kt HK hb)<|ai (bqs (IsS44.ge HI0.out) HB hb)<|aj (hbox)<|aj ((gw hg HK))<|aj ((Nat.le_trans HW0.out (gw hg HK):w0.heap.size≤gb503))<|ai (nl hg BK491)<|ai (ng hg BK491)<|aj ((by rw [hg];exact Nat.ne_of_lt (IsS44.lt (show IsS44 w0 _ g s0_0 t501 t502 from i44 HI0.out)):g≠gb503))<|Aside0.mk ((by rw [hg];exact Nat.ne_of_gt (IsS44.lt (show IsS44 w0 _ g s0_0 t501 t502 from i44 HI0.out)):gb503≠g));clear HO497 HO500 HI0 BK491 HK HB;obtain ⟨HO497,HO500,HI0,BK491,HK,HB,BK503,GW503,GE503,NB491_503,NB503_491,NB0_503,NB503_0⟩:=n_;clear hb hbox hg;have:=NB503_491.out;have:=NB491_503.out;have:=NB503_0.out;have:=NB0_503.out;obtain ⟨h11_0,h11_1,h11_2,h11_3,h11_4⟩:=kb5 BK503.out;obtain ⟨z11_0,z11_1,z11_2,z11_3,z11_4⟩:=kz5 BK503.out;obtain ⟨Ao12,co12,eo12⟩:=Kd.N_slice HO497.out;subst eo12;obtain ⟨Ao13,co13,eo13⟩:=Kd.N_slice HO500.out;subst eo13)|((with_reducible refine gate_callee (f:=18) rfl ?_);refine goesL_ (some 10) rfl rfl Try.func18 (by kernel_rfl) rfl #[.agg #[.int .i64 t492,.int .i64 t493,.string t494,.slice Ao12 t495.length co12,.slice Ao13 t498.length co13]] rfl gs ?_;(with_reducible refine (spec_ExprOk.calls k t492 t493 t494 _ _ t495 _ _ t498 true _ ?side1 ?side2 ?side3 ?side4 A4.out).mono ?_);(case side1=>refine (Kd.N_reads' (e:=27) (base:=w.heap.size) (ok:=fun k_=>(((w.heap.size≤k_)∧(some k_≠(.slice Ao13 t498.length co13:Value).ownBlock∧(k_≠gb491∧k_≠g)))∧k_≠gb503)) (n:=t495.length) (c:=co12) ?_).2.2;exact ((Kd.N_mono (nfm (Kd.N_mono HO497.out (fun k_ hk=>(⟨hk,hk.2⟩:_∧k_≠gb503)))) (fun _ h_=>h_.1))));(case side2=>exact (Kd.N_reads' HO497.out).2.1);(case side3=>refine (Kd.N_reads' (e:=33) (base:=w.heap.size) (ok:=fun k_=>(((w.heap.size≤k_)∧(some k_≠(.slice Ao12 t495.length co12:Value).ownBlock∧(k_≠gb491∧k_≠g)))∧k_≠gb503)) (n:=t498.length) (c:=co13) ?_).2.2;exact ((Kd.N_mono (nfm (Kd.N_mono HO500.out (fun k_ hk=>(⟨hk,hk.2⟩:_∧k_≠gb503)))) (fun _ h_=>h_.1))));(case side4=>exact (Kd.N_reads' HO500.out).2.1);rintro e w14 ⟨rfl,hb⟩;refine ⟨_,rfl,?_⟩;have n_:=aj (Kd.N_below ((Kd.N_mono (nfm (Kd.N_mono HO497.out (fun k_ hk=>(⟨hk,hk.2⟩:_∧k_≠gb503)))) (fun _ h_=>h_.1))) hb)<|aj (Kd.N_below ((Kd.N_mono (nfm (Kd.N_mono HO500.out (fun k_ hk=>(⟨hk,hk.2⟩:_∧k_≠gb503)))) (fun _ h_=>h_.1))) hb)<|aj (IsS44.below (show IsS44 w0 (((((w8.setCell ⟨gb503,0,none⟩ (.int .i64 t492)).setCell ⟨gb503,1,none⟩ (.int .i64 t493)).setCell ⟨gb503,2,none⟩ (.string t494)).setCell ⟨gb503,3,none⟩ (.slice Ao12 t495.length co12)).setCell ⟨gb503,4,none⟩ (.slice Ao13 t498.length co13)) g s0_0 t501 t502 from i44 HI0.out) hb)<|ai (bwm BK491 hb)<|aj (blk_below (g:=gb503) (o:=.cells #[.int .i64 t492,.int .i64 t493,.string t494,.slice Ao12 t495.length co12,.slice Ao13 t498.length co13] 27 (0,0)) (bmp BK503.out) hb)<|ai (kt HK hb)<|bqs (IsS44.ge HI0.out) HB hb;clear HO497 HO500 HI0 BK491 BK503 HK HB;obtain ⟨HO497,HO500,HI0,BK491,BK503,HK,HB⟩:=n_;(try clear hb);(try clear hb2);(try clear hk);(try clear hi);obtain ⟨h15_0,h15_1,h15_2,h15_3,h15_4⟩:=kb5 BK503.out;obtain ⟨z15_0,z15_1,z15_2,z15_3,z15_4⟩:=kz5 BK503.out;have:=NB491_0.out;have:=NB0_491.out;obtain ⟨h17_0,h17_1,h17_2,h17_3,h17_4⟩:=kb5 BK491.out;obtain ⟨z17_0,z17_1,z17_2,z17_3,z17_4⟩:=kz5 BK491.out))
  refine bodyPost_ret (results_cell_row rfl _ _ gb491 27 #[.int .i64 t492,.int .i64 t493,.string t494,.slice Ao12 t495.length co12,.slice Ao13 t498.length co13] (0,0) _ rfl (bmp BK491.out) Try.underlying27 rfl (by kernel_rfl)) rfl ?_
  exact ⟨_,_,cl,Kd.N_mono (nfm (Kd.N_mono HO497.out (fun k_ hk=>(⟨hk,hk.1.2.2.1⟩:_∧k_≠gb491)))) (fun _ hk=>⟨hk.1.1.1,hk.1.1.2.1⟩),Kd.N_mono (nfm (Kd.N_mono HO500.out (fun k_ hk=>(⟨hk,hk.1.2.2.1⟩:_∧k_≠gb491)))) (fun _ hk=>⟨hk.1.1.1,hk.1.1.2.1⟩),i44 HI0.out,b44 HB.out,kk HK.out⟩
 ·replace c5:=Bool.eq_false_iff.mpr c5
  subst c5;replace H:((spec_l4Int.f 1).bind fun bt505=>(some (bt505.1,bt505.2.1,bt505.2.2.1,bt505.2.2.2.1,bt505.2.2.2.2,t501,t502)))=some (r1,r2,r3,r4,r5,r6,r7):=nt H;replace H:=bs H;obtain ⟨⟨t505,t506,t507,t508,t511⟩,A180,H⟩:=H;replace H:(some (t505,t506,t507,t508,t511,t501,t502))=some (r1,r2,r3,r4,r5,r6,r7):=H;have A18:=Aside0.mk A180;clear A180;simp only [Option.some.injEq,Prod.mk.injEq] at H;obtain ⟨rfl,rfl,rfl,rfl,rfl,rfl,rfl⟩:=H
  go_enter Try.func11,Try.ntmps11
  go_wp2_with (first|((with_reducible refine gate_dst (N:=4) rfl ?_);refine box_event ?hg (N:=4) ?hd (cs:=#[.int .i64 0,.int .i64 0,.string (⟨#[]⟩:ByteArray),.slice none 0 0,.slice none 0 0]) (t:=27) ?hr ?_;(case hd|hg=>rfl);(case hr=>first|(go_simp;done)|(go_simp;rfl));intro gb491 hg w19 hbox hb;have n_:=aj (IsS44.below (i44 HI0.out) hb)<|ai (kt HK hb)<|ai (bqs (IsS44.ge HI0.out) HB hb)<|aj (hbox)<|aj ((gw hg HK))<|aj ((Nat.le_trans HW0.out (gw hg HK):w0.heap.size≤gb491))<|aj ((by rw [hg];exact Nat.ne_of_lt (IsS44.lt (show IsS44 w0 _ g s0_0 s0_1 s0_2 from i44 HI0.out)):g≠gb491))<|Aside0.mk ((by rw [hg];exact Nat.ne_of_gt (IsS44.lt (show IsS44 w0 _ g s0_0 s0_1 s0_2 from i44 HI0.out)):gb491≠g));clear HI0 HK HB;obtain ⟨HI0,HK,HB,BK491,GW491,GE491,NB0_491,NB491_0⟩:=n_;clear hb hbox hg)|((with_reducible refine gate_callee (f:=17) rfl ?_);refine goesL_ (some 8) rfl rfl Try.func17 (by kernel_rfl) rfl #[.pointer (some ⟨g,0,none⟩),.int .i64 3,.slice A1 l1.length c1] rfl gs ?_;(with_reducible refine (spec_l4Draw.calls k g s0_0 s0_1 s0_2 3 _ _ l1 t492 t493 t494 t495 t498 t501 t502 w0 _ ?side1 ?side2 ?side3 ?side4 ?side5 A3.out).mono ?_);(case side1=>exact i44 HI0.out);(case side2=>exact b44 HB.out);(case side3=>exact Kd.C_keep (⟨#[]⟩:ByteArray) HR1.out (kk HK.out) hf1);(case side4=>exact HC1.out);(case side5=>exact hf1);rintro e w20 ⟨v496,v499,rfl,ho0,ho1,hi,hb,hk⟩;refine ⟨_,rfl,?_⟩;have n_:=aj (kq hk BK491 NB491_0)<|aj (Kd.N_lower (Kd.N_mono (ok':=fun k_=>(w.heap.size≤k_)∧some k_≠(v499:Value).ownBlock∧k_≠gb491∧k_≠g) ho0 (fun k_ hk_=>⟨(Nat.le_trans (ks HK) hk_.1),hk_.2,(fb BK491 k_ hk_.1),(IsS44.fresh (i44 HI0.out) k_ hk_.1)⟩)) (ks HK))<|aj (Kd.N_lower (Kd.N_mono (ok':=fun k_=>(w.heap.size≤k_)∧some k_≠(v496:Value).ownBlock∧k_≠gb491∧k_≠g) ho1 (fun k_ hk_=>⟨(Nat.le_trans (ks HK) hk_.1),hk_.2,(fb BK491 k_ hk_.1),(IsS44.fresh (i44 HI0.out) k_ hk_.1)⟩)) (ks HK))<|aj (KeepBut.trans (kk HK.out) hk (.inl rfl))<|aj (hb)<|Aside0.mk (hi);clear BK491 HK HB HI0;obtain ⟨BK491,HO497,HO500,HK,HB,HI0⟩:=n_;(try clear hb);(try clear hk);(try clear hi);(try clear ho0);(try clear ho1))|((with_reducible refine gate_dst (N:=5) rfl ?_);refine box_event ?hg (N:=5) ?hd (cs:=#[.int .i64 0,.int .i64 0,.string (⟨#[]⟩:ByteArray),.slice none 0 0,.slice none 0 0]) (t:=27) ?hr ?_;(case hd|hg=>rfl);(case hr=>first|(go_simp;done)|(go_simp;rfl));intro gb503 hg w21 hbox hb;have n_:=ai (nbm HO497 hg hb)<|ai (nbm HO500 hg hb)<|aj (IsS44.below (i44 HI0.out) hb)<|ai (bw BK491 hb)<|ai (kt HK hb)<|ai (bqs (IsS44.ge HI0.out) HB hb)<|aj (hbox)<|aj ((gw hg HK))<|aj ((Nat.le_trans HW0.out (gw hg HK):w0.heap.size≤gb503))<|ai (nl hg BK491)<|ai (ng hg BK491)<|aj ((by rw [hg];exact Nat.ne_of_lt (IsS44.lt (show IsS44 w0 _ g s0_0 t501 t502 from i44 HI0.out)):g≠gb503))<|Aside0.mk ((by rw [hg];exact Nat.ne_of_gt (IsS44.lt (show IsS44 w0 _ g s0_0 t501 t502 from i44 HI0.out)):gb503≠g));clear HO497 HO500 HI0 BK491 HK HB;obtain ⟨HO497,HO500,HI0,BK491,HK,HB,BK503,GW503,GE503,NB491_503,NB503_491,NB0_503,NB503_0⟩:=n_;clear hb hbox hg;have:=NB503_491.out;have:=NB491_503.out;have:=NB503_0.out;have:=NB0_503.out;obtain ⟨h24_0,h24_1,h24_2,h24_3,h24_4⟩:=kb5 BK503.out;obtain ⟨z24_0,z24_1,z24_2,z24_3,z24_4⟩:=kz5 BK503.out;obtain ⟨Ao25,co25,eo25⟩:=Kd.N_slice HO497.out;subst eo25;obtain ⟨Ao26,co26,eo26⟩:=Kd.N_slice HO500.out;subst eo26)|((with_reducible refine gate_callee (f:=18) rfl ?_);refine goesL_ (some 10) rfl rfl Try.func18 (by kernel_rfl) rfl #[.agg #[.int .i64 t492,.int .i64 t493,.string t494,.slice Ao25 t495.length co25,.slice Ao26 t498.length co26]] rfl gs ?_;(with_reducible refine (spec_ExprOk.calls k t492 t493 t494 _ _ t495 _ _ t498 false _ ?side1 ?side2 ?side3 ?side4 A4.out).mono ?_);(case side1=>refine (Kd.N_reads' (e:=27) (base:=w.heap.size) (ok:=fun k_=>(((w.heap.size≤k_)∧(some k_≠(.slice Ao26 t498.length co26:Value).ownBlock∧(k_≠gb491∧k_≠g)))∧k_≠gb503)) (n:=t495.length) (c:=co25) ?_).2.2;exact ((Kd.N_mono (nfm (Kd.N_mono HO497.out (fun k_ hk=>(⟨hk,hk.2⟩:_∧k_≠gb503)))) (fun _ h_=>h_.1))));(case side2=>exact (Kd.N_reads' HO497.out).2.1);(case side3=>refine (Kd.N_reads' (e:=33) (base:=w.heap.size) (ok:=fun k_=>(((w.heap.size≤k_)∧(some k_≠(.slice Ao25 t495.length co25:Value).ownBlock∧(k_≠gb491∧k_≠g)))∧k_≠gb503)) (n:=t498.length) (c:=co26) ?_).2.2;exact ((Kd.N_mono (nfm (Kd.N_mono HO500.out (fun k_ hk=>(⟨hk,hk.2⟩:_∧k_≠gb503)))) (fun _ h_=>h_.1))));(case side4=>exact (Kd.N_reads' HO500.out).2.1);rintro e w27 ⟨rfl,hb⟩;refine ⟨_,rfl,?_⟩;have n_:=aj (Kd.N_below ((Kd.N_mono (nfm (Kd.N_mono HO497.out (fun k_ hk=>(⟨hk,hk.2⟩:_∧k_≠gb503)))) (fun _ h_=>h_.1))) hb)<|aj (Kd.N_below ((Kd.N_mono (nfm (Kd.N_mono HO500.out (fun k_ hk=>(⟨hk,hk.2⟩:_∧k_≠gb503)))) (fun _ h_=>h_.1))) hb)<|aj (IsS44.below (show IsS44 w0 (((((w21.setCell ⟨gb503,0,none⟩ (.int .i64 t492)).setCell ⟨gb503,1,none⟩ (.int .i64 t493)).setCell ⟨gb503,2,none⟩ (.string t494)).setCell ⟨gb503,3,none⟩ (.slice Ao25 t495.length co25)).setCell ⟨gb503,4,none⟩ (.slice Ao26 t498.length co26)) g s0_0 t501 t502 from i44 HI0.out) hb)<|ai (bwm BK491 hb)<|aj (blk_below (g:=gb503) (o:=.cells #[.int .i64 t492,.int .i64 t493,.string t494,.slice Ao25 t495.length co25,.slice Ao26 t498.length co26] 27 (0,0)) (bmp BK503.out) hb)<|ai (kt HK hb)<|bqs (IsS44.ge HI0.out) HB hb;clear HO497 HO500 HI0 BK491 BK503 HK HB;obtain ⟨HO497,HO500,HI0,BK491,BK503,HK,HB⟩:=n_;(try clear hb);(try clear hb2);(try clear hk);(try clear hi))|((with_reducible refine gate_callee (f:=19) rfl ?_);refine goesL_ (some 12) rfl rfl Try.func19 (by kernel_rfl) rfl #[.int .i64 1] rfl gs ?_;(with_reducible refine (spec_l4Int.calls 1 t505 t506 t507 t508 t511 _ A18.out).mono ?_);rintro e w28 ⟨v509,v512,rfl,ho0,ho1,hb⟩;refine ⟨_,rfl,?_⟩;have n_:=aj (Kd.N_mono (Kd.N_told (Kd.N_told (Kd.N_old (ndm HO497.out) hb) (Kd.R_base ho0)) (Kd.R_base ho1)) (fun _ h_=>h_.1))<|aj (Kd.N_mono (Kd.N_told (Kd.N_told (Kd.N_old (ndm HO500.out) hb) (Kd.R_base ho0)) (Kd.R_base ho1)) (fun _ h_=>h_.1))<|aj (Kd.N_lower (Kd.N_mono (ok':=fun k_=>(w.heap.size≤k_)∧some k_≠(v512:Value).ownBlock∧some k_≠(.slice Ao25 t495.length co25:Value).ownBlock∧some k_≠(.slice Ao26 t498.length co26:Value).ownBlock∧k_≠gb491∧k_≠gb503∧k_≠g) (Kd.R_N (Kd.R_bound ho0)) (fun k_ hk_=>⟨(Nat.le_trans (ks HK) hk_.2.1),hk_.1,(Kd.fresh' (Kd.N_lt (ndm HO497.out)) k_ hk_.2.1),(Kd.fresh' (Kd.N_lt (ndm HO500.out)) k_ hk_.2.1),(fb BK491 k_ hk_.2.1),(fb BK503 k_ hk_.2.1),(IsS44.fresh (i44 HI0.out) k_ hk_.2.1)⟩)) (ks HK))<|aj (Kd.N_lower (Kd.N_mono (ok':=fun k_=>(w.heap.size≤k_)∧some k_≠(v509:Value).ownBlock∧some k_≠(.slice Ao25 t495.length co25:Value).ownBlock∧some k_≠(.slice Ao26 t498.length co26:Value).ownBlock∧k_≠gb491∧k_≠gb503∧k_≠g) (Kd.R_N (Kd.R_bound ho1)) (fun k_ hk_=>⟨(Nat.le_trans (ks HK) hk_.2.1),hk_.1,(Kd.fresh' (Kd.N_lt (ndm HO497.out)) k_ hk_.2.1),(Kd.fresh' (Kd.N_lt (ndm HO500.out)) k_ hk_.2.1),(fb BK491 k_ hk_.2.1),(fb BK503 k_ hk_.2.1),(IsS44.fresh (i44 HI0.out) k_ hk_.2.1)⟩)) (ks HK))<|aj (IsS44.below (i44 HI0.out) hb)<|ai (bw BK491 hb)<|ai (bw BK503 hb)<|ai (kt HK hb)<|bqs (IsS44.ge HI0.out) HB hb;clear HO497 HO500 HI0 BK491 BK503 HK HB;obtain ⟨HO497,HO500,HO510,HO513,HI0,BK491,BK503,HK,HB⟩:=n_;(try clear hb);(try clear hb2);(try clear hk);(try clear hi);(try clear ho0);(try clear ho1);have:=NB491_0.out;have:=NB0_491.out;obtain ⟨h30_0,h30_1,h30_2,h30_3,h30_4⟩:=kb5 BK491.out;obtain ⟨z30_0,z30_1,z30_2,z30_3,z30_4⟩:=kz5 BK491.out;obtain ⟨Ao31,co31,eo31⟩:=Kd.N_slice HO510.out;subst eo31;obtain ⟨Ao32,co32,eo32⟩:=Kd.N_slice HO513.out;subst eo32))
  refine bodyPost_ret (results_cell_row rfl _ _ gb491 27 #[.int .i64 t505,.int .i64 t506,.string t507,.slice Ao31 t508.length co31,.slice Ao32 t511.length co32] (0,0) _ rfl (bmp BK491.out) Try.underlying27 rfl (by kernel_rfl)) rfl ?_
  exact ⟨_,_,cl,Kd.N_mono (nfm (Kd.N_mono HO510.out (fun k_ hk=>(⟨hk,hk.2.2.2.2.1⟩:_∧k_≠gb491)))) (fun _ hk=>⟨hk.1.1,hk.1.2.1⟩),Kd.N_mono (nfm (Kd.N_mono HO513.out (fun k_ hk=>(⟨hk,hk.2.2.2.2.1⟩:_∧k_≠gb491)))) (fun _ hk=>⟨hk.1.1,hk.1.2.1⟩),i44 HI0.out,b44 HB.out,kk HK.out⟩
def spec_DrawExpr.f (k:Nat) (l0:List Int):Option (Int×Int×ByteArray×(List (S27))×(List (S33))):=(spec_l1New.f k l0).bind fun bt515=>((spec_l4Right.f k bt515.1 bt515.2.1 bt515.2.2 (([(⟨#[88]⟩:ByteArray),(⟨#[89]⟩:ByteArray)]:List ByteArray))).bind fun bt522=>(some (bt522.1,bt522.2.1,bt522.2.2.1,bt522.2.2.2.1,bt522.2.2.2.2.1)))
theorem spec_DrawExpr.mono:∀ a0 k,LeO (spec_DrawExpr.f k a0) (spec_DrawExpr.f (k + 1) a0):=by
 intro a0 k
 unfold spec_DrawExpr.f
 with_reducible repeat' first|apply spec_l1New.mono|apply spec_l4Right.mono|apply LeO.refl|apply LeO.none|apply LeO.ite|refine LeO.bind ?_ (fun _=>?_)
theorem spec_DrawExpr.calls (k:Nat) (A0:Option Addr) (c0:Nat) (l0:List Int) (r1:Int) (r2:Int) (r3:ByteArray) (r4:List (S27)) (r5:List (S33)) (w:World) (hr0:Kd.C (Kd.int .u8) w A0 l0.length l0) (hc0:l0.length≤c0) (h:spec_DrawExpr.f k l0=some (r1,r2,r3,r4,r5)) :
  Calls Try.prog 5 #[.slice A0 l0.length c0] w fun e w'=>∃ v3_ v4_:Value,e=.returned (.agg #[.int .i64 r1,.int .i64 r2,.string r3,v3_,v4_])∧Kd.N k27 27 w' w.heap.size (fun k_=>(w.heap.size≤k_)∧some k_≠(v4_:Value).ownBlock) v3_ r4∧Kd.N k33 33 w' w.heap.size (fun k_=>(w.heap.size≤k_)∧some k_≠(v3_:Value).ownBlock) v4_ r5∧Below w.heap.size w w':=by
 have hu27:=Try.underlying27;have HR0:=Aside0.mk hr0;have HC0:=Aside0.mk hc0;clear hr0 hc0;have HB:=Aside0.mk (Below.refl w.heap.size w);have H:((spec_l1New.f k l0).bind fun bt515=>((spec_l4Right.f k bt515.1 bt515.2.1 bt515.2.2 (([(⟨#[88]⟩:ByteArray),(⟨#[89]⟩:ByteArray)]:List ByteArray))).bind fun bt522=>(some (bt522.1,bt522.2.1,bt522.2.2.1,bt522.2.2.2.1,bt522.2.2.2.2.1))))=some (r1,r2,r3,r4,r5):=h;clear h;replace H:=bs H;obtain ⟨⟨t515,t516,t517⟩,A20,H⟩:=H;replace H:((spec_l4Right.f k t515 t516 t517 (([(⟨#[88]⟩:ByteArray),(⟨#[89]⟩:ByteArray)]:List ByteArray))).bind fun bt522=>(some (bt522.1,bt522.2.1,bt522.2.2.1,bt522.2.2.2.1,bt522.2.2.2.2.1)))=some (r1,r2,r3,r4,r5):=H;have A2:=Aside0.mk A20;clear A20;obtain ⟨y519,hy519⟩:∃ y_:List ByteArray,y_=(([(⟨#[88]⟩:ByteArray),(⟨#[89]⟩:ByteArray)]:List ByteArray)):=⟨_,rfl⟩;replace H:((spec_l4Right.f k t515 t516 t517 y519).bind fun bt522=>(some (bt522.1,bt522.2.1,bt522.2.2.1,bt522.2.2.2.1,bt522.2.2.2.2.1)))=some (r1,r2,r3,r4,r5):=hw hy519 H
 have Ny519:=Aside0.mk hy519;clear hy519;replace H:=bs H;obtain ⟨⟨t522,t523,t524,t525,t528,t531,t532⟩,A30,H⟩:=H;replace H:(some (t522,t523,t524,t525,t528))=some (r1,r2,r3,r4,r5):=H;have A3:=Aside0.mk A30;clear A30;simp only [Option.some.injEq,Prod.mk.injEq] at H;obtain ⟨rfl,rfl,rfl,rfl,rfl⟩:=H
 go_enter Try.func5,Try.ntmps5
 go_wp2_with (first|((with_reducible refine gate_dst (N:=2) rfl ?_);refine box_event ?hg (N:=2) ?hd (cs:=#[.int .i64 0,.int .i64 0,.string (⟨#[]⟩:ByteArray),.slice none 0 0,.slice none 0 0]) (t:=27) ?hr ?_;(case hd|hg=>rfl);(case hr=>first|(go_simp;done)|(go_simp;rfl));intro gb514 hg w4 hbox hb;have n_:=ai (bq HB hb)<|aj (hbox)<|ai (bz hg HB)<|bz hg HB;clear HB;obtain ⟨HB,BK514,GW514,GE514⟩:=n_;clear hb hbox hg)|((with_reducible refine gate_callee (f:=10) rfl ?_);refine goesL_ (some 5) rfl rfl Try.func10 (by kernel_rfl) rfl #[.slice A0 l0.length c0] rfl gs ?_;(with_reducible refine (spec_l1New.calls k _ _ l0 t515 t516 t517 w _ ?side1 ?side2 ?side3 A2.out).mono ?_);(case side1=>exact bl HB.out);(case side2=>exact HR0.out);(case side3=>exact HC0.out);rintro e w5 ⟨g518,rfl,hi,hb,hb2⟩;refine ⟨_,rfl,?_⟩;have n_:=aj (blk_below (g:=gb514) (o:=.cells #[.int .i64 0,.int .i64 0,.string (⟨#[]⟩:ByteArray),.slice none 0 0,.slice none 0 0] 27 (0,0)) (bk BK514.out) hb2)<|aj (hb)<|aj (hi)<|aj (IsS44.ne_blk hi (blk_below (g:=gb514) (o:=.cells #[.int .i64 0,.int .i64 0,.string (⟨#[]⟩:ByteArray),.slice none 0 0,.slice none 0 0] 27 (0,0)) (bk BK514.out) hb2) (by decide))<|Aside0.mk (Ne.symm (IsS44.ne_blk hi (blk_below (g:=gb514) (o:=.cells #[.int .i64 0,.int .i64 0,.string (⟨#[]⟩:ByteArray),.slice none 0 0,.slice none 0 0] 27 (0,0)) (bk BK514.out) hb2) (by decide)));clear BK514 HB;obtain ⟨BK514,HB,HI518,NB518_514,NB514_518⟩:=n_;(try clear hb);(try clear hb2);(try clear hi))|((with_reducible refine gate_dst (N:=7) rfl ?_);refine Kd.R_lit Kd.string _ 9 ?hg (N:=7) ?hd (xs:=([(⟨#[88]⟩:ByteArray),(⟨#[89]⟩:ByteArray)]:List ByteArray)) (inner:=[.string (⟨#[88]⟩:ByteArray),.string (⟨#[89]⟩:ByteArray)]) (ok:=fun _=>True) (okp:=fun _=>True) ?hr ?hp (fun _ hk=>hk) trivial (Below.refl _ _) (Nat.le_refl _) (by simp) ?_;(case hd|hg=>rfl);(case hr=>first|(go_simp;done)|(go_simp;rfl));(case hp=>exact (Reps.one (show Kd.M Kd.string _ _ _ (⟨#[88]⟩:ByteArray) [.string (⟨#[88]⟩:ByteArray)] from rfl) (Reps.one (show Kd.M Kd.string _ _ _ (⟨#[89]⟩:ByteArray) [.string (⟨#[89]⟩:ByteArray)] from rfl) (Reps.none _ _))));intro v520 w6 ho7 hb hg_ hnew_;clear hg_ hnew_;(first|rw [← Ny519.out] at ho7|(simp only [Int.reduceToNat] at ho7;rw [← Ny519.out] at ho7));have n_:=aj (Kd.R_lower (Kd.R_newM (M:=fun k_=>(w.heap.size≤k_)) ho7 (below_size (b44 HB.out)) (fun k_ h_=>h_)) (below_size (b44 HB.out)))<|ai (bw BK514 hb)<|aj (IsS44.below (i44 HI518.out) hb)<|bqs (IsS44.ge HI518.out) HB hb;clear BK514 HI518 HB;obtain ⟨HO521,BK514,HI518,HB⟩:=n_;clear hb ho7;obtain ⟨Ao8,co8,eo8⟩:=Kd.R_slice HO521.out;subst eo8)|((with_reducible refine gate_callee (f:=11) rfl ?_);refine goesL_ (some 8) rfl rfl Try.func11 (by kernel_rfl) rfl #[.pointer (some ⟨g518,0,none⟩),.slice Ao8 y519.length co8] rfl gs ?_;(with_reducible refine (spec_l4Right.calls k g518 t515 t516 t517 _ _ y519 t522 t523 t524 t525 t528 t531 t532 w _ ?side1 ?side2 ?side3 ?side4 ?side5 A3.out).mono ?_);(case side1=>exact i44 HI518.out);(case side2=>exact b44 HB.out);(case side3=>exact ck (Kd.R_reads' HO521.out).2.2);(case side4=>exact (Kd.R_reads' HO521.out).2.1);(case side5=>exact far_slice (IsS44.own_ne HI518.out HO521.out (by decide)));rintro e w9 ⟨v526,v529,rfl,ho0,ho1,hi,hb,hk⟩;refine ⟨_,rfl,?_⟩;have n_:=aj (kq hk BK514 NB514_518)<|aj (Kd.R_mono (Kd.R_keep (IsS44.apart (show IsS44 w _ g518 t515 t516 t517 from i44 HI518.out) (rk HO521.out) (by decide)) hk (fun _ h=>h.2)) (fun _ h=>h.1))<|aj (Kd.N_lower (Kd.N_mono (ok':=fun k_=>(w.heap.size≤k_)∧some k_≠(v529:Value).ownBlock∧some k_≠(.slice Ao8 y519.length co8:Value).ownBlock∧k_≠gb514∧k_≠g518) ho0 (fun k_ hk_=>⟨(Nat.le_trans (below_size (b44 HB.out)) hk_.1),hk_.2,(Kd.fresh' (Kd.R_lt (rk HO521.out)) k_ hk_.1),(fb BK514 k_ hk_.1),(IsS44.fresh (i44 HI518.out) k_ hk_.1)⟩)) (below_size (b44 HB.out)))<|aj (Kd.N_lower (Kd.N_mono (ok':=fun k_=>(w.heap.size≤k_)∧some k_≠(v526:Value).ownBlock∧some k_≠(.slice Ao8 y519.length co8:Value).ownBlock∧k_≠gb514∧k_≠g518) ho1 (fun k_ hk_=>⟨(Nat.le_trans (below_size (b44 HB.out)) hk_.1),hk_.2,(Kd.fresh' (Kd.R_lt (rk HO521.out)) k_ hk_.1),(fb BK514 k_ hk_.1),(IsS44.fresh (i44 HI518.out) k_ hk_.1)⟩)) (below_size (b44 HB.out)))<|aj (hb)<|Aside0.mk (hi);clear BK514 HO521 HB HI518;obtain ⟨BK514,HO521,HO527,HO530,HB,HI518⟩:=n_;(try clear hb);(try clear hb2);(try clear hk);(try clear hi);(try clear ho0);(try clear ho1);have:=NB514_518.out;have:=NB518_514.out;obtain ⟨h11_0,h11_1,h11_2,h11_3,h11_4⟩:=kb5 BK514.out;obtain ⟨z11_0,z11_1,z11_2,z11_3,z11_4⟩:=kz5 BK514.out;obtain ⟨Ao12,co12,eo12⟩:=Kd.N_slice HO527.out;subst eo12;obtain ⟨Ao13,co13,eo13⟩:=Kd.N_slice HO530.out;subst eo13))
 refine bodyPost_ret (results_cell_row rfl _ _ gb514 27 #[.int .i64 t522,.int .i64 t523,.string t524,.slice Ao12 t525.length co12,.slice Ao13 t528.length co13] (0,0) _ rfl (bmp BK514.out) Try.underlying27 rfl (by kernel_rfl)) rfl ?_
 exact ⟨_,_,cl,Kd.N_mono (nfm (Kd.N_mono HO527.out (fun k_ hk=>(⟨hk,hk.2.2.2.1⟩:_∧k_≠gb514)))) (fun _ hk=>⟨hk.1.1,hk.1.2.1⟩),Kd.N_mono (nfm (Kd.N_mono HO530.out (fun k_ hk=>(⟨hk,hk.2.2.2.1⟩:_∧k_≠gb514)))) (fun _ hk=>⟨hk.1.1,hk.1.2.1⟩),b44 HB.out⟩
def slices_Index_string_string.l0:Nat→List ByteArray→ByteArray→Int→Int→Option (Int)
 | 0,_,_,_,_=>none
 | k + 1,x0,x1,x7,x8=>if x8 < x7 then (if 0≤x8 then (if x8 < (x0.length:Int) then (if x1.toList=(rdOf ByteArray.empty x0 x8).toList then (some x8) else (slices_Index_string_string.l0 k x0 x1 x7 (wrap64 (x8 + 1)))) else (none)) else (none)) else (some (-1))
def slices_Index_string_string.f (k:Nat) (l0:List ByteArray) (a1:ByteArray):Option (Int):=slices_Index_string_string.l0 k l0 a1 (l0.length:Int) 0
theorem slices_Index_string_string.mono_l:∀ k,(∀ y0 y1 y2 y3,LeO (slices_Index_string_string.l0 k y0 y1 y2 y3) (slices_Index_string_string.l0 (k + 1) y0 y1 y2 y3))
 | 0=>fun _ _ _ _ r h=>by simp [slices_Index_string_string.l0] at h
 | k + 1=>by
  have ih0:=slices_Index_string_string.mono_l k
  ·intro y0 y1 y2 y3
   unfold slices_Index_string_string.l0
   with_reducible repeat' first|apply ih0|apply LeO.refl|apply LeO.none|apply LeO.ite|refine LeO.bind ?_ (fun _=>?_)
theorem slices_Index_string_string.mono:∀ a0 a1 k,LeO (slices_Index_string_string.f k a0 a1) (slices_Index_string_string.f (k + 1) a0 a1):=by
 intro a0 a1 k;have ih0:=slices_Index_string_string.mono_l k
 unfold slices_Index_string_string.f
 with_reducible repeat' first|apply ih0|apply LeO.refl|apply LeO.none|apply LeO.ite|refine LeO.bind ?_ (fun _=>?_)
theorem slices_Index_string_string.calls (k:Nat) (A0:Option Addr) (c0:Nat) (l0:List ByteArray) (a1:ByteArray) (r:Int) (w:World) (hr0:Kd.C Kd.string w A0 l0.length l0) (hc0:l0.length≤c0) (h:slices_Index_string_string.f k l0 a1=some r) :
  Calls Try.prog 20 #[.slice A0 l0.length c0,.string a1] w fun e w'=>e=.returned (.int .i64 r)∧Drawn0 w w':=by
 have HR0:=Aside0.mk hr0;have HC0:=Aside0.mk hc0;clear hr0 hc0;have H:(slices_Index_string_string.l0 k l0 a1 (l0.length:Int) 0)=some r:=h;clear h;have H':=Aside0.mk H;clear H
 go_enter Try.func20,Try.ntmps20
 go_wp2
 go_loopg [8] k (fun kq v8 w'=>∃ (x8_1:Int),v8=.int .i64 x8_1∧Aside0 (slices_Index_string_string.l0 kq l0 a1 (l0.length:Int) x8_1=some r)∧Aside0 (kq≤k)∧Drawn0 w w')
 case atStart=>exact ⟨(0),(cl2),H',⟨Nat.le_refl _⟩,d0⟩
 case round =>
  clear H';obtain ⟨x8_1,rfl,HA,HK1,⟨m1,rfl⟩⟩:=hrel
  cases gk with
  | zero=>exact absurd HA.out (by simp [slices_Index_string_string.l0])
  | succ k1 =>
   have H:=HA.out;clear HA;simp only [slices_Index_string_string.l0] at H
   by_cases c3:x8_1 < (l0.length:Int)
   ·rw [if_pos c3] at H
    have c3b0:decide (x8_1 < (l0.length:Int))=true:=decide_eq_true c3;clear c3
    by_cases c4:0≤x8_1
    ·rw [if_pos c4] at H
     have c4b0:decide (0≤x8_1)=true:=decide_eq_true c4;clear c4
     by_cases c5:x8_1 < (l0.length:Int)
     ·rw [if_pos c5] at H
      have c5b0:decide (x8_1 < (l0.length:Int))=true:=decide_eq_true c5;clear c5
      by_cases c6:a1.toList=(rdOf ByteArray.empty l0 x8_1).toList
      ·rw [if_pos c6] at H
       have c6b0:(a1.toList == (rdOf ByteArray.empty l0 x8_1).toList)=true:=beq_iff_eq.mpr c6;have c6b1:(a1.toList != (rdOf ByteArray.empty l0 x8_1).toList)=false:=bne_eq_false_iff_eq.mpr c6;clear c6;obtain rfl:=Option.some.inj H;have p533:0≤(x8_1:Int):=od;have q533:x8_1 < (l0.length:Int):=od;obtain ⟨ad533,e533,hx533_0⟩:=Kd.at_string HR0.out x8_1 p533 q533;cases e533;replace p533:=eq_true p533;replace q533:=eq_true q533
       go_wp2
       go_ret
       exact ⟨cl2,d0⟩
      ·rw [if_neg c6] at H
       have c6b0:(a1.toList == (rdOf ByteArray.empty l0 x8_1).toList)=false:=beq_eq_false_iff_ne.mpr c6;have c6b1:(a1.toList != (rdOf ByteArray.empty l0 x8_1).toList)=true:=bne_iff_ne.mpr c6;have H':=Aside0.mk H;clear H;have p533:0≤(x8_1:Int):=od;have q533:x8_1 < (l0.length:Int):=od;obtain ⟨ad533,e533,hx533_0⟩:=Kd.at_string HR0.out x8_1 p533 q533;cases e533;replace p533:=eq_true p533;replace q533:=eq_true q533
       go_wp2
       go_roundg k1
       case measure=>have:=HK1.out;omega
       case rel=>exact ⟨(wrap64 (x8_1 + 1)),(cl2),H',⟨by have:=HK1.out;omega⟩,d0⟩
     ·rw [if_neg c5] at H
      exact absurd H (by simp)
    ·rw [if_neg c4] at H
     exact absurd H (by simp)
   ·rw [if_neg c3] at H
    have c3b0:decide (x8_1 < (l0.length:Int))=false:=decide_eq_false c3;clear c3;obtain rfl:=Option.some.inj H
    go_wp2
    go_ret
    exact ⟨cl2,d0⟩
def slices_Contains_string_string.f (k:Nat) (l0:List ByteArray) (a1:ByteArray):Option (Bool):=(slices_Index_string_string.f k l0 a1).bind fun t534=>(some (decide (t534 ≥ 0)))
theorem slices_Contains_string_string.mono:∀ a0 a1 k,LeO (slices_Contains_string_string.f k a0 a1) (slices_Contains_string_string.f (k + 1) a0 a1):=by
 intro a0 a1 k
 unfold slices_Contains_string_string.f
 with_reducible repeat' first|apply slices_Index_string_string.mono|apply LeO.refl|apply LeO.none|apply LeO.ite|refine LeO.bind ?_ (fun _=>?_)
theorem slices_Contains_string_string.calls (k:Nat) (A0:Option Addr) (c0:Nat) (l0:List ByteArray) (a1:ByteArray) (r:Bool) (w:World) (hr0:Kd.C Kd.string w A0 l0.length l0) (hc0:l0.length≤c0) (h:slices_Contains_string_string.f k l0 a1=some r) :
  Calls Try.prog 14 #[.slice A0 l0.length c0,.string a1] w fun e w'=>e=.returned (.bool r)∧Drawn0 w w':=by
 have HR0:=Aside0.mk hr0;have HC0:=Aside0.mk hc0;clear hr0 hc0;have H:((slices_Index_string_string.f k l0 a1).bind fun t534=>(some (decide (t534 ≥ 0))))=some r:=h;clear h;replace H:=bs H;obtain ⟨t534,A30,H⟩:=H;replace H:(some (decide (t534 ≥ 0)))=some r:=H;have A3:=Aside0.mk A30;clear A30;obtain rfl:=Option.some.inj H
 go_enter Try.func14,Try.ntmps14
 go_wp2_with (first|((with_reducible refine gate_callee (f:=20) rfl ?_);refine goesL_ (some 7) rfl rfl Try.func20 (by kernel_rfl) rfl #[.slice A0 l0.length c0,.string a1] rfl gs ?_;(with_reducible refine (slices_Index_string_string.calls k _ _ l0 a1 t534 _ ?side1 ?side2 A3.out).mono ?_);(case side1=>exact ck HR0.out);(case side2=>exact HC0.out);rintro e w' ⟨rfl,⟨nd,rfl⟩⟩;refine ⟨_,rfl,?_⟩))
 go_ret
 exact ⟨cl2,d0⟩
def impl_addOnce.l0:Nat→List ByteArray→List ByteArray→Int→Int→Option (List ByteArray)
 | 0,_,_,_,_=>none
 | k + 1,x0,x7,x8,x9=>if x9 < x8 then (if 0≤x9 then (if x9 < (x7.length:Int) then ((slices_Contains_string_string.f k x0 (rdOf ByteArray.empty x7 x9)).bind fun t536=>(if t536=true then (impl_addOnce.l0 k x0 x7 x8 (wrap64 (x9 + 1))) else (if x0.length < 8796093022208 then (impl_addOnce.l0 k (x0 ++ [rdOf ByteArray.empty x7 x9]) x7 x8 (wrap64 (x9 + 1))) else (none)))) else (none)) else (none)) else (some x0)
def impl_addOnce.f (k:Nat) (l0:List ByteArray) (l1:List ByteArray):Option (List ByteArray):=impl_addOnce.l0 k l0 l1 (l1.length:Int) 0
theorem impl_addOnce.mono_l:∀ k,(∀ y0 y1 y2 y3,LeO (impl_addOnce.l0 k y0 y1 y2 y3) (impl_addOnce.l0 (k + 1) y0 y1 y2 y3))
 | 0=>fun _ _ _ _ r h=>by simp [impl_addOnce.l0] at h
 | k + 1=>by
  have ih0:=impl_addOnce.mono_l k
  ·intro y0 y1 y2 y3
   unfold impl_addOnce.l0
   with_reducible repeat' first|apply ih0|apply slices_Contains_string_string.mono|apply LeO.refl|apply LeO.none|apply LeO.ite|refine LeO.bind ?_ (fun _=>?_)
theorem impl_addOnce.mono:∀ a0 a1 k,LeO (impl_addOnce.f k a0 a1) (impl_addOnce.f (k + 1) a0 a1):=by
 intro a0 a1 k;have ih0:=impl_addOnce.mono_l k
 unfold impl_addOnce.f
 with_reducible repeat' first|apply ih0|apply slices_Contains_string_string.mono|apply LeO.refl|apply LeO.none|apply LeO.ite|refine LeO.bind ?_ (fun _=>?_)
theorem impl_addOnce.calls (k:Nat) (P0_:Nat→Prop) (u9000_:Value) (l0:List ByteArray) (A1:Option Addr) (c1:Nat) (l1:List ByteArray) (r:List ByteArray) (w0 w:World) (hB:Below w0.heap.size w0 w) (ho0:Kd.R Kd.string 9 w w0.heap.size P0_ u9000_ l0) (hr1:∀ W_,Kept w W_ (fun k_=>P0_ k_)→Kd.C Kd.string W_ A1 l1.length l1) (hc1:l1.length≤c1) (h:impl_addOnce.f k l0 l1=some r) :
  Calls Try.prog 12 #[u9000_,.slice A1 l1.length c1] w fun e w'=>∃ v0_:Value,e=.returned (v0_)∧Kd.R Kd.string 9 w' w0.heap.size (fun k_=>(P0_ k_∨w.heap.size≤k_)) v0_ r∧Below w0.heap.size w0 w'∧Kept w w' (fun k_=>P0_ k_):=by
 have HO0:=Aside0.mk (show Kd.R Kd.string 9 w w0.heap.size (fun k_=>(P0_ k_∨w.heap.size≤k_)) u9000_ l0 from Kd.R_mono ho0 (fun k_ hk=>(.inl hk)));have HR1:=Aside0.mk hr1;have HC1:=Aside0.mk hc1;clear hr1 hc1;have HK:=Aside0.mk (Kept.refl w (fun k_=>P0_ k_));have HW0:=Aside0.mk hB.size;have HB:=Aside0.mk hB;clear hB;have H:(impl_addOnce.l0 k l0 l1 (l1.length:Int) 0)=some r:=h;clear h;have H':=Aside0.mk H;clear H
 go_enter Try.func12,Try.ntmps12
 go_wp2
 go_loopg [0,9] k (fun kq v0 v9 w'=>∃ (x0_1:List ByteArray) (x9_1:Int),v9=.int .i64 x9_1∧Aside0 (impl_addOnce.l0 kq x0_1 l1 (l1.length:Int) x9_1=some r)∧Aside0 (kq≤k)∧Aside0 (Kd.R Kd.string 9 w' w0.heap.size (fun k_=>(P0_ k_∨w.heap.size≤k_)) v0 x0_1)∧Aside0 (Kept w w' (fun k_=>P0_ k_))∧Aside0 (Below w0.heap.size w0 w'))
 case atStart=>exact ⟨(l0),(0),(cl2),H',⟨Nat.le_refl _⟩,⟨rk HO0.out⟩,⟨kp HK.out⟩,⟨bl HB.out⟩⟩
 case round =>
  clear H';(try clear c1);(try clear HK);(try clear HB);obtain ⟨x0_1,x9_1,rfl,HA,HK1,HO_0,HK,HB⟩:=hrel
  cases gk with
  | zero=>exact absurd HA.out (by simp [impl_addOnce.l0])
  | succ k1 =>
   have H:=HA.out;clear HA;simp only [impl_addOnce.l0] at H
   by_cases c3:x9_1 < (l1.length:Int)
   ·rw [if_pos c3] at H
    have c3b0:decide (x9_1 < (l1.length:Int))=true:=decide_eq_true c3;clear c3
    by_cases c4:0≤x9_1
    ·rw [if_pos c4] at H
     have c4b0:decide (0≤x9_1)=true:=decide_eq_true c4;clear c4
     by_cases c5:x9_1 < (l1.length:Int)
     ·rw [if_pos c5] at H
      have c5b0:decide (x9_1 < (l1.length:Int))=true:=decide_eq_true c5;clear c5;replace H:=bs H;obtain ⟨t536,A60,H⟩:=H;replace H:(if t536=true then (impl_addOnce.l0 k1 x0_1 l1 (l1.length:Int) (wrap64 (x9_1 + 1))) else (if x0_1.length < 8796093022208 then (impl_addOnce.l0 k1 (x0_1 ++ [rdOf ByteArray.empty l1 x9_1]) l1 (l1.length:Int) (wrap64 (x9_1 + 1))) else (none)))=some r:=H;have A6:=Aside0.mk A60;clear A60
      by_cases c7:t536=true
      ·subst c7
       replace H:(impl_addOnce.l0 k1 x0_1 l1 (l1.length:Int) (wrap64 (x9_1 + 1)))=some r:=pt H;have H':=Aside0.mk H;clear H;have p535:0≤(x9_1:Int):=od;have q535:x9_1 < (l1.length:Int):=od;obtain ⟨ad535,e535,hx535_0⟩:=Kd.at_string (Kd.C_kept_now HR1.out HK.out) x9_1 p535 q535;cases e535;replace p535:=eq_true p535;replace q535:=eq_true q535;obtain ⟨Ao8,co8,eo8⟩:=Kd.R_slice HO_0.out;subst eo8
       go_wp2_with (first|((with_reducible refine gate_callee (f:=14) rfl ?_);refine goesL_ (some 15) rfl rfl Try.func14 (by kernel_rfl) rfl #[.slice Ao8 x0_1.length co8,.string (rdOf ByteArray.empty l1 x9_1)] rfl gs ?_;(with_reducible refine (slices_Contains_string_string.calls k1 _ _ x0_1 (rdOf ByteArray.empty l1 x9_1) true _ ?side1 ?side2 A6.out).mono ?_);(case side1=>exact ck (Kd.R_reads' HO_0.out).2.2);(case side2=>exact (Kd.R_reads' HO_0.out).2.1);rintro e w' ⟨rfl,⟨nd,rfl⟩⟩;refine ⟨_,rfl,?_⟩))
       go_roundg k1
       case measure=>have:=HK1.out;omega
       case rel=>exact ⟨(x0_1),(wrap64 (x9_1 + 1)),(cl2),H',⟨by have:=HK1.out;omega⟩,⟨rk HO_0.out⟩,⟨kp HK.out⟩,⟨bl HB.out⟩⟩
      ·replace c7:=Bool.eq_false_iff.mpr c7
       subst c7;replace H:(if x0_1.length < 8796093022208 then (impl_addOnce.l0 k1 (x0_1 ++ [rdOf ByteArray.empty l1 x9_1]) l1 (l1.length:Int) (wrap64 (x9_1 + 1))) else (none))=some r:=nt H
       by_cases c9:x0_1.length < 8796093022208
       ·rw [if_pos c9] at H
        have LMc9:=Aside0.mk c9;clear c9;obtain ⟨y537,hy537⟩:∃ y_:List ByteArray,y_=(x0_1 ++ [rdOf ByteArray.empty l1 x9_1]):=⟨_,rfl⟩;replace H:(impl_addOnce.l0 k1 y537 l1 (l1.length:Int) (wrap64 (x9_1 + 1)))=some r:=hw hy537 H
        have Ny537:=Aside0.mk hy537;clear hy537;have H':=Aside0.mk H;clear H;have p535:0≤(x9_1:Int):=od;have q535:x9_1 < (l1.length:Int):=od;obtain ⟨ad535,e535,hx535_0⟩:=Kd.at_string (Kd.C_kept_now HR1.out HK.out) x9_1 p535 q535;cases e535;replace p535:=eq_true p535;replace q535:=eq_true q535;obtain ⟨Ao10,co10,eo10⟩:=Kd.R_slice HO_0.out;subst eo10
        go_wp2_with (first|((with_reducible refine gate_callee (f:=14) rfl ?_);refine goesL_ (some 15) rfl rfl Try.func14 (by kernel_rfl) rfl #[.slice Ao10 x0_1.length co10,.string (rdOf ByteArray.empty l1 x9_1)] rfl gs ?_;(with_reducible refine (slices_Contains_string_string.calls k1 _ _ x0_1 (rdOf ByteArray.empty l1 x9_1) false _ ?side1 ?side2 A6.out).mono ?_);(case side1=>exact ck (Kd.R_reads' HO_0.out).2.2);(case side2=>exact (Kd.R_reads' HO_0.out).2.1);rintro e w' ⟨rfl,⟨nd,rfl⟩⟩;refine ⟨_,rfl,?_⟩)|((with_reducible refine gate_builtin (b:=.append) (xs:=#[.tmp 17,.tmp 19]) rfl ?_);at_builtin;refine Kd.R_append Kd.string (w0:=w0) w0.heap.size rfl (.tmp 17) (.tmp 19) 29 9 (.string ⟨#[]⟩) 16 rfl Try.underlying29 info9 rfl (by decide) (by omega) (.slice Ao10 x0_1.length co10) x0_1 (rdOf ByteArray.empty l1 x9_1) [.string (rdOf ByteArray.empty l1 x9_1)] (fun k_=>(P0_ k_∨w.heap.size≤k_)) (fun _=>False) rfl rfl ?aP (fun _ hk=>hk.elim) ?aF ?aO ?aB ?aS ?aL ?_;(case aP=>exact rfl);(case aB=>exact (bl HB.out));(case aF=>exact (fun k_ hk=>(.inr (Nat.le_trans (by first|exact HK.out.1|exact (show Kept w _ (fun k_=>P0_ k_) from kp HK.out).1) hk))));(case aO=>exact (rk HO_0.out));(case aS=>exact (below_size (bl HB.out)));(case aL=>have:=LMc9.out;omega);intro v538 w11 ho hb hg hat;rw [← Ny537.out] at ho;have n_:=aj (hb)<|aj (Kept.of_grown (S:=(fun k_=>P0_ k_)) hg (kp HK.out) (fun k_ e_=>(HO_0.out.1 k_ e_)))<|Aside0.mk (ho);clear HB HK HO_0;obtain ⟨HB,HK,HO539⟩:=n_;clear ho hb hg hat))
        go_roundg k1
        case measure=>have:=HK1.out;omega
        case rel=>exact ⟨(y537),(wrap64 (x9_1 + 1)),(cl2),H',⟨by have:=HK1.out;omega⟩,⟨rk HO539.out⟩,⟨kp HK.out⟩,⟨bl HB.out⟩⟩
       ·rw [if_neg c9] at H
        exact absurd H (by simp)
     ·rw [if_neg c5] at H
      exact absurd H (by simp)
    ·rw [if_neg c4] at H
     exact absurd H (by simp)
   ·rw [if_neg c3] at H
    have c3b0:decide (x9_1 < (l1.length:Int))=false:=decide_eq_false c3;clear c3;obtain rfl:=Option.some.inj H
    go_wp2
    go_ret
    exact ⟨_,cl,rk HO_0.out,bl HB.out,kp HK.out⟩
mutual
def impl_VarsOf.j0:Nat→Bool→Int→Int→ByteArray→List (S27)→List (S33)→Option (List ByteArray)
 | 0,_,_,_,_,_,_=>none
 | k + 1,x13,x541000,x541001,x541002,x541003,x541004=>if x13=true then (some (([x541002]:List ByteArray))) else (if x541000=3 then (some ([]:List ByteArray)) else (impl_VarsOf.l0 k ([]:List ByteArray) x541003 (x541003.length:Int) 0))
def impl_VarsOf.l0:Nat→List ByteArray→List (S27)→Int→Int→Option (List ByteArray)
 | 0,_,_,_,_=>none
 | k + 1,x3,x21,x22,x23=>if x23 < x22 then (if 0≤x23 then (if x23 < (x21.length:Int) then ((impl_VarsOf.f k ((rd_T27 x21 x23).f0) ((rd_T27 x21 x23).f1) ((rd_T27 x21 x23).f2) ((rd_T27 x21 x23).f3) ((rd_T27 x21 x23).f4)).bind fun t546=>(if x3.length + t546.length < 8796093022208 then (impl_VarsOf.l0 k (x3 ++ t546) x21 x22 (wrap64 (x23 + 1))) else (none))) else (none)) else (none)) else (some x3)
def impl_VarsOf.f:Nat→Int→Int→ByteArray→List (S27)→List (S33)→Option (List ByteArray)
 | 0,_,_,_,_,_=>none
 | k + 1,a0_0,a0_1,a0_2,l0_3,l0_4=>if a0_0=3 then (impl_VarsOf.j0 k (a0_2.toList != ([95]:List UInt8)) a0_0 a0_1 a0_2 l0_3 l0_4) else (impl_VarsOf.j0 k false a0_0 a0_1 a0_2 l0_3 l0_4)
end
theorem impl_VarsOf.mono_l:∀ k,(∀ y0 y1 y2 y3 y4,LeO (impl_VarsOf.f k y0 y1 y2 y3 y4) (impl_VarsOf.f (k + 1) y0 y1 y2 y3 y4))∧(∀ y0 y1 y2 y3 y4 y5,LeO (impl_VarsOf.j0 k y0 y1 y2 y3 y4 y5) (impl_VarsOf.j0 (k + 1) y0 y1 y2 y3 y4 y5))∧(∀ y0 y1 y2 y3,LeO (impl_VarsOf.l0 k y0 y1 y2 y3) (impl_VarsOf.l0 (k + 1) y0 y1 y2 y3))
 | 0=>⟨fun _ _ _ _ _ r h=>by simp [impl_VarsOf.f] at h,fun _ _ _ _ _ _ r h=>by simp [impl_VarsOf.j0] at h,fun _ _ _ _ r h=>by simp [impl_VarsOf.l0] at h⟩
 | k + 1=>by
  obtain ⟨ih0,ih1,ih2⟩:=impl_VarsOf.mono_l k
  refine ⟨?_,?_,?_⟩
  ·intro y0 y1 y2 y3 y4
   unfold impl_VarsOf.f
   with_reducible repeat' first|apply ih0|apply ih1|apply ih2|apply LeO.refl|apply LeO.none|apply LeO.ite|refine LeO.bind ?_ (fun _=>?_)
  ·intro y0 y1 y2 y3 y4 y5
   unfold impl_VarsOf.j0
   with_reducible repeat' first|apply ih0|apply ih1|apply ih2|apply LeO.refl|apply LeO.none|apply LeO.ite|refine LeO.bind ?_ (fun _=>?_)
  ·intro y0 y1 y2 y3
   unfold impl_VarsOf.l0
   with_reducible repeat' first|apply ih0|apply ih1|apply ih2|apply LeO.refl|apply LeO.none|apply LeO.ite|refine LeO.bind ?_ (fun _=>?_)
theorem impl_VarsOf.mono:∀ a0 a1 a2 a3 a4 k,LeO (impl_VarsOf.f k a0 a1 a2 a3 a4) (impl_VarsOf.f (k + 1) a0 a1 a2 a3 a4):=by
 intro a0 a1 a2 a3 a4 k;obtain ⟨ih0,ih1,ih2⟩:=impl_VarsOf.mono_l k
 exact ih0 a0 a1 a2 a3 a4
theorem impl_VarsOf.calls (k:Nat):∀ (a0_0:Int) (a0_1:Int) (a0_2:ByteArray) (A0_3:Option Addr) (c0_3:Nat) (l0_3:List (S27)) (A0_4:Option Addr) (c0_4:Nat) (l0_4:List (S33)) (r:List ByteArray) (w:World) (hr0_3:Kd.C k27 w A0_3 l0_3.length l0_3) (hc0_3:l0_3.length≤c0_3) (hr0_4:Kd.C k33 w A0_4 l0_4.length l0_4) (hc0_4:l0_4.length≤c0_4) (h:impl_VarsOf.f k a0_0 a0_1 a0_2 l0_3 l0_4=some r),
  Calls Try.prog 13 #[.agg #[.int .i64 a0_0,.int .i64 a0_1,.string a0_2,.slice A0_3 l0_3.length c0_3,.slice A0_4 l0_4.length c0_4]] w fun e w'=>∃ v0_:Value,e=.returned (v0_)∧Kd.R Kd.string 9 w' w.heap.size (fun _=>True) v0_ r∧Below w.heap.size w w':=by
 induction k using Nat.strongRecOn with
 | _ k ih =>
 intro a0_0 a0_1 a0_2 A0_3 c0_3 l0_3 A0_4 c0_4 l0_4 r w hr0_3 hc0_3 hr0_4 hc0_4 h
 cases k with
 | zero=>exact absurd h (by simp [impl_VarsOf.f])
 | succ k =>
 simp only [impl_VarsOf.f] at h;have hu27:=Try.underlying27;have HR0_3:=Aside0.mk hr0_3;have HC0_3:=Aside0.mk hc0_3;clear hr0_3 hc0_3;have HR0_4:=Aside0.mk hr0_4;have HC0_4:=Aside0.mk hc0_4;clear hr0_4 hc0_4;have HB:=Aside0.mk (Below.refl w.heap.size w);have H:(if a0_0=3 then (impl_VarsOf.j0 k (a0_2.toList != ([95]:List UInt8)) a0_0 a0_1 a0_2 l0_3 l0_4) else (impl_VarsOf.j0 k false a0_0 a0_1 a0_2 l0_3 l0_4))=some r:=h;clear h;have HC2:=Aside0.mk H;clear H
 go_enter Try.func13,Try.ntmps13
 go_upto_region 1 with (first|((with_reducible refine gate_dst (N:=1) rfl ?_);refine box_event ?hg (N:=1) ?hd (cs:=#[.int .i64 a0_0,.int .i64 a0_1,.string a0_2,.slice A0_3 l0_3.length c0_3,.slice A0_4 l0_4.length c0_4]) (t:=27) ?hr ?_;(case hd|hg=>rfl);(case hr=>first|(go_simp;done)|(go_simp;rfl));intro gb540 hg w3 hbox hb;have n_:=ai (bq HB hb)<|aj (hbox)<|ai (bz hg HB)<|bz hg HB;clear HB;obtain ⟨HB,BK540,GW540,GE540⟩:=n_;clear hb hbox hg))
 (try simp only [Act.put,List.setIfInBounds_toArray,List.set_cons_zero,List.set_cons_succ])
 go_cut [13] (fun v13 wc=>∃ (kq:Nat) (x13_1:Bool),v13=.bool x13_1∧Aside0 (impl_VarsOf.j0 kq x13_1 a0_0 a0_1 a0_2 l0_3 l0_4=some r)∧Aside0 (kq≤k)∧Aside0 (wc.heap[gb540]?=some (.cells #[.int .i64 a0_0,.int .i64 a0_1,.string a0_2,(.slice A0_3 l0_3.length c0_3),(.slice A0_4 l0_4.length c0_4)] 27 (0,0)))∧Aside0 (Below w.heap.size w wc))
 case first =>
  have H:=HC2.out;clear HC2
  by_cases c4:a0_0=3
  ·rw [if_pos c4] at H
   have c4b0:(a0_0 == 3)=true:=beq_iff_eq.mpr c4;have c4b1:(a0_0 != 3)=false:=bne_eq_false_iff_eq.mpr c4;clear c4
   (first|rw [c4b0]|(simp only [i64_w,i32_w];rw [c4b0])|(simp only [c4b2,Bool.not_true,Bool.not_false])|skip)
   have H':=Aside0.mk H;clear H;obtain ⟨h5_0,h5_1,h5_2,h5_3,h5_4⟩:=kb5 BK540.out
   go_wp2
   go_meet
   case rel=>exact ⟨_,((a0_2.toList != ([95]:List UInt8))),(cl2),H',⟨by first|omega|exact Nat.le_refl _⟩,⟨bk BK540.out⟩,⟨bl HB.out⟩⟩
  ·rw [if_neg c4] at H
   have c4b0:(a0_0 == 3)=false:=beq_eq_false_iff_ne.mpr c4;have c4b1:(a0_0 != 3)=true:=bne_iff_ne.mpr c4
   (first|rw [c4b0]|(simp only [i64_w,i32_w];rw [c4b0])|(simp only [c4b2,Bool.not_true,Bool.not_false])|skip)
   have H':=Aside0.mk H;clear H;obtain ⟨h6_0,h6_1,h6_2,h6_3,h6_4⟩:=kb5 BK540.out
   go_wp2
   go_meet
   case rel=>exact ⟨_,(false),(cl2),H',⟨by first|omega|exact Nat.le_refl _⟩,⟨bk BK540.out⟩,⟨bl HB.out⟩⟩
 case rest =>
  clear HC2;(try clear BK540);(try clear HB);obtain ⟨kq,x13_1,rfl,HA,HJ1,BK540,HB⟩:=hcut
  cases kq with
  | zero=>exact absurd HA.out (by simp [impl_VarsOf.j0])
  | succ kj1 =>
   have H:=HA.out;clear HA;simp only [impl_VarsOf.j0] at H
   by_cases c7:x13_1=true
   ·subst c7
    replace H:(some (([a0_2]:List ByteArray)))=some r:=pt H;obtain ⟨y541,hy541⟩:∃ y_:List ByteArray,y_=(([a0_2]:List ByteArray)):=⟨_,rfl⟩;replace H:(some y541)=some r:=hw hy541 H
    have Ny541:=Aside0.mk hy541;clear hy541;obtain rfl:=Option.some.inj H;obtain ⟨h8_0,h8_1,h8_2,h8_3,h8_4⟩:=kb5 BK540.out
    go_wp2_with (first|((with_reducible refine gate_dst (N:=16) rfl ?_);refine Kd.R_lit Kd.string _ 9 ?hg (N:=16) ?hd (xs:=([a0_2]:List ByteArray)) (inner:=[.string a0_2]) (ok:=fun _=>True) (okp:=fun _=>True) ?hr ?hp (fun _ hk=>hk) trivial (Below.refl _ _) (Nat.le_refl _) (by simp) ?_;(case hd|hg=>rfl);(case hr=>first|(go_simp;done)|(go_simp;rfl));(case hp=>exact (Reps.one (show Kd.M Kd.string _ _ _ a0_2 [.string a0_2] from rfl) (Reps.none _ _)));intro v542 w9 ho10 hb hg_ hnew_;clear hg_ hnew_;(first|rw [← Ny541.out] at ho10|(simp only [Int.reduceToNat] at ho10;rw [← Ny541.out] at ho10));have n_:=aj (Kd.R_lower ho10 (below_size (bl HB.out)))<|ai (bw BK540 hb)<|bq HB hb;clear BK540 HB;obtain ⟨HO543,BK540,HB⟩:=n_;clear hb ho10))
    go_ret
    exact ⟨_,cl,rk HO543.out,bl HB.out⟩
   ·replace c7:=Bool.eq_false_iff.mpr c7
    subst c7;replace H:(if a0_0=3 then (some ([]:List ByteArray)) else (impl_VarsOf.l0 kj1 ([]:List ByteArray) l0_3 (l0_3.length:Int) 0))=some r:=nt H
    by_cases c11:a0_0=3
    ·rw [if_pos c11] at H
     have c11b0:(a0_0 == 3)=true:=beq_iff_eq.mpr c11;have c11b1:(a0_0 != 3)=false:=bne_eq_false_iff_eq.mpr c11;clear c11;obtain rfl:=Option.some.inj H;obtain ⟨h12_0,h12_1,h12_2,h12_3,h12_4⟩:=kb5 BK540.out
     go_wp2
     go_ret
     exact ⟨_,cl,by first|exact Kd.R_nil _ _ _ _ _|exact Kd.N_nil _ _ _ _ _|exact Kd.V_nil _ _ _ _ _|exact Kd.Q_nil _ _ _ _ _|exact Kd.S_nil _ _ _ _ _,bl HB.out⟩
    ·rw [if_neg c11] at H
     have c11b0:(a0_0 == 3)=false:=beq_eq_false_iff_ne.mpr c11;have c11b1:(a0_0 != 3)=true:=bne_iff_ne.mpr c11;have H':=Aside0.mk H;clear H;obtain ⟨h13_0,h13_1,h13_2,h13_3,h13_4⟩:=kb5 BK540.out
     go_wp2
     go_loopg [3,23] kj1 (fun kq v3 v23 w'=>∃ (x3_2:List ByteArray) (x23_2:Int),v23=.int .i64 x23_2∧Aside0 (impl_VarsOf.l0 kq x3_2 l0_3 (l0_3.length:Int) x23_2=some r)∧Aside0 (kq≤kj1)∧Aside0 (Kd.R Kd.string 9 w' w.heap.size (fun _=>True) v3 x3_2)∧Aside0 (w'.heap[gb540]?=some (.cells #[.int .i64 a0_0,.int .i64 a0_1,.string a0_2,(.slice A0_3 l0_3.length c0_3),(.slice A0_4 l0_4.length c0_4)] 27 (0,0)))∧Aside0 (Below w.heap.size w w'))
     case atStart=>exact ⟨(([]:List ByteArray)),(0),(cl2),H',⟨Nat.le_refl _⟩,⟨by first|exact Kd.R_nil _ _ _ _ _|exact Kd.N_nil _ _ _ _ _|exact Kd.V_nil _ _ _ _ _|exact Kd.Q_nil _ _ _ _ _|exact Kd.S_nil _ _ _ _ _⟩,⟨bk BK540.out⟩,⟨bl HB.out⟩⟩
     case round =>
      clear H';(try clear c7);(try clear c11);(try clear c11b0);(try clear c11b1);(try clear h13_0 h13_1 h13_2 h13_3 h13_4);(try clear p2);(try clear BK540);(try clear HB);obtain ⟨x3_2,x23_2,rfl,HA,HK2,HO_3,BK540,HB⟩:=hrel
      cases gk with
      | zero=>exact absurd HA.out (by simp [impl_VarsOf.l0])
      | succ k2 =>
       have H:=HA.out;clear HA;simp only [impl_VarsOf.l0] at H
       by_cases c14:x23_2 < (l0_3.length:Int)
       ·rw [if_pos c14] at H
        have c14b0:decide (x23_2 < (l0_3.length:Int))=true:=decide_eq_true c14;clear c14
        by_cases c15:0≤x23_2
        ·rw [if_pos c15] at H
         have c15b0:decide (0≤x23_2)=true:=decide_eq_true c15;clear c15
         by_cases c16:x23_2 < (l0_3.length:Int)
         ·rw [if_pos c16] at H
          have c16b0:decide (x23_2 < (l0_3.length:Int))=true:=decide_eq_true c16;clear c16;replace H:=bs H;obtain ⟨t546,A170,H⟩:=H;replace H:(if x3_2.length + t546.length < 8796093022208 then (impl_VarsOf.l0 k2 (x3_2 ++ t546) l0_3 (l0_3.length:Int) (wrap64 (x23_2 + 1))) else (none))=some r:=H;have A17:=Aside0.mk A170;clear A170
          by_cases c18:x3_2.length + t546.length < 8796093022208
          ·rw [if_pos c18] at H
           have LMc18:=Aside0.mk c18;clear c18;obtain ⟨y549,hy549⟩:∃ y_:List ByteArray,y_=(x3_2 ++ t546):=⟨_,rfl⟩;replace H:(impl_VarsOf.l0 k2 y549 l0_3 (l0_3.length:Int) (wrap64 (x23_2 + 1)))=some r:=hw hy549 H
           have Ny549:=Aside0.mk hy549;clear hy549;have H':=Aside0.mk H;clear H;have p544:0≤(x23_2:Int):=od;have q544:x23_2 < (l0_3.length:Int):=od;obtain ⟨ad544,A544_3,c544_3,A544_4,c544_4,e544,hx544_0,hx544_1,hx544_2,hx544_3,hx544_4,hl544_3,hi544_3,hl544_4,hi544_4⟩:=at_T27 HR0_3.out x23_2 p544 q544;cases e544;replace hx544_0:=cb HB hx544_0;replace hx544_1:=cb HB hx544_1;replace hx544_2:=cb HB hx544_2;replace hx544_3:=cb HB hx544_3;replace hx544_4:=cb HB hx544_4;have HR544_3:=Aside0.mk hi544_3;have HC544_3:=Aside0.mk hl544_3;clear hi544_3 hl544_3;have HR544_4:=Aside0.mk hi544_4;have HC544_4:=Aside0.mk hl544_4;clear hi544_4 hl544_4;replace p544:=eq_true p544;replace q544:=eq_true q544
           go_wp2_with (first|((with_reducible refine gate_dst (N:=5) rfl ?_);refine box_event ?hg (N:=5) ?hd (cs:=#[.int .i64 0,.int .i64 0,.string (⟨#[]⟩:ByteArray),.slice none 0 0,.slice none 0 0]) (t:=27) ?hr ?_;(case hd|hg=>rfl);(case hr=>first|(go_simp;done)|(go_simp;rfl));intro gb545 hg w19 hbox hb;have n_:=ai (rwm HO_3 hb)<|ai (bw BK540 hb)<|ai (bq HB hb)<|aj (hbox)<|ai (bz hg HB)<|ai (bz hg HB)<|ai (nl hg BK540)<|ng hg BK540;clear HO_3 BK540 HB;obtain ⟨HO_3,BK540,HB,BK545,GW545,GE545,NB540_545,NB545_540⟩:=n_;clear hb hbox hg;have:=NB545_540.out;have:=NB540_545.out;obtain ⟨h21_0,h21_1,h21_2,h21_3,h21_4⟩:=kb5 BK545.out;obtain ⟨z21_0,z21_1,z21_2,z21_3,z21_4⟩:=kz5 BK545.out)|((with_reducible refine gate_callee (f:=13) rfl ?_);refine goesL_ (some 29) rfl rfl Try.func13 (by kernel_rfl) rfl #[.agg #[.int .i64 ((rd_T27 l0_3 x23_2).f0),.int .i64 ((rd_T27 l0_3 x23_2).f1),.string ((rd_T27 l0_3 x23_2).f2),.slice A544_3 ((rd_T27 l0_3 x23_2).f3).length c544_3,.slice A544_4 ((rd_T27 l0_3 x23_2).f4).length c544_4]] rfl gs ?_;(with_reducible refine (ih k2 (by have:=HJ1.out;have:=HK2.out;omega) ((rd_T27 l0_3 x23_2).f0) ((rd_T27 l0_3 x23_2).f1) ((rd_T27 l0_3 x23_2).f2) _ _ ((rd_T27 l0_3 x23_2).f3) _ _ ((rd_T27 l0_3 x23_2).f4) t546 _ ?side1 ?side2 ?side3 ?side4 A17.out).mono ?_);(case side1=>exact Kd.C_below HR544_3.out (bl HB.out));(case side2=>exact HC544_3.out);(case side3=>exact Kd.C_below HR544_4.out (bl HB.out));(case side4=>exact HC544_4.out);rintro e w22 ⟨v547,rfl,ho0,hb⟩;refine ⟨_,rfl,?_⟩;have n_:=aj (Kd.R_elder' ((Kd.R_mono (rfm (Kd.R_types HO_3.out BK545.out (by decide))) (fun _ h_=>h_.1))) (Kd.R_base ho0) hb)<|aj (Kd.R_lower (Kd.R_new' ho0 (Kd.R_lt ((Kd.R_mono (rfm (Kd.R_types HO_3.out BK545.out (by decide))) (fun _ h_=>h_.1))))) (below_size (bl HB.out)))<|ai (bwm BK540 hb)<|aj (blk_below (g:=gb545) (o:=.cells #[.int .i64 ((rd_T27 l0_3 x23_2).f0),.int .i64 ((rd_T27 l0_3 x23_2).f1),.string ((rd_T27 l0_3 x23_2).f2),.slice A544_3 ((rd_T27 l0_3 x23_2).f3).length c544_3,.slice A544_4 ((rd_T27 l0_3 x23_2).f4).length c544_4] 27 (0,0)) (bmp BK545.out) hb)<|bq HB hb;clear HO_3 BK540 BK545 HB;obtain ⟨HO_3,HO548,BK540,BK545,HB⟩:=n_;(try clear hb);(try clear ho0);obtain ⟨Ao24,co24,eo24⟩:=Kd.R_slice HO548.out;subst eo24)|((with_reducible refine gate_builtin (b:=.append) (xs:=#[.tmp 27,.tmp 29]) rfl ?_);at_builtin;refine Kd.R_append_rows Kd.string (w0:=w) w.heap.size rfl (.tmp 27) (.tmp 29) 29 9 (.string ⟨#[]⟩) 16 rfl Try.underlying29 info9 rfl (by decide) (by omega) u3 x3_2 t546 _ _ _ (fun k_=>some k_≠(.slice Ao24 t546.length co24:Value).ownBlock) (fun _=>False) rfl rfl ?aO ?aR (fun _ _ h=>h) (fun _ h=>h.elim) ?aF ?aB ?aS ?aL ?_;(case aR=>exact ck (Kd.R_reads' HO548.out).2.2);(case aB=>exact (bl HB.out));(case aF=>exact (fun k_ hk=>Kd.fresh' (Kd.R_lt (rk HO548.out)) k_ hk));(case aO=>exact (Kd.R_mono (rfm HO_3.out) (fun _ hk=>hk.2)));(case aS=>exact (below_size (bl HB.out)));(case aL=>have:=LMc18.out;omega);intro v550 w23 ho hb hg hat;rw [← Ny549.out] at ho;have n_:=aj (blk_grown (g:=gb540) (o:=.cells #[.int .i64 a0_0,.int .i64 a0_1,.string a0_2,.slice (some ad544) l0_3.length c0_3,.slice A0_4 l0_4.length c0_4] 27 (0,0)) (bk BK540.out) hg (Kd.R_ne HO_3.out BK540.out (by decide)))<|aj (blk_grown (g:=gb545) (o:=.cells #[.int .i64 ((rd_T27 l0_3 x23_2).f0),.int .i64 ((rd_T27 l0_3 x23_2).f1),.string ((rd_T27 l0_3 x23_2).f2),.slice A544_3 ((rd_T27 l0_3 x23_2).f3).length c544_3,.slice A544_4 ((rd_T27 l0_3 x23_2).f4).length c544_4] 27 (0,0)) (bk BK545.out) hg (Kd.R_ne HO_3.out BK545.out (by decide)))<|aj (Kd.R_after (ok:=(fun _=>True)) (rk HO548.out) hg hat)<|aj (hb)<|Aside0.mk (ho);clear BK540 BK545 HO548 HB HO_3;obtain ⟨BK540,BK545,HO548,HB,HO551⟩:=n_;clear ho hb hg hat))
           go_roundg k2
           case measure=>have:=HJ1.out;have:=HK2.out;omega
           case rel=>exact ⟨(y549),(wrap64 (x23_2 + 1)),(cl2),H',⟨by have:=HJ1.out;have:=HK2.out;omega⟩,⟨Kd.R_mono (rfm HO551.out) (fun _ hk=>trivial)⟩,⟨bk BK540.out⟩,⟨bl HB.out⟩⟩
          ·rw [if_neg c18] at H
           exact absurd H (by simp)
         ·rw [if_neg c16] at H
          exact absurd H (by simp)
        ·rw [if_neg c15] at H
         exact absurd H (by simp)
       ·rw [if_neg c14] at H
        have c14b0:decide (x23_2 < (l0_3.length:Int))=false:=decide_eq_false c14;clear c14;obtain rfl:=Option.some.inj H
        go_wp2
        go_ret
        exact ⟨_,cl,rk HO_3.out,bl HB.out⟩
end Go.Proofs.Ytgcmmdfgfiflcaa.QFnFree
