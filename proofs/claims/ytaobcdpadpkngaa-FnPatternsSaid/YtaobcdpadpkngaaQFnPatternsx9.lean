-- Written by a program of this workplace (print2.py) for this claim, over the print's words.
import Derived.Test.YtaobcdpadpkngaaQFnPatternsx0
import Derived.Test.YtaobcdpadpkngaaQFnPatternsx5
namespace Go.Proofs.Ytaobcdpadpkngaa.QFnPatterns
open Go.RowKit Go.Proofs.YtaobcdpadpkngaaW.PrintWords Go.Proofs.YtaobcdpadpkngaaW.PrintLast Go.Proofs.YtaobcdpadpkngaaW.PrintMore
attribute [local go_sem] max2_int min2_int max_two min_two max_three min_three max_four min_four   -- for this text's walks alone
set_option linter.unusedVariables false
set_option linter.unusedSimpArgs false

/-! ### spec_VarsOf: function 9 -/
mutual
def spec_VarsOf.l0:Nat → List ByteArray → Int → Int → Int → ByteArray → List (S27) → List (S52) → Option (List ByteArray)
 | 0,_,_,_,_,_,_,_=>none
 | k + 1,x3,x4,x553000,x553001,x553002,x553003,x553004=>if x4 < (x553003.length:Int) then (if 0≤x4 then ((spec_VarsOf.f k ((rd_T27 x553003 x4).f0) ((rd_T27 x553003 x4).f1) ((rd_T27 x553003 x4).f2) ((rd_T27 x553003 x4).f3) ((rd_T27 x553003 x4).f4)).bind fun t560=>(if x3.length + t560.length < 8796093022208 then (spec_VarsOf.l0 k (x3 ++ t560) (wrap64 (x4 + 1)) x553000 x553001 x553002 x553003 x553004) else (none))) else (none)) else (some x3)
def spec_VarsOf.f:Nat → Int → Int → ByteArray → List (S27) → List (S52) → Option (List ByteArray)
 | 0,_,_,_,_,_=>none
 | k + 1,a0_0,a0_1,a0_2,l0_3,l0_4=>(some (([]:List ByteArray):List ByteArray)).bind fun y553=>(if a0_0 = 3 then (if a0_2.toList = ([95]:List UInt8) then (some y553) else (if y553.length < 8796093022208 then (some (y553 ++ [a0_2])) else (none))) else (spec_VarsOf.l0 k y553 0 a0_0 a0_1 a0_2 l0_3 l0_4))
end
theorem spec_VarsOf.mono_l:∀ k,(∀ y0 y1 y2 y3 y4,LeO (spec_VarsOf.f k y0 y1 y2 y3 y4) (spec_VarsOf.f (k + 1) y0 y1 y2 y3 y4))∧(∀ y0 y1 y2 y3 y4 y5 y6,LeO (spec_VarsOf.l0 k y0 y1 y2 y3 y4 y5 y6) (spec_VarsOf.l0 (k + 1) y0 y1 y2 y3 y4 y5 y6))
 | 0=>⟨fun _ _ _ _ _ r h=>by simp [spec_VarsOf.f] at h,fun _ _ _ _ _ _ _ r h=>by simp [spec_VarsOf.l0] at h⟩
 | k + 1=>by
  obtain ⟨ih0,ih1⟩:=spec_VarsOf.mono_l k
  refine ⟨?_,?_⟩
  ·intro y0 y1 y2 y3 y4
   unfold spec_VarsOf.f
   with_reducible repeat' first|apply ih0|apply ih1|apply LeO.refl|apply LeO.none|apply LeO.ite|refine LeO.bind ?_ (fun _=>?_)
  ·intro y0 y1 y2 y3 y4 y5 y6
   unfold spec_VarsOf.l0
   with_reducible repeat' first|apply ih0|apply ih1|apply LeO.refl|apply LeO.none|apply LeO.ite|refine LeO.bind ?_ (fun _=>?_)
theorem spec_VarsOf.mono:∀ a0 a1 a2 a3 a4 k,LeO (spec_VarsOf.f k a0 a1 a2 a3 a4) (spec_VarsOf.f (k + 1) a0 a1 a2 a3 a4):=by
 intro a0 a1 a2 a3 a4 k;obtain ⟨ih0,ih1⟩:=spec_VarsOf.mono_l k
 exact ih0 a0 a1 a2 a3 a4
set_option maxHeartbeats 8000000 in
set_option maxRecDepth 100000 in
theorem spec_VarsOf.calls (k:Nat):∀ (a0_0:Int) (a0_1:Int) (a0_2:ByteArray) (A0_3:Option Addr) (c0_3:Nat) (l0_3:List (S27)) (A0_4:Option Addr) (c0_4:Nat) (l0_4:List (S52)) (r:List ByteArray) (w:World) (hr0_3:Kd.C k27 w A0_3 l0_3.length l0_3) (hc0_3:l0_3.length≤c0_3) (hr0_4:Kd.C k52 w A0_4 l0_4.length l0_4) (hc0_4:l0_4.length≤c0_4) (h:spec_VarsOf.f k a0_0 a0_1 a0_2 l0_3 l0_4 = some r),
  Calls Try.prog 9 #[.agg #[.int .i64 a0_0,.int .i64 a0_1,.string a0_2,.slice A0_3 l0_3.length c0_3,.slice A0_4 l0_4.length c0_4]] w fun e w'=>∃ v0_:Value,e = .returned (v0_)∧Kd.R Kd.string 9 w' w.heap.size (fun _=>True) v0_ r∧Below w.heap.size w w':=by
 induction k using Nat.strongRecOn with
 | _ k ih =>
 intro a0_0 a0_1 a0_2 A0_3 c0_3 l0_3 A0_4 c0_4 l0_4 r w hr0_3 hc0_3 hr0_4 hc0_4 h
 cases k with
 | zero=>exact absurd h (by simp [spec_VarsOf.f])
 | succ k =>
 simp only [spec_VarsOf.f] at h;have hu27:=Try.underlying27;have HR0_3:=Aside0.mk hr0_3;have HC0_3:=Aside0.mk hc0_3;clear hr0_3 hc0_3;have HR0_4:=Aside0.mk hr0_4;have HC0_4:=Aside0.mk hc0_4;clear hr0_4 hc0_4;have HB:=Aside0.mk (Below.refl w.heap.size w);have H:((some (([]:List ByteArray):List ByteArray)).bind fun y553=>(if a0_0 = 3 then (if a0_2.toList = ([95]:List UInt8) then (some y553) else (if y553.length < 8796093022208 then (some (y553 ++ [a0_2])) else (none))) else (spec_VarsOf.l0 k y553 0 a0_0 a0_1 a0_2 l0_3 l0_4))) = some r:=h;clear h;obtain ⟨y553,hy553⟩:∃ y_:List ByteArray,y_ = (([]:List ByteArray)):=⟨_,rfl⟩;replace H:(if a0_0 = 3 then (if a0_2.toList = ([95]:List UInt8) then (some y553) else (if y553.length < 8796093022208 then (some (y553 ++ [a0_2])) else (none))) else (spec_VarsOf.l0 k y553 0 a0_0 a0_1 a0_2 l0_3 l0_4)) = some r:=hw hy553 H
 have Ny553:=Aside0.mk hy553;clear hy553
 by_cases c2:a0_0 = 3
 ·rw [if_pos c2] at H
  have c2b0:(a0_0 == 3) = true:=beq_iff_eq.mpr c2;have c2b1:(a0_0 != 3) = false:=bne_eq_false_iff_eq.mpr c2;clear c2
  by_cases c3:a0_2.toList = ([95]:List UInt8)
  ·rw [if_pos c3] at H
   have c3b0:(a0_2.toList == ([95]:List UInt8)) = true:=beq_iff_eq.mpr c3;have c3b1:(a0_2.toList != ([95]:List UInt8)) = false:=bne_eq_false_iff_eq.mpr c3;clear c3;obtain rfl:=Option.some.inj H
   go_enter Try.func9,Try.ntmps9
   go_wp2_with (first|((with_reducible refine gate_dst (N:=1) rfl ?_);refine box_event ?hg (N:=1) ?hd (cs:=#[.int .i64 a0_0,.int .i64 a0_1,.string a0_2,.slice A0_3 l0_3.length c0_3,.slice A0_4 l0_4.length c0_4]) (t:=27) ?hr ?_;(case hd=>rfl);(case hg=>rfl);(case hr=>first|(go_simp;done)|(go_simp;rfl));intro gb552 hg w4 hbox hb;have n_:=ai (bq HB hb) <| aj (hbox) <| ai (bz hg HB) <| bz hg HB;clear HB;obtain ⟨HB,BK552,GW552,GE552⟩:=n_;clear hb hbox hg)|((with_reducible refine gate_dst (N:=5) rfl ?_);refine Kd.R_lit Kd.string _ 9 ?hg (N:=5) ?hd (xs:=([]:List ByteArray)) (inner:=[]) (ok:=fun _=>True) (okp:=fun _=>True) ?hr ?hp (fun _ hk=>hk) trivial (Below.refl _ _) (Nat.le_refl _) (by simp) ?_;(case hd=>rfl);(case hg=>rfl);(case hr=>first|(go_simp;done)|(go_simp;rfl));(case hp=>exact (Reps.none _ _));intro v554 w5 ho6 hb hg_ hnew_;clear hg_ hnew_;(first|rw [← Ny553.out] at ho6|(simp only [Int.reduceToNat] at ho6;rw [← Ny553.out] at ho6));have n_:=aj (Kd.R_lower ho6 (below_size (bl HB.out))) <| ai (bw BK552 hb) <| bq HB hb;clear BK552 HB;obtain ⟨HO555,BK552,HB⟩:=n_;clear hb ho6;obtain ⟨h7_0,h7_1,h7_2,h7_3,h7_4⟩:=kb5 BK552.out;obtain ⟨z7_0,z7_1,z7_2,z7_3,z7_4⟩:=kz5 BK552.out))
   go_ret
   exact ⟨_,cl,rk HO555.out,bl HB.out⟩
  ·rw [if_neg c3] at H
   have c3b0:(a0_2.toList == ([95]:List UInt8)) = false:=beq_eq_false_iff_ne.mpr c3;have c3b1:(a0_2.toList != ([95]:List UInt8)) = true:=bne_iff_ne.mpr c3
   by_cases c8:y553.length < 8796093022208
   ·rw [if_pos c8] at H
    have LMc8:=Aside0.mk c8;clear c8;obtain ⟨y556,hy556⟩:∃ y_:List ByteArray,y_ = (y553 ++ [a0_2]):=⟨_,rfl⟩;replace H:(some y556) = some r:=hw hy556 H
    have Ny556:=Aside0.mk hy556;clear hy556;obtain rfl:=Option.some.inj H
    go_enter Try.func9,Try.ntmps9
    go_wp2_with (first|((with_reducible refine gate_dst (N:=1) rfl ?_);refine box_event ?hg (N:=1) ?hd (cs:=#[.int .i64 a0_0,.int .i64 a0_1,.string a0_2,.slice A0_3 l0_3.length c0_3,.slice A0_4 l0_4.length c0_4]) (t:=27) ?hr ?_;(case hd=>rfl);(case hg=>rfl);(case hr=>first|(go_simp;done)|(go_simp;rfl));intro gb552 hg w9 hbox hb;have n_:=ai (bq HB hb) <| aj (hbox) <| ai (bz hg HB) <| bz hg HB;clear HB;obtain ⟨HB,BK552,GW552,GE552⟩:=n_;clear hb hbox hg)|((with_reducible refine gate_dst (N:=5) rfl ?_);refine Kd.R_lit Kd.string _ 9 ?hg (N:=5) ?hd (xs:=([]:List ByteArray)) (inner:=[]) (ok:=fun _=>True) (okp:=fun _=>True) ?hr ?hp (fun _ hk=>hk) trivial (Below.refl _ _) (Nat.le_refl _) (by simp) ?_;(case hd=>rfl);(case hg=>rfl);(case hr=>first|(go_simp;done)|(go_simp;rfl));(case hp=>exact (Reps.none _ _));intro v554 w10 ho11 hb hg_ hnew_;clear hg_ hnew_;(first|rw [← Ny553.out] at ho11|(simp only [Int.reduceToNat] at ho11;rw [← Ny553.out] at ho11));have n_:=aj (Kd.R_lower ho11 (below_size (bl HB.out))) <| ai (bw BK552 hb) <| bq HB hb;clear BK552 HB;obtain ⟨HO555,BK552,HB⟩:=n_;clear hb ho11;obtain ⟨h12_0,h12_1,h12_2,h12_3,h12_4⟩:=kb5 BK552.out;obtain ⟨z12_0,z12_1,z12_2,z12_3,z12_4⟩:=kz5 BK552.out)|((with_reducible refine gate_builtin (b:=.append) (xs:=#[.tmp 12,.tmp 15]) rfl ?_);at_builtin;refine Kd.R_append Kd.string (w0:=w) w.heap.size rfl (.tmp 12) (.tmp 15) 30 9 (.string ⟨#[]⟩) 16 rfl Try.underlying30 info9 rfl (by decide) (by omega) v554 y553 a0_2 [.string a0_2] (fun _=>True) (fun _=>False) rfl rfl ?aP (fun _ hk=>hk.elim) ?aF ?aO ?aB ?aS ?aL ?_;(case aP=>exact rfl);(case aB=>exact (bl HB.out));(case aF=>exact (fun _ _=>trivial));(case aO=>exact (rk HO555.out));(case aS=>exact (below_size (bl HB.out)));(case aL=>have:=LMc8.out;omega);intro v557 w13 ho hb hg hat;rw [← Ny556.out] at ho;have n_:=aj (blk_grown (g:=gb552) (o:=.cells #[.int .i64 a0_0,.int .i64 a0_1,.string a0_2,.slice A0_3 l0_3.length c0_3,.slice A0_4 l0_4.length c0_4] 27 (0,0)) (bk BK552.out) hg (Kd.R_ne HO555.out BK552.out (by decide))) <| aj (hb) <| Aside0.mk (ho);clear BK552 HB HO555;obtain ⟨BK552,HB,HO558⟩:=n_;clear ho hb hg hat))
    go_ret
    exact ⟨_,cl,rk HO558.out,bl HB.out⟩
   ·rw [if_neg c8] at H
    exact absurd H (by simp)
 ·rw [if_neg c2] at H
  have c2b0:(a0_0 == 3) = false:=beq_eq_false_iff_ne.mpr c2;have c2b1:(a0_0 != 3) = true:=bne_iff_ne.mpr c2;have H':=Aside0.mk H;clear H
  go_enter Try.func9,Try.ntmps9
  go_wp2_with (first|((with_reducible refine gate_dst (N:=1) rfl ?_);refine box_event ?hg (N:=1) ?hd (cs:=#[.int .i64 a0_0,.int .i64 a0_1,.string a0_2,.slice A0_3 l0_3.length c0_3,.slice A0_4 l0_4.length c0_4]) (t:=27) ?hr ?_;(case hd=>rfl);(case hg=>rfl);(case hr=>first|(go_simp;done)|(go_simp;rfl));intro gb552 hg w14 hbox hb;have n_:=ai (bq HB hb) <| aj (hbox) <| ai (bz hg HB) <| bz hg HB;clear HB;obtain ⟨HB,BK552,GW552,GE552⟩:=n_;clear hb hbox hg)|((with_reducible refine gate_dst (N:=5) rfl ?_);refine Kd.R_lit Kd.string _ 9 ?hg (N:=5) ?hd (xs:=([]:List ByteArray)) (inner:=[]) (ok:=fun _=>True) (okp:=fun _=>True) ?hr ?hp (fun _ hk=>hk) trivial (Below.refl _ _) (Nat.le_refl _) (by simp) ?_;(case hd=>rfl);(case hg=>rfl);(case hr=>first|(go_simp;done)|(go_simp;rfl));(case hp=>exact (Reps.none _ _));intro v554 w15 ho16 hb hg_ hnew_;clear hg_ hnew_;(first|rw [← Ny553.out] at ho16|(simp only [Int.reduceToNat] at ho16;rw [← Ny553.out] at ho16));have n_:=aj (Kd.R_lower ho16 (below_size (bl HB.out))) <| ai (bw BK552 hb) <| bq HB hb;clear BK552 HB;obtain ⟨HO555,BK552,HB⟩:=n_;clear hb ho16;obtain ⟨h17_0,h17_1,h17_2,h17_3,h17_4⟩:=kb5 BK552.out;obtain ⟨z17_0,z17_1,z17_2,z17_3,z17_4⟩:=kz5 BK552.out))
  go_loopg [3,4] k (fun kq v3 v4 w'=>∃ (x3_1:List ByteArray) (x4_1:Int),v4 = .int .i64 x4_1∧Aside0 (spec_VarsOf.l0 kq x3_1 x4_1 a0_0 a0_1 a0_2 l0_3 l0_4 = some r)∧Aside0 (kq≤k)∧Aside0 (Kd.R Kd.string 9 w' w.heap.size (fun _=>True) v3 x3_1)∧Aside0 (w'.heap[gb552]? = some (.cells #[.int .i64 a0_0,.int .i64 a0_1,.string a0_2,(.slice A0_3 l0_3.length c0_3),(.slice A0_4 l0_4.length c0_4)] 27 (0,0)))∧Aside0 (Below w.heap.size w w'))
  case atStart=>exact ⟨(y553),(0),(cl2),H',⟨Nat.le_refl _⟩,⟨rk HO555.out⟩,⟨bk BK552.out⟩,⟨bl HB.out⟩⟩
  case round =>
   clear H';(try clear c2);(try clear c2b0);(try clear c2b1);(try clear h17_0 h17_1 h17_2 h17_3 h17_4);(try clear z17_0 z17_1 z17_2 z17_3 z17_4);(try clear BK552);(try clear HB);obtain ⟨x3_1,x4_1,rfl,HA,HK1,HO_3,BK552,HB⟩:=hrel
   cases gk with
   | zero=>exact absurd HA.out (by simp [spec_VarsOf.l0])
   | succ k1 =>
    have H:=HA.out;clear HA;simp only [spec_VarsOf.l0] at H
    by_cases c18:x4_1 < (l0_3.length:Int)
    ·rw [if_pos c18] at H
     have c18b0:decide (x4_1 < (l0_3.length:Int)) = true:=decide_eq_true c18;clear c18
     by_cases c19:0≤x4_1
     ·rw [if_pos c19] at H
      have c19b0:decide (0≤x4_1) = true:=decide_eq_true c19;clear c19;replace H:=Option.bind_eq_some_iff.mp H;obtain ⟨t560,A200,H⟩:=H;replace H:(if x3_1.length + t560.length < 8796093022208 then (spec_VarsOf.l0 k1 (x3_1 ++ t560) (wrap64 (x4_1 + 1)) a0_0 a0_1 a0_2 l0_3 l0_4) else (none)) = some r:=H;have A20:=Aside0.mk A200;clear A200
      by_cases c21:x3_1.length + t560.length < 8796093022208
      ·rw [if_pos c21] at H
       have LMc21:=Aside0.mk c21;clear c21;obtain ⟨y563,hy563⟩:∃ y_:List ByteArray,y_ = (x3_1 ++ t560):=⟨_,rfl⟩;replace H:(spec_VarsOf.l0 k1 y563 (wrap64 (x4_1 + 1)) a0_0 a0_1 a0_2 l0_3 l0_4) = some r:=hw hy563 H
       have Ny563:=Aside0.mk hy563;clear hy563;have H':=Aside0.mk H;clear H;obtain ⟨h22_0,h22_1,h22_2,h22_3,h22_4⟩:=kb5 BK552.out;have p559:0≤(x4_1:Int):=od;have q559:x4_1 < (l0_3.length:Int):=od;obtain ⟨ad559,A559_3,c559_3,A559_4,c559_4,e559,hx559_0,hx559_1,hx559_2,hx559_3,hx559_4,hl559_3,hi559_3,hl559_4,hi559_4⟩:=at_T27 HR0_3.out x4_1 p559 q559;cases e559;replace hx559_0:=cb HB hx559_0;replace hx559_1:=cb HB hx559_1;replace hx559_2:=cb HB hx559_2;replace hx559_3:=cb HB hx559_3;replace hx559_4:=cb HB hx559_4;have HR559_3:=Aside0.mk hi559_3;have HC559_3:=Aside0.mk hl559_3;clear hi559_3 hl559_3;have HR559_4:=Aside0.mk hi559_4;have HC559_4:=Aside0.mk hl559_4;clear hi559_4 hl559_4;replace p559:=eq_true p559;replace q559:=eq_true q559
       go_wp2_with (first|((with_reducible refine gate_callee (f:=9) rfl ?_);refine goesL_ (some 31) rfl rfl Try.func9 (by kernel_rfl) rfl #[.agg #[.int .i64 ((rd_T27 l0_3 x4_1).f0),.int .i64 ((rd_T27 l0_3 x4_1).f1),.string ((rd_T27 l0_3 x4_1).f2),.slice A559_3 ((rd_T27 l0_3 x4_1).f3).length c559_3,.slice A559_4 ((rd_T27 l0_3 x4_1).f4).length c559_4]] rfl gs ?_;(with_reducible refine (ih k1 (by have:=HK1.out;omega) ((rd_T27 l0_3 x4_1).f0) ((rd_T27 l0_3 x4_1).f1) ((rd_T27 l0_3 x4_1).f2) _ _ ((rd_T27 l0_3 x4_1).f3) _ _ ((rd_T27 l0_3 x4_1).f4) t560 _ ?side1 ?side2 ?side3 ?side4 A20.out).mono ?_);(case side1=>exact ck (Kd.C_below HR559_3.out HB.out));(case side2=>exact HC559_3.out);(case side3=>exact ck (Kd.C_below HR559_4.out HB.out));(case side4=>exact HC559_4.out);rintro e w23 ⟨v561,rfl,ho0,hb⟩;refine ⟨_,rfl,?_⟩;have n_:=aj (Kd.R_elder' (rk HO_3.out) (Kd.R_base ho0) hb) <| aj (Kd.R_lower (Kd.R_new' ho0 (Kd.R_lt (rk HO_3.out))) (below_size (bl HB.out))) <| ai (bw BK552 hb) <| bq HB hb;clear HO_3 BK552 HB;obtain ⟨HO_3,HO562,BK552,HB⟩:=n_;(try clear hb);(try clear hk);(try clear ho0);obtain ⟨Ao25,co25,eo25⟩:=Kd.R_slice HO562.out;subst eo25)|((with_reducible refine gate_builtin (b:=.append) (xs:=#[.tmp 25,.tmp 31]) rfl ?_);at_builtin;refine Kd.R_append_rows Kd.string (w0:=w) w.heap.size rfl (.tmp 25) (.tmp 31) 30 9 (.string ⟨#[]⟩) 16 rfl Try.underlying30 info9 rfl (by decide) (by omega) u3 x3_1 t560 _ _ _ (fun k_=>some k_≠(.slice Ao25 t560.length co25:Value).ownBlock) (fun _=>False) rfl rfl ?aO ?aR (fun _ _ h=>h) (fun _ h=>h.elim) ?aF ?aB ?aS ?aL ?_;(case aR=>repeat (first|exact (Kd.R_reads' HO562.out).2.2|(with_reducible refine Kd.C_alloc ?_ _)|(with_reducible refine Kd.C_drewN ?_ _)|(with_reducible refine Kd.C_drew ?_)));(case aB=>exact (bl HB.out));(case aF=>exact (fun k_ hk=>Kd.fresh' (Kd.R_lt (rk HO562.out)) k_ hk));(case aO=>exact (by (with_reducible repeat (first|apply Kd.R_alloc|apply Kd.R_drewN|apply Kd.R_drew));exact Kd.R_mono HO_3.out (fun _ hk=>hk.2)));(case aS=>exact (below_size (bl HB.out)));(case aL=>have:=LMc21.out;omega);intro v564 w24 ho hb hg hat;rw [← Ny563.out] at ho;have n_:=aj (blk_grown (g:=gb552) (o:=.cells #[.int .i64 a0_0,.int .i64 a0_1,.string a0_2,.slice (some ad559) l0_3.length c0_3,.slice A0_4 l0_4.length c0_4] 27 (0,0)) (bk BK552.out) hg (Kd.R_ne HO_3.out BK552.out (by decide))) <| aj (Kd.R_after (ok:=(fun _=>True)) (rk HO562.out) hg hat) <| aj (hb) <| Aside0.mk (ho);clear BK552 HO562 HB HO_3;obtain ⟨BK552,HO562,HB,HO565⟩:=n_;clear ho hb hg hat))
       go_roundg k1
       case measure=>have:=HK1.out;omega
       case rel=>exact ⟨(y563),(wrap64 (x4_1 + 1)),(cl2),H',⟨by have:=HK1.out;omega⟩,⟨by (with_reducible repeat (first|apply Kd.R_alloc|apply Kd.R_drewN|apply Kd.R_drew));exact Kd.R_mono HO565.out (fun _ hk=>trivial)⟩,⟨bk BK552.out⟩,⟨bl HB.out⟩⟩
      ·rw [if_neg c21] at H
       exact absurd H (by simp)
     ·rw [if_neg c19] at H
      exact absurd H (by simp)
    ·rw [if_neg c18] at H
     have c18b0:decide (x4_1 < (l0_3.length:Int)) = false:=decide_eq_false c18;clear c18;obtain rfl:=Option.some.inj H;obtain ⟨h26_0,h26_1,h26_2,h26_3,h26_4⟩:=kb5 BK552.out
     go_wp2
     go_ret
     exact ⟨_,cl,rk HO_3.out,bl HB.out⟩

/-! ### spec_l4Once: function 15 -/
def spec_l4Once.l0:Nat → List ByteArray → Int → Option (Bool)
 | 0,_,_=>none
 | k + 1,x0,x3=>if x3 < (x0.length:Int) then (if 0≤x3 then (if x3≤(x0.length:Int) then ((spec_l4Has.f k (x0.take (x3:Int).toNat) (rdOf ByteArray.empty x0 x3)).bind fun t571=>(if t571 = true then (some false) else (spec_l4Once.l0 k x0 (wrap64 (x3 + 1))))) else (none)) else (none)) else (some true)
def spec_l4Once.f (k:Nat) (l0:List ByteArray):Option (Bool):=spec_l4Once.l0 k l0 0
theorem spec_l4Once.mono_l:∀ k,(∀ y0 y1,LeO (spec_l4Once.l0 k y0 y1) (spec_l4Once.l0 (k + 1) y0 y1))
 | 0=>fun _ _ r h=>by simp [spec_l4Once.l0] at h
 | k + 1=>by
  have ih0:=spec_l4Once.mono_l k
  ·intro y0 y1
   unfold spec_l4Once.l0
   with_reducible repeat' first|apply ih0|apply spec_l4Has.mono|apply LeO.refl|apply LeO.none|apply LeO.ite|refine LeO.bind ?_ (fun _=>?_)
theorem spec_l4Once.mono:∀ a0 k,LeO (spec_l4Once.f k a0) (spec_l4Once.f (k + 1) a0):=by
 intro a0 k;have ih0:=spec_l4Once.mono_l k
 unfold spec_l4Once.f
 with_reducible repeat' first|apply ih0|apply spec_l4Has.mono|apply LeO.refl|apply LeO.none|apply LeO.ite|refine LeO.bind ?_ (fun _=>?_)
set_option maxHeartbeats 8000000 in
set_option maxRecDepth 100000 in
theorem spec_l4Once.calls (k:Nat) (A0:Option Addr) (c0:Nat) (l0:List ByteArray) (r:Bool) (w:World) (hr0:Kd.C Kd.string w A0 l0.length l0) (hc0:l0.length≤c0) (h:spec_l4Once.f k l0 = some r) :
  Calls Try.prog 15 #[.slice A0 l0.length c0] w fun e w'=>e = .returned (.bool r)∧Drawn0 w w':=by
 have HR0:=Aside0.mk hr0;have HC0:=Aside0.mk hc0;clear hr0 hc0;have H:(spec_l4Once.l0 k l0 0) = some r:=h;clear h;have H':=Aside0.mk H;clear H
 go_enter Try.func15,Try.ntmps15
 go_wp2
 repeat (go_quiet (fail);try go_wp2)
 go_loopg [3] k (fun kq v3 w'=>∃ (x3_1:Int),v3 = .int .i64 x3_1∧Aside0 (spec_l4Once.l0 kq l0 x3_1 = some r)∧Aside0 (kq≤k)∧Drawn0 w w')
 case atStart=>exact ⟨(0),(cl2),H',⟨Nat.le_refl _⟩,d0⟩
 case round =>
  clear H';obtain ⟨x3_1,rfl,HA,HK1,⟨m1,rfl⟩⟩:=hrel
  cases gk with
  | zero=>exact absurd HA.out (by simp [spec_l4Once.l0])
  | succ k1 =>
   have H:=HA.out;clear HA;simp only [spec_l4Once.l0] at H
   by_cases c2:x3_1 < (l0.length:Int)
   ·rw [if_pos c2] at H
    have c2b0:decide (x3_1 < (l0.length:Int)) = true:=decide_eq_true c2;clear c2
    by_cases c3:0≤x3_1
    ·rw [if_pos c3] at H
     have c3b0:=eq_true c3;have c3b1:decide (0≤x3_1) = true:=decide_eq_true c3;clear c3
     by_cases c4:x3_1≤(l0.length:Int)
     ·rw [if_pos c4] at H
      have c4b0:=eq_true c4;have c4b1:decide (x3_1≤(l0.length:Int)) = true:=decide_eq_true c4;clear c4;obtain ⟨y566,hy566⟩:∃ y_:List ByteArray,y_ = (l0.take (x3_1:Int).toNat):=⟨_,rfl⟩;replace H:((spec_l4Has.f k1 y566 (rdOf ByteArray.empty l0 x3_1)).bind fun t571=>(if t571 = true then (some false) else (spec_l4Once.l0 k1 l0 (wrap64 (x3_1 + 1))))) = some r:=hw hy566 H
      have Ny566:=Aside0.mk hy566;clear hy566;replace H:=Option.bind_eq_some_iff.mp H;obtain ⟨t571,A50,H⟩:=H;replace H:(if t571 = true then (some false) else (spec_l4Once.l0 k1 l0 (wrap64 (x3_1 + 1)))) = some r:=H;have A5:=Aside0.mk A50;clear A50
      by_cases c6:t571 = true
      ·subst c6
       have H1:(some false) = some r:=by rw [if_pos rfl] at H;exact H
       clear H;have H:=H1;clear H1;obtain rfl:=Option.some.inj H;have q7:(x3_1:Int)≤((l0.length:Int):Int):=od;obtain ⟨i07,hi07,_,hsz7,_⟩:=info_parts info9;have hroom7:l0.length≤c0:=HC0.out;have hC7:Kd.C Kd.string _ A0 l0.length l0:=HR0.out;have hcut7:=cut_to (P:=Try.prog) 30 9 .i64 Try.underlying30 hi07 A0 l0.length c0 x3_1 (od) q7 hroom7;have hr7:=Kd.C_take (m:=(x3_1:Int).toNat) hC7 (by omega);have hy7:y566.length = (x3_1:Int).toNat:=(by rw [Ny566.out,List.length_take];omega);rw [← Ny566.out] at hr7;rw [← hy7] at hcut7;have HR569:=Aside0.mk hr7;have HC569:=Aside0.mk (show y566.length≤c0 from by omega);clear hr7 hC7 hroom7 hi07 hsz7;have KY7:=Aside0.mk hy7;clear hy7;replace q7:=eq_true q7;have p570:0≤(x3_1:Int):=od;have q570:x3_1 < (l0.length:Int):=od;obtain ⟨ad570,e570,hx570_0⟩:=Kd.at_string HR0.out x3_1 p570 q570;cases e570;replace p570:=eq_true p570;replace q570:=eq_true q570
       go_wp2_with (first|(go_at_call 24;(with_reducible refine (spec_l4Has.calls k1 _ _ y566 (rdOf ByteArray.empty l0 x3_1) true _ ?side1 ?side2 A5.out).mono ?_);(case side1=>exact ck HR569.out);(case side2=>exact HC569.out);rintro e w' ⟨rfl,⟨nd,rfl⟩⟩;(try first|exact ⟨rfl,_,World.drewN_drewN _ _ _⟩|exact ⟨rfl,_,Eq.trans (World.drewN_drewN _ _ _) (congrArg (World.drewN _) (Nat.add_assoc _ _ _))⟩)))
       repeat (go_quiet (first|(go_at_call 24;(with_reducible refine (spec_l4Has.calls k1 _ _ y566 (rdOf ByteArray.empty l0 x3_1) true _ ?side1 ?side2 A5.out).mono ?_);(case side1=>exact ck HR569.out);(case side2=>exact HC569.out);rintro e w' ⟨rfl,⟨nd,rfl⟩⟩;(try first|exact ⟨rfl,_,World.drewN_drewN _ _ _⟩|exact ⟨rfl,_,Eq.trans (World.drewN_drewN _ _ _) (congrArg (World.drewN _) (Nat.add_assoc _ _ _))⟩)));try go_wp2_with (first|(go_at_call 24;(with_reducible refine (spec_l4Has.calls k1 _ _ y566 (rdOf ByteArray.empty l0 x3_1) true _ ?side1 ?side2 A5.out).mono ?_);(case side1=>exact ck HR569.out);(case side2=>exact HC569.out);rintro e w' ⟨rfl,⟨nd,rfl⟩⟩;(try first|exact ⟨rfl,_,World.drewN_drewN _ _ _⟩|exact ⟨rfl,_,Eq.trans (World.drewN_drewN _ _ _) (congrArg (World.drewN _) (Nat.add_assoc _ _ _))⟩))))
       go_ret
       exact ⟨cl2,d0⟩
      ·replace c6:=Bool.eq_false_iff.mpr c6
       subst c6;have H1:(spec_l4Once.l0 k1 l0 (wrap64 (x3_1 + 1))) = some r:=nt H
       clear H;have H:=H1;clear H1;have H':=Aside0.mk H;clear H;have q8:(x3_1:Int)≤((l0.length:Int):Int):=od;obtain ⟨i08,hi08,_,hsz8,_⟩:=info_parts info9;have hroom8:l0.length≤c0:=HC0.out;have hC8:Kd.C Kd.string _ A0 l0.length l0:=HR0.out;have hcut8:=cut_to (P:=Try.prog) 30 9 .i64 Try.underlying30 hi08 A0 l0.length c0 x3_1 (od) q8 hroom8;have hr8:=Kd.C_take (m:=(x3_1:Int).toNat) hC8 (by omega);have hy8:y566.length = (x3_1:Int).toNat:=(by rw [Ny566.out,List.length_take];omega);rw [← Ny566.out] at hr8;rw [← hy8] at hcut8;have HR569:=Aside0.mk hr8;have HC569:=Aside0.mk (show y566.length≤c0 from by omega);clear hr8 hC8 hroom8 hi08 hsz8;have KY8:=Aside0.mk hy8;clear hy8;replace q8:=eq_true q8;have p570:0≤(x3_1:Int):=od;have q570:x3_1 < (l0.length:Int):=od;obtain ⟨ad570,e570,hx570_0⟩:=Kd.at_string HR0.out x3_1 p570 q570;cases e570;replace p570:=eq_true p570;replace q570:=eq_true q570
       go_wp2_with (first|(go_at_call 24;(with_reducible refine (spec_l4Has.calls k1 _ _ y566 (rdOf ByteArray.empty l0 x3_1) false _ ?side1 ?side2 A5.out).mono ?_);(case side1=>exact ck HR569.out);(case side2=>exact HC569.out);rintro e w' ⟨rfl,⟨nd,rfl⟩⟩;(try first|exact ⟨rfl,_,World.drewN_drewN _ _ _⟩|exact ⟨rfl,_,Eq.trans (World.drewN_drewN _ _ _) (congrArg (World.drewN _) (Nat.add_assoc _ _ _))⟩)))
       repeat (go_quiet (first|(go_at_call 24;(with_reducible refine (spec_l4Has.calls k1 _ _ y566 (rdOf ByteArray.empty l0 x3_1) false _ ?side1 ?side2 A5.out).mono ?_);(case side1=>exact ck HR569.out);(case side2=>exact HC569.out);rintro e w' ⟨rfl,⟨nd,rfl⟩⟩;(try first|exact ⟨rfl,_,World.drewN_drewN _ _ _⟩|exact ⟨rfl,_,Eq.trans (World.drewN_drewN _ _ _) (congrArg (World.drewN _) (Nat.add_assoc _ _ _))⟩)));try go_wp2_with (first|(go_at_call 24;(with_reducible refine (spec_l4Has.calls k1 _ _ y566 (rdOf ByteArray.empty l0 x3_1) false _ ?side1 ?side2 A5.out).mono ?_);(case side1=>exact ck HR569.out);(case side2=>exact HC569.out);rintro e w' ⟨rfl,⟨nd,rfl⟩⟩;(try first|exact ⟨rfl,_,World.drewN_drewN _ _ _⟩|exact ⟨rfl,_,Eq.trans (World.drewN_drewN _ _ _) (congrArg (World.drewN _) (Nat.add_assoc _ _ _))⟩))))
       go_roundg k1
       case measure=>have:=HK1.out;omega
       case rel=>exact ⟨(wrap64 (x3_1 + 1)),(cl2),H',⟨by have:=HK1.out;omega⟩,d0⟩
     ·rw [if_neg c4] at H
      exact absurd H (by simp)
    ·rw [if_neg c3] at H
     exact absurd H (by simp)
   ·rw [if_neg c2] at H
    have c2b0:decide (x3_1 < (l0.length:Int)) = false:=decide_eq_false c2;clear c2;obtain rfl:=Option.some.inj H
    go_wp2
    repeat (go_quiet (fail);try go_wp2)
    go_ret
    exact ⟨cl2,d0⟩

/-! ### spec_l1In: function 37 -/
def spec_l1In.f (a0:Int) (a1:Int) (a2:Int):Option (Bool):=if a0 ≥ a1 then (some (decide (a0≤a2))) else (some false)
set_option maxHeartbeats 8000000 in
set_option maxRecDepth 100000 in
theorem spec_l1In.calls (a0:Int) (a1:Int) (a2:Int) (r:Bool) (w:World) (h:spec_l1In.f a0 a1 a2 = some r) :
  Calls Try.prog 37 #[.int .i64 a0,.int .i64 a1,.int .i64 a2] w fun e w'=>e = .returned (.bool r)∧Drawn0 w w':=by
 have H:(if a0 ≥ a1 then (some (decide (a0≤a2))) else (some false)) = some r:=h;clear h
 by_cases c4:a0 ≥ a1
 ·rw [if_pos c4] at H
  have c4b0:decide (a1≤a0) = true:=decide_eq_true c4;clear c4;obtain rfl:=Option.some.inj H
  go_enter Try.func37,Try.ntmps37
  go_wp2
  go_ret
  exact ⟨cl2,d0⟩
 ·rw [if_neg c4] at H
  have c4b0:decide (a1≤a0) = false:=decide_eq_false c4;clear c4;obtain rfl:=Option.some.inj H
  go_enter Try.func37,Try.ntmps37
  go_wp2
  go_ret
  exact ⟨cl2,d0⟩

/-! ### spec_AtomOk: function 46 -/
def spec_AtomOk.l0:Nat → ByteArray → Int → Option (Bool)
 | 0,_,_=>none
 | k + 1,x0,x3=>if x3 < (x0.size:Int) then (if 0≤x3 then ((spec_l1In.f (wrap64 (bt x0 x3)) 97 122).bind fun t573=>(if t573 = true then (spec_AtomOk.l0 k x0 (wrap64 (x3 + 1))) else (if x3 = 0 then (some false) else ((spec_l1In.f (wrap64 (bt x0 x3)) 48 57).bind fun t574=>(if t574 = true then (spec_AtomOk.l0 k x0 (wrap64 (x3 + 1))) else (if (wrap64 (bt x0 x3)) = 95 then (spec_AtomOk.l0 k x0 (wrap64 (x3 + 1))) else (some false))))))) else (none)) else ((spec_l1In.f (x0.size:Int) 1 20).bind fun t572=>(some t572))
def spec_AtomOk.f (k:Nat) (a0:ByteArray):Option (Bool):=spec_AtomOk.l0 k a0 0
theorem spec_AtomOk.mono_l:∀ k,(∀ y0 y1,LeO (spec_AtomOk.l0 k y0 y1) (spec_AtomOk.l0 (k + 1) y0 y1))
 | 0=>fun _ _ r h=>by simp [spec_AtomOk.l0] at h
 | k + 1=>by
  have ih0:=spec_AtomOk.mono_l k
  ·intro y0 y1
   unfold spec_AtomOk.l0
   with_reducible repeat' first|apply ih0|apply LeO.refl|apply LeO.none|apply LeO.ite|refine LeO.bind ?_ (fun _=>?_)
theorem spec_AtomOk.mono:∀ a0 k,LeO (spec_AtomOk.f k a0) (spec_AtomOk.f (k + 1) a0):=by
 intro a0 k;have ih0:=spec_AtomOk.mono_l k
 unfold spec_AtomOk.f
 with_reducible repeat' first|apply ih0|apply LeO.refl|apply LeO.none|apply LeO.ite|refine LeO.bind ?_ (fun _=>?_)
set_option maxHeartbeats 8000000 in
set_option maxRecDepth 100000 in
theorem spec_AtomOk.calls (k:Nat) (a0:ByteArray) (r:Bool) (w:World) (h:spec_AtomOk.f k a0 = some r) :
  Calls Try.prog 46 #[.string a0] w fun e w'=>e = .returned (.bool r)∧Drawn0 w w':=by
 have H:(spec_AtomOk.l0 k a0 0) = some r:=h;clear h;have H':=Aside0.mk H;clear H
 go_enter Try.func46,Try.ntmps46
 go_wp2
 go_loopg [3] k (fun kq v3 w'=>∃ (x3_1:Int),v3 = .int .i64 x3_1∧Aside0 (spec_AtomOk.l0 kq a0 x3_1 = some r)∧Aside0 (kq≤k)∧Drawn0 w w')
 case atStart=>exact ⟨(0),(cl2),H',⟨Nat.le_refl _⟩,d0⟩
 case round =>
  clear H';obtain ⟨x3_1,rfl,HA,HK1,⟨m1,rfl⟩⟩:=hrel
  cases gk with
  | zero=>exact absurd HA.out (by simp [spec_AtomOk.l0])
  | succ k1 =>
   have H:=HA.out;clear HA;simp only [spec_AtomOk.l0] at H
   by_cases c2:x3_1 < (a0.size:Int)
   ·rw [if_pos c2] at H
    have c2b0:decide (x3_1 < (a0.size:Int)) = true:=decide_eq_true c2;clear c2
    by_cases c3:0≤x3_1
    ·rw [if_pos c3] at H
     have c3b0:decide (0≤x3_1) = true:=decide_eq_true c3;clear c3;replace H:=Option.bind_eq_some_iff.mp H;obtain ⟨t573,A50,H⟩:=H;replace H:(if t573 = true then (spec_AtomOk.l0 k1 a0 (wrap64 (x3_1 + 1))) else (if x3_1 = 0 then (some false) else ((spec_l1In.f (wrap64 (bt a0 x3_1)) 48 57).bind fun t574=>(if t574 = true then (spec_AtomOk.l0 k1 a0 (wrap64 (x3_1 + 1))) else (if (wrap64 (bt a0 x3_1)) = 95 then (spec_AtomOk.l0 k1 a0 (wrap64 (x3_1 + 1))) else (some false)))))) = some r:=H;have A5:=Aside0.mk A50;clear A50
     by_cases c6:t573 = true
     ·subst c6
      have H1:(spec_AtomOk.l0 k1 a0 (wrap64 (x3_1 + 1))) = some r:=by rw [if_pos rfl] at H;exact H
      clear H;have H:=H1;clear H1;have H':=Aside0.mk H;clear H;have p4:0≤(x3_1:Int):=od;have q4:x3_1 < (a0.size:Int):=od;have hx4:=bt_at a0 x3_1;replace p4:=eq_true p4;replace q4:=eq_true q4
      go_wp2_with (first|((with_reducible refine gate_callee (f:=37) rfl ?_);refine goesL_ (some 17) rfl rfl Try.func37 (by kernel_rfl) rfl #[.int .i64 (wrap64 (bt a0 x3_1)),.int .i64 97,.int .i64 122] rfl gs ?_;(with_reducible refine (spec_l1In.calls (wrap64 (bt a0 x3_1)) 97 122 true _ A5.out).mono ?_);rintro e w' ⟨rfl,⟨nd,rfl⟩⟩;refine ⟨_,rfl,?_⟩))
      go_roundg k1
      case measure=>have:=HK1.out;omega
      case rel=>exact ⟨(wrap64 (x3_1 + 1)),(cl2),H',⟨by have:=HK1.out;omega⟩,d0⟩
     ·replace c6:=Bool.eq_false_iff.mpr c6
      subst c6;have H1:(if x3_1 = 0 then (some false) else ((spec_l1In.f (wrap64 (bt a0 x3_1)) 48 57).bind fun t574=>(if t574 = true then (spec_AtomOk.l0 k1 a0 (wrap64 (x3_1 + 1))) else (if (wrap64 (bt a0 x3_1)) = 95 then (spec_AtomOk.l0 k1 a0 (wrap64 (x3_1 + 1))) else (some false))))) = some r:=nt H
      clear H;have H:=H1;clear H1
      by_cases c7:x3_1 = 0
      ·rw [if_pos c7] at H
       have c7b0:(x3_1 == 0) = true:=beq_iff_eq.mpr c7;have c7b1:(x3_1 != 0) = false:=bne_eq_false_iff_eq.mpr c7;clear c7;obtain rfl:=Option.some.inj H;have p4:0≤(x3_1:Int):=od;have q4:x3_1 < (a0.size:Int):=od;have hx4:=bt_at a0 x3_1;replace p4:=eq_true p4;replace q4:=eq_true q4
       go_wp2_with (first|((with_reducible refine gate_callee (f:=37) rfl ?_);refine goesL_ (some 17) rfl rfl Try.func37 (by kernel_rfl) rfl #[.int .i64 (wrap64 (bt a0 x3_1)),.int .i64 97,.int .i64 122] rfl gs ?_;(with_reducible refine (spec_l1In.calls (wrap64 (bt a0 x3_1)) 97 122 false _ A5.out).mono ?_);rintro e w' ⟨rfl,⟨nd,rfl⟩⟩;refine ⟨_,rfl,?_⟩))
       go_ret
       exact ⟨cl2,d0⟩
      ·rw [if_neg c7] at H
       have c7b0:(x3_1 == 0) = false:=beq_eq_false_iff_ne.mpr c7;have c7b1:(x3_1 != 0) = true:=bne_iff_ne.mpr c7;replace H:=Option.bind_eq_some_iff.mp H;obtain ⟨t574,A80,H⟩:=H;replace H:(if t574 = true then (spec_AtomOk.l0 k1 a0 (wrap64 (x3_1 + 1))) else (if (wrap64 (bt a0 x3_1)) = 95 then (spec_AtomOk.l0 k1 a0 (wrap64 (x3_1 + 1))) else (some false))) = some r:=H;have A8:=Aside0.mk A80;clear A80
       by_cases c9:t574 = true
       ·subst c9
        have H1:(spec_AtomOk.l0 k1 a0 (wrap64 (x3_1 + 1))) = some r:=by rw [if_pos rfl] at H;exact H
        clear H;have H:=H1;clear H1;have H':=Aside0.mk H;clear H;have p4:0≤(x3_1:Int):=od;have q4:x3_1 < (a0.size:Int):=od;have hx4:=bt_at a0 x3_1;replace p4:=eq_true p4;replace q4:=eq_true q4
        go_wp2_with (first|((with_reducible refine gate_callee (f:=37) rfl ?_);refine goesL_ (some 17) rfl rfl Try.func37 (by kernel_rfl) rfl #[.int .i64 (wrap64 (bt a0 x3_1)),.int .i64 97,.int .i64 122] rfl gs ?_;(with_reducible refine (spec_l1In.calls (wrap64 (bt a0 x3_1)) 97 122 false _ A5.out).mono ?_);rintro e w' ⟨rfl,⟨nd,rfl⟩⟩;refine ⟨_,rfl,?_⟩)|(go_at_call 37;(with_reducible refine (spec_l1In.calls (wrap64 (bt a0 x3_1)) 48 57 true _ A8.out).mono ?_);rintro e w' ⟨rfl,⟨nd,rfl⟩⟩))
        go_roundg k1
        case measure=>have:=HK1.out;omega
        case rel=>exact ⟨(wrap64 (x3_1 + 1)),(cl2),H',⟨by have:=HK1.out;omega⟩,d0⟩
       ·replace c9:=Bool.eq_false_iff.mpr c9
        subst c9;have H1:(if (wrap64 (bt a0 x3_1)) = 95 then (spec_AtomOk.l0 k1 a0 (wrap64 (x3_1 + 1))) else (some false)) = some r:=nt H
        clear H;have H:=H1;clear H1
        by_cases c10:(wrap64 (bt a0 x3_1)) = 95
        ·rw [if_pos c10] at H
         have c10b0:((wrap64 (bt a0 x3_1)) == 95) = true:=beq_iff_eq.mpr c10;have c10b1:((wrap64 (bt a0 x3_1)) != 95) = false:=bne_eq_false_iff_eq.mpr c10;clear c10;have H':=Aside0.mk H;clear H;have p4:0≤(x3_1:Int):=od;have q4:x3_1 < (a0.size:Int):=od;have hx4:=bt_at a0 x3_1;replace p4:=eq_true p4;replace q4:=eq_true q4
         go_wp2_with (first|((with_reducible refine gate_callee (f:=37) rfl ?_);refine goesL_ (some 17) rfl rfl Try.func37 (by kernel_rfl) rfl #[.int .i64 (wrap64 (bt a0 x3_1)),.int .i64 97,.int .i64 122] rfl gs ?_;(with_reducible refine (spec_l1In.calls (wrap64 (bt a0 x3_1)) 97 122 false _ A5.out).mono ?_);rintro e w' ⟨rfl,⟨nd,rfl⟩⟩;refine ⟨_,rfl,?_⟩)|(go_at_call 37;(with_reducible refine (spec_l1In.calls (wrap64 (bt a0 x3_1)) 48 57 false _ A8.out).mono ?_);rintro e w' ⟨rfl,⟨nd,rfl⟩⟩))
         go_roundg k1
         case measure=>have:=HK1.out;omega
         case rel=>exact ⟨(wrap64 (x3_1 + 1)),(cl2),H',⟨by have:=HK1.out;omega⟩,d0⟩
        ·rw [if_neg c10] at H
         have c10b0:((wrap64 (bt a0 x3_1)) == 95) = false:=beq_eq_false_iff_ne.mpr c10;have c10b1:((wrap64 (bt a0 x3_1)) != 95) = true:=bne_iff_ne.mpr c10;obtain rfl:=Option.some.inj H;have p4:0≤(x3_1:Int):=od;have q4:x3_1 < (a0.size:Int):=od;have hx4:=bt_at a0 x3_1;replace p4:=eq_true p4;replace q4:=eq_true q4
         go_wp2_with (first|((with_reducible refine gate_callee (f:=37) rfl ?_);refine goesL_ (some 17) rfl rfl Try.func37 (by kernel_rfl) rfl #[.int .i64 (wrap64 (bt a0 x3_1)),.int .i64 97,.int .i64 122] rfl gs ?_;(with_reducible refine (spec_l1In.calls (wrap64 (bt a0 x3_1)) 97 122 false _ A5.out).mono ?_);rintro e w' ⟨rfl,⟨nd,rfl⟩⟩;refine ⟨_,rfl,?_⟩)|(go_at_call 37;(with_reducible refine (spec_l1In.calls (wrap64 (bt a0 x3_1)) 48 57 false _ A8.out).mono ?_);rintro e w' ⟨rfl,⟨nd,rfl⟩⟩))
         go_ret
         exact ⟨cl2,d0⟩
    ·rw [if_neg c3] at H
     exact absurd H (by simp)
   ·rw [if_neg c2] at H
    have c2b0:decide (x3_1 < (a0.size:Int)) = false:=decide_eq_false c2;clear c2;replace H:=Option.bind_eq_some_iff.mp H;obtain ⟨t572,A110,H⟩:=H;replace H:(some t572) = some r:=H;have A11:=Aside0.mk A110;clear A110;obtain rfl:=Option.some.inj H
    go_wp2_with (first|((with_reducible refine gate_callee (f:=37) rfl ?_);refine goesL_ (some 35) rfl rfl Try.func37 (by kernel_rfl) rfl #[.int .i64 (a0.size:Int),.int .i64 1,.int .i64 20] rfl gs ?_;(with_reducible refine (spec_l1In.calls (a0.size:Int) 1 20 t572 _ A11.out).mono ?_);rintro e w' ⟨rfl,⟨nd,rfl⟩⟩;refine ⟨_,rfl,?_⟩))
    go_ret
    exact ⟨cl2,d0⟩

/-! ### spec_l4Reserved: function 47 -/
def spec_l4Reserved.f (a0:ByteArray):Option (Bool):=if a0.toList = ([99,97,115,101]:List UInt8) then (some true) else (if a0.toList = ([111,102]:List UInt8) then (some true) else (some (a0.toList == ([101,110,100]:List UInt8))))
set_option maxHeartbeats 8000000 in
set_option maxRecDepth 100000 in
theorem spec_l4Reserved.calls (a0:ByteArray) (r:Bool) (w:World) (h:spec_l4Reserved.f a0 = some r) :
  Calls Try.prog 47 #[.string a0] w fun e w'=>e = .returned (.bool r)∧Drawn0 w w':=by
 have H:(if a0.toList = ([99,97,115,101]:List UInt8) then (some true) else (if a0.toList = ([111,102]:List UInt8) then (some true) else (some (a0.toList == ([101,110,100]:List UInt8))))) = some r:=h;clear h
 by_cases c2:a0.toList = ([99,97,115,101]:List UInt8)
 ·rw [if_pos c2] at H
  have c2b0:(a0.toList == ([99,97,115,101]:List UInt8)) = true:=beq_iff_eq.mpr c2;have c2b1:(a0.toList != ([99,97,115,101]:List UInt8)) = false:=bne_eq_false_iff_eq.mpr c2;clear c2;obtain rfl:=Option.some.inj H
  go_enter Try.func47,Try.ntmps47
  go_wp2
  go_ret
  exact ⟨cl2,d0⟩
 ·rw [if_neg c2] at H
  have c2b0:(a0.toList == ([99,97,115,101]:List UInt8)) = false:=beq_eq_false_iff_ne.mpr c2;have c2b1:(a0.toList != ([99,97,115,101]:List UInt8)) = true:=bne_iff_ne.mpr c2
  by_cases c3:a0.toList = ([111,102]:List UInt8)
  ·rw [if_pos c3] at H
   have c3b0:(a0.toList == ([111,102]:List UInt8)) = true:=beq_iff_eq.mpr c3;have c3b1:(a0.toList != ([111,102]:List UInt8)) = false:=bne_eq_false_iff_eq.mpr c3;clear c3;obtain rfl:=Option.some.inj H
   go_enter Try.func47,Try.ntmps47
   go_wp2
   go_ret
   exact ⟨cl2,d0⟩
  ·rw [if_neg c3] at H
   have c3b0:(a0.toList == ([111,102]:List UInt8)) = false:=beq_eq_false_iff_ne.mpr c3;have c3b1:(a0.toList != ([111,102]:List UInt8)) = true:=bne_iff_ne.mpr c3;obtain rfl:=Option.some.inj H
   go_enter Try.func47,Try.ntmps47
   go_wp2
   go_ret
   exact ⟨cl2,d0⟩

/-! ### spec_l4Atom: function 38 -/
def spec_l4Atom.f (k:Nat) (a0:ByteArray):Option (Bool):=(spec_AtomOk.f k a0).bind fun t575=>(if t575 = true then ((spec_l4Reserved.f a0).bind fun t576=>(some (!t576))) else (some false))
theorem spec_l4Atom.mono:∀ a0 k,LeO (spec_l4Atom.f k a0) (spec_l4Atom.f (k + 1) a0):=by
 intro a0 k
 unfold spec_l4Atom.f
 with_reducible repeat' first|apply spec_AtomOk.mono|apply LeO.refl|apply LeO.none|apply LeO.ite|refine LeO.bind ?_ (fun _=>?_)
set_option maxHeartbeats 8000000 in
set_option maxRecDepth 100000 in
theorem spec_l4Atom.calls (k:Nat) (a0:ByteArray) (r:Bool) (w:World) (h:spec_l4Atom.f k a0 = some r) :
  Calls Try.prog 38 #[.string a0] w fun e w'=>e = .returned (.bool r)∧Drawn0 w w':=by
 have H:((spec_AtomOk.f k a0).bind fun t575=>(if t575 = true then ((spec_l4Reserved.f a0).bind fun t576=>(some (!t576))) else (some false))) = some r:=h;clear h;replace H:=Option.bind_eq_some_iff.mp H;obtain ⟨t575,A20,H⟩:=H;replace H:(if t575 = true then ((spec_l4Reserved.f a0).bind fun t576=>(some (!t576))) else (some false)) = some r:=H;have A2:=Aside0.mk A20;clear A20
 by_cases c3:t575 = true
 ·subst c3
  have H1:((spec_l4Reserved.f a0).bind fun t576=>(some (!t576))) = some r:=by rw [if_pos rfl] at H;exact H
  clear H;have H:=H1;clear H1;replace H:=Option.bind_eq_some_iff.mp H;obtain ⟨t576,A40,H⟩:=H;replace H:(some (!t576)) = some r:=H;have A4:=Aside0.mk A40;clear A40;obtain rfl:=Option.some.inj H
  go_enter Try.func38,Try.ntmps38
  go_wp2_with (first|((with_reducible refine gate_callee (f:=46) rfl ?_);refine goesL_ (some 4) rfl rfl Try.func46 (by kernel_rfl) rfl #[.string a0] rfl gs ?_;(with_reducible refine (spec_AtomOk.calls k a0 true _ A2.out).mono ?_);rintro e w' ⟨rfl,⟨nd,rfl⟩⟩;refine ⟨_,rfl,?_⟩)|(go_at_call 47;(with_reducible refine (spec_l4Reserved.calls a0 t576 _ A4.out).mono ?_);rintro e w' ⟨rfl,⟨nd,rfl⟩⟩))
  go_ret
  exact ⟨cl2,d0⟩
 ·replace c3:=Bool.eq_false_iff.mpr c3
  subst c3;have H1:(some false) = some r:=nt H
  clear H;have H:=H1;clear H1;obtain rfl:=Option.some.inj H
  go_enter Try.func38,Try.ntmps38
  go_wp2_with (first|((with_reducible refine gate_callee (f:=46) rfl ?_);refine goesL_ (some 4) rfl rfl Try.func46 (by kernel_rfl) rfl #[.string a0] rfl gs ?_;(with_reducible refine (spec_AtomOk.calls k a0 false _ A2.out).mono ?_);rintro e w' ⟨rfl,⟨nd,rfl⟩⟩;refine ⟨_,rfl,?_⟩))
  go_ret
  exact ⟨cl2,d0⟩

/-! ### spec_l3Large: function 48 -/
def spec_l3Large.f (a0:Int):Option (Bool):=(spec_l1In.f (wrap64 (a0)) 65 90).bind fun t577=>(if t577 = true then (some true) else (some (a0 == 95)))
set_option maxHeartbeats 8000000 in
set_option maxRecDepth 100000 in
theorem spec_l3Large.calls (a0:Int) (r:Bool) (w:World) (h:spec_l3Large.f a0 = some r) :
  Calls Try.prog 48 #[.int .u8 a0] w fun e w'=>e = .returned (.bool r)∧Drawn0 w w':=by
 have H:((spec_l1In.f (wrap64 (a0)) 65 90).bind fun t577=>(if t577 = true then (some true) else (some (a0 == 95)))) = some r:=h;clear h;replace H:=Option.bind_eq_some_iff.mp H;obtain ⟨t577,A20,H⟩:=H;replace H:(if t577 = true then (some true) else (some (a0 == 95))) = some r:=H;have A2:=Aside0.mk A20;clear A20
 by_cases c3:t577 = true
 ·subst c3
  have H1:(some true) = some r:=by rw [if_pos rfl] at H;exact H
  clear H;have H:=H1;clear H1;obtain rfl:=Option.some.inj H
  go_enter Try.func48,Try.ntmps48
  go_wp2_with (first|((with_reducible refine gate_callee (f:=37) rfl ?_);refine goesL_ (some 5) rfl rfl Try.func37 (by kernel_rfl) rfl #[.int .i64 (wrap64 (a0)),.int .i64 65,.int .i64 90] rfl gs ?_;(with_reducible refine (spec_l1In.calls (wrap64 (a0)) 65 90 true _ A2.out).mono ?_);rintro e w' ⟨rfl,⟨nd,rfl⟩⟩;refine ⟨_,rfl,?_⟩))
  go_ret
  exact ⟨cl2,d0⟩
 ·replace c3:=Bool.eq_false_iff.mpr c3
  subst c3;have H1:(some (a0 == 95)) = some r:=nt H
  clear H;have H:=H1;clear H1;obtain rfl:=Option.some.inj H
  go_enter Try.func48,Try.ntmps48
  go_wp2_with (first|((with_reducible refine gate_callee (f:=37) rfl ?_);refine goesL_ (some 5) rfl rfl Try.func37 (by kernel_rfl) rfl #[.int .i64 (wrap64 (a0)),.int .i64 65,.int .i64 90] rfl gs ?_;(with_reducible refine (spec_l1In.calls (wrap64 (a0)) 65 90 false _ A2.out).mono ?_);rintro e w' ⟨rfl,⟨nd,rfl⟩⟩;refine ⟨_,rfl,?_⟩))
  go_ret
  exact ⟨cl2,d0⟩

/-! ### spec_l3Small: function 49 -/
def spec_l3Small.f (a0:Int):Option (Bool):=(spec_l1In.f (wrap64 (a0)) 97 122).bind fun t578=>(some t578)
set_option maxHeartbeats 8000000 in
set_option maxRecDepth 100000 in
theorem spec_l3Small.calls (a0:Int) (r:Bool) (w:World) (h:spec_l3Small.f a0 = some r) :
  Calls Try.prog 49 #[.int .u8 a0] w fun e w'=>e = .returned (.bool r)∧Drawn0 w w':=by
 have H:((spec_l1In.f (wrap64 (a0)) 97 122).bind fun t578=>(some t578)) = some r:=h;clear h;replace H:=Option.bind_eq_some_iff.mp H;obtain ⟨t578,A20,H⟩:=H;replace H:(some t578) = some r:=H;have A2:=Aside0.mk A20;clear A20;obtain rfl:=Option.some.inj H
 go_enter Try.func49,Try.ntmps49
 go_wp2_with (first|((with_reducible refine gate_callee (f:=37) rfl ?_);refine goesL_ (some 5) rfl rfl Try.func37 (by kernel_rfl) rfl #[.int .i64 (wrap64 (a0)),.int .i64 97,.int .i64 122] rfl gs ?_;(with_reducible refine (spec_l1In.calls (wrap64 (a0)) 97 122 t578 _ A2.out).mono ?_);rintro e w' ⟨rfl,⟨nd,rfl⟩⟩;refine ⟨_,rfl,?_⟩))
 go_ret
 exact ⟨cl2,d0⟩

/-! ### spec_l3Digit: function 50 -/
def spec_l3Digit.f (a0:Int):Option (Bool):=(spec_l1In.f (wrap64 (a0)) 48 57).bind fun t579=>(some t579)
set_option maxHeartbeats 8000000 in
set_option maxRecDepth 100000 in
theorem spec_l3Digit.calls (a0:Int) (r:Bool) (w:World) (h:spec_l3Digit.f a0 = some r) :
  Calls Try.prog 50 #[.int .u8 a0] w fun e w'=>e = .returned (.bool r)∧Drawn0 w w':=by
 have H:((spec_l1In.f (wrap64 (a0)) 48 57).bind fun t579=>(some t579)) = some r:=h;clear h;replace H:=Option.bind_eq_some_iff.mp H;obtain ⟨t579,A20,H⟩:=H;replace H:(some t579) = some r:=H;have A2:=Aside0.mk A20;clear A20;obtain rfl:=Option.some.inj H
 go_enter Try.func50,Try.ntmps50
 go_wp2_with (first|((with_reducible refine gate_callee (f:=37) rfl ?_);refine goesL_ (some 5) rfl rfl Try.func37 (by kernel_rfl) rfl #[.int .i64 (wrap64 (a0)),.int .i64 48,.int .i64 57] rfl gs ?_;(with_reducible refine (spec_l1In.calls (wrap64 (a0)) 48 57 t579 _ A2.out).mono ?_);rintro e w' ⟨rfl,⟨nd,rfl⟩⟩;refine ⟨_,rfl,?_⟩))
 go_ret
 exact ⟨cl2,d0⟩

end Go.Proofs.Ytaobcdpadpkngaa.QFnPatterns
