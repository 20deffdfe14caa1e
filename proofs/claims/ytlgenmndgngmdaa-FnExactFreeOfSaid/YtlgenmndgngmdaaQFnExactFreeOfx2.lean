-- Written by a program of this workplace (print2.py) for this claim, over the print's words.
import Derived.Test.YtlgenmndgngmdaaQFnExactFreeOfx0
namespace Go.Proofs.Ytlgenmndgngmdaa.QFnExactFreeOf
open Go.RowKit Go.Proofs.YtlgenmndgngmdaaW.PrintWords Go.Proofs.YtlgenmndgngmdaaW.PrintLast Go.Proofs.YtlgenmndgngmdaaW.PrintMore
attribute [local go_sem] max2_int min2_int max_two min_two max_three min_three max_four min_four   -- for this text's walks alone
set_option linter.unusedVariables false
set_option linter.unusedSimpArgs false

/-! ### spec_VarsOf: function 28 -/
mutual
def spec_VarsOf.l0:Nat → List ByteArray → Int → Int → Int → ByteArray → List (S32) → List (S46) → Option (List ByteArray)
 | 0,_,_,_,_,_,_,_=>none
 | k + 1,x3,x4,x113000,x113001,x113002,x113003,x113004=>if x4 < (x113003.length:Int) then (if 0≤x4 then ((spec_VarsOf.f k ((rd_T32 x113003 x4).f0) ((rd_T32 x113003 x4).f1) ((rd_T32 x113003 x4).f2) ((rd_T32 x113003 x4).f3) ((rd_T32 x113003 x4).f4)).bind fun t120=>(if x3.length + t120.length < 8796093022208 then (spec_VarsOf.l0 k (x3 ++ t120) (wrap64 (x4 + 1)) x113000 x113001 x113002 x113003 x113004) else (none))) else (none)) else (some x3)
def spec_VarsOf.f:Nat → Int → Int → ByteArray → List (S32) → List (S46) → Option (List ByteArray)
 | 0,_,_,_,_,_=>none
 | k + 1,a0_0,a0_1,a0_2,l0_3,l0_4=>(some (([]:List ByteArray):List ByteArray)).bind fun y113=>(if a0_0 = 3 then (if a0_2.toList = ([95]:List UInt8) then (some y113) else (if y113.length < 8796093022208 then (some (y113 ++ [a0_2])) else (none))) else (spec_VarsOf.l0 k y113 0 a0_0 a0_1 a0_2 l0_3 l0_4))
end
theorem spec_VarsOf.mono_l:∀ k,(∀ y0 y1 y2 y3 y4,LeO (spec_VarsOf.f k y0 y1 y2 y3 y4) (spec_VarsOf.f (k + 1) y0 y1 y2 y3 y4))∧(∀ y0 y1 y2 y3 y4 y5 y6,LeO (spec_VarsOf.l0 k y0 y1 y2 y3 y4 y5 y6) (spec_VarsOf.l0 (k + 1) y0 y1 y2 y3 y4 y5 y6))
 | 0=>⟨fun _ _ _ _ _ r h=>by simp [spec_VarsOf.f] at h,fun _ _ _ _ _ _ _ r h=>by simp [spec_VarsOf.l0] at h⟩
 | k + 1=>by
  obtain ⟨ih0,ih1⟩:=spec_VarsOf.mono_l k
  refine ⟨?_,?_⟩
  ·intro y0 y1 y2 y3 y4
   unfold spec_VarsOf.f
   with_reducible repeat' first|apply ih0|apply ih1|apply LeO.refl|apply LeO.none|apply LeO.ite|refine LeO.bind ?_ (fun _=>?_)
  ·intro y0 y1 y2 y3 y4 y5 y6
   unfold spec_VarsOf.l0
   with_reducible repeat' first|apply ih0|apply ih1|apply LeO.refl|apply LeO.none|apply LeO.ite|refine LeO.bind ?_ (fun _=>?_)
theorem spec_VarsOf.mono:∀ a0 a1 a2 a3 a4 k,LeO (spec_VarsOf.f k a0 a1 a2 a3 a4) (spec_VarsOf.f (k + 1) a0 a1 a2 a3 a4):=by
 intro a0 a1 a2 a3 a4 k;obtain ⟨ih0,ih1⟩:=spec_VarsOf.mono_l k
 exact ih0 a0 a1 a2 a3 a4
set_option maxHeartbeats 8000000 in
set_option maxRecDepth 100000 in
theorem spec_VarsOf.calls (k:Nat):∀ (a0_0:Int) (a0_1:Int) (a0_2:ByteArray) (A0_3:Option Addr) (c0_3:Nat) (l0_3:List (S32)) (A0_4:Option Addr) (c0_4:Nat) (l0_4:List (S46)) (r:List ByteArray) (w:World) (hr0_3:Kd.C k32 w A0_3 l0_3.length l0_3) (hc0_3:l0_3.length≤c0_3) (hr0_4:Kd.C k46 w A0_4 l0_4.length l0_4) (hc0_4:l0_4.length≤c0_4) (h:spec_VarsOf.f k a0_0 a0_1 a0_2 l0_3 l0_4 = some r),
  Calls Try.prog 28 #[.agg #[.int .i64 a0_0,.int .i64 a0_1,.string a0_2,.slice A0_3 l0_3.length c0_3,.slice A0_4 l0_4.length c0_4]] w fun e w'=>∃ v0_:Value,e = .returned (v0_)∧Kd.R Kd.string 9 w' w.heap.size (fun _=>True) v0_ r∧Below w.heap.size w w':=by
 induction k using Nat.strongRecOn with
 | _ k ih =>
 intro a0_0 a0_1 a0_2 A0_3 c0_3 l0_3 A0_4 c0_4 l0_4 r w hr0_3 hc0_3 hr0_4 hc0_4 h
 cases k with
 | zero=>exact absurd h (by simp [spec_VarsOf.f])
 | succ k =>
 simp only [spec_VarsOf.f] at h;have hu32:=Try.underlying32;have HR0_3:=Aside0.mk hr0_3;have HC0_3:=Aside0.mk hc0_3;clear hr0_3 hc0_3;have HR0_4:=Aside0.mk hr0_4;have HC0_4:=Aside0.mk hc0_4;clear hr0_4 hc0_4;have HB:=Aside0.mk (Below.refl w.heap.size w);have H:((some (([]:List ByteArray):List ByteArray)).bind fun y113=>(if a0_0 = 3 then (if a0_2.toList = ([95]:List UInt8) then (some y113) else (if y113.length < 8796093022208 then (some (y113 ++ [a0_2])) else (none))) else (spec_VarsOf.l0 k y113 0 a0_0 a0_1 a0_2 l0_3 l0_4))) = some r:=h;clear h;obtain ⟨y113,hy113⟩:∃ y_:List ByteArray,y_ = (([]:List ByteArray)):=⟨_,rfl⟩;replace H:(if a0_0 = 3 then (if a0_2.toList = ([95]:List UInt8) then (some y113) else (if y113.length < 8796093022208 then (some (y113 ++ [a0_2])) else (none))) else (spec_VarsOf.l0 k y113 0 a0_0 a0_1 a0_2 l0_3 l0_4)) = some r:=by first|(rw [hy113];with_reducible exact H)|(have H2_:=(Option.bind_some _ _).symm.trans H;rw [hy113];with_reducible exact H2_)|(have H2_:=(Option.bind_some _ _).symm.trans H;with_reducible exact H2_)|with_reducible exact H|(rw [hy113];exact H)|exact H
 have Ny113:=Aside0.mk hy113;clear hy113
 by_cases c2:a0_0 = 3
 ·rw [if_pos c2] at H
  have c2b0:(a0_0 == 3) = true:=beq_iff_eq.mpr c2;have c2b1:(a0_0 != 3) = false:=bne_eq_false_iff_eq.mpr c2;clear c2
  by_cases c3:a0_2.toList = ([95]:List UInt8)
  ·rw [if_pos c3] at H
   have c3b0:(a0_2.toList == ([95]:List UInt8)) = true:=beq_iff_eq.mpr c3;have c3b1:(a0_2.toList != ([95]:List UInt8)) = false:=bne_eq_false_iff_eq.mpr c3;clear c3;obtain rfl:=Option.some.inj H
   go_enter Try.func28,Try.ntmps28
   go_wp2_with (first|((with_reducible refine gate_dst (N:=1) rfl ?_);refine box_event ?hg (N:=1) ?hd (cs:=#[.int .i64 a0_0,.int .i64 a0_1,.string a0_2,.slice A0_3 l0_3.length c0_3,.slice A0_4 l0_4.length c0_4]) (t:=32) ?hr ?_;(case hd=>rfl);(case hg=>rfl);(case hr=>first|(go_simp;done)|(go_simp;rfl));intro gb112 hg w4 hbox hb;have n_:=ai (bq HB hb) <| ai (Aside0.mk (hbox)) <| ai (bz hg HB) <| bz hg HB;clear HB;obtain ⟨HB,BK112,GW112,GE112⟩:=n_;clear hb hbox hg)|((with_reducible refine gate_dst (N:=5) rfl ?_);refine Kd.R_lit Kd.string _ 9 ?hg (N:=5) ?hd (xs:=([]:List ByteArray)) (inner:=[]) (ok:=fun _=>True) (okp:=fun _=>True) ?hr ?hp (fun _ hk=>hk) trivial (Below.refl _ _) (Nat.le_refl _) (by simp) ?_;(case hd=>rfl);(case hg=>rfl);(case hr=>first|(go_simp;done)|(go_simp;rfl));(case hp=>exact (Reps.none _ _));intro v114 w5 ho6 hb hg_ hnew_;clear hg_ hnew_;(first|rw [← Ny113.out] at ho6|(simp only [Int.reduceToNat] at ho6;rw [← Ny113.out] at ho6));have n_:=ai (Aside0.mk (Kd.R_lower ho6 (below_size (bl HB.out)))) <| ai (bw BK112 hb) <| bq HB hb;clear BK112 HB;obtain ⟨HO115,BK112,HB⟩:=n_;clear hb ho6;obtain ⟨hcz7_0,hcz7_1,hcz7_2,hcz7_3,hcz7_4⟩:=kb5 BK112.out;obtain ⟨hfz7_0,hfz7_1,hfz7_2,hfz7_3,hfz7_4⟩:=kz5 BK112.out))
   go_ret
   exact ⟨_,cl,rk HO115.out,bl HB.out⟩
  ·rw [if_neg c3] at H
   have c3b0:(a0_2.toList == ([95]:List UInt8)) = false:=beq_eq_false_iff_ne.mpr c3;have c3b1:(a0_2.toList != ([95]:List UInt8)) = true:=bne_iff_ne.mpr c3
   by_cases c8:y113.length < 8796093022208
   ·rw [if_pos c8] at H
    have LMc8:=Aside0.mk c8;clear c8;obtain ⟨y116,hy116⟩:∃ y_:List ByteArray,y_ = (y113 ++ [a0_2]):=⟨_,rfl⟩;replace H:(some y116) = some r:=by first|(rw [hy116];with_reducible exact H)|(have H2_:=(Option.bind_some _ _).symm.trans H;rw [hy116];with_reducible exact H2_)|(have H2_:=(Option.bind_some _ _).symm.trans H;with_reducible exact H2_)|with_reducible exact H|(rw [hy116];exact H)|exact H
    have Ny116:=Aside0.mk hy116;clear hy116;obtain rfl:=Option.some.inj H
    go_enter Try.func28,Try.ntmps28
    go_wp2_with (first|((with_reducible refine gate_dst (N:=1) rfl ?_);refine box_event ?hg (N:=1) ?hd (cs:=#[.int .i64 a0_0,.int .i64 a0_1,.string a0_2,.slice A0_3 l0_3.length c0_3,.slice A0_4 l0_4.length c0_4]) (t:=32) ?hr ?_;(case hd=>rfl);(case hg=>rfl);(case hr=>first|(go_simp;done)|(go_simp;rfl));intro gb112 hg w9 hbox hb;have n_:=ai (bq HB hb) <| ai (Aside0.mk (hbox)) <| ai (bz hg HB) <| bz hg HB;clear HB;obtain ⟨HB,BK112,GW112,GE112⟩:=n_;clear hb hbox hg)|((with_reducible refine gate_dst (N:=5) rfl ?_);refine Kd.R_lit Kd.string _ 9 ?hg (N:=5) ?hd (xs:=([]:List ByteArray)) (inner:=[]) (ok:=fun _=>True) (okp:=fun _=>True) ?hr ?hp (fun _ hk=>hk) trivial (Below.refl _ _) (Nat.le_refl _) (by simp) ?_;(case hd=>rfl);(case hg=>rfl);(case hr=>first|(go_simp;done)|(go_simp;rfl));(case hp=>exact (Reps.none _ _));intro v114 w10 ho11 hb hg_ hnew_;clear hg_ hnew_;(first|rw [← Ny113.out] at ho11|(simp only [Int.reduceToNat] at ho11;rw [← Ny113.out] at ho11));have n_:=ai (Aside0.mk (Kd.R_lower ho11 (below_size (bl HB.out)))) <| ai (bw BK112 hb) <| bq HB hb;clear BK112 HB;obtain ⟨HO115,BK112,HB⟩:=n_;clear hb ho11;obtain ⟨hcz12_0,hcz12_1,hcz12_2,hcz12_3,hcz12_4⟩:=kb5 BK112.out;obtain ⟨hfz12_0,hfz12_1,hfz12_2,hfz12_3,hfz12_4⟩:=kz5 BK112.out)|((with_reducible refine gate_builtin (b:=.append) (xs:=#[.tmp 12,.tmp 15]) rfl ?_);at_builtin;refine Kd.R_append Kd.string (w0:=w) w.heap.size rfl (.tmp 12) (.tmp 15) 27 9 (.string ⟨#[]⟩) 16 rfl Try.underlying27 info9 rfl (by decide) (by omega) v114 y113 a0_2 [.string a0_2] (fun _=>True) (fun _=>False) rfl rfl ?aP (fun _ hk=>hk.elim) ?aF ?aO ?aB ?aS ?aL ?_;(case aP=>exact rfl);(case aB=>exact (bl HB.out));(case aF=>exact (fun _ _=>trivial));(case aO=>exact (rk HO115.out));(case aS=>exact (below_size (bl HB.out)));(case aL=>have:=LMc8.out;omega);intro v117 w13 ho hb hg hat;rw [← Ny116.out] at ho;have n_:=ai (Aside0.mk (blk_grown (g:=gb112) (o:=.cells #[.int .i64 a0_0,.int .i64 a0_1,.string a0_2,.slice A0_3 l0_3.length c0_3,.slice A0_4 l0_4.length c0_4] 32 (0,0)) (bk BK112.out) hg (Kd.R_ne HO115.out BK112.out (by decide)))) <| ai (Aside0.mk (hb)) <| Aside0.mk (ho);clear BK112 HB HO115;obtain ⟨BK112,HB,HO118⟩:=n_;clear ho hb hg hat))
    go_ret
    exact ⟨_,cl,rk HO118.out,bl HB.out⟩
   ·rw [if_neg c8] at H
    exact absurd H (by simp)
 ·rw [if_neg c2] at H
  have c2b0:(a0_0 == 3) = false:=beq_eq_false_iff_ne.mpr c2;have c2b1:(a0_0 != 3) = true:=bne_iff_ne.mpr c2;have H':=Aside0.mk H;clear H
  go_enter Try.func28,Try.ntmps28
  go_wp2_with (first|((with_reducible refine gate_dst (N:=1) rfl ?_);refine box_event ?hg (N:=1) ?hd (cs:=#[.int .i64 a0_0,.int .i64 a0_1,.string a0_2,.slice A0_3 l0_3.length c0_3,.slice A0_4 l0_4.length c0_4]) (t:=32) ?hr ?_;(case hd=>rfl);(case hg=>rfl);(case hr=>first|(go_simp;done)|(go_simp;rfl));intro gb112 hg w14 hbox hb;have n_:=ai (bq HB hb) <| ai (Aside0.mk (hbox)) <| ai (bz hg HB) <| bz hg HB;clear HB;obtain ⟨HB,BK112,GW112,GE112⟩:=n_;clear hb hbox hg)|((with_reducible refine gate_dst (N:=5) rfl ?_);refine Kd.R_lit Kd.string _ 9 ?hg (N:=5) ?hd (xs:=([]:List ByteArray)) (inner:=[]) (ok:=fun _=>True) (okp:=fun _=>True) ?hr ?hp (fun _ hk=>hk) trivial (Below.refl _ _) (Nat.le_refl _) (by simp) ?_;(case hd=>rfl);(case hg=>rfl);(case hr=>first|(go_simp;done)|(go_simp;rfl));(case hp=>exact (Reps.none _ _));intro v114 w15 ho16 hb hg_ hnew_;clear hg_ hnew_;(first|rw [← Ny113.out] at ho16|(simp only [Int.reduceToNat] at ho16;rw [← Ny113.out] at ho16));have n_:=ai (Aside0.mk (Kd.R_lower ho16 (below_size (bl HB.out)))) <| ai (bw BK112 hb) <| bq HB hb;clear BK112 HB;obtain ⟨HO115,BK112,HB⟩:=n_;clear hb ho16;obtain ⟨hcz17_0,hcz17_1,hcz17_2,hcz17_3,hcz17_4⟩:=kb5 BK112.out;obtain ⟨hfz17_0,hfz17_1,hfz17_2,hfz17_3,hfz17_4⟩:=kz5 BK112.out))
  go_loopg [3,4] k (fun kq v3 v4 w'=>∃ (x3_1:List ByteArray) (x4_1:Int),v4 = .int .i64 x4_1∧Aside0 (spec_VarsOf.l0 kq x3_1 x4_1 a0_0 a0_1 a0_2 l0_3 l0_4 = some r)∧Aside0 (kq≤k)∧Aside0 (Kd.R Kd.string 9 w' w.heap.size (fun _=>True) v3 x3_1)∧Aside0 (w'.heap[gb112]? = some (.cells #[.int .i64 a0_0,.int .i64 a0_1,.string a0_2,(.slice A0_3 l0_3.length c0_3),(.slice A0_4 l0_4.length c0_4)] 32 (0,0)))∧Aside0 (Below w.heap.size w w'))
  case atStart=>exact ⟨(y113),(0),(cl2),H',⟨Nat.le_refl _⟩,⟨rk HO115.out⟩,⟨bk BK112.out⟩,⟨bl HB.out⟩⟩
  case round =>
   clear H';(try clear c2);(try clear c2b0);(try clear c2b1);(try clear p2);(try clear c3);(try clear c3b0);(try clear c3b1);(try clear c8);(try clear hcz12_0);(try clear hcz12_1);(try clear hcz12_2);(try clear hcz12_3);(try clear hcz12_4);(try clear hcz17_0);(try clear hcz17_1);(try clear hcz17_2);(try clear hcz17_3);(try clear hcz17_4);(try clear hcz7_0);(try clear hcz7_1);(try clear hcz7_2);(try clear hcz7_3);(try clear hcz7_4);(try clear hfz12_0);(try clear hfz12_1);(try clear hfz12_2);(try clear hfz12_3);(try clear hfz12_4);(try clear hfz17_0);(try clear hfz17_1);(try clear hfz17_2);(try clear hfz17_3);(try clear hfz17_4);(try clear hfz7_0);(try clear hfz7_1);(try clear hfz7_2);(try clear hfz7_3);(try clear hfz7_4);(try clear HO_3);(try clear BK112);(try clear HB);obtain ⟨x3_1,x4_1,rfl,HA,HK1,HO_3,BK112,HB⟩:=hrel
   cases gk with
   | zero=>exact absurd HA.out (by simp [spec_VarsOf.l0])
   | succ k1 =>
    have H:=HA.out;clear HA;simp only [spec_VarsOf.l0] at H
    by_cases c18:x4_1 < (l0_3.length:Int)
    ·rw [if_pos c18] at H
     have c18b0:decide (x4_1 < (l0_3.length:Int)) = true:=decide_eq_true c18;clear c18
     by_cases c19:0≤x4_1
     ·rw [if_pos c19] at H
      have c19b0:decide (0≤x4_1) = true:=decide_eq_true c19;clear c19;replace H:=Option.bind_eq_some_iff.mp H;obtain ⟨t120,A200,H⟩:=H;replace H:(if x3_1.length + t120.length < 8796093022208 then (spec_VarsOf.l0 k1 (x3_1 ++ t120) (wrap64 (x4_1 + 1)) a0_0 a0_1 a0_2 l0_3 l0_4) else (none)) = some r:=H;have A20:=Aside0.mk A200;clear A200
      by_cases c21:x3_1.length + t120.length < 8796093022208
      ·rw [if_pos c21] at H
       have LMc21:=Aside0.mk c21;clear c21;obtain ⟨y123,hy123⟩:∃ y_:List ByteArray,y_ = (x3_1 ++ t120):=⟨_,rfl⟩;replace H:(spec_VarsOf.l0 k1 y123 (wrap64 (x4_1 + 1)) a0_0 a0_1 a0_2 l0_3 l0_4) = some r:=by first|(rw [hy123];with_reducible exact H)|(have H2_:=(Option.bind_some _ _).symm.trans H;rw [hy123];with_reducible exact H2_)|(have H2_:=(Option.bind_some _ _).symm.trans H;with_reducible exact H2_)|with_reducible exact H|(rw [hy123];exact H)|exact H
       have Ny123:=Aside0.mk hy123;clear hy123;have H':=Aside0.mk H;clear H;obtain ⟨hcz22_0,hcz22_1,hcz22_2,hcz22_3,hcz22_4⟩:=kb5 BK112.out;have p119:0≤(x4_1:Int):=od;have q119:x4_1 < (l0_3.length:Int):=od;obtain ⟨ad119,A119_3,c119_3,A119_4,c119_4,e119,hx119_0,hx119_1,hx119_2,hx119_3,hx119_4,hl119_3,hi119_3,hl119_4,hi119_4⟩:=at_T32 HR0_3.out x4_1 p119 q119;cases e119;replace hx119_0:=cb HB hx119_0;replace hx119_1:=cb HB hx119_1;replace hx119_2:=cb HB hx119_2;replace hx119_3:=cb HB hx119_3;replace hx119_4:=cb HB hx119_4;have HR119_3:=Aside0.mk hi119_3;have HC119_3:=Aside0.mk hl119_3;clear hi119_3 hl119_3;have HR119_4:=Aside0.mk hi119_4;have HC119_4:=Aside0.mk hl119_4;clear hi119_4 hl119_4;replace p119:=eq_true p119;replace q119:=eq_true q119
       go_wp2_with (first|((with_reducible refine gate_callee (f:=28) rfl ?_);refine goesL_ (some 31) rfl rfl Try.func28 (by kernel_rfl) rfl #[.agg #[.int .i64 ((rd_T32 l0_3 x4_1).f0),.int .i64 ((rd_T32 l0_3 x4_1).f1),.string ((rd_T32 l0_3 x4_1).f2),.slice A119_3 ((rd_T32 l0_3 x4_1).f3).length c119_3,.slice A119_4 ((rd_T32 l0_3 x4_1).f4).length c119_4]] rfl gs ?_;(with_reducible refine (ih k1 (by have:=HK1.out;omega) ((rd_T32 l0_3 x4_1).f0) ((rd_T32 l0_3 x4_1).f1) ((rd_T32 l0_3 x4_1).f2) _ _ ((rd_T32 l0_3 x4_1).f3) _ _ ((rd_T32 l0_3 x4_1).f4) t120 _ ?side1 ?side2 ?side3 ?side4 A20.out).mono ?_);(case side1=>exact ck (Kd.C_below HR119_3.out HB.out));(case side2=>exact HC119_3.out);(case side3=>exact ck (Kd.C_below HR119_4.out HB.out));(case side4=>exact HC119_4.out);rintro e w23 ⟨v121,rfl,ho0,hb⟩;refine ⟨_,rfl,?_⟩;have n_:=ai (Aside0.mk (Kd.R_elder' (rk HO_3.out) (Kd.R_base ho0) hb)) <| ai (Aside0.mk (Kd.R_lower (Kd.R_new' ho0 (Kd.R_lt (rk HO_3.out))) (below_size (bl HB.out)))) <| ai (bw BK112 hb) <| bq HB hb;clear HO_3 BK112 HB;obtain ⟨HO_3,HO122,BK112,HB⟩:=n_;(try clear hb);(try clear hb2);(try clear hk);(try clear hi);(try clear ho0);obtain ⟨Ao25,co25,eo25⟩:=Kd.R_slice HO122.out;subst eo25)|((with_reducible refine gate_builtin (b:=.append) (xs:=#[.tmp 25,.tmp 31]) rfl ?_);at_builtin;refine Kd.R_append_rows Kd.string (w0:=w) w.heap.size rfl (.tmp 25) (.tmp 31) 27 9 (.string ⟨#[]⟩) 16 rfl Try.underlying27 info9 rfl (by decide) (by omega) u3 x3_1 t120 _ _ _ (fun k_=>some k_≠(.slice Ao25 t120.length co25:Value).ownBlock) (fun _=>False) rfl rfl ?aO ?aR (fun _ _ h=>h) (fun _ h=>h.elim) ?aF ?aB ?aS ?aL ?_;(case aR=>repeat (first|exact (Kd.R_reads' HO122.out).2.2|(with_reducible refine Kd.C_alloc ?_ _)|(with_reducible refine Kd.C_drewN ?_ _)|(with_reducible refine Kd.C_drew ?_)));(case aB=>exact (bl HB.out));(case aF=>exact (fun k_ hk=>Kd.fresh' (Kd.R_lt (rk HO122.out)) k_ hk));(case aO=>exact (by (with_reducible repeat (first|apply Kd.R_alloc|apply Kd.R_drewN|apply Kd.R_drew));exact Kd.R_mono HO_3.out (fun _ hk=>hk.2)));(case aS=>exact (below_size (bl HB.out)));(case aL=>have:=LMc21.out;omega);intro v124 w24 ho hb hg hat;rw [← Ny123.out] at ho;have n_:=ai (Aside0.mk (blk_grown (g:=gb112) (o:=.cells #[.int .i64 a0_0,.int .i64 a0_1,.string a0_2,.slice (some ad119) l0_3.length c0_3,.slice A0_4 l0_4.length c0_4] 32 (0,0)) (bk BK112.out) hg (Kd.R_ne HO_3.out BK112.out (by decide)))) <| ai (Aside0.mk (Kd.R_after (ok:=(fun _=>True)) (rk HO122.out) hg hat)) <| ai (Aside0.mk (hb)) <| Aside0.mk (ho);clear BK112 HO122 HB HO_3;obtain ⟨BK112,HO122,HB,HO125⟩:=n_;clear ho hb hg hat))
       go_roundg k1
       case measure=>have:=HK1.out;omega
       case rel=>exact ⟨(y123),(wrap64 (x4_1 + 1)),(cl2),H',⟨by have:=HK1.out;omega⟩,⟨by (with_reducible repeat (first|apply Kd.R_alloc|apply Kd.R_drewN|apply Kd.R_drew));exact Kd.R_mono HO125.out (fun _ hk=>trivial)⟩,⟨bk BK112.out⟩,⟨bl HB.out⟩⟩
      ·rw [if_neg c21] at H
       exact absurd H (by simp)
     ·rw [if_neg c19] at H
      exact absurd H (by simp)
    ·rw [if_neg c18] at H
     have c18b0:decide (x4_1 < (l0_3.length:Int)) = false:=decide_eq_false c18;clear c18;obtain rfl:=Option.some.inj H;obtain ⟨hcz26_0,hcz26_1,hcz26_2,hcz26_3,hcz26_4⟩:=kb5 BK112.out
     go_wp2
     go_ret
     exact ⟨_,cl,rk HO_3.out,bl HB.out⟩

end Go.Proofs.Ytlgenmndgngmdaa.QFnExactFreeOf
