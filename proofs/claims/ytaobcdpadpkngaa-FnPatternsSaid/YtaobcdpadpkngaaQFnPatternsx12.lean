-- Written by a program of this workplace (print2.py) for this claim, over the print's words.
import Derived.Test.YtaobcdpadpkngaaQFnPatternsx0
import Derived.Test.YtaobcdpadpkngaaQFnPatternsx9
import Derived.Test.YtaobcdpadpkngaaQFnPatternsx11
namespace Go.Proofs.Ytaobcdpadpkngaa.QFnPatterns
open Go.RowKit Go.Proofs.YtaobcdpadpkngaaW.PrintWords Go.Proofs.YtaobcdpadpkngaaW.PrintLast Go.Proofs.YtaobcdpadpkngaaW.PrintMore
attribute [local go_sem] max2_int min2_int max_two min_two max_three min_three max_four min_four   -- for this text's walks alone
set_option linter.unusedVariables false
set_option linter.unusedSimpArgs false

/-! ### spec_l4Look: function 14 -/
mutual
def spec_l4Look.j0:Nat → Bool → Int → Int → Bool → Int → Int → ByteArray → List (S27) → List (S52) → Option (Int)
 | 0,_,_,_,_,_,_,_,_,_=>none
 | k + 1,x1,x2,x3,x22,x593000,x593001,x593002,x593003,x593004=>if x22 = true then (some (-1)) else (spec_l4Look.l0 k x1 x2 (wrap64 (x3 - 1)) 0 x593000 x593001 x593002 x593003 x593004)
def spec_l4Look.j2:Nat → Int → Int → Int → Int → ByteArray → List (S27) → List (S52) → Option (Int)
 | 0,_,_,_,_,_,_,_=>none
 | k + 1,x2,x3,x593000,x593001,x593002,x593003,x593004=>spec_l4Look.l1 k x2 x3 0 x593000 x593001 x593002 x593003 x593004
def spec_l4Look.l1:Nat → Int → Int → Int → Int → Int → ByteArray → List (S27) → List (S52) → Option (Int)
 | 0,_,_,_,_,_,_,_,_=>none
 | k + 1,x2,x3,x10,x593000,x593001,x593002,x593003,x593004=>if x10 < (x593004.length:Int) then (spec_l4Look.j4 k x2 x3 x10 (decide (x3 ≥ 0)) x593000 x593001 x593002 x593003 x593004) else (spec_l4Look.j4 k x2 x3 x10 false x593000 x593001 x593002 x593003 x593004)
def spec_l4Look.j4:Nat → Int → Int → Int → Bool → Int → Int → ByteArray → List (S27) → List (S52) → Option (Int)
 | 0,_,_,_,_,_,_,_,_,_=>none
 | k + 1,x2,x3,x10,x54,x593000,x593001,x593002,x593003,x593004=>if x54 = true then (if 0≤x10 then (if x10 < (x593004.length:Int) then ((spec_VarsOf.f k ((rd_T52 x593004 x10).f0.f0) ((rd_T52 x593004 x10).f0.f1) ((rd_T52 x593004 x10).f0.f2) ((rd_T52 x593004 x10).f0.f3) ((rd_T52 x593004 x10).f0.f4)).bind fun t597=>((spec_l4Once.f k t597).bind fun t600=>(if t600 = true then ((spec_l4Look.f k ((rd_T52 x593004 x10).f0.f0) ((rd_T52 x593004 x10).f0.f1) ((rd_T52 x593004 x10).f0.f2) ((rd_T52 x593004 x10).f0.f3) ((rd_T52 x593004 x10).f0.f4) true (wrap64 (x2 - 1)) x3).bind fun t602=>(if t602 ≥ 0 then ((spec_l4Look.f k ((rd_T52 x593004 x10).f1.f0) ((rd_T52 x593004 x10).f1.f1) ((rd_T52 x593004 x10).f1.f2) ((rd_T52 x593004 x10).f1.f3) ((rd_T52 x593004 x10).f1.f4) false (wrap64 (x2 - 1)) t602).bind fun t604=>(spec_l4Look.l1 k x2 t604 (wrap64 (x10 + 1)) x593000 x593001 x593002 x593003 x593004)) else (spec_l4Look.l1 k x2 t602 (wrap64 (x10 + 1)) x593000 x593001 x593002 x593003 x593004))) else (some (-1))))) else (none)) else (none)) else (some x3)
def spec_l4Look.l0:Nat → Bool → Int → Int → Int → Int → Int → ByteArray → List (S27) → List (S52) → Option (Int)
 | 0,_,_,_,_,_,_,_,_,_=>none
 | k + 1,x1,x2,x3,x9,x593000,x593001,x593002,x593003,x593004=>if x9 < (x593003.length:Int) then (if x3 ≥ 0 then (if 0≤x9 then ((spec_l4Look.f k ((rd_T27 x593003 x9).f0) ((rd_T27 x593003 x9).f1) ((rd_T27 x593003 x9).f2) ((rd_T27 x593003 x9).f3) ((rd_T27 x593003 x9).f4) x1 (wrap64 (x2 - 1)) x3).bind fun t595=>(spec_l4Look.l0 k x1 x2 t595 (wrap64 (x9 + 1)) x593000 x593001 x593002 x593003 x593004)) else (none)) else (spec_l4Look.j2 k x2 x3 x593000 x593001 x593002 x593003 x593004)) else (spec_l4Look.j2 k x2 x3 x593000 x593001 x593002 x593003 x593004)
def spec_l4Look.f:Nat → Int → Int → ByteArray → List (S27) → List (S52) → Bool → Int → Int → Option (Int)
 | 0,_,_,_,_,_,_,_,_=>none
 | k + 1,a0_0,a0_1,a0_2,l0_3,l0_4,a1,a2,a3=>if a2 < 1 then (spec_l4Look.j0 k a1 a2 a3 true a0_0 a0_1 a0_2 l0_3 l0_4) else (if a3 < 1 then (spec_l4Look.j0 k a1 a2 a3 true a0_0 a0_1 a0_2 l0_3 l0_4) else ((spec_l4Shape.f k a0_0 a0_1 a0_2 l0_3 l0_4 a1).bind fun t593=>(spec_l4Look.j0 k a1 a2 a3 (!t593) a0_0 a0_1 a0_2 l0_3 l0_4)))
end
theorem spec_l4Look.mono_l:∀ k,(∀ y0 y1 y2 y3 y4 y5 y6 y7,LeO (spec_l4Look.f k y0 y1 y2 y3 y4 y5 y6 y7) (spec_l4Look.f (k + 1) y0 y1 y2 y3 y4 y5 y6 y7))∧(∀ y0 y1 y2 y3 y4 y5 y6 y7 y8,LeO (spec_l4Look.j0 k y0 y1 y2 y3 y4 y5 y6 y7 y8) (spec_l4Look.j0 (k + 1) y0 y1 y2 y3 y4 y5 y6 y7 y8))∧(∀ y0 y1 y2 y3 y4 y5 y6,LeO (spec_l4Look.j2 k y0 y1 y2 y3 y4 y5 y6) (spec_l4Look.j2 (k + 1) y0 y1 y2 y3 y4 y5 y6))∧(∀ y0 y1 y2 y3 y4 y5 y6 y7,LeO (spec_l4Look.l1 k y0 y1 y2 y3 y4 y5 y6 y7) (spec_l4Look.l1 (k + 1) y0 y1 y2 y3 y4 y5 y6 y7))∧(∀ y0 y1 y2 y3 y4 y5 y6 y7 y8,LeO (spec_l4Look.j4 k y0 y1 y2 y3 y4 y5 y6 y7 y8) (spec_l4Look.j4 (k + 1) y0 y1 y2 y3 y4 y5 y6 y7 y8))∧(∀ y0 y1 y2 y3 y4 y5 y6 y7 y8,LeO (spec_l4Look.l0 k y0 y1 y2 y3 y4 y5 y6 y7 y8) (spec_l4Look.l0 (k + 1) y0 y1 y2 y3 y4 y5 y6 y7 y8))
 | 0=>⟨fun _ _ _ _ _ _ _ _ r h=>by simp [spec_l4Look.f] at h,fun _ _ _ _ _ _ _ _ _ r h=>by simp [spec_l4Look.j0] at h,fun _ _ _ _ _ _ _ r h=>by simp [spec_l4Look.j2] at h,fun _ _ _ _ _ _ _ _ r h=>by simp [spec_l4Look.l1] at h,fun _ _ _ _ _ _ _ _ _ r h=>by simp [spec_l4Look.j4] at h,fun _ _ _ _ _ _ _ _ _ r h=>by simp [spec_l4Look.l0] at h⟩
 | k + 1=>by
  obtain ⟨ih0,ih1,ih2,ih3,ih4,ih5⟩:=spec_l4Look.mono_l k
  refine ⟨?_,?_,?_,?_,?_,?_⟩
  ·intro y0 y1 y2 y3 y4 y5 y6 y7
   unfold spec_l4Look.f
   with_reducible repeat' first|apply ih0|apply ih1|apply ih2|apply ih3|apply ih4|apply ih5|apply spec_VarsOf.mono|apply spec_l4Once.mono|apply spec_l4Shape.mono|apply LeO.refl|apply LeO.none|apply LeO.ite|refine LeO.bind ?_ (fun _=>?_)
  ·intro y0 y1 y2 y3 y4 y5 y6 y7 y8
   unfold spec_l4Look.j0
   with_reducible repeat' first|apply ih0|apply ih1|apply ih2|apply ih3|apply ih4|apply ih5|apply spec_VarsOf.mono|apply spec_l4Once.mono|apply spec_l4Shape.mono|apply LeO.refl|apply LeO.none|apply LeO.ite|refine LeO.bind ?_ (fun _=>?_)
  ·intro y0 y1 y2 y3 y4 y5 y6
   unfold spec_l4Look.j2
   with_reducible repeat' first|apply ih0|apply ih1|apply ih2|apply ih3|apply ih4|apply ih5|apply spec_VarsOf.mono|apply spec_l4Once.mono|apply spec_l4Shape.mono|apply LeO.refl|apply LeO.none|apply LeO.ite|refine LeO.bind ?_ (fun _=>?_)
  ·intro y0 y1 y2 y3 y4 y5 y6 y7
   unfold spec_l4Look.l1
   with_reducible repeat' first|apply ih0|apply ih1|apply ih2|apply ih3|apply ih4|apply ih5|apply spec_VarsOf.mono|apply spec_l4Once.mono|apply spec_l4Shape.mono|apply LeO.refl|apply LeO.none|apply LeO.ite|refine LeO.bind ?_ (fun _=>?_)
  ·intro y0 y1 y2 y3 y4 y5 y6 y7 y8
   unfold spec_l4Look.j4
   with_reducible repeat' first|apply ih0|apply ih1|apply ih2|apply ih3|apply ih4|apply ih5|apply spec_VarsOf.mono|apply spec_l4Once.mono|apply spec_l4Shape.mono|apply LeO.refl|apply LeO.none|apply LeO.ite|refine LeO.bind ?_ (fun _=>?_)
  ·intro y0 y1 y2 y3 y4 y5 y6 y7 y8
   unfold spec_l4Look.l0
   with_reducible repeat' first|apply ih0|apply ih1|apply ih2|apply ih3|apply ih4|apply ih5|apply spec_VarsOf.mono|apply spec_l4Once.mono|apply spec_l4Shape.mono|apply LeO.refl|apply LeO.none|apply LeO.ite|refine LeO.bind ?_ (fun _=>?_)
theorem spec_l4Look.mono:∀ a0 a1 a2 a3 a4 a5 a6 a7 k,LeO (spec_l4Look.f k a0 a1 a2 a3 a4 a5 a6 a7) (spec_l4Look.f (k + 1) a0 a1 a2 a3 a4 a5 a6 a7):=by
 intro a0 a1 a2 a3 a4 a5 a6 a7 k;obtain ⟨ih0,ih1,ih2,ih3,ih4,ih5⟩:=spec_l4Look.mono_l k
 exact ih0 a0 a1 a2 a3 a4 a5 a6 a7
set_option maxHeartbeats 8000000 in
set_option maxRecDepth 100000 in
theorem spec_l4Look.calls (k:Nat):∀ (a0_0:Int) (a0_1:Int) (a0_2:ByteArray) (A0_3:Option Addr) (c0_3:Nat) (l0_3:List (S27)) (A0_4:Option Addr) (c0_4:Nat) (l0_4:List (S52)) (a1:Bool) (a2:Int) (a3:Int) (r:Int) (w:World) (hr0_3:Kd.C k27 w A0_3 l0_3.length l0_3) (hc0_3:l0_3.length≤c0_3) (hr0_4:Kd.C k52 w A0_4 l0_4.length l0_4) (hc0_4:l0_4.length≤c0_4) (h:spec_l4Look.f k a0_0 a0_1 a0_2 l0_3 l0_4 a1 a2 a3 = some r),
  Calls Try.prog 14 #[.agg #[.int .i64 a0_0,.int .i64 a0_1,.string a0_2,.slice A0_3 l0_3.length c0_3,.slice A0_4 l0_4.length c0_4],.bool a1,.int .i64 a2,.int .i64 a3] w fun e w'=>e = .returned (.int .i64 r)∧Below w.heap.size w w':=by
 induction k using Nat.strongRecOn with
 | _ k ih =>
 intro a0_0 a0_1 a0_2 A0_3 c0_3 l0_3 A0_4 c0_4 l0_4 a1 a2 a3 r w hr0_3 hc0_3 hr0_4 hc0_4 h
 cases k with
 | zero=>exact absurd h (by simp [spec_l4Look.f])
 | succ k =>
 simp only [spec_l4Look.f] at h;have hu27:=Try.underlying27;have HR0_3:=Aside0.mk hr0_3;have HC0_3:=Aside0.mk hc0_3;clear hr0_3 hc0_3;have HR0_4:=Aside0.mk hr0_4;have HC0_4:=Aside0.mk hc0_4;clear hr0_4 hc0_4;have HB:=Aside0.mk (Below.refl w.heap.size w);have H:(if a2 < 1 then (spec_l4Look.j0 k a1 a2 a3 true a0_0 a0_1 a0_2 l0_3 l0_4) else (if a3 < 1 then (spec_l4Look.j0 k a1 a2 a3 true a0_0 a0_1 a0_2 l0_3 l0_4) else ((spec_l4Shape.f k a0_0 a0_1 a0_2 l0_3 l0_4 a1).bind fun t593=>(spec_l4Look.j0 k a1 a2 a3 (!t593) a0_0 a0_1 a0_2 l0_3 l0_4)))) = some r:=h;clear h;have HC5:=Aside0.mk H;clear H
 go_enter Try.func14,Try.ntmps14
 go_upto_region 1 with (first|((with_reducible refine gate_dst (N:=4) rfl ?_);refine box_event ?hg (N:=4) ?hd (cs:=#[.int .i64 a0_0,.int .i64 a0_1,.string a0_2,.slice A0_3 l0_3.length c0_3,.slice A0_4 l0_4.length c0_4]) (t:=27) ?hr ?_;(case hd=>rfl);(case hg=>rfl);(case hr=>first|(go_simp;done)|(go_simp;rfl));intro gb592 hg w6 hbox hb;have n_:=ai (bq HB hb) <| aj (hbox) <| ai (bz hg HB) <| bz hg HB;clear HB;obtain ⟨HB,BK592,GW592,GE592⟩:=n_;clear hb hbox hg))
 (try simp only [Act.put,List.setIfInBounds_toArray,List.set_cons_zero,List.set_cons_succ])
 go_cut [22] (fun v22 wc=>∃ (kq:Nat) (x22_4:Bool),v22 = .bool x22_4∧Aside0 (spec_l4Look.j0 kq a1 a2 a3 x22_4 a0_0 a0_1 a0_2 l0_3 l0_4 = some r)∧Aside0 (kq≤k)∧Aside0 (wc.heap[gb592]? = some (.cells #[.int .i64 a0_0,.int .i64 a0_1,.string a0_2,(.slice A0_3 l0_3.length c0_3),(.slice A0_4 l0_4.length c0_4)] 27 (0,0)))∧Aside0 (Below w.heap.size w wc))
 case first =>
  have H:=HC5.out;clear HC5
  by_cases c7:a2 < 1
  ·rw [if_pos c7] at H
   have c7b0:decide (a2 < 1) = true:=decide_eq_true c7;clear c7
   (first|rw [c7b0]|(simp only [i64_w,i32_w];rw [c7b0])|(simp only [c7b2,Bool.not_true,Bool.not_false])|skip)
   have H':=Aside0.mk H;clear H
   go_wp2
   go_meet
   case rel=>exact ⟨_,(true),(cl2),H',⟨by first|omega|exact Nat.le_refl _⟩,⟨bk BK592.out⟩,⟨bl HB.out⟩⟩
  ·rw [if_neg c7] at H
   have c7b0:decide (a2 < 1) = false:=decide_eq_false c7;clear c7
   (first|rw [c7b0]|(simp only [i64_w,i32_w];rw [c7b0])|(simp only [c7b2,Bool.not_true,Bool.not_false])|skip)
   by_cases c8:a3 < 1
   ·rw [if_pos c8] at H
    have c8b0:decide (a3 < 1) = true:=decide_eq_true c8;clear c8;have H':=Aside0.mk H;clear H
    go_wp2
    go_meet
    case rel=>exact ⟨_,(true),(cl2),H',⟨by first|omega|exact Nat.le_refl _⟩,⟨bk BK592.out⟩,⟨bl HB.out⟩⟩
   ·rw [if_neg c8] at H
    have c8b0:decide (a3 < 1) = false:=decide_eq_false c8;clear c8;replace H:=Option.bind_eq_some_iff.mp H;obtain ⟨t593,A90,H⟩:=H;replace H:(spec_l4Look.j0 k a1 a2 a3 (!t593) a0_0 a0_1 a0_2 l0_3 l0_4) = some r:=H;have A9:=Aside0.mk A90;clear A90;have H':=Aside0.mk H;clear H;obtain ⟨h10_0,h10_1,h10_2,h10_3,h10_4⟩:=kb5 BK592.out
    go_wp2_with (first|(go_at_call 23;(with_reducible refine (spec_l4Shape.calls k a0_0 a0_1 a0_2 _ _ l0_3 _ _ l0_4 a1 t593 _ ?side1 ?side2 ?side3 ?side4 A9.out).mono ?_);(case side1=>exact ck (Kd.C_below HR0_3.out HB.out));(case side2=>exact HC0_3.out);(case side3=>exact ck (Kd.C_below HR0_4.out HB.out));(case side4=>exact HC0_4.out);rintro e w11 ⟨rfl,hb⟩;have n_:=ai (bw BK592 hb) <| bq HB hb;clear BK592 HB;obtain ⟨BK592,HB⟩:=n_;(try clear hb);(try clear hi)))
    go_meet
    case rel=>exact ⟨_,(!t593),(cl2),H',⟨by first|omega|exact Nat.le_refl _⟩,⟨bk BK592.out⟩,⟨bl HB.out⟩⟩
 case rest =>
  clear HC5;(try clear BK592);(try clear HB);obtain ⟨kq,x22_4,rfl,HA,HJ4,BK592,HB⟩:=hcut
  cases kq with
  | zero=>exact absurd HA.out (by simp [spec_l4Look.j0])
  | succ kj4 =>
   have H:=HA.out;clear HA;simp only [spec_l4Look.j0] at H
   by_cases c12:x22_4 = true
   ·subst c12
    have H1:(some (-1)) = some r:=by rw [if_pos rfl] at H;exact H
    clear H;have H:=H1;clear H1;obtain rfl:=Option.some.inj H
    go_wp2
    go_ret
    exact ⟨cl,bl HB.out⟩
   ·replace c12:=Bool.eq_false_iff.mpr c12
    subst c12;have H1:(spec_l4Look.l0 kj4 a1 a2 (wrap64 (a3 - 1)) 0 a0_0 a0_1 a0_2 l0_3 l0_4) = some r:=nt H
    clear H;have H:=H1;clear H1;have HC13:=Aside0.mk H;clear H
    go_upto_block 0 with (fail)
    go_cut [3] (fun v3 wc=>∃ (kq:Nat) (x3_12:Int),v3 = .int .i64 x3_12∧Aside0 (spec_l4Look.j2 kq a2 x3_12 a0_0 a0_1 a0_2 l0_3 l0_4 = some r)∧Aside0 (kq≤kj4)∧Aside0 (wc.heap[gb592]? = some (.cells #[.int .i64 a0_0,.int .i64 a0_1,.string a0_2,(.slice A0_3 l0_3.length c0_3),(.slice A0_4 l0_4.length c0_4)] 27 (0,0)))∧Aside0 (Below w.heap.size w wc))
    case first =>
     have H:=HC13.out;clear HC13;have H':=Aside0.mk H;clear H
     go_wp2
     go_loopg [3,9] kj4 (fun kq v3 v9 w'=>∃ (x3_2:Int) (x9_2:Int),v3 = .int .i64 x3_2∧v9 = .int .i64 x9_2∧Aside0 (spec_l4Look.l0 kq a1 a2 x3_2 x9_2 a0_0 a0_1 a0_2 l0_3 l0_4 = some r)∧Aside0 (kq≤kj4)∧Aside0 (w'.heap[gb592]? = some (.cells #[.int .i64 a0_0,.int .i64 a0_1,.string a0_2,(.slice A0_3 l0_3.length c0_3),(.slice A0_4 l0_4.length c0_4)] 27 (0,0)))∧Aside0 (Below w.heap.size w w'))
     case atStart=>exact ⟨(wrap64 (a3 - 1)),(0),(cl2),(cl2),H',⟨Nat.le_refl _⟩,⟨bk BK592.out⟩,⟨bl HB.out⟩⟩
     case round =>
      clear H';(try clear c12);(try clear p2);(try clear BK592);(try clear HB);obtain ⟨x3_2,x9_2,rfl,rfl,HA,HK2,BK592,HB⟩:=hrel
      cases gk with
      | zero=>exact absurd HA.out (by simp [spec_l4Look.l0])
      | succ k2 =>
       have H:=HA.out;clear HA;simp only [spec_l4Look.l0] at H
       by_cases c14:x9_2 < (l0_3.length:Int)
       ·rw [if_pos c14] at H
        have c14b0:decide (x9_2 < (l0_3.length:Int)) = true:=decide_eq_true c14;clear c14
        (first|rw [c14b0]|(simp only [i64_w,i32_w];rw [c14b0])|(simp only [c14b2,Bool.not_true,Bool.not_false])|skip)
        by_cases c15:x3_2 ≥ 0
        ·rw [if_pos c15] at H
         have c15b0:decide (0≤x3_2) = true:=decide_eq_true c15;clear c15
         by_cases c16:0≤x9_2
         ·rw [if_pos c16] at H
          have c16b0:decide (0≤x9_2) = true:=decide_eq_true c16;clear c16;replace H:=Option.bind_eq_some_iff.mp H;obtain ⟨t595,A170,H⟩:=H;replace H:(spec_l4Look.l0 k2 a1 a2 t595 (wrap64 (x9_2 + 1)) a0_0 a0_1 a0_2 l0_3 l0_4) = some r:=H;have A17:=Aside0.mk A170;clear A170;have H':=Aside0.mk H;clear H;obtain ⟨h18_0,h18_1,h18_2,h18_3,h18_4⟩:=kb5 BK592.out;have p594:0≤(x9_2:Int):=od;have q594:x9_2 < (l0_3.length:Int):=od;obtain ⟨ad594,A594_3,c594_3,A594_4,c594_4,e594,hx594_0,hx594_1,hx594_2,hx594_3,hx594_4,hl594_3,hi594_3,hl594_4,hi594_4⟩:=at_T27 HR0_3.out x9_2 p594 q594;cases e594;replace hx594_0:=cb HB hx594_0;replace hx594_1:=cb HB hx594_1;replace hx594_2:=cb HB hx594_2;replace hx594_3:=cb HB hx594_3;replace hx594_4:=cb HB hx594_4;have HR594_3:=Aside0.mk hi594_3;have HC594_3:=Aside0.mk hl594_3;clear hi594_3 hl594_3;have HR594_4:=Aside0.mk hi594_4;have HC594_4:=Aside0.mk hl594_4;clear hi594_4 hl594_4;replace p594:=eq_true p594;replace q594:=eq_true q594
          go_wp2_with (first|((with_reducible refine gate_callee (f:=14) rfl ?_);refine goesL_ (some 45) rfl rfl Try.func14 (by kernel_rfl) rfl #[.agg #[.int .i64 ((rd_T27 l0_3 x9_2).f0),.int .i64 ((rd_T27 l0_3 x9_2).f1),.string ((rd_T27 l0_3 x9_2).f2),.slice A594_3 ((rd_T27 l0_3 x9_2).f3).length c594_3,.slice A594_4 ((rd_T27 l0_3 x9_2).f4).length c594_4],.bool a1,.int .i64 (wrap64 (a2 - 1)),.int .i64 x3_2] rfl gs ?_;(with_reducible refine (ih k2 (by have:=HJ4.out;have:=HK2.out;omega) ((rd_T27 l0_3 x9_2).f0) ((rd_T27 l0_3 x9_2).f1) ((rd_T27 l0_3 x9_2).f2) _ _ ((rd_T27 l0_3 x9_2).f3) _ _ ((rd_T27 l0_3 x9_2).f4) a1 (wrap64 (a2 - 1)) x3_2 t595 _ ?side1 ?side2 ?side3 ?side4 A17.out).mono ?_);(case side1=>exact ck (Kd.C_below HR594_3.out HB.out));(case side2=>exact HC594_3.out);(case side3=>exact ck (Kd.C_below HR594_4.out HB.out));(case side4=>exact HC594_4.out);rintro e w19 ⟨rfl,hb⟩;refine ⟨_,rfl,?_⟩;have n_:=ai (bw BK592 hb) <| bq HB hb;clear BK592 HB;obtain ⟨BK592,HB⟩:=n_;(try clear hb);(try clear hi)))
          go_roundg k2
          case measure=>have:=HJ4.out;have:=HK2.out;omega
          case rel=>exact ⟨(t595),(wrap64 (x9_2 + 1)),(cl2),(cl2),H',⟨by have:=HJ4.out;have:=HK2.out;omega⟩,⟨bk BK592.out⟩,⟨bl HB.out⟩⟩
         ·rw [if_neg c16] at H
          exact absurd H (by simp)
        ·rw [if_neg c15] at H
         have c15b0:decide (0≤x3_2) = false:=decide_eq_false c15;clear c15;have H':=Aside0.mk H;clear H;obtain ⟨h20_0,h20_1,h20_2,h20_3,h20_4⟩:=kb5 BK592.out
         go_wp2
         go_meet
         case rel=>exact ⟨_,(x3_2),(cl2),H',⟨by have:=HJ4.out;have:=HK2.out;first|omega|exact Nat.le_refl _⟩,⟨bk BK592.out⟩,⟨bl HB.out⟩⟩
       ·rw [if_neg c14] at H
        have c14b0:decide (x9_2 < (l0_3.length:Int)) = false:=decide_eq_false c14;clear c14
        (first|rw [c14b0]|(simp only [i64_w,i32_w];rw [c14b0])|(simp only [c14b2,Bool.not_true,Bool.not_false])|skip)
        have H':=Aside0.mk H;clear H;obtain ⟨h21_0,h21_1,h21_2,h21_3,h21_4⟩:=kb5 BK592.out
        go_wp2
        go_meet
        case rel=>exact ⟨_,(x3_2),(cl2),H',⟨by have:=HJ4.out;have:=HK2.out;first|omega|exact Nat.le_refl _⟩,⟨bk BK592.out⟩,⟨bl HB.out⟩⟩
    case rest =>
     clear HC13;(try clear c12);(try clear p2);(try clear p6);(try clear BK592);(try clear HB);obtain ⟨kq,x3_12,rfl,HA,HJ12,BK592,HB⟩:=hcut
     cases kq with
     | zero=>exact absurd HA.out (by simp [spec_l4Look.j2])
     | succ kj12 =>
      have H:=HA.out;clear HA;simp only [spec_l4Look.j2] at H;have H':=Aside0.mk H;clear H
      go_wp2
      go_loopg [3,10] kj12 (fun kq v3 v10 w'=>∃ (x3_3:Int) (x10_3:Int),v3 = .int .i64 x3_3∧v10 = .int .i64 x10_3∧Aside0 (spec_l4Look.l1 kq a2 x3_3 x10_3 a0_0 a0_1 a0_2 l0_3 l0_4 = some r)∧Aside0 (kq≤kj12)∧Aside0 (w'.heap[gb592]? = some (.cells #[.int .i64 a0_0,.int .i64 a0_1,.string a0_2,(.slice A0_3 l0_3.length c0_3),(.slice A0_4 l0_4.length c0_4)] 27 (0,0)))∧Aside0 (Below w.heap.size w w'))
      case atStart=>exact ⟨(x3_12),(0),(cl2),(cl2),H',⟨Nat.le_refl _⟩,⟨bk BK592.out⟩,⟨bl HB.out⟩⟩
      case round =>
       clear H';(try clear c12);(try clear p2);(try clear p5);(try clear p6);(try clear q5);(try clear BK592);(try clear HB);obtain ⟨x3_3,x10_3,rfl,rfl,HA,HK3,BK592,HB⟩:=hrel
       cases gk with
       | zero=>exact absurd HA.out (by simp [spec_l4Look.l1])
       | succ k3 =>
        have H:=HA.out;clear HA;simp only [spec_l4Look.l1] at H;have HC22:=Aside0.mk H;clear H
        go_upto_region 9 with (fail)
        go_cut [54] (fun v54 wc=>∃ (kq:Nat) (x54_21:Bool),v54 = .bool x54_21∧Aside0 (spec_l4Look.j4 kq a2 x3_3 x10_3 x54_21 a0_0 a0_1 a0_2 l0_3 l0_4 = some r)∧Aside0 (kq≤k3)∧Aside0 (wc.heap[gb592]? = some (.cells #[.int .i64 a0_0,.int .i64 a0_1,.string a0_2,(.slice A0_3 l0_3.length c0_3),(.slice A0_4 l0_4.length c0_4)] 27 (0,0)))∧Aside0 (Below w.heap.size w wc))
        case first =>
         have H:=HC22.out;clear HC22
         by_cases c23:x10_3 < (l0_4.length:Int)
         ·rw [if_pos c23] at H
          have c23b0:decide (x10_3 < (l0_4.length:Int)) = true:=decide_eq_true c23;clear c23
          (first|rw [c23b0]|(simp only [i64_w,i32_w];rw [c23b0])|(simp only [c23b2,Bool.not_true,Bool.not_false])|skip)
          have H':=Aside0.mk H;clear H;obtain ⟨h24_0,h24_1,h24_2,h24_3,h24_4⟩:=kb5 BK592.out
          go_wp2
          go_meet
          case rel=>exact ⟨_,(decide (x3_3 ≥ 0)),(cl2),H',⟨by have:=HJ4.out;have:=HJ12.out;have:=HK3.out;first|omega|exact Nat.le_refl _⟩,⟨bk BK592.out⟩,⟨bl HB.out⟩⟩
         ·rw [if_neg c23] at H
          have c23b0:decide (x10_3 < (l0_4.length:Int)) = false:=decide_eq_false c23;clear c23
          (first|rw [c23b0]|(simp only [i64_w,i32_w];rw [c23b0])|(simp only [c23b2,Bool.not_true,Bool.not_false])|skip)
          have H':=Aside0.mk H;clear H;obtain ⟨h25_0,h25_1,h25_2,h25_3,h25_4⟩:=kb5 BK592.out
          go_wp2
          go_meet
          case rel=>exact ⟨_,(false),(cl2),H',⟨by have:=HJ4.out;have:=HJ12.out;have:=HK3.out;first|omega|exact Nat.le_refl _⟩,⟨bk BK592.out⟩,⟨bl HB.out⟩⟩
        case rest =>
         clear HC22;(try clear c12);(try clear p2);(try clear p5);(try clear p6);(try clear q5);(try clear BK592);(try clear HB);obtain ⟨kq,x54_21,rfl,HA,HJ21,BK592,HB⟩:=hcut
         cases kq with
         | zero=>exact absurd HA.out (by simp [spec_l4Look.j4])
         | succ kj21 =>
          have H:=HA.out;clear HA;simp only [spec_l4Look.j4] at H
          by_cases c26:x54_21 = true
          ·subst c26
           have H1:(if 0≤x10_3 then (if x10_3 < (l0_4.length:Int) then ((spec_VarsOf.f kj21 ((rd_T52 l0_4 x10_3).f0.f0) ((rd_T52 l0_4 x10_3).f0.f1) ((rd_T52 l0_4 x10_3).f0.f2) ((rd_T52 l0_4 x10_3).f0.f3) ((rd_T52 l0_4 x10_3).f0.f4)).bind fun t597=>((spec_l4Once.f kj21 t597).bind fun t600=>(if t600 = true then ((spec_l4Look.f kj21 ((rd_T52 l0_4 x10_3).f0.f0) ((rd_T52 l0_4 x10_3).f0.f1) ((rd_T52 l0_4 x10_3).f0.f2) ((rd_T52 l0_4 x10_3).f0.f3) ((rd_T52 l0_4 x10_3).f0.f4) true (wrap64 (a2 - 1)) x3_3).bind fun t602=>(if t602 ≥ 0 then ((spec_l4Look.f kj21 ((rd_T52 l0_4 x10_3).f1.f0) ((rd_T52 l0_4 x10_3).f1.f1) ((rd_T52 l0_4 x10_3).f1.f2) ((rd_T52 l0_4 x10_3).f1.f3) ((rd_T52 l0_4 x10_3).f1.f4) false (wrap64 (a2 - 1)) t602).bind fun t604=>(spec_l4Look.l1 kj21 a2 t604 (wrap64 (x10_3 + 1)) a0_0 a0_1 a0_2 l0_3 l0_4)) else (spec_l4Look.l1 kj21 a2 t602 (wrap64 (x10_3 + 1)) a0_0 a0_1 a0_2 l0_3 l0_4))) else (some (-1))))) else (none)) else (none)) = some r:=by rw [if_pos rfl] at H;exact H
           clear H;have H:=H1;clear H1
           by_cases c27:0≤x10_3
           ·rw [if_pos c27] at H
            have c27b0:decide (0≤x10_3) = true:=decide_eq_true c27;clear c27
            by_cases c28:x10_3 < (l0_4.length:Int)
            ·rw [if_pos c28] at H
             have c28b0:decide (x10_3 < (l0_4.length:Int)) = true:=decide_eq_true c28;clear c28;replace H:=Option.bind_eq_some_iff.mp H;obtain ⟨t597,A290,H⟩:=H;replace H:((spec_l4Once.f kj21 t597).bind fun t600=>(if t600 = true then ((spec_l4Look.f kj21 ((rd_T52 l0_4 x10_3).f0.f0) ((rd_T52 l0_4 x10_3).f0.f1) ((rd_T52 l0_4 x10_3).f0.f2) ((rd_T52 l0_4 x10_3).f0.f3) ((rd_T52 l0_4 x10_3).f0.f4) true (wrap64 (a2 - 1)) x3_3).bind fun t602=>(if t602 ≥ 0 then ((spec_l4Look.f kj21 ((rd_T52 l0_4 x10_3).f1.f0) ((rd_T52 l0_4 x10_3).f1.f1) ((rd_T52 l0_4 x10_3).f1.f2) ((rd_T52 l0_4 x10_3).f1.f3) ((rd_T52 l0_4 x10_3).f1.f4) false (wrap64 (a2 - 1)) t602).bind fun t604=>(spec_l4Look.l1 kj21 a2 t604 (wrap64 (x10_3 + 1)) a0_0 a0_1 a0_2 l0_3 l0_4)) else (spec_l4Look.l1 kj21 a2 t602 (wrap64 (x10_3 + 1)) a0_0 a0_1 a0_2 l0_3 l0_4))) else (some (-1)))) = some r:=H;have A29:=Aside0.mk A290;clear A290;replace H:=Option.bind_eq_some_iff.mp H;obtain ⟨t600,A300,H⟩:=H;replace H:(if t600 = true then ((spec_l4Look.f kj21 ((rd_T52 l0_4 x10_3).f0.f0) ((rd_T52 l0_4 x10_3).f0.f1) ((rd_T52 l0_4 x10_3).f0.f2) ((rd_T52 l0_4 x10_3).f0.f3) ((rd_T52 l0_4 x10_3).f0.f4) true (wrap64 (a2 - 1)) x3_3).bind fun t602=>(if t602 ≥ 0 then ((spec_l4Look.f kj21 ((rd_T52 l0_4 x10_3).f1.f0) ((rd_T52 l0_4 x10_3).f1.f1) ((rd_T52 l0_4 x10_3).f1.f2) ((rd_T52 l0_4 x10_3).f1.f3) ((rd_T52 l0_4 x10_3).f1.f4) false (wrap64 (a2 - 1)) t602).bind fun t604=>(spec_l4Look.l1 kj21 a2 t604 (wrap64 (x10_3 + 1)) a0_0 a0_1 a0_2 l0_3 l0_4)) else (spec_l4Look.l1 kj21 a2 t602 (wrap64 (x10_3 + 1)) a0_0 a0_1 a0_2 l0_3 l0_4))) else (some (-1))) = some r:=H;have A30:=Aside0.mk A300;clear A300
             by_cases c31:t600 = true
             ·subst c31
              have H1:((spec_l4Look.f kj21 ((rd_T52 l0_4 x10_3).f0.f0) ((rd_T52 l0_4 x10_3).f0.f1) ((rd_T52 l0_4 x10_3).f0.f2) ((rd_T52 l0_4 x10_3).f0.f3) ((rd_T52 l0_4 x10_3).f0.f4) true (wrap64 (a2 - 1)) x3_3).bind fun t602=>(if t602 ≥ 0 then ((spec_l4Look.f kj21 ((rd_T52 l0_4 x10_3).f1.f0) ((rd_T52 l0_4 x10_3).f1.f1) ((rd_T52 l0_4 x10_3).f1.f2) ((rd_T52 l0_4 x10_3).f1.f3) ((rd_T52 l0_4 x10_3).f1.f4) false (wrap64 (a2 - 1)) t602).bind fun t604=>(spec_l4Look.l1 kj21 a2 t604 (wrap64 (x10_3 + 1)) a0_0 a0_1 a0_2 l0_3 l0_4)) else (spec_l4Look.l1 kj21 a2 t602 (wrap64 (x10_3 + 1)) a0_0 a0_1 a0_2 l0_3 l0_4))) = some r:=by rw [if_pos rfl] at H;exact H
              clear H;have H:=H1;clear H1;replace H:=Option.bind_eq_some_iff.mp H;obtain ⟨t602,A320,H⟩:=H;replace H:(if t602 ≥ 0 then ((spec_l4Look.f kj21 ((rd_T52 l0_4 x10_3).f1.f0) ((rd_T52 l0_4 x10_3).f1.f1) ((rd_T52 l0_4 x10_3).f1.f2) ((rd_T52 l0_4 x10_3).f1.f3) ((rd_T52 l0_4 x10_3).f1.f4) false (wrap64 (a2 - 1)) t602).bind fun t604=>(spec_l4Look.l1 kj21 a2 t604 (wrap64 (x10_3 + 1)) a0_0 a0_1 a0_2 l0_3 l0_4)) else (spec_l4Look.l1 kj21 a2 t602 (wrap64 (x10_3 + 1)) a0_0 a0_1 a0_2 l0_3 l0_4)) = some r:=H;have A32:=Aside0.mk A320;clear A320
              by_cases c33:t602 ≥ 0
              ·rw [if_pos c33] at H
               have c33b0:decide (0≤t602) = true:=decide_eq_true c33;clear c33;replace H:=Option.bind_eq_some_iff.mp H;obtain ⟨t604,A340,H⟩:=H;replace H:(spec_l4Look.l1 kj21 a2 t604 (wrap64 (x10_3 + 1)) a0_0 a0_1 a0_2 l0_3 l0_4) = some r:=H;have A34:=Aside0.mk A340;clear A340;have H':=Aside0.mk H;clear H;obtain ⟨h35_0,h35_1,h35_2,h35_3,h35_4⟩:=kb5 BK592.out;have p596:0≤(x10_3:Int):=od;have q596:x10_3 < (l0_4.length:Int):=od;obtain ⟨ad596,A596_3,c596_3,A596_4,c596_4,A596_8,c596_8,A596_9,c596_9,e596,hx596_0,hx596_1,hx596_2,hx596_3,hx596_4,hx596_5,hx596_6,hx596_7,hx596_8,hx596_9,hl596_3,hi596_3,hl596_4,hi596_4,hl596_8,hi596_8,hl596_9,hi596_9⟩:=at_T52 HR0_4.out x10_3 p596 q596;cases e596;replace hx596_0:=cb HB hx596_0;replace hx596_1:=cb HB hx596_1;replace hx596_2:=cb HB hx596_2;replace hx596_3:=cb HB hx596_3;replace hx596_4:=cb HB hx596_4;replace hx596_5:=cb HB hx596_5;replace hx596_6:=cb HB hx596_6;replace hx596_7:=cb HB hx596_7;replace hx596_8:=cb HB hx596_8;replace hx596_9:=cb HB hx596_9;have HR596_3:=Aside0.mk hi596_3;have HC596_3:=Aside0.mk hl596_3;clear hi596_3 hl596_3;have HR596_4:=Aside0.mk hi596_4;have HC596_4:=Aside0.mk hl596_4;clear hi596_4 hl596_4;have HR596_8:=Aside0.mk hi596_8;have HC596_8:=Aside0.mk hl596_8;clear hi596_8 hl596_8;have HR596_9:=Aside0.mk hi596_9;have HC596_9:=Aside0.mk hl596_9;clear hi596_9 hl596_9;replace p596:=eq_true p596;replace q596:=eq_true q596
               go_wp2_with (first|((with_reducible refine gate_callee (f:=9) rfl ?_);refine goesL_ (some 63) rfl rfl Try.func9 (by kernel_rfl) rfl #[.agg #[.int .i64 ((rd_T52 l0_4 x10_3).f0.f0),.int .i64 ((rd_T52 l0_4 x10_3).f0.f1),.string ((rd_T52 l0_4 x10_3).f0.f2),.slice A596_3 ((rd_T52 l0_4 x10_3).f0.f3).length c596_3,.slice A596_4 ((rd_T52 l0_4 x10_3).f0.f4).length c596_4]] rfl gs ?_;(with_reducible refine (spec_VarsOf.calls kj21 ((rd_T52 l0_4 x10_3).f0.f0) ((rd_T52 l0_4 x10_3).f0.f1) ((rd_T52 l0_4 x10_3).f0.f2) _ _ ((rd_T52 l0_4 x10_3).f0.f3) _ _ ((rd_T52 l0_4 x10_3).f0.f4) t597 _ ?side1 ?side2 ?side3 ?side4 A29.out).mono ?_);(case side1=>exact ck (Kd.C_below HR596_3.out HB.out));(case side2=>exact HC596_3.out);(case side3=>exact ck (Kd.C_below HR596_4.out HB.out));(case side4=>exact HC596_4.out);rintro e w36 ⟨v598,rfl,ho0,hb⟩;refine ⟨_,rfl,?_⟩;have n_:=aj (Kd.R_lower ho0 (below_size (bl HB.out))) <| ai (bw BK592 hb) <| bq HB hb;clear BK592 HB;obtain ⟨HO599,BK592,HB⟩:=n_;(try clear hb);(try clear ho0);obtain ⟨Ao37,co37,eo37⟩:=Kd.R_slice HO599.out;subst eo37)|((with_reducible refine gate_callee (f:=15) rfl ?_);refine goesL_ (some 64) rfl rfl Try.func15 (by kernel_rfl) rfl #[.slice Ao37 t597.length co37] rfl gs ?_;(with_reducible refine (spec_l4Once.calls kj21 _ _ t597 true _ ?side1 ?side2 A30.out).mono ?_);(case side1=>repeat (first|exact (Kd.R_reads' HO599.out).2.2|(with_reducible refine Kd.C_alloc ?_ _)|(with_reducible refine Kd.C_drewN ?_ _)|(with_reducible refine Kd.C_drew ?_)));(case side2=>exact (Kd.R_reads' HO599.out).2.1);rintro e w' ⟨rfl,⟨nd,rfl⟩⟩;refine ⟨_,rfl,?_⟩;obtain ⟨h38_0,h38_1,h38_2,h38_3,h38_4⟩:=kb5 BK592.out;obtain ⟨z38_0,z38_1,z38_2,z38_3,z38_4⟩:=kz5 BK592.out;have p601:0≤(x10_3:Int):=od;have q601:x10_3 < (l0_4.length:Int):=od;obtain ⟨ad601,A601_3,c601_3,A601_4,c601_4,A601_8,c601_8,A601_9,c601_9,e601,hx601_0,hx601_1,hx601_2,hx601_3,hx601_4,hx601_5,hx601_6,hx601_7,hx601_8,hx601_9,hl601_3,hi601_3,hl601_4,hi601_4,hl601_8,hi601_8,hl601_9,hi601_9⟩:=at_T52 HR0_4.out x10_3 p601 q601;obtain rfl:ad596 = ad601:=(by injection e601);replace hx601_0:=cb HB hx601_0;replace hx601_1:=cb HB hx601_1;replace hx601_2:=cb HB hx601_2;replace hx601_3:=cb HB hx601_3;replace hx601_4:=cb HB hx601_4;replace hx601_5:=cb HB hx601_5;replace hx601_6:=cb HB hx601_6;replace hx601_7:=cb HB hx601_7;replace hx601_8:=cb HB hx601_8;replace hx601_9:=cb HB hx601_9;have HR601_3:=Aside0.mk hi601_3;have HC601_3:=Aside0.mk hl601_3;clear hi601_3 hl601_3;have HR601_4:=Aside0.mk hi601_4;have HC601_4:=Aside0.mk hl601_4;clear hi601_4 hl601_4;have HR601_8:=Aside0.mk hi601_8;have HC601_8:=Aside0.mk hl601_8;clear hi601_8 hl601_8;have HR601_9:=Aside0.mk hi601_9;have HC601_9:=Aside0.mk hl601_9;clear hi601_9 hl601_9;replace p601:=eq_true p601;replace q601:=eq_true q601)|((with_reducible refine gate_callee (f:=14) rfl ?_);refine goesL_ (some 75) rfl rfl Try.func14 (by kernel_rfl) rfl #[.agg #[.int .i64 ((rd_T52 l0_4 x10_3).f0.f0),.int .i64 ((rd_T52 l0_4 x10_3).f0.f1),.string ((rd_T52 l0_4 x10_3).f0.f2),.slice A601_3 ((rd_T52 l0_4 x10_3).f0.f3).length c601_3,.slice A601_4 ((rd_T52 l0_4 x10_3).f0.f4).length c601_4],.bool true,.int .i64 (wrap64 (a2 - 1)),.int .i64 x3_3] rfl gs ?_;(with_reducible refine (ih kj21 (by have:=HJ4.out;have:=HJ12.out;have:=HK3.out;have:=HJ21.out;omega) ((rd_T52 l0_4 x10_3).f0.f0) ((rd_T52 l0_4 x10_3).f0.f1) ((rd_T52 l0_4 x10_3).f0.f2) _ _ ((rd_T52 l0_4 x10_3).f0.f3) _ _ ((rd_T52 l0_4 x10_3).f0.f4) true (wrap64 (a2 - 1)) x3_3 t602 _ ?side1 ?side2 ?side3 ?side4 A32.out).mono ?_);(case side1=>repeat (first|exact (Kd.C_below HR601_3.out (bl HB.out))|(with_reducible refine Kd.C_alloc ?_ _)|(with_reducible refine Kd.C_drewN ?_ _)|(with_reducible refine Kd.C_drew ?_)));(case side2=>exact HC601_3.out);(case side3=>repeat (first|exact (Kd.C_below HR601_4.out (bl HB.out))|(with_reducible refine Kd.C_alloc ?_ _)|(with_reducible refine Kd.C_drewN ?_ _)|(with_reducible refine Kd.C_drew ?_)));(case side4=>exact HC601_4.out);rintro e w39 ⟨rfl,hb⟩;refine ⟨_,rfl,?_⟩;have n_:=ai (rwm HO599 hb) <| ai (bw BK592 hb) <| bq HB hb;clear HO599 BK592 HB;obtain ⟨HO599,BK592,HB⟩:=n_;(try clear hb);(try clear hb2);(try clear hk);(try clear hi);obtain ⟨h40_0,h40_1,h40_2,h40_3,h40_4⟩:=kb5 BK592.out;obtain ⟨z40_0,z40_1,z40_2,z40_3,z40_4⟩:=kz5 BK592.out;have p603:0≤(x10_3:Int):=od;have q603:x10_3 < (l0_4.length:Int):=od;obtain ⟨ad603,A603_3,c603_3,A603_4,c603_4,A603_8,c603_8,A603_9,c603_9,e603,hx603_0,hx603_1,hx603_2,hx603_3,hx603_4,hx603_5,hx603_6,hx603_7,hx603_8,hx603_9,hl603_3,hi603_3,hl603_4,hi603_4,hl603_8,hi603_8,hl603_9,hi603_9⟩:=at_T52 HR0_4.out x10_3 p603 q603;obtain rfl:ad596 = ad603:=(by injection e603);replace hx603_0:=cb HB hx603_0;replace hx603_1:=cb HB hx603_1;replace hx603_2:=cb HB hx603_2;replace hx603_3:=cb HB hx603_3;replace hx603_4:=cb HB hx603_4;replace hx603_5:=cb HB hx603_5;replace hx603_6:=cb HB hx603_6;replace hx603_7:=cb HB hx603_7;replace hx603_8:=cb HB hx603_8;replace hx603_9:=cb HB hx603_9;have HR603_3:=Aside0.mk hi603_3;have HC603_3:=Aside0.mk hl603_3;clear hi603_3 hl603_3;have HR603_4:=Aside0.mk hi603_4;have HC603_4:=Aside0.mk hl603_4;clear hi603_4 hl603_4;have HR603_8:=Aside0.mk hi603_8;have HC603_8:=Aside0.mk hl603_8;clear hi603_8 hl603_8;have HR603_9:=Aside0.mk hi603_9;have HC603_9:=Aside0.mk hl603_9;clear hi603_9 hl603_9;replace p603:=eq_true p603;replace q603:=eq_true q603)|((with_reducible refine gate_callee (f:=14) rfl ?_);refine goesL_ (some 87) rfl rfl Try.func14 (by kernel_rfl) rfl #[.agg #[.int .i64 ((rd_T52 l0_4 x10_3).f1.f0),.int .i64 ((rd_T52 l0_4 x10_3).f1.f1),.string ((rd_T52 l0_4 x10_3).f1.f2),.slice A603_8 ((rd_T52 l0_4 x10_3).f1.f3).length c603_8,.slice A603_9 ((rd_T52 l0_4 x10_3).f1.f4).length c603_9],.bool false,.int .i64 (wrap64 (a2 - 1)),.int .i64 t602] rfl gs ?_;(with_reducible refine (ih kj21 (by have:=HJ4.out;have:=HJ12.out;have:=HK3.out;have:=HJ21.out;omega) ((rd_T52 l0_4 x10_3).f1.f0) ((rd_T52 l0_4 x10_3).f1.f1) ((rd_T52 l0_4 x10_3).f1.f2) _ _ ((rd_T52 l0_4 x10_3).f1.f3) _ _ ((rd_T52 l0_4 x10_3).f1.f4) false (wrap64 (a2 - 1)) t602 t604 _ ?side1 ?side2 ?side3 ?side4 A34.out).mono ?_);(case side1=>exact ck (Kd.C_below HR603_8.out HB.out));(case side2=>exact HC603_8.out);(case side3=>exact ck (Kd.C_below HR603_9.out HB.out));(case side4=>exact HC603_9.out);rintro e w41 ⟨rfl,hb⟩;refine ⟨_,rfl,?_⟩;have n_:=ai (rwm HO599 hb) <| ai (bw BK592 hb) <| bq HB hb;clear HO599 BK592 HB;obtain ⟨HO599,BK592,HB⟩:=n_;(try clear hb);(try clear hb2);(try clear hk);(try clear hi)))
               go_roundg kj21
               case measure=>have:=HJ4.out;have:=HJ12.out;have:=HK3.out;have:=HJ21.out;omega
               case rel=>exact ⟨(t604),(wrap64 (x10_3 + 1)),(cl2),(cl2),H',⟨by have:=HJ4.out;have:=HJ12.out;have:=HK3.out;have:=HJ21.out;omega⟩,⟨bk BK592.out⟩,⟨bl HB.out⟩⟩
              ·rw [if_neg c33] at H
               have c33b0:decide (0≤t602) = false:=decide_eq_false c33;clear c33;have H':=Aside0.mk H;clear H;obtain ⟨h42_0,h42_1,h42_2,h42_3,h42_4⟩:=kb5 BK592.out;have p596:0≤(x10_3:Int):=od;have q596:x10_3 < (l0_4.length:Int):=od;obtain ⟨ad596,A596_3,c596_3,A596_4,c596_4,A596_8,c596_8,A596_9,c596_9,e596,hx596_0,hx596_1,hx596_2,hx596_3,hx596_4,hx596_5,hx596_6,hx596_7,hx596_8,hx596_9,hl596_3,hi596_3,hl596_4,hi596_4,hl596_8,hi596_8,hl596_9,hi596_9⟩:=at_T52 HR0_4.out x10_3 p596 q596;cases e596;replace hx596_0:=cb HB hx596_0;replace hx596_1:=cb HB hx596_1;replace hx596_2:=cb HB hx596_2;replace hx596_3:=cb HB hx596_3;replace hx596_4:=cb HB hx596_4;replace hx596_5:=cb HB hx596_5;replace hx596_6:=cb HB hx596_6;replace hx596_7:=cb HB hx596_7;replace hx596_8:=cb HB hx596_8;replace hx596_9:=cb HB hx596_9;have HR596_3:=Aside0.mk hi596_3;have HC596_3:=Aside0.mk hl596_3;clear hi596_3 hl596_3;have HR596_4:=Aside0.mk hi596_4;have HC596_4:=Aside0.mk hl596_4;clear hi596_4 hl596_4;have HR596_8:=Aside0.mk hi596_8;have HC596_8:=Aside0.mk hl596_8;clear hi596_8 hl596_8;have HR596_9:=Aside0.mk hi596_9;have HC596_9:=Aside0.mk hl596_9;clear hi596_9 hl596_9;replace p596:=eq_true p596;replace q596:=eq_true q596
               go_wp2_with (first|((with_reducible refine gate_callee (f:=9) rfl ?_);refine goesL_ (some 63) rfl rfl Try.func9 (by kernel_rfl) rfl #[.agg #[.int .i64 ((rd_T52 l0_4 x10_3).f0.f0),.int .i64 ((rd_T52 l0_4 x10_3).f0.f1),.string ((rd_T52 l0_4 x10_3).f0.f2),.slice A596_3 ((rd_T52 l0_4 x10_3).f0.f3).length c596_3,.slice A596_4 ((rd_T52 l0_4 x10_3).f0.f4).length c596_4]] rfl gs ?_;(with_reducible refine (spec_VarsOf.calls kj21 ((rd_T52 l0_4 x10_3).f0.f0) ((rd_T52 l0_4 x10_3).f0.f1) ((rd_T52 l0_4 x10_3).f0.f2) _ _ ((rd_T52 l0_4 x10_3).f0.f3) _ _ ((rd_T52 l0_4 x10_3).f0.f4) t597 _ ?side1 ?side2 ?side3 ?side4 A29.out).mono ?_);(case side1=>exact ck (Kd.C_below HR596_3.out HB.out));(case side2=>exact HC596_3.out);(case side3=>exact ck (Kd.C_below HR596_4.out HB.out));(case side4=>exact HC596_4.out);rintro e w43 ⟨v598,rfl,ho0,hb⟩;refine ⟨_,rfl,?_⟩;have n_:=aj (Kd.R_lower ho0 (below_size (bl HB.out))) <| ai (bw BK592 hb) <| bq HB hb;clear BK592 HB;obtain ⟨HO599,BK592,HB⟩:=n_;(try clear hb);(try clear ho0);obtain ⟨Ao44,co44,eo44⟩:=Kd.R_slice HO599.out;subst eo44)|((with_reducible refine gate_callee (f:=15) rfl ?_);refine goesL_ (some 64) rfl rfl Try.func15 (by kernel_rfl) rfl #[.slice Ao44 t597.length co44] rfl gs ?_;(with_reducible refine (spec_l4Once.calls kj21 _ _ t597 true _ ?side1 ?side2 A30.out).mono ?_);(case side1=>repeat (first|exact (Kd.R_reads' HO599.out).2.2|(with_reducible refine Kd.C_alloc ?_ _)|(with_reducible refine Kd.C_drewN ?_ _)|(with_reducible refine Kd.C_drew ?_)));(case side2=>exact (Kd.R_reads' HO599.out).2.1);rintro e w' ⟨rfl,⟨nd,rfl⟩⟩;refine ⟨_,rfl,?_⟩;obtain ⟨h45_0,h45_1,h45_2,h45_3,h45_4⟩:=kb5 BK592.out;obtain ⟨z45_0,z45_1,z45_2,z45_3,z45_4⟩:=kz5 BK592.out;have p601:0≤(x10_3:Int):=od;have q601:x10_3 < (l0_4.length:Int):=od;obtain ⟨ad601,A601_3,c601_3,A601_4,c601_4,A601_8,c601_8,A601_9,c601_9,e601,hx601_0,hx601_1,hx601_2,hx601_3,hx601_4,hx601_5,hx601_6,hx601_7,hx601_8,hx601_9,hl601_3,hi601_3,hl601_4,hi601_4,hl601_8,hi601_8,hl601_9,hi601_9⟩:=at_T52 HR0_4.out x10_3 p601 q601;obtain rfl:ad596 = ad601:=(by injection e601);replace hx601_0:=cb HB hx601_0;replace hx601_1:=cb HB hx601_1;replace hx601_2:=cb HB hx601_2;replace hx601_3:=cb HB hx601_3;replace hx601_4:=cb HB hx601_4;replace hx601_5:=cb HB hx601_5;replace hx601_6:=cb HB hx601_6;replace hx601_7:=cb HB hx601_7;replace hx601_8:=cb HB hx601_8;replace hx601_9:=cb HB hx601_9;have HR601_3:=Aside0.mk hi601_3;have HC601_3:=Aside0.mk hl601_3;clear hi601_3 hl601_3;have HR601_4:=Aside0.mk hi601_4;have HC601_4:=Aside0.mk hl601_4;clear hi601_4 hl601_4;have HR601_8:=Aside0.mk hi601_8;have HC601_8:=Aside0.mk hl601_8;clear hi601_8 hl601_8;have HR601_9:=Aside0.mk hi601_9;have HC601_9:=Aside0.mk hl601_9;clear hi601_9 hl601_9;replace p601:=eq_true p601;replace q601:=eq_true q601)|((with_reducible refine gate_callee (f:=14) rfl ?_);refine goesL_ (some 75) rfl rfl Try.func14 (by kernel_rfl) rfl #[.agg #[.int .i64 ((rd_T52 l0_4 x10_3).f0.f0),.int .i64 ((rd_T52 l0_4 x10_3).f0.f1),.string ((rd_T52 l0_4 x10_3).f0.f2),.slice A601_3 ((rd_T52 l0_4 x10_3).f0.f3).length c601_3,.slice A601_4 ((rd_T52 l0_4 x10_3).f0.f4).length c601_4],.bool true,.int .i64 (wrap64 (a2 - 1)),.int .i64 x3_3] rfl gs ?_;(with_reducible refine (ih kj21 (by have:=HJ4.out;have:=HJ12.out;have:=HK3.out;have:=HJ21.out;omega) ((rd_T52 l0_4 x10_3).f0.f0) ((rd_T52 l0_4 x10_3).f0.f1) ((rd_T52 l0_4 x10_3).f0.f2) _ _ ((rd_T52 l0_4 x10_3).f0.f3) _ _ ((rd_T52 l0_4 x10_3).f0.f4) true (wrap64 (a2 - 1)) x3_3 t602 _ ?side1 ?side2 ?side3 ?side4 A32.out).mono ?_);(case side1=>repeat (first|exact (Kd.C_below HR601_3.out (bl HB.out))|(with_reducible refine Kd.C_alloc ?_ _)|(with_reducible refine Kd.C_drewN ?_ _)|(with_reducible refine Kd.C_drew ?_)));(case side2=>exact HC601_3.out);(case side3=>repeat (first|exact (Kd.C_below HR601_4.out (bl HB.out))|(with_reducible refine Kd.C_alloc ?_ _)|(with_reducible refine Kd.C_drewN ?_ _)|(with_reducible refine Kd.C_drew ?_)));(case side4=>exact HC601_4.out);rintro e w46 ⟨rfl,hb⟩;refine ⟨_,rfl,?_⟩;have n_:=ai (rwm HO599 hb) <| ai (bw BK592 hb) <| bq HB hb;clear HO599 BK592 HB;obtain ⟨HO599,BK592,HB⟩:=n_;(try clear hb);(try clear hb2);(try clear hk);(try clear hi)))
               go_roundg kj21
               case measure=>have:=HJ4.out;have:=HJ12.out;have:=HK3.out;have:=HJ21.out;omega
               case rel=>exact ⟨(t602),(wrap64 (x10_3 + 1)),(cl2),(cl2),H',⟨by have:=HJ4.out;have:=HJ12.out;have:=HK3.out;have:=HJ21.out;omega⟩,⟨bk BK592.out⟩,⟨bl HB.out⟩⟩
             ·replace c31:=Bool.eq_false_iff.mpr c31
              subst c31;have H1:(some (-1)) = some r:=nt H
              clear H;have H:=H1;clear H1;obtain rfl:=Option.some.inj H;obtain ⟨h47_0,h47_1,h47_2,h47_3,h47_4⟩:=kb5 BK592.out;have p596:0≤(x10_3:Int):=od;have q596:x10_3 < (l0_4.length:Int):=od;obtain ⟨ad596,A596_3,c596_3,A596_4,c596_4,A596_8,c596_8,A596_9,c596_9,e596,hx596_0,hx596_1,hx596_2,hx596_3,hx596_4,hx596_5,hx596_6,hx596_7,hx596_8,hx596_9,hl596_3,hi596_3,hl596_4,hi596_4,hl596_8,hi596_8,hl596_9,hi596_9⟩:=at_T52 HR0_4.out x10_3 p596 q596;cases e596;replace hx596_0:=cb HB hx596_0;replace hx596_1:=cb HB hx596_1;replace hx596_2:=cb HB hx596_2;replace hx596_3:=cb HB hx596_3;replace hx596_4:=cb HB hx596_4;replace hx596_5:=cb HB hx596_5;replace hx596_6:=cb HB hx596_6;replace hx596_7:=cb HB hx596_7;replace hx596_8:=cb HB hx596_8;replace hx596_9:=cb HB hx596_9;have HR596_3:=Aside0.mk hi596_3;have HC596_3:=Aside0.mk hl596_3;clear hi596_3 hl596_3;have HR596_4:=Aside0.mk hi596_4;have HC596_4:=Aside0.mk hl596_4;clear hi596_4 hl596_4;have HR596_8:=Aside0.mk hi596_8;have HC596_8:=Aside0.mk hl596_8;clear hi596_8 hl596_8;have HR596_9:=Aside0.mk hi596_9;have HC596_9:=Aside0.mk hl596_9;clear hi596_9 hl596_9;replace p596:=eq_true p596;replace q596:=eq_true q596
              go_wp2_with (first|((with_reducible refine gate_callee (f:=9) rfl ?_);refine goesL_ (some 63) rfl rfl Try.func9 (by kernel_rfl) rfl #[.agg #[.int .i64 ((rd_T52 l0_4 x10_3).f0.f0),.int .i64 ((rd_T52 l0_4 x10_3).f0.f1),.string ((rd_T52 l0_4 x10_3).f0.f2),.slice A596_3 ((rd_T52 l0_4 x10_3).f0.f3).length c596_3,.slice A596_4 ((rd_T52 l0_4 x10_3).f0.f4).length c596_4]] rfl gs ?_;(with_reducible refine (spec_VarsOf.calls kj21 ((rd_T52 l0_4 x10_3).f0.f0) ((rd_T52 l0_4 x10_3).f0.f1) ((rd_T52 l0_4 x10_3).f0.f2) _ _ ((rd_T52 l0_4 x10_3).f0.f3) _ _ ((rd_T52 l0_4 x10_3).f0.f4) t597 _ ?side1 ?side2 ?side3 ?side4 A29.out).mono ?_);(case side1=>exact ck (Kd.C_below HR596_3.out HB.out));(case side2=>exact HC596_3.out);(case side3=>exact ck (Kd.C_below HR596_4.out HB.out));(case side4=>exact HC596_4.out);rintro e w48 ⟨v598,rfl,ho0,hb⟩;refine ⟨_,rfl,?_⟩;have n_:=aj (Kd.R_lower ho0 (below_size (bl HB.out))) <| ai (bw BK592 hb) <| bq HB hb;clear BK592 HB;obtain ⟨HO599,BK592,HB⟩:=n_;(try clear hb);(try clear ho0);obtain ⟨Ao49,co49,eo49⟩:=Kd.R_slice HO599.out;subst eo49)|((with_reducible refine gate_callee (f:=15) rfl ?_);refine goesL_ (some 64) rfl rfl Try.func15 (by kernel_rfl) rfl #[.slice Ao49 t597.length co49] rfl gs ?_;(with_reducible refine (spec_l4Once.calls kj21 _ _ t597 false _ ?side1 ?side2 A30.out).mono ?_);(case side1=>repeat (first|exact (Kd.R_reads' HO599.out).2.2|(with_reducible refine Kd.C_alloc ?_ _)|(with_reducible refine Kd.C_drewN ?_ _)|(with_reducible refine Kd.C_drew ?_)));(case side2=>exact (Kd.R_reads' HO599.out).2.1);rintro e w' ⟨rfl,⟨nd,rfl⟩⟩;refine ⟨_,rfl,?_⟩))
              go_ret
              exact ⟨cl,bl HB.out⟩
            ·rw [if_neg c28] at H
             exact absurd H (by simp)
           ·rw [if_neg c27] at H
            exact absurd H (by simp)
          ·replace c26:=Bool.eq_false_iff.mpr c26
           subst c26;have H1:(some x3_3) = some r:=nt H
           clear H;have H:=H1;clear H1;obtain rfl:=Option.some.inj H
           go_wp2
           go_ret
           exact ⟨cl,bl HB.out⟩

end Go.Proofs.Ytaobcdpadpkngaa.QFnPatterns
