-- Written by a program of this workplace (print2.py) for this claim, over the print's words.
import Derived.Test.YtjgegnkphkfmoaaQFnExactExprOkx0
import Derived.Test.YtjgegnkphkfmoaaQFnExactExprOkx3
import Derived.Test.YtjgegnkphkfmoaaQFnExactExprOkx4
namespace Go.Proofs.Ytjgegnkphkfmoaa.QFnExactExprOk
open Go.RowKit Go.Proofs.YtjgegnkphkfmoaaW.PrintWords Go.Proofs.YtjgegnkphkfmoaaW.PrintLast Go.Proofs.YtjgegnkphkfmoaaW.PrintMore
attribute [local go_sem] max2_int min2_int max_two min_two max_three min_three max_four min_four   -- for this text's walks alone
set_option linter.unusedVariables false
set_option linter.unusedSimpArgs false

/-! ### spec_l4Look: function 11 -/
mutual
def spec_l4Look.j0:Nat → Bool → Int → Int → Bool → Int → Int → ByteArray → List (S31) → List (S53) → Option (Int)
 | 0,_,_,_,_,_,_,_,_,_=>none
 | k + 1,x1,x2,x3,x22,x153000,x153001,x153002,x153003,x153004=>if x22 = true then (some (-1)) else (spec_l4Look.l0 k x1 x2 (wrap64 (x3 - 1)) 0 x153000 x153001 x153002 x153003 x153004)
def spec_l4Look.j2:Nat → Int → Int → Int → Int → ByteArray → List (S31) → List (S53) → Option (Int)
 | 0,_,_,_,_,_,_,_=>none
 | k + 1,x2,x3,x153000,x153001,x153002,x153003,x153004=>spec_l4Look.l1 k x2 x3 0 x153000 x153001 x153002 x153003 x153004
def spec_l4Look.l1:Nat → Int → Int → Int → Int → Int → ByteArray → List (S31) → List (S53) → Option (Int)
 | 0,_,_,_,_,_,_,_,_=>none
 | k + 1,x2,x3,x10,x153000,x153001,x153002,x153003,x153004=>if x10 < (x153004.length:Int) then (spec_l4Look.j4 k x2 x3 x10 (decide (x3 ≥ 0)) x153000 x153001 x153002 x153003 x153004) else (spec_l4Look.j4 k x2 x3 x10 false x153000 x153001 x153002 x153003 x153004)
def spec_l4Look.j4:Nat → Int → Int → Int → Bool → Int → Int → ByteArray → List (S31) → List (S53) → Option (Int)
 | 0,_,_,_,_,_,_,_,_,_=>none
 | k + 1,x2,x3,x10,x54,x153000,x153001,x153002,x153003,x153004=>if x54 = true then (if 0≤x10 then (if x10 < (x153004.length:Int) then ((spec_VarsOf.f k ((rd_T53 x153004 x10).f0.f0) ((rd_T53 x153004 x10).f0.f1) ((rd_T53 x153004 x10).f0.f2) ((rd_T53 x153004 x10).f0.f3) ((rd_T53 x153004 x10).f0.f4)).bind fun t157=>((spec_l4Once.f k t157).bind fun t160=>(if t160 = true then ((spec_l4Look.f k ((rd_T53 x153004 x10).f0.f0) ((rd_T53 x153004 x10).f0.f1) ((rd_T53 x153004 x10).f0.f2) ((rd_T53 x153004 x10).f0.f3) ((rd_T53 x153004 x10).f0.f4) true (wrap64 (x2 - 1)) x3).bind fun t162=>(if t162 ≥ 0 then ((spec_l4Look.f k ((rd_T53 x153004 x10).f1.f0) ((rd_T53 x153004 x10).f1.f1) ((rd_T53 x153004 x10).f1.f2) ((rd_T53 x153004 x10).f1.f3) ((rd_T53 x153004 x10).f1.f4) false (wrap64 (x2 - 1)) t162).bind fun t164=>(spec_l4Look.l1 k x2 t164 (wrap64 (x10 + 1)) x153000 x153001 x153002 x153003 x153004)) else (spec_l4Look.l1 k x2 t162 (wrap64 (x10 + 1)) x153000 x153001 x153002 x153003 x153004))) else (some (-1))))) else (none)) else (none)) else (some x3)
def spec_l4Look.l0:Nat → Bool → Int → Int → Int → Int → Int → ByteArray → List (S31) → List (S53) → Option (Int)
 | 0,_,_,_,_,_,_,_,_,_=>none
 | k + 1,x1,x2,x3,x9,x153000,x153001,x153002,x153003,x153004=>if x9 < (x153003.length:Int) then (if x3 ≥ 0 then (if 0≤x9 then ((spec_l4Look.f k ((rd_T31 x153003 x9).f0) ((rd_T31 x153003 x9).f1) ((rd_T31 x153003 x9).f2) ((rd_T31 x153003 x9).f3) ((rd_T31 x153003 x9).f4) x1 (wrap64 (x2 - 1)) x3).bind fun t155=>(spec_l4Look.l0 k x1 x2 t155 (wrap64 (x9 + 1)) x153000 x153001 x153002 x153003 x153004)) else (none)) else (spec_l4Look.j2 k x2 x3 x153000 x153001 x153002 x153003 x153004)) else (spec_l4Look.j2 k x2 x3 x153000 x153001 x153002 x153003 x153004)
def spec_l4Look.f:Nat → Int → Int → ByteArray → List (S31) → List (S53) → Bool → Int → Int → Option (Int)
 | 0,_,_,_,_,_,_,_,_=>none
 | k + 1,a0_0,a0_1,a0_2,l0_3,l0_4,a1,a2,a3=>if a2 < 1 then (spec_l4Look.j0 k a1 a2 a3 true a0_0 a0_1 a0_2 l0_3 l0_4) else (if a3 < 1 then (spec_l4Look.j0 k a1 a2 a3 true a0_0 a0_1 a0_2 l0_3 l0_4) else ((spec_l4Shape.f k a0_0 a0_1 a0_2 l0_3 l0_4 a1).bind fun t153=>(spec_l4Look.j0 k a1 a2 a3 (!t153) a0_0 a0_1 a0_2 l0_3 l0_4)))
end
theorem spec_l4Look.mono_l:∀ k,(∀ y0 y1 y2 y3 y4 y5 y6 y7,LeO (spec_l4Look.f k y0 y1 y2 y3 y4 y5 y6 y7) (spec_l4Look.f (k + 1) y0 y1 y2 y3 y4 y5 y6 y7))∧(∀ y0 y1 y2 y3 y4 y5 y6 y7 y8,LeO (spec_l4Look.j0 k y0 y1 y2 y3 y4 y5 y6 y7 y8) (spec_l4Look.j0 (k + 1) y0 y1 y2 y3 y4 y5 y6 y7 y8))∧(∀ y0 y1 y2 y3 y4 y5 y6,LeO (spec_l4Look.j2 k y0 y1 y2 y3 y4 y5 y6) (spec_l4Look.j2 (k + 1) y0 y1 y2 y3 y4 y5 y6))∧(∀ y0 y1 y2 y3 y4 y5 y6 y7,LeO (spec_l4Look.l1 k y0 y1 y2 y3 y4 y5 y6 y7) (spec_l4Look.l1 (k + 1) y0 y1 y2 y3 y4 y5 y6 y7))∧(∀ y0 y1 y2 y3 y4 y5 y6 y7 y8,LeO (spec_l4Look.j4 k y0 y1 y2 y3 y4 y5 y6 y7 y8) (spec_l4Look.j4 (k + 1) y0 y1 y2 y3 y4 y5 y6 y7 y8))∧(∀ y0 y1 y2 y3 y4 y5 y6 y7 y8,LeO (spec_l4Look.l0 k y0 y1 y2 y3 y4 y5 y6 y7 y8) (spec_l4Look.l0 (k + 1) y0 y1 y2 y3 y4 y5 y6 y7 y8))
 | 0=>⟨fun _ _ _ _ _ _ _ _ r h=>by simp [spec_l4Look.f] at h,fun _ _ _ _ _ _ _ _ _ r h=>by simp [spec_l4Look.j0] at h,fun _ _ _ _ _ _ _ r h=>by simp [spec_l4Look.j2] at h,fun _ _ _ _ _ _ _ _ r h=>by simp [spec_l4Look.l1] at h,fun _ _ _ _ _ _ _ _ _ r h=>by simp [spec_l4Look.j4] at h,fun _ _ _ _ _ _ _ _ _ r h=>by simp [spec_l4Look.l0] at h⟩
 | k + 1=>by
  obtain ⟨ih0,ih1,ih2,ih3,ih4,ih5⟩:=spec_l4Look.mono_l k
  refine ⟨?_,?_,?_,?_,?_,?_⟩
  ·intro y0 y1 y2 y3 y4 y5 y6 y7
   unfold spec_l4Look.f
   repeat' first
   | (with_reducible exact ih0 _ _ _ _ _ _ _ _)
   | (with_reducible exact ih1 _ _ _ _ _ _ _ _ _)
   | (with_reducible exact ih2 _ _ _ _ _ _ _)
   | (with_reducible exact ih3 _ _ _ _ _ _ _ _)
   | (with_reducible exact ih4 _ _ _ _ _ _ _ _ _)
   | (with_reducible exact ih5 _ _ _ _ _ _ _ _ _)
   | (with_reducible exact spec_VarsOf.mono _ _ _ _ _ _)
   | (with_reducible exact spec_l4Once.mono _ _)
   | (with_reducible exact spec_l4Shape.mono _ _ _ _ _ _ _)
   | (with_reducible exact LeO.refl _)
   | (with_reducible exact LeO.none _)
   | (with_reducible refine LeO.ite ?_ ?_)
   | (with_reducible refine LeO.bind ?_ (fun _=>?_))
   | exact ih0 _ _ _ _ _ _ _ _
   | exact ih1 _ _ _ _ _ _ _ _ _
   | exact ih2 _ _ _ _ _ _ _
   | exact ih3 _ _ _ _ _ _ _ _
   | exact ih4 _ _ _ _ _ _ _ _ _
   | exact ih5 _ _ _ _ _ _ _ _ _
   | exact spec_VarsOf.mono _ _ _ _ _ _
   | exact spec_l4Once.mono _ _
   | exact spec_l4Shape.mono _ _ _ _ _ _ _
   | exact LeO.none _
   | refine LeO.ite ?_ ?_
   | refine LeO.bind ?_ (fun _=>?_)
  ·intro y0 y1 y2 y3 y4 y5 y6 y7 y8
   unfold spec_l4Look.j0
   repeat' first
   | (with_reducible exact ih0 _ _ _ _ _ _ _ _)
   | (with_reducible exact ih1 _ _ _ _ _ _ _ _ _)
   | (with_reducible exact ih2 _ _ _ _ _ _ _)
   | (with_reducible exact ih3 _ _ _ _ _ _ _ _)
   | (with_reducible exact ih4 _ _ _ _ _ _ _ _ _)
   | (with_reducible exact ih5 _ _ _ _ _ _ _ _ _)
   | (with_reducible exact spec_VarsOf.mono _ _ _ _ _ _)
   | (with_reducible exact spec_l4Once.mono _ _)
   | (with_reducible exact spec_l4Shape.mono _ _ _ _ _ _ _)
   | (with_reducible exact LeO.refl _)
   | (with_reducible exact LeO.none _)
   | (with_reducible refine LeO.ite ?_ ?_)
   | (with_reducible refine LeO.bind ?_ (fun _=>?_))
   | exact ih0 _ _ _ _ _ _ _ _
   | exact ih1 _ _ _ _ _ _ _ _ _
   | exact ih2 _ _ _ _ _ _ _
   | exact ih3 _ _ _ _ _ _ _ _
   | exact ih4 _ _ _ _ _ _ _ _ _
   | exact ih5 _ _ _ _ _ _ _ _ _
   | exact spec_VarsOf.mono _ _ _ _ _ _
   | exact spec_l4Once.mono _ _
   | exact spec_l4Shape.mono _ _ _ _ _ _ _
   | exact LeO.none _
   | refine LeO.ite ?_ ?_
   | refine LeO.bind ?_ (fun _=>?_)
  ·intro y0 y1 y2 y3 y4 y5 y6
   unfold spec_l4Look.j2
   repeat' first
   | (with_reducible exact ih0 _ _ _ _ _ _ _ _)
   | (with_reducible exact ih1 _ _ _ _ _ _ _ _ _)
   | (with_reducible exact ih2 _ _ _ _ _ _ _)
   | (with_reducible exact ih3 _ _ _ _ _ _ _ _)
   | (with_reducible exact ih4 _ _ _ _ _ _ _ _ _)
   | (with_reducible exact ih5 _ _ _ _ _ _ _ _ _)
   | (with_reducible exact spec_VarsOf.mono _ _ _ _ _ _)
   | (with_reducible exact spec_l4Once.mono _ _)
   | (with_reducible exact spec_l4Shape.mono _ _ _ _ _ _ _)
   | (with_reducible exact LeO.refl _)
   | (with_reducible exact LeO.none _)
   | (with_reducible refine LeO.ite ?_ ?_)
   | (with_reducible refine LeO.bind ?_ (fun _=>?_))
   | exact ih0 _ _ _ _ _ _ _ _
   | exact ih1 _ _ _ _ _ _ _ _ _
   | exact ih2 _ _ _ _ _ _ _
   | exact ih3 _ _ _ _ _ _ _ _
   | exact ih4 _ _ _ _ _ _ _ _ _
   | exact ih5 _ _ _ _ _ _ _ _ _
   | exact spec_VarsOf.mono _ _ _ _ _ _
   | exact spec_l4Once.mono _ _
   | exact spec_l4Shape.mono _ _ _ _ _ _ _
   | exact LeO.none _
   | refine LeO.ite ?_ ?_
   | refine LeO.bind ?_ (fun _=>?_)
  ·intro y0 y1 y2 y3 y4 y5 y6 y7
   unfold spec_l4Look.l1
   repeat' first
   | (with_reducible exact ih0 _ _ _ _ _ _ _ _)
   | (with_reducible exact ih1 _ _ _ _ _ _ _ _ _)
   | (with_reducible exact ih2 _ _ _ _ _ _ _)
   | (with_reducible exact ih3 _ _ _ _ _ _ _ _)
   | (with_reducible exact ih4 _ _ _ _ _ _ _ _ _)
   | (with_reducible exact ih5 _ _ _ _ _ _ _ _ _)
   | (with_reducible exact spec_VarsOf.mono _ _ _ _ _ _)
   | (with_reducible exact spec_l4Once.mono _ _)
   | (with_reducible exact spec_l4Shape.mono _ _ _ _ _ _ _)
   | (with_reducible exact LeO.refl _)
   | (with_reducible exact LeO.none _)
   | (with_reducible refine LeO.ite ?_ ?_)
   | (with_reducible refine LeO.bind ?_ (fun _=>?_))
   | exact ih0 _ _ _ _ _ _ _ _
   | exact ih1 _ _ _ _ _ _ _ _ _
   | exact ih2 _ _ _ _ _ _ _
   | exact ih3 _ _ _ _ _ _ _ _
   | exact ih4 _ _ _ _ _ _ _ _ _
   | exact ih5 _ _ _ _ _ _ _ _ _
   | exact spec_VarsOf.mono _ _ _ _ _ _
   | exact spec_l4Once.mono _ _
   | exact spec_l4Shape.mono _ _ _ _ _ _ _
   | exact LeO.none _
   | refine LeO.ite ?_ ?_
   | refine LeO.bind ?_ (fun _=>?_)
  ·intro y0 y1 y2 y3 y4 y5 y6 y7 y8
   unfold spec_l4Look.j4
   repeat' first
   | (with_reducible exact ih0 _ _ _ _ _ _ _ _)
   | (with_reducible exact ih1 _ _ _ _ _ _ _ _ _)
   | (with_reducible exact ih2 _ _ _ _ _ _ _)
   | (with_reducible exact ih3 _ _ _ _ _ _ _ _)
   | (with_reducible exact ih4 _ _ _ _ _ _ _ _ _)
   | (with_reducible exact ih5 _ _ _ _ _ _ _ _ _)
   | (with_reducible exact spec_VarsOf.mono _ _ _ _ _ _)
   | (with_reducible exact spec_l4Once.mono _ _)
   | (with_reducible exact spec_l4Shape.mono _ _ _ _ _ _ _)
   | (with_reducible exact LeO.refl _)
   | (with_reducible exact LeO.none _)
   | (with_reducible refine LeO.ite ?_ ?_)
   | (with_reducible refine LeO.bind ?_ (fun _=>?_))
   | exact ih0 _ _ _ _ _ _ _ _
   | exact ih1 _ _ _ _ _ _ _ _ _
   | exact ih2 _ _ _ _ _ _ _
   | exact ih3 _ _ _ _ _ _ _ _
   | exact ih4 _ _ _ _ _ _ _ _ _
   | exact ih5 _ _ _ _ _ _ _ _ _
   | exact spec_VarsOf.mono _ _ _ _ _ _
   | exact spec_l4Once.mono _ _
   | exact spec_l4Shape.mono _ _ _ _ _ _ _
   | exact LeO.none _
   | refine LeO.ite ?_ ?_
   | refine LeO.bind ?_ (fun _=>?_)
  ·intro y0 y1 y2 y3 y4 y5 y6 y7 y8
   unfold spec_l4Look.l0
   repeat' first
   | (with_reducible exact ih0 _ _ _ _ _ _ _ _)
   | (with_reducible exact ih1 _ _ _ _ _ _ _ _ _)
   | (with_reducible exact ih2 _ _ _ _ _ _ _)
   | (with_reducible exact ih3 _ _ _ _ _ _ _ _)
   | (with_reducible exact ih4 _ _ _ _ _ _ _ _ _)
   | (with_reducible exact ih5 _ _ _ _ _ _ _ _ _)
   | (with_reducible exact spec_VarsOf.mono _ _ _ _ _ _)
   | (with_reducible exact spec_l4Once.mono _ _)
   | (with_reducible exact spec_l4Shape.mono _ _ _ _ _ _ _)
   | (with_reducible exact LeO.refl _)
   | (with_reducible exact LeO.none _)
   | (with_reducible refine LeO.ite ?_ ?_)
   | (with_reducible refine LeO.bind ?_ (fun _=>?_))
   | exact ih0 _ _ _ _ _ _ _ _
   | exact ih1 _ _ _ _ _ _ _ _ _
   | exact ih2 _ _ _ _ _ _ _
   | exact ih3 _ _ _ _ _ _ _ _
   | exact ih4 _ _ _ _ _ _ _ _ _
   | exact ih5 _ _ _ _ _ _ _ _ _
   | exact spec_VarsOf.mono _ _ _ _ _ _
   | exact spec_l4Once.mono _ _
   | exact spec_l4Shape.mono _ _ _ _ _ _ _
   | exact LeO.none _
   | refine LeO.ite ?_ ?_
   | refine LeO.bind ?_ (fun _=>?_)
theorem spec_l4Look.mono:∀ a0 a1 a2 a3 a4 a5 a6 a7 k,LeO (spec_l4Look.f k a0 a1 a2 a3 a4 a5 a6 a7) (spec_l4Look.f (k + 1) a0 a1 a2 a3 a4 a5 a6 a7):=by
 intro a0 a1 a2 a3 a4 a5 a6 a7 k
 obtain ⟨ih0,ih1,ih2,ih3,ih4,ih5⟩:=spec_l4Look.mono_l k
 exact ih0 a0 a1 a2 a3 a4 a5 a6 a7
set_option maxHeartbeats 8000000 in
set_option maxRecDepth 100000 in
theorem spec_l4Look.calls (k:Nat):∀ (a0_0:Int) (a0_1:Int) (a0_2:ByteArray) (A0_3:Option Addr) (c0_3:Nat) (l0_3:List (S31)) (A0_4:Option Addr) (c0_4:Nat) (l0_4:List (S53)) (a1:Bool) (a2:Int) (a3:Int) (r:Int) (w:World) (hr0_3:Kd.C k31 w A0_3 l0_3.length l0_3) (hc0_3:l0_3.length≤c0_3) (hr0_4:Kd.C k53 w A0_4 l0_4.length l0_4) (hc0_4:l0_4.length≤c0_4) (h:spec_l4Look.f k a0_0 a0_1 a0_2 l0_3 l0_4 a1 a2 a3 = some r),
  Calls Try.prog 11 #[.agg #[.int .i64 a0_0,.int .i64 a0_1,.string a0_2,.slice A0_3 l0_3.length c0_3,.slice A0_4 l0_4.length c0_4],.bool a1,.int .i64 a2,.int .i64 a3] w fun e w'=>e = .returned (.int .i64 r)∧Below w.heap.size w w':=by
 induction k using Nat.strongRecOn with
 | _ k ih =>
 intro a0_0 a0_1 a0_2 A0_3 c0_3 l0_3 A0_4 c0_4 l0_4 a1 a2 a3 r w hr0_3 hc0_3 hr0_4 hc0_4 h
 cases k with
 | zero=>exact absurd h (by simp [spec_l4Look.f])
 | succ k =>
 simp only [spec_l4Look.f] at h
 have hu31:=Try.underlying31
 have HR0_3:=Aside0.mk hr0_3
 have HC0_3:=Aside0.mk hc0_3
 clear hr0_3 hc0_3
 have HR0_4:=Aside0.mk hr0_4
 have HC0_4:=Aside0.mk hc0_4
 clear hr0_4 hc0_4
 have HB:=Aside0.mk (Below.refl w.heap.size w)
 have H:(if a2 < 1 then (spec_l4Look.j0 k a1 a2 a3 true a0_0 a0_1 a0_2 l0_3 l0_4) else (if a3 < 1 then (spec_l4Look.j0 k a1 a2 a3 true a0_0 a0_1 a0_2 l0_3 l0_4) else ((spec_l4Shape.f k a0_0 a0_1 a0_2 l0_3 l0_4 a1).bind fun t153=>(spec_l4Look.j0 k a1 a2 a3 (!t153) a0_0 a0_1 a0_2 l0_3 l0_4)))) = some r:=h
 clear h
 have HC5:=Aside0.mk H
 clear H
 go_enter Try.func11,Try.ntmps11
 go_upto_region 1 with (first|((with_reducible refine gate_dst (N:=4) rfl ?_);refine box_event ?hg (N:=4) ?hd (cs:=#[.int .i64 a0_0,.int .i64 a0_1,.string a0_2,.slice A0_3 l0_3.length c0_3,.slice A0_4 l0_4.length c0_4]) (t:=31) ?hr ?_;(case hd=>rfl);(case hg=>rfl);(case hr=>first|(go_simp;done)|(go_simp;rfl));intro gb152 hg w6 hbox hb;have n0_:=Aside0.mk (below_step (by repeat (first|(with_reducible first|exact HB.out|apply below_alloc|apply pw_below_drewN|apply below_drew1)|exact HB.out)) hb);have n1_:=Aside0.mk (hbox);have n2_:=Aside0.mk ((by rw [hg];exact (below_size (by repeat (first|(with_reducible first|exact HB.out|apply below_alloc|apply pw_below_drewN|apply below_drew1)|exact HB.out))):w.heap.size≤gb152));have n3_:=Aside0.mk ((by rw [hg];exact (below_size (by repeat (first|(with_reducible first|exact HB.out|apply below_alloc|apply pw_below_drewN|apply below_drew1)|exact HB.out))):w.heap.size≤gb152));clear HB;have HB:=n0_;have BK152:=n1_;have GW152:=n2_;have GE152:=n3_;clear n0_ n1_ n2_ n3_;clear hb hbox hg))
 (try simp only [Act.put,List.setIfInBounds_toArray,List.set_cons_zero,List.set_cons_succ])
 go_cut [22] (fun v22 wc=>∃ (kq:Nat) (x22_4:Bool),v22 = .bool x22_4∧Aside0 (spec_l4Look.j0 kq a1 a2 a3 x22_4 a0_0 a0_1 a0_2 l0_3 l0_4 = some r)∧Aside0 (kq≤k)∧Aside0 (wc.heap[gb152]? = some (.cells #[.int .i64 a0_0,.int .i64 a0_1,.string a0_2,(.slice A0_3 l0_3.length c0_3),(.slice A0_4 l0_4.length c0_4)] 31 (0,0)))∧Aside0 (Below w.heap.size w wc))
 case first =>
  have H:=HC5.out
  clear HC5
  by_cases c7:a2 < 1
  ·rw [if_pos c7] at H
   have c7b0:decide (a2 < 1) = true:=decide_eq_true c7
   clear c7
   (first|rw [c7b0]|(simp only [i64_w,i32_w];rw [c7b0])|(simp only [c7b2,Bool.not_true,Bool.not_false])|skip)
   have H':=Aside0.mk H
   clear H
   go_wp2
   go_meet
   case rel=>exact ⟨_,(true),(by first|rfl|(simp;done)|(simp [*];done)),H',⟨by first|omega|exact Nat.le_refl _⟩,⟨by (with_reducible repeat (first|refine blk_drewN ?_ _|refine blk_drew ?_|refine blk_alloc ?_ _));exact BK152.out⟩,⟨by repeat (first|(with_reducible first|exact HB.out|apply below_alloc|apply pw_below_drewN|apply below_drew1|refine below_set ?_ GE152.out)|exact HB.out)⟩⟩
  ·rw [if_neg c7] at H
   have c7b0:decide (a2 < 1) = false:=decide_eq_false c7
   clear c7
   (first|rw [c7b0]|(simp only [i64_w,i32_w];rw [c7b0])|(simp only [c7b2,Bool.not_true,Bool.not_false])|skip)
   by_cases c8:a3 < 1
   ·rw [if_pos c8] at H
    have c8b0:decide (a3 < 1) = true:=decide_eq_true c8
    clear c8
    have H':=Aside0.mk H
    clear H
    go_wp2
    go_meet
    case rel=>exact ⟨_,(true),(by first|rfl|(simp;done)|(simp [*];done)),H',⟨by first|omega|exact Nat.le_refl _⟩,⟨by (with_reducible repeat (first|refine blk_drewN ?_ _|refine blk_drew ?_|refine blk_alloc ?_ _));exact BK152.out⟩,⟨by repeat (first|(with_reducible first|exact HB.out|apply below_alloc|apply pw_below_drewN|apply below_drew1|refine below_set ?_ GE152.out)|exact HB.out)⟩⟩
   ·rw [if_neg c8] at H
    have c8b0:decide (a3 < 1) = false:=decide_eq_false c8
    clear c8
    replace H:=Option.bind_eq_some_iff.mp H
    obtain ⟨t153,A90,H⟩:=H
    replace H:(spec_l4Look.j0 k a1 a2 a3 (!t153) a0_0 a0_1 a0_2 l0_3 l0_4) = some r:=H
    have A9:=Aside0.mk A90
    clear A90
    have H':=Aside0.mk H
    clear H
    have hcz10_0:w6.cell? ⟨gb152,0,none⟩ = some (.int .i64 a0_0):=(blk_cell BK152.out 0).trans rfl
    have hcz10_1:w6.cell? ⟨gb152,1,none⟩ = some (.int .i64 a0_1):=(blk_cell BK152.out 1).trans rfl
    have hcz10_2:w6.cell? ⟨gb152,2,none⟩ = some (.string a0_2):=(blk_cell BK152.out 2).trans rfl
    have hcz10_3:w6.cell? ⟨gb152,3,none⟩ = some (.slice A0_3 l0_3.length c0_3):=(blk_cell BK152.out 3).trans rfl
    have hcz10_4:w6.cell? ⟨gb152,4,none⟩ = some (.slice A0_4 l0_4.length c0_4):=(blk_cell BK152.out 4).trans rfl
    have hfz10_0:=blk_frozen BK152.out 0
    have hfz10_1:=blk_frozen BK152.out 1
    have hfz10_2:=blk_frozen BK152.out 2
    have hfz10_3:=blk_frozen BK152.out 3
    have hfz10_4:=blk_frozen BK152.out 4
    go_wp2_with (first|(go_at_call 18;(with_reducible refine (spec_l4Shape.calls k a0_0 a0_1 a0_2 _ _ l0_3 _ _ l0_4 a1 t153 _ ?side1 ?side2 ?side3 ?side4 A9.out).mono ?_);(case side1=>repeat (first|exact (Kd.C_below HR0_3.out HB.out)|(with_reducible refine Kd.C_alloc ?_ _)|(with_reducible refine Kd.C_drewN ?_ _)|(with_reducible refine Kd.C_drew ?_)));(case side2=>exact HC0_3.out);(case side3=>repeat (first|exact (Kd.C_below HR0_4.out HB.out)|(with_reducible refine Kd.C_alloc ?_ _)|(with_reducible refine Kd.C_drewN ?_ _)|(with_reducible refine Kd.C_drew ?_)));(case side4=>exact HC0_4.out);rintro e w11 ⟨rfl,hb⟩;have n0_:=Aside0.mk (blk_below (g:=gb152) (o:=.cells #[.int .i64 a0_0,.int .i64 a0_1,.string a0_2,.slice A0_3 l0_3.length c0_3,.slice A0_4 l0_4.length c0_4] 31 (0,0)) (by (with_reducible repeat (first|refine blk_drewN ?_ _|refine blk_drew ?_|refine blk_alloc ?_ _));exact BK152.out) hb);have n1_:=Aside0.mk (below_step (by repeat (first|(with_reducible first|exact HB.out|apply below_alloc|apply pw_below_drewN|apply below_drew1|refine below_set ?_ GE152.out)|exact HB.out)) hb);clear BK152;clear HB;have BK152:=n0_;have HB:=n1_;clear n0_ n1_;(try clear hb);(try clear hb2);(try clear hk);(try clear hi)))
    go_meet
    case rel=>exact ⟨_,(!t153),(by first|rfl|(simp;done)|(simp [*];done)),H',⟨by first|omega|exact Nat.le_refl _⟩,⟨by (with_reducible repeat (first|refine blk_drewN ?_ _|refine blk_drew ?_|refine blk_alloc ?_ _));exact BK152.out⟩,⟨by repeat (first|(with_reducible first|exact HB.out|apply below_alloc|apply pw_below_drewN|apply below_drew1|refine below_set ?_ GE152.out)|exact HB.out)⟩⟩
 case rest =>
  clear HC5
  try clear c1
  try clear p2
  try clear c7
  try clear c7b0
  try clear c7b2
  try clear c8
  try clear c8b0
  try clear c11
  try clear hcz10_0
  try clear hcz10_1
  try clear hcz10_2
  try clear hcz10_3
  try clear hcz10_4
  try clear hfz10_0
  try clear hfz10_1
  try clear hfz10_2
  try clear hfz10_3
  try clear hfz10_4
  try clear BK152
  try clear HB
  obtain ⟨kq,x22_4,rfl,HA,HJ4,BK152,HB⟩:=hcut
  cases kq with
  | zero=>exact absurd HA.out (by simp [spec_l4Look.j0])
  | succ kj4 =>
   have H:=HA.out
   clear HA
   simp only [spec_l4Look.j0] at H
   by_cases c12:x22_4 = true
   ·subst c12
    have H1:(some (-1)) = some r:=by rw [if_pos rfl] at H;exact H
    clear H
    have H:=H1
    clear H1
    obtain rfl:=Option.some.inj H
    go_wp2
    go_ret
    exact ⟨by first|rfl|(simp [*,errW_none,errW_some] <;> rfl),by repeat (first|(with_reducible first|exact HB.out|apply below_alloc|apply pw_below_drewN|apply below_drew1|refine below_set ?_ GE152.out)|exact HB.out)⟩
   ·replace c12:=Bool.eq_false_iff.mpr c12
    subst c12
    have H1:(spec_l4Look.l0 kj4 a1 a2 (wrap64 (a3 - 1)) 0 a0_0 a0_1 a0_2 l0_3 l0_4) = some r:=by rw [if_neg (show ¬ (false = true) by decide)] at H;exact H
    clear H
    have H:=H1
    clear H1
    have HC13:=Aside0.mk H
    clear H
    go_upto_block 0 with (fail)
    go_cut [3] (fun v3 wc=>∃ (kq:Nat) (x3_12:Int),v3 = .int .i64 x3_12∧Aside0 (spec_l4Look.j2 kq a2 x3_12 a0_0 a0_1 a0_2 l0_3 l0_4 = some r)∧Aside0 (kq≤kj4)∧Aside0 (wc.heap[gb152]? = some (.cells #[.int .i64 a0_0,.int .i64 a0_1,.string a0_2,(.slice A0_3 l0_3.length c0_3),(.slice A0_4 l0_4.length c0_4)] 31 (0,0)))∧Aside0 (Below w.heap.size w wc))
    case first =>
     have H:=HC13.out
     clear HC13
     have H':=Aside0.mk H
     clear H
     go_wp2
     go_loopg [3,9] kj4 (fun kq v3 v9 w'=>∃ (x3_2:Int) (x9_2:Int),v3 = .int .i64 x3_2∧v9 = .int .i64 x9_2∧Aside0 (spec_l4Look.l0 kq a1 a2 x3_2 x9_2 a0_0 a0_1 a0_2 l0_3 l0_4 = some r)∧Aside0 (kq≤kj4)∧Aside0 (w'.heap[gb152]? = some (.cells #[.int .i64 a0_0,.int .i64 a0_1,.string a0_2,(.slice A0_3 l0_3.length c0_3),(.slice A0_4 l0_4.length c0_4)] 31 (0,0)))∧Aside0 (Below w.heap.size w w'))
     case atStart=>exact ⟨(wrap64 (a3 - 1)),(0),(by first|rfl|(simp;done)|(simp [*];done)),(by first|rfl|(simp;done)|(simp [*];done)),H',⟨Nat.le_refl _⟩,⟨by (with_reducible repeat (first|refine blk_drewN ?_ _|refine blk_drew ?_|refine blk_alloc ?_ _));exact BK152.out⟩,⟨by repeat (first|(with_reducible first|exact HB.out|apply below_alloc|apply pw_below_drewN|apply below_drew1|refine below_set ?_ GE152.out)|exact HB.out)⟩⟩
     case round =>
      clear H'
      try clear c1
      try clear p2
      try clear p6
      try clear c7
      try clear c7b0
      try clear c7b2
      try clear c8
      try clear c8b0
      try clear c11
      try clear c12
      try clear hcz10_0
      try clear hcz10_1
      try clear hcz10_2
      try clear hcz10_3
      try clear hcz10_4
      try clear hfz10_0
      try clear hfz10_1
      try clear hfz10_2
      try clear hfz10_3
      try clear hfz10_4
      try clear p2
      try clear BK152
      try clear HB
      obtain ⟨x3_2,x9_2,rfl,rfl,HA,HK2,BK152,HB⟩:=hrel
      cases gk with
      | zero=>exact absurd HA.out (by simp [spec_l4Look.l0])
      | succ k2 =>
       have H:=HA.out
       clear HA
       simp only [spec_l4Look.l0] at H
       by_cases c14:x9_2 < (l0_3.length:Int)
       ·rw [if_pos c14] at H
        have c14b0:decide (x9_2 < (l0_3.length:Int)) = true:=decide_eq_true c14
        clear c14
        (first|rw [c14b0]|(simp only [i64_w,i32_w];rw [c14b0])|(simp only [c14b2,Bool.not_true,Bool.not_false])|skip)
        by_cases c15:x3_2 ≥ 0
        ·rw [if_pos c15] at H
         have c15b0:decide (0≤x3_2) = true:=decide_eq_true c15
         clear c15
         by_cases c16:0≤x9_2
         ·rw [if_pos c16] at H
          have c16b0:decide (0≤x9_2) = true:=decide_eq_true c16
          clear c16
          replace H:=Option.bind_eq_some_iff.mp H
          obtain ⟨t155,A170,H⟩:=H
          replace H:(spec_l4Look.l0 k2 a1 a2 t155 (wrap64 (x9_2 + 1)) a0_0 a0_1 a0_2 l0_3 l0_4) = some r:=H
          have A17:=Aside0.mk A170
          clear A170
          have H':=Aside0.mk H
          clear H
          have hcz18_0:wr.cell? ⟨gb152,0,none⟩ = some (.int .i64 a0_0):=(blk_cell BK152.out 0).trans rfl
          have hcz18_1:wr.cell? ⟨gb152,1,none⟩ = some (.int .i64 a0_1):=(blk_cell BK152.out 1).trans rfl
          have hcz18_2:wr.cell? ⟨gb152,2,none⟩ = some (.string a0_2):=(blk_cell BK152.out 2).trans rfl
          have hcz18_3:wr.cell? ⟨gb152,3,none⟩ = some (.slice A0_3 l0_3.length c0_3):=(blk_cell BK152.out 3).trans rfl
          have hcz18_4:wr.cell? ⟨gb152,4,none⟩ = some (.slice A0_4 l0_4.length c0_4):=(blk_cell BK152.out 4).trans rfl
          have hfz18_0:=blk_frozen BK152.out 0
          have hfz18_1:=blk_frozen BK152.out 1
          have hfz18_2:=blk_frozen BK152.out 2
          have hfz18_3:=blk_frozen BK152.out 3
          have hfz18_4:=blk_frozen BK152.out 4
          have p154:0≤(x9_2:Int):=of_decide_eq_true (by first|(with_reducible assumption)|assumption)
          have q154:x9_2 < (l0_3.length:Int):=of_decide_eq_true (by first|(with_reducible assumption)|assumption)
          obtain ⟨ad154,A154_3,c154_3,A154_4,c154_4,e154,hx154_0,hx154_1,hx154_2,hx154_3,hx154_4,hl154_3,hi154_3,hl154_4,hi154_4⟩:=at_T31 HR0_3.out x9_2 p154 q154
          cases e154
          replace hx154_0:=(HB.out.cell (World.block_lt_of_cell? w _ hx154_0)).trans hx154_0
          replace hx154_1:=(HB.out.cell (World.block_lt_of_cell? w _ hx154_1)).trans hx154_1
          replace hx154_2:=(HB.out.cell (World.block_lt_of_cell? w _ hx154_2)).trans hx154_2
          replace hx154_3:=(HB.out.cell (World.block_lt_of_cell? w _ hx154_3)).trans hx154_3
          replace hx154_4:=(HB.out.cell (World.block_lt_of_cell? w _ hx154_4)).trans hx154_4
          have HR154_3:=Aside0.mk hi154_3
          have HC154_3:=Aside0.mk hl154_3
          clear hi154_3 hl154_3
          have HR154_4:=Aside0.mk hi154_4
          have HC154_4:=Aside0.mk hl154_4
          clear hi154_4 hl154_4
          replace p154:=eq_true p154
          replace q154:=eq_true q154
          go_wp2_with (first|((with_reducible refine gate_callee (f:=11) rfl ?_);refine goesL_ (some 45) rfl rfl Try.func11 (by kernel_rfl) rfl #[.agg #[.int .i64 ((rd_T31 l0_3 x9_2).f0),.int .i64 ((rd_T31 l0_3 x9_2).f1),.string ((rd_T31 l0_3 x9_2).f2),.slice A154_3 ((rd_T31 l0_3 x9_2).f3).length c154_3,.slice A154_4 ((rd_T31 l0_3 x9_2).f4).length c154_4],.bool a1,.int .i64 (wrap64 (a2 - 1)),.int .i64 x3_2] rfl (by (try simp only [List.map_toArray,List.map_cons,List.map_nil]);first|done|rfl|(simp only [List.length_drop,List.length_take];rfl)) ?_;(with_reducible refine (ih k2 (by have:=HJ4.out;have:=HK2.out;omega) ((rd_T31 l0_3 x9_2).f0) ((rd_T31 l0_3 x9_2).f1) ((rd_T31 l0_3 x9_2).f2) _ _ ((rd_T31 l0_3 x9_2).f3) _ _ ((rd_T31 l0_3 x9_2).f4) a1 (wrap64 (a2 - 1)) x3_2 t155 _ ?side1 ?side2 ?side3 ?side4 A17.out).mono ?_);(case side1=>repeat (first|exact (Kd.C_below HR154_3.out HB.out)|(with_reducible refine Kd.C_alloc ?_ _)|(with_reducible refine Kd.C_drewN ?_ _)|(with_reducible refine Kd.C_drew ?_)));(case side2=>exact HC154_3.out);(case side3=>repeat (first|exact (Kd.C_below HR154_4.out HB.out)|(with_reducible refine Kd.C_alloc ?_ _)|(with_reducible refine Kd.C_drewN ?_ _)|(with_reducible refine Kd.C_drew ?_)));(case side4=>exact HC154_4.out);rintro e w19 ⟨rfl,hb⟩;refine ⟨_,rfl,?_⟩;have n0_:=Aside0.mk (blk_below (g:=gb152) (o:=.cells #[.int .i64 a0_0,.int .i64 a0_1,.string a0_2,.slice (some ad154) l0_3.length c0_3,.slice A0_4 l0_4.length c0_4] 31 (0,0)) (by (with_reducible repeat (first|refine blk_drewN ?_ _|refine blk_drew ?_|refine blk_alloc ?_ _));exact BK152.out) hb);have n1_:=Aside0.mk (below_step (by repeat (first|(with_reducible first|exact HB.out|apply below_alloc|apply pw_below_drewN|apply below_drew1|refine below_set ?_ GE152.out)|exact HB.out)) hb);clear BK152;clear HB;have BK152:=n0_;have HB:=n1_;clear n0_ n1_;(try clear hb);(try clear hb2);(try clear hk);(try clear hi)))
          go_roundg k2
          case measure=>have:=HJ4.out;have:=HK2.out;omega
          case rel=>exact ⟨(t155),(wrap64 (x9_2 + 1)),(by first|rfl|(simp;done)|(simp [*];done)),(by first|rfl|(simp;done)|(simp [*];done)),H',⟨by have:=HJ4.out;have:=HK2.out;omega⟩,⟨by (with_reducible repeat (first|refine blk_drewN ?_ _|refine blk_drew ?_|refine blk_alloc ?_ _));exact BK152.out⟩,⟨by repeat (first|(with_reducible first|exact HB.out|apply below_alloc|apply pw_below_drewN|apply below_drew1|refine below_set ?_ GE152.out)|exact HB.out)⟩⟩
         ·rw [if_neg c16] at H
          exact absurd H (by simp)
        ·rw [if_neg c15] at H
         have c15b0:decide (0≤x3_2) = false:=decide_eq_false c15
         clear c15
         have H':=Aside0.mk H
         clear H
         have hcz20_0:wr.cell? ⟨gb152,0,none⟩ = some (.int .i64 a0_0):=(blk_cell BK152.out 0).trans rfl
         have hcz20_1:wr.cell? ⟨gb152,1,none⟩ = some (.int .i64 a0_1):=(blk_cell BK152.out 1).trans rfl
         have hcz20_2:wr.cell? ⟨gb152,2,none⟩ = some (.string a0_2):=(blk_cell BK152.out 2).trans rfl
         have hcz20_3:wr.cell? ⟨gb152,3,none⟩ = some (.slice A0_3 l0_3.length c0_3):=(blk_cell BK152.out 3).trans rfl
         have hcz20_4:wr.cell? ⟨gb152,4,none⟩ = some (.slice A0_4 l0_4.length c0_4):=(blk_cell BK152.out 4).trans rfl
         have hfz20_0:=blk_frozen BK152.out 0
         have hfz20_1:=blk_frozen BK152.out 1
         have hfz20_2:=blk_frozen BK152.out 2
         have hfz20_3:=blk_frozen BK152.out 3
         have hfz20_4:=blk_frozen BK152.out 4
         go_wp2
         go_meet
         case rel=>exact ⟨_,(x3_2),(by first|rfl|(simp;done)|(simp [*];done)),H',⟨by have:=HJ4.out;have:=HK2.out;first|omega|exact Nat.le_refl _⟩,⟨by (with_reducible repeat (first|refine blk_drewN ?_ _|refine blk_drew ?_|refine blk_alloc ?_ _));exact BK152.out⟩,⟨by repeat (first|(with_reducible first|exact HB.out|apply below_alloc|apply pw_below_drewN|apply below_drew1|refine below_set ?_ GE152.out)|exact HB.out)⟩⟩
       ·rw [if_neg c14] at H
        have c14b0:decide (x9_2 < (l0_3.length:Int)) = false:=decide_eq_false c14
        clear c14
        (first|rw [c14b0]|(simp only [i64_w,i32_w];rw [c14b0])|(simp only [c14b2,Bool.not_true,Bool.not_false])|skip)
        have H':=Aside0.mk H
        clear H
        have hcz21_0:wr.cell? ⟨gb152,0,none⟩ = some (.int .i64 a0_0):=(blk_cell BK152.out 0).trans rfl
        have hcz21_1:wr.cell? ⟨gb152,1,none⟩ = some (.int .i64 a0_1):=(blk_cell BK152.out 1).trans rfl
        have hcz21_2:wr.cell? ⟨gb152,2,none⟩ = some (.string a0_2):=(blk_cell BK152.out 2).trans rfl
        have hcz21_3:wr.cell? ⟨gb152,3,none⟩ = some (.slice A0_3 l0_3.length c0_3):=(blk_cell BK152.out 3).trans rfl
        have hcz21_4:wr.cell? ⟨gb152,4,none⟩ = some (.slice A0_4 l0_4.length c0_4):=(blk_cell BK152.out 4).trans rfl
        have hfz21_0:=blk_frozen BK152.out 0
        have hfz21_1:=blk_frozen BK152.out 1
        have hfz21_2:=blk_frozen BK152.out 2
        have hfz21_3:=blk_frozen BK152.out 3
        have hfz21_4:=blk_frozen BK152.out 4
        go_wp2
        go_meet
        case rel=>exact ⟨_,(x3_2),(by first|rfl|(simp;done)|(simp [*];done)),H',⟨by have:=HJ4.out;have:=HK2.out;first|omega|exact Nat.le_refl _⟩,⟨by (with_reducible repeat (first|refine blk_drewN ?_ _|refine blk_drew ?_|refine blk_alloc ?_ _));exact BK152.out⟩,⟨by repeat (first|(with_reducible first|exact HB.out|apply below_alloc|apply pw_below_drewN|apply below_drew1|refine below_set ?_ GE152.out)|exact HB.out)⟩⟩
    case rest =>
     clear HC13
     try clear c1
     try clear p1
     try clear q1
     try clear hx1
     try clear p2
     try clear p6
     try clear c7
     try clear c7b0
     try clear c7b2
     try clear c8
     try clear c8b0
     try clear c11
     try clear c12
     try clear c14
     try clear c14b0
     try clear c14b2
     try clear c15
     try clear c15b0
     try clear p15
     try clear q15
     try clear hx15
     try clear c16
     try clear c16b0
     try clear hcz10_0
     try clear hcz10_1
     try clear hcz10_2
     try clear hcz10_3
     try clear hcz10_4
     try clear hcz18_0
     try clear hcz18_1
     try clear hcz18_2
     try clear hcz18_3
     try clear hcz18_4
     try clear hcz20_0
     try clear hcz20_1
     try clear hcz20_2
     try clear hcz20_3
     try clear hcz20_4
     try clear hcz21_0
     try clear hcz21_1
     try clear hcz21_2
     try clear hcz21_3
     try clear hcz21_4
     try clear hfz10_0
     try clear hfz10_1
     try clear hfz10_2
     try clear hfz10_3
     try clear hfz10_4
     try clear hfz18_0
     try clear hfz18_1
     try clear hfz18_2
     try clear hfz18_3
     try clear hfz18_4
     try clear hfz20_0
     try clear hfz20_1
     try clear hfz20_2
     try clear hfz20_3
     try clear hfz20_4
     try clear hfz21_0
     try clear hfz21_1
     try clear hfz21_2
     try clear hfz21_3
     try clear hfz21_4
     try clear hx154_0
     try clear hx154_1
     try clear hx154_2
     try clear hx154_3
     try clear hx154_4
     try clear p154
     try clear p2
     try clear p6
     try clear q154
     try clear BK152
     try clear HB
     obtain ⟨kq,x3_12,rfl,HA,HJ12,BK152,HB⟩:=hcut
     cases kq with
     | zero=>exact absurd HA.out (by simp [spec_l4Look.j2])
     | succ kj12 =>
      have H:=HA.out
      clear HA
      simp only [spec_l4Look.j2] at H
      have H':=Aside0.mk H
      clear H
      go_wp2
      go_loopg [3,10] kj12 (fun kq v3 v10 w'=>∃ (x3_3:Int) (x10_3:Int),v3 = .int .i64 x3_3∧v10 = .int .i64 x10_3∧Aside0 (spec_l4Look.l1 kq a2 x3_3 x10_3 a0_0 a0_1 a0_2 l0_3 l0_4 = some r)∧Aside0 (kq≤kj12)∧Aside0 (w'.heap[gb152]? = some (.cells #[.int .i64 a0_0,.int .i64 a0_1,.string a0_2,(.slice A0_3 l0_3.length c0_3),(.slice A0_4 l0_4.length c0_4)] 31 (0,0)))∧Aside0 (Below w.heap.size w w'))
      case atStart=>exact ⟨(x3_12),(0),(by first|rfl|(simp;done)|(simp [*];done)),(by first|rfl|(simp;done)|(simp [*];done)),H',⟨Nat.le_refl _⟩,⟨by (with_reducible repeat (first|refine blk_drewN ?_ _|refine blk_drew ?_|refine blk_alloc ?_ _));exact BK152.out⟩,⟨by repeat (first|(with_reducible first|exact HB.out|apply below_alloc|apply pw_below_drewN|apply below_drew1|refine below_set ?_ GE152.out)|exact HB.out)⟩⟩
      case round =>
       clear H'
       try clear c1
       try clear p1
       try clear q1
       try clear hx1
       try clear p2
       try clear p6
       try clear c7
       try clear c7b0
       try clear c7b2
       try clear c8
       try clear c8b0
       try clear c11
       try clear c12
       try clear c14
       try clear c14b0
       try clear c14b2
       try clear c15
       try clear c15b0
       try clear p15
       try clear q15
       try clear hx15
       try clear c16
       try clear c16b0
       try clear hcz10_0
       try clear hcz10_1
       try clear hcz10_2
       try clear hcz10_3
       try clear hcz10_4
       try clear hcz18_0
       try clear hcz18_1
       try clear hcz18_2
       try clear hcz18_3
       try clear hcz18_4
       try clear hcz20_0
       try clear hcz20_1
       try clear hcz20_2
       try clear hcz20_3
       try clear hcz20_4
       try clear hcz21_0
       try clear hcz21_1
       try clear hcz21_2
       try clear hcz21_3
       try clear hcz21_4
       try clear hfz10_0
       try clear hfz10_1
       try clear hfz10_2
       try clear hfz10_3
       try clear hfz10_4
       try clear hfz18_0
       try clear hfz18_1
       try clear hfz18_2
       try clear hfz18_3
       try clear hfz18_4
       try clear hfz20_0
       try clear hfz20_1
       try clear hfz20_2
       try clear hfz20_3
       try clear hfz20_4
       try clear hfz21_0
       try clear hfz21_1
       try clear hfz21_2
       try clear hfz21_3
       try clear hfz21_4
       try clear hx154_0
       try clear hx154_1
       try clear hx154_2
       try clear hx154_3
       try clear hx154_4
       try clear p1
       try clear p15
       try clear p154
       try clear p2
       try clear p6
       try clear q1
       try clear q15
       try clear q154
       try clear BK152
       try clear HB
       obtain ⟨x3_3,x10_3,rfl,rfl,HA,HK3,BK152,HB⟩:=hrel
       cases gk with
       | zero=>exact absurd HA.out (by simp [spec_l4Look.l1])
       | succ k3 =>
        have H:=HA.out
        clear HA
        simp only [spec_l4Look.l1] at H
        have HC22:=Aside0.mk H
        clear H
        go_upto_region 9 with (fail)
        go_cut [54] (fun v54 wc=>∃ (kq:Nat) (x54_21:Bool),v54 = .bool x54_21∧Aside0 (spec_l4Look.j4 kq a2 x3_3 x10_3 x54_21 a0_0 a0_1 a0_2 l0_3 l0_4 = some r)∧Aside0 (kq≤k3)∧Aside0 (wc.heap[gb152]? = some (.cells #[.int .i64 a0_0,.int .i64 a0_1,.string a0_2,(.slice A0_3 l0_3.length c0_3),(.slice A0_4 l0_4.length c0_4)] 31 (0,0)))∧Aside0 (Below w.heap.size w wc))
        case first =>
         have H:=HC22.out
         clear HC22
         by_cases c23:x10_3 < (l0_4.length:Int)
         ·rw [if_pos c23] at H
          have c23b0:decide (x10_3 < (l0_4.length:Int)) = true:=decide_eq_true c23
          clear c23
          (first|rw [c23b0]|(simp only [i64_w,i32_w];rw [c23b0])|(simp only [c23b2,Bool.not_true,Bool.not_false])|skip)
          have H':=Aside0.mk H
          clear H
          have hcz24_0:wr.cell? ⟨gb152,0,none⟩ = some (.int .i64 a0_0):=(blk_cell BK152.out 0).trans rfl
          have hcz24_1:wr.cell? ⟨gb152,1,none⟩ = some (.int .i64 a0_1):=(blk_cell BK152.out 1).trans rfl
          have hcz24_2:wr.cell? ⟨gb152,2,none⟩ = some (.string a0_2):=(blk_cell BK152.out 2).trans rfl
          have hcz24_3:wr.cell? ⟨gb152,3,none⟩ = some (.slice A0_3 l0_3.length c0_3):=(blk_cell BK152.out 3).trans rfl
          have hcz24_4:wr.cell? ⟨gb152,4,none⟩ = some (.slice A0_4 l0_4.length c0_4):=(blk_cell BK152.out 4).trans rfl
          have hfz24_0:=blk_frozen BK152.out 0
          have hfz24_1:=blk_frozen BK152.out 1
          have hfz24_2:=blk_frozen BK152.out 2
          have hfz24_3:=blk_frozen BK152.out 3
          have hfz24_4:=blk_frozen BK152.out 4
          go_wp2
          go_meet
          case rel=>exact ⟨_,(decide (x3_3 ≥ 0)),(by first|rfl|(simp;done)|(simp [*];done)),H',⟨by have:=HJ4.out;have:=HJ12.out;have:=HK3.out;first|omega|exact Nat.le_refl _⟩,⟨by (with_reducible repeat (first|refine blk_drewN ?_ _|refine blk_drew ?_|refine blk_alloc ?_ _));exact BK152.out⟩,⟨by repeat (first|(with_reducible first|exact HB.out|apply below_alloc|apply pw_below_drewN|apply below_drew1|refine below_set ?_ GE152.out)|exact HB.out)⟩⟩
         ·rw [if_neg c23] at H
          have c23b0:decide (x10_3 < (l0_4.length:Int)) = false:=decide_eq_false c23
          clear c23
          (first|rw [c23b0]|(simp only [i64_w,i32_w];rw [c23b0])|(simp only [c23b2,Bool.not_true,Bool.not_false])|skip)
          have H':=Aside0.mk H
          clear H
          have hcz25_0:wr.cell? ⟨gb152,0,none⟩ = some (.int .i64 a0_0):=(blk_cell BK152.out 0).trans rfl
          have hcz25_1:wr.cell? ⟨gb152,1,none⟩ = some (.int .i64 a0_1):=(blk_cell BK152.out 1).trans rfl
          have hcz25_2:wr.cell? ⟨gb152,2,none⟩ = some (.string a0_2):=(blk_cell BK152.out 2).trans rfl
          have hcz25_3:wr.cell? ⟨gb152,3,none⟩ = some (.slice A0_3 l0_3.length c0_3):=(blk_cell BK152.out 3).trans rfl
          have hcz25_4:wr.cell? ⟨gb152,4,none⟩ = some (.slice A0_4 l0_4.length c0_4):=(blk_cell BK152.out 4).trans rfl
          have hfz25_0:=blk_frozen BK152.out 0
          have hfz25_1:=blk_frozen BK152.out 1
          have hfz25_2:=blk_frozen BK152.out 2
          have hfz25_3:=blk_frozen BK152.out 3
          have hfz25_4:=blk_frozen BK152.out 4
          go_wp2
          go_meet
          case rel=>exact ⟨_,(false),(by first|rfl|(simp;done)|(simp [*];done)),H',⟨by have:=HJ4.out;have:=HJ12.out;have:=HK3.out;first|omega|exact Nat.le_refl _⟩,⟨by (with_reducible repeat (first|refine blk_drewN ?_ _|refine blk_drew ?_|refine blk_alloc ?_ _));exact BK152.out⟩,⟨by repeat (first|(with_reducible first|exact HB.out|apply below_alloc|apply pw_below_drewN|apply below_drew1|refine below_set ?_ GE152.out)|exact HB.out)⟩⟩
        case rest =>
         clear HC22
         try clear c1
         try clear p1
         try clear q1
         try clear hx1
         try clear c2
         try clear p2
         try clear p6
         try clear c7
         try clear c7b0
         try clear c7b2
         try clear c8
         try clear c8b0
         try clear c11
         try clear c12
         try clear c14
         try clear c14b0
         try clear c14b2
         try clear c15
         try clear c15b0
         try clear p15
         try clear q15
         try clear hx15
         try clear c16
         try clear c16b0
         try clear c23
         try clear c23b0
         try clear c23b2
         try clear hcz10_0
         try clear hcz10_1
         try clear hcz10_2
         try clear hcz10_3
         try clear hcz10_4
         try clear hcz18_0
         try clear hcz18_1
         try clear hcz18_2
         try clear hcz18_3
         try clear hcz18_4
         try clear hcz20_0
         try clear hcz20_1
         try clear hcz20_2
         try clear hcz20_3
         try clear hcz20_4
         try clear hcz21_0
         try clear hcz21_1
         try clear hcz21_2
         try clear hcz21_3
         try clear hcz21_4
         try clear hcz24_0
         try clear hcz24_1
         try clear hcz24_2
         try clear hcz24_3
         try clear hcz24_4
         try clear hcz25_0
         try clear hcz25_1
         try clear hcz25_2
         try clear hcz25_3
         try clear hcz25_4
         try clear hfz10_0
         try clear hfz10_1
         try clear hfz10_2
         try clear hfz10_3
         try clear hfz10_4
         try clear hfz18_0
         try clear hfz18_1
         try clear hfz18_2
         try clear hfz18_3
         try clear hfz18_4
         try clear hfz20_0
         try clear hfz20_1
         try clear hfz20_2
         try clear hfz20_3
         try clear hfz20_4
         try clear hfz21_0
         try clear hfz21_1
         try clear hfz21_2
         try clear hfz21_3
         try clear hfz21_4
         try clear hfz24_0
         try clear hfz24_1
         try clear hfz24_2
         try clear hfz24_3
         try clear hfz24_4
         try clear hfz25_0
         try clear hfz25_1
         try clear hfz25_2
         try clear hfz25_3
         try clear hfz25_4
         try clear hx154_0
         try clear hx154_1
         try clear hx154_2
         try clear hx154_3
         try clear hx154_4
         try clear p1
         try clear p15
         try clear p154
         try clear p2
         try clear p6
         try clear q1
         try clear q15
         try clear q154
         try clear BK152
         try clear HB
         obtain ⟨kq,x54_21,rfl,HA,HJ21,BK152,HB⟩:=hcut
         cases kq with
         | zero=>exact absurd HA.out (by simp [spec_l4Look.j4])
         | succ kj21 =>
          have H:=HA.out
          clear HA
          simp only [spec_l4Look.j4] at H
          by_cases c26:x54_21 = true
          ·subst c26
           have H1:(if 0≤x10_3 then (if x10_3 < (l0_4.length:Int) then ((spec_VarsOf.f kj21 ((rd_T53 l0_4 x10_3).f0.f0) ((rd_T53 l0_4 x10_3).f0.f1) ((rd_T53 l0_4 x10_3).f0.f2) ((rd_T53 l0_4 x10_3).f0.f3) ((rd_T53 l0_4 x10_3).f0.f4)).bind fun t157=>((spec_l4Once.f kj21 t157).bind fun t160=>(if t160 = true then ((spec_l4Look.f kj21 ((rd_T53 l0_4 x10_3).f0.f0) ((rd_T53 l0_4 x10_3).f0.f1) ((rd_T53 l0_4 x10_3).f0.f2) ((rd_T53 l0_4 x10_3).f0.f3) ((rd_T53 l0_4 x10_3).f0.f4) true (wrap64 (a2 - 1)) x3_3).bind fun t162=>(if t162 ≥ 0 then ((spec_l4Look.f kj21 ((rd_T53 l0_4 x10_3).f1.f0) ((rd_T53 l0_4 x10_3).f1.f1) ((rd_T53 l0_4 x10_3).f1.f2) ((rd_T53 l0_4 x10_3).f1.f3) ((rd_T53 l0_4 x10_3).f1.f4) false (wrap64 (a2 - 1)) t162).bind fun t164=>(spec_l4Look.l1 kj21 a2 t164 (wrap64 (x10_3 + 1)) a0_0 a0_1 a0_2 l0_3 l0_4)) else (spec_l4Look.l1 kj21 a2 t162 (wrap64 (x10_3 + 1)) a0_0 a0_1 a0_2 l0_3 l0_4))) else (some (-1))))) else (none)) else (none)) = some r:=by rw [if_pos rfl] at H;exact H
           clear H
           have H:=H1
           clear H1
           by_cases c27:0≤x10_3
           ·rw [if_pos c27] at H
            have c27b0:decide (0≤x10_3) = true:=decide_eq_true c27
            clear c27
            by_cases c28:x10_3 < (l0_4.length:Int)
            ·rw [if_pos c28] at H
             have c28b0:decide (x10_3 < (l0_4.length:Int)) = true:=decide_eq_true c28
             clear c28
             replace H:=Option.bind_eq_some_iff.mp H
             obtain ⟨t157,A290,H⟩:=H
             replace H:((spec_l4Once.f kj21 t157).bind fun t160=>(if t160 = true then ((spec_l4Look.f kj21 ((rd_T53 l0_4 x10_3).f0.f0) ((rd_T53 l0_4 x10_3).f0.f1) ((rd_T53 l0_4 x10_3).f0.f2) ((rd_T53 l0_4 x10_3).f0.f3) ((rd_T53 l0_4 x10_3).f0.f4) true (wrap64 (a2 - 1)) x3_3).bind fun t162=>(if t162 ≥ 0 then ((spec_l4Look.f kj21 ((rd_T53 l0_4 x10_3).f1.f0) ((rd_T53 l0_4 x10_3).f1.f1) ((rd_T53 l0_4 x10_3).f1.f2) ((rd_T53 l0_4 x10_3).f1.f3) ((rd_T53 l0_4 x10_3).f1.f4) false (wrap64 (a2 - 1)) t162).bind fun t164=>(spec_l4Look.l1 kj21 a2 t164 (wrap64 (x10_3 + 1)) a0_0 a0_1 a0_2 l0_3 l0_4)) else (spec_l4Look.l1 kj21 a2 t162 (wrap64 (x10_3 + 1)) a0_0 a0_1 a0_2 l0_3 l0_4))) else (some (-1)))) = some r:=H
             have A29:=Aside0.mk A290
             clear A290
             replace H:=Option.bind_eq_some_iff.mp H
             obtain ⟨t160,A300,H⟩:=H
             replace H:(if t160 = true then ((spec_l4Look.f kj21 ((rd_T53 l0_4 x10_3).f0.f0) ((rd_T53 l0_4 x10_3).f0.f1) ((rd_T53 l0_4 x10_3).f0.f2) ((rd_T53 l0_4 x10_3).f0.f3) ((rd_T53 l0_4 x10_3).f0.f4) true (wrap64 (a2 - 1)) x3_3).bind fun t162=>(if t162 ≥ 0 then ((spec_l4Look.f kj21 ((rd_T53 l0_4 x10_3).f1.f0) ((rd_T53 l0_4 x10_3).f1.f1) ((rd_T53 l0_4 x10_3).f1.f2) ((rd_T53 l0_4 x10_3).f1.f3) ((rd_T53 l0_4 x10_3).f1.f4) false (wrap64 (a2 - 1)) t162).bind fun t164=>(spec_l4Look.l1 kj21 a2 t164 (wrap64 (x10_3 + 1)) a0_0 a0_1 a0_2 l0_3 l0_4)) else (spec_l4Look.l1 kj21 a2 t162 (wrap64 (x10_3 + 1)) a0_0 a0_1 a0_2 l0_3 l0_4))) else (some (-1))) = some r:=H
             have A30:=Aside0.mk A300
             clear A300
             by_cases c31:t160 = true
             ·subst c31
              have H1:((spec_l4Look.f kj21 ((rd_T53 l0_4 x10_3).f0.f0) ((rd_T53 l0_4 x10_3).f0.f1) ((rd_T53 l0_4 x10_3).f0.f2) ((rd_T53 l0_4 x10_3).f0.f3) ((rd_T53 l0_4 x10_3).f0.f4) true (wrap64 (a2 - 1)) x3_3).bind fun t162=>(if t162 ≥ 0 then ((spec_l4Look.f kj21 ((rd_T53 l0_4 x10_3).f1.f0) ((rd_T53 l0_4 x10_3).f1.f1) ((rd_T53 l0_4 x10_3).f1.f2) ((rd_T53 l0_4 x10_3).f1.f3) ((rd_T53 l0_4 x10_3).f1.f4) false (wrap64 (a2 - 1)) t162).bind fun t164=>(spec_l4Look.l1 kj21 a2 t164 (wrap64 (x10_3 + 1)) a0_0 a0_1 a0_2 l0_3 l0_4)) else (spec_l4Look.l1 kj21 a2 t162 (wrap64 (x10_3 + 1)) a0_0 a0_1 a0_2 l0_3 l0_4))) = some r:=by rw [if_pos rfl] at H;exact H
              clear H
              have H:=H1
              clear H1
              replace H:=Option.bind_eq_some_iff.mp H
              obtain ⟨t162,A320,H⟩:=H
              replace H:(if t162 ≥ 0 then ((spec_l4Look.f kj21 ((rd_T53 l0_4 x10_3).f1.f0) ((rd_T53 l0_4 x10_3).f1.f1) ((rd_T53 l0_4 x10_3).f1.f2) ((rd_T53 l0_4 x10_3).f1.f3) ((rd_T53 l0_4 x10_3).f1.f4) false (wrap64 (a2 - 1)) t162).bind fun t164=>(spec_l4Look.l1 kj21 a2 t164 (wrap64 (x10_3 + 1)) a0_0 a0_1 a0_2 l0_3 l0_4)) else (spec_l4Look.l1 kj21 a2 t162 (wrap64 (x10_3 + 1)) a0_0 a0_1 a0_2 l0_3 l0_4)) = some r:=H
              have A32:=Aside0.mk A320
              clear A320
              by_cases c33:t162 ≥ 0
              ·rw [if_pos c33] at H
               have c33b0:decide (0≤t162) = true:=decide_eq_true c33
               clear c33
               replace H:=Option.bind_eq_some_iff.mp H
               obtain ⟨t164,A340,H⟩:=H
               replace H:(spec_l4Look.l1 kj21 a2 t164 (wrap64 (x10_3 + 1)) a0_0 a0_1 a0_2 l0_3 l0_4) = some r:=H
               have A34:=Aside0.mk A340
               clear A340
               have H':=Aside0.mk H
               clear H
               have hcz35_0:wc.cell? ⟨gb152,0,none⟩ = some (.int .i64 a0_0):=(blk_cell BK152.out 0).trans rfl
               have hcz35_1:wc.cell? ⟨gb152,1,none⟩ = some (.int .i64 a0_1):=(blk_cell BK152.out 1).trans rfl
               have hcz35_2:wc.cell? ⟨gb152,2,none⟩ = some (.string a0_2):=(blk_cell BK152.out 2).trans rfl
               have hcz35_3:wc.cell? ⟨gb152,3,none⟩ = some (.slice A0_3 l0_3.length c0_3):=(blk_cell BK152.out 3).trans rfl
               have hcz35_4:wc.cell? ⟨gb152,4,none⟩ = some (.slice A0_4 l0_4.length c0_4):=(blk_cell BK152.out 4).trans rfl
               have hfz35_0:=blk_frozen BK152.out 0
               have hfz35_1:=blk_frozen BK152.out 1
               have hfz35_2:=blk_frozen BK152.out 2
               have hfz35_3:=blk_frozen BK152.out 3
               have hfz35_4:=blk_frozen BK152.out 4
               have p156:0≤(x10_3:Int):=of_decide_eq_true (by first|(with_reducible assumption)|assumption)
               have q156:x10_3 < (l0_4.length:Int):=of_decide_eq_true (by first|(with_reducible assumption)|assumption)
               obtain ⟨ad156,A156_3,c156_3,A156_4,c156_4,A156_8,c156_8,A156_9,c156_9,e156,hx156_0,hx156_1,hx156_2,hx156_3,hx156_4,hx156_5,hx156_6,hx156_7,hx156_8,hx156_9,hl156_3,hi156_3,hl156_4,hi156_4,hl156_8,hi156_8,hl156_9,hi156_9⟩:=at_T53 HR0_4.out x10_3 p156 q156
               cases e156
               replace hx156_0:=(HB.out.cell (World.block_lt_of_cell? w _ hx156_0)).trans hx156_0
               replace hx156_1:=(HB.out.cell (World.block_lt_of_cell? w _ hx156_1)).trans hx156_1
               replace hx156_2:=(HB.out.cell (World.block_lt_of_cell? w _ hx156_2)).trans hx156_2
               replace hx156_3:=(HB.out.cell (World.block_lt_of_cell? w _ hx156_3)).trans hx156_3
               replace hx156_4:=(HB.out.cell (World.block_lt_of_cell? w _ hx156_4)).trans hx156_4
               replace hx156_5:=(HB.out.cell (World.block_lt_of_cell? w _ hx156_5)).trans hx156_5
               replace hx156_6:=(HB.out.cell (World.block_lt_of_cell? w _ hx156_6)).trans hx156_6
               replace hx156_7:=(HB.out.cell (World.block_lt_of_cell? w _ hx156_7)).trans hx156_7
               replace hx156_8:=(HB.out.cell (World.block_lt_of_cell? w _ hx156_8)).trans hx156_8
               replace hx156_9:=(HB.out.cell (World.block_lt_of_cell? w _ hx156_9)).trans hx156_9
               have HR156_3:=Aside0.mk hi156_3
               have HC156_3:=Aside0.mk hl156_3
               clear hi156_3 hl156_3
               have HR156_4:=Aside0.mk hi156_4
               have HC156_4:=Aside0.mk hl156_4
               clear hi156_4 hl156_4
               have HR156_8:=Aside0.mk hi156_8
               have HC156_8:=Aside0.mk hl156_8
               clear hi156_8 hl156_8
               have HR156_9:=Aside0.mk hi156_9
               have HC156_9:=Aside0.mk hl156_9
               clear hi156_9 hl156_9
               replace p156:=eq_true p156
               replace q156:=eq_true q156
               go_wp2_with (first|((with_reducible refine gate_callee (f:=20) rfl ?_);refine goesL_ (some 63) rfl rfl Try.func20 (by kernel_rfl) rfl #[.agg #[.int .i64 ((rd_T53 l0_4 x10_3).f0.f0),.int .i64 ((rd_T53 l0_4 x10_3).f0.f1),.string ((rd_T53 l0_4 x10_3).f0.f2),.slice A156_3 ((rd_T53 l0_4 x10_3).f0.f3).length c156_3,.slice A156_4 ((rd_T53 l0_4 x10_3).f0.f4).length c156_4]] rfl (by (try simp only [List.map_toArray,List.map_cons,List.map_nil]);first|done|rfl|(simp only [List.length_drop,List.length_take];rfl)) ?_;(with_reducible refine (spec_VarsOf.calls kj21 ((rd_T53 l0_4 x10_3).f0.f0) ((rd_T53 l0_4 x10_3).f0.f1) ((rd_T53 l0_4 x10_3).f0.f2) _ _ ((rd_T53 l0_4 x10_3).f0.f3) _ _ ((rd_T53 l0_4 x10_3).f0.f4) t157 _ ?side1 ?side2 ?side3 ?side4 A29.out).mono ?_);(case side1=>repeat (first|exact (Kd.C_below HR156_3.out HB.out)|(with_reducible refine Kd.C_alloc ?_ _)|(with_reducible refine Kd.C_drewN ?_ _)|(with_reducible refine Kd.C_drew ?_)));(case side2=>exact HC156_3.out);(case side3=>repeat (first|exact (Kd.C_below HR156_4.out HB.out)|(with_reducible refine Kd.C_alloc ?_ _)|(with_reducible refine Kd.C_drewN ?_ _)|(with_reducible refine Kd.C_drew ?_)));(case side4=>exact HC156_4.out);rintro e w36 ⟨v158,rfl,ho0,hb⟩;refine ⟨_,rfl,?_⟩;have n0_:=Aside0.mk (Kd.R_lower ho0 (below_size (by repeat (first|(with_reducible first|exact HB.out|apply below_alloc|apply pw_below_drewN|apply below_drew1|refine below_set ?_ GE152.out)|exact HB.out))));have n1_:=Aside0.mk (blk_below (g:=gb152) (o:=.cells #[.int .i64 a0_0,.int .i64 a0_1,.string a0_2,.slice A0_3 l0_3.length c0_3,.slice (some ad156) l0_4.length c0_4] 31 (0,0)) (by (with_reducible repeat (first|refine blk_drewN ?_ _|refine blk_drew ?_|refine blk_alloc ?_ _));exact BK152.out) hb);have n2_:=Aside0.mk (below_step (by repeat (first|(with_reducible first|exact HB.out|apply below_alloc|apply pw_below_drewN|apply below_drew1|refine below_set ?_ GE152.out)|exact HB.out)) hb);clear BK152;clear HB;have HO159:=n0_;have BK152:=n1_;have HB:=n2_;clear n0_ n1_ n2_;(try clear hb);(try clear hb2);(try clear hk);(try clear hi);(try clear ho0);obtain ⟨Ao37,co37,eo37⟩:=Kd.R_slice HO159.out;subst eo37)|((with_reducible refine gate_callee (f:=19) rfl ?_);refine goesL_ (some 64) rfl rfl Try.func19 (by kernel_rfl) rfl #[.slice Ao37 t157.length co37] rfl (by (try simp only [List.map_toArray,List.map_cons,List.map_nil]);first|done|rfl|(simp only [List.length_drop,List.length_take];rfl)) ?_;(with_reducible refine (spec_l4Once.calls kj21 _ _ t157 true _ ?side1 ?side2 A30.out).mono ?_);(case side1=>repeat (first|exact (Kd.R_reads' HO159.out).2.2|(with_reducible refine Kd.C_alloc ?_ _)|(with_reducible refine Kd.C_drewN ?_ _)|(with_reducible refine Kd.C_drew ?_)));(case side2=>exact (Kd.R_reads' HO159.out).2.1);rintro e w' ⟨rfl,⟨nd,rfl⟩⟩;refine ⟨_,rfl,?_⟩;have hcz38_0:w36.cell? ⟨gb152,0,none⟩ = some (.int .i64 a0_0):=(blk_cell BK152.out 0).trans rfl;have hcz38_1:w36.cell? ⟨gb152,1,none⟩ = some (.int .i64 a0_1):=(blk_cell BK152.out 1).trans rfl;have hcz38_2:w36.cell? ⟨gb152,2,none⟩ = some (.string a0_2):=(blk_cell BK152.out 2).trans rfl;have hcz38_3:w36.cell? ⟨gb152,3,none⟩ = some (.slice A0_3 l0_3.length c0_3):=(blk_cell BK152.out 3).trans rfl;have hcz38_4:w36.cell? ⟨gb152,4,none⟩ = some (.slice (some ad156) l0_4.length c0_4):=(blk_cell BK152.out 4).trans rfl;have hfz38_0:=blk_frozen BK152.out 0;have hfz38_1:=blk_frozen BK152.out 1;have hfz38_2:=blk_frozen BK152.out 2;have hfz38_3:=blk_frozen BK152.out 3;have hfz38_4:=blk_frozen BK152.out 4;have p161:0≤(x10_3:Int):=of_decide_eq_true (by first|(with_reducible assumption)|assumption);have q161:x10_3 < (l0_4.length:Int):=of_decide_eq_true (by first|(with_reducible assumption)|assumption);obtain ⟨ad161,A161_3,c161_3,A161_4,c161_4,A161_8,c161_8,A161_9,c161_9,e161,hx161_0,hx161_1,hx161_2,hx161_3,hx161_4,hx161_5,hx161_6,hx161_7,hx161_8,hx161_9,hl161_3,hi161_3,hl161_4,hi161_4,hl161_8,hi161_8,hl161_9,hi161_9⟩:=at_T53 HR0_4.out x10_3 p161 q161;obtain rfl:ad156 = ad161:=(by injection e161);replace hx161_0:=(HB.out.cell (World.block_lt_of_cell? w _ hx161_0)).trans hx161_0;replace hx161_1:=(HB.out.cell (World.block_lt_of_cell? w _ hx161_1)).trans hx161_1;replace hx161_2:=(HB.out.cell (World.block_lt_of_cell? w _ hx161_2)).trans hx161_2;replace hx161_3:=(HB.out.cell (World.block_lt_of_cell? w _ hx161_3)).trans hx161_3;replace hx161_4:=(HB.out.cell (World.block_lt_of_cell? w _ hx161_4)).trans hx161_4;replace hx161_5:=(HB.out.cell (World.block_lt_of_cell? w _ hx161_5)).trans hx161_5;replace hx161_6:=(HB.out.cell (World.block_lt_of_cell? w _ hx161_6)).trans hx161_6;replace hx161_7:=(HB.out.cell (World.block_lt_of_cell? w _ hx161_7)).trans hx161_7;replace hx161_8:=(HB.out.cell (World.block_lt_of_cell? w _ hx161_8)).trans hx161_8;replace hx161_9:=(HB.out.cell (World.block_lt_of_cell? w _ hx161_9)).trans hx161_9;have HR161_3:=Aside0.mk hi161_3;have HC161_3:=Aside0.mk hl161_3;clear hi161_3 hl161_3;have HR161_4:=Aside0.mk hi161_4;have HC161_4:=Aside0.mk hl161_4;clear hi161_4 hl161_4;have HR161_8:=Aside0.mk hi161_8;have HC161_8:=Aside0.mk hl161_8;clear hi161_8 hl161_8;have HR161_9:=Aside0.mk hi161_9;have HC161_9:=Aside0.mk hl161_9;clear hi161_9 hl161_9;replace p161:=eq_true p161;replace q161:=eq_true q161)|((with_reducible refine gate_callee (f:=11) rfl ?_);refine goesL_ (some 75) rfl rfl Try.func11 (by kernel_rfl) rfl #[.agg #[.int .i64 ((rd_T53 l0_4 x10_3).f0.f0),.int .i64 ((rd_T53 l0_4 x10_3).f0.f1),.string ((rd_T53 l0_4 x10_3).f0.f2),.slice A161_3 ((rd_T53 l0_4 x10_3).f0.f3).length c161_3,.slice A161_4 ((rd_T53 l0_4 x10_3).f0.f4).length c161_4],.bool true,.int .i64 (wrap64 (a2 - 1)),.int .i64 x3_3] rfl (by (try simp only [List.map_toArray,List.map_cons,List.map_nil]);first|done|rfl|(simp only [List.length_drop,List.length_take];rfl)) ?_;(with_reducible refine (ih kj21 (by have:=HJ4.out;have:=HJ12.out;have:=HK3.out;have:=HJ21.out;omega) ((rd_T53 l0_4 x10_3).f0.f0) ((rd_T53 l0_4 x10_3).f0.f1) ((rd_T53 l0_4 x10_3).f0.f2) _ _ ((rd_T53 l0_4 x10_3).f0.f3) _ _ ((rd_T53 l0_4 x10_3).f0.f4) true (wrap64 (a2 - 1)) x3_3 t162 _ ?side1 ?side2 ?side3 ?side4 A32.out).mono ?_);(case side1=>repeat (first|exact (Kd.C_below HR161_3.out (by repeat (first|(with_reducible first|exact HB.out|apply below_alloc|apply pw_below_drewN|apply below_drew1|refine below_set ?_ GE152.out)|exact HB.out)))|(with_reducible refine Kd.C_alloc ?_ _)|(with_reducible refine Kd.C_drewN ?_ _)|(with_reducible refine Kd.C_drew ?_)));(case side2=>exact HC161_3.out);(case side3=>repeat (first|exact (Kd.C_below HR161_4.out (by repeat (first|(with_reducible first|exact HB.out|apply below_alloc|apply pw_below_drewN|apply below_drew1|refine below_set ?_ GE152.out)|exact HB.out)))|(with_reducible refine Kd.C_alloc ?_ _)|(with_reducible refine Kd.C_drewN ?_ _)|(with_reducible refine Kd.C_drew ?_)));(case side4=>exact HC161_4.out);rintro e w39 ⟨rfl,hb⟩;refine ⟨_,rfl,?_⟩;have n0_:=Aside0.mk (Kd.R_below (by (with_reducible repeat (first|apply Kd.R_alloc|apply Kd.R_drewN|apply Kd.R_drew));exact HO159.out) hb);have n1_:=Aside0.mk (blk_below (g:=gb152) (o:=.cells #[.int .i64 a0_0,.int .i64 a0_1,.string a0_2,.slice A0_3 l0_3.length c0_3,.slice (some ad156) l0_4.length c0_4] 31 (0,0)) (by (with_reducible repeat (first|refine blk_drewN ?_ _|refine blk_drew ?_|refine blk_alloc ?_ _));exact BK152.out) hb);have n2_:=Aside0.mk (below_step (by repeat (first|(with_reducible first|exact HB.out|apply below_alloc|apply pw_below_drewN|apply below_drew1|refine below_set ?_ GE152.out)|exact HB.out)) hb);clear HO159;clear BK152;clear HB;have HO159:=n0_;have BK152:=n1_;have HB:=n2_;clear n0_ n1_ n2_;(try clear hb);(try clear hb2);(try clear hk);(try clear hi);have hcz40_0:w39.cell? ⟨gb152,0,none⟩ = some (.int .i64 a0_0):=(blk_cell BK152.out 0).trans rfl;have hcz40_1:w39.cell? ⟨gb152,1,none⟩ = some (.int .i64 a0_1):=(blk_cell BK152.out 1).trans rfl;have hcz40_2:w39.cell? ⟨gb152,2,none⟩ = some (.string a0_2):=(blk_cell BK152.out 2).trans rfl;have hcz40_3:w39.cell? ⟨gb152,3,none⟩ = some (.slice A0_3 l0_3.length c0_3):=(blk_cell BK152.out 3).trans rfl;have hcz40_4:w39.cell? ⟨gb152,4,none⟩ = some (.slice (some ad156) l0_4.length c0_4):=(blk_cell BK152.out 4).trans rfl;have hfz40_0:=blk_frozen BK152.out 0;have hfz40_1:=blk_frozen BK152.out 1;have hfz40_2:=blk_frozen BK152.out 2;have hfz40_3:=blk_frozen BK152.out 3;have hfz40_4:=blk_frozen BK152.out 4;have p163:0≤(x10_3:Int):=of_decide_eq_true (by first|(with_reducible assumption)|assumption);have q163:x10_3 < (l0_4.length:Int):=of_decide_eq_true (by first|(with_reducible assumption)|assumption);obtain ⟨ad163,A163_3,c163_3,A163_4,c163_4,A163_8,c163_8,A163_9,c163_9,e163,hx163_0,hx163_1,hx163_2,hx163_3,hx163_4,hx163_5,hx163_6,hx163_7,hx163_8,hx163_9,hl163_3,hi163_3,hl163_4,hi163_4,hl163_8,hi163_8,hl163_9,hi163_9⟩:=at_T53 HR0_4.out x10_3 p163 q163;obtain rfl:ad156 = ad163:=(by injection e163);replace hx163_0:=(HB.out.cell (World.block_lt_of_cell? w _ hx163_0)).trans hx163_0;replace hx163_1:=(HB.out.cell (World.block_lt_of_cell? w _ hx163_1)).trans hx163_1;replace hx163_2:=(HB.out.cell (World.block_lt_of_cell? w _ hx163_2)).trans hx163_2;replace hx163_3:=(HB.out.cell (World.block_lt_of_cell? w _ hx163_3)).trans hx163_3;replace hx163_4:=(HB.out.cell (World.block_lt_of_cell? w _ hx163_4)).trans hx163_4;replace hx163_5:=(HB.out.cell (World.block_lt_of_cell? w _ hx163_5)).trans hx163_5;replace hx163_6:=(HB.out.cell (World.block_lt_of_cell? w _ hx163_6)).trans hx163_6;replace hx163_7:=(HB.out.cell (World.block_lt_of_cell? w _ hx163_7)).trans hx163_7;replace hx163_8:=(HB.out.cell (World.block_lt_of_cell? w _ hx163_8)).trans hx163_8;replace hx163_9:=(HB.out.cell (World.block_lt_of_cell? w _ hx163_9)).trans hx163_9;have HR163_3:=Aside0.mk hi163_3;have HC163_3:=Aside0.mk hl163_3;clear hi163_3 hl163_3;have HR163_4:=Aside0.mk hi163_4;have HC163_4:=Aside0.mk hl163_4;clear hi163_4 hl163_4;have HR163_8:=Aside0.mk hi163_8;have HC163_8:=Aside0.mk hl163_8;clear hi163_8 hl163_8;have HR163_9:=Aside0.mk hi163_9;have HC163_9:=Aside0.mk hl163_9;clear hi163_9 hl163_9;replace p163:=eq_true p163;replace q163:=eq_true q163)|((with_reducible refine gate_callee (f:=11) rfl ?_);refine goesL_ (some 87) rfl rfl Try.func11 (by kernel_rfl) rfl #[.agg #[.int .i64 ((rd_T53 l0_4 x10_3).f1.f0),.int .i64 ((rd_T53 l0_4 x10_3).f1.f1),.string ((rd_T53 l0_4 x10_3).f1.f2),.slice A163_8 ((rd_T53 l0_4 x10_3).f1.f3).length c163_8,.slice A163_9 ((rd_T53 l0_4 x10_3).f1.f4).length c163_9],.bool false,.int .i64 (wrap64 (a2 - 1)),.int .i64 t162] rfl (by (try simp only [List.map_toArray,List.map_cons,List.map_nil]);first|done|rfl|(simp only [List.length_drop,List.length_take];rfl)) ?_;(with_reducible refine (ih kj21 (by have:=HJ4.out;have:=HJ12.out;have:=HK3.out;have:=HJ21.out;omega) ((rd_T53 l0_4 x10_3).f1.f0) ((rd_T53 l0_4 x10_3).f1.f1) ((rd_T53 l0_4 x10_3).f1.f2) _ _ ((rd_T53 l0_4 x10_3).f1.f3) _ _ ((rd_T53 l0_4 x10_3).f1.f4) false (wrap64 (a2 - 1)) t162 t164 _ ?side1 ?side2 ?side3 ?side4 A34.out).mono ?_);(case side1=>repeat (first|exact (Kd.C_below HR163_8.out HB.out)|(with_reducible refine Kd.C_alloc ?_ _)|(with_reducible refine Kd.C_drewN ?_ _)|(with_reducible refine Kd.C_drew ?_)));(case side2=>exact HC163_8.out);(case side3=>repeat (first|exact (Kd.C_below HR163_9.out HB.out)|(with_reducible refine Kd.C_alloc ?_ _)|(with_reducible refine Kd.C_drewN ?_ _)|(with_reducible refine Kd.C_drew ?_)));(case side4=>exact HC163_9.out);rintro e w41 ⟨rfl,hb⟩;refine ⟨_,rfl,?_⟩;have n0_:=Aside0.mk (Kd.R_below (by (with_reducible repeat (first|apply Kd.R_alloc|apply Kd.R_drewN|apply Kd.R_drew));exact HO159.out) hb);have n1_:=Aside0.mk (blk_below (g:=gb152) (o:=.cells #[.int .i64 a0_0,.int .i64 a0_1,.string a0_2,.slice A0_3 l0_3.length c0_3,.slice (some ad156) l0_4.length c0_4] 31 (0,0)) (by (with_reducible repeat (first|refine blk_drewN ?_ _|refine blk_drew ?_|refine blk_alloc ?_ _));exact BK152.out) hb);have n2_:=Aside0.mk (below_step (by repeat (first|(with_reducible first|exact HB.out|apply below_alloc|apply pw_below_drewN|apply below_drew1|refine below_set ?_ GE152.out)|exact HB.out)) hb);clear HO159;clear BK152;clear HB;have HO159:=n0_;have BK152:=n1_;have HB:=n2_;clear n0_ n1_ n2_;(try clear hb);(try clear hb2);(try clear hk);(try clear hi)))
               go_roundg kj21
               case measure=>have:=HJ4.out;have:=HJ12.out;have:=HK3.out;have:=HJ21.out;omega
               case rel=>exact ⟨(t164),(wrap64 (x10_3 + 1)),(by first|rfl|(simp;done)|(simp [*];done)),(by first|rfl|(simp;done)|(simp [*];done)),H',⟨by have:=HJ4.out;have:=HJ12.out;have:=HK3.out;have:=HJ21.out;omega⟩,⟨by (with_reducible repeat (first|refine blk_drewN ?_ _|refine blk_drew ?_|refine blk_alloc ?_ _));exact BK152.out⟩,⟨by repeat (first|(with_reducible first|exact HB.out|apply below_alloc|apply pw_below_drewN|apply below_drew1|refine below_set ?_ GE152.out)|exact HB.out)⟩⟩
              ·rw [if_neg c33] at H
               have c33b0:decide (0≤t162) = false:=decide_eq_false c33
               clear c33
               have H':=Aside0.mk H
               clear H
               have hcz42_0:wc.cell? ⟨gb152,0,none⟩ = some (.int .i64 a0_0):=(blk_cell BK152.out 0).trans rfl
               have hcz42_1:wc.cell? ⟨gb152,1,none⟩ = some (.int .i64 a0_1):=(blk_cell BK152.out 1).trans rfl
               have hcz42_2:wc.cell? ⟨gb152,2,none⟩ = some (.string a0_2):=(blk_cell BK152.out 2).trans rfl
               have hcz42_3:wc.cell? ⟨gb152,3,none⟩ = some (.slice A0_3 l0_3.length c0_3):=(blk_cell BK152.out 3).trans rfl
               have hcz42_4:wc.cell? ⟨gb152,4,none⟩ = some (.slice A0_4 l0_4.length c0_4):=(blk_cell BK152.out 4).trans rfl
               have hfz42_0:=blk_frozen BK152.out 0
               have hfz42_1:=blk_frozen BK152.out 1
               have hfz42_2:=blk_frozen BK152.out 2
               have hfz42_3:=blk_frozen BK152.out 3
               have hfz42_4:=blk_frozen BK152.out 4
               have p156:0≤(x10_3:Int):=of_decide_eq_true (by first|(with_reducible assumption)|assumption)
               have q156:x10_3 < (l0_4.length:Int):=of_decide_eq_true (by first|(with_reducible assumption)|assumption)
               obtain ⟨ad156,A156_3,c156_3,A156_4,c156_4,A156_8,c156_8,A156_9,c156_9,e156,hx156_0,hx156_1,hx156_2,hx156_3,hx156_4,hx156_5,hx156_6,hx156_7,hx156_8,hx156_9,hl156_3,hi156_3,hl156_4,hi156_4,hl156_8,hi156_8,hl156_9,hi156_9⟩:=at_T53 HR0_4.out x10_3 p156 q156
               cases e156
               replace hx156_0:=(HB.out.cell (World.block_lt_of_cell? w _ hx156_0)).trans hx156_0
               replace hx156_1:=(HB.out.cell (World.block_lt_of_cell? w _ hx156_1)).trans hx156_1
               replace hx156_2:=(HB.out.cell (World.block_lt_of_cell? w _ hx156_2)).trans hx156_2
               replace hx156_3:=(HB.out.cell (World.block_lt_of_cell? w _ hx156_3)).trans hx156_3
               replace hx156_4:=(HB.out.cell (World.block_lt_of_cell? w _ hx156_4)).trans hx156_4
               replace hx156_5:=(HB.out.cell (World.block_lt_of_cell? w _ hx156_5)).trans hx156_5
               replace hx156_6:=(HB.out.cell (World.block_lt_of_cell? w _ hx156_6)).trans hx156_6
               replace hx156_7:=(HB.out.cell (World.block_lt_of_cell? w _ hx156_7)).trans hx156_7
               replace hx156_8:=(HB.out.cell (World.block_lt_of_cell? w _ hx156_8)).trans hx156_8
               replace hx156_9:=(HB.out.cell (World.block_lt_of_cell? w _ hx156_9)).trans hx156_9
               have HR156_3:=Aside0.mk hi156_3
               have HC156_3:=Aside0.mk hl156_3
               clear hi156_3 hl156_3
               have HR156_4:=Aside0.mk hi156_4
               have HC156_4:=Aside0.mk hl156_4
               clear hi156_4 hl156_4
               have HR156_8:=Aside0.mk hi156_8
               have HC156_8:=Aside0.mk hl156_8
               clear hi156_8 hl156_8
               have HR156_9:=Aside0.mk hi156_9
               have HC156_9:=Aside0.mk hl156_9
               clear hi156_9 hl156_9
               replace p156:=eq_true p156
               replace q156:=eq_true q156
               go_wp2_with (first|((with_reducible refine gate_callee (f:=20) rfl ?_);refine goesL_ (some 63) rfl rfl Try.func20 (by kernel_rfl) rfl #[.agg #[.int .i64 ((rd_T53 l0_4 x10_3).f0.f0),.int .i64 ((rd_T53 l0_4 x10_3).f0.f1),.string ((rd_T53 l0_4 x10_3).f0.f2),.slice A156_3 ((rd_T53 l0_4 x10_3).f0.f3).length c156_3,.slice A156_4 ((rd_T53 l0_4 x10_3).f0.f4).length c156_4]] rfl (by (try simp only [List.map_toArray,List.map_cons,List.map_nil]);first|done|rfl|(simp only [List.length_drop,List.length_take];rfl)) ?_;(with_reducible refine (spec_VarsOf.calls kj21 ((rd_T53 l0_4 x10_3).f0.f0) ((rd_T53 l0_4 x10_3).f0.f1) ((rd_T53 l0_4 x10_3).f0.f2) _ _ ((rd_T53 l0_4 x10_3).f0.f3) _ _ ((rd_T53 l0_4 x10_3).f0.f4) t157 _ ?side1 ?side2 ?side3 ?side4 A29.out).mono ?_);(case side1=>repeat (first|exact (Kd.C_below HR156_3.out HB.out)|(with_reducible refine Kd.C_alloc ?_ _)|(with_reducible refine Kd.C_drewN ?_ _)|(with_reducible refine Kd.C_drew ?_)));(case side2=>exact HC156_3.out);(case side3=>repeat (first|exact (Kd.C_below HR156_4.out HB.out)|(with_reducible refine Kd.C_alloc ?_ _)|(with_reducible refine Kd.C_drewN ?_ _)|(with_reducible refine Kd.C_drew ?_)));(case side4=>exact HC156_4.out);rintro e w43 ⟨v158,rfl,ho0,hb⟩;refine ⟨_,rfl,?_⟩;have n0_:=Aside0.mk (Kd.R_lower ho0 (below_size (by repeat (first|(with_reducible first|exact HB.out|apply below_alloc|apply pw_below_drewN|apply below_drew1|refine below_set ?_ GE152.out)|exact HB.out))));have n1_:=Aside0.mk (blk_below (g:=gb152) (o:=.cells #[.int .i64 a0_0,.int .i64 a0_1,.string a0_2,.slice A0_3 l0_3.length c0_3,.slice (some ad156) l0_4.length c0_4] 31 (0,0)) (by (with_reducible repeat (first|refine blk_drewN ?_ _|refine blk_drew ?_|refine blk_alloc ?_ _));exact BK152.out) hb);have n2_:=Aside0.mk (below_step (by repeat (first|(with_reducible first|exact HB.out|apply below_alloc|apply pw_below_drewN|apply below_drew1|refine below_set ?_ GE152.out)|exact HB.out)) hb);clear BK152;clear HB;have HO159:=n0_;have BK152:=n1_;have HB:=n2_;clear n0_ n1_ n2_;(try clear hb);(try clear hb2);(try clear hk);(try clear hi);(try clear ho0);obtain ⟨Ao44,co44,eo44⟩:=Kd.R_slice HO159.out;subst eo44)|((with_reducible refine gate_callee (f:=19) rfl ?_);refine goesL_ (some 64) rfl rfl Try.func19 (by kernel_rfl) rfl #[.slice Ao44 t157.length co44] rfl (by (try simp only [List.map_toArray,List.map_cons,List.map_nil]);first|done|rfl|(simp only [List.length_drop,List.length_take];rfl)) ?_;(with_reducible refine (spec_l4Once.calls kj21 _ _ t157 true _ ?side1 ?side2 A30.out).mono ?_);(case side1=>repeat (first|exact (Kd.R_reads' HO159.out).2.2|(with_reducible refine Kd.C_alloc ?_ _)|(with_reducible refine Kd.C_drewN ?_ _)|(with_reducible refine Kd.C_drew ?_)));(case side2=>exact (Kd.R_reads' HO159.out).2.1);rintro e w' ⟨rfl,⟨nd,rfl⟩⟩;refine ⟨_,rfl,?_⟩;have hcz45_0:w43.cell? ⟨gb152,0,none⟩ = some (.int .i64 a0_0):=(blk_cell BK152.out 0).trans rfl;have hcz45_1:w43.cell? ⟨gb152,1,none⟩ = some (.int .i64 a0_1):=(blk_cell BK152.out 1).trans rfl;have hcz45_2:w43.cell? ⟨gb152,2,none⟩ = some (.string a0_2):=(blk_cell BK152.out 2).trans rfl;have hcz45_3:w43.cell? ⟨gb152,3,none⟩ = some (.slice A0_3 l0_3.length c0_3):=(blk_cell BK152.out 3).trans rfl;have hcz45_4:w43.cell? ⟨gb152,4,none⟩ = some (.slice (some ad156) l0_4.length c0_4):=(blk_cell BK152.out 4).trans rfl;have hfz45_0:=blk_frozen BK152.out 0;have hfz45_1:=blk_frozen BK152.out 1;have hfz45_2:=blk_frozen BK152.out 2;have hfz45_3:=blk_frozen BK152.out 3;have hfz45_4:=blk_frozen BK152.out 4;have p161:0≤(x10_3:Int):=of_decide_eq_true (by first|(with_reducible assumption)|assumption);have q161:x10_3 < (l0_4.length:Int):=of_decide_eq_true (by first|(with_reducible assumption)|assumption);obtain ⟨ad161,A161_3,c161_3,A161_4,c161_4,A161_8,c161_8,A161_9,c161_9,e161,hx161_0,hx161_1,hx161_2,hx161_3,hx161_4,hx161_5,hx161_6,hx161_7,hx161_8,hx161_9,hl161_3,hi161_3,hl161_4,hi161_4,hl161_8,hi161_8,hl161_9,hi161_9⟩:=at_T53 HR0_4.out x10_3 p161 q161;obtain rfl:ad156 = ad161:=(by injection e161);replace hx161_0:=(HB.out.cell (World.block_lt_of_cell? w _ hx161_0)).trans hx161_0;replace hx161_1:=(HB.out.cell (World.block_lt_of_cell? w _ hx161_1)).trans hx161_1;replace hx161_2:=(HB.out.cell (World.block_lt_of_cell? w _ hx161_2)).trans hx161_2;replace hx161_3:=(HB.out.cell (World.block_lt_of_cell? w _ hx161_3)).trans hx161_3;replace hx161_4:=(HB.out.cell (World.block_lt_of_cell? w _ hx161_4)).trans hx161_4;replace hx161_5:=(HB.out.cell (World.block_lt_of_cell? w _ hx161_5)).trans hx161_5;replace hx161_6:=(HB.out.cell (World.block_lt_of_cell? w _ hx161_6)).trans hx161_6;replace hx161_7:=(HB.out.cell (World.block_lt_of_cell? w _ hx161_7)).trans hx161_7;replace hx161_8:=(HB.out.cell (World.block_lt_of_cell? w _ hx161_8)).trans hx161_8;replace hx161_9:=(HB.out.cell (World.block_lt_of_cell? w _ hx161_9)).trans hx161_9;have HR161_3:=Aside0.mk hi161_3;have HC161_3:=Aside0.mk hl161_3;clear hi161_3 hl161_3;have HR161_4:=Aside0.mk hi161_4;have HC161_4:=Aside0.mk hl161_4;clear hi161_4 hl161_4;have HR161_8:=Aside0.mk hi161_8;have HC161_8:=Aside0.mk hl161_8;clear hi161_8 hl161_8;have HR161_9:=Aside0.mk hi161_9;have HC161_9:=Aside0.mk hl161_9;clear hi161_9 hl161_9;replace p161:=eq_true p161;replace q161:=eq_true q161)|((with_reducible refine gate_callee (f:=11) rfl ?_);refine goesL_ (some 75) rfl rfl Try.func11 (by kernel_rfl) rfl #[.agg #[.int .i64 ((rd_T53 l0_4 x10_3).f0.f0),.int .i64 ((rd_T53 l0_4 x10_3).f0.f1),.string ((rd_T53 l0_4 x10_3).f0.f2),.slice A161_3 ((rd_T53 l0_4 x10_3).f0.f3).length c161_3,.slice A161_4 ((rd_T53 l0_4 x10_3).f0.f4).length c161_4],.bool true,.int .i64 (wrap64 (a2 - 1)),.int .i64 x3_3] rfl (by (try simp only [List.map_toArray,List.map_cons,List.map_nil]);first|done|rfl|(simp only [List.length_drop,List.length_take];rfl)) ?_;(with_reducible refine (ih kj21 (by have:=HJ4.out;have:=HJ12.out;have:=HK3.out;have:=HJ21.out;omega) ((rd_T53 l0_4 x10_3).f0.f0) ((rd_T53 l0_4 x10_3).f0.f1) ((rd_T53 l0_4 x10_3).f0.f2) _ _ ((rd_T53 l0_4 x10_3).f0.f3) _ _ ((rd_T53 l0_4 x10_3).f0.f4) true (wrap64 (a2 - 1)) x3_3 t162 _ ?side1 ?side2 ?side3 ?side4 A32.out).mono ?_);(case side1=>repeat (first|exact (Kd.C_below HR161_3.out (by repeat (first|(with_reducible first|exact HB.out|apply below_alloc|apply pw_below_drewN|apply below_drew1|refine below_set ?_ GE152.out)|exact HB.out)))|(with_reducible refine Kd.C_alloc ?_ _)|(with_reducible refine Kd.C_drewN ?_ _)|(with_reducible refine Kd.C_drew ?_)));(case side2=>exact HC161_3.out);(case side3=>repeat (first|exact (Kd.C_below HR161_4.out (by repeat (first|(with_reducible first|exact HB.out|apply below_alloc|apply pw_below_drewN|apply below_drew1|refine below_set ?_ GE152.out)|exact HB.out)))|(with_reducible refine Kd.C_alloc ?_ _)|(with_reducible refine Kd.C_drewN ?_ _)|(with_reducible refine Kd.C_drew ?_)));(case side4=>exact HC161_4.out);rintro e w46 ⟨rfl,hb⟩;refine ⟨_,rfl,?_⟩;have n0_:=Aside0.mk (Kd.R_below (by (with_reducible repeat (first|apply Kd.R_alloc|apply Kd.R_drewN|apply Kd.R_drew));exact HO159.out) hb);have n1_:=Aside0.mk (blk_below (g:=gb152) (o:=.cells #[.int .i64 a0_0,.int .i64 a0_1,.string a0_2,.slice A0_3 l0_3.length c0_3,.slice (some ad156) l0_4.length c0_4] 31 (0,0)) (by (with_reducible repeat (first|refine blk_drewN ?_ _|refine blk_drew ?_|refine blk_alloc ?_ _));exact BK152.out) hb);have n2_:=Aside0.mk (below_step (by repeat (first|(with_reducible first|exact HB.out|apply below_alloc|apply pw_below_drewN|apply below_drew1|refine below_set ?_ GE152.out)|exact HB.out)) hb);clear HO159;clear BK152;clear HB;have HO159:=n0_;have BK152:=n1_;have HB:=n2_;clear n0_ n1_ n2_;(try clear hb);(try clear hb2);(try clear hk);(try clear hi)))
               go_roundg kj21
               case measure=>have:=HJ4.out;have:=HJ12.out;have:=HK3.out;have:=HJ21.out;omega
               case rel=>exact ⟨(t162),(wrap64 (x10_3 + 1)),(by first|rfl|(simp;done)|(simp [*];done)),(by first|rfl|(simp;done)|(simp [*];done)),H',⟨by have:=HJ4.out;have:=HJ12.out;have:=HK3.out;have:=HJ21.out;omega⟩,⟨by (with_reducible repeat (first|refine blk_drewN ?_ _|refine blk_drew ?_|refine blk_alloc ?_ _));exact BK152.out⟩,⟨by repeat (first|(with_reducible first|exact HB.out|apply below_alloc|apply pw_below_drewN|apply below_drew1|refine below_set ?_ GE152.out)|exact HB.out)⟩⟩
             ·replace c31:=Bool.eq_false_iff.mpr c31
              subst c31
              have H1:(some (-1)) = some r:=by rw [if_neg (show ¬ (false = true) by decide)] at H;exact H
              clear H
              have H:=H1
              clear H1
              obtain rfl:=Option.some.inj H
              have hcz47_0:wc.cell? ⟨gb152,0,none⟩ = some (.int .i64 a0_0):=(blk_cell BK152.out 0).trans rfl
              have hcz47_1:wc.cell? ⟨gb152,1,none⟩ = some (.int .i64 a0_1):=(blk_cell BK152.out 1).trans rfl
              have hcz47_2:wc.cell? ⟨gb152,2,none⟩ = some (.string a0_2):=(blk_cell BK152.out 2).trans rfl
              have hcz47_3:wc.cell? ⟨gb152,3,none⟩ = some (.slice A0_3 l0_3.length c0_3):=(blk_cell BK152.out 3).trans rfl
              have hcz47_4:wc.cell? ⟨gb152,4,none⟩ = some (.slice A0_4 l0_4.length c0_4):=(blk_cell BK152.out 4).trans rfl
              have hfz47_0:=blk_frozen BK152.out 0
              have hfz47_1:=blk_frozen BK152.out 1
              have hfz47_2:=blk_frozen BK152.out 2
              have hfz47_3:=blk_frozen BK152.out 3
              have hfz47_4:=blk_frozen BK152.out 4
              have p156:0≤(x10_3:Int):=of_decide_eq_true (by first|(with_reducible assumption)|assumption)
              have q156:x10_3 < (l0_4.length:Int):=of_decide_eq_true (by first|(with_reducible assumption)|assumption)
              obtain ⟨ad156,A156_3,c156_3,A156_4,c156_4,A156_8,c156_8,A156_9,c156_9,e156,hx156_0,hx156_1,hx156_2,hx156_3,hx156_4,hx156_5,hx156_6,hx156_7,hx156_8,hx156_9,hl156_3,hi156_3,hl156_4,hi156_4,hl156_8,hi156_8,hl156_9,hi156_9⟩:=at_T53 HR0_4.out x10_3 p156 q156
              cases e156
              replace hx156_0:=(HB.out.cell (World.block_lt_of_cell? w _ hx156_0)).trans hx156_0
              replace hx156_1:=(HB.out.cell (World.block_lt_of_cell? w _ hx156_1)).trans hx156_1
              replace hx156_2:=(HB.out.cell (World.block_lt_of_cell? w _ hx156_2)).trans hx156_2
              replace hx156_3:=(HB.out.cell (World.block_lt_of_cell? w _ hx156_3)).trans hx156_3
              replace hx156_4:=(HB.out.cell (World.block_lt_of_cell? w _ hx156_4)).trans hx156_4
              replace hx156_5:=(HB.out.cell (World.block_lt_of_cell? w _ hx156_5)).trans hx156_5
              replace hx156_6:=(HB.out.cell (World.block_lt_of_cell? w _ hx156_6)).trans hx156_6
              replace hx156_7:=(HB.out.cell (World.block_lt_of_cell? w _ hx156_7)).trans hx156_7
              replace hx156_8:=(HB.out.cell (World.block_lt_of_cell? w _ hx156_8)).trans hx156_8
              replace hx156_9:=(HB.out.cell (World.block_lt_of_cell? w _ hx156_9)).trans hx156_9
              have HR156_3:=Aside0.mk hi156_3
              have HC156_3:=Aside0.mk hl156_3
              clear hi156_3 hl156_3
              have HR156_4:=Aside0.mk hi156_4
              have HC156_4:=Aside0.mk hl156_4
              clear hi156_4 hl156_4
              have HR156_8:=Aside0.mk hi156_8
              have HC156_8:=Aside0.mk hl156_8
              clear hi156_8 hl156_8
              have HR156_9:=Aside0.mk hi156_9
              have HC156_9:=Aside0.mk hl156_9
              clear hi156_9 hl156_9
              replace p156:=eq_true p156
              replace q156:=eq_true q156
              go_wp2_with (first|((with_reducible refine gate_callee (f:=20) rfl ?_);refine goesL_ (some 63) rfl rfl Try.func20 (by kernel_rfl) rfl #[.agg #[.int .i64 ((rd_T53 l0_4 x10_3).f0.f0),.int .i64 ((rd_T53 l0_4 x10_3).f0.f1),.string ((rd_T53 l0_4 x10_3).f0.f2),.slice A156_3 ((rd_T53 l0_4 x10_3).f0.f3).length c156_3,.slice A156_4 ((rd_T53 l0_4 x10_3).f0.f4).length c156_4]] rfl (by (try simp only [List.map_toArray,List.map_cons,List.map_nil]);first|done|rfl|(simp only [List.length_drop,List.length_take];rfl)) ?_;(with_reducible refine (spec_VarsOf.calls kj21 ((rd_T53 l0_4 x10_3).f0.f0) ((rd_T53 l0_4 x10_3).f0.f1) ((rd_T53 l0_4 x10_3).f0.f2) _ _ ((rd_T53 l0_4 x10_3).f0.f3) _ _ ((rd_T53 l0_4 x10_3).f0.f4) t157 _ ?side1 ?side2 ?side3 ?side4 A29.out).mono ?_);(case side1=>repeat (first|exact (Kd.C_below HR156_3.out HB.out)|(with_reducible refine Kd.C_alloc ?_ _)|(with_reducible refine Kd.C_drewN ?_ _)|(with_reducible refine Kd.C_drew ?_)));(case side2=>exact HC156_3.out);(case side3=>repeat (first|exact (Kd.C_below HR156_4.out HB.out)|(with_reducible refine Kd.C_alloc ?_ _)|(with_reducible refine Kd.C_drewN ?_ _)|(with_reducible refine Kd.C_drew ?_)));(case side4=>exact HC156_4.out);rintro e w48 ⟨v158,rfl,ho0,hb⟩;refine ⟨_,rfl,?_⟩;have n0_:=Aside0.mk (Kd.R_lower ho0 (below_size (by repeat (first|(with_reducible first|exact HB.out|apply below_alloc|apply pw_below_drewN|apply below_drew1|refine below_set ?_ GE152.out)|exact HB.out))));have n1_:=Aside0.mk (blk_below (g:=gb152) (o:=.cells #[.int .i64 a0_0,.int .i64 a0_1,.string a0_2,.slice A0_3 l0_3.length c0_3,.slice (some ad156) l0_4.length c0_4] 31 (0,0)) (by (with_reducible repeat (first|refine blk_drewN ?_ _|refine blk_drew ?_|refine blk_alloc ?_ _));exact BK152.out) hb);have n2_:=Aside0.mk (below_step (by repeat (first|(with_reducible first|exact HB.out|apply below_alloc|apply pw_below_drewN|apply below_drew1|refine below_set ?_ GE152.out)|exact HB.out)) hb);clear BK152;clear HB;have HO159:=n0_;have BK152:=n1_;have HB:=n2_;clear n0_ n1_ n2_;(try clear hb);(try clear hb2);(try clear hk);(try clear hi);(try clear ho0);obtain ⟨Ao49,co49,eo49⟩:=Kd.R_slice HO159.out;subst eo49)|((with_reducible refine gate_callee (f:=19) rfl ?_);refine goesL_ (some 64) rfl rfl Try.func19 (by kernel_rfl) rfl #[.slice Ao49 t157.length co49] rfl (by (try simp only [List.map_toArray,List.map_cons,List.map_nil]);first|done|rfl|(simp only [List.length_drop,List.length_take];rfl)) ?_;(with_reducible refine (spec_l4Once.calls kj21 _ _ t157 false _ ?side1 ?side2 A30.out).mono ?_);(case side1=>repeat (first|exact (Kd.R_reads' HO159.out).2.2|(with_reducible refine Kd.C_alloc ?_ _)|(with_reducible refine Kd.C_drewN ?_ _)|(with_reducible refine Kd.C_drew ?_)));(case side2=>exact (Kd.R_reads' HO159.out).2.1);rintro e w' ⟨rfl,⟨nd,rfl⟩⟩;refine ⟨_,rfl,?_⟩))
              go_ret
              exact ⟨by first|rfl|(simp [*,errW_none,errW_some] <;> rfl),by repeat (first|(with_reducible first|exact HB.out|apply below_alloc|apply pw_below_drewN|apply below_drew1|refine below_set ?_ GE152.out)|exact HB.out)⟩
            ·rw [if_neg c28] at H
             exact absurd H (by simp)
           ·rw [if_neg c27] at H
            exact absurd H (by simp)
          ·replace c26:=Bool.eq_false_iff.mpr c26
           subst c26
           have H1:(some x3_3) = some r:=by rw [if_neg (show ¬ (false = true) by decide)] at H;exact H
           clear H
           have H:=H1
           clear H1
           obtain rfl:=Option.some.inj H
           go_wp2
           go_ret
           exact ⟨by first|rfl|(simp [*,errW_none,errW_some] <;> rfl),by repeat (first|(with_reducible first|exact HB.out|apply below_alloc|apply pw_below_drewN|apply below_drew1|refine below_set ?_ GE152.out)|exact HB.out)⟩

end Go.Proofs.Ytjgegnkphkfmoaa.QFnExactExprOk
