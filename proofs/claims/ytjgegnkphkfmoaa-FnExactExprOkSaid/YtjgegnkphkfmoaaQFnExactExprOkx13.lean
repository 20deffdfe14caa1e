-- Written by a program of this workplace (print2.py) for this claim, over the print's words.
import Derived.Test.YtjgegnkphkfmoaaQFnExactExprOkx0
import Derived.Test.YtjgegnkphkfmoaaQFnExactExprOkx1
import Derived.Test.YtjgegnkphkfmoaaQFnExactExprOkx6
import Derived.Test.YtjgegnkphkfmoaaQFnExactExprOkx11
import Derived.Test.YtjgegnkphkfmoaaQFnExactExprOkx12
namespace Go.Proofs.Ytjgegnkphkfmoaa.QFnExactExprOk
open Go.RowKit Go.Proofs.YtjgegnkphkfmoaaW.PrintWords Go.Proofs.YtjgegnkphkfmoaaW.PrintLast Go.Proofs.YtjgegnkphkfmoaaW.PrintMore
attribute [local go_sem] max2_int min2_int max_two min_two max_three min_three max_four min_four   -- for this text's walks alone
set_option linter.unusedVariables false
set_option linter.unusedSimpArgs false

/-! ### laws_FnExactExprOk: function 3 -/
def laws_FnExactExprOk.j0:Nat → Int → Int → ByteArray → List (S25) → List (S48) → Option (Bool)
 | 0,_,_,_,_,_=>none
 | k + 1,x308000,x308001,x308002,x308003,x308004=>(laws_toExpr.f k x308000 x308001 x308002 x308003 x308004).bind fun bt309=>((spec_ExprOk.f k bt309.1 bt309.2.1 bt309.2.2.1 bt309.2.2.2.1 bt309.2.2.2.2).bind fun t318=>((laws_toExpr.f k x308000 x308001 x308002 x308003 x308004).bind fun bt319=>((impl_ExprOk.f k bt319.1 bt319.2.1 bt319.2.2.1 bt319.2.2.2.1 bt319.2.2.2.2).bind fun t329=>(if (t329 != t318) = true then (some false) else ((laws_toExpr.f k x308000 x308001 x308002 x308003 x308004).bind fun bt330=>((laws_eqExpr.f k bt319.1 bt319.2.1 bt319.2.2.1 bt319.2.2.2.1 bt319.2.2.2.2 bt330.1 bt330.2.1 bt330.2.2.1 bt330.2.2.2.1 bt330.2.2.2.2).bind fun t339=>(if t339 = true then (some true) else (some false))))))))
def laws_FnExactExprOk.f (k:Nat) (a0_0:Int) (a0_1:Int) (a0_2:ByteArray) (l0_3:List (S25)) (l0_4:List (S48)):Option (Bool):=(laws_szExpr.f k a0_0 a0_1 a0_2 l0_3 l0_4 1048576).bind fun t308=>(if t308 < 0 then (some true) else (laws_FnExactExprOk.j0 k a0_0 a0_1 a0_2 l0_3 l0_4))
theorem laws_FnExactExprOk.mono_l:∀ k,(∀ y0 y1 y2 y3 y4,LeO (laws_FnExactExprOk.j0 k y0 y1 y2 y3 y4) (laws_FnExactExprOk.j0 (k + 1) y0 y1 y2 y3 y4))
 | 0=>fun _ _ _ _ _ r h=>by simp [laws_FnExactExprOk.j0] at h
 | k + 1=>by
  have ih0:=laws_FnExactExprOk.mono_l k
  ·intro y0 y1 y2 y3 y4
   unfold laws_FnExactExprOk.j0
   repeat' first
   | (with_reducible exact ih0 _ _ _ _ _)
   | (with_reducible exact impl_ExprOk.mono _ _ _ _ _ _)
   | (with_reducible exact laws_eqExpr.mono _ _ _ _ _ _ _ _ _ _ _)
   | (with_reducible exact laws_szExpr.mono _ _ _ _ _ _ _)
   | (with_reducible exact laws_toExpr.mono _ _ _ _ _ _)
   | (with_reducible exact spec_ExprOk.mono _ _ _ _ _ _)
   | (with_reducible exact LeO.refl _)
   | (with_reducible exact LeO.none _)
   | (with_reducible refine LeO.ite ?_ ?_)
   | (with_reducible refine LeO.bind ?_ (fun _=>?_))
   | exact ih0 _ _ _ _ _
   | exact impl_ExprOk.mono _ _ _ _ _ _
   | exact laws_eqExpr.mono _ _ _ _ _ _ _ _ _ _ _
   | exact laws_szExpr.mono _ _ _ _ _ _ _
   | exact laws_toExpr.mono _ _ _ _ _ _
   | exact spec_ExprOk.mono _ _ _ _ _ _
   | exact LeO.none _
   | refine LeO.ite ?_ ?_
   | refine LeO.bind ?_ (fun _=>?_)
theorem laws_FnExactExprOk.mono:∀ a0 a1 a2 a3 a4 k,LeO (laws_FnExactExprOk.f k a0 a1 a2 a3 a4) (laws_FnExactExprOk.f (k + 1) a0 a1 a2 a3 a4):=by
 intro a0 a1 a2 a3 a4 k
 have ih0:=laws_FnExactExprOk.mono_l k
 unfold laws_FnExactExprOk.f
 repeat' first
   | (with_reducible exact ih0 _ _ _ _ _)
   | (with_reducible exact impl_ExprOk.mono _ _ _ _ _ _)
   | (with_reducible exact laws_eqExpr.mono _ _ _ _ _ _ _ _ _ _ _)
   | (with_reducible exact laws_szExpr.mono _ _ _ _ _ _ _)
   | (with_reducible exact laws_toExpr.mono _ _ _ _ _ _)
   | (with_reducible exact spec_ExprOk.mono _ _ _ _ _ _)
   | (with_reducible exact LeO.refl _)
   | (with_reducible exact LeO.none _)
   | (with_reducible refine LeO.ite ?_ ?_)
   | (with_reducible refine LeO.bind ?_ (fun _=>?_))
   | exact ih0 _ _ _ _ _
   | exact impl_ExprOk.mono _ _ _ _ _ _
   | exact laws_eqExpr.mono _ _ _ _ _ _ _ _ _ _ _
   | exact laws_szExpr.mono _ _ _ _ _ _ _
   | exact laws_toExpr.mono _ _ _ _ _ _
   | exact spec_ExprOk.mono _ _ _ _ _ _
   | exact LeO.none _
   | refine LeO.ite ?_ ?_
   | refine LeO.bind ?_ (fun _=>?_)
set_option maxHeartbeats 8000000 in
set_option maxRecDepth 100000 in
theorem laws_FnExactExprOk.calls (k:Nat) (a0_0:Int) (a0_1:Int) (a0_2:ByteArray) (A0_3:Option Addr) (c0_3:Nat) (l0_3:List (S25)) (A0_4:Option Addr) (c0_4:Nat) (l0_4:List (S48)) (r:Bool) (w:World) (hr0_3:Kd.C k25 w A0_3 l0_3.length l0_3) (hc0_3:l0_3.length≤c0_3) (hr0_4:Kd.C k48 w A0_4 l0_4.length l0_4) (hc0_4:l0_4.length≤c0_4) (h:laws_FnExactExprOk.f k a0_0 a0_1 a0_2 l0_3 l0_4 = some r) :
  Calls Try.prog 3 #[.agg #[.int .i64 a0_0,.int .i64 a0_1,.string a0_2,.slice A0_3 l0_3.length c0_3,.slice A0_4 l0_4.length c0_4]] w fun e w'=>e = .returned (.bool r)∧Below w.heap.size w w':=by
 have hu25:=Try.underlying25
 have hu31:=Try.underlying31
 have HR0_3:=Aside0.mk hr0_3
 have HC0_3:=Aside0.mk hc0_3
 clear hr0_3 hc0_3
 have HR0_4:=Aside0.mk hr0_4
 have HC0_4:=Aside0.mk hc0_4
 clear hr0_4 hc0_4
 have HB:=Aside0.mk (Below.refl w.heap.size w)
 have H:((laws_szExpr.f k a0_0 a0_1 a0_2 l0_3 l0_4 1048576).bind fun t308=>(if t308 < 0 then (some true) else (laws_FnExactExprOk.j0 k a0_0 a0_1 a0_2 l0_3 l0_4))) = some r:=h
 clear h
 replace H:=Option.bind_eq_some_iff.mp H
 obtain ⟨t308,A20,H⟩:=H
 replace H:(if t308 < 0 then (some true) else (laws_FnExactExprOk.j0 k a0_0 a0_1 a0_2 l0_3 l0_4)) = some r:=H
 have A2:=Aside0.mk A20
 clear A20
 have HC3:=Aside0.mk H
 clear H
 go_enter Try.func3,Try.ntmps3
 go_upto_if 11 with (first|((with_reducible refine gate_dst (N:=1) rfl ?_);refine box_event ?hg (N:=1) ?hd (cs:=#[.int .i64 a0_0,.int .i64 a0_1,.string a0_2,.slice A0_3 l0_3.length c0_3,.slice A0_4 l0_4.length c0_4]) (t:=25) ?hr ?_;(case hd=>rfl);(case hg=>rfl);(case hr=>first|(go_simp;done)|(go_simp;rfl));intro gb307 hg w4 hbox hb;have n0_:=Aside0.mk (below_step (by repeat (first|(with_reducible first|exact HB.out|apply below_alloc|apply pw_below_drewN|apply below_drew1)|exact HB.out)) hb);have n1_:=Aside0.mk (hbox);have n2_:=Aside0.mk ((by rw [hg];exact (below_size (by repeat (first|(with_reducible first|exact HB.out|apply below_alloc|apply pw_below_drewN|apply below_drew1)|exact HB.out))):w.heap.size≤gb307));have n3_:=Aside0.mk ((by rw [hg];exact (below_size (by repeat (first|(with_reducible first|exact HB.out|apply below_alloc|apply pw_below_drewN|apply below_drew1)|exact HB.out))):w.heap.size≤gb307));clear HB;have HB:=n0_;have BK307:=n1_;have GW307:=n2_;have GE307:=n3_;clear n0_ n1_ n2_ n3_;clear hb hbox hg;have hcz5_0:w4.cell? ⟨gb307,0,none⟩ = some (.int .i64 a0_0):=(blk_cell BK307.out 0).trans rfl;have hcz5_1:w4.cell? ⟨gb307,1,none⟩ = some (.int .i64 a0_1):=(blk_cell BK307.out 1).trans rfl;have hcz5_2:w4.cell? ⟨gb307,2,none⟩ = some (.string a0_2):=(blk_cell BK307.out 2).trans rfl;have hcz5_3:w4.cell? ⟨gb307,3,none⟩ = some (.slice A0_3 l0_3.length c0_3):=(blk_cell BK307.out 3).trans rfl;have hcz5_4:w4.cell? ⟨gb307,4,none⟩ = some (.slice A0_4 l0_4.length c0_4):=(blk_cell BK307.out 4).trans rfl;have hfz5_0:=blk_frozen BK307.out 0;have hfz5_1:=blk_frozen BK307.out 1;have hfz5_2:=blk_frozen BK307.out 2;have hfz5_3:=blk_frozen BK307.out 3;have hfz5_4:=blk_frozen BK307.out 4)|((with_reducible refine gate_callee (f:=4) rfl ?_);refine goesL_ (some 9) rfl rfl Try.func4 (by kernel_rfl) rfl #[.agg #[.int .i64 a0_0,.int .i64 a0_1,.string a0_2,.slice A0_3 l0_3.length c0_3,.slice A0_4 l0_4.length c0_4],.int .i64 1048576] rfl (by (try simp only [List.map_toArray,List.map_cons,List.map_nil]);first|done|rfl|(simp only [List.length_drop,List.length_take];rfl)) ?_;(with_reducible refine (laws_szExpr.calls k a0_0 a0_1 a0_2 _ _ l0_3 _ _ l0_4 1048576 t308 _ ?side1 ?side2 ?side3 ?side4 A2.out).mono ?_);(case side1=>repeat (first|exact (Kd.C_below HR0_3.out HB.out)|(with_reducible refine Kd.C_alloc ?_ _)|(with_reducible refine Kd.C_drewN ?_ _)|(with_reducible refine Kd.C_drew ?_)));(case side2=>exact HC0_3.out);(case side3=>repeat (first|exact (Kd.C_below HR0_4.out HB.out)|(with_reducible refine Kd.C_alloc ?_ _)|(with_reducible refine Kd.C_drewN ?_ _)|(with_reducible refine Kd.C_drew ?_)));(case side4=>exact HC0_4.out);rintro e w6 ⟨rfl,hb⟩;refine ⟨_,rfl,?_⟩;have n0_:=Aside0.mk (blk_below (g:=gb307) (o:=.cells #[.int .i64 a0_0,.int .i64 a0_1,.string a0_2,.slice A0_3 l0_3.length c0_3,.slice A0_4 l0_4.length c0_4] 25 (0,0)) (by (with_reducible repeat (first|refine blk_drewN ?_ _|refine blk_drew ?_|refine blk_alloc ?_ _));exact BK307.out) hb);have n1_:=Aside0.mk (below_step (by repeat (first|(with_reducible first|exact HB.out|apply below_alloc|apply pw_below_drewN|apply below_drew1|refine below_set ?_ GE307.out)|exact HB.out)) hb);clear BK307;clear HB;have BK307:=n0_;have HB:=n1_;clear n0_ n1_;(try clear hb);(try clear hb2);(try clear hk);(try clear hi)))
 (try simp only [Act.put,List.setIfInBounds_toArray,List.set_cons_zero,List.set_cons_succ])
 go_cut [] (fun wc=>∃ (kq:Nat),Aside0 (laws_FnExactExprOk.j0 kq a0_0 a0_1 a0_2 l0_3 l0_4 = some r)∧Aside0 (kq≤k)∧Aside0 (wc.heap[gb307]? = some (.cells #[.int .i64 a0_0,.int .i64 a0_1,.string a0_2,(.slice A0_3 l0_3.length c0_3),(.slice A0_4 l0_4.length c0_4)] 25 (0,0)))∧Aside0 (Below w.heap.size w wc))
 case first =>
  have H:=HC3.out
  clear HC3
  by_cases c7:t308 < 0
  ·rw [if_pos c7] at H
   have c7b0:decide (t308 < 0) = true:=decide_eq_true c7
   clear c7
   (first|rw [c7b0]|(simp only [i64_w,i32_w];rw [c7b0])|(simp only [c7b2,Bool.not_true,Bool.not_false])|skip)
   obtain rfl:=Option.some.inj H
   go_wp2
   go_ret
   exact ⟨by first|rfl|(simp [*,errW_none,errW_some] <;> rfl),by repeat (first|(with_reducible first|exact HB.out|apply below_alloc|apply pw_below_drewN|apply below_drew1|refine below_set ?_ GE307.out)|exact HB.out)⟩
  ·rw [if_neg c7] at H
   have c7b0:decide (t308 < 0) = false:=decide_eq_false c7
   clear c7
   (first|rw [c7b0]|(simp only [i64_w,i32_w];rw [c7b0])|(simp only [c7b2,Bool.not_true,Bool.not_false])|skip)
   have H':=Aside0.mk H
   clear H
   go_wp2
   go_meet
   case rel=>exact ⟨_,H',⟨by first|omega|exact Nat.le_refl _⟩,⟨by (with_reducible repeat (first|refine blk_drewN ?_ _|refine blk_drew ?_|refine blk_alloc ?_ _));exact BK307.out⟩,⟨by repeat (first|(with_reducible first|exact HB.out|apply below_alloc|apply pw_below_drewN|apply below_drew1|refine below_set ?_ GE307.out)|exact HB.out)⟩⟩
 case rest =>
  clear HC3
  try clear p2
  try clear c3
  try clear c4
  try clear c7
  try clear c7b0
  try clear c7b2
  try clear hcz5_0
  try clear hcz5_1
  try clear hcz5_2
  try clear hcz5_3
  try clear hcz5_4
  try clear hfz5_0
  try clear hfz5_1
  try clear hfz5_2
  try clear hfz5_3
  try clear hfz5_4
  try clear BK307
  try clear HB
  obtain ⟨kq,HA,HJ2,BK307,HB⟩:=hcut
  cases kq with
  | zero=>exact absurd HA.out (by simp [laws_FnExactExprOk.j0])
  | succ kj2 =>
   have H:=HA.out
   clear HA
   simp only [laws_FnExactExprOk.j0] at H
   replace H:=Option.bind_eq_some_iff.mp H
   obtain ⟨⟨t309,t310,t311,t312,t315⟩,A80,H⟩:=H
   replace H:((spec_ExprOk.f kj2 t309 t310 t311 t312 t315).bind fun t318=>((laws_toExpr.f kj2 a0_0 a0_1 a0_2 l0_3 l0_4).bind fun bt319=>((impl_ExprOk.f kj2 bt319.1 bt319.2.1 bt319.2.2.1 bt319.2.2.2.1 bt319.2.2.2.2).bind fun t329=>(if (t329 != t318) = true then (some false) else ((laws_toExpr.f kj2 a0_0 a0_1 a0_2 l0_3 l0_4).bind fun bt330=>((laws_eqExpr.f kj2 bt319.1 bt319.2.1 bt319.2.2.1 bt319.2.2.2.1 bt319.2.2.2.2 bt330.1 bt330.2.1 bt330.2.2.1 bt330.2.2.2.1 bt330.2.2.2.2).bind fun t339=>(if t339 = true then (some true) else (some false)))))))) = some r:=H
   have A8:=Aside0.mk A80
   clear A80
   replace H:=Option.bind_eq_some_iff.mp H
   obtain ⟨t318,A90,H⟩:=H
   replace H:((laws_toExpr.f kj2 a0_0 a0_1 a0_2 l0_3 l0_4).bind fun bt319=>((impl_ExprOk.f kj2 bt319.1 bt319.2.1 bt319.2.2.1 bt319.2.2.2.1 bt319.2.2.2.2).bind fun t329=>(if (t329 != t318) = true then (some false) else ((laws_toExpr.f kj2 a0_0 a0_1 a0_2 l0_3 l0_4).bind fun bt330=>((laws_eqExpr.f kj2 bt319.1 bt319.2.1 bt319.2.2.1 bt319.2.2.2.1 bt319.2.2.2.2 bt330.1 bt330.2.1 bt330.2.2.1 bt330.2.2.2.1 bt330.2.2.2.2).bind fun t339=>(if t339 = true then (some true) else (some false))))))) = some r:=H
   have A9:=Aside0.mk A90
   clear A90
   replace H:=Option.bind_eq_some_iff.mp H
   obtain ⟨⟨t319,t320,t321,t322,t325⟩,A100,H⟩:=H
   replace H:((impl_ExprOk.f kj2 t319 t320 t321 t322 t325).bind fun t329=>(if (t329 != t318) = true then (some false) else ((laws_toExpr.f kj2 a0_0 a0_1 a0_2 l0_3 l0_4).bind fun bt330=>((laws_eqExpr.f kj2 t319 t320 t321 t322 t325 bt330.1 bt330.2.1 bt330.2.2.1 bt330.2.2.2.1 bt330.2.2.2.2).bind fun t339=>(if t339 = true then (some true) else (some false)))))) = some r:=H
   have A10:=Aside0.mk A100
   clear A100
   replace H:=Option.bind_eq_some_iff.mp H
   obtain ⟨t329,A110,H⟩:=H
   replace H:(if (t329 != t318) = true then (some false) else ((laws_toExpr.f kj2 a0_0 a0_1 a0_2 l0_3 l0_4).bind fun bt330=>((laws_eqExpr.f kj2 t319 t320 t321 t322 t325 bt330.1 bt330.2.1 bt330.2.2.1 bt330.2.2.2.1 bt330.2.2.2.2).bind fun t339=>(if t339 = true then (some true) else (some false))))) = some r:=H
   have A11:=Aside0.mk A110
   clear A110
   by_cases c12:(t329 != t318) = true
   ·rw [if_pos c12] at H
    have c12b0:(t329 != t318) = true:=c12
    (try (have c12b1:decide (t329 = t318) = false:=by simpa using c12))
    (try (have c12b2:(t329 == t318) = false:=by simpa using c12))
    (try (have c12b3 : ¬ (t329 = t318):=by simpa using c12))
    clear c12
    obtain rfl:=Option.some.inj H
    have hcz13_0:wc.cell? ⟨gb307,0,none⟩ = some (.int .i64 a0_0):=(blk_cell BK307.out 0).trans rfl
    have hcz13_1:wc.cell? ⟨gb307,1,none⟩ = some (.int .i64 a0_1):=(blk_cell BK307.out 1).trans rfl
    have hcz13_2:wc.cell? ⟨gb307,2,none⟩ = some (.string a0_2):=(blk_cell BK307.out 2).trans rfl
    have hcz13_3:wc.cell? ⟨gb307,3,none⟩ = some (.slice A0_3 l0_3.length c0_3):=(blk_cell BK307.out 3).trans rfl
    have hcz13_4:wc.cell? ⟨gb307,4,none⟩ = some (.slice A0_4 l0_4.length c0_4):=(blk_cell BK307.out 4).trans rfl
    have hfz13_0:=blk_frozen BK307.out 0
    have hfz13_1:=blk_frozen BK307.out 1
    have hfz13_2:=blk_frozen BK307.out 2
    have hfz13_3:=blk_frozen BK307.out 3
    have hfz13_4:=blk_frozen BK307.out 4
    go_wp2_with (first|((with_reducible refine gate_callee (f:=6) rfl ?_);refine goesL_ (some 13) rfl rfl Try.func6 (by kernel_rfl) rfl #[.agg #[.int .i64 a0_0,.int .i64 a0_1,.string a0_2,.slice A0_3 l0_3.length c0_3,.slice A0_4 l0_4.length c0_4]] rfl (by (try simp only [List.map_toArray,List.map_cons,List.map_nil]);first|done|rfl|(simp only [List.length_drop,List.length_take];rfl)) ?_;(with_reducible refine (laws_toExpr.calls kj2 a0_0 a0_1 a0_2 _ _ l0_3 _ _ l0_4 t309 t310 t311 t312 t315 _ ?side1 ?side2 ?side3 ?side4 A8.out).mono ?_);(case side1=>repeat (first|exact (Kd.C_below HR0_3.out HB.out)|(with_reducible refine Kd.C_alloc ?_ _)|(with_reducible refine Kd.C_drewN ?_ _)|(with_reducible refine Kd.C_drew ?_)));(case side2=>exact HC0_3.out);(case side3=>repeat (first|exact (Kd.C_below HR0_4.out HB.out)|(with_reducible refine Kd.C_alloc ?_ _)|(with_reducible refine Kd.C_drewN ?_ _)|(with_reducible refine Kd.C_drew ?_)));(case side4=>exact HC0_4.out);rintro e w14 ⟨v313,v316,rfl,ho0,ho1,hb⟩;refine ⟨_,rfl,?_⟩;have n0_:=Aside0.mk (Kd.R_lower ho0 (below_size (by repeat (first|(with_reducible first|exact HB.out|apply below_alloc|apply pw_below_drewN|apply below_drew1|refine below_set ?_ GE307.out)|exact HB.out))));have n1_:=Aside0.mk (Kd.R_lower ho1 (below_size (by repeat (first|(with_reducible first|exact HB.out|apply below_alloc|apply pw_below_drewN|apply below_drew1|refine below_set ?_ GE307.out)|exact HB.out))));have n2_:=Aside0.mk (blk_below (g:=gb307) (o:=.cells #[.int .i64 a0_0,.int .i64 a0_1,.string a0_2,.slice A0_3 l0_3.length c0_3,.slice A0_4 l0_4.length c0_4] 25 (0,0)) (by (with_reducible repeat (first|refine blk_drewN ?_ _|refine blk_drew ?_|refine blk_alloc ?_ _));exact BK307.out) hb);have n3_:=Aside0.mk (below_step (by repeat (first|(with_reducible first|exact HB.out|apply below_alloc|apply pw_below_drewN|apply below_drew1|refine below_set ?_ GE307.out)|exact HB.out)) hb);clear BK307;clear HB;have HO314:=n0_;have HO317:=n1_;have BK307:=n2_;have HB:=n3_;clear n0_ n1_ n2_ n3_;(try clear hb);(try clear hb2);(try clear hk);(try clear hi);(try clear ho0);(try clear ho1);obtain ⟨Ao15,co15,eo15⟩:=Kd.R_slice HO314.out;subst eo15;obtain ⟨Ao16,co16,eo16⟩:=Kd.R_slice HO317.out;subst eo16)|((with_reducible refine gate_callee (f:=5) rfl ?_);refine goesL_ (some 14) rfl rfl Try.func5 (by kernel_rfl) rfl #[.agg #[.int .i64 t309,.int .i64 t310,.string t311,.slice Ao15 t312.length co15,.slice Ao16 t315.length co16]] rfl (by (try simp only [List.map_toArray,List.map_cons,List.map_nil]);first|done|rfl|(simp only [List.length_drop,List.length_take];rfl)) ?_;(with_reducible refine (spec_ExprOk.calls kj2 t309 t310 t311 _ _ t312 _ _ t315 t318 _ ?side1 ?side2 ?side3 ?side4 A9.out).mono ?_);(case side1=>repeat (first|exact (Kd.R_reads' HO314.out).2.2|(with_reducible refine Kd.C_alloc ?_ _)|(with_reducible refine Kd.C_drewN ?_ _)|(with_reducible refine Kd.C_drew ?_)));(case side2=>exact (Kd.R_reads' HO314.out).2.1);(case side3=>repeat (first|exact (Kd.R_reads' HO317.out).2.2|(with_reducible refine Kd.C_alloc ?_ _)|(with_reducible refine Kd.C_drewN ?_ _)|(with_reducible refine Kd.C_drew ?_)));(case side4=>exact (Kd.R_reads' HO317.out).2.1);rintro e w17 ⟨rfl,hb⟩;refine ⟨_,rfl,?_⟩;have n0_:=Aside0.mk (Kd.R_below (by (with_reducible repeat (first|apply Kd.R_alloc|apply Kd.R_drewN|apply Kd.R_drew));exact HO314.out) hb);have n1_:=Aside0.mk (Kd.R_below (by (with_reducible repeat (first|apply Kd.R_alloc|apply Kd.R_drewN|apply Kd.R_drew));exact HO317.out) hb);have n2_:=Aside0.mk (blk_below (g:=gb307) (o:=.cells #[.int .i64 a0_0,.int .i64 a0_1,.string a0_2,.slice A0_3 l0_3.length c0_3,.slice A0_4 l0_4.length c0_4] 25 (0,0)) (by (with_reducible repeat (first|refine blk_drewN ?_ _|refine blk_drew ?_|refine blk_alloc ?_ _));exact BK307.out) hb);have n3_:=Aside0.mk (below_step (by repeat (first|(with_reducible first|exact HB.out|apply below_alloc|apply pw_below_drewN|apply below_drew1|refine below_set ?_ GE307.out)|exact HB.out)) hb);clear HO314;clear HO317;clear BK307;clear HB;have HO314:=n0_;have HO317:=n1_;have BK307:=n2_;have HB:=n3_;clear n0_ n1_ n2_ n3_;(try clear hb);(try clear hb2);(try clear hk);(try clear hi);have hcz18_0:w17.cell? ⟨gb307,0,none⟩ = some (.int .i64 a0_0):=(blk_cell BK307.out 0).trans rfl;have hcz18_1:w17.cell? ⟨gb307,1,none⟩ = some (.int .i64 a0_1):=(blk_cell BK307.out 1).trans rfl;have hcz18_2:w17.cell? ⟨gb307,2,none⟩ = some (.string a0_2):=(blk_cell BK307.out 2).trans rfl;have hcz18_3:w17.cell? ⟨gb307,3,none⟩ = some (.slice A0_3 l0_3.length c0_3):=(blk_cell BK307.out 3).trans rfl;have hcz18_4:w17.cell? ⟨gb307,4,none⟩ = some (.slice A0_4 l0_4.length c0_4):=(blk_cell BK307.out 4).trans rfl;have hfz18_0:=blk_frozen BK307.out 0;have hfz18_1:=blk_frozen BK307.out 1;have hfz18_2:=blk_frozen BK307.out 2;have hfz18_3:=blk_frozen BK307.out 3;have hfz18_4:=blk_frozen BK307.out 4)|((with_reducible refine gate_callee (f:=6) rfl ?_);refine goesL_ (some 16) rfl rfl Try.func6 (by kernel_rfl) rfl #[.agg #[.int .i64 a0_0,.int .i64 a0_1,.string a0_2,.slice A0_3 l0_3.length c0_3,.slice A0_4 l0_4.length c0_4]] rfl (by (try simp only [List.map_toArray,List.map_cons,List.map_nil]);first|done|rfl|(simp only [List.length_drop,List.length_take];rfl)) ?_;(with_reducible refine (laws_toExpr.calls kj2 a0_0 a0_1 a0_2 _ _ l0_3 _ _ l0_4 t319 t320 t321 t322 t325 _ ?side1 ?side2 ?side3 ?side4 A10.out).mono ?_);(case side1=>repeat (first|exact (Kd.C_below HR0_3.out HB.out)|(with_reducible refine Kd.C_alloc ?_ _)|(with_reducible refine Kd.C_drewN ?_ _)|(with_reducible refine Kd.C_drew ?_)));(case side2=>exact HC0_3.out);(case side3=>repeat (first|exact (Kd.C_below HR0_4.out HB.out)|(with_reducible refine Kd.C_alloc ?_ _)|(with_reducible refine Kd.C_drewN ?_ _)|(with_reducible refine Kd.C_drew ?_)));(case side4=>exact HC0_4.out);rintro e w19 ⟨v323,v326,rfl,ho0,ho1,hb⟩;refine ⟨_,rfl,?_⟩;have n0_:=Aside0.mk (Kd.R_mono (Kd.R_told (Kd.R_told (Kd.R_old (by (with_reducible repeat (first|apply Kd.R_alloc|apply Kd.R_drewN|apply Kd.R_drew));exact HO314.out) hb) (Kd.R_base ho0)) (Kd.R_base ho1)) (fun _ h_=>h_.1));have n1_:=Aside0.mk (Kd.R_mono (Kd.R_told (Kd.R_told (Kd.R_old (by (with_reducible repeat (first|apply Kd.R_alloc|apply Kd.R_drewN|apply Kd.R_drew));exact HO317.out) hb) (Kd.R_base ho0)) (Kd.R_base ho1)) (fun _ h_=>h_.1));have n2_:=Aside0.mk (Kd.R_lower (Kd.R_new' (Kd.R_new' ho0 (Kd.R_lt (by (with_reducible repeat (first|apply Kd.R_alloc|apply Kd.R_drewN|apply Kd.R_drew));exact HO314.out))) (Kd.R_lt (by (with_reducible repeat (first|apply Kd.R_alloc|apply Kd.R_drewN|apply Kd.R_drew));exact HO317.out))) (below_size (by repeat (first|(with_reducible first|exact HB.out|apply below_alloc|apply pw_below_drewN|apply below_drew1|refine below_set ?_ GE307.out)|exact HB.out))));have n3_:=Aside0.mk (Kd.R_lower (Kd.R_new' (Kd.R_new' ho1 (Kd.R_lt (by (with_reducible repeat (first|apply Kd.R_alloc|apply Kd.R_drewN|apply Kd.R_drew));exact HO314.out))) (Kd.R_lt (by (with_reducible repeat (first|apply Kd.R_alloc|apply Kd.R_drewN|apply Kd.R_drew));exact HO317.out))) (below_size (by repeat (first|(with_reducible first|exact HB.out|apply below_alloc|apply pw_below_drewN|apply below_drew1|refine below_set ?_ GE307.out)|exact HB.out))));have n4_:=Aside0.mk (blk_below (g:=gb307) (o:=.cells #[.int .i64 a0_0,.int .i64 a0_1,.string a0_2,.slice A0_3 l0_3.length c0_3,.slice A0_4 l0_4.length c0_4] 25 (0,0)) (by (with_reducible repeat (first|refine blk_drewN ?_ _|refine blk_drew ?_|refine blk_alloc ?_ _));exact BK307.out) hb);have n5_:=Aside0.mk (below_step (by repeat (first|(with_reducible first|exact HB.out|apply below_alloc|apply pw_below_drewN|apply below_drew1|refine below_set ?_ GE307.out)|exact HB.out)) hb);clear HO314;clear HO317;clear BK307;clear HB;have HO314:=n0_;have HO317:=n1_;have HO324:=n2_;have HO327:=n3_;have BK307:=n4_;have HB:=n5_;clear n0_ n1_ n2_ n3_ n4_ n5_;(try clear hb);(try clear hb2);(try clear hk);(try clear hi);(try clear ho0);(try clear ho1))|((with_reducible refine gate_dst (N:=5) rfl ?_);refine box_event ?hg (N:=5) ?hd (cs:=#[.int .i64 0,.int .i64 0,.string (⟨#[]⟩:ByteArray),.slice none 0 0,.slice none 0 0]) (t:=31) ?hr ?_;(case hd=>rfl);(case hg=>rfl);(case hr=>first|(go_simp;done)|(go_simp;rfl));intro gb328 hg w20 hbox hb;have n0_:=Aside0.mk (Kd.R_below (Kd.R_elderB (by (with_reducible repeat (first|apply Kd.R_alloc|apply Kd.R_drewN|apply Kd.R_drew));exact HO314.out) gb328 (Nat.le_of_eq hg.symm)) hb);have n1_:=Aside0.mk (Kd.R_below (Kd.R_elderB (by (with_reducible repeat (first|apply Kd.R_alloc|apply Kd.R_drewN|apply Kd.R_drew));exact HO317.out) gb328 (Nat.le_of_eq hg.symm)) hb);have n2_:=Aside0.mk (Kd.R_below (Kd.R_elderB (by (with_reducible repeat (first|apply Kd.R_alloc|apply Kd.R_drewN|apply Kd.R_drew));exact HO324.out) gb328 (Nat.le_of_eq hg.symm)) hb);have n3_:=Aside0.mk (Kd.R_below (Kd.R_elderB (by (with_reducible repeat (first|apply Kd.R_alloc|apply Kd.R_drewN|apply Kd.R_drew));exact HO327.out) gb328 (Nat.le_of_eq hg.symm)) hb);have n4_:=Aside0.mk (blk_below (g:=gb307) (o:=.cells #[.int .i64 a0_0,.int .i64 a0_1,.string a0_2,.slice A0_3 l0_3.length c0_3,.slice A0_4 l0_4.length c0_4] 25 (0,0)) (by (with_reducible repeat (first|refine blk_drewN ?_ _|refine blk_drew ?_|refine blk_alloc ?_ _));exact BK307.out) hb);have n5_:=Aside0.mk (below_step (by repeat (first|(with_reducible first|exact HB.out|apply below_alloc|apply pw_below_drewN|apply below_drew1|refine below_set ?_ GE307.out)|exact HB.out)) hb);have n6_:=Aside0.mk (hbox);have n7_:=Aside0.mk ((by rw [hg];exact (below_size (by repeat (first|(with_reducible first|exact HB.out|apply below_alloc|apply pw_below_drewN|apply below_drew1|refine below_set ?_ GE307.out)|exact HB.out))):w.heap.size≤gb328));have n8_:=Aside0.mk ((by rw [hg];exact (below_size (by repeat (first|(with_reducible first|exact HB.out|apply below_alloc|apply pw_below_drewN|apply below_drew1|refine below_set ?_ GE307.out)|exact HB.out))):w.heap.size≤gb328));have n9_:=Aside0.mk ((by rw [hg];exact Nat.ne_of_lt (blk_lt (g:=gb307) (o:=.cells #[.int .i64 a0_0,.int .i64 a0_1,.string a0_2,.slice A0_3 l0_3.length c0_3,.slice A0_4 l0_4.length c0_4] 25 (0,0)) (by (with_reducible repeat (first|refine blk_drewN ?_ _|refine blk_drew ?_|refine blk_alloc ?_ _));exact BK307.out)):gb307≠gb328));have n10_:=Aside0.mk ((by rw [hg];exact Nat.ne_of_gt (blk_lt (g:=gb307) (o:=.cells #[.int .i64 a0_0,.int .i64 a0_1,.string a0_2,.slice A0_3 l0_3.length c0_3,.slice A0_4 l0_4.length c0_4] 25 (0,0)) (by (with_reducible repeat (first|refine blk_drewN ?_ _|refine blk_drew ?_|refine blk_alloc ?_ _));exact BK307.out)):gb328≠gb307));clear HO314;clear HO317;clear HO324;clear HO327;clear BK307;clear HB;have HO314:=n0_;have HO317:=n1_;have HO324:=n2_;have HO327:=n3_;have BK307:=n4_;have HB:=n5_;have BK328:=n6_;have GW328:=n7_;have GE328:=n8_;have NB307_328:=n9_;have NB328_307:=n10_;clear n0_ n1_ n2_ n3_ n4_ n5_ n6_ n7_ n8_ n9_ n10_;clear hb hbox hg;have hnb21:=NB328_307.out;have hnc21:=NB307_328.out;have hcz22_0:w20.cell? ⟨gb328,0,none⟩ = some (.int .i64 0):=(blk_cell BK328.out 0).trans rfl;have hcz22_1:w20.cell? ⟨gb328,1,none⟩ = some (.int .i64 0):=(blk_cell BK328.out 1).trans rfl;have hcz22_2:w20.cell? ⟨gb328,2,none⟩ = some (.string (⟨#[]⟩:ByteArray)):=(blk_cell BK328.out 2).trans rfl;have hcz22_3:w20.cell? ⟨gb328,3,none⟩ = some (.slice none 0 0):=(blk_cell BK328.out 3).trans rfl;have hcz22_4:w20.cell? ⟨gb328,4,none⟩ = some (.slice none 0 0):=(blk_cell BK328.out 4).trans rfl;have hfz22_0:=blk_frozen BK328.out 0;have hfz22_1:=blk_frozen BK328.out 1;have hfz22_2:=blk_frozen BK328.out 2;have hfz22_3:=blk_frozen BK328.out 3;have hfz22_4:=blk_frozen BK328.out 4;obtain ⟨Ao23,co23,eo23⟩:=Kd.R_slice HO324.out;subst eo23;obtain ⟨Ao24,co24,eo24⟩:=Kd.R_slice HO327.out;subst eo24)|((with_reducible refine gate_callee (f:=7) rfl ?_);refine goesL_ (some 18) rfl rfl Try.func7 (by kernel_rfl) rfl #[.agg #[.int .i64 t319,.int .i64 t320,.string t321,.slice Ao23 t322.length co23,.slice Ao24 t325.length co24]] rfl (by (try simp only [List.map_toArray,List.map_cons,List.map_nil]);first|done|rfl|(simp only [List.length_drop,List.length_take];rfl)) ?_;(with_reducible refine (impl_ExprOk.calls kj2 t319 t320 t321 _ _ t322 _ _ t325 t329 _ ?side1 ?side2 ?side3 ?side4 A11.out).mono ?_);(case side1=>refine (Kd.R_reads' (e:=31) (base:=w.heap.size) (ok:=fun k_=>(((some k_≠(.slice Ao24 t325.length co24:Value).ownBlock∧some k_≠(.slice Ao15 t312.length co15:Value).ownBlock)∧some k_≠(.slice Ao16 t315.length co16:Value).ownBlock)∧k_≠gb328)) (n:=t322.length) (c:=co23) ?_).2.2;exact (by (with_reducible repeat (first|apply Kd.R_alloc|apply Kd.R_drewN|apply Kd.R_drew));exact (Kd.R_mono (Kd.R_far (p:=⟨gb328,4,none⟩) (Kd.R_far (p:=⟨gb328,3,none⟩) (Kd.R_far (p:=⟨gb328,2,none⟩) (Kd.R_far (p:=⟨gb328,1,none⟩) (Kd.R_far (p:=⟨gb328,0,none⟩) (Kd.R_mono HO324.out (fun k_ hk=>(⟨hk,hk.2⟩:_∧k_≠gb328))) (fun _ hk=>hk.2) (.int .i64 t319)) (fun _ hk=>hk.2) (.int .i64 t320)) (fun _ hk=>hk.2) (.string t321)) (fun _ hk=>hk.2) (.slice Ao23 t322.length co23)) (fun _ hk=>hk.2) (.slice Ao24 t325.length co24)) (fun _ h_=>h_.1))));(case side2=>exact (Kd.R_reads' HO324.out).2.1);(case side3=>refine (Kd.R_reads' (e:=53) (base:=w.heap.size) (ok:=fun k_=>(((some k_≠(.slice Ao23 t322.length co23:Value).ownBlock∧some k_≠(.slice Ao15 t312.length co15:Value).ownBlock)∧some k_≠(.slice Ao16 t315.length co16:Value).ownBlock)∧k_≠gb328)) (n:=t325.length) (c:=co24) ?_).2.2;exact (by (with_reducible repeat (first|apply Kd.R_alloc|apply Kd.R_drewN|apply Kd.R_drew));exact (Kd.R_mono (Kd.R_far (p:=⟨gb328,4,none⟩) (Kd.R_far (p:=⟨gb328,3,none⟩) (Kd.R_far (p:=⟨gb328,2,none⟩) (Kd.R_far (p:=⟨gb328,1,none⟩) (Kd.R_far (p:=⟨gb328,0,none⟩) (Kd.R_mono HO327.out (fun k_ hk=>(⟨hk,hk.2⟩:_∧k_≠gb328))) (fun _ hk=>hk.2) (.int .i64 t319)) (fun _ hk=>hk.2) (.int .i64 t320)) (fun _ hk=>hk.2) (.string t321)) (fun _ hk=>hk.2) (.slice Ao23 t322.length co23)) (fun _ hk=>hk.2) (.slice Ao24 t325.length co24)) (fun _ h_=>h_.1))));(case side4=>exact (Kd.R_reads' HO327.out).2.1);rintro e w25 ⟨rfl,hb⟩;refine ⟨_,rfl,?_⟩;have n0_:=Aside0.mk (Kd.R_below (by (with_reducible repeat (first|apply Kd.R_alloc|apply Kd.R_drewN|apply Kd.R_drew));exact (Kd.R_mono (Kd.R_far (p:=⟨gb328,4,none⟩) (Kd.R_far (p:=⟨gb328,3,none⟩) (Kd.R_far (p:=⟨gb328,2,none⟩) (Kd.R_far (p:=⟨gb328,1,none⟩) (Kd.R_far (p:=⟨gb328,0,none⟩) (Kd.R_mono HO314.out (fun k_ hk=>(⟨hk,hk.2⟩:_∧k_≠gb328))) (fun _ hk=>hk.2) (.int .i64 t319)) (fun _ hk=>hk.2) (.int .i64 t320)) (fun _ hk=>hk.2) (.string t321)) (fun _ hk=>hk.2) (.slice Ao23 t322.length co23)) (fun _ hk=>hk.2) (.slice Ao24 t325.length co24)) (fun _ h_=>h_.1))) hb);have n1_:=Aside0.mk (Kd.R_below (by (with_reducible repeat (first|apply Kd.R_alloc|apply Kd.R_drewN|apply Kd.R_drew));exact (Kd.R_mono (Kd.R_far (p:=⟨gb328,4,none⟩) (Kd.R_far (p:=⟨gb328,3,none⟩) (Kd.R_far (p:=⟨gb328,2,none⟩) (Kd.R_far (p:=⟨gb328,1,none⟩) (Kd.R_far (p:=⟨gb328,0,none⟩) (Kd.R_mono HO317.out (fun k_ hk=>(⟨hk,hk.2⟩:_∧k_≠gb328))) (fun _ hk=>hk.2) (.int .i64 t319)) (fun _ hk=>hk.2) (.int .i64 t320)) (fun _ hk=>hk.2) (.string t321)) (fun _ hk=>hk.2) (.slice Ao23 t322.length co23)) (fun _ hk=>hk.2) (.slice Ao24 t325.length co24)) (fun _ h_=>h_.1))) hb);have n2_:=Aside0.mk (Kd.R_below (by (with_reducible repeat (first|apply Kd.R_alloc|apply Kd.R_drewN|apply Kd.R_drew));exact (Kd.R_mono (Kd.R_far (p:=⟨gb328,4,none⟩) (Kd.R_far (p:=⟨gb328,3,none⟩) (Kd.R_far (p:=⟨gb328,2,none⟩) (Kd.R_far (p:=⟨gb328,1,none⟩) (Kd.R_far (p:=⟨gb328,0,none⟩) (Kd.R_mono HO324.out (fun k_ hk=>(⟨hk,hk.2⟩:_∧k_≠gb328))) (fun _ hk=>hk.2) (.int .i64 t319)) (fun _ hk=>hk.2) (.int .i64 t320)) (fun _ hk=>hk.2) (.string t321)) (fun _ hk=>hk.2) (.slice Ao23 t322.length co23)) (fun _ hk=>hk.2) (.slice Ao24 t325.length co24)) (fun _ h_=>h_.1))) hb);have n3_:=Aside0.mk (Kd.R_below (by (with_reducible repeat (first|apply Kd.R_alloc|apply Kd.R_drewN|apply Kd.R_drew));exact (Kd.R_mono (Kd.R_far (p:=⟨gb328,4,none⟩) (Kd.R_far (p:=⟨gb328,3,none⟩) (Kd.R_far (p:=⟨gb328,2,none⟩) (Kd.R_far (p:=⟨gb328,1,none⟩) (Kd.R_far (p:=⟨gb328,0,none⟩) (Kd.R_mono HO327.out (fun k_ hk=>(⟨hk,hk.2⟩:_∧k_≠gb328))) (fun _ hk=>hk.2) (.int .i64 t319)) (fun _ hk=>hk.2) (.int .i64 t320)) (fun _ hk=>hk.2) (.string t321)) (fun _ hk=>hk.2) (.slice Ao23 t322.length co23)) (fun _ hk=>hk.2) (.slice Ao24 t325.length co24)) (fun _ h_=>h_.1))) hb);have n4_:=Aside0.mk (blk_below (g:=gb307) (o:=.cells #[.int .i64 a0_0,.int .i64 a0_1,.string a0_2,.slice A0_3 l0_3.length c0_3,.slice A0_4 l0_4.length c0_4] 25 (0,0)) (by (with_reducible repeat (first|refine blk_drewN ?_ _|refine blk_drew ?_|refine blk_alloc ?_ _));refine blk_far ?_ NB307_328.out _;(with_reducible repeat (first|refine blk_drewN ?_ _|refine blk_drew ?_|refine blk_alloc ?_ _));refine blk_far ?_ NB307_328.out _;(with_reducible repeat (first|refine blk_drewN ?_ _|refine blk_drew ?_|refine blk_alloc ?_ _));refine blk_far ?_ NB307_328.out _;(with_reducible repeat (first|refine blk_drewN ?_ _|refine blk_drew ?_|refine blk_alloc ?_ _));refine blk_far ?_ NB307_328.out _;(with_reducible repeat (first|refine blk_drewN ?_ _|refine blk_drew ?_|refine blk_alloc ?_ _));refine blk_far ?_ NB307_328.out _;(with_reducible repeat (first|refine blk_drewN ?_ _|refine blk_drew ?_|refine blk_alloc ?_ _));exact BK307.out) hb);have n5_:=Aside0.mk (blk_below (g:=gb328) (o:=.cells #[.int .i64 t319,.int .i64 t320,.string t321,.slice Ao23 t322.length co23,.slice Ao24 t325.length co24] 31 (0,0)) (by (with_reducible repeat (first|refine blk_drewN ?_ _|refine blk_drew ?_|refine blk_alloc ?_ _));refine blk_put (cs:=#[.int .i64 t319,.int .i64 t320,.string t321,.slice Ao23 t322.length co23,.slice none 0 0]) ?_ 4 _ rfl;(with_reducible repeat (first|refine blk_drewN ?_ _|refine blk_drew ?_|refine blk_alloc ?_ _));refine blk_put (cs:=#[.int .i64 t319,.int .i64 t320,.string t321,.slice none 0 0,.slice none 0 0]) ?_ 3 _ rfl;(with_reducible repeat (first|refine blk_drewN ?_ _|refine blk_drew ?_|refine blk_alloc ?_ _));refine blk_put (cs:=#[.int .i64 t319,.int .i64 t320,.string (⟨#[]⟩:ByteArray),.slice none 0 0,.slice none 0 0]) ?_ 2 _ rfl;(with_reducible repeat (first|refine blk_drewN ?_ _|refine blk_drew ?_|refine blk_alloc ?_ _));refine blk_put (cs:=#[.int .i64 t319,.int .i64 0,.string (⟨#[]⟩:ByteArray),.slice none 0 0,.slice none 0 0]) ?_ 1 _ rfl;(with_reducible repeat (first|refine blk_drewN ?_ _|refine blk_drew ?_|refine blk_alloc ?_ _));refine blk_put (cs:=#[.int .i64 0,.int .i64 0,.string (⟨#[]⟩:ByteArray),.slice none 0 0,.slice none 0 0]) ?_ 0 _ rfl;(with_reducible repeat (first|refine blk_drewN ?_ _|refine blk_drew ?_|refine blk_alloc ?_ _));exact BK328.out) hb);have n6_:=Aside0.mk (below_step (by repeat (first|(with_reducible first|exact HB.out|apply below_alloc|apply pw_below_drewN|apply below_drew1|refine below_set ?_ GE307.out|refine below_set ?_ GE328.out)|exact HB.out)) hb);clear HO314;clear HO317;clear HO324;clear HO327;clear BK307;clear BK328;clear HB;have HO314:=n0_;have HO317:=n1_;have HO324:=n2_;have HO327:=n3_;have BK307:=n4_;have BK328:=n5_;have HB:=n6_;clear n0_ n1_ n2_ n3_ n4_ n5_ n6_;(try clear hb);(try clear hb2);(try clear hk);(try clear hi)))
    go_ret
    exact ⟨by first|rfl|(simp [*,errW_none,errW_some] <;> rfl),by repeat (first|(with_reducible first|exact HB.out|apply below_alloc|apply pw_below_drewN|apply below_drew1|refine below_set ?_ GE307.out|refine below_set ?_ GE328.out)|exact HB.out)⟩
   ·rw [if_neg c12] at H
    have c12b0:(t329 != t318) = false:=by simpa using c12
    (try (have c12b1:decide (t329 = t318) = true:=by simpa using c12))
    (try (have c12b2:(t329 == t318) = true:=by simpa using c12))
    clear c12
    replace H:=Option.bind_eq_some_iff.mp H
    obtain ⟨⟨t330,t331,t332,t333,t336⟩,A260,H⟩:=H
    replace H:((laws_eqExpr.f kj2 t319 t320 t321 t322 t325 t330 t331 t332 t333 t336).bind fun t339=>(if t339 = true then (some true) else (some false))) = some r:=H
    have A26:=Aside0.mk A260
    clear A260
    replace H:=Option.bind_eq_some_iff.mp H
    obtain ⟨t339,A270,H⟩:=H
    replace H:(if t339 = true then (some true) else (some false)) = some r:=H
    have A27:=Aside0.mk A270
    clear A270
    by_cases c28:t339 = true
    ·subst c28
     have H1:(some true) = some r:=by rw [if_pos rfl] at H;exact H
     clear H
     have H:=H1
     clear H1
     obtain rfl:=Option.some.inj H
     have hcz29_0:wc.cell? ⟨gb307,0,none⟩ = some (.int .i64 a0_0):=(blk_cell BK307.out 0).trans rfl
     have hcz29_1:wc.cell? ⟨gb307,1,none⟩ = some (.int .i64 a0_1):=(blk_cell BK307.out 1).trans rfl
     have hcz29_2:wc.cell? ⟨gb307,2,none⟩ = some (.string a0_2):=(blk_cell BK307.out 2).trans rfl
     have hcz29_3:wc.cell? ⟨gb307,3,none⟩ = some (.slice A0_3 l0_3.length c0_3):=(blk_cell BK307.out 3).trans rfl
     have hcz29_4:wc.cell? ⟨gb307,4,none⟩ = some (.slice A0_4 l0_4.length c0_4):=(blk_cell BK307.out 4).trans rfl
     have hfz29_0:=blk_frozen BK307.out 0
     have hfz29_1:=blk_frozen BK307.out 1
     have hfz29_2:=blk_frozen BK307.out 2
     have hfz29_3:=blk_frozen BK307.out 3
     have hfz29_4:=blk_frozen BK307.out 4
     try go_wp2_with (first|((with_reducible refine gate_callee (f:=6) rfl ?_);refine goesL_ (some 13) rfl rfl Try.func6 (by kernel_rfl) rfl #[.agg #[.int .i64 a0_0,.int .i64 a0_1,.string a0_2,.slice A0_3 l0_3.length c0_3,.slice A0_4 l0_4.length c0_4]] rfl (by (try simp only [List.map_toArray,List.map_cons,List.map_nil]);first|done|rfl|(simp only [List.length_drop,List.length_take];rfl)) ?_;(with_reducible refine (laws_toExpr.calls kj2 a0_0 a0_1 a0_2 _ _ l0_3 _ _ l0_4 t309 t310 t311 t312 t315 _ ?side1 ?side2 ?side3 ?side4 A8.out).mono ?_);(case side1=>repeat (first|exact (Kd.C_below HR0_3.out HB.out)|(with_reducible refine Kd.C_alloc ?_ _)|(with_reducible refine Kd.C_drewN ?_ _)|(with_reducible refine Kd.C_drew ?_)));(case side2=>exact HC0_3.out);(case side3=>repeat (first|exact (Kd.C_below HR0_4.out HB.out)|(with_reducible refine Kd.C_alloc ?_ _)|(with_reducible refine Kd.C_drewN ?_ _)|(with_reducible refine Kd.C_drew ?_)));(case side4=>exact HC0_4.out);rintro e w30 ⟨v313,v316,rfl,ho0,ho1,hb⟩;refine ⟨_,rfl,?_⟩;have n0_:=Aside0.mk (Kd.R_lower ho0 (below_size (by repeat (first|(with_reducible first|exact HB.out|apply below_alloc|apply pw_below_drewN|apply below_drew1|refine below_set ?_ GE307.out)|exact HB.out))));have n1_:=Aside0.mk (Kd.R_lower ho1 (below_size (by repeat (first|(with_reducible first|exact HB.out|apply below_alloc|apply pw_below_drewN|apply below_drew1|refine below_set ?_ GE307.out)|exact HB.out))));have n2_:=Aside0.mk (blk_below (g:=gb307) (o:=.cells #[.int .i64 a0_0,.int .i64 a0_1,.string a0_2,.slice A0_3 l0_3.length c0_3,.slice A0_4 l0_4.length c0_4] 25 (0,0)) (by (with_reducible repeat (first|refine blk_drewN ?_ _|refine blk_drew ?_|refine blk_alloc ?_ _));exact BK307.out) hb);have n3_:=Aside0.mk (below_step (by repeat (first|(with_reducible first|exact HB.out|apply below_alloc|apply pw_below_drewN|apply below_drew1|refine below_set ?_ GE307.out)|exact HB.out)) hb);clear BK307;clear HB;have HO314:=n0_;have HO317:=n1_;have BK307:=n2_;have HB:=n3_;clear n0_ n1_ n2_ n3_;(try clear hb);(try clear hb2);(try clear hk);(try clear hi);(try clear ho0);(try clear ho1);obtain ⟨Ao31,co31,eo31⟩:=Kd.R_slice HO314.out;subst eo31;obtain ⟨Ao32,co32,eo32⟩:=Kd.R_slice HO317.out;subst eo32)|((with_reducible refine gate_callee (f:=5) rfl ?_);refine goesL_ (some 14) rfl rfl Try.func5 (by kernel_rfl) rfl #[.agg #[.int .i64 t309,.int .i64 t310,.string t311,.slice Ao31 t312.length co31,.slice Ao32 t315.length co32]] rfl (by (try simp only [List.map_toArray,List.map_cons,List.map_nil]);first|done|rfl|(simp only [List.length_drop,List.length_take];rfl)) ?_;(with_reducible refine (spec_ExprOk.calls kj2 t309 t310 t311 _ _ t312 _ _ t315 t318 _ ?side1 ?side2 ?side3 ?side4 A9.out).mono ?_);(case side1=>repeat (first|exact (Kd.R_reads' HO314.out).2.2|(with_reducible refine Kd.C_alloc ?_ _)|(with_reducible refine Kd.C_drewN ?_ _)|(with_reducible refine Kd.C_drew ?_)));(case side2=>exact (Kd.R_reads' HO314.out).2.1);(case side3=>repeat (first|exact (Kd.R_reads' HO317.out).2.2|(with_reducible refine Kd.C_alloc ?_ _)|(with_reducible refine Kd.C_drewN ?_ _)|(with_reducible refine Kd.C_drew ?_)));(case side4=>exact (Kd.R_reads' HO317.out).2.1);rintro e w33 ⟨rfl,hb⟩;refine ⟨_,rfl,?_⟩;have n0_:=Aside0.mk (Kd.R_below (by (with_reducible repeat (first|apply Kd.R_alloc|apply Kd.R_drewN|apply Kd.R_drew));exact HO314.out) hb);have n1_:=Aside0.mk (Kd.R_below (by (with_reducible repeat (first|apply Kd.R_alloc|apply Kd.R_drewN|apply Kd.R_drew));exact HO317.out) hb);have n2_:=Aside0.mk (blk_below (g:=gb307) (o:=.cells #[.int .i64 a0_0,.int .i64 a0_1,.string a0_2,.slice A0_3 l0_3.length c0_3,.slice A0_4 l0_4.length c0_4] 25 (0,0)) (by (with_reducible repeat (first|refine blk_drewN ?_ _|refine blk_drew ?_|refine blk_alloc ?_ _));exact BK307.out) hb);have n3_:=Aside0.mk (below_step (by repeat (first|(with_reducible first|exact HB.out|apply below_alloc|apply pw_below_drewN|apply below_drew1|refine below_set ?_ GE307.out)|exact HB.out)) hb);clear HO314;clear HO317;clear BK307;clear HB;have HO314:=n0_;have HO317:=n1_;have BK307:=n2_;have HB:=n3_;clear n0_ n1_ n2_ n3_;(try clear hb);(try clear hb2);(try clear hk);(try clear hi);have hcz34_0:w33.cell? ⟨gb307,0,none⟩ = some (.int .i64 a0_0):=(blk_cell BK307.out 0).trans rfl;have hcz34_1:w33.cell? ⟨gb307,1,none⟩ = some (.int .i64 a0_1):=(blk_cell BK307.out 1).trans rfl;have hcz34_2:w33.cell? ⟨gb307,2,none⟩ = some (.string a0_2):=(blk_cell BK307.out 2).trans rfl;have hcz34_3:w33.cell? ⟨gb307,3,none⟩ = some (.slice A0_3 l0_3.length c0_3):=(blk_cell BK307.out 3).trans rfl;have hcz34_4:w33.cell? ⟨gb307,4,none⟩ = some (.slice A0_4 l0_4.length c0_4):=(blk_cell BK307.out 4).trans rfl;have hfz34_0:=blk_frozen BK307.out 0;have hfz34_1:=blk_frozen BK307.out 1;have hfz34_2:=blk_frozen BK307.out 2;have hfz34_3:=blk_frozen BK307.out 3;have hfz34_4:=blk_frozen BK307.out 4)|((with_reducible refine gate_callee (f:=6) rfl ?_);refine goesL_ (some 16) rfl rfl Try.func6 (by kernel_rfl) rfl #[.agg #[.int .i64 a0_0,.int .i64 a0_1,.string a0_2,.slice A0_3 l0_3.length c0_3,.slice A0_4 l0_4.length c0_4]] rfl (by (try simp only [List.map_toArray,List.map_cons,List.map_nil]);first|done|rfl|(simp only [List.length_drop,List.length_take];rfl)) ?_;(with_reducible refine (laws_toExpr.calls kj2 a0_0 a0_1 a0_2 _ _ l0_3 _ _ l0_4 t319 t320 t321 t322 t325 _ ?side1 ?side2 ?side3 ?side4 A10.out).mono ?_);(case side1=>repeat (first|exact (Kd.C_below HR0_3.out HB.out)|(with_reducible refine Kd.C_alloc ?_ _)|(with_reducible refine Kd.C_drewN ?_ _)|(with_reducible refine Kd.C_drew ?_)));(case side2=>exact HC0_3.out);(case side3=>repeat (first|exact (Kd.C_below HR0_4.out HB.out)|(with_reducible refine Kd.C_alloc ?_ _)|(with_reducible refine Kd.C_drewN ?_ _)|(with_reducible refine Kd.C_drew ?_)));(case side4=>exact HC0_4.out);rintro e w35 ⟨v323,v326,rfl,ho0,ho1,hb⟩;refine ⟨_,rfl,?_⟩;have n0_:=Aside0.mk (Kd.R_mono (Kd.R_told (Kd.R_told (Kd.R_old (by (with_reducible repeat (first|apply Kd.R_alloc|apply Kd.R_drewN|apply Kd.R_drew));exact HO314.out) hb) (Kd.R_base ho0)) (Kd.R_base ho1)) (fun _ h_=>h_.1));have n1_:=Aside0.mk (Kd.R_mono (Kd.R_told (Kd.R_told (Kd.R_old (by (with_reducible repeat (first|apply Kd.R_alloc|apply Kd.R_drewN|apply Kd.R_drew));exact HO317.out) hb) (Kd.R_base ho0)) (Kd.R_base ho1)) (fun _ h_=>h_.1));have n2_:=Aside0.mk (Kd.R_lower (Kd.R_new' (Kd.R_new' ho0 (Kd.R_lt (by (with_reducible repeat (first|apply Kd.R_alloc|apply Kd.R_drewN|apply Kd.R_drew));exact HO314.out))) (Kd.R_lt (by (with_reducible repeat (first|apply Kd.R_alloc|apply Kd.R_drewN|apply Kd.R_drew));exact HO317.out))) (below_size (by repeat (first|(with_reducible first|exact HB.out|apply below_alloc|apply pw_below_drewN|apply below_drew1|refine below_set ?_ GE307.out)|exact HB.out))));have n3_:=Aside0.mk (Kd.R_lower (Kd.R_new' (Kd.R_new' ho1 (Kd.R_lt (by (with_reducible repeat (first|apply Kd.R_alloc|apply Kd.R_drewN|apply Kd.R_drew));exact HO314.out))) (Kd.R_lt (by (with_reducible repeat (first|apply Kd.R_alloc|apply Kd.R_drewN|apply Kd.R_drew));exact HO317.out))) (below_size (by repeat (first|(with_reducible first|exact HB.out|apply below_alloc|apply pw_below_drewN|apply below_drew1|refine below_set ?_ GE307.out)|exact HB.out))));have n4_:=Aside0.mk (blk_below (g:=gb307) (o:=.cells #[.int .i64 a0_0,.int .i64 a0_1,.string a0_2,.slice A0_3 l0_3.length c0_3,.slice A0_4 l0_4.length c0_4] 25 (0,0)) (by (with_reducible repeat (first|refine blk_drewN ?_ _|refine blk_drew ?_|refine blk_alloc ?_ _));exact BK307.out) hb);have n5_:=Aside0.mk (below_step (by repeat (first|(with_reducible first|exact HB.out|apply below_alloc|apply pw_below_drewN|apply below_drew1|refine below_set ?_ GE307.out)|exact HB.out)) hb);clear HO314;clear HO317;clear BK307;clear HB;have HO314:=n0_;have HO317:=n1_;have HO324:=n2_;have HO327:=n3_;have BK307:=n4_;have HB:=n5_;clear n0_ n1_ n2_ n3_ n4_ n5_;(try clear hb);(try clear hb2);(try clear hk);(try clear hi);(try clear ho0);(try clear ho1))|((with_reducible refine gate_dst (N:=5) rfl ?_);refine box_event ?hg (N:=5) ?hd (cs:=#[.int .i64 0,.int .i64 0,.string (⟨#[]⟩:ByteArray),.slice none 0 0,.slice none 0 0]) (t:=31) ?hr ?_;(case hd=>rfl);(case hg=>rfl);(case hr=>first|(go_simp;done)|(go_simp;rfl));intro gb328 hg w36 hbox hb;have n0_:=Aside0.mk (Kd.R_below (Kd.R_elderB (by (with_reducible repeat (first|apply Kd.R_alloc|apply Kd.R_drewN|apply Kd.R_drew));exact HO314.out) gb328 (Nat.le_of_eq hg.symm)) hb);have n1_:=Aside0.mk (Kd.R_below (Kd.R_elderB (by (with_reducible repeat (first|apply Kd.R_alloc|apply Kd.R_drewN|apply Kd.R_drew));exact HO317.out) gb328 (Nat.le_of_eq hg.symm)) hb);have n2_:=Aside0.mk (Kd.R_below (Kd.R_elderB (by (with_reducible repeat (first|apply Kd.R_alloc|apply Kd.R_drewN|apply Kd.R_drew));exact HO324.out) gb328 (Nat.le_of_eq hg.symm)) hb);have n3_:=Aside0.mk (Kd.R_below (Kd.R_elderB (by (with_reducible repeat (first|apply Kd.R_alloc|apply Kd.R_drewN|apply Kd.R_drew));exact HO327.out) gb328 (Nat.le_of_eq hg.symm)) hb);have n4_:=Aside0.mk (blk_below (g:=gb307) (o:=.cells #[.int .i64 a0_0,.int .i64 a0_1,.string a0_2,.slice A0_3 l0_3.length c0_3,.slice A0_4 l0_4.length c0_4] 25 (0,0)) (by (with_reducible repeat (first|refine blk_drewN ?_ _|refine blk_drew ?_|refine blk_alloc ?_ _));exact BK307.out) hb);have n5_:=Aside0.mk (below_step (by repeat (first|(with_reducible first|exact HB.out|apply below_alloc|apply pw_below_drewN|apply below_drew1|refine below_set ?_ GE307.out)|exact HB.out)) hb);have n6_:=Aside0.mk (hbox);have n7_:=Aside0.mk ((by rw [hg];exact (below_size (by repeat (first|(with_reducible first|exact HB.out|apply below_alloc|apply pw_below_drewN|apply below_drew1|refine below_set ?_ GE307.out)|exact HB.out))):w.heap.size≤gb328));have n8_:=Aside0.mk ((by rw [hg];exact (below_size (by repeat (first|(with_reducible first|exact HB.out|apply below_alloc|apply pw_below_drewN|apply below_drew1|refine below_set ?_ GE307.out)|exact HB.out))):w.heap.size≤gb328));have n9_:=Aside0.mk ((by rw [hg];exact Nat.ne_of_lt (blk_lt (g:=gb307) (o:=.cells #[.int .i64 a0_0,.int .i64 a0_1,.string a0_2,.slice A0_3 l0_3.length c0_3,.slice A0_4 l0_4.length c0_4] 25 (0,0)) (by (with_reducible repeat (first|refine blk_drewN ?_ _|refine blk_drew ?_|refine blk_alloc ?_ _));exact BK307.out)):gb307≠gb328));have n10_:=Aside0.mk ((by rw [hg];exact Nat.ne_of_gt (blk_lt (g:=gb307) (o:=.cells #[.int .i64 a0_0,.int .i64 a0_1,.string a0_2,.slice A0_3 l0_3.length c0_3,.slice A0_4 l0_4.length c0_4] 25 (0,0)) (by (with_reducible repeat (first|refine blk_drewN ?_ _|refine blk_drew ?_|refine blk_alloc ?_ _));exact BK307.out)):gb328≠gb307));clear HO314;clear HO317;clear HO324;clear HO327;clear BK307;clear HB;have HO314:=n0_;have HO317:=n1_;have HO324:=n2_;have HO327:=n3_;have BK307:=n4_;have HB:=n5_;have BK328:=n6_;have GW328:=n7_;have GE328:=n8_;have NB307_328:=n9_;have NB328_307:=n10_;clear n0_ n1_ n2_ n3_ n4_ n5_ n6_ n7_ n8_ n9_ n10_;clear hb hbox hg;have hnb37:=NB328_307.out;have hnc37:=NB307_328.out;have hcz38_0:w36.cell? ⟨gb328,0,none⟩ = some (.int .i64 0):=(blk_cell BK328.out 0).trans rfl;have hcz38_1:w36.cell? ⟨gb328,1,none⟩ = some (.int .i64 0):=(blk_cell BK328.out 1).trans rfl;have hcz38_2:w36.cell? ⟨gb328,2,none⟩ = some (.string (⟨#[]⟩:ByteArray)):=(blk_cell BK328.out 2).trans rfl;have hcz38_3:w36.cell? ⟨gb328,3,none⟩ = some (.slice none 0 0):=(blk_cell BK328.out 3).trans rfl;have hcz38_4:w36.cell? ⟨gb328,4,none⟩ = some (.slice none 0 0):=(blk_cell BK328.out 4).trans rfl;have hfz38_0:=blk_frozen BK328.out 0;have hfz38_1:=blk_frozen BK328.out 1;have hfz38_2:=blk_frozen BK328.out 2;have hfz38_3:=blk_frozen BK328.out 3;have hfz38_4:=blk_frozen BK328.out 4;obtain ⟨Ao39,co39,eo39⟩:=Kd.R_slice HO324.out;subst eo39;obtain ⟨Ao40,co40,eo40⟩:=Kd.R_slice HO327.out;subst eo40)|((with_reducible refine gate_callee (f:=7) rfl ?_);refine goesL_ (some 18) rfl rfl Try.func7 (by kernel_rfl) rfl #[.agg #[.int .i64 t319,.int .i64 t320,.string t321,.slice Ao39 t322.length co39,.slice Ao40 t325.length co40]] rfl (by (try simp only [List.map_toArray,List.map_cons,List.map_nil]);first|done|rfl|(simp only [List.length_drop,List.length_take];rfl)) ?_;(with_reducible refine (impl_ExprOk.calls kj2 t319 t320 t321 _ _ t322 _ _ t325 t329 _ ?side1 ?side2 ?side3 ?side4 A11.out).mono ?_);(case side1=>refine (Kd.R_reads' (e:=31) (base:=w.heap.size) (ok:=fun k_=>(((some k_≠(.slice Ao40 t325.length co40:Value).ownBlock∧some k_≠(.slice Ao31 t312.length co31:Value).ownBlock)∧some k_≠(.slice Ao32 t315.length co32:Value).ownBlock)∧k_≠gb328)) (n:=t322.length) (c:=co39) ?_).2.2;exact (by (with_reducible repeat (first|apply Kd.R_alloc|apply Kd.R_drewN|apply Kd.R_drew));exact (Kd.R_mono (Kd.R_far (p:=⟨gb328,4,none⟩) (Kd.R_far (p:=⟨gb328,3,none⟩) (Kd.R_far (p:=⟨gb328,2,none⟩) (Kd.R_far (p:=⟨gb328,1,none⟩) (Kd.R_far (p:=⟨gb328,0,none⟩) (Kd.R_mono HO324.out (fun k_ hk=>(⟨hk,hk.2⟩:_∧k_≠gb328))) (fun _ hk=>hk.2) (.int .i64 t319)) (fun _ hk=>hk.2) (.int .i64 t320)) (fun _ hk=>hk.2) (.string t321)) (fun _ hk=>hk.2) (.slice Ao39 t322.length co39)) (fun _ hk=>hk.2) (.slice Ao40 t325.length co40)) (fun _ h_=>h_.1))));(case side2=>exact (Kd.R_reads' HO324.out).2.1);(case side3=>refine (Kd.R_reads' (e:=53) (base:=w.heap.size) (ok:=fun k_=>(((some k_≠(.slice Ao39 t322.length co39:Value).ownBlock∧some k_≠(.slice Ao31 t312.length co31:Value).ownBlock)∧some k_≠(.slice Ao32 t315.length co32:Value).ownBlock)∧k_≠gb328)) (n:=t325.length) (c:=co40) ?_).2.2;exact (by (with_reducible repeat (first|apply Kd.R_alloc|apply Kd.R_drewN|apply Kd.R_drew));exact (Kd.R_mono (Kd.R_far (p:=⟨gb328,4,none⟩) (Kd.R_far (p:=⟨gb328,3,none⟩) (Kd.R_far (p:=⟨gb328,2,none⟩) (Kd.R_far (p:=⟨gb328,1,none⟩) (Kd.R_far (p:=⟨gb328,0,none⟩) (Kd.R_mono HO327.out (fun k_ hk=>(⟨hk,hk.2⟩:_∧k_≠gb328))) (fun _ hk=>hk.2) (.int .i64 t319)) (fun _ hk=>hk.2) (.int .i64 t320)) (fun _ hk=>hk.2) (.string t321)) (fun _ hk=>hk.2) (.slice Ao39 t322.length co39)) (fun _ hk=>hk.2) (.slice Ao40 t325.length co40)) (fun _ h_=>h_.1))));(case side4=>exact (Kd.R_reads' HO327.out).2.1);rintro e w41 ⟨rfl,hb⟩;refine ⟨_,rfl,?_⟩;have n0_:=Aside0.mk (Kd.R_below (by (with_reducible repeat (first|apply Kd.R_alloc|apply Kd.R_drewN|apply Kd.R_drew));exact (Kd.R_mono (Kd.R_far (p:=⟨gb328,4,none⟩) (Kd.R_far (p:=⟨gb328,3,none⟩) (Kd.R_far (p:=⟨gb328,2,none⟩) (Kd.R_far (p:=⟨gb328,1,none⟩) (Kd.R_far (p:=⟨gb328,0,none⟩) (Kd.R_mono HO314.out (fun k_ hk=>(⟨hk,hk.2⟩:_∧k_≠gb328))) (fun _ hk=>hk.2) (.int .i64 t319)) (fun _ hk=>hk.2) (.int .i64 t320)) (fun _ hk=>hk.2) (.string t321)) (fun _ hk=>hk.2) (.slice Ao39 t322.length co39)) (fun _ hk=>hk.2) (.slice Ao40 t325.length co40)) (fun _ h_=>h_.1))) hb);have n1_:=Aside0.mk (Kd.R_below (by (with_reducible repeat (first|apply Kd.R_alloc|apply Kd.R_drewN|apply Kd.R_drew));exact (Kd.R_mono (Kd.R_far (p:=⟨gb328,4,none⟩) (Kd.R_far (p:=⟨gb328,3,none⟩) (Kd.R_far (p:=⟨gb328,2,none⟩) (Kd.R_far (p:=⟨gb328,1,none⟩) (Kd.R_far (p:=⟨gb328,0,none⟩) (Kd.R_mono HO317.out (fun k_ hk=>(⟨hk,hk.2⟩:_∧k_≠gb328))) (fun _ hk=>hk.2) (.int .i64 t319)) (fun _ hk=>hk.2) (.int .i64 t320)) (fun _ hk=>hk.2) (.string t321)) (fun _ hk=>hk.2) (.slice Ao39 t322.length co39)) (fun _ hk=>hk.2) (.slice Ao40 t325.length co40)) (fun _ h_=>h_.1))) hb);have n2_:=Aside0.mk (Kd.R_below (by (with_reducible repeat (first|apply Kd.R_alloc|apply Kd.R_drewN|apply Kd.R_drew));exact (Kd.R_mono (Kd.R_far (p:=⟨gb328,4,none⟩) (Kd.R_far (p:=⟨gb328,3,none⟩) (Kd.R_far (p:=⟨gb328,2,none⟩) (Kd.R_far (p:=⟨gb328,1,none⟩) (Kd.R_far (p:=⟨gb328,0,none⟩) (Kd.R_mono HO324.out (fun k_ hk=>(⟨hk,hk.2⟩:_∧k_≠gb328))) (fun _ hk=>hk.2) (.int .i64 t319)) (fun _ hk=>hk.2) (.int .i64 t320)) (fun _ hk=>hk.2) (.string t321)) (fun _ hk=>hk.2) (.slice Ao39 t322.length co39)) (fun _ hk=>hk.2) (.slice Ao40 t325.length co40)) (fun _ h_=>h_.1))) hb);have n3_:=Aside0.mk (Kd.R_below (by (with_reducible repeat (first|apply Kd.R_alloc|apply Kd.R_drewN|apply Kd.R_drew));exact (Kd.R_mono (Kd.R_far (p:=⟨gb328,4,none⟩) (Kd.R_far (p:=⟨gb328,3,none⟩) (Kd.R_far (p:=⟨gb328,2,none⟩) (Kd.R_far (p:=⟨gb328,1,none⟩) (Kd.R_far (p:=⟨gb328,0,none⟩) (Kd.R_mono HO327.out (fun k_ hk=>(⟨hk,hk.2⟩:_∧k_≠gb328))) (fun _ hk=>hk.2) (.int .i64 t319)) (fun _ hk=>hk.2) (.int .i64 t320)) (fun _ hk=>hk.2) (.string t321)) (fun _ hk=>hk.2) (.slice Ao39 t322.length co39)) (fun _ hk=>hk.2) (.slice Ao40 t325.length co40)) (fun _ h_=>h_.1))) hb);have n4_:=Aside0.mk (blk_below (g:=gb307) (o:=.cells #[.int .i64 a0_0,.int .i64 a0_1,.string a0_2,.slice A0_3 l0_3.length c0_3,.slice A0_4 l0_4.length c0_4] 25 (0,0)) (by (with_reducible repeat (first|refine blk_drewN ?_ _|refine blk_drew ?_|refine blk_alloc ?_ _));refine blk_far ?_ NB307_328.out _;(with_reducible repeat (first|refine blk_drewN ?_ _|refine blk_drew ?_|refine blk_alloc ?_ _));refine blk_far ?_ NB307_328.out _;(with_reducible repeat (first|refine blk_drewN ?_ _|refine blk_drew ?_|refine blk_alloc ?_ _));refine blk_far ?_ NB307_328.out _;(with_reducible repeat (first|refine blk_drewN ?_ _|refine blk_drew ?_|refine blk_alloc ?_ _));refine blk_far ?_ NB307_328.out _;(with_reducible repeat (first|refine blk_drewN ?_ _|refine blk_drew ?_|refine blk_alloc ?_ _));refine blk_far ?_ NB307_328.out _;(with_reducible repeat (first|refine blk_drewN ?_ _|refine blk_drew ?_|refine blk_alloc ?_ _));exact BK307.out) hb);have n5_:=Aside0.mk (blk_below (g:=gb328) (o:=.cells #[.int .i64 t319,.int .i64 t320,.string t321,.slice Ao39 t322.length co39,.slice Ao40 t325.length co40] 31 (0,0)) (by (with_reducible repeat (first|refine blk_drewN ?_ _|refine blk_drew ?_|refine blk_alloc ?_ _));refine blk_put (cs:=#[.int .i64 t319,.int .i64 t320,.string t321,.slice Ao39 t322.length co39,.slice none 0 0]) ?_ 4 _ rfl;(with_reducible repeat (first|refine blk_drewN ?_ _|refine blk_drew ?_|refine blk_alloc ?_ _));refine blk_put (cs:=#[.int .i64 t319,.int .i64 t320,.string t321,.slice none 0 0,.slice none 0 0]) ?_ 3 _ rfl;(with_reducible repeat (first|refine blk_drewN ?_ _|refine blk_drew ?_|refine blk_alloc ?_ _));refine blk_put (cs:=#[.int .i64 t319,.int .i64 t320,.string (⟨#[]⟩:ByteArray),.slice none 0 0,.slice none 0 0]) ?_ 2 _ rfl;(with_reducible repeat (first|refine blk_drewN ?_ _|refine blk_drew ?_|refine blk_alloc ?_ _));refine blk_put (cs:=#[.int .i64 t319,.int .i64 0,.string (⟨#[]⟩:ByteArray),.slice none 0 0,.slice none 0 0]) ?_ 1 _ rfl;(with_reducible repeat (first|refine blk_drewN ?_ _|refine blk_drew ?_|refine blk_alloc ?_ _));refine blk_put (cs:=#[.int .i64 0,.int .i64 0,.string (⟨#[]⟩:ByteArray),.slice none 0 0,.slice none 0 0]) ?_ 0 _ rfl;(with_reducible repeat (first|refine blk_drewN ?_ _|refine blk_drew ?_|refine blk_alloc ?_ _));exact BK328.out) hb);have n6_:=Aside0.mk (below_step (by repeat (first|(with_reducible first|exact HB.out|apply below_alloc|apply pw_below_drewN|apply below_drew1|refine below_set ?_ GE307.out|refine below_set ?_ GE328.out)|exact HB.out)) hb);clear HO314;clear HO317;clear HO324;clear HO327;clear BK307;clear BK328;clear HB;have HO314:=n0_;have HO317:=n1_;have HO324:=n2_;have HO327:=n3_;have BK307:=n4_;have BK328:=n5_;have HB:=n6_;clear n0_ n1_ n2_ n3_ n4_ n5_ n6_;(try clear hb);(try clear hb2);(try clear hk);(try clear hi)))
     have n0_:=Aside0.mk (Kd.R_drew HO314.out)
     have n1_:=Aside0.mk (Kd.R_drew HO317.out)
     have n2_:=Aside0.mk (Kd.R_drew HO324.out)
     have n3_:=Aside0.mk (Kd.R_drew HO327.out)
     have n4_:=Aside0.mk (blk_drew BK307.out)
     have n5_:=Aside0.mk (blk_drew BK328.out)
     have n6_:=Aside0.mk (below_drew1 HB.out)
     clear HO314
     clear HO317
     clear HO324
     clear HO327
     clear BK307
     clear BK328
     clear HB
     have HO314:=n0_
     have HO317:=n1_
     have HO324:=n2_
     have HO327:=n3_
     have BK307:=n4_
     have BK328:=n5_
     have HB:=n6_
     clear n0_ n1_ n2_ n3_ n4_ n5_ n6_
     refine start_ (n:=5) (S:=fun w'=>w'.cell? ⟨gb328,0,none⟩ = some (.int .i64 t319)∧w'.cell? ⟨gb328,1,none⟩ = some (.int .i64 t320)∧w'.cell? ⟨gb328,2,none⟩ = some (.string t321)∧w'.cell? ⟨gb328,3,none⟩ = some (.slice Ao39 t322.length co39)∧w'.cell? ⟨gb328,4,none⟩ = some (.slice Ao40 t325.length co40)∧w'.cell? ⟨gb307,0,none⟩ = some (.int .i64 a0_0)∧w'.cell? ⟨gb307,1,none⟩ = some (.int .i64 a0_1)∧w'.cell? ⟨gb307,2,none⟩ = some (.string a0_2)∧w'.cell? ⟨gb307,3,none⟩ = some (.slice A0_3 l0_3.length c0_3)∧w'.cell? ⟨gb307,4,none⟩ = some (.slice A0_4 l0_4.length c0_4)) (ds:=[]) #[false,false,false,false,false] (by kernel_rfl) rfl rfl ⟨(blk_cell BK328.out 0).trans rfl,(blk_cell BK328.out 1).trans rfl,(blk_cell BK328.out 2).trans rfl,(blk_cell BK328.out 3).trans rfl,(blk_cell BK328.out 4).trans rfl,(blk_cell BK307.out 0).trans rfl,(blk_cell BK307.out 1).trans rfl,(blk_cell BK307.out 2).trans rfl,(blk_cell BK307.out 3).trans rfl,(blk_cell BK307.out 4).trans rfl⟩ (fun hHeld=>?_)
     generalize w41.drew = w42 at HO314 HO317 HO324 HO327 BK307 BK328 HB hHeld ⊢
     refine take_ (i:=0) (N:=some 22) (v:=?_) (a':=?_) #[true,false,false,false,false] rfl rfl (by kernel_rfl) (fun _ _ _ h=>h) (Or.inl ⟨by rfl,?_⟩) hHeld ?_ ?_
     rotate_left
     ·rintro w' ⟨s0,s1,s2,s3,s4,s5,s6,s7,s8,s9⟩
      go_simp
      with_reducible rfl
     rotate_left
     ·simp only [Act.put,List.setIfInBounds_toArray,List.set_cons_zero,List.set_cons_succ,i64_w,i32_w]
      rfl
     refine take_ (i:=1) (N:=some 23) (v:=?_) (a':=?_) #[true,true,false,false,false] rfl rfl (by kernel_rfl) (fun _ _ _ h=>h) (Or.inl ⟨by rfl,?_⟩) hHeld ?_ ?_
     rotate_left
     ·rintro w' ⟨s0,s1,s2,s3,s4,s5,s6,s7,s8,s9⟩
      go_simp
      with_reducible rfl
     rotate_left
     ·simp only [Act.put,List.setIfInBounds_toArray,List.set_cons_zero,List.set_cons_succ,i64_w,i32_w]
      rfl
     refine one_ (i:=2) (N:=some 24) #[true,true,true,false,false] rfl rfl (by kernel_rfl) (by decide) (fun K hK=>?_)
     refine goes_ Try.func6 (by kernel_rfl) rfl #[.agg #[.int .i64 a0_0,.int .i64 a0_1,.string a0_2,.slice A0_3 l0_3.length c0_3,.slice A0_4 l0_4.length c0_4]] (by rfl) rfl rfl (by (try simp only [List.map_toArray,List.map_cons,List.map_nil]);first|done|rfl|(simp only [List.length_drop,List.length_take];rfl)) ?_
     with_reducible refine (laws_toExpr.calls kj2 a0_0 a0_1 a0_2 _ _ l0_3 _ _ l0_4 t330 t331 t332 t333 t336 _ ?side1 ?side2 ?side3 ?side4 A26.out).mono ?_
     (case side1=>repeat (first|exact (Kd.C_below HR0_3.out HB.out)|(with_reducible refine Kd.C_alloc ?_ _)|(with_reducible refine Kd.C_drewN ?_ _)|(with_reducible refine Kd.C_drew ?_)))
     (case side2=>exact HC0_3.out)
     (case side3=>repeat (first|exact (Kd.C_below HR0_4.out HB.out)|(with_reducible refine Kd.C_alloc ?_ _)|(with_reducible refine Kd.C_drewN ?_ _)|(with_reducible refine Kd.C_drew ?_)))
     (case side4=>exact HC0_4.out)
     rintro e w43 ⟨v334,v337,rfl,ho0,ho1,hb⟩
     refine ⟨_,rfl,?_⟩
     have n0_:=Aside0.mk (Kd.R_mono (Kd.R_told (Kd.R_told (Kd.R_old (by (with_reducible repeat (first|apply Kd.R_alloc|apply Kd.R_drewN|apply Kd.R_drew));exact HO314.out) hb) (Kd.R_base ho0)) (Kd.R_base ho1)) (fun _ h_=>h_.1))
     have n1_:=Aside0.mk (Kd.R_mono (Kd.R_told (Kd.R_told (Kd.R_old (by (with_reducible repeat (first|apply Kd.R_alloc|apply Kd.R_drewN|apply Kd.R_drew));exact HO317.out) hb) (Kd.R_base ho0)) (Kd.R_base ho1)) (fun _ h_=>h_.1))
     have n2_:=Aside0.mk (Kd.R_mono (Kd.R_told (Kd.R_told (Kd.R_old (by (with_reducible repeat (first|apply Kd.R_alloc|apply Kd.R_drewN|apply Kd.R_drew));exact HO324.out) hb) (Kd.R_base ho0)) (Kd.R_base ho1)) (fun _ h_=>h_.1))
     have n3_:=Aside0.mk (Kd.R_mono (Kd.R_told (Kd.R_told (Kd.R_old (by (with_reducible repeat (first|apply Kd.R_alloc|apply Kd.R_drewN|apply Kd.R_drew));exact HO327.out) hb) (Kd.R_base ho0)) (Kd.R_base ho1)) (fun _ h_=>h_.1))
     have n4_:=Aside0.mk (Kd.R_lower (Kd.R_newB (Kd.R_new' (Kd.R_new' (Kd.R_new' (Kd.R_new' ho0 (Kd.R_lt (by (with_reducible repeat (first|apply Kd.R_alloc|apply Kd.R_drewN|apply Kd.R_drew));exact HO314.out))) (Kd.R_lt (by (with_reducible repeat (first|apply Kd.R_alloc|apply Kd.R_drewN|apply Kd.R_drew));exact HO317.out))) (Kd.R_lt (by (with_reducible repeat (first|apply Kd.R_alloc|apply Kd.R_drewN|apply Kd.R_drew));exact HO324.out))) (Kd.R_lt (by (with_reducible repeat (first|apply Kd.R_alloc|apply Kd.R_drewN|apply Kd.R_drew));exact HO327.out))) (g:=gb328) (o:=.cells #[.int .i64 t319,.int .i64 t320,.string t321,.slice Ao39 t322.length co39,.slice Ao40 t325.length co40] 31 (0,0)) (by (with_reducible repeat (first|refine blk_drewN ?_ _|refine blk_drew ?_|refine blk_alloc ?_ _));exact BK328.out)) (below_size (by repeat (first|(with_reducible first|exact HB.out|apply below_alloc|apply pw_below_drewN|apply below_drew1|refine below_set ?_ GE307.out|refine below_set ?_ GE328.out)|exact HB.out))))
     have n5_:=Aside0.mk (Kd.R_lower (Kd.R_newB (Kd.R_new' (Kd.R_new' (Kd.R_new' (Kd.R_new' ho1 (Kd.R_lt (by (with_reducible repeat (first|apply Kd.R_alloc|apply Kd.R_drewN|apply Kd.R_drew));exact HO314.out))) (Kd.R_lt (by (with_reducible repeat (first|apply Kd.R_alloc|apply Kd.R_drewN|apply Kd.R_drew));exact HO317.out))) (Kd.R_lt (by (with_reducible repeat (first|apply Kd.R_alloc|apply Kd.R_drewN|apply Kd.R_drew));exact HO324.out))) (Kd.R_lt (by (with_reducible repeat (first|apply Kd.R_alloc|apply Kd.R_drewN|apply Kd.R_drew));exact HO327.out))) (g:=gb328) (o:=.cells #[.int .i64 t319,.int .i64 t320,.string t321,.slice Ao39 t322.length co39,.slice Ao40 t325.length co40] 31 (0,0)) (by (with_reducible repeat (first|refine blk_drewN ?_ _|refine blk_drew ?_|refine blk_alloc ?_ _));exact BK328.out)) (below_size (by repeat (first|(with_reducible first|exact HB.out|apply below_alloc|apply pw_below_drewN|apply below_drew1|refine below_set ?_ GE307.out|refine below_set ?_ GE328.out)|exact HB.out))))
     have n6_:=Aside0.mk (blk_below (g:=gb307) (o:=.cells #[.int .i64 a0_0,.int .i64 a0_1,.string a0_2,.slice A0_3 l0_3.length c0_3,.slice A0_4 l0_4.length c0_4] 25 (0,0)) (by (with_reducible repeat (first|refine blk_drewN ?_ _|refine blk_drew ?_|refine blk_alloc ?_ _));exact BK307.out) hb)
     have n7_:=Aside0.mk (blk_below (g:=gb328) (o:=.cells #[.int .i64 t319,.int .i64 t320,.string t321,.slice Ao39 t322.length co39,.slice Ao40 t325.length co40] 31 (0,0)) (by (with_reducible repeat (first|refine blk_drewN ?_ _|refine blk_drew ?_|refine blk_alloc ?_ _));exact BK328.out) hb)
     have n8_:=Aside0.mk (below_step (by repeat (first|(with_reducible first|exact HB.out|apply below_alloc|apply pw_below_drewN|apply below_drew1|refine below_set ?_ GE307.out|refine below_set ?_ GE328.out)|exact HB.out)) hb)
     clear HO314
     clear HO317
     clear HO324
     clear HO327
     clear BK307
     clear BK328
     clear HB
     have HO314:=n0_
     have HO317:=n1_
     have HO324:=n2_
     have HO327:=n3_
     have HO335:=n4_
     have HO338:=n5_
     have BK307:=n6_
     have BK328:=n7_
     have HB:=n8_
     clear n0_ n1_ n2_ n3_ n4_ n5_ n6_ n7_ n8_
     (try clear hb)
     (try clear hb2)
     (try clear hk)
     (try clear hi)
     (try clear ho0)
     (try clear ho1)
     obtain ⟨Ao44,co44,eo44⟩:=Kd.R_slice HO335.out
     (first|subst eo44|(injection eo44 with f1_ f2_ f3_;have f4_:=f1_.symm;have f5_:=f3_.symm;clear f1_ f2_ f3_;subst f4_;subst f5_))
     obtain ⟨Ao45,co45,eo45⟩:=Kd.R_slice HO338.out
     (first|subst eo45|(injection eo45 with f1_ f2_ f3_;have f4_:=f1_.symm;have f5_:=f3_.symm;clear f1_ f2_ f3_;subst f4_;subst f5_))
     refine hK.out _ _ ⟨(blk_cell BK328.out 0).trans rfl,(blk_cell BK328.out 1).trans rfl,(blk_cell BK328.out 2).trans rfl,(blk_cell BK328.out 3).trans rfl,(blk_cell BK328.out 4).trans rfl,(blk_cell BK307.out 0).trans rfl,(blk_cell BK307.out 1).trans rfl,(blk_cell BK307.out 2).trans rfl,(blk_cell BK307.out 3).trans rfl,(blk_cell BK307.out 4).trans rfl⟩ (fun hHeld=>?_)
     clear hK K
     refine norm_ (a':=?_) ?_ ?_
     rotate_left
     ·show Act.put _ (some 24) _ = _
      simp only [Act.put,List.setIfInBounds_toArray,List.set_cons_zero,List.set_cons_succ,i64_w,i32_w]
      rfl
     refine one_ (i:=3) (N:=some 25) #[true,true,true,true,false] rfl rfl (by kernel_rfl) (by decide) (fun K hK=>?_)
     refine goes_ Try.func8 (by kernel_rfl) rfl #[.agg #[.int .i64 t319,.int .i64 t320,.string t321,.slice Ao39 t322.length co39,.slice Ao40 t325.length co40],.agg #[.int .i64 t330,.int .i64 t331,.string t332,.slice Ao44 t333.length co44,.slice Ao45 t336.length co45]] (by rfl) rfl rfl (by (try simp only [List.map_toArray,List.map_cons,List.map_nil]);first|done|rfl|(simp only [List.length_drop,List.length_take];rfl)) ?_
     with_reducible refine (laws_eqExpr.calls kj2 t319 t320 t321 _ _ t322 _ _ t325 t330 t331 t332 _ _ t333 _ _ t336 true _ ?side1 ?side2 ?side3 ?side4 ?side5 ?side6 ?side7 ?side8 A27.out).mono ?_
     (case side1=>repeat (first|exact (Kd.R_reads' HO324.out).2.2|(with_reducible refine Kd.C_alloc ?_ _)|(with_reducible refine Kd.C_drewN ?_ _)|(with_reducible refine Kd.C_drew ?_)))
     (case side2=>exact (Kd.R_reads' HO324.out).2.1)
     (case side3=>repeat (first|exact (Kd.R_reads' HO327.out).2.2|(with_reducible refine Kd.C_alloc ?_ _)|(with_reducible refine Kd.C_drewN ?_ _)|(with_reducible refine Kd.C_drew ?_)))
     (case side4=>exact (Kd.R_reads' HO327.out).2.1)
     (case side5=>repeat (first|exact (Kd.R_reads' HO335.out).2.2|(with_reducible refine Kd.C_alloc ?_ _)|(with_reducible refine Kd.C_drewN ?_ _)|(with_reducible refine Kd.C_drew ?_)))
     (case side6=>exact (Kd.R_reads' HO335.out).2.1)
     (case side7=>repeat (first|exact (Kd.R_reads' HO338.out).2.2|(with_reducible refine Kd.C_alloc ?_ _)|(with_reducible refine Kd.C_drewN ?_ _)|(with_reducible refine Kd.C_drew ?_)))
     (case side8=>exact (Kd.R_reads' HO338.out).2.1)
     rintro e w46 ⟨rfl,hb⟩
     refine ⟨_,rfl,?_⟩
     have n0_:=Aside0.mk (Kd.R_below (by (with_reducible repeat (first|apply Kd.R_alloc|apply Kd.R_drewN|apply Kd.R_drew));exact HO314.out) hb)
     have n1_:=Aside0.mk (Kd.R_below (by (with_reducible repeat (first|apply Kd.R_alloc|apply Kd.R_drewN|apply Kd.R_drew));exact HO317.out) hb)
     have n2_:=Aside0.mk (Kd.R_below (by (with_reducible repeat (first|apply Kd.R_alloc|apply Kd.R_drewN|apply Kd.R_drew));exact HO324.out) hb)
     have n3_:=Aside0.mk (Kd.R_below (by (with_reducible repeat (first|apply Kd.R_alloc|apply Kd.R_drewN|apply Kd.R_drew));exact HO327.out) hb)
     have n4_:=Aside0.mk (Kd.R_below (by (with_reducible repeat (first|apply Kd.R_alloc|apply Kd.R_drewN|apply Kd.R_drew));exact HO335.out) hb)
     have n5_:=Aside0.mk (Kd.R_below (by (with_reducible repeat (first|apply Kd.R_alloc|apply Kd.R_drewN|apply Kd.R_drew));exact HO338.out) hb)
     have n6_:=Aside0.mk (blk_below (g:=gb307) (o:=.cells #[.int .i64 a0_0,.int .i64 a0_1,.string a0_2,.slice A0_3 l0_3.length c0_3,.slice A0_4 l0_4.length c0_4] 25 (0,0)) (by (with_reducible repeat (first|refine blk_drewN ?_ _|refine blk_drew ?_|refine blk_alloc ?_ _));exact BK307.out) hb)
     have n7_:=Aside0.mk (blk_below (g:=gb328) (o:=.cells #[.int .i64 t319,.int .i64 t320,.string t321,.slice Ao39 t322.length co39,.slice Ao40 t325.length co40] 31 (0,0)) (by (with_reducible repeat (first|refine blk_drewN ?_ _|refine blk_drew ?_|refine blk_alloc ?_ _));exact BK328.out) hb)
     have n8_:=Aside0.mk (below_step (by repeat (first|(with_reducible first|exact HB.out|apply below_alloc|apply pw_below_drewN|apply below_drew1|refine below_set ?_ GE307.out|refine below_set ?_ GE328.out)|exact HB.out)) hb)
     clear HO314
     clear HO317
     clear HO324
     clear HO327
     clear HO335
     clear HO338
     clear BK307
     clear BK328
     clear HB
     have HO314:=n0_
     have HO317:=n1_
     have HO324:=n2_
     have HO327:=n3_
     have HO335:=n4_
     have HO338:=n5_
     have BK307:=n6_
     have BK328:=n7_
     have HB:=n8_
     clear n0_ n1_ n2_ n3_ n4_ n5_ n6_ n7_ n8_
     (try clear hb)
     (try clear hb2)
     (try clear hk)
     (try clear hi)
     refine hK.out _ _ ⟨(blk_cell BK328.out 0).trans rfl,(blk_cell BK328.out 1).trans rfl,(blk_cell BK328.out 2).trans rfl,(blk_cell BK328.out 3).trans rfl,(blk_cell BK328.out 4).trans rfl,(blk_cell BK307.out 0).trans rfl,(blk_cell BK307.out 1).trans rfl,(blk_cell BK307.out 2).trans rfl,(blk_cell BK307.out 3).trans rfl,(blk_cell BK307.out 4).trans rfl⟩ (fun hHeld=>?_)
     clear hK K
     refine norm_ (a':=?_) ?_ ?_
     rotate_left
     ·show Act.put _ (some 25) _ = _
      simp only [Act.put,List.setIfInBounds_toArray,List.set_cons_zero,List.set_cons_succ,i64_w,i32_w]
      rfl
     refine pure_ (i:=4) (N:=some 26) (v:=?_) (a':=?_) #[true,true,true,true,true] rfl rfl (by kernel_rfl) (fun _ _ _ h=>h) (Or.inl ⟨by rfl,?_⟩) ?_ ?_
     rotate_left
     ·intro w'
      go_simp
      with_reducible rfl
     rotate_left
     ·simp only [Act.put,List.setIfInBounds_toArray,List.set_cons_zero,List.set_cons_succ,i64_w,i32_w]
      rfl
     refine done_ (by kernel_rfl) ?_
     try go_wp2
     go_ret
     exact ⟨by first|rfl|(simp [*,errW_none,errW_some] <;> rfl),by repeat (first|(with_reducible first|exact HB.out|apply below_alloc|apply pw_below_drewN|apply below_drew1|refine below_set ?_ GE307.out|refine below_set ?_ GE328.out)|exact HB.out)⟩
    ·replace c28:=Bool.eq_false_iff.mpr c28
     subst c28
     have H1:(some false) = some r:=by rw [if_neg (show ¬ (false = true) by decide)] at H;exact H
     clear H
     have H:=H1
     clear H1
     obtain rfl:=Option.some.inj H
     have hcz47_0:wc.cell? ⟨gb307,0,none⟩ = some (.int .i64 a0_0):=(blk_cell BK307.out 0).trans rfl
     have hcz47_1:wc.cell? ⟨gb307,1,none⟩ = some (.int .i64 a0_1):=(blk_cell BK307.out 1).trans rfl
     have hcz47_2:wc.cell? ⟨gb307,2,none⟩ = some (.string a0_2):=(blk_cell BK307.out 2).trans rfl
     have hcz47_3:wc.cell? ⟨gb307,3,none⟩ = some (.slice A0_3 l0_3.length c0_3):=(blk_cell BK307.out 3).trans rfl
     have hcz47_4:wc.cell? ⟨gb307,4,none⟩ = some (.slice A0_4 l0_4.length c0_4):=(blk_cell BK307.out 4).trans rfl
     have hfz47_0:=blk_frozen BK307.out 0
     have hfz47_1:=blk_frozen BK307.out 1
     have hfz47_2:=blk_frozen BK307.out 2
     have hfz47_3:=blk_frozen BK307.out 3
     have hfz47_4:=blk_frozen BK307.out 4
     try go_wp2_with (first|((with_reducible refine gate_callee (f:=6) rfl ?_);refine goesL_ (some 13) rfl rfl Try.func6 (by kernel_rfl) rfl #[.agg #[.int .i64 a0_0,.int .i64 a0_1,.string a0_2,.slice A0_3 l0_3.length c0_3,.slice A0_4 l0_4.length c0_4]] rfl (by (try simp only [List.map_toArray,List.map_cons,List.map_nil]);first|done|rfl|(simp only [List.length_drop,List.length_take];rfl)) ?_;(with_reducible refine (laws_toExpr.calls kj2 a0_0 a0_1 a0_2 _ _ l0_3 _ _ l0_4 t309 t310 t311 t312 t315 _ ?side1 ?side2 ?side3 ?side4 A8.out).mono ?_);(case side1=>repeat (first|exact (Kd.C_below HR0_3.out HB.out)|(with_reducible refine Kd.C_alloc ?_ _)|(with_reducible refine Kd.C_drewN ?_ _)|(with_reducible refine Kd.C_drew ?_)));(case side2=>exact HC0_3.out);(case side3=>repeat (first|exact (Kd.C_below HR0_4.out HB.out)|(with_reducible refine Kd.C_alloc ?_ _)|(with_reducible refine Kd.C_drewN ?_ _)|(with_reducible refine Kd.C_drew ?_)));(case side4=>exact HC0_4.out);rintro e w48 ⟨v313,v316,rfl,ho0,ho1,hb⟩;refine ⟨_,rfl,?_⟩;have n0_:=Aside0.mk (Kd.R_lower ho0 (below_size (by repeat (first|(with_reducible first|exact HB.out|apply below_alloc|apply pw_below_drewN|apply below_drew1|refine below_set ?_ GE307.out)|exact HB.out))));have n1_:=Aside0.mk (Kd.R_lower ho1 (below_size (by repeat (first|(with_reducible first|exact HB.out|apply below_alloc|apply pw_below_drewN|apply below_drew1|refine below_set ?_ GE307.out)|exact HB.out))));have n2_:=Aside0.mk (blk_below (g:=gb307) (o:=.cells #[.int .i64 a0_0,.int .i64 a0_1,.string a0_2,.slice A0_3 l0_3.length c0_3,.slice A0_4 l0_4.length c0_4] 25 (0,0)) (by (with_reducible repeat (first|refine blk_drewN ?_ _|refine blk_drew ?_|refine blk_alloc ?_ _));exact BK307.out) hb);have n3_:=Aside0.mk (below_step (by repeat (first|(with_reducible first|exact HB.out|apply below_alloc|apply pw_below_drewN|apply below_drew1|refine below_set ?_ GE307.out)|exact HB.out)) hb);clear BK307;clear HB;have HO314:=n0_;have HO317:=n1_;have BK307:=n2_;have HB:=n3_;clear n0_ n1_ n2_ n3_;(try clear hb);(try clear hb2);(try clear hk);(try clear hi);(try clear ho0);(try clear ho1);obtain ⟨Ao49,co49,eo49⟩:=Kd.R_slice HO314.out;subst eo49;obtain ⟨Ao50,co50,eo50⟩:=Kd.R_slice HO317.out;subst eo50)|((with_reducible refine gate_callee (f:=5) rfl ?_);refine goesL_ (some 14) rfl rfl Try.func5 (by kernel_rfl) rfl #[.agg #[.int .i64 t309,.int .i64 t310,.string t311,.slice Ao49 t312.length co49,.slice Ao50 t315.length co50]] rfl (by (try simp only [List.map_toArray,List.map_cons,List.map_nil]);first|done|rfl|(simp only [List.length_drop,List.length_take];rfl)) ?_;(with_reducible refine (spec_ExprOk.calls kj2 t309 t310 t311 _ _ t312 _ _ t315 t318 _ ?side1 ?side2 ?side3 ?side4 A9.out).mono ?_);(case side1=>repeat (first|exact (Kd.R_reads' HO314.out).2.2|(with_reducible refine Kd.C_alloc ?_ _)|(with_reducible refine Kd.C_drewN ?_ _)|(with_reducible refine Kd.C_drew ?_)));(case side2=>exact (Kd.R_reads' HO314.out).2.1);(case side3=>repeat (first|exact (Kd.R_reads' HO317.out).2.2|(with_reducible refine Kd.C_alloc ?_ _)|(with_reducible refine Kd.C_drewN ?_ _)|(with_reducible refine Kd.C_drew ?_)));(case side4=>exact (Kd.R_reads' HO317.out).2.1);rintro e w51 ⟨rfl,hb⟩;refine ⟨_,rfl,?_⟩;have n0_:=Aside0.mk (Kd.R_below (by (with_reducible repeat (first|apply Kd.R_alloc|apply Kd.R_drewN|apply Kd.R_drew));exact HO314.out) hb);have n1_:=Aside0.mk (Kd.R_below (by (with_reducible repeat (first|apply Kd.R_alloc|apply Kd.R_drewN|apply Kd.R_drew));exact HO317.out) hb);have n2_:=Aside0.mk (blk_below (g:=gb307) (o:=.cells #[.int .i64 a0_0,.int .i64 a0_1,.string a0_2,.slice A0_3 l0_3.length c0_3,.slice A0_4 l0_4.length c0_4] 25 (0,0)) (by (with_reducible repeat (first|refine blk_drewN ?_ _|refine blk_drew ?_|refine blk_alloc ?_ _));exact BK307.out) hb);have n3_:=Aside0.mk (below_step (by repeat (first|(with_reducible first|exact HB.out|apply below_alloc|apply pw_below_drewN|apply below_drew1|refine below_set ?_ GE307.out)|exact HB.out)) hb);clear HO314;clear HO317;clear BK307;clear HB;have HO314:=n0_;have HO317:=n1_;have BK307:=n2_;have HB:=n3_;clear n0_ n1_ n2_ n3_;(try clear hb);(try clear hb2);(try clear hk);(try clear hi);have hcz52_0:w51.cell? ⟨gb307,0,none⟩ = some (.int .i64 a0_0):=(blk_cell BK307.out 0).trans rfl;have hcz52_1:w51.cell? ⟨gb307,1,none⟩ = some (.int .i64 a0_1):=(blk_cell BK307.out 1).trans rfl;have hcz52_2:w51.cell? ⟨gb307,2,none⟩ = some (.string a0_2):=(blk_cell BK307.out 2).trans rfl;have hcz52_3:w51.cell? ⟨gb307,3,none⟩ = some (.slice A0_3 l0_3.length c0_3):=(blk_cell BK307.out 3).trans rfl;have hcz52_4:w51.cell? ⟨gb307,4,none⟩ = some (.slice A0_4 l0_4.length c0_4):=(blk_cell BK307.out 4).trans rfl;have hfz52_0:=blk_frozen BK307.out 0;have hfz52_1:=blk_frozen BK307.out 1;have hfz52_2:=blk_frozen BK307.out 2;have hfz52_3:=blk_frozen BK307.out 3;have hfz52_4:=blk_frozen BK307.out 4)|((with_reducible refine gate_callee (f:=6) rfl ?_);refine goesL_ (some 16) rfl rfl Try.func6 (by kernel_rfl) rfl #[.agg #[.int .i64 a0_0,.int .i64 a0_1,.string a0_2,.slice A0_3 l0_3.length c0_3,.slice A0_4 l0_4.length c0_4]] rfl (by (try simp only [List.map_toArray,List.map_cons,List.map_nil]);first|done|rfl|(simp only [List.length_drop,List.length_take];rfl)) ?_;(with_reducible refine (laws_toExpr.calls kj2 a0_0 a0_1 a0_2 _ _ l0_3 _ _ l0_4 t319 t320 t321 t322 t325 _ ?side1 ?side2 ?side3 ?side4 A10.out).mono ?_);(case side1=>repeat (first|exact (Kd.C_below HR0_3.out HB.out)|(with_reducible refine Kd.C_alloc ?_ _)|(with_reducible refine Kd.C_drewN ?_ _)|(with_reducible refine Kd.C_drew ?_)));(case side2=>exact HC0_3.out);(case side3=>repeat (first|exact (Kd.C_below HR0_4.out HB.out)|(with_reducible refine Kd.C_alloc ?_ _)|(with_reducible refine Kd.C_drewN ?_ _)|(with_reducible refine Kd.C_drew ?_)));(case side4=>exact HC0_4.out);rintro e w53 ⟨v323,v326,rfl,ho0,ho1,hb⟩;refine ⟨_,rfl,?_⟩;have n0_:=Aside0.mk (Kd.R_mono (Kd.R_told (Kd.R_told (Kd.R_old (by (with_reducible repeat (first|apply Kd.R_alloc|apply Kd.R_drewN|apply Kd.R_drew));exact HO314.out) hb) (Kd.R_base ho0)) (Kd.R_base ho1)) (fun _ h_=>h_.1));have n1_:=Aside0.mk (Kd.R_mono (Kd.R_told (Kd.R_told (Kd.R_old (by (with_reducible repeat (first|apply Kd.R_alloc|apply Kd.R_drewN|apply Kd.R_drew));exact HO317.out) hb) (Kd.R_base ho0)) (Kd.R_base ho1)) (fun _ h_=>h_.1));have n2_:=Aside0.mk (Kd.R_lower (Kd.R_new' (Kd.R_new' ho0 (Kd.R_lt (by (with_reducible repeat (first|apply Kd.R_alloc|apply Kd.R_drewN|apply Kd.R_drew));exact HO314.out))) (Kd.R_lt (by (with_reducible repeat (first|apply Kd.R_alloc|apply Kd.R_drewN|apply Kd.R_drew));exact HO317.out))) (below_size (by repeat (first|(with_reducible first|exact HB.out|apply below_alloc|apply pw_below_drewN|apply below_drew1|refine below_set ?_ GE307.out)|exact HB.out))));have n3_:=Aside0.mk (Kd.R_lower (Kd.R_new' (Kd.R_new' ho1 (Kd.R_lt (by (with_reducible repeat (first|apply Kd.R_alloc|apply Kd.R_drewN|apply Kd.R_drew));exact HO314.out))) (Kd.R_lt (by (with_reducible repeat (first|apply Kd.R_alloc|apply Kd.R_drewN|apply Kd.R_drew));exact HO317.out))) (below_size (by repeat (first|(with_reducible first|exact HB.out|apply below_alloc|apply pw_below_drewN|apply below_drew1|refine below_set ?_ GE307.out)|exact HB.out))));have n4_:=Aside0.mk (blk_below (g:=gb307) (o:=.cells #[.int .i64 a0_0,.int .i64 a0_1,.string a0_2,.slice A0_3 l0_3.length c0_3,.slice A0_4 l0_4.length c0_4] 25 (0,0)) (by (with_reducible repeat (first|refine blk_drewN ?_ _|refine blk_drew ?_|refine blk_alloc ?_ _));exact BK307.out) hb);have n5_:=Aside0.mk (below_step (by repeat (first|(with_reducible first|exact HB.out|apply below_alloc|apply pw_below_drewN|apply below_drew1|refine below_set ?_ GE307.out)|exact HB.out)) hb);clear HO314;clear HO317;clear BK307;clear HB;have HO314:=n0_;have HO317:=n1_;have HO324:=n2_;have HO327:=n3_;have BK307:=n4_;have HB:=n5_;clear n0_ n1_ n2_ n3_ n4_ n5_;(try clear hb);(try clear hb2);(try clear hk);(try clear hi);(try clear ho0);(try clear ho1))|((with_reducible refine gate_dst (N:=5) rfl ?_);refine box_event ?hg (N:=5) ?hd (cs:=#[.int .i64 0,.int .i64 0,.string (⟨#[]⟩:ByteArray),.slice none 0 0,.slice none 0 0]) (t:=31) ?hr ?_;(case hd=>rfl);(case hg=>rfl);(case hr=>first|(go_simp;done)|(go_simp;rfl));intro gb328 hg w54 hbox hb;have n0_:=Aside0.mk (Kd.R_below (Kd.R_elderB (by (with_reducible repeat (first|apply Kd.R_alloc|apply Kd.R_drewN|apply Kd.R_drew));exact HO314.out) gb328 (Nat.le_of_eq hg.symm)) hb);have n1_:=Aside0.mk (Kd.R_below (Kd.R_elderB (by (with_reducible repeat (first|apply Kd.R_alloc|apply Kd.R_drewN|apply Kd.R_drew));exact HO317.out) gb328 (Nat.le_of_eq hg.symm)) hb);have n2_:=Aside0.mk (Kd.R_below (Kd.R_elderB (by (with_reducible repeat (first|apply Kd.R_alloc|apply Kd.R_drewN|apply Kd.R_drew));exact HO324.out) gb328 (Nat.le_of_eq hg.symm)) hb);have n3_:=Aside0.mk (Kd.R_below (Kd.R_elderB (by (with_reducible repeat (first|apply Kd.R_alloc|apply Kd.R_drewN|apply Kd.R_drew));exact HO327.out) gb328 (Nat.le_of_eq hg.symm)) hb);have n4_:=Aside0.mk (blk_below (g:=gb307) (o:=.cells #[.int .i64 a0_0,.int .i64 a0_1,.string a0_2,.slice A0_3 l0_3.length c0_3,.slice A0_4 l0_4.length c0_4] 25 (0,0)) (by (with_reducible repeat (first|refine blk_drewN ?_ _|refine blk_drew ?_|refine blk_alloc ?_ _));exact BK307.out) hb);have n5_:=Aside0.mk (below_step (by repeat (first|(with_reducible first|exact HB.out|apply below_alloc|apply pw_below_drewN|apply below_drew1|refine below_set ?_ GE307.out)|exact HB.out)) hb);have n6_:=Aside0.mk (hbox);have n7_:=Aside0.mk ((by rw [hg];exact (below_size (by repeat (first|(with_reducible first|exact HB.out|apply below_alloc|apply pw_below_drewN|apply below_drew1|refine below_set ?_ GE307.out)|exact HB.out))):w.heap.size≤gb328));have n8_:=Aside0.mk ((by rw [hg];exact (below_size (by repeat (first|(with_reducible first|exact HB.out|apply below_alloc|apply pw_below_drewN|apply below_drew1|refine below_set ?_ GE307.out)|exact HB.out))):w.heap.size≤gb328));have n9_:=Aside0.mk ((by rw [hg];exact Nat.ne_of_lt (blk_lt (g:=gb307) (o:=.cells #[.int .i64 a0_0,.int .i64 a0_1,.string a0_2,.slice A0_3 l0_3.length c0_3,.slice A0_4 l0_4.length c0_4] 25 (0,0)) (by (with_reducible repeat (first|refine blk_drewN ?_ _|refine blk_drew ?_|refine blk_alloc ?_ _));exact BK307.out)):gb307≠gb328));have n10_:=Aside0.mk ((by rw [hg];exact Nat.ne_of_gt (blk_lt (g:=gb307) (o:=.cells #[.int .i64 a0_0,.int .i64 a0_1,.string a0_2,.slice A0_3 l0_3.length c0_3,.slice A0_4 l0_4.length c0_4] 25 (0,0)) (by (with_reducible repeat (first|refine blk_drewN ?_ _|refine blk_drew ?_|refine blk_alloc ?_ _));exact BK307.out)):gb328≠gb307));clear HO314;clear HO317;clear HO324;clear HO327;clear BK307;clear HB;have HO314:=n0_;have HO317:=n1_;have HO324:=n2_;have HO327:=n3_;have BK307:=n4_;have HB:=n5_;have BK328:=n6_;have GW328:=n7_;have GE328:=n8_;have NB307_328:=n9_;have NB328_307:=n10_;clear n0_ n1_ n2_ n3_ n4_ n5_ n6_ n7_ n8_ n9_ n10_;clear hb hbox hg;have hnb55:=NB328_307.out;have hnc55:=NB307_328.out;have hcz56_0:w54.cell? ⟨gb328,0,none⟩ = some (.int .i64 0):=(blk_cell BK328.out 0).trans rfl;have hcz56_1:w54.cell? ⟨gb328,1,none⟩ = some (.int .i64 0):=(blk_cell BK328.out 1).trans rfl;have hcz56_2:w54.cell? ⟨gb328,2,none⟩ = some (.string (⟨#[]⟩:ByteArray)):=(blk_cell BK328.out 2).trans rfl;have hcz56_3:w54.cell? ⟨gb328,3,none⟩ = some (.slice none 0 0):=(blk_cell BK328.out 3).trans rfl;have hcz56_4:w54.cell? ⟨gb328,4,none⟩ = some (.slice none 0 0):=(blk_cell BK328.out 4).trans rfl;have hfz56_0:=blk_frozen BK328.out 0;have hfz56_1:=blk_frozen BK328.out 1;have hfz56_2:=blk_frozen BK328.out 2;have hfz56_3:=blk_frozen BK328.out 3;have hfz56_4:=blk_frozen BK328.out 4;obtain ⟨Ao57,co57,eo57⟩:=Kd.R_slice HO324.out;subst eo57;obtain ⟨Ao58,co58,eo58⟩:=Kd.R_slice HO327.out;subst eo58)|((with_reducible refine gate_callee (f:=7) rfl ?_);refine goesL_ (some 18) rfl rfl Try.func7 (by kernel_rfl) rfl #[.agg #[.int .i64 t319,.int .i64 t320,.string t321,.slice Ao57 t322.length co57,.slice Ao58 t325.length co58]] rfl (by (try simp only [List.map_toArray,List.map_cons,List.map_nil]);first|done|rfl|(simp only [List.length_drop,List.length_take];rfl)) ?_;(with_reducible refine (impl_ExprOk.calls kj2 t319 t320 t321 _ _ t322 _ _ t325 t329 _ ?side1 ?side2 ?side3 ?side4 A11.out).mono ?_);(case side1=>refine (Kd.R_reads' (e:=31) (base:=w.heap.size) (ok:=fun k_=>(((some k_≠(.slice Ao58 t325.length co58:Value).ownBlock∧some k_≠(.slice Ao49 t312.length co49:Value).ownBlock)∧some k_≠(.slice Ao50 t315.length co50:Value).ownBlock)∧k_≠gb328)) (n:=t322.length) (c:=co57) ?_).2.2;exact (by (with_reducible repeat (first|apply Kd.R_alloc|apply Kd.R_drewN|apply Kd.R_drew));exact (Kd.R_mono (Kd.R_far (p:=⟨gb328,4,none⟩) (Kd.R_far (p:=⟨gb328,3,none⟩) (Kd.R_far (p:=⟨gb328,2,none⟩) (Kd.R_far (p:=⟨gb328,1,none⟩) (Kd.R_far (p:=⟨gb328,0,none⟩) (Kd.R_mono HO324.out (fun k_ hk=>(⟨hk,hk.2⟩:_∧k_≠gb328))) (fun _ hk=>hk.2) (.int .i64 t319)) (fun _ hk=>hk.2) (.int .i64 t320)) (fun _ hk=>hk.2) (.string t321)) (fun _ hk=>hk.2) (.slice Ao57 t322.length co57)) (fun _ hk=>hk.2) (.slice Ao58 t325.length co58)) (fun _ h_=>h_.1))));(case side2=>exact (Kd.R_reads' HO324.out).2.1);(case side3=>refine (Kd.R_reads' (e:=53) (base:=w.heap.size) (ok:=fun k_=>(((some k_≠(.slice Ao57 t322.length co57:Value).ownBlock∧some k_≠(.slice Ao49 t312.length co49:Value).ownBlock)∧some k_≠(.slice Ao50 t315.length co50:Value).ownBlock)∧k_≠gb328)) (n:=t325.length) (c:=co58) ?_).2.2;exact (by (with_reducible repeat (first|apply Kd.R_alloc|apply Kd.R_drewN|apply Kd.R_drew));exact (Kd.R_mono (Kd.R_far (p:=⟨gb328,4,none⟩) (Kd.R_far (p:=⟨gb328,3,none⟩) (Kd.R_far (p:=⟨gb328,2,none⟩) (Kd.R_far (p:=⟨gb328,1,none⟩) (Kd.R_far (p:=⟨gb328,0,none⟩) (Kd.R_mono HO327.out (fun k_ hk=>(⟨hk,hk.2⟩:_∧k_≠gb328))) (fun _ hk=>hk.2) (.int .i64 t319)) (fun _ hk=>hk.2) (.int .i64 t320)) (fun _ hk=>hk.2) (.string t321)) (fun _ hk=>hk.2) (.slice Ao57 t322.length co57)) (fun _ hk=>hk.2) (.slice Ao58 t325.length co58)) (fun _ h_=>h_.1))));(case side4=>exact (Kd.R_reads' HO327.out).2.1);rintro e w59 ⟨rfl,hb⟩;refine ⟨_,rfl,?_⟩;have n0_:=Aside0.mk (Kd.R_below (by (with_reducible repeat (first|apply Kd.R_alloc|apply Kd.R_drewN|apply Kd.R_drew));exact (Kd.R_mono (Kd.R_far (p:=⟨gb328,4,none⟩) (Kd.R_far (p:=⟨gb328,3,none⟩) (Kd.R_far (p:=⟨gb328,2,none⟩) (Kd.R_far (p:=⟨gb328,1,none⟩) (Kd.R_far (p:=⟨gb328,0,none⟩) (Kd.R_mono HO314.out (fun k_ hk=>(⟨hk,hk.2⟩:_∧k_≠gb328))) (fun _ hk=>hk.2) (.int .i64 t319)) (fun _ hk=>hk.2) (.int .i64 t320)) (fun _ hk=>hk.2) (.string t321)) (fun _ hk=>hk.2) (.slice Ao57 t322.length co57)) (fun _ hk=>hk.2) (.slice Ao58 t325.length co58)) (fun _ h_=>h_.1))) hb);have n1_:=Aside0.mk (Kd.R_below (by (with_reducible repeat (first|apply Kd.R_alloc|apply Kd.R_drewN|apply Kd.R_drew));exact (Kd.R_mono (Kd.R_far (p:=⟨gb328,4,none⟩) (Kd.R_far (p:=⟨gb328,3,none⟩) (Kd.R_far (p:=⟨gb328,2,none⟩) (Kd.R_far (p:=⟨gb328,1,none⟩) (Kd.R_far (p:=⟨gb328,0,none⟩) (Kd.R_mono HO317.out (fun k_ hk=>(⟨hk,hk.2⟩:_∧k_≠gb328))) (fun _ hk=>hk.2) (.int .i64 t319)) (fun _ hk=>hk.2) (.int .i64 t320)) (fun _ hk=>hk.2) (.string t321)) (fun _ hk=>hk.2) (.slice Ao57 t322.length co57)) (fun _ hk=>hk.2) (.slice Ao58 t325.length co58)) (fun _ h_=>h_.1))) hb);have n2_:=Aside0.mk (Kd.R_below (by (with_reducible repeat (first|apply Kd.R_alloc|apply Kd.R_drewN|apply Kd.R_drew));exact (Kd.R_mono (Kd.R_far (p:=⟨gb328,4,none⟩) (Kd.R_far (p:=⟨gb328,3,none⟩) (Kd.R_far (p:=⟨gb328,2,none⟩) (Kd.R_far (p:=⟨gb328,1,none⟩) (Kd.R_far (p:=⟨gb328,0,none⟩) (Kd.R_mono HO324.out (fun k_ hk=>(⟨hk,hk.2⟩:_∧k_≠gb328))) (fun _ hk=>hk.2) (.int .i64 t319)) (fun _ hk=>hk.2) (.int .i64 t320)) (fun _ hk=>hk.2) (.string t321)) (fun _ hk=>hk.2) (.slice Ao57 t322.length co57)) (fun _ hk=>hk.2) (.slice Ao58 t325.length co58)) (fun _ h_=>h_.1))) hb);have n3_:=Aside0.mk (Kd.R_below (by (with_reducible repeat (first|apply Kd.R_alloc|apply Kd.R_drewN|apply Kd.R_drew));exact (Kd.R_mono (Kd.R_far (p:=⟨gb328,4,none⟩) (Kd.R_far (p:=⟨gb328,3,none⟩) (Kd.R_far (p:=⟨gb328,2,none⟩) (Kd.R_far (p:=⟨gb328,1,none⟩) (Kd.R_far (p:=⟨gb328,0,none⟩) (Kd.R_mono HO327.out (fun k_ hk=>(⟨hk,hk.2⟩:_∧k_≠gb328))) (fun _ hk=>hk.2) (.int .i64 t319)) (fun _ hk=>hk.2) (.int .i64 t320)) (fun _ hk=>hk.2) (.string t321)) (fun _ hk=>hk.2) (.slice Ao57 t322.length co57)) (fun _ hk=>hk.2) (.slice Ao58 t325.length co58)) (fun _ h_=>h_.1))) hb);have n4_:=Aside0.mk (blk_below (g:=gb307) (o:=.cells #[.int .i64 a0_0,.int .i64 a0_1,.string a0_2,.slice A0_3 l0_3.length c0_3,.slice A0_4 l0_4.length c0_4] 25 (0,0)) (by (with_reducible repeat (first|refine blk_drewN ?_ _|refine blk_drew ?_|refine blk_alloc ?_ _));refine blk_far ?_ NB307_328.out _;(with_reducible repeat (first|refine blk_drewN ?_ _|refine blk_drew ?_|refine blk_alloc ?_ _));refine blk_far ?_ NB307_328.out _;(with_reducible repeat (first|refine blk_drewN ?_ _|refine blk_drew ?_|refine blk_alloc ?_ _));refine blk_far ?_ NB307_328.out _;(with_reducible repeat (first|refine blk_drewN ?_ _|refine blk_drew ?_|refine blk_alloc ?_ _));refine blk_far ?_ NB307_328.out _;(with_reducible repeat (first|refine blk_drewN ?_ _|refine blk_drew ?_|refine blk_alloc ?_ _));refine blk_far ?_ NB307_328.out _;(with_reducible repeat (first|refine blk_drewN ?_ _|refine blk_drew ?_|refine blk_alloc ?_ _));exact BK307.out) hb);have n5_:=Aside0.mk (blk_below (g:=gb328) (o:=.cells #[.int .i64 t319,.int .i64 t320,.string t321,.slice Ao57 t322.length co57,.slice Ao58 t325.length co58] 31 (0,0)) (by (with_reducible repeat (first|refine blk_drewN ?_ _|refine blk_drew ?_|refine blk_alloc ?_ _));refine blk_put (cs:=#[.int .i64 t319,.int .i64 t320,.string t321,.slice Ao57 t322.length co57,.slice none 0 0]) ?_ 4 _ rfl;(with_reducible repeat (first|refine blk_drewN ?_ _|refine blk_drew ?_|refine blk_alloc ?_ _));refine blk_put (cs:=#[.int .i64 t319,.int .i64 t320,.string t321,.slice none 0 0,.slice none 0 0]) ?_ 3 _ rfl;(with_reducible repeat (first|refine blk_drewN ?_ _|refine blk_drew ?_|refine blk_alloc ?_ _));refine blk_put (cs:=#[.int .i64 t319,.int .i64 t320,.string (⟨#[]⟩:ByteArray),.slice none 0 0,.slice none 0 0]) ?_ 2 _ rfl;(with_reducible repeat (first|refine blk_drewN ?_ _|refine blk_drew ?_|refine blk_alloc ?_ _));refine blk_put (cs:=#[.int .i64 t319,.int .i64 0,.string (⟨#[]⟩:ByteArray),.slice none 0 0,.slice none 0 0]) ?_ 1 _ rfl;(with_reducible repeat (first|refine blk_drewN ?_ _|refine blk_drew ?_|refine blk_alloc ?_ _));refine blk_put (cs:=#[.int .i64 0,.int .i64 0,.string (⟨#[]⟩:ByteArray),.slice none 0 0,.slice none 0 0]) ?_ 0 _ rfl;(with_reducible repeat (first|refine blk_drewN ?_ _|refine blk_drew ?_|refine blk_alloc ?_ _));exact BK328.out) hb);have n6_:=Aside0.mk (below_step (by repeat (first|(with_reducible first|exact HB.out|apply below_alloc|apply pw_below_drewN|apply below_drew1|refine below_set ?_ GE307.out|refine below_set ?_ GE328.out)|exact HB.out)) hb);clear HO314;clear HO317;clear HO324;clear HO327;clear BK307;clear BK328;clear HB;have HO314:=n0_;have HO317:=n1_;have HO324:=n2_;have HO327:=n3_;have BK307:=n4_;have BK328:=n5_;have HB:=n6_;clear n0_ n1_ n2_ n3_ n4_ n5_ n6_;(try clear hb);(try clear hb2);(try clear hk);(try clear hi)))
     have n0_:=Aside0.mk (Kd.R_drew HO314.out)
     have n1_:=Aside0.mk (Kd.R_drew HO317.out)
     have n2_:=Aside0.mk (Kd.R_drew HO324.out)
     have n3_:=Aside0.mk (Kd.R_drew HO327.out)
     have n4_:=Aside0.mk (blk_drew BK307.out)
     have n5_:=Aside0.mk (blk_drew BK328.out)
     have n6_:=Aside0.mk (below_drew1 HB.out)
     clear HO314
     clear HO317
     clear HO324
     clear HO327
     clear BK307
     clear BK328
     clear HB
     have HO314:=n0_
     have HO317:=n1_
     have HO324:=n2_
     have HO327:=n3_
     have BK307:=n4_
     have BK328:=n5_
     have HB:=n6_
     clear n0_ n1_ n2_ n3_ n4_ n5_ n6_
     refine start_ (n:=5) (S:=fun w'=>w'.cell? ⟨gb328,0,none⟩ = some (.int .i64 t319)∧w'.cell? ⟨gb328,1,none⟩ = some (.int .i64 t320)∧w'.cell? ⟨gb328,2,none⟩ = some (.string t321)∧w'.cell? ⟨gb328,3,none⟩ = some (.slice Ao57 t322.length co57)∧w'.cell? ⟨gb328,4,none⟩ = some (.slice Ao58 t325.length co58)∧w'.cell? ⟨gb307,0,none⟩ = some (.int .i64 a0_0)∧w'.cell? ⟨gb307,1,none⟩ = some (.int .i64 a0_1)∧w'.cell? ⟨gb307,2,none⟩ = some (.string a0_2)∧w'.cell? ⟨gb307,3,none⟩ = some (.slice A0_3 l0_3.length c0_3)∧w'.cell? ⟨gb307,4,none⟩ = some (.slice A0_4 l0_4.length c0_4)) (ds:=[]) #[false,false,false,false,false] (by kernel_rfl) rfl rfl ⟨(blk_cell BK328.out 0).trans rfl,(blk_cell BK328.out 1).trans rfl,(blk_cell BK328.out 2).trans rfl,(blk_cell BK328.out 3).trans rfl,(blk_cell BK328.out 4).trans rfl,(blk_cell BK307.out 0).trans rfl,(blk_cell BK307.out 1).trans rfl,(blk_cell BK307.out 2).trans rfl,(blk_cell BK307.out 3).trans rfl,(blk_cell BK307.out 4).trans rfl⟩ (fun hHeld=>?_)
     generalize w59.drew = w60 at HO314 HO317 HO324 HO327 BK307 BK328 HB hHeld ⊢
     refine take_ (i:=0) (N:=some 22) (v:=?_) (a':=?_) #[true,false,false,false,false] rfl rfl (by kernel_rfl) (fun _ _ _ h=>h) (Or.inl ⟨by rfl,?_⟩) hHeld ?_ ?_
     rotate_left
     ·rintro w' ⟨s0,s1,s2,s3,s4,s5,s6,s7,s8,s9⟩
      go_simp
      with_reducible rfl
     rotate_left
     ·simp only [Act.put,List.setIfInBounds_toArray,List.set_cons_zero,List.set_cons_succ,i64_w,i32_w]
      rfl
     refine take_ (i:=1) (N:=some 23) (v:=?_) (a':=?_) #[true,true,false,false,false] rfl rfl (by kernel_rfl) (fun _ _ _ h=>h) (Or.inl ⟨by rfl,?_⟩) hHeld ?_ ?_
     rotate_left
     ·rintro w' ⟨s0,s1,s2,s3,s4,s5,s6,s7,s8,s9⟩
      go_simp
      with_reducible rfl
     rotate_left
     ·simp only [Act.put,List.setIfInBounds_toArray,List.set_cons_zero,List.set_cons_succ,i64_w,i32_w]
      rfl
     refine one_ (i:=2) (N:=some 24) #[true,true,true,false,false] rfl rfl (by kernel_rfl) (by decide) (fun K hK=>?_)
     refine goes_ Try.func6 (by kernel_rfl) rfl #[.agg #[.int .i64 a0_0,.int .i64 a0_1,.string a0_2,.slice A0_3 l0_3.length c0_3,.slice A0_4 l0_4.length c0_4]] (by rfl) rfl rfl (by (try simp only [List.map_toArray,List.map_cons,List.map_nil]);first|done|rfl|(simp only [List.length_drop,List.length_take];rfl)) ?_
     with_reducible refine (laws_toExpr.calls kj2 a0_0 a0_1 a0_2 _ _ l0_3 _ _ l0_4 t330 t331 t332 t333 t336 _ ?side1 ?side2 ?side3 ?side4 A26.out).mono ?_
     (case side1=>repeat (first|exact (Kd.C_below HR0_3.out HB.out)|(with_reducible refine Kd.C_alloc ?_ _)|(with_reducible refine Kd.C_drewN ?_ _)|(with_reducible refine Kd.C_drew ?_)))
     (case side2=>exact HC0_3.out)
     (case side3=>repeat (first|exact (Kd.C_below HR0_4.out HB.out)|(with_reducible refine Kd.C_alloc ?_ _)|(with_reducible refine Kd.C_drewN ?_ _)|(with_reducible refine Kd.C_drew ?_)))
     (case side4=>exact HC0_4.out)
     rintro e w61 ⟨v334,v337,rfl,ho0,ho1,hb⟩
     refine ⟨_,rfl,?_⟩
     have n0_:=Aside0.mk (Kd.R_mono (Kd.R_told (Kd.R_told (Kd.R_old (by (with_reducible repeat (first|apply Kd.R_alloc|apply Kd.R_drewN|apply Kd.R_drew));exact HO314.out) hb) (Kd.R_base ho0)) (Kd.R_base ho1)) (fun _ h_=>h_.1))
     have n1_:=Aside0.mk (Kd.R_mono (Kd.R_told (Kd.R_told (Kd.R_old (by (with_reducible repeat (first|apply Kd.R_alloc|apply Kd.R_drewN|apply Kd.R_drew));exact HO317.out) hb) (Kd.R_base ho0)) (Kd.R_base ho1)) (fun _ h_=>h_.1))
     have n2_:=Aside0.mk (Kd.R_mono (Kd.R_told (Kd.R_told (Kd.R_old (by (with_reducible repeat (first|apply Kd.R_alloc|apply Kd.R_drewN|apply Kd.R_drew));exact HO324.out) hb) (Kd.R_base ho0)) (Kd.R_base ho1)) (fun _ h_=>h_.1))
     have n3_:=Aside0.mk (Kd.R_mono (Kd.R_told (Kd.R_told (Kd.R_old (by (with_reducible repeat (first|apply Kd.R_alloc|apply Kd.R_drewN|apply Kd.R_drew));exact HO327.out) hb) (Kd.R_base ho0)) (Kd.R_base ho1)) (fun _ h_=>h_.1))
     have n4_:=Aside0.mk (Kd.R_lower (Kd.R_newB (Kd.R_new' (Kd.R_new' (Kd.R_new' (Kd.R_new' ho0 (Kd.R_lt (by (with_reducible repeat (first|apply Kd.R_alloc|apply Kd.R_drewN|apply Kd.R_drew));exact HO314.out))) (Kd.R_lt (by (with_reducible repeat (first|apply Kd.R_alloc|apply Kd.R_drewN|apply Kd.R_drew));exact HO317.out))) (Kd.R_lt (by (with_reducible repeat (first|apply Kd.R_alloc|apply Kd.R_drewN|apply Kd.R_drew));exact HO324.out))) (Kd.R_lt (by (with_reducible repeat (first|apply Kd.R_alloc|apply Kd.R_drewN|apply Kd.R_drew));exact HO327.out))) (g:=gb328) (o:=.cells #[.int .i64 t319,.int .i64 t320,.string t321,.slice Ao57 t322.length co57,.slice Ao58 t325.length co58] 31 (0,0)) (by (with_reducible repeat (first|refine blk_drewN ?_ _|refine blk_drew ?_|refine blk_alloc ?_ _));exact BK328.out)) (below_size (by repeat (first|(with_reducible first|exact HB.out|apply below_alloc|apply pw_below_drewN|apply below_drew1|refine below_set ?_ GE307.out|refine below_set ?_ GE328.out)|exact HB.out))))
     have n5_:=Aside0.mk (Kd.R_lower (Kd.R_newB (Kd.R_new' (Kd.R_new' (Kd.R_new' (Kd.R_new' ho1 (Kd.R_lt (by (with_reducible repeat (first|apply Kd.R_alloc|apply Kd.R_drewN|apply Kd.R_drew));exact HO314.out))) (Kd.R_lt (by (with_reducible repeat (first|apply Kd.R_alloc|apply Kd.R_drewN|apply Kd.R_drew));exact HO317.out))) (Kd.R_lt (by (with_reducible repeat (first|apply Kd.R_alloc|apply Kd.R_drewN|apply Kd.R_drew));exact HO324.out))) (Kd.R_lt (by (with_reducible repeat (first|apply Kd.R_alloc|apply Kd.R_drewN|apply Kd.R_drew));exact HO327.out))) (g:=gb328) (o:=.cells #[.int .i64 t319,.int .i64 t320,.string t321,.slice Ao57 t322.length co57,.slice Ao58 t325.length co58] 31 (0,0)) (by (with_reducible repeat (first|refine blk_drewN ?_ _|refine blk_drew ?_|refine blk_alloc ?_ _));exact BK328.out)) (below_size (by repeat (first|(with_reducible first|exact HB.out|apply below_alloc|apply pw_below_drewN|apply below_drew1|refine below_set ?_ GE307.out|refine below_set ?_ GE328.out)|exact HB.out))))
     have n6_:=Aside0.mk (blk_below (g:=gb307) (o:=.cells #[.int .i64 a0_0,.int .i64 a0_1,.string a0_2,.slice A0_3 l0_3.length c0_3,.slice A0_4 l0_4.length c0_4] 25 (0,0)) (by (with_reducible repeat (first|refine blk_drewN ?_ _|refine blk_drew ?_|refine blk_alloc ?_ _));exact BK307.out) hb)
     have n7_:=Aside0.mk (blk_below (g:=gb328) (o:=.cells #[.int .i64 t319,.int .i64 t320,.string t321,.slice Ao57 t322.length co57,.slice Ao58 t325.length co58] 31 (0,0)) (by (with_reducible repeat (first|refine blk_drewN ?_ _|refine blk_drew ?_|refine blk_alloc ?_ _));exact BK328.out) hb)
     have n8_:=Aside0.mk (below_step (by repeat (first|(with_reducible first|exact HB.out|apply below_alloc|apply pw_below_drewN|apply below_drew1|refine below_set ?_ GE307.out|refine below_set ?_ GE328.out)|exact HB.out)) hb)
     clear HO314
     clear HO317
     clear HO324
     clear HO327
     clear BK307
     clear BK328
     clear HB
     have HO314:=n0_
     have HO317:=n1_
     have HO324:=n2_
     have HO327:=n3_
     have HO335:=n4_
     have HO338:=n5_
     have BK307:=n6_
     have BK328:=n7_
     have HB:=n8_
     clear n0_ n1_ n2_ n3_ n4_ n5_ n6_ n7_ n8_
     (try clear hb)
     (try clear hb2)
     (try clear hk)
     (try clear hi)
     (try clear ho0)
     (try clear ho1)
     obtain ⟨Ao62,co62,eo62⟩:=Kd.R_slice HO335.out
     (first|subst eo62|(injection eo62 with f1_ f2_ f3_;have f4_:=f1_.symm;have f5_:=f3_.symm;clear f1_ f2_ f3_;subst f4_;subst f5_))
     obtain ⟨Ao63,co63,eo63⟩:=Kd.R_slice HO338.out
     (first|subst eo63|(injection eo63 with f1_ f2_ f3_;have f4_:=f1_.symm;have f5_:=f3_.symm;clear f1_ f2_ f3_;subst f4_;subst f5_))
     refine hK.out _ _ ⟨(blk_cell BK328.out 0).trans rfl,(blk_cell BK328.out 1).trans rfl,(blk_cell BK328.out 2).trans rfl,(blk_cell BK328.out 3).trans rfl,(blk_cell BK328.out 4).trans rfl,(blk_cell BK307.out 0).trans rfl,(blk_cell BK307.out 1).trans rfl,(blk_cell BK307.out 2).trans rfl,(blk_cell BK307.out 3).trans rfl,(blk_cell BK307.out 4).trans rfl⟩ (fun hHeld=>?_)
     clear hK K
     refine norm_ (a':=?_) ?_ ?_
     rotate_left
     ·show Act.put _ (some 24) _ = _
      simp only [Act.put,List.setIfInBounds_toArray,List.set_cons_zero,List.set_cons_succ,i64_w,i32_w]
      rfl
     refine one_ (i:=3) (N:=some 25) #[true,true,true,true,false] rfl rfl (by kernel_rfl) (by decide) (fun K hK=>?_)
     refine goes_ Try.func8 (by kernel_rfl) rfl #[.agg #[.int .i64 t319,.int .i64 t320,.string t321,.slice Ao57 t322.length co57,.slice Ao58 t325.length co58],.agg #[.int .i64 t330,.int .i64 t331,.string t332,.slice Ao62 t333.length co62,.slice Ao63 t336.length co63]] (by rfl) rfl rfl (by (try simp only [List.map_toArray,List.map_cons,List.map_nil]);first|done|rfl|(simp only [List.length_drop,List.length_take];rfl)) ?_
     with_reducible refine (laws_eqExpr.calls kj2 t319 t320 t321 _ _ t322 _ _ t325 t330 t331 t332 _ _ t333 _ _ t336 false _ ?side1 ?side2 ?side3 ?side4 ?side5 ?side6 ?side7 ?side8 A27.out).mono ?_
     (case side1=>repeat (first|exact (Kd.R_reads' HO324.out).2.2|(with_reducible refine Kd.C_alloc ?_ _)|(with_reducible refine Kd.C_drewN ?_ _)|(with_reducible refine Kd.C_drew ?_)))
     (case side2=>exact (Kd.R_reads' HO324.out).2.1)
     (case side3=>repeat (first|exact (Kd.R_reads' HO327.out).2.2|(with_reducible refine Kd.C_alloc ?_ _)|(with_reducible refine Kd.C_drewN ?_ _)|(with_reducible refine Kd.C_drew ?_)))
     (case side4=>exact (Kd.R_reads' HO327.out).2.1)
     (case side5=>repeat (first|exact (Kd.R_reads' HO335.out).2.2|(with_reducible refine Kd.C_alloc ?_ _)|(with_reducible refine Kd.C_drewN ?_ _)|(with_reducible refine Kd.C_drew ?_)))
     (case side6=>exact (Kd.R_reads' HO335.out).2.1)
     (case side7=>repeat (first|exact (Kd.R_reads' HO338.out).2.2|(with_reducible refine Kd.C_alloc ?_ _)|(with_reducible refine Kd.C_drewN ?_ _)|(with_reducible refine Kd.C_drew ?_)))
     (case side8=>exact (Kd.R_reads' HO338.out).2.1)
     rintro e w64 ⟨rfl,hb⟩
     refine ⟨_,rfl,?_⟩
     have n0_:=Aside0.mk (Kd.R_below (by (with_reducible repeat (first|apply Kd.R_alloc|apply Kd.R_drewN|apply Kd.R_drew));exact HO314.out) hb)
     have n1_:=Aside0.mk (Kd.R_below (by (with_reducible repeat (first|apply Kd.R_alloc|apply Kd.R_drewN|apply Kd.R_drew));exact HO317.out) hb)
     have n2_:=Aside0.mk (Kd.R_below (by (with_reducible repeat (first|apply Kd.R_alloc|apply Kd.R_drewN|apply Kd.R_drew));exact HO324.out) hb)
     have n3_:=Aside0.mk (Kd.R_below (by (with_reducible repeat (first|apply Kd.R_alloc|apply Kd.R_drewN|apply Kd.R_drew));exact HO327.out) hb)
     have n4_:=Aside0.mk (Kd.R_below (by (with_reducible repeat (first|apply Kd.R_alloc|apply Kd.R_drewN|apply Kd.R_drew));exact HO335.out) hb)
     have n5_:=Aside0.mk (Kd.R_below (by (with_reducible repeat (first|apply Kd.R_alloc|apply Kd.R_drewN|apply Kd.R_drew));exact HO338.out) hb)
     have n6_:=Aside0.mk (blk_below (g:=gb307) (o:=.cells #[.int .i64 a0_0,.int .i64 a0_1,.string a0_2,.slice A0_3 l0_3.length c0_3,.slice A0_4 l0_4.length c0_4] 25 (0,0)) (by (with_reducible repeat (first|refine blk_drewN ?_ _|refine blk_drew ?_|refine blk_alloc ?_ _));exact BK307.out) hb)
     have n7_:=Aside0.mk (blk_below (g:=gb328) (o:=.cells #[.int .i64 t319,.int .i64 t320,.string t321,.slice Ao57 t322.length co57,.slice Ao58 t325.length co58] 31 (0,0)) (by (with_reducible repeat (first|refine blk_drewN ?_ _|refine blk_drew ?_|refine blk_alloc ?_ _));exact BK328.out) hb)
     have n8_:=Aside0.mk (below_step (by repeat (first|(with_reducible first|exact HB.out|apply below_alloc|apply pw_below_drewN|apply below_drew1|refine below_set ?_ GE307.out|refine below_set ?_ GE328.out)|exact HB.out)) hb)
     clear HO314
     clear HO317
     clear HO324
     clear HO327
     clear HO335
     clear HO338
     clear BK307
     clear BK328
     clear HB
     have HO314:=n0_
     have HO317:=n1_
     have HO324:=n2_
     have HO327:=n3_
     have HO335:=n4_
     have HO338:=n5_
     have BK307:=n6_
     have BK328:=n7_
     have HB:=n8_
     clear n0_ n1_ n2_ n3_ n4_ n5_ n6_ n7_ n8_
     (try clear hb)
     (try clear hb2)
     (try clear hk)
     (try clear hi)
     refine hK.out _ _ ⟨(blk_cell BK328.out 0).trans rfl,(blk_cell BK328.out 1).trans rfl,(blk_cell BK328.out 2).trans rfl,(blk_cell BK328.out 3).trans rfl,(blk_cell BK328.out 4).trans rfl,(blk_cell BK307.out 0).trans rfl,(blk_cell BK307.out 1).trans rfl,(blk_cell BK307.out 2).trans rfl,(blk_cell BK307.out 3).trans rfl,(blk_cell BK307.out 4).trans rfl⟩ (fun hHeld=>?_)
     clear hK K
     refine norm_ (a':=?_) ?_ ?_
     rotate_left
     ·show Act.put _ (some 25) _ = _
      simp only [Act.put,List.setIfInBounds_toArray,List.set_cons_zero,List.set_cons_succ,i64_w,i32_w]
      rfl
     refine pure_ (i:=4) (N:=some 26) (v:=?_) (a':=?_) #[true,true,true,true,true] rfl rfl (by kernel_rfl) (fun _ _ _ h=>h) (Or.inl ⟨by rfl,?_⟩) ?_ ?_
     rotate_left
     ·intro w'
      go_simp
      with_reducible rfl
     rotate_left
     ·simp only [Act.put,List.setIfInBounds_toArray,List.set_cons_zero,List.set_cons_succ,i64_w,i32_w]
      rfl
     refine done_ (by kernel_rfl) ?_
     try go_wp2
     go_ret
     exact ⟨by first|rfl|(simp [*,errW_none,errW_some] <;> rfl),by repeat (first|(with_reducible first|exact HB.out|apply below_alloc|apply pw_below_drewN|apply below_drew1|refine below_set ?_ GE307.out|refine below_set ?_ GE328.out)|exact HB.out)⟩

/-- THE ONE PURE STATEMENT of laws_FnExactExprOk: yours. -/
def laws_FnExactExprOk.Pure:Prop:=∀ (a0_0:Int) (a0_1:Int) (a0_2:ByteArray) (l0_3:List (S25)) (l0_4:List (S48)),wf25 (⟨a0_0,a0_1,a0_2,l0_3,l0_4⟩:S25) → ∃ k,laws_FnExactExprOk.f k a0_0 a0_1 a0_2 l0_3 l0_4 = some true
theorem laws_FnExactExprOk.walk (k_:Nat):True:=trivial

end Go.Proofs.Ytjgegnkphkfmoaa.QFnExactExprOk
