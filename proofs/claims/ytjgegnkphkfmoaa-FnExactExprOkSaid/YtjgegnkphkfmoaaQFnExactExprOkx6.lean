-- Written by a program of this workplace (print2.py) for this claim, over the print's words.
import Derived.Test.YtjgegnkphkfmoaaQFnExactExprOkx0
import Derived.Test.YtjgegnkphkfmoaaQFnExactExprOkx5
namespace Go.Proofs.Ytjgegnkphkfmoaa.QFnExactExprOk
open Go.RowKit Go.Proofs.YtjgegnkphkfmoaaW.PrintWords Go.Proofs.YtjgegnkphkfmoaaW.PrintLast Go.Proofs.YtjgegnkphkfmoaaW.PrintMore
attribute [local go_sem] max2_int min2_int max_two min_two max_three min_three max_four min_four   -- for this text's walks alone
set_option linter.unusedVariables false
set_option linter.unusedSimpArgs false

/-! ### spec_ExprOk: function 5 -/
def spec_ExprOk.f (k:Nat) (a0_0:Int) (a0_1:Int) (a0_2:ByteArray) (l0_3:List (S31)) (l0_4:List (S53)):Option (Bool):=(spec_l4Look.f k a0_0 a0_1 a0_2 l0_3 l0_4 false 10 300).bind fun t166=>(some (decide (t166 ≥ 0)))
theorem spec_ExprOk.mono:∀ a0 a1 a2 a3 a4 k,LeO (spec_ExprOk.f k a0 a1 a2 a3 a4) (spec_ExprOk.f (k + 1) a0 a1 a2 a3 a4):=by
 intro a0 a1 a2 a3 a4 k
 unfold spec_ExprOk.f
 repeat' first
   | (with_reducible exact spec_l4Look.mono _ _ _ _ _ _ _ _ _)
   | (with_reducible exact LeO.refl _)
   | (with_reducible exact LeO.none _)
   | (with_reducible refine LeO.ite ?_ ?_)
   | (with_reducible refine LeO.bind ?_ (fun _=>?_))
   | exact spec_l4Look.mono _ _ _ _ _ _ _ _ _
   | exact LeO.none _
   | refine LeO.ite ?_ ?_
   | refine LeO.bind ?_ (fun _=>?_)
set_option maxHeartbeats 8000000 in
set_option maxRecDepth 100000 in
theorem spec_ExprOk.calls (k:Nat) (a0_0:Int) (a0_1:Int) (a0_2:ByteArray) (A0_3:Option Addr) (c0_3:Nat) (l0_3:List (S31)) (A0_4:Option Addr) (c0_4:Nat) (l0_4:List (S53)) (r:Bool) (w:World) (hr0_3:Kd.C k31 w A0_3 l0_3.length l0_3) (hc0_3:l0_3.length≤c0_3) (hr0_4:Kd.C k53 w A0_4 l0_4.length l0_4) (hc0_4:l0_4.length≤c0_4) (h:spec_ExprOk.f k a0_0 a0_1 a0_2 l0_3 l0_4 = some r) :
  Calls Try.prog 5 #[.agg #[.int .i64 a0_0,.int .i64 a0_1,.string a0_2,.slice A0_3 l0_3.length c0_3,.slice A0_4 l0_4.length c0_4]] w fun e w'=>e = .returned (.bool r)∧Below w.heap.size w w':=by
 have hu31:=Try.underlying31
 have HR0_3:=Aside0.mk hr0_3
 have HC0_3:=Aside0.mk hc0_3
 clear hr0_3 hc0_3
 have HR0_4:=Aside0.mk hr0_4
 have HC0_4:=Aside0.mk hc0_4
 clear hr0_4 hc0_4
 have HB:=Aside0.mk (Below.refl w.heap.size w)
 have H:((spec_l4Look.f k a0_0 a0_1 a0_2 l0_3 l0_4 false 10 300).bind fun t166=>(some (decide (t166 ≥ 0)))) = some r:=h
 clear h
 replace H:=Option.bind_eq_some_iff.mp H
 obtain ⟨t166,A20,H⟩:=H
 replace H:(some (decide (t166 ≥ 0))) = some r:=H
 have A2:=Aside0.mk A20
 clear A20
 obtain rfl:=Option.some.inj H
 go_enter Try.func5,Try.ntmps5
 go_wp2_with (first|((with_reducible refine gate_dst (N:=1) rfl ?_);refine box_event ?hg (N:=1) ?hd (cs:=#[.int .i64 a0_0,.int .i64 a0_1,.string a0_2,.slice A0_3 l0_3.length c0_3,.slice A0_4 l0_4.length c0_4]) (t:=31) ?hr ?_;(case hd=>rfl);(case hg=>rfl);(case hr=>first|(go_simp;done)|(go_simp;rfl));intro gb165 hg w3 hbox hb;have n0_:=Aside0.mk (below_step (by repeat (first|(with_reducible first|exact HB.out|apply below_alloc|apply pw_below_drewN|apply below_drew1)|exact HB.out)) hb);have n1_:=Aside0.mk (hbox);have n2_:=Aside0.mk ((by rw [hg];exact (below_size (by repeat (first|(with_reducible first|exact HB.out|apply below_alloc|apply pw_below_drewN|apply below_drew1)|exact HB.out))):w.heap.size≤gb165));have n3_:=Aside0.mk ((by rw [hg];exact (below_size (by repeat (first|(with_reducible first|exact HB.out|apply below_alloc|apply pw_below_drewN|apply below_drew1)|exact HB.out))):w.heap.size≤gb165));clear HB;have HB:=n0_;have BK165:=n1_;have GW165:=n2_;have GE165:=n3_;clear n0_ n1_ n2_ n3_;clear hb hbox hg;have hcz4_0:w3.cell? ⟨gb165,0,none⟩ = some (.int .i64 a0_0):=(blk_cell BK165.out 0).trans rfl;have hcz4_1:w3.cell? ⟨gb165,1,none⟩ = some (.int .i64 a0_1):=(blk_cell BK165.out 1).trans rfl;have hcz4_2:w3.cell? ⟨gb165,2,none⟩ = some (.string a0_2):=(blk_cell BK165.out 2).trans rfl;have hcz4_3:w3.cell? ⟨gb165,3,none⟩ = some (.slice A0_3 l0_3.length c0_3):=(blk_cell BK165.out 3).trans rfl;have hcz4_4:w3.cell? ⟨gb165,4,none⟩ = some (.slice A0_4 l0_4.length c0_4):=(blk_cell BK165.out 4).trans rfl;have hfz4_0:=blk_frozen BK165.out 0;have hfz4_1:=blk_frozen BK165.out 1;have hfz4_2:=blk_frozen BK165.out 2;have hfz4_3:=blk_frozen BK165.out 3;have hfz4_4:=blk_frozen BK165.out 4)|((with_reducible refine gate_callee (f:=11) rfl ?_);refine goesL_ (some 4) rfl rfl Try.func11 (by kernel_rfl) rfl #[.agg #[.int .i64 a0_0,.int .i64 a0_1,.string a0_2,.slice A0_3 l0_3.length c0_3,.slice A0_4 l0_4.length c0_4],.bool false,.int .i64 10,.int .i64 300] rfl (by (try simp only [List.map_toArray,List.map_cons,List.map_nil]);first|done|rfl|(simp only [List.length_drop,List.length_take];rfl)) ?_;(with_reducible refine (spec_l4Look.calls k a0_0 a0_1 a0_2 _ _ l0_3 _ _ l0_4 false 10 300 t166 _ ?side1 ?side2 ?side3 ?side4 A2.out).mono ?_);(case side1=>repeat (first|exact (Kd.C_below HR0_3.out HB.out)|(with_reducible refine Kd.C_alloc ?_ _)|(with_reducible refine Kd.C_drewN ?_ _)|(with_reducible refine Kd.C_drew ?_)));(case side2=>exact HC0_3.out);(case side3=>repeat (first|exact (Kd.C_below HR0_4.out HB.out)|(with_reducible refine Kd.C_alloc ?_ _)|(with_reducible refine Kd.C_drewN ?_ _)|(with_reducible refine Kd.C_drew ?_)));(case side4=>exact HC0_4.out);rintro e w5 ⟨rfl,hb⟩;refine ⟨_,rfl,?_⟩;have n0_:=Aside0.mk (blk_below (g:=gb165) (o:=.cells #[.int .i64 a0_0,.int .i64 a0_1,.string a0_2,.slice A0_3 l0_3.length c0_3,.slice A0_4 l0_4.length c0_4] 31 (0,0)) (by (with_reducible repeat (first|refine blk_drewN ?_ _|refine blk_drew ?_|refine blk_alloc ?_ _));exact BK165.out) hb);have n1_:=Aside0.mk (below_step (by repeat (first|(with_reducible first|exact HB.out|apply below_alloc|apply pw_below_drewN|apply below_drew1|refine below_set ?_ GE165.out)|exact HB.out)) hb);clear BK165;clear HB;have BK165:=n0_;have HB:=n1_;clear n0_ n1_;(try clear hb);(try clear hb2);(try clear hk);(try clear hi)))
 go_ret
 exact ⟨by first|rfl|(simp [*,errW_none,errW_some] <;> rfl),by repeat (first|(with_reducible first|exact HB.out|apply below_alloc|apply pw_below_drewN|apply below_drew1|refine below_set ?_ GE165.out)|exact HB.out)⟩

mutual
def laws_toExprS.l0:Nat → List (S25) → List (S31) → Int → Option ((List (S31)))
 | 0,_,_,_=>none
 | k + 1,x0,x3,x4=>if x4 < (x0.length:Int) then (if 0≤x4 then ((laws_toExpr.f k ((rd_T25 x0 x4).f0) ((rd_T25 x0 x4).f1) ((rd_T25 x0 x4).f2) ((rd_T25 x0 x4).f3) ((rd_T25 x0 x4).f4)).bind fun bt171=>(if x4 < (x3.length:Int) then (laws_toExprS.l0 k x0 (x3.set (x4:Int).toNat (⟨bt171.1,bt171.2.1,bt171.2.2.1,bt171.2.2.2.1,bt171.2.2.2.2⟩:S31)) (wrap64 (x4 + 1))) else (none))) else (none)) else (some x3)
def laws_toExprS.f:Nat → List (S25) → Option ((List (S31)))
 | 0,_=>none
 | k + 1,l0=>if 0≤(l0.length:Int) then (if ((l0.length:Int):Int).toNat≤3518437208883 then (laws_toExprS.l0 k l0 (List.replicate ((l0.length:Int):Int).toNat z31) 0) else (none)) else (none)
def laws_toClause.f:Nat → Int → Int → ByteArray → List (S25) → List (S48) → Int → Int → ByteArray → List (S25) → List (S48) → Option (Int × Int × ByteArray × (List (S31)) × (List (S53)) × Int × Int × ByteArray × (List (S31)) × (List (S53)))
 | 0,_,_,_,_,_,_,_,_,_,_=>none
 | k + 1,a0_0,a0_1,a0_2,l0_3,l0_4,a0_5,a0_6,a0_7,l0_8,l0_9=>(laws_toExpr.f k a0_0 a0_1 a0_2 l0_3 l0_4).bind fun bt184=>((laws_toExpr.f k a0_5 a0_6 a0_7 l0_8 l0_9).bind fun bt193=>(some (bt184.1,bt184.2.1,bt184.2.2.1,bt184.2.2.2.1,bt184.2.2.2.2,bt193.1,bt193.2.1,bt193.2.2.1,bt193.2.2.2.1,bt193.2.2.2.2)))
def laws_toClauseS.l0:Nat → List (S48) → List (S53) → Int → Option ((List (S53)))
 | 0,_,_,_=>none
 | k + 1,x0,x3,x4=>if x4 < (x0.length:Int) then (if 0≤x4 then ((laws_toClause.f k ((rd_T48 x0 x4).f0.f0) ((rd_T48 x0 x4).f0.f1) ((rd_T48 x0 x4).f0.f2) ((rd_T48 x0 x4).f0.f3) ((rd_T48 x0 x4).f0.f4) ((rd_T48 x0 x4).f1.f0) ((rd_T48 x0 x4).f1.f1) ((rd_T48 x0 x4).f1.f2) ((rd_T48 x0 x4).f1.f3) ((rd_T48 x0 x4).f1.f4)).bind fun bt206=>(if x4 < (x3.length:Int) then (laws_toClauseS.l0 k x0 (x3.set (x4:Int).toNat (⟨(⟨bt206.1,bt206.2.1,bt206.2.2.1,bt206.2.2.2.1,bt206.2.2.2.2.1⟩:S31),(⟨bt206.2.2.2.2.2.1,bt206.2.2.2.2.2.2.1,bt206.2.2.2.2.2.2.2.1,bt206.2.2.2.2.2.2.2.2.1,bt206.2.2.2.2.2.2.2.2.2⟩:S31)⟩:S53)) (wrap64 (x4 + 1))) else (none))) else (none)) else (some x3)
def laws_toClauseS.f:Nat → List (S48) → Option ((List (S53)))
 | 0,_=>none
 | k + 1,l0=>if 0≤(l0.length:Int) then (if ((l0.length:Int):Int).toNat≤1759218604441 then (laws_toClauseS.l0 k l0 (List.replicate ((l0.length:Int):Int).toNat z53) 0) else (none)) else (none)
def laws_toExpr.f:Nat → Int → Int → ByteArray → List (S25) → List (S48) → Option (Int × Int × ByteArray × (List (S31)) × (List (S53)))
 | 0,_,_,_,_,_=>none
 | k + 1,a0_0,a0_1,a0_2,l0_3,l0_4=>(laws_toExprS.f k l0_3).bind fun t228=>((laws_toClauseS.f k l0_4).bind fun t231=>(some (a0_0,a0_1,a0_2,t228,t231)))
end
theorem laws_toExprS.mono_g:∀ k,(∀ y0,LeO (laws_toExprS.f k y0) (laws_toExprS.f (k + 1) y0))∧(∀ y0 y1 y2,LeO (laws_toExprS.l0 k y0 y1 y2) (laws_toExprS.l0 (k + 1) y0 y1 y2))∧(∀ y0 y1 y2 y3 y4 y5 y6 y7 y8 y9,LeO (laws_toClause.f k y0 y1 y2 y3 y4 y5 y6 y7 y8 y9) (laws_toClause.f (k + 1) y0 y1 y2 y3 y4 y5 y6 y7 y8 y9))∧(∀ y0,LeO (laws_toClauseS.f k y0) (laws_toClauseS.f (k + 1) y0))∧(∀ y0 y1 y2,LeO (laws_toClauseS.l0 k y0 y1 y2) (laws_toClauseS.l0 (k + 1) y0 y1 y2))∧(∀ y0 y1 y2 y3 y4,LeO (laws_toExpr.f k y0 y1 y2 y3 y4) (laws_toExpr.f (k + 1) y0 y1 y2 y3 y4))
 | 0=>⟨fun _ r h=>by simp [laws_toExprS.f] at h,fun _ _ _ r h=>by simp [laws_toExprS.l0] at h,fun _ _ _ _ _ _ _ _ _ _ r h=>by simp [laws_toClause.f] at h,fun _ r h=>by simp [laws_toClauseS.f] at h,fun _ _ _ r h=>by simp [laws_toClauseS.l0] at h,fun _ _ _ _ _ r h=>by simp [laws_toExpr.f] at h⟩
 | k + 1=>by
  obtain ⟨ih0,ih1,ih2,ih3,ih4,ih5⟩:=laws_toExprS.mono_g k
  refine ⟨?_,?_,?_,?_,?_,?_⟩
  ·intro y0
   unfold laws_toExprS.f
   repeat' first
   | (with_reducible exact ih0 _)
   | (with_reducible exact ih1 _ _ _)
   | (with_reducible exact ih2 _ _ _ _ _ _ _ _ _ _)
   | (with_reducible exact ih3 _)
   | (with_reducible exact ih4 _ _ _)
   | (with_reducible exact ih5 _ _ _ _ _)
   | (with_reducible exact LeO.refl _)
   | (with_reducible exact LeO.none _)
   | (with_reducible refine LeO.ite ?_ ?_)
   | (with_reducible refine LeO.bind ?_ (fun _=>?_))
   | exact ih0 _
   | exact ih1 _ _ _
   | exact ih2 _ _ _ _ _ _ _ _ _ _
   | exact ih3 _
   | exact ih4 _ _ _
   | exact ih5 _ _ _ _ _
   | exact LeO.none _
   | refine LeO.ite ?_ ?_
   | refine LeO.bind ?_ (fun _=>?_)
  ·intro y0 y1 y2
   unfold laws_toExprS.l0
   repeat' first
   | (with_reducible exact ih0 _)
   | (with_reducible exact ih1 _ _ _)
   | (with_reducible exact ih2 _ _ _ _ _ _ _ _ _ _)
   | (with_reducible exact ih3 _)
   | (with_reducible exact ih4 _ _ _)
   | (with_reducible exact ih5 _ _ _ _ _)
   | (with_reducible exact LeO.refl _)
   | (with_reducible exact LeO.none _)
   | (with_reducible refine LeO.ite ?_ ?_)
   | (with_reducible refine LeO.bind ?_ (fun _=>?_))
   | exact ih0 _
   | exact ih1 _ _ _
   | exact ih2 _ _ _ _ _ _ _ _ _ _
   | exact ih3 _
   | exact ih4 _ _ _
   | exact ih5 _ _ _ _ _
   | exact LeO.none _
   | refine LeO.ite ?_ ?_
   | refine LeO.bind ?_ (fun _=>?_)
  ·intro y0 y1 y2 y3 y4 y5 y6 y7 y8 y9
   unfold laws_toClause.f
   repeat' first
   | (with_reducible exact ih0 _)
   | (with_reducible exact ih1 _ _ _)
   | (with_reducible exact ih2 _ _ _ _ _ _ _ _ _ _)
   | (with_reducible exact ih3 _)
   | (with_reducible exact ih4 _ _ _)
   | (with_reducible exact ih5 _ _ _ _ _)
   | (with_reducible exact LeO.refl _)
   | (with_reducible exact LeO.none _)
   | (with_reducible refine LeO.ite ?_ ?_)
   | (with_reducible refine LeO.bind ?_ (fun _=>?_))
   | exact ih0 _
   | exact ih1 _ _ _
   | exact ih2 _ _ _ _ _ _ _ _ _ _
   | exact ih3 _
   | exact ih4 _ _ _
   | exact ih5 _ _ _ _ _
   | exact LeO.none _
   | refine LeO.ite ?_ ?_
   | refine LeO.bind ?_ (fun _=>?_)
  ·intro y0
   unfold laws_toClauseS.f
   repeat' first
   | (with_reducible exact ih0 _)
   | (with_reducible exact ih1 _ _ _)
   | (with_reducible exact ih2 _ _ _ _ _ _ _ _ _ _)
   | (with_reducible exact ih3 _)
   | (with_reducible exact ih4 _ _ _)
   | (with_reducible exact ih5 _ _ _ _ _)
   | (with_reducible exact LeO.refl _)
   | (with_reducible exact LeO.none _)
   | (with_reducible refine LeO.ite ?_ ?_)
   | (with_reducible refine LeO.bind ?_ (fun _=>?_))
   | exact ih0 _
   | exact ih1 _ _ _
   | exact ih2 _ _ _ _ _ _ _ _ _ _
   | exact ih3 _
   | exact ih4 _ _ _
   | exact ih5 _ _ _ _ _
   | exact LeO.none _
   | refine LeO.ite ?_ ?_
   | refine LeO.bind ?_ (fun _=>?_)
  ·intro y0 y1 y2
   unfold laws_toClauseS.l0
   repeat' first
   | (with_reducible exact ih0 _)
   | (with_reducible exact ih1 _ _ _)
   | (with_reducible exact ih2 _ _ _ _ _ _ _ _ _ _)
   | (with_reducible exact ih3 _)
   | (with_reducible exact ih4 _ _ _)
   | (with_reducible exact ih5 _ _ _ _ _)
   | (with_reducible exact LeO.refl _)
   | (with_reducible exact LeO.none _)
   | (with_reducible refine LeO.ite ?_ ?_)
   | (with_reducible refine LeO.bind ?_ (fun _=>?_))
   | exact ih0 _
   | exact ih1 _ _ _
   | exact ih2 _ _ _ _ _ _ _ _ _ _
   | exact ih3 _
   | exact ih4 _ _ _
   | exact ih5 _ _ _ _ _
   | exact LeO.none _
   | refine LeO.ite ?_ ?_
   | refine LeO.bind ?_ (fun _=>?_)
  ·intro y0 y1 y2 y3 y4
   unfold laws_toExpr.f
   repeat' first
   | (with_reducible exact ih0 _)
   | (with_reducible exact ih1 _ _ _)
   | (with_reducible exact ih2 _ _ _ _ _ _ _ _ _ _)
   | (with_reducible exact ih3 _)
   | (with_reducible exact ih4 _ _ _)
   | (with_reducible exact ih5 _ _ _ _ _)
   | (with_reducible exact LeO.refl _)
   | (with_reducible exact LeO.none _)
   | (with_reducible refine LeO.ite ?_ ?_)
   | (with_reducible refine LeO.bind ?_ (fun _=>?_))
   | exact ih0 _
   | exact ih1 _ _ _
   | exact ih2 _ _ _ _ _ _ _ _ _ _
   | exact ih3 _
   | exact ih4 _ _ _
   | exact ih5 _ _ _ _ _
   | exact LeO.none _
   | refine LeO.ite ?_ ?_
   | refine LeO.bind ?_ (fun _=>?_)
theorem laws_toExprS.mono:∀ a0 k,LeO (laws_toExprS.f k a0) (laws_toExprS.f (k + 1) a0):=by
 intro a0 k
 obtain ⟨ih0,ih1,ih2,ih3,ih4,ih5⟩:=laws_toExprS.mono_g k
 exact ih0 a0
theorem laws_toClause.mono:∀ a0 a1 a2 a3 a4 a5 a6 a7 a8 a9 k,LeO (laws_toClause.f k a0 a1 a2 a3 a4 a5 a6 a7 a8 a9) (laws_toClause.f (k + 1) a0 a1 a2 a3 a4 a5 a6 a7 a8 a9):=by
 intro a0 a1 a2 a3 a4 a5 a6 a7 a8 a9 k
 obtain ⟨ih0,ih1,ih2,ih3,ih4,ih5⟩:=laws_toExprS.mono_g k
 exact ih2 a0 a1 a2 a3 a4 a5 a6 a7 a8 a9
theorem laws_toClauseS.mono:∀ a0 k,LeO (laws_toClauseS.f k a0) (laws_toClauseS.f (k + 1) a0):=by
 intro a0 k
 obtain ⟨ih0,ih1,ih2,ih3,ih4,ih5⟩:=laws_toExprS.mono_g k
 exact ih3 a0
theorem laws_toExpr.mono:∀ a0 a1 a2 a3 a4 k,LeO (laws_toExpr.f k a0 a1 a2 a3 a4) (laws_toExpr.f (k + 1) a0 a1 a2 a3 a4):=by
 intro a0 a1 a2 a3 a4 k
 obtain ⟨ih0,ih1,ih2,ih3,ih4,ih5⟩:=laws_toExprS.mono_g k
 exact ih5 a0 a1 a2 a3 a4
/-! ### laws_toExprS: function 12 -/
set_option maxHeartbeats 8000000 in
set_option maxRecDepth 100000 in
theorem laws_toExprS.step (k:Nat) (ih_laws_toExprS:∀ k_,k_ < k → ∀ (A0:Option Addr) (c0:Nat) (l0:List (S25)) (r:List (S31)) (w:World) (hr0:Kd.C k25 w A0 l0.length l0) (hc0:l0.length≤c0) (h:laws_toExprS.f k_ l0 = some r),Calls Try.prog 12 #[.slice A0 l0.length c0] w fun e w'=>∃ v0_:Value,e = .returned (v0_)∧Kd.R k31 31 w' w.heap.size (fun _=>True) v0_ r∧Below w.heap.size w w') (ih_laws_toClause:∀ k_,k_ < k → ∀ (a0_0:Int) (a0_1:Int) (a0_2:ByteArray) (A0_3:Option Addr) (c0_3:Nat) (l0_3:List (S25)) (A0_4:Option Addr) (c0_4:Nat) (l0_4:List (S48)) (a0_5:Int) (a0_6:Int) (a0_7:ByteArray) (A0_8:Option Addr) (c0_8:Nat) (l0_8:List (S25)) (A0_9:Option Addr) (c0_9:Nat) (l0_9:List (S48)) (r1:Int) (r2:Int) (r3:ByteArray) (r4:List (S31)) (r5:List (S53)) (r6:Int) (r7:Int) (r8:ByteArray) (r9:List (S31)) (r10:List (S53)) (w:World) (hr0_3:Kd.C k25 w A0_3 l0_3.length l0_3) (hc0_3:l0_3.length≤c0_3) (hr0_4:Kd.C k48 w A0_4 l0_4.length l0_4) (hc0_4:l0_4.length≤c0_4) (hr0_8:Kd.C k25 w A0_8 l0_8.length l0_8) (hc0_8:l0_8.length≤c0_8) (hr0_9:Kd.C k48 w A0_9 l0_9.length l0_9) (hc0_9:l0_9.length≤c0_9) (h:laws_toClause.f k_ a0_0 a0_1 a0_2 l0_3 l0_4 a0_5 a0_6 a0_7 l0_8 l0_9 = some (r1,r2,r3,r4,r5,r6,r7,r8,r9,r10)),Calls Try.prog 21 #[.agg #[.int .i64 a0_0,.int .i64 a0_1,.string a0_2,.slice A0_3 l0_3.length c0_3,.slice A0_4 l0_4.length c0_4,.int .i64 a0_5,.int .i64 a0_6,.string a0_7,.slice A0_8 l0_8.length c0_8,.slice A0_9 l0_9.length c0_9]] w fun e w'=>∃ v3_ v4_ v8_ v9_:Value,e = .returned (.agg #[.int .i64 r1,.int .i64 r2,.string r3,v3_,v4_,.int .i64 r6,.int .i64 r7,.string r8,v8_,v9_])∧Kd.R k31 31 w' w.heap.size (fun k_=>some k_≠(v4_:Value).ownBlock∧some k_≠(v8_:Value).ownBlock∧some k_≠(v9_:Value).ownBlock) v3_ r4∧Kd.R k53 53 w' w.heap.size (fun k_=>some k_≠(v3_:Value).ownBlock∧some k_≠(v8_:Value).ownBlock∧some k_≠(v9_:Value).ownBlock) v4_ r5∧Kd.R k31 31 w' w.heap.size (fun k_=>some k_≠(v3_:Value).ownBlock∧some k_≠(v4_:Value).ownBlock∧some k_≠(v9_:Value).ownBlock) v8_ r9∧Kd.R k53 53 w' w.heap.size (fun k_=>some k_≠(v3_:Value).ownBlock∧some k_≠(v4_:Value).ownBlock∧some k_≠(v8_:Value).ownBlock) v9_ r10∧Below w.heap.size w w') (ih_laws_toClauseS:∀ k_,k_ < k → ∀ (A0:Option Addr) (c0:Nat) (l0:List (S48)) (r:List (S53)) (w:World) (hr0:Kd.C k48 w A0 l0.length l0) (hc0:l0.length≤c0) (h:laws_toClauseS.f k_ l0 = some r),Calls Try.prog 13 #[.slice A0 l0.length c0] w fun e w'=>∃ v0_:Value,e = .returned (v0_)∧Kd.R k53 53 w' w.heap.size (fun _=>True) v0_ r∧Below w.heap.size w w') (ih_laws_toExpr:∀ k_,k_ < k → ∀ (a0_0:Int) (a0_1:Int) (a0_2:ByteArray) (A0_3:Option Addr) (c0_3:Nat) (l0_3:List (S25)) (A0_4:Option Addr) (c0_4:Nat) (l0_4:List (S48)) (r1:Int) (r2:Int) (r3:ByteArray) (r4:List (S31)) (r5:List (S53)) (w:World) (hr0_3:Kd.C k25 w A0_3 l0_3.length l0_3) (hc0_3:l0_3.length≤c0_3) (hr0_4:Kd.C k48 w A0_4 l0_4.length l0_4) (hc0_4:l0_4.length≤c0_4) (h:laws_toExpr.f k_ a0_0 a0_1 a0_2 l0_3 l0_4 = some (r1,r2,r3,r4,r5)),Calls Try.prog 6 #[.agg #[.int .i64 a0_0,.int .i64 a0_1,.string a0_2,.slice A0_3 l0_3.length c0_3,.slice A0_4 l0_4.length c0_4]] w fun e w'=>∃ v3_ v4_:Value,e = .returned (.agg #[.int .i64 r1,.int .i64 r2,.string r3,v3_,v4_])∧Kd.R k31 31 w' w.heap.size (fun k_=>some k_≠(v4_:Value).ownBlock) v3_ r4∧Kd.R k53 53 w' w.heap.size (fun k_=>some k_≠(v3_:Value).ownBlock) v4_ r5∧Below w.heap.size w w'):∀ (A0:Option Addr) (c0:Nat) (l0:List (S25)) (r:List (S31)) (w:World) (hr0:Kd.C k25 w A0 l0.length l0) (hc0:l0.length≤c0) (h:laws_toExprS.f k l0 = some r),
  Calls Try.prog 12 #[.slice A0 l0.length c0] w fun e w'=>∃ v0_:Value,e = .returned (v0_)∧Kd.R k31 31 w' w.heap.size (fun _=>True) v0_ r∧Below w.heap.size w w':=by
 intro A0 c0 l0 r w hr0 hc0 h
 cases k with
 | zero=>exact absurd h (by simp [laws_toExprS.f])
 | succ k =>
 simp only [laws_toExprS.f] at h
 have hu25:=Try.underlying25
 have hu31:=Try.underlying31
 have HR0:=Aside0.mk hr0
 have HC0:=Aside0.mk hc0
 clear hr0 hc0
 have HB:=Aside0.mk (Below.refl w.heap.size w)
 have H:(if 0≤(l0.length:Int) then (if ((l0.length:Int):Int).toNat≤3518437208883 then (laws_toExprS.l0 k l0 (List.replicate ((l0.length:Int):Int).toNat z31) 0) else (none)) else (none)) = some r:=h
 clear h
 by_cases c2:0≤(l0.length:Int)
 ·rw [if_pos c2] at H
  have c2b0:=eq_true c2
  have c2b1:decide (0≤(l0.length:Int)) = true:=decide_eq_true c2
  clear c2
  by_cases c3:((l0.length:Int):Int).toNat≤3518437208883
  ·rw [if_pos c3] at H
   have c3b0:=eq_true c3
   have c3b1:decide (((l0.length:Int):Int).toNat≤3518437208883) = true:=decide_eq_true c3
   clear c3
   obtain ⟨y167,hy167⟩:∃ y_:List (S31),y_ = (List.replicate ((l0.length:Int):Int).toNat z31):=⟨_,rfl⟩
   replace H:(laws_toExprS.l0 k l0 y167 0) = some r:=by first|(rw [hy167];with_reducible exact H)|(have H2_:=(Option.bind_some _ _).symm.trans H;rw [hy167];with_reducible exact H2_)|(have H2_:=(Option.bind_some _ _).symm.trans H;with_reducible exact H2_)|with_reducible exact H|(rw [hy167];exact H)|exact H
   have Ny167:=Aside0.mk hy167
   clear hy167
   have H':=Aside0.mk H
   clear H
   go_enter Try.func12,Try.ntmps12
   go_wp2_with (first|((with_reducible refine gate_dst (N:=7) rfl ?_);refine Kd.R_make k31 _ 31 rfl (N:=7) rfl 28 _ _ rfl (l0.length:Int) rfl rfl Try.underlying28 (.agg #[(.int .i64 0),(.int .i64 0),(.string ⟨#[]⟩),(.slice none 0 0),(.slice none 0 0)]) 80 info31 rfl (by decide) (by omega) z31 (ok:=fun _=>True) (okp:=fun _=>True) (k31_mkM _ _ _ z31 (Kd.R_nil _ _ _ _ _) (Kd.R_nil _ _ _ _ _)) (fun _ hk=>hk) trivial (of_decide_eq_true (by first|(with_reducible assumption)|assumption)) (Nat.le_trans (Nat.mul_le_mul_right _ (of_decide_eq_true (by first|(with_reducible assumption)|assumption):(l0.length:Int).toNat≤3518437208883)) (by omega)) (Below.refl _ _) (Nat.le_refl _) ?_;intro v168 w4 ho5 hb hg_ hnew_;clear hg_ hnew_;(first|rw [← Ny167.out] at ho5|(simp only [Int.reduceToNat] at ho5;rw [← Ny167.out] at ho5));have n0_:=Aside0.mk (Kd.R_lower ho5 (below_size (by repeat (first|(with_reducible first|exact HB.out|apply below_alloc|apply pw_below_drewN|apply below_drew1)|exact HB.out))));have n1_:=Aside0.mk (below_step (by repeat (first|(with_reducible first|exact HB.out|apply below_alloc|apply pw_below_drewN|apply below_drew1)|exact HB.out)) hb);clear HB;have HO169:=n0_;have HB:=n1_;clear n0_ n1_;clear hb ho5))
   go_loopg [4] k (fun kq v4 w'=>∃ (x3_1:List (S31)) (x4_1:Int),v4 = .int .i64 x4_1∧Aside0 (laws_toExprS.l0 kq l0 x3_1 x4_1 = some r)∧Aside0 (kq≤k)∧Aside0 (Kd.R k31 31 w' w.heap.size (fun _=>True) v168 x3_1)∧Aside0 (Below w.heap.size w w'))
   case atStart=>exact ⟨(y167),(0),(by first|rfl|(simp;done)|(simp [*];done)),H',⟨Nat.le_refl _⟩,⟨by (with_reducible repeat (first|apply Kd.R_alloc|apply Kd.R_drewN|apply Kd.R_drew));exact HO169.out⟩,⟨by repeat (first|(with_reducible first|exact HB.out|apply below_alloc|apply pw_below_drewN|apply below_drew1)|exact HB.out)⟩⟩
   case round =>
    clear H'
    try clear c1
    try clear c2
    try clear c2b0
    try clear c2b1
    try clear p2
    try clear c3
    try clear c3b0
    try clear c3b1
    try clear HO_3
    try clear HB
    obtain ⟨x3_1,x4_1,rfl,HA,HK1,HO_3,HB⟩:=hrel
    cases gk with
    | zero=>exact absurd HA.out (by simp [laws_toExprS.l0])
    | succ k1 =>
     have H:=HA.out
     clear HA
     simp only [laws_toExprS.l0] at H
     by_cases c6:x4_1 < (l0.length:Int)
     ·rw [if_pos c6] at H
      have c6b0:decide (x4_1 < (l0.length:Int)) = true:=decide_eq_true c6
      clear c6
      by_cases c7:0≤x4_1
      ·rw [if_pos c7] at H
       have c7b0:decide (0≤x4_1) = true:=decide_eq_true c7
       clear c7
       replace H:=Option.bind_eq_some_iff.mp H
       obtain ⟨⟨t171,t172,t173,t174,t177⟩,A80,H⟩:=H
       replace H:(if x4_1 < (x3_1.length:Int) then (laws_toExprS.l0 k1 l0 (x3_1.set (x4_1:Int).toNat (⟨t171,t172,t173,t174,t177⟩:S31)) (wrap64 (x4_1 + 1))) else (none)) = some r:=H
       have A8:=Aside0.mk A80
       clear A80
       by_cases c9:x4_1 < (x3_1.length:Int)
       ·rw [if_pos c9] at H
        have c9b0:decide (x4_1 < (x3_1.length:Int)) = true:=decide_eq_true c9
        clear c9
        obtain ⟨y180,hy180⟩:∃ y_:List (S31),y_ = (x3_1.set (x4_1:Int).toNat (⟨t171,t172,t173,t174,t177⟩:S31)):=⟨_,rfl⟩
        replace H:(laws_toExprS.l0 k1 l0 y180 (wrap64 (x4_1 + 1))) = some r:=by first|(rw [hy180];with_reducible exact H)|(have H2_:=(Option.bind_some _ _).symm.trans H;rw [hy180];with_reducible exact H2_)|(have H2_:=(Option.bind_some _ _).symm.trans H;with_reducible exact H2_)|with_reducible exact H|(rw [hy180];exact H)|exact H
        have Ny180:=Aside0.mk hy180
        clear hy180
        have H':=Aside0.mk H
        clear H
        have p170:0≤(x4_1:Int):=of_decide_eq_true (by first|(with_reducible assumption)|assumption)
        have q170:x4_1 < (l0.length:Int):=of_decide_eq_true (by first|(with_reducible assumption)|assumption)
        obtain ⟨ad170,A170_3,c170_3,A170_4,c170_4,e170,hx170_0,hx170_1,hx170_2,hx170_3,hx170_4,hl170_3,hi170_3,hl170_4,hi170_4⟩:=at_T25 HR0.out x4_1 p170 q170
        cases e170
        replace hx170_0:=(HB.out.cell (World.block_lt_of_cell? w _ hx170_0)).trans hx170_0
        replace hx170_1:=(HB.out.cell (World.block_lt_of_cell? w _ hx170_1)).trans hx170_1
        replace hx170_2:=(HB.out.cell (World.block_lt_of_cell? w _ hx170_2)).trans hx170_2
        replace hx170_3:=(HB.out.cell (World.block_lt_of_cell? w _ hx170_3)).trans hx170_3
        replace hx170_4:=(HB.out.cell (World.block_lt_of_cell? w _ hx170_4)).trans hx170_4
        have HR170_3:=Aside0.mk hi170_3
        have HC170_3:=Aside0.mk hl170_3
        clear hi170_3 hl170_3
        have HR170_4:=Aside0.mk hi170_4
        have HC170_4:=Aside0.mk hl170_4
        clear hi170_4 hl170_4
        replace p170:=eq_true p170
        replace q170:=eq_true q170
        go_wp2_with (first|((with_reducible refine gate_callee (f:=6) rfl ?_);refine goesL_ (some 20) rfl rfl Try.func6 (by kernel_rfl) rfl #[.agg #[.int .i64 ((rd_T25 l0 x4_1).f0),.int .i64 ((rd_T25 l0 x4_1).f1),.string ((rd_T25 l0 x4_1).f2),.slice A170_3 ((rd_T25 l0 x4_1).f3).length c170_3,.slice A170_4 ((rd_T25 l0 x4_1).f4).length c170_4]] rfl (by (try simp only [List.map_toArray,List.map_cons,List.map_nil]);first|done|rfl|(simp only [List.length_drop,List.length_take];rfl)) ?_;(with_reducible refine (ih_laws_toExpr k1 (by have:=HK1.out;omega) ((rd_T25 l0 x4_1).f0) ((rd_T25 l0 x4_1).f1) ((rd_T25 l0 x4_1).f2) _ _ ((rd_T25 l0 x4_1).f3) _ _ ((rd_T25 l0 x4_1).f4) t171 t172 t173 t174 t177 _ ?side1 ?side2 ?side3 ?side4 A8.out).mono ?_);(case side1=>repeat (first|exact (Kd.C_below HR170_3.out HB.out)|(with_reducible refine Kd.C_alloc ?_ _)|(with_reducible refine Kd.C_drewN ?_ _)|(with_reducible refine Kd.C_drew ?_)));(case side2=>exact HC170_3.out);(case side3=>repeat (first|exact (Kd.C_below HR170_4.out HB.out)|(with_reducible refine Kd.C_alloc ?_ _)|(with_reducible refine Kd.C_drewN ?_ _)|(with_reducible refine Kd.C_drew ?_)));(case side4=>exact HC170_4.out);rintro e w11 ⟨v175,v178,rfl,ho0,ho1,hb⟩;refine ⟨_,rfl,?_⟩;have n0_:=Aside0.mk (Kd.R_mono (Kd.R_told (Kd.R_told (Kd.R_old (by (with_reducible repeat (first|apply Kd.R_alloc|apply Kd.R_drewN|apply Kd.R_drew));exact HO_3.out) hb) (Kd.R_base ho0)) (Kd.R_base ho1)) (fun _ h_=>h_.1));have n1_:=Aside0.mk (Kd.R_lower (Kd.R_new' ho0 (Kd.R_lt (by (with_reducible repeat (first|apply Kd.R_alloc|apply Kd.R_drewN|apply Kd.R_drew));exact HO_3.out))) (below_size (by repeat (first|(with_reducible first|exact HB.out|apply below_alloc|apply pw_below_drewN|apply below_drew1)|exact HB.out))));have n2_:=Aside0.mk (Kd.R_lower (Kd.R_new' ho1 (Kd.R_lt (by (with_reducible repeat (first|apply Kd.R_alloc|apply Kd.R_drewN|apply Kd.R_drew));exact HO_3.out))) (below_size (by repeat (first|(with_reducible first|exact HB.out|apply below_alloc|apply pw_below_drewN|apply below_drew1)|exact HB.out))));have n3_:=Aside0.mk (below_step (by repeat (first|(with_reducible first|exact HB.out|apply below_alloc|apply pw_below_drewN|apply below_drew1)|exact HB.out)) hb);clear HO_3;clear HB;have HO_3:=n0_;have HO176:=n1_;have HO179:=n2_;have HB:=n3_;clear n0_ n1_ n2_ n3_;(try clear hb);(try clear hb2);(try clear hk);(try clear hi);(try clear ho0);(try clear ho1);have p10:0≤(x4_1:Int):=of_decide_eq_true (by first|(with_reducible assumption)|assumption);have q10:(x4_1:Int) < ((x3_1.length:Int):Int):=of_decide_eq_true (by first|(with_reducible assumption)|assumption);obtain ⟨go10,co10,eo10,gb10,gl10,cl10,HG10⟩:=Kd.R_form HO_3.out (by omega);(first|cases eo10|(injection eo10 with ea_ en_ ec_;(first|subst ea_|(injection ea_ with ea_;subst ea_));subst ec_;clear en_));have GB10:=Aside0.mk gb10;have GG10:=Aside0.mk HG10;clear gb10 gl10 HG10;obtain ⟨ce10,hcl10,hM10,hcc10,hfr10⟩:=Kd.R_elem HO_3.out z31 (x4_1:Int) p10 q10;obtain ⟨ve10_3,ve10_4,rfl,ge10_3,ge10_4⟩:=k31_openM hM10;have hx10_0:w11.cell? ⟨go10,(x4_1:Int).toNat * 5,none⟩ = some (.int .i64 ((rd_T31 x3_1 x4_1).f0)):=hcc10 0 _ rfl;have hx10_1:w11.cell? ⟨go10,(x4_1:Int).toNat * 5 + 1,none⟩ = some (.int .i64 ((rd_T31 x3_1 x4_1).f1)):=hcc10 1 _ rfl;have hx10_2:w11.cell? ⟨go10,(x4_1:Int).toNat * 5 + 2,none⟩ = some (.string ((rd_T31 x3_1 x4_1).f2)):=hcc10 2 _ rfl;have hx10_3:w11.cell? ⟨go10,(x4_1:Int).toNat * 5 + 3,none⟩ = some (ve10_3):=hcc10 3 _ rfl;have hx10_4:w11.cell? ⟨go10,(x4_1:Int).toNat * 5 + 4,none⟩ = some (ve10_4):=hcc10 4 _ rfl;have hf10_0:w11.frozen? ⟨go10,(x4_1:Int).toNat * 5,none⟩ = false:=hfr10 0;have hf10_1:w11.frozen? ⟨go10,(x4_1:Int).toNat * 5 + 1,none⟩ = false:=hfr10 1;have hf10_2:w11.frozen? ⟨go10,(x4_1:Int).toNat * 5 + 2,none⟩ = false:=hfr10 2;have hf10_3:w11.frozen? ⟨go10,(x4_1:Int).toNat * 5 + 3,none⟩ = false:=hfr10 3;have hf10_4:w11.frozen? ⟨go10,(x4_1:Int).toNat * 5 + 4,none⟩ = false:=hfr10 4;clear hcl10 hcc10 hfr10 hM10;replace p10:=eq_true p10;replace q10:=eq_true q10;obtain ⟨Ao12,co12,eo12⟩:=Kd.R_slice HO179.out;subst eo12;obtain ⟨Ao13,co13,eo13⟩:=Kd.R_slice HO176.out;subst eo13;have n_:=Aside0.mk (Kd.R_mono (ok':=(fun k_=>some k_≠(.slice Ao13 t174.length co13:Value).ownBlock∧some k_≠(.slice Ao12 t177.length co12:Value).ownBlock)) HO_3.out (fun k_ hk=>⟨hk.1.2,hk.2⟩));clear HO_3;have HO_3:=n_;clear n_;have HX14:=Aside0.mk (show Kd.R k31 31 w11 w.heap.size (fun _=>True) (.slice (some ⟨go10,0,none⟩) x3_1.length co10) x3_1 from (by (with_reducible repeat (first|apply Kd.R_alloc|apply Kd.R_drewN|apply Kd.R_drew));exact Kd.R_mono HO_3.out (fun _ hk=>trivial)));obtain ⟨ce14,hcl14,hM14,hcc14,hfr14⟩:=Kd.R_elem HX14.out z31 (x4_1:Int) (of_decide_eq_true (by first|(with_reducible assumption)|assumption)) (by have h_:(x4_1:Int) < ((x3_1.length:Int):Int):=of_decide_eq_true (by first|(with_reducible assumption)|assumption);first|exact h_|(have e_:=(Kd.R_reads' HO_3.out).1;omega)|simpa using h_);obtain ⟨ve14_3,ve14_4,rfl,ge14_3,ge14_4⟩:=k31_openM hM14;have HP14:=Kd.R_seg HX14.out (x4_1:Int) (of_decide_eq_true (by first|(with_reducible assumption)|assumption)) (by have h_:(x4_1:Int) < ((x3_1.length:Int):Int):=of_decide_eq_true (by first|(with_reducible assumption)|assumption);first|exact h_|(have e_:=(Kd.R_reads' HO_3.out).1;omega)|simpa using h_) (seg:=[.int .i64 t171,.int .i64 t172,.string t173,.slice Ao13 t174.length co13,.slice Ao12 t177.length co12]) (j:=0) hcl14 hcc14 (show 5≤5 from by decide) (x':=(⟨t171,t172,t173,t174,t177⟩:S31)) (k31_mkM _ _ _ (⟨t171,t172,t173,t174,t177⟩:S31) (Kd.R_mono (HO176.out) (fun k_ hk=>⟨trivial,fun e_=>(hk.2) (by rw [e_];rfl)⟩)) (Kd.R_mono (HO179.out) (fun k_ hk=>⟨trivial,fun e_=>(hk.2) (by rw [e_];rfl)⟩))) (fun _ hk=>hk);have hx14_0:=hcc14 0 _ rfl;(try simp only [show (k31).sz = 5 from rfl,Nat.mul_one,Nat.add_zero] at hx14_0);have hf14_0:=hfr14 0;(try simp only [show (k31).sz = 5 from rfl,Nat.mul_one,Nat.add_zero] at hf14_0);have hx14_1:=hcc14 1 _ rfl;(try simp only [show (k31).sz = 5 from rfl,Nat.mul_one,Nat.add_zero] at hx14_1);have hf14_1:=hfr14 1;(try simp only [show (k31).sz = 5 from rfl,Nat.mul_one,Nat.add_zero] at hf14_1);have hx14_2:=hcc14 2 _ rfl;(try simp only [show (k31).sz = 5 from rfl,Nat.mul_one,Nat.add_zero] at hx14_2);have hf14_2:=hfr14 2;(try simp only [show (k31).sz = 5 from rfl,Nat.mul_one,Nat.add_zero] at hf14_2);have hx14_3:=hcc14 3 _ rfl;(try simp only [show (k31).sz = 5 from rfl,Nat.mul_one,Nat.add_zero] at hx14_3);have hf14_3:=hfr14 3;(try simp only [show (k31).sz = 5 from rfl,Nat.mul_one,Nat.add_zero] at hf14_3);have hx14_4:=hcc14 4 _ rfl;(try simp only [show (k31).sz = 5 from rfl,Nat.mul_one,Nat.add_zero] at hx14_4);have hf14_4:=hfr14 4;(try simp only [show (k31).sz = 5 from rfl,Nat.mul_one,Nat.add_zero] at hf14_4);clear hcl14 hcc14 hfr14 hM14)|((with_reducible refine gate_store (t:=31) (p:=21) rfl ?_);refine store_event (t:=31) (p:=21) (v:=?vo_w15) (w1:=(((((w11.setCell ⟨go10,(x4_1:Int).toNat * 5,none⟩ (.int .i64 t171)).setCell ⟨go10,(x4_1:Int).toNat * 5 + 1,none⟩ (.int .i64 t172)).setCell ⟨go10,(x4_1:Int).toNat * 5 + 2,none⟩ (.string t173)).setCell ⟨go10,(x4_1:Int).toNat * 5 + 3,none⟩ (.slice Ao13 t174.length co13)).setCell ⟨go10,(x4_1:Int).toNat * 5 + 4,none⟩ (.slice Ao12 t177.length co12))) ?hg ?ho ?hn ?hr ?_;(case ho=>rfl);(case hg=>rfl);(case hn=>rfl);(case hr=>first|(go_simp;done)|(go_simp;rfl));intro w15 hw;have hg:w11.grownBy w15 (some go10):=(by rw [hw];exact HP14.2);have hp_:Kd.R k31 31 w15 w.heap.size (fun _=>True) (.slice (some ⟨go10,0,none⟩) x3_1.length co10) y180:=(by rw [hw,Ny180.out];exact HP14.1);clear HP14;have n0_:=Aside0.mk (hp_);have n1_:=Aside0.mk ((by rw [hw];exact below_set (below_set (below_set (below_set (below_set (HB.out) GB10.out) GB10.out) GB10.out) GB10.out) GB10.out:Below w.heap.size w w15));clear HO_3;clear HB;clear HO176;clear HO179;have HO_3:=n0_;have HB:=n1_;clear n0_ n1_;clear hg hw hp_))
        go_roundg k1
        case measure=>have:=HK1.out;omega
        case rel=>exact ⟨(y180),(wrap64 (x4_1 + 1)),(by first|rfl|(simp;done)|(simp [*];done)),H',⟨by have:=HK1.out;omega⟩,⟨by (with_reducible repeat (first|apply Kd.R_alloc|apply Kd.R_drewN|apply Kd.R_drew));exact HO_3.out⟩,⟨by repeat (first|(with_reducible first|exact HB.out|apply below_alloc|apply pw_below_drewN|apply below_drew1)|exact HB.out)⟩⟩
       ·rw [if_neg c9] at H
        exact absurd H (by simp)
      ·rw [if_neg c7] at H
       exact absurd H (by simp)
     ·rw [if_neg c6] at H
      have c6b0:decide (x4_1 < (l0.length:Int)) = false:=decide_eq_false c6
      clear c6
      obtain rfl:=Option.some.inj H
      go_wp2
      go_ret
      exact ⟨_,by first|rfl|(simp [*,errW_none,errW_some] <;> rfl),by (with_reducible repeat (first|apply Kd.R_alloc|apply Kd.R_drewN|apply Kd.R_drew));exact HO_3.out,by repeat (first|(with_reducible first|exact HB.out|apply below_alloc|apply pw_below_drewN|apply below_drew1)|exact HB.out)⟩
  ·rw [if_neg c3] at H
   exact absurd H (by simp)
 ·rw [if_neg c2] at H
  exact absurd H (by simp)

/-! ### laws_toClause: function 21 -/
set_option maxHeartbeats 8000000 in
set_option maxRecDepth 100000 in
theorem laws_toClause.step (k:Nat) (ih_laws_toExprS:∀ k_,k_ < k → ∀ (A0:Option Addr) (c0:Nat) (l0:List (S25)) (r:List (S31)) (w:World) (hr0:Kd.C k25 w A0 l0.length l0) (hc0:l0.length≤c0) (h:laws_toExprS.f k_ l0 = some r),Calls Try.prog 12 #[.slice A0 l0.length c0] w fun e w'=>∃ v0_:Value,e = .returned (v0_)∧Kd.R k31 31 w' w.heap.size (fun _=>True) v0_ r∧Below w.heap.size w w') (ih_laws_toClause:∀ k_,k_ < k → ∀ (a0_0:Int) (a0_1:Int) (a0_2:ByteArray) (A0_3:Option Addr) (c0_3:Nat) (l0_3:List (S25)) (A0_4:Option Addr) (c0_4:Nat) (l0_4:List (S48)) (a0_5:Int) (a0_6:Int) (a0_7:ByteArray) (A0_8:Option Addr) (c0_8:Nat) (l0_8:List (S25)) (A0_9:Option Addr) (c0_9:Nat) (l0_9:List (S48)) (r1:Int) (r2:Int) (r3:ByteArray) (r4:List (S31)) (r5:List (S53)) (r6:Int) (r7:Int) (r8:ByteArray) (r9:List (S31)) (r10:List (S53)) (w:World) (hr0_3:Kd.C k25 w A0_3 l0_3.length l0_3) (hc0_3:l0_3.length≤c0_3) (hr0_4:Kd.C k48 w A0_4 l0_4.length l0_4) (hc0_4:l0_4.length≤c0_4) (hr0_8:Kd.C k25 w A0_8 l0_8.length l0_8) (hc0_8:l0_8.length≤c0_8) (hr0_9:Kd.C k48 w A0_9 l0_9.length l0_9) (hc0_9:l0_9.length≤c0_9) (h:laws_toClause.f k_ a0_0 a0_1 a0_2 l0_3 l0_4 a0_5 a0_6 a0_7 l0_8 l0_9 = some (r1,r2,r3,r4,r5,r6,r7,r8,r9,r10)),Calls Try.prog 21 #[.agg #[.int .i64 a0_0,.int .i64 a0_1,.string a0_2,.slice A0_3 l0_3.length c0_3,.slice A0_4 l0_4.length c0_4,.int .i64 a0_5,.int .i64 a0_6,.string a0_7,.slice A0_8 l0_8.length c0_8,.slice A0_9 l0_9.length c0_9]] w fun e w'=>∃ v3_ v4_ v8_ v9_:Value,e = .returned (.agg #[.int .i64 r1,.int .i64 r2,.string r3,v3_,v4_,.int .i64 r6,.int .i64 r7,.string r8,v8_,v9_])∧Kd.R k31 31 w' w.heap.size (fun k_=>some k_≠(v4_:Value).ownBlock∧some k_≠(v8_:Value).ownBlock∧some k_≠(v9_:Value).ownBlock) v3_ r4∧Kd.R k53 53 w' w.heap.size (fun k_=>some k_≠(v3_:Value).ownBlock∧some k_≠(v8_:Value).ownBlock∧some k_≠(v9_:Value).ownBlock) v4_ r5∧Kd.R k31 31 w' w.heap.size (fun k_=>some k_≠(v3_:Value).ownBlock∧some k_≠(v4_:Value).ownBlock∧some k_≠(v9_:Value).ownBlock) v8_ r9∧Kd.R k53 53 w' w.heap.size (fun k_=>some k_≠(v3_:Value).ownBlock∧some k_≠(v4_:Value).ownBlock∧some k_≠(v8_:Value).ownBlock) v9_ r10∧Below w.heap.size w w') (ih_laws_toClauseS:∀ k_,k_ < k → ∀ (A0:Option Addr) (c0:Nat) (l0:List (S48)) (r:List (S53)) (w:World) (hr0:Kd.C k48 w A0 l0.length l0) (hc0:l0.length≤c0) (h:laws_toClauseS.f k_ l0 = some r),Calls Try.prog 13 #[.slice A0 l0.length c0] w fun e w'=>∃ v0_:Value,e = .returned (v0_)∧Kd.R k53 53 w' w.heap.size (fun _=>True) v0_ r∧Below w.heap.size w w') (ih_laws_toExpr:∀ k_,k_ < k → ∀ (a0_0:Int) (a0_1:Int) (a0_2:ByteArray) (A0_3:Option Addr) (c0_3:Nat) (l0_3:List (S25)) (A0_4:Option Addr) (c0_4:Nat) (l0_4:List (S48)) (r1:Int) (r2:Int) (r3:ByteArray) (r4:List (S31)) (r5:List (S53)) (w:World) (hr0_3:Kd.C k25 w A0_3 l0_3.length l0_3) (hc0_3:l0_3.length≤c0_3) (hr0_4:Kd.C k48 w A0_4 l0_4.length l0_4) (hc0_4:l0_4.length≤c0_4) (h:laws_toExpr.f k_ a0_0 a0_1 a0_2 l0_3 l0_4 = some (r1,r2,r3,r4,r5)),Calls Try.prog 6 #[.agg #[.int .i64 a0_0,.int .i64 a0_1,.string a0_2,.slice A0_3 l0_3.length c0_3,.slice A0_4 l0_4.length c0_4]] w fun e w'=>∃ v3_ v4_:Value,e = .returned (.agg #[.int .i64 r1,.int .i64 r2,.string r3,v3_,v4_])∧Kd.R k31 31 w' w.heap.size (fun k_=>some k_≠(v4_:Value).ownBlock) v3_ r4∧Kd.R k53 53 w' w.heap.size (fun k_=>some k_≠(v3_:Value).ownBlock) v4_ r5∧Below w.heap.size w w'):∀ (a0_0:Int) (a0_1:Int) (a0_2:ByteArray) (A0_3:Option Addr) (c0_3:Nat) (l0_3:List (S25)) (A0_4:Option Addr) (c0_4:Nat) (l0_4:List (S48)) (a0_5:Int) (a0_6:Int) (a0_7:ByteArray) (A0_8:Option Addr) (c0_8:Nat) (l0_8:List (S25)) (A0_9:Option Addr) (c0_9:Nat) (l0_9:List (S48)) (r1:Int) (r2:Int) (r3:ByteArray) (r4:List (S31)) (r5:List (S53)) (r6:Int) (r7:Int) (r8:ByteArray) (r9:List (S31)) (r10:List (S53)) (w:World) (hr0_3:Kd.C k25 w A0_3 l0_3.length l0_3) (hc0_3:l0_3.length≤c0_3) (hr0_4:Kd.C k48 w A0_4 l0_4.length l0_4) (hc0_4:l0_4.length≤c0_4) (hr0_8:Kd.C k25 w A0_8 l0_8.length l0_8) (hc0_8:l0_8.length≤c0_8) (hr0_9:Kd.C k48 w A0_9 l0_9.length l0_9) (hc0_9:l0_9.length≤c0_9) (h:laws_toClause.f k a0_0 a0_1 a0_2 l0_3 l0_4 a0_5 a0_6 a0_7 l0_8 l0_9 = some (r1,r2,r3,r4,r5,r6,r7,r8,r9,r10)),
  Calls Try.prog 21 #[.agg #[.int .i64 a0_0,.int .i64 a0_1,.string a0_2,.slice A0_3 l0_3.length c0_3,.slice A0_4 l0_4.length c0_4,.int .i64 a0_5,.int .i64 a0_6,.string a0_7,.slice A0_8 l0_8.length c0_8,.slice A0_9 l0_9.length c0_9]] w fun e w'=>∃ v3_ v4_ v8_ v9_:Value,e = .returned (.agg #[.int .i64 r1,.int .i64 r2,.string r3,v3_,v4_,.int .i64 r6,.int .i64 r7,.string r8,v8_,v9_])∧Kd.R k31 31 w' w.heap.size (fun k_=>some k_≠(v4_:Value).ownBlock∧some k_≠(v8_:Value).ownBlock∧some k_≠(v9_:Value).ownBlock) v3_ r4∧Kd.R k53 53 w' w.heap.size (fun k_=>some k_≠(v3_:Value).ownBlock∧some k_≠(v8_:Value).ownBlock∧some k_≠(v9_:Value).ownBlock) v4_ r5∧Kd.R k31 31 w' w.heap.size (fun k_=>some k_≠(v3_:Value).ownBlock∧some k_≠(v4_:Value).ownBlock∧some k_≠(v9_:Value).ownBlock) v8_ r9∧Kd.R k53 53 w' w.heap.size (fun k_=>some k_≠(v3_:Value).ownBlock∧some k_≠(v4_:Value).ownBlock∧some k_≠(v8_:Value).ownBlock) v9_ r10∧Below w.heap.size w w':=by
 intro a0_0 a0_1 a0_2 A0_3 c0_3 l0_3 A0_4 c0_4 l0_4 a0_5 a0_6 a0_7 A0_8 c0_8 l0_8 A0_9 c0_9 l0_9 r1 r2 r3 r4 r5 r6 r7 r8 r9 r10 w hr0_3 hc0_3 hr0_4 hc0_4 hr0_8 hc0_8 hr0_9 hc0_9 h
 cases k with
 | zero=>exact absurd h (by simp [laws_toClause.f])
 | succ k =>
 simp only [laws_toClause.f] at h
 have hu48:=Try.underlying48
 have hu53:=Try.underlying53
 have hu25:=Try.underlying25
 have hu31:=Try.underlying31
 have HR0_3:=Aside0.mk hr0_3
 have HC0_3:=Aside0.mk hc0_3
 clear hr0_3 hc0_3
 have HR0_4:=Aside0.mk hr0_4
 have HC0_4:=Aside0.mk hc0_4
 clear hr0_4 hc0_4
 have HR0_8:=Aside0.mk hr0_8
 have HC0_8:=Aside0.mk hc0_8
 clear hr0_8 hc0_8
 have HR0_9:=Aside0.mk hr0_9
 have HC0_9:=Aside0.mk hc0_9
 clear hr0_9 hc0_9
 have HB:=Aside0.mk (Below.refl w.heap.size w)
 have H:((laws_toExpr.f k a0_0 a0_1 a0_2 l0_3 l0_4).bind fun bt184=>((laws_toExpr.f k a0_5 a0_6 a0_7 l0_8 l0_9).bind fun bt193=>(some (bt184.1,bt184.2.1,bt184.2.2.1,bt184.2.2.2.1,bt184.2.2.2.2,bt193.1,bt193.2.1,bt193.2.2.1,bt193.2.2.2.1,bt193.2.2.2.2)))) = some (r1,r2,r3,r4,r5,r6,r7,r8,r9,r10):=h
 clear h
 replace H:=Option.bind_eq_some_iff.mp H
 obtain ⟨⟨t184,t185,t186,t187,t190⟩,A20,H⟩:=H
 replace H:((laws_toExpr.f k a0_5 a0_6 a0_7 l0_8 l0_9).bind fun bt193=>(some (t184,t185,t186,t187,t190,bt193.1,bt193.2.1,bt193.2.2.1,bt193.2.2.2.1,bt193.2.2.2.2))) = some (r1,r2,r3,r4,r5,r6,r7,r8,r9,r10):=H
 have A2:=Aside0.mk A20
 clear A20
 replace H:=Option.bind_eq_some_iff.mp H
 obtain ⟨⟨t193,t194,t195,t196,t199⟩,A30,H⟩:=H
 replace H:(some (t184,t185,t186,t187,t190,t193,t194,t195,t196,t199)) = some (r1,r2,r3,r4,r5,r6,r7,r8,r9,r10):=H
 have A3:=Aside0.mk A30
 clear A30
 simp only [Option.some.injEq,Prod.mk.injEq] at H
 obtain ⟨rfl,rfl,rfl,rfl,rfl,rfl,rfl,rfl,rfl,rfl⟩:=H
 go_enter Try.func21,Try.ntmps21
 go_wp2_with (first|((with_reducible refine gate_dst (N:=1) rfl ?_);refine box_event ?hg (N:=1) ?hd (cs:=#[.int .i64 a0_0,.int .i64 a0_1,.string a0_2,.slice A0_3 l0_3.length c0_3,.slice A0_4 l0_4.length c0_4,.int .i64 a0_5,.int .i64 a0_6,.string a0_7,.slice A0_8 l0_8.length c0_8,.slice A0_9 l0_9.length c0_9]) (t:=48) ?hr ?_;(case hd=>rfl);(case hg=>rfl);(case hr=>first|(go_simp;done)|(go_simp;rfl));intro gb181 hg w4 hbox hb;have n0_:=Aside0.mk (below_step (by repeat (first|(with_reducible first|exact HB.out|apply below_alloc|apply pw_below_drewN|apply below_drew1)|exact HB.out)) hb);have n1_:=Aside0.mk (hbox);have n2_:=Aside0.mk ((by rw [hg];exact (below_size (by repeat (first|(with_reducible first|exact HB.out|apply below_alloc|apply pw_below_drewN|apply below_drew1)|exact HB.out))):w.heap.size≤gb181));have n3_:=Aside0.mk ((by rw [hg];exact (below_size (by repeat (first|(with_reducible first|exact HB.out|apply below_alloc|apply pw_below_drewN|apply below_drew1)|exact HB.out))):w.heap.size≤gb181));clear HB;have HB:=n0_;have BK181:=n1_;have GW181:=n2_;have GE181:=n3_;clear n0_ n1_ n2_ n3_;clear hb hbox hg)|((with_reducible refine gate_dst (N:=2) rfl ?_);refine box_event ?hg (N:=2) ?hd (cs:=#[.int .i64 0,.int .i64 0,.string (⟨#[]⟩:ByteArray),.slice none 0 0,.slice none 0 0,.int .i64 0,.int .i64 0,.string (⟨#[]⟩:ByteArray),.slice none 0 0,.slice none 0 0]) (t:=53) ?hr ?_;(case hd=>rfl);(case hg=>rfl);(case hr=>first|(go_simp;done)|(go_simp;rfl));intro gb182 hg w5 hbox hb;have n0_:=Aside0.mk (blk_below (g:=gb181) (o:=.cells #[.int .i64 a0_0,.int .i64 a0_1,.string a0_2,.slice A0_3 l0_3.length c0_3,.slice A0_4 l0_4.length c0_4,.int .i64 a0_5,.int .i64 a0_6,.string a0_7,.slice A0_8 l0_8.length c0_8,.slice A0_9 l0_9.length c0_9] 48 (0,0)) (by (with_reducible repeat (first|refine blk_drewN ?_ _|refine blk_drew ?_|refine blk_alloc ?_ _));exact BK181.out) hb);have n1_:=Aside0.mk (below_step (by repeat (first|(with_reducible first|exact HB.out|apply below_alloc|apply pw_below_drewN|apply below_drew1|refine below_set ?_ GE181.out)|exact HB.out)) hb);have n2_:=Aside0.mk (hbox);have n3_:=Aside0.mk ((by rw [hg];exact (below_size (by repeat (first|(with_reducible first|exact HB.out|apply below_alloc|apply pw_below_drewN|apply below_drew1|refine below_set ?_ GE181.out)|exact HB.out))):w.heap.size≤gb182));have n4_:=Aside0.mk ((by rw [hg];exact (below_size (by repeat (first|(with_reducible first|exact HB.out|apply below_alloc|apply pw_below_drewN|apply below_drew1|refine below_set ?_ GE181.out)|exact HB.out))):w.heap.size≤gb182));have n5_:=Aside0.mk ((by rw [hg];exact Nat.ne_of_lt (blk_lt (g:=gb181) (o:=.cells #[.int .i64 a0_0,.int .i64 a0_1,.string a0_2,.slice A0_3 l0_3.length c0_3,.slice A0_4 l0_4.length c0_4,.int .i64 a0_5,.int .i64 a0_6,.string a0_7,.slice A0_8 l0_8.length c0_8,.slice A0_9 l0_9.length c0_9] 48 (0,0)) (by (with_reducible repeat (first|refine blk_drewN ?_ _|refine blk_drew ?_|refine blk_alloc ?_ _));exact BK181.out)):gb181≠gb182));have n6_:=Aside0.mk ((by rw [hg];exact Nat.ne_of_gt (blk_lt (g:=gb181) (o:=.cells #[.int .i64 a0_0,.int .i64 a0_1,.string a0_2,.slice A0_3 l0_3.length c0_3,.slice A0_4 l0_4.length c0_4,.int .i64 a0_5,.int .i64 a0_6,.string a0_7,.slice A0_8 l0_8.length c0_8,.slice A0_9 l0_9.length c0_9] 48 (0,0)) (by (with_reducible repeat (first|refine blk_drewN ?_ _|refine blk_drew ?_|refine blk_alloc ?_ _));exact BK181.out)):gb182≠gb181));clear BK181;clear HB;have BK181:=n0_;have HB:=n1_;have BK182:=n2_;have GW182:=n3_;have GE182:=n4_;have NB181_182:=n5_;have NB182_181:=n6_;clear n0_ n1_ n2_ n3_ n4_ n5_ n6_;clear hb hbox hg)|((with_reducible refine gate_dst (N:=3) rfl ?_);refine box_event ?hg (N:=3) ?hd (cs:=#[.int .i64 0,.int .i64 0,.string (⟨#[]⟩:ByteArray),.slice none 0 0,.slice none 0 0,.int .i64 0,.int .i64 0,.string (⟨#[]⟩:ByteArray),.slice none 0 0,.slice none 0 0]) (t:=53) ?hr ?_;(case hd=>rfl);(case hg=>rfl);(case hr=>first|(go_simp;done)|(go_simp;rfl));intro gb183 hg w6 hbox hb;have n0_:=Aside0.mk (blk_below (g:=gb181) (o:=.cells #[.int .i64 a0_0,.int .i64 a0_1,.string a0_2,.slice A0_3 l0_3.length c0_3,.slice A0_4 l0_4.length c0_4,.int .i64 a0_5,.int .i64 a0_6,.string a0_7,.slice A0_8 l0_8.length c0_8,.slice A0_9 l0_9.length c0_9] 48 (0,0)) (by (with_reducible repeat (first|refine blk_drewN ?_ _|refine blk_drew ?_|refine blk_alloc ?_ _));exact BK181.out) hb);have n1_:=Aside0.mk (blk_below (g:=gb182) (o:=.cells #[.int .i64 0,.int .i64 0,.string (⟨#[]⟩:ByteArray),.slice none 0 0,.slice none 0 0,.int .i64 0,.int .i64 0,.string (⟨#[]⟩:ByteArray),.slice none 0 0,.slice none 0 0] 53 (0,0)) (by (with_reducible repeat (first|refine blk_drewN ?_ _|refine blk_drew ?_|refine blk_alloc ?_ _));exact BK182.out) hb);have n2_:=Aside0.mk (below_step (by repeat (first|(with_reducible first|exact HB.out|apply below_alloc|apply pw_below_drewN|apply below_drew1|refine below_set ?_ GE181.out|refine below_set ?_ GE182.out)|exact HB.out)) hb);have n3_:=Aside0.mk (hbox);have n4_:=Aside0.mk ((by rw [hg];exact (below_size (by repeat (first|(with_reducible first|exact HB.out|apply below_alloc|apply pw_below_drewN|apply below_drew1|refine below_set ?_ GE181.out|refine below_set ?_ GE182.out)|exact HB.out))):w.heap.size≤gb183));have n5_:=Aside0.mk ((by rw [hg];exact (below_size (by repeat (first|(with_reducible first|exact HB.out|apply below_alloc|apply pw_below_drewN|apply below_drew1|refine below_set ?_ GE181.out|refine below_set ?_ GE182.out)|exact HB.out))):w.heap.size≤gb183));have n6_:=Aside0.mk ((by rw [hg];exact Nat.ne_of_lt (blk_lt (g:=gb181) (o:=.cells #[.int .i64 a0_0,.int .i64 a0_1,.string a0_2,.slice A0_3 l0_3.length c0_3,.slice A0_4 l0_4.length c0_4,.int .i64 a0_5,.int .i64 a0_6,.string a0_7,.slice A0_8 l0_8.length c0_8,.slice A0_9 l0_9.length c0_9] 48 (0,0)) (by (with_reducible repeat (first|refine blk_drewN ?_ _|refine blk_drew ?_|refine blk_alloc ?_ _));exact BK181.out)):gb181≠gb183));have n7_:=Aside0.mk ((by rw [hg];exact Nat.ne_of_gt (blk_lt (g:=gb181) (o:=.cells #[.int .i64 a0_0,.int .i64 a0_1,.string a0_2,.slice A0_3 l0_3.length c0_3,.slice A0_4 l0_4.length c0_4,.int .i64 a0_5,.int .i64 a0_6,.string a0_7,.slice A0_8 l0_8.length c0_8,.slice A0_9 l0_9.length c0_9] 48 (0,0)) (by (with_reducible repeat (first|refine blk_drewN ?_ _|refine blk_drew ?_|refine blk_alloc ?_ _));exact BK181.out)):gb183≠gb181));have n8_:=Aside0.mk ((by rw [hg];exact Nat.ne_of_lt (blk_lt (g:=gb182) (o:=.cells #[.int .i64 0,.int .i64 0,.string (⟨#[]⟩:ByteArray),.slice none 0 0,.slice none 0 0,.int .i64 0,.int .i64 0,.string (⟨#[]⟩:ByteArray),.slice none 0 0,.slice none 0 0] 53 (0,0)) (by (with_reducible repeat (first|refine blk_drewN ?_ _|refine blk_drew ?_|refine blk_alloc ?_ _));exact BK182.out)):gb182≠gb183));have n9_:=Aside0.mk ((by rw [hg];exact Nat.ne_of_gt (blk_lt (g:=gb182) (o:=.cells #[.int .i64 0,.int .i64 0,.string (⟨#[]⟩:ByteArray),.slice none 0 0,.slice none 0 0,.int .i64 0,.int .i64 0,.string (⟨#[]⟩:ByteArray),.slice none 0 0,.slice none 0 0] 53 (0,0)) (by (with_reducible repeat (first|refine blk_drewN ?_ _|refine blk_drew ?_|refine blk_alloc ?_ _));exact BK182.out)):gb183≠gb182));clear BK181;clear BK182;clear HB;have BK181:=n0_;have BK182:=n1_;have HB:=n2_;have BK183:=n3_;have GW183:=n4_;have GE183:=n5_;have NB181_183:=n6_;have NB183_181:=n7_;have NB182_183:=n8_;have NB183_182:=n9_;clear n0_ n1_ n2_ n3_ n4_ n5_ n6_ n7_ n8_ n9_;clear hb hbox hg;have hnb7:=NB181_182.out;have hnc7:=NB182_181.out;have hnb8:=NB181_183.out;have hnc8:=NB183_181.out;have hcz9_0:w6.cell? ⟨gb181,0,none⟩ = some (.int .i64 a0_0):=(blk_cell BK181.out 0).trans rfl;have hcz9_1:w6.cell? ⟨gb181,1,none⟩ = some (.int .i64 a0_1):=(blk_cell BK181.out 1).trans rfl;have hcz9_2:w6.cell? ⟨gb181,2,none⟩ = some (.string a0_2):=(blk_cell BK181.out 2).trans rfl;have hcz9_3:w6.cell? ⟨gb181,3,none⟩ = some (.slice A0_3 l0_3.length c0_3):=(blk_cell BK181.out 3).trans rfl;have hcz9_4:w6.cell? ⟨gb181,4,none⟩ = some (.slice A0_4 l0_4.length c0_4):=(blk_cell BK181.out 4).trans rfl;have hcz9_5:w6.cell? ⟨gb181,5,none⟩ = some (.int .i64 a0_5):=(blk_cell BK181.out 5).trans rfl;have hcz9_6:w6.cell? ⟨gb181,6,none⟩ = some (.int .i64 a0_6):=(blk_cell BK181.out 6).trans rfl;have hcz9_7:w6.cell? ⟨gb181,7,none⟩ = some (.string a0_7):=(blk_cell BK181.out 7).trans rfl;have hcz9_8:w6.cell? ⟨gb181,8,none⟩ = some (.slice A0_8 l0_8.length c0_8):=(blk_cell BK181.out 8).trans rfl;have hcz9_9:w6.cell? ⟨gb181,9,none⟩ = some (.slice A0_9 l0_9.length c0_9):=(blk_cell BK181.out 9).trans rfl;have hfz9_0:=blk_frozen BK181.out 0;have hfz9_1:=blk_frozen BK181.out 1;have hfz9_2:=blk_frozen BK181.out 2;have hfz9_3:=blk_frozen BK181.out 3;have hfz9_4:=blk_frozen BK181.out 4;have hfz9_5:=blk_frozen BK181.out 5;have hfz9_6:=blk_frozen BK181.out 6;have hfz9_7:=blk_frozen BK181.out 7;have hfz9_8:=blk_frozen BK181.out 8;have hfz9_9:=blk_frozen BK181.out 9)|((with_reducible refine gate_callee (f:=6) rfl ?_);refine goesL_ (some 6) rfl rfl Try.func6 (by kernel_rfl) rfl #[.agg #[.int .i64 a0_0,.int .i64 a0_1,.string a0_2,.slice A0_3 l0_3.length c0_3,.slice A0_4 l0_4.length c0_4]] rfl (by (try simp only [List.map_toArray,List.map_cons,List.map_nil]);first|done|rfl|(simp only [List.length_drop,List.length_take];rfl)) ?_;(with_reducible refine (ih_laws_toExpr k (by omega) a0_0 a0_1 a0_2 _ _ l0_3 _ _ l0_4 t184 t185 t186 t187 t190 _ ?side1 ?side2 ?side3 ?side4 A2.out).mono ?_);(case side1=>repeat (first|exact (Kd.C_below HR0_3.out HB.out)|(with_reducible refine Kd.C_alloc ?_ _)|(with_reducible refine Kd.C_drewN ?_ _)|(with_reducible refine Kd.C_drew ?_)));(case side2=>exact HC0_3.out);(case side3=>repeat (first|exact (Kd.C_below HR0_4.out HB.out)|(with_reducible refine Kd.C_alloc ?_ _)|(with_reducible refine Kd.C_drewN ?_ _)|(with_reducible refine Kd.C_drew ?_)));(case side4=>exact HC0_4.out);rintro e w10 ⟨v188,v191,rfl,ho0,ho1,hb⟩;refine ⟨_,rfl,?_⟩;have n0_:=Aside0.mk (Kd.R_lower (Kd.R_newB (Kd.R_newB ho0 (g:=gb182) (o:=.cells #[.int .i64 0,.int .i64 0,.string (⟨#[]⟩:ByteArray),.slice none 0 0,.slice none 0 0,.int .i64 0,.int .i64 0,.string (⟨#[]⟩:ByteArray),.slice none 0 0,.slice none 0 0] 53 (0,0)) (by (with_reducible repeat (first|refine blk_drewN ?_ _|refine blk_drew ?_|refine blk_alloc ?_ _));exact BK182.out)) (g:=gb183) (o:=.cells #[.int .i64 0,.int .i64 0,.string (⟨#[]⟩:ByteArray),.slice none 0 0,.slice none 0 0,.int .i64 0,.int .i64 0,.string (⟨#[]⟩:ByteArray),.slice none 0 0,.slice none 0 0] 53 (0,0)) (by (with_reducible repeat (first|refine blk_drewN ?_ _|refine blk_drew ?_|refine blk_alloc ?_ _));exact BK183.out)) (below_size (by repeat (first|(with_reducible first|exact HB.out|apply below_alloc|apply pw_below_drewN|apply below_drew1|refine below_set ?_ GE181.out|refine below_set ?_ GE182.out|refine below_set ?_ GE183.out)|exact HB.out))));have n1_:=Aside0.mk (Kd.R_lower (Kd.R_newB (Kd.R_newB ho1 (g:=gb182) (o:=.cells #[.int .i64 0,.int .i64 0,.string (⟨#[]⟩:ByteArray),.slice none 0 0,.slice none 0 0,.int .i64 0,.int .i64 0,.string (⟨#[]⟩:ByteArray),.slice none 0 0,.slice none 0 0] 53 (0,0)) (by (with_reducible repeat (first|refine blk_drewN ?_ _|refine blk_drew ?_|refine blk_alloc ?_ _));exact BK182.out)) (g:=gb183) (o:=.cells #[.int .i64 0,.int .i64 0,.string (⟨#[]⟩:ByteArray),.slice none 0 0,.slice none 0 0,.int .i64 0,.int .i64 0,.string (⟨#[]⟩:ByteArray),.slice none 0 0,.slice none 0 0] 53 (0,0)) (by (with_reducible repeat (first|refine blk_drewN ?_ _|refine blk_drew ?_|refine blk_alloc ?_ _));exact BK183.out)) (below_size (by repeat (first|(with_reducible first|exact HB.out|apply below_alloc|apply pw_below_drewN|apply below_drew1|refine below_set ?_ GE181.out|refine below_set ?_ GE182.out|refine below_set ?_ GE183.out)|exact HB.out))));have n2_:=Aside0.mk (blk_below (g:=gb181) (o:=.cells #[.int .i64 a0_0,.int .i64 a0_1,.string a0_2,.slice A0_3 l0_3.length c0_3,.slice A0_4 l0_4.length c0_4,.int .i64 a0_5,.int .i64 a0_6,.string a0_7,.slice A0_8 l0_8.length c0_8,.slice A0_9 l0_9.length c0_9] 48 (0,0)) (by (with_reducible repeat (first|refine blk_drewN ?_ _|refine blk_drew ?_|refine blk_alloc ?_ _));exact BK181.out) hb);have n3_:=Aside0.mk (blk_below (g:=gb182) (o:=.cells #[.int .i64 0,.int .i64 0,.string (⟨#[]⟩:ByteArray),.slice none 0 0,.slice none 0 0,.int .i64 0,.int .i64 0,.string (⟨#[]⟩:ByteArray),.slice none 0 0,.slice none 0 0] 53 (0,0)) (by (with_reducible repeat (first|refine blk_drewN ?_ _|refine blk_drew ?_|refine blk_alloc ?_ _));exact BK182.out) hb);have n4_:=Aside0.mk (blk_below (g:=gb183) (o:=.cells #[.int .i64 0,.int .i64 0,.string (⟨#[]⟩:ByteArray),.slice none 0 0,.slice none 0 0,.int .i64 0,.int .i64 0,.string (⟨#[]⟩:ByteArray),.slice none 0 0,.slice none 0 0] 53 (0,0)) (by (with_reducible repeat (first|refine blk_drewN ?_ _|refine blk_drew ?_|refine blk_alloc ?_ _));exact BK183.out) hb);have n5_:=Aside0.mk (below_step (by repeat (first|(with_reducible first|exact HB.out|apply below_alloc|apply pw_below_drewN|apply below_drew1|refine below_set ?_ GE181.out|refine below_set ?_ GE182.out|refine below_set ?_ GE183.out)|exact HB.out)) hb);clear BK181;clear BK182;clear BK183;clear HB;have HO189:=n0_;have HO192:=n1_;have BK181:=n2_;have BK182:=n3_;have BK183:=n4_;have HB:=n5_;clear n0_ n1_ n2_ n3_ n4_ n5_;(try clear hb);(try clear hb2);(try clear hk);(try clear hi);(try clear ho0);(try clear ho1);have hnb11:=NB183_182.out;have hnc11:=NB182_183.out;have hcz12_0:w10.cell? ⟨gb183,0,none⟩ = some (.int .i64 0):=(blk_cell BK183.out 0).trans rfl;have hcz12_1:w10.cell? ⟨gb183,1,none⟩ = some (.int .i64 0):=(blk_cell BK183.out 1).trans rfl;have hcz12_2:w10.cell? ⟨gb183,2,none⟩ = some (.string (⟨#[]⟩:ByteArray)):=(blk_cell BK183.out 2).trans rfl;have hcz12_3:w10.cell? ⟨gb183,3,none⟩ = some (.slice none 0 0):=(blk_cell BK183.out 3).trans rfl;have hcz12_4:w10.cell? ⟨gb183,4,none⟩ = some (.slice none 0 0):=(blk_cell BK183.out 4).trans rfl;have hcz12_5:w10.cell? ⟨gb183,5,none⟩ = some (.int .i64 0):=(blk_cell BK183.out 5).trans rfl;have hcz12_6:w10.cell? ⟨gb183,6,none⟩ = some (.int .i64 0):=(blk_cell BK183.out 6).trans rfl;have hcz12_7:w10.cell? ⟨gb183,7,none⟩ = some (.string (⟨#[]⟩:ByteArray)):=(blk_cell BK183.out 7).trans rfl;have hcz12_8:w10.cell? ⟨gb183,8,none⟩ = some (.slice none 0 0):=(blk_cell BK183.out 8).trans rfl;have hcz12_9:w10.cell? ⟨gb183,9,none⟩ = some (.slice none 0 0):=(blk_cell BK183.out 9).trans rfl;have hfz12_0:=blk_frozen BK183.out 0;have hfz12_1:=blk_frozen BK183.out 1;have hfz12_2:=blk_frozen BK183.out 2;have hfz12_3:=blk_frozen BK183.out 3;have hfz12_4:=blk_frozen BK183.out 4;have hfz12_5:=blk_frozen BK183.out 5;have hfz12_6:=blk_frozen BK183.out 6;have hfz12_7:=blk_frozen BK183.out 7;have hfz12_8:=blk_frozen BK183.out 8;have hfz12_9:=blk_frozen BK183.out 9;obtain ⟨Ao13,co13,eo13⟩:=Kd.R_slice HO189.out;subst eo13;obtain ⟨Ao14,co14,eo14⟩:=Kd.R_slice HO192.out;subst eo14;have hcz15_0:w10.cell? ⟨gb181,0,none⟩ = some (.int .i64 a0_0):=(blk_cell BK181.out 0).trans rfl;have hcz15_1:w10.cell? ⟨gb181,1,none⟩ = some (.int .i64 a0_1):=(blk_cell BK181.out 1).trans rfl;have hcz15_2:w10.cell? ⟨gb181,2,none⟩ = some (.string a0_2):=(blk_cell BK181.out 2).trans rfl;have hcz15_3:w10.cell? ⟨gb181,3,none⟩ = some (.slice A0_3 l0_3.length c0_3):=(blk_cell BK181.out 3).trans rfl;have hcz15_4:w10.cell? ⟨gb181,4,none⟩ = some (.slice A0_4 l0_4.length c0_4):=(blk_cell BK181.out 4).trans rfl;have hcz15_5:w10.cell? ⟨gb181,5,none⟩ = some (.int .i64 a0_5):=(blk_cell BK181.out 5).trans rfl;have hcz15_6:w10.cell? ⟨gb181,6,none⟩ = some (.int .i64 a0_6):=(blk_cell BK181.out 6).trans rfl;have hcz15_7:w10.cell? ⟨gb181,7,none⟩ = some (.string a0_7):=(blk_cell BK181.out 7).trans rfl;have hcz15_8:w10.cell? ⟨gb181,8,none⟩ = some (.slice A0_8 l0_8.length c0_8):=(blk_cell BK181.out 8).trans rfl;have hcz15_9:w10.cell? ⟨gb181,9,none⟩ = some (.slice A0_9 l0_9.length c0_9):=(blk_cell BK181.out 9).trans rfl;have hfz15_0:=blk_frozen BK181.out 0;have hfz15_1:=blk_frozen BK181.out 1;have hfz15_2:=blk_frozen BK181.out 2;have hfz15_3:=blk_frozen BK181.out 3;have hfz15_4:=blk_frozen BK181.out 4;have hfz15_5:=blk_frozen BK181.out 5;have hfz15_6:=blk_frozen BK181.out 6;have hfz15_7:=blk_frozen BK181.out 7;have hfz15_8:=blk_frozen BK181.out 8;have hfz15_9:=blk_frozen BK181.out 9)|((with_reducible refine gate_callee (f:=6) rfl ?_);refine goesL_ (some 10) rfl rfl Try.func6 (by kernel_rfl) rfl #[.agg #[.int .i64 a0_5,.int .i64 a0_6,.string a0_7,.slice A0_8 l0_8.length c0_8,.slice A0_9 l0_9.length c0_9]] rfl (by (try simp only [List.map_toArray,List.map_cons,List.map_nil]);first|done|rfl|(simp only [List.length_drop,List.length_take];rfl)) ?_;(with_reducible refine (ih_laws_toExpr k (by omega) a0_5 a0_6 a0_7 _ _ l0_8 _ _ l0_9 t193 t194 t195 t196 t199 _ ?side1 ?side2 ?side3 ?side4 A3.out).mono ?_);(case side1=>exact Kd.C_below HR0_8.out (by repeat (first|(with_reducible first|exact HB.out|apply below_alloc|apply pw_below_drewN|apply below_drew1|refine below_set ?_ GE181.out|refine below_set ?_ GE182.out|refine below_set ?_ GE183.out)|exact HB.out)));(case side2=>exact HC0_8.out);(case side3=>exact Kd.C_below HR0_9.out (by repeat (first|(with_reducible first|exact HB.out|apply below_alloc|apply pw_below_drewN|apply below_drew1|refine below_set ?_ GE181.out|refine below_set ?_ GE182.out|refine below_set ?_ GE183.out)|exact HB.out)));(case side4=>exact HC0_9.out);rintro e w16 ⟨v197,v200,rfl,ho0,ho1,hb⟩;refine ⟨_,rfl,?_⟩;have n0_:=Aside0.mk (Kd.R_mono (Kd.R_told (Kd.R_told (Kd.R_old (by (with_reducible repeat (first|apply Kd.R_alloc|apply Kd.R_drewN|apply Kd.R_drew));exact (Kd.R_mono (Kd.R_far (p:=⟨gb183,4,none⟩) (Kd.R_far (p:=⟨gb183,3,none⟩) (Kd.R_far (p:=⟨gb183,2,none⟩) (Kd.R_far (p:=⟨gb183,1,none⟩) (Kd.R_far (p:=⟨gb183,0,none⟩) (Kd.R_mono HO189.out (fun k_ hk=>(⟨hk,hk.2⟩:_∧k_≠gb183))) (fun _ hk=>hk.2) (.int .i64 t184)) (fun _ hk=>hk.2) (.int .i64 t185)) (fun _ hk=>hk.2) (.string t186)) (fun _ hk=>hk.2) (.slice Ao13 t187.length co13)) (fun _ hk=>hk.2) (.slice Ao14 t190.length co14)) (fun _ h_=>h_.1))) hb) (Kd.R_base ho0)) (Kd.R_base ho1)) (fun _ h_=>h_.1));have n1_:=Aside0.mk (Kd.R_mono (Kd.R_told (Kd.R_told (Kd.R_old (by (with_reducible repeat (first|apply Kd.R_alloc|apply Kd.R_drewN|apply Kd.R_drew));exact (Kd.R_mono (Kd.R_far (p:=⟨gb183,4,none⟩) (Kd.R_far (p:=⟨gb183,3,none⟩) (Kd.R_far (p:=⟨gb183,2,none⟩) (Kd.R_far (p:=⟨gb183,1,none⟩) (Kd.R_far (p:=⟨gb183,0,none⟩) (Kd.R_mono HO192.out (fun k_ hk=>(⟨hk,hk.2⟩:_∧k_≠gb183))) (fun _ hk=>hk.2) (.int .i64 t184)) (fun _ hk=>hk.2) (.int .i64 t185)) (fun _ hk=>hk.2) (.string t186)) (fun _ hk=>hk.2) (.slice Ao13 t187.length co13)) (fun _ hk=>hk.2) (.slice Ao14 t190.length co14)) (fun _ h_=>h_.1))) hb) (Kd.R_base ho0)) (Kd.R_base ho1)) (fun _ h_=>h_.1));have n2_:=Aside0.mk (Kd.R_lower (Kd.R_newB (Kd.R_newB (Kd.R_new' (Kd.R_new' ho0 (Kd.R_lt (by (with_reducible repeat (first|apply Kd.R_alloc|apply Kd.R_drewN|apply Kd.R_drew));exact (Kd.R_mono (Kd.R_far (p:=⟨gb183,4,none⟩) (Kd.R_far (p:=⟨gb183,3,none⟩) (Kd.R_far (p:=⟨gb183,2,none⟩) (Kd.R_far (p:=⟨gb183,1,none⟩) (Kd.R_far (p:=⟨gb183,0,none⟩) (Kd.R_mono HO189.out (fun k_ hk=>(⟨hk,hk.2⟩:_∧k_≠gb183))) (fun _ hk=>hk.2) (.int .i64 t184)) (fun _ hk=>hk.2) (.int .i64 t185)) (fun _ hk=>hk.2) (.string t186)) (fun _ hk=>hk.2) (.slice Ao13 t187.length co13)) (fun _ hk=>hk.2) (.slice Ao14 t190.length co14)) (fun _ h_=>h_.1))))) (Kd.R_lt (by (with_reducible repeat (first|apply Kd.R_alloc|apply Kd.R_drewN|apply Kd.R_drew));exact (Kd.R_mono (Kd.R_far (p:=⟨gb183,4,none⟩) (Kd.R_far (p:=⟨gb183,3,none⟩) (Kd.R_far (p:=⟨gb183,2,none⟩) (Kd.R_far (p:=⟨gb183,1,none⟩) (Kd.R_far (p:=⟨gb183,0,none⟩) (Kd.R_mono HO192.out (fun k_ hk=>(⟨hk,hk.2⟩:_∧k_≠gb183))) (fun _ hk=>hk.2) (.int .i64 t184)) (fun _ hk=>hk.2) (.int .i64 t185)) (fun _ hk=>hk.2) (.string t186)) (fun _ hk=>hk.2) (.slice Ao13 t187.length co13)) (fun _ hk=>hk.2) (.slice Ao14 t190.length co14)) (fun _ h_=>h_.1))))) (g:=gb182) (o:=.cells #[.int .i64 0,.int .i64 0,.string (⟨#[]⟩:ByteArray),.slice none 0 0,.slice none 0 0,.int .i64 0,.int .i64 0,.string (⟨#[]⟩:ByteArray),.slice none 0 0,.slice none 0 0] 53 (0,0)) (by (with_reducible repeat (first|refine blk_drewN ?_ _|refine blk_drew ?_|refine blk_alloc ?_ _));refine blk_far ?_ NB182_183.out _;(with_reducible repeat (first|refine blk_drewN ?_ _|refine blk_drew ?_|refine blk_alloc ?_ _));refine blk_far ?_ NB182_183.out _;(with_reducible repeat (first|refine blk_drewN ?_ _|refine blk_drew ?_|refine blk_alloc ?_ _));refine blk_far ?_ NB182_183.out _;(with_reducible repeat (first|refine blk_drewN ?_ _|refine blk_drew ?_|refine blk_alloc ?_ _));refine blk_far ?_ NB182_183.out _;(with_reducible repeat (first|refine blk_drewN ?_ _|refine blk_drew ?_|refine blk_alloc ?_ _));refine blk_far ?_ NB182_183.out _;(with_reducible repeat (first|refine blk_drewN ?_ _|refine blk_drew ?_|refine blk_alloc ?_ _));exact BK182.out)) (g:=gb183) (o:=.cells #[.int .i64 t184,.int .i64 t185,.string t186,.slice Ao13 t187.length co13,.slice Ao14 t190.length co14,.int .i64 0,.int .i64 0,.string (⟨#[]⟩:ByteArray),.slice none 0 0,.slice none 0 0] 53 (0,0)) (by (with_reducible repeat (first|refine blk_drewN ?_ _|refine blk_drew ?_|refine blk_alloc ?_ _));refine blk_put (cs:=#[.int .i64 t184,.int .i64 t185,.string t186,.slice Ao13 t187.length co13,.slice none 0 0,.int .i64 0,.int .i64 0,.string (⟨#[]⟩:ByteArray),.slice none 0 0,.slice none 0 0]) ?_ 4 _ rfl;(with_reducible repeat (first|refine blk_drewN ?_ _|refine blk_drew ?_|refine blk_alloc ?_ _));refine blk_put (cs:=#[.int .i64 t184,.int .i64 t185,.string t186,.slice none 0 0,.slice none 0 0,.int .i64 0,.int .i64 0,.string (⟨#[]⟩:ByteArray),.slice none 0 0,.slice none 0 0]) ?_ 3 _ rfl;(with_reducible repeat (first|refine blk_drewN ?_ _|refine blk_drew ?_|refine blk_alloc ?_ _));refine blk_put (cs:=#[.int .i64 t184,.int .i64 t185,.string (⟨#[]⟩:ByteArray),.slice none 0 0,.slice none 0 0,.int .i64 0,.int .i64 0,.string (⟨#[]⟩:ByteArray),.slice none 0 0,.slice none 0 0]) ?_ 2 _ rfl;(with_reducible repeat (first|refine blk_drewN ?_ _|refine blk_drew ?_|refine blk_alloc ?_ _));refine blk_put (cs:=#[.int .i64 t184,.int .i64 0,.string (⟨#[]⟩:ByteArray),.slice none 0 0,.slice none 0 0,.int .i64 0,.int .i64 0,.string (⟨#[]⟩:ByteArray),.slice none 0 0,.slice none 0 0]) ?_ 1 _ rfl;(with_reducible repeat (first|refine blk_drewN ?_ _|refine blk_drew ?_|refine blk_alloc ?_ _));refine blk_put (cs:=#[.int .i64 0,.int .i64 0,.string (⟨#[]⟩:ByteArray),.slice none 0 0,.slice none 0 0,.int .i64 0,.int .i64 0,.string (⟨#[]⟩:ByteArray),.slice none 0 0,.slice none 0 0]) ?_ 0 _ rfl;(with_reducible repeat (first|refine blk_drewN ?_ _|refine blk_drew ?_|refine blk_alloc ?_ _));exact BK183.out)) (below_size (by repeat (first|(with_reducible first|exact HB.out|apply below_alloc|apply pw_below_drewN|apply below_drew1|refine below_set ?_ GE181.out|refine below_set ?_ GE182.out|refine below_set ?_ GE183.out)|exact HB.out))));have n3_:=Aside0.mk (Kd.R_lower (Kd.R_newB (Kd.R_newB (Kd.R_new' (Kd.R_new' ho1 (Kd.R_lt (by (with_reducible repeat (first|apply Kd.R_alloc|apply Kd.R_drewN|apply Kd.R_drew));exact (Kd.R_mono (Kd.R_far (p:=⟨gb183,4,none⟩) (Kd.R_far (p:=⟨gb183,3,none⟩) (Kd.R_far (p:=⟨gb183,2,none⟩) (Kd.R_far (p:=⟨gb183,1,none⟩) (Kd.R_far (p:=⟨gb183,0,none⟩) (Kd.R_mono HO189.out (fun k_ hk=>(⟨hk,hk.2⟩:_∧k_≠gb183))) (fun _ hk=>hk.2) (.int .i64 t184)) (fun _ hk=>hk.2) (.int .i64 t185)) (fun _ hk=>hk.2) (.string t186)) (fun _ hk=>hk.2) (.slice Ao13 t187.length co13)) (fun _ hk=>hk.2) (.slice Ao14 t190.length co14)) (fun _ h_=>h_.1))))) (Kd.R_lt (by (with_reducible repeat (first|apply Kd.R_alloc|apply Kd.R_drewN|apply Kd.R_drew));exact (Kd.R_mono (Kd.R_far (p:=⟨gb183,4,none⟩) (Kd.R_far (p:=⟨gb183,3,none⟩) (Kd.R_far (p:=⟨gb183,2,none⟩) (Kd.R_far (p:=⟨gb183,1,none⟩) (Kd.R_far (p:=⟨gb183,0,none⟩) (Kd.R_mono HO192.out (fun k_ hk=>(⟨hk,hk.2⟩:_∧k_≠gb183))) (fun _ hk=>hk.2) (.int .i64 t184)) (fun _ hk=>hk.2) (.int .i64 t185)) (fun _ hk=>hk.2) (.string t186)) (fun _ hk=>hk.2) (.slice Ao13 t187.length co13)) (fun _ hk=>hk.2) (.slice Ao14 t190.length co14)) (fun _ h_=>h_.1))))) (g:=gb182) (o:=.cells #[.int .i64 0,.int .i64 0,.string (⟨#[]⟩:ByteArray),.slice none 0 0,.slice none 0 0,.int .i64 0,.int .i64 0,.string (⟨#[]⟩:ByteArray),.slice none 0 0,.slice none 0 0] 53 (0,0)) (by (with_reducible repeat (first|refine blk_drewN ?_ _|refine blk_drew ?_|refine blk_alloc ?_ _));refine blk_far ?_ NB182_183.out _;(with_reducible repeat (first|refine blk_drewN ?_ _|refine blk_drew ?_|refine blk_alloc ?_ _));refine blk_far ?_ NB182_183.out _;(with_reducible repeat (first|refine blk_drewN ?_ _|refine blk_drew ?_|refine blk_alloc ?_ _));refine blk_far ?_ NB182_183.out _;(with_reducible repeat (first|refine blk_drewN ?_ _|refine blk_drew ?_|refine blk_alloc ?_ _));refine blk_far ?_ NB182_183.out _;(with_reducible repeat (first|refine blk_drewN ?_ _|refine blk_drew ?_|refine blk_alloc ?_ _));refine blk_far ?_ NB182_183.out _;(with_reducible repeat (first|refine blk_drewN ?_ _|refine blk_drew ?_|refine blk_alloc ?_ _));exact BK182.out)) (g:=gb183) (o:=.cells #[.int .i64 t184,.int .i64 t185,.string t186,.slice Ao13 t187.length co13,.slice Ao14 t190.length co14,.int .i64 0,.int .i64 0,.string (⟨#[]⟩:ByteArray),.slice none 0 0,.slice none 0 0] 53 (0,0)) (by (with_reducible repeat (first|refine blk_drewN ?_ _|refine blk_drew ?_|refine blk_alloc ?_ _));refine blk_put (cs:=#[.int .i64 t184,.int .i64 t185,.string t186,.slice Ao13 t187.length co13,.slice none 0 0,.int .i64 0,.int .i64 0,.string (⟨#[]⟩:ByteArray),.slice none 0 0,.slice none 0 0]) ?_ 4 _ rfl;(with_reducible repeat (first|refine blk_drewN ?_ _|refine blk_drew ?_|refine blk_alloc ?_ _));refine blk_put (cs:=#[.int .i64 t184,.int .i64 t185,.string t186,.slice none 0 0,.slice none 0 0,.int .i64 0,.int .i64 0,.string (⟨#[]⟩:ByteArray),.slice none 0 0,.slice none 0 0]) ?_ 3 _ rfl;(with_reducible repeat (first|refine blk_drewN ?_ _|refine blk_drew ?_|refine blk_alloc ?_ _));refine blk_put (cs:=#[.int .i64 t184,.int .i64 t185,.string (⟨#[]⟩:ByteArray),.slice none 0 0,.slice none 0 0,.int .i64 0,.int .i64 0,.string (⟨#[]⟩:ByteArray),.slice none 0 0,.slice none 0 0]) ?_ 2 _ rfl;(with_reducible repeat (first|refine blk_drewN ?_ _|refine blk_drew ?_|refine blk_alloc ?_ _));refine blk_put (cs:=#[.int .i64 t184,.int .i64 0,.string (⟨#[]⟩:ByteArray),.slice none 0 0,.slice none 0 0,.int .i64 0,.int .i64 0,.string (⟨#[]⟩:ByteArray),.slice none 0 0,.slice none 0 0]) ?_ 1 _ rfl;(with_reducible repeat (first|refine blk_drewN ?_ _|refine blk_drew ?_|refine blk_alloc ?_ _));refine blk_put (cs:=#[.int .i64 0,.int .i64 0,.string (⟨#[]⟩:ByteArray),.slice none 0 0,.slice none 0 0,.int .i64 0,.int .i64 0,.string (⟨#[]⟩:ByteArray),.slice none 0 0,.slice none 0 0]) ?_ 0 _ rfl;(with_reducible repeat (first|refine blk_drewN ?_ _|refine blk_drew ?_|refine blk_alloc ?_ _));exact BK183.out)) (below_size (by repeat (first|(with_reducible first|exact HB.out|apply below_alloc|apply pw_below_drewN|apply below_drew1|refine below_set ?_ GE181.out|refine below_set ?_ GE182.out|refine below_set ?_ GE183.out)|exact HB.out))));have n4_:=Aside0.mk (blk_below (g:=gb181) (o:=.cells #[.int .i64 a0_0,.int .i64 a0_1,.string a0_2,.slice A0_3 l0_3.length c0_3,.slice A0_4 l0_4.length c0_4,.int .i64 a0_5,.int .i64 a0_6,.string a0_7,.slice A0_8 l0_8.length c0_8,.slice A0_9 l0_9.length c0_9] 48 (0,0)) (by (with_reducible repeat (first|refine blk_drewN ?_ _|refine blk_drew ?_|refine blk_alloc ?_ _));refine blk_far ?_ NB181_183.out _;(with_reducible repeat (first|refine blk_drewN ?_ _|refine blk_drew ?_|refine blk_alloc ?_ _));refine blk_far ?_ NB181_183.out _;(with_reducible repeat (first|refine blk_drewN ?_ _|refine blk_drew ?_|refine blk_alloc ?_ _));refine blk_far ?_ NB181_183.out _;(with_reducible repeat (first|refine blk_drewN ?_ _|refine blk_drew ?_|refine blk_alloc ?_ _));refine blk_far ?_ NB181_183.out _;(with_reducible repeat (first|refine blk_drewN ?_ _|refine blk_drew ?_|refine blk_alloc ?_ _));refine blk_far ?_ NB181_183.out _;(with_reducible repeat (first|refine blk_drewN ?_ _|refine blk_drew ?_|refine blk_alloc ?_ _));exact BK181.out) hb);have n5_:=Aside0.mk (blk_below (g:=gb182) (o:=.cells #[.int .i64 0,.int .i64 0,.string (⟨#[]⟩:ByteArray),.slice none 0 0,.slice none 0 0,.int .i64 0,.int .i64 0,.string (⟨#[]⟩:ByteArray),.slice none 0 0,.slice none 0 0] 53 (0,0)) (by (with_reducible repeat (first|refine blk_drewN ?_ _|refine blk_drew ?_|refine blk_alloc ?_ _));refine blk_far ?_ NB182_183.out _;(with_reducible repeat (first|refine blk_drewN ?_ _|refine blk_drew ?_|refine blk_alloc ?_ _));refine blk_far ?_ NB182_183.out _;(with_reducible repeat (first|refine blk_drewN ?_ _|refine blk_drew ?_|refine blk_alloc ?_ _));refine blk_far ?_ NB182_183.out _;(with_reducible repeat (first|refine blk_drewN ?_ _|refine blk_drew ?_|refine blk_alloc ?_ _));refine blk_far ?_ NB182_183.out _;(with_reducible repeat (first|refine blk_drewN ?_ _|refine blk_drew ?_|refine blk_alloc ?_ _));refine blk_far ?_ NB182_183.out _;(with_reducible repeat (first|refine blk_drewN ?_ _|refine blk_drew ?_|refine blk_alloc ?_ _));exact BK182.out) hb);have n6_:=Aside0.mk (blk_below (g:=gb183) (o:=.cells #[.int .i64 t184,.int .i64 t185,.string t186,.slice Ao13 t187.length co13,.slice Ao14 t190.length co14,.int .i64 0,.int .i64 0,.string (⟨#[]⟩:ByteArray),.slice none 0 0,.slice none 0 0] 53 (0,0)) (by (with_reducible repeat (first|refine blk_drewN ?_ _|refine blk_drew ?_|refine blk_alloc ?_ _));refine blk_put (cs:=#[.int .i64 t184,.int .i64 t185,.string t186,.slice Ao13 t187.length co13,.slice none 0 0,.int .i64 0,.int .i64 0,.string (⟨#[]⟩:ByteArray),.slice none 0 0,.slice none 0 0]) ?_ 4 _ rfl;(with_reducible repeat (first|refine blk_drewN ?_ _|refine blk_drew ?_|refine blk_alloc ?_ _));refine blk_put (cs:=#[.int .i64 t184,.int .i64 t185,.string t186,.slice none 0 0,.slice none 0 0,.int .i64 0,.int .i64 0,.string (⟨#[]⟩:ByteArray),.slice none 0 0,.slice none 0 0]) ?_ 3 _ rfl;(with_reducible repeat (first|refine blk_drewN ?_ _|refine blk_drew ?_|refine blk_alloc ?_ _));refine blk_put (cs:=#[.int .i64 t184,.int .i64 t185,.string (⟨#[]⟩:ByteArray),.slice none 0 0,.slice none 0 0,.int .i64 0,.int .i64 0,.string (⟨#[]⟩:ByteArray),.slice none 0 0,.slice none 0 0]) ?_ 2 _ rfl;(with_reducible repeat (first|refine blk_drewN ?_ _|refine blk_drew ?_|refine blk_alloc ?_ _));refine blk_put (cs:=#[.int .i64 t184,.int .i64 0,.string (⟨#[]⟩:ByteArray),.slice none 0 0,.slice none 0 0,.int .i64 0,.int .i64 0,.string (⟨#[]⟩:ByteArray),.slice none 0 0,.slice none 0 0]) ?_ 1 _ rfl;(with_reducible repeat (first|refine blk_drewN ?_ _|refine blk_drew ?_|refine blk_alloc ?_ _));refine blk_put (cs:=#[.int .i64 0,.int .i64 0,.string (⟨#[]⟩:ByteArray),.slice none 0 0,.slice none 0 0,.int .i64 0,.int .i64 0,.string (⟨#[]⟩:ByteArray),.slice none 0 0,.slice none 0 0]) ?_ 0 _ rfl;(with_reducible repeat (first|refine blk_drewN ?_ _|refine blk_drew ?_|refine blk_alloc ?_ _));exact BK183.out) hb);have n7_:=Aside0.mk (below_step (by repeat (first|(with_reducible first|exact HB.out|apply below_alloc|apply pw_below_drewN|apply below_drew1|refine below_set ?_ GE181.out|refine below_set ?_ GE182.out|refine below_set ?_ GE183.out)|exact HB.out)) hb);clear HO189;clear HO192;clear BK181;clear BK182;clear BK183;clear HB;have HO189:=n0_;have HO192:=n1_;have HO198:=n2_;have HO201:=n3_;have BK181:=n4_;have BK182:=n5_;have BK183:=n6_;have HB:=n7_;clear n0_ n1_ n2_ n3_ n4_ n5_ n6_ n7_;(try clear hb);(try clear hb2);(try clear hk);(try clear hi);(try clear ho0);(try clear ho1);have hcz17_0:w16.cell? ⟨gb183,0,none⟩ = some (.int .i64 t184):=(blk_cell BK183.out 0).trans rfl;have hcz17_1:w16.cell? ⟨gb183,1,none⟩ = some (.int .i64 t185):=(blk_cell BK183.out 1).trans rfl;have hcz17_2:w16.cell? ⟨gb183,2,none⟩ = some (.string t186):=(blk_cell BK183.out 2).trans rfl;have hcz17_3:w16.cell? ⟨gb183,3,none⟩ = some (.slice Ao13 t187.length co13):=(blk_cell BK183.out 3).trans rfl;have hcz17_4:w16.cell? ⟨gb183,4,none⟩ = some (.slice Ao14 t190.length co14):=(blk_cell BK183.out 4).trans rfl;have hcz17_5:w16.cell? ⟨gb183,5,none⟩ = some (.int .i64 0):=(blk_cell BK183.out 5).trans rfl;have hcz17_6:w16.cell? ⟨gb183,6,none⟩ = some (.int .i64 0):=(blk_cell BK183.out 6).trans rfl;have hcz17_7:w16.cell? ⟨gb183,7,none⟩ = some (.string (⟨#[]⟩:ByteArray)):=(blk_cell BK183.out 7).trans rfl;have hcz17_8:w16.cell? ⟨gb183,8,none⟩ = some (.slice none 0 0):=(blk_cell BK183.out 8).trans rfl;have hcz17_9:w16.cell? ⟨gb183,9,none⟩ = some (.slice none 0 0):=(blk_cell BK183.out 9).trans rfl;have hfz17_0:=blk_frozen BK183.out 0;have hfz17_1:=blk_frozen BK183.out 1;have hfz17_2:=blk_frozen BK183.out 2;have hfz17_3:=blk_frozen BK183.out 3;have hfz17_4:=blk_frozen BK183.out 4;have hfz17_5:=blk_frozen BK183.out 5;have hfz17_6:=blk_frozen BK183.out 6;have hfz17_7:=blk_frozen BK183.out 7;have hfz17_8:=blk_frozen BK183.out 8;have hfz17_9:=blk_frozen BK183.out 9;obtain ⟨Ao18,co18,eo18⟩:=Kd.R_slice HO198.out;subst eo18;obtain ⟨Ao19,co19,eo19⟩:=Kd.R_slice HO201.out;subst eo19;have hcz20_0:w16.cell? ⟨gb182,0,none⟩ = some (.int .i64 0):=(blk_cell BK182.out 0).trans rfl;have hcz20_1:w16.cell? ⟨gb182,1,none⟩ = some (.int .i64 0):=(blk_cell BK182.out 1).trans rfl;have hcz20_2:w16.cell? ⟨gb182,2,none⟩ = some (.string (⟨#[]⟩:ByteArray)):=(blk_cell BK182.out 2).trans rfl;have hcz20_3:w16.cell? ⟨gb182,3,none⟩ = some (.slice none 0 0):=(blk_cell BK182.out 3).trans rfl;have hcz20_4:w16.cell? ⟨gb182,4,none⟩ = some (.slice none 0 0):=(blk_cell BK182.out 4).trans rfl;have hcz20_5:w16.cell? ⟨gb182,5,none⟩ = some (.int .i64 0):=(blk_cell BK182.out 5).trans rfl;have hcz20_6:w16.cell? ⟨gb182,6,none⟩ = some (.int .i64 0):=(blk_cell BK182.out 6).trans rfl;have hcz20_7:w16.cell? ⟨gb182,7,none⟩ = some (.string (⟨#[]⟩:ByteArray)):=(blk_cell BK182.out 7).trans rfl;have hcz20_8:w16.cell? ⟨gb182,8,none⟩ = some (.slice none 0 0):=(blk_cell BK182.out 8).trans rfl;have hcz20_9:w16.cell? ⟨gb182,9,none⟩ = some (.slice none 0 0):=(blk_cell BK182.out 9).trans rfl;have hfz20_0:=blk_frozen BK182.out 0;have hfz20_1:=blk_frozen BK182.out 1;have hfz20_2:=blk_frozen BK182.out 2;have hfz20_3:=blk_frozen BK182.out 3;have hfz20_4:=blk_frozen BK182.out 4;have hfz20_5:=blk_frozen BK182.out 5;have hfz20_6:=blk_frozen BK182.out 6;have hfz20_7:=blk_frozen BK182.out 7;have hfz20_8:=blk_frozen BK182.out 8;have hfz20_9:=blk_frozen BK182.out 9))
 refine bodyPost_ret (results_cell_row rfl _ _ gb182 53 #[.int .i64 t184,.int .i64 t185,.string t186,.slice Ao13 t187.length co13,.slice Ao14 t190.length co14,.int .i64 t193,.int .i64 t194,.string t195,.slice Ao18 t196.length co18,.slice Ao19 t199.length co19] (0,0) _ rfl (by (with_reducible repeat (first|refine blk_drewN ?_ _|refine blk_drew ?_|refine blk_alloc ?_ _));refine blk_put (cs:=#[.int .i64 t184,.int .i64 t185,.string t186,.slice Ao13 t187.length co13,.slice Ao14 t190.length co14,.int .i64 t193,.int .i64 t194,.string t195,.slice Ao18 t196.length co18,.slice none 0 0]) ?_ 9 _ rfl;(with_reducible repeat (first|refine blk_drewN ?_ _|refine blk_drew ?_|refine blk_alloc ?_ _));refine blk_put (cs:=#[.int .i64 t184,.int .i64 t185,.string t186,.slice Ao13 t187.length co13,.slice Ao14 t190.length co14,.int .i64 t193,.int .i64 t194,.string t195,.slice none 0 0,.slice none 0 0]) ?_ 8 _ rfl;(with_reducible repeat (first|refine blk_drewN ?_ _|refine blk_drew ?_|refine blk_alloc ?_ _));refine blk_put (cs:=#[.int .i64 t184,.int .i64 t185,.string t186,.slice Ao13 t187.length co13,.slice Ao14 t190.length co14,.int .i64 t193,.int .i64 t194,.string (⟨#[]⟩:ByteArray),.slice none 0 0,.slice none 0 0]) ?_ 7 _ rfl;(with_reducible repeat (first|refine blk_drewN ?_ _|refine blk_drew ?_|refine blk_alloc ?_ _));refine blk_put (cs:=#[.int .i64 t184,.int .i64 t185,.string t186,.slice Ao13 t187.length co13,.slice Ao14 t190.length co14,.int .i64 t193,.int .i64 0,.string (⟨#[]⟩:ByteArray),.slice none 0 0,.slice none 0 0]) ?_ 6 _ rfl;(with_reducible repeat (first|refine blk_drewN ?_ _|refine blk_drew ?_|refine blk_alloc ?_ _));refine blk_put (cs:=#[.int .i64 t184,.int .i64 t185,.string t186,.slice Ao13 t187.length co13,.slice Ao14 t190.length co14,.int .i64 0,.int .i64 0,.string (⟨#[]⟩:ByteArray),.slice none 0 0,.slice none 0 0]) ?_ 5 _ rfl;(with_reducible repeat (first|refine blk_drewN ?_ _|refine blk_drew ?_|refine blk_alloc ?_ _));refine blk_put (cs:=#[.int .i64 t184,.int .i64 t185,.string t186,.slice Ao13 t187.length co13,.slice none 0 0,.int .i64 0,.int .i64 0,.string (⟨#[]⟩:ByteArray),.slice none 0 0,.slice none 0 0]) ?_ 4 _ rfl;(with_reducible repeat (first|refine blk_drewN ?_ _|refine blk_drew ?_|refine blk_alloc ?_ _));refine blk_put (cs:=#[.int .i64 t184,.int .i64 t185,.string t186,.slice none 0 0,.slice none 0 0,.int .i64 0,.int .i64 0,.string (⟨#[]⟩:ByteArray),.slice none 0 0,.slice none 0 0]) ?_ 3 _ rfl;(with_reducible repeat (first|refine blk_drewN ?_ _|refine blk_drew ?_|refine blk_alloc ?_ _));refine blk_put (cs:=#[.int .i64 t184,.int .i64 t185,.string (⟨#[]⟩:ByteArray),.slice none 0 0,.slice none 0 0,.int .i64 0,.int .i64 0,.string (⟨#[]⟩:ByteArray),.slice none 0 0,.slice none 0 0]) ?_ 2 _ rfl;(with_reducible repeat (first|refine blk_drewN ?_ _|refine blk_drew ?_|refine blk_alloc ?_ _));refine blk_put (cs:=#[.int .i64 t184,.int .i64 0,.string (⟨#[]⟩:ByteArray),.slice none 0 0,.slice none 0 0,.int .i64 0,.int .i64 0,.string (⟨#[]⟩:ByteArray),.slice none 0 0,.slice none 0 0]) ?_ 1 _ rfl;(with_reducible repeat (first|refine blk_drewN ?_ _|refine blk_drew ?_|refine blk_alloc ?_ _));refine blk_put (cs:=#[.int .i64 0,.int .i64 0,.string (⟨#[]⟩:ByteArray),.slice none 0 0,.slice none 0 0,.int .i64 0,.int .i64 0,.string (⟨#[]⟩:ByteArray),.slice none 0 0,.slice none 0 0]) ?_ 0 _ rfl;(with_reducible repeat (first|refine blk_drewN ?_ _|refine blk_drew ?_|refine blk_alloc ?_ _));refine blk_far ?_ NB182_183.out _;(with_reducible repeat (first|refine blk_drewN ?_ _|refine blk_drew ?_|refine blk_alloc ?_ _));refine blk_far ?_ NB182_183.out _;(with_reducible repeat (first|refine blk_drewN ?_ _|refine blk_drew ?_|refine blk_alloc ?_ _));refine blk_far ?_ NB182_183.out _;(with_reducible repeat (first|refine blk_drewN ?_ _|refine blk_drew ?_|refine blk_alloc ?_ _));refine blk_far ?_ NB182_183.out _;(with_reducible repeat (first|refine blk_drewN ?_ _|refine blk_drew ?_|refine blk_alloc ?_ _));refine blk_far ?_ NB182_183.out _;(with_reducible repeat (first|refine blk_drewN ?_ _|refine blk_drew ?_|refine blk_alloc ?_ _));exact BK182.out) Try.underlying53 rfl (by kernel_rfl)) rfl ?_
 exact ⟨_,_,_,_,by first|rfl|(simp [*,errW_none,errW_some] <;> rfl),by (with_reducible repeat (first|apply Kd.R_alloc|apply Kd.R_drewN|apply Kd.R_drew));exact Kd.R_mono (Kd.R_far (p:=⟨gb182,9,none⟩) (Kd.R_far (p:=⟨gb182,8,none⟩) (Kd.R_far (p:=⟨gb182,7,none⟩) (Kd.R_far (p:=⟨gb182,6,none⟩) (Kd.R_far (p:=⟨gb182,5,none⟩) (Kd.R_far (p:=⟨gb182,4,none⟩) (Kd.R_far (p:=⟨gb182,3,none⟩) (Kd.R_far (p:=⟨gb182,2,none⟩) (Kd.R_far (p:=⟨gb182,1,none⟩) (Kd.R_far (p:=⟨gb182,0,none⟩) (Kd.R_far (p:=⟨gb183,9,none⟩) (Kd.R_far (p:=⟨gb183,8,none⟩) (Kd.R_far (p:=⟨gb183,7,none⟩) (Kd.R_far (p:=⟨gb183,6,none⟩) (Kd.R_far (p:=⟨gb183,5,none⟩) (Kd.R_mono (Kd.R_mono HO189.out (fun k_ hk=>(⟨hk,hk.1.1.2⟩:_∧k_≠gb183))) (fun k_ hk=>(⟨hk,hk.1.1.1.1.2⟩:_∧k_≠gb182))) (fun _ hk=>hk.1.2) (.int .i64 t193)) (fun _ hk=>hk.1.2) (.int .i64 t194)) (fun _ hk=>hk.1.2) (.string t195)) (fun _ hk=>hk.1.2) (.slice Ao18 t196.length co18)) (fun _ hk=>hk.1.2) (.slice Ao19 t199.length co19)) (fun _ hk=>hk.2) (.int .i64 t184)) (fun _ hk=>hk.2) (.int .i64 t185)) (fun _ hk=>hk.2) (.string t186)) (fun _ hk=>hk.2) (.slice Ao13 t187.length co13)) (fun _ hk=>hk.2) (.slice Ao14 t190.length co14)) (fun _ hk=>hk.2) (.int .i64 t193)) (fun _ hk=>hk.2) (.int .i64 t194)) (fun _ hk=>hk.2) (.string t195)) (fun _ hk=>hk.2) (.slice Ao18 t196.length co18)) (fun _ hk=>hk.2) (.slice Ao19 t199.length co19)) (fun _ hk=>⟨hk.1.1.1.1.1.1,⟨hk.1.1.1.2,hk.1.1.2⟩⟩),by (with_reducible repeat (first|apply Kd.R_alloc|apply Kd.R_drewN|apply Kd.R_drew));exact Kd.R_mono (Kd.R_far (p:=⟨gb182,9,none⟩) (Kd.R_far (p:=⟨gb182,8,none⟩) (Kd.R_far (p:=⟨gb182,7,none⟩) (Kd.R_far (p:=⟨gb182,6,none⟩) (Kd.R_far (p:=⟨gb182,5,none⟩) (Kd.R_far (p:=⟨gb182,4,none⟩) (Kd.R_far (p:=⟨gb182,3,none⟩) (Kd.R_far (p:=⟨gb182,2,none⟩) (Kd.R_far (p:=⟨gb182,1,none⟩) (Kd.R_far (p:=⟨gb182,0,none⟩) (Kd.R_far (p:=⟨gb183,9,none⟩) (Kd.R_far (p:=⟨gb183,8,none⟩) (Kd.R_far (p:=⟨gb183,7,none⟩) (Kd.R_far (p:=⟨gb183,6,none⟩) (Kd.R_far (p:=⟨gb183,5,none⟩) (Kd.R_mono (Kd.R_mono HO192.out (fun k_ hk=>(⟨hk,hk.1.1.2⟩:_∧k_≠gb183))) (fun k_ hk=>(⟨hk,hk.1.1.1.1.2⟩:_∧k_≠gb182))) (fun _ hk=>hk.1.2) (.int .i64 t193)) (fun _ hk=>hk.1.2) (.int .i64 t194)) (fun _ hk=>hk.1.2) (.string t195)) (fun _ hk=>hk.1.2) (.slice Ao18 t196.length co18)) (fun _ hk=>hk.1.2) (.slice Ao19 t199.length co19)) (fun _ hk=>hk.2) (.int .i64 t184)) (fun _ hk=>hk.2) (.int .i64 t185)) (fun _ hk=>hk.2) (.string t186)) (fun _ hk=>hk.2) (.slice Ao13 t187.length co13)) (fun _ hk=>hk.2) (.slice Ao14 t190.length co14)) (fun _ hk=>hk.2) (.int .i64 t193)) (fun _ hk=>hk.2) (.int .i64 t194)) (fun _ hk=>hk.2) (.string t195)) (fun _ hk=>hk.2) (.slice Ao18 t196.length co18)) (fun _ hk=>hk.2) (.slice Ao19 t199.length co19)) (fun _ hk=>⟨hk.1.1.1.1.1.1,⟨hk.1.1.1.2,hk.1.1.2⟩⟩),by (with_reducible repeat (first|apply Kd.R_alloc|apply Kd.R_drewN|apply Kd.R_drew));exact Kd.R_mono (Kd.R_far (p:=⟨gb182,9,none⟩) (Kd.R_far (p:=⟨gb182,8,none⟩) (Kd.R_far (p:=⟨gb182,7,none⟩) (Kd.R_far (p:=⟨gb182,6,none⟩) (Kd.R_far (p:=⟨gb182,5,none⟩) (Kd.R_far (p:=⟨gb182,4,none⟩) (Kd.R_far (p:=⟨gb182,3,none⟩) (Kd.R_far (p:=⟨gb182,2,none⟩) (Kd.R_far (p:=⟨gb182,1,none⟩) (Kd.R_far (p:=⟨gb182,0,none⟩) (Kd.R_far (p:=⟨gb183,9,none⟩) (Kd.R_far (p:=⟨gb183,8,none⟩) (Kd.R_far (p:=⟨gb183,7,none⟩) (Kd.R_far (p:=⟨gb183,6,none⟩) (Kd.R_far (p:=⟨gb183,5,none⟩) (Kd.R_mono (Kd.R_mono HO198.out (fun k_ hk=>(⟨hk,hk.2⟩:_∧k_≠gb183))) (fun k_ hk=>(⟨hk,hk.1.1.2⟩:_∧k_≠gb182))) (fun _ hk=>hk.1.2) (.int .i64 t193)) (fun _ hk=>hk.1.2) (.int .i64 t194)) (fun _ hk=>hk.1.2) (.string t195)) (fun _ hk=>hk.1.2) (.slice Ao18 t196.length co18)) (fun _ hk=>hk.1.2) (.slice Ao19 t199.length co19)) (fun _ hk=>hk.2) (.int .i64 t184)) (fun _ hk=>hk.2) (.int .i64 t185)) (fun _ hk=>hk.2) (.string t186)) (fun _ hk=>hk.2) (.slice Ao13 t187.length co13)) (fun _ hk=>hk.2) (.slice Ao14 t190.length co14)) (fun _ hk=>hk.2) (.int .i64 t193)) (fun _ hk=>hk.2) (.int .i64 t194)) (fun _ hk=>hk.2) (.string t195)) (fun _ hk=>hk.2) (.slice Ao18 t196.length co18)) (fun _ hk=>hk.2) (.slice Ao19 t199.length co19)) (fun _ hk=>⟨hk.1.1.1.1.1.2,⟨hk.1.1.1.1.2,hk.1.1.1.1.1.1⟩⟩),by (with_reducible repeat (first|apply Kd.R_alloc|apply Kd.R_drewN|apply Kd.R_drew));exact Kd.R_mono (Kd.R_far (p:=⟨gb182,9,none⟩) (Kd.R_far (p:=⟨gb182,8,none⟩) (Kd.R_far (p:=⟨gb182,7,none⟩) (Kd.R_far (p:=⟨gb182,6,none⟩) (Kd.R_far (p:=⟨gb182,5,none⟩) (Kd.R_far (p:=⟨gb182,4,none⟩) (Kd.R_far (p:=⟨gb182,3,none⟩) (Kd.R_far (p:=⟨gb182,2,none⟩) (Kd.R_far (p:=⟨gb182,1,none⟩) (Kd.R_far (p:=⟨gb182,0,none⟩) (Kd.R_far (p:=⟨gb183,9,none⟩) (Kd.R_far (p:=⟨gb183,8,none⟩) (Kd.R_far (p:=⟨gb183,7,none⟩) (Kd.R_far (p:=⟨gb183,6,none⟩) (Kd.R_far (p:=⟨gb183,5,none⟩) (Kd.R_mono (Kd.R_mono HO201.out (fun k_ hk=>(⟨hk,hk.2⟩:_∧k_≠gb183))) (fun k_ hk=>(⟨hk,hk.1.1.2⟩:_∧k_≠gb182))) (fun _ hk=>hk.1.2) (.int .i64 t193)) (fun _ hk=>hk.1.2) (.int .i64 t194)) (fun _ hk=>hk.1.2) (.string t195)) (fun _ hk=>hk.1.2) (.slice Ao18 t196.length co18)) (fun _ hk=>hk.1.2) (.slice Ao19 t199.length co19)) (fun _ hk=>hk.2) (.int .i64 t184)) (fun _ hk=>hk.2) (.int .i64 t185)) (fun _ hk=>hk.2) (.string t186)) (fun _ hk=>hk.2) (.slice Ao13 t187.length co13)) (fun _ hk=>hk.2) (.slice Ao14 t190.length co14)) (fun _ hk=>hk.2) (.int .i64 t193)) (fun _ hk=>hk.2) (.int .i64 t194)) (fun _ hk=>hk.2) (.string t195)) (fun _ hk=>hk.2) (.slice Ao18 t196.length co18)) (fun _ hk=>hk.2) (.slice Ao19 t199.length co19)) (fun _ hk=>⟨hk.1.1.1.1.1.2,⟨hk.1.1.1.1.2,hk.1.1.1.1.1.1⟩⟩),by repeat (first|(with_reducible first|exact HB.out|apply below_alloc|apply pw_below_drewN|apply below_drew1|refine below_set ?_ GE181.out|refine below_set ?_ GE182.out|refine below_set ?_ GE183.out)|exact HB.out)⟩

/-! ### laws_toClauseS: function 13 -/
set_option maxHeartbeats 8000000 in
set_option maxRecDepth 100000 in
theorem laws_toClauseS.step (k:Nat) (ih_laws_toExprS:∀ k_,k_ < k → ∀ (A0:Option Addr) (c0:Nat) (l0:List (S25)) (r:List (S31)) (w:World) (hr0:Kd.C k25 w A0 l0.length l0) (hc0:l0.length≤c0) (h:laws_toExprS.f k_ l0 = some r),Calls Try.prog 12 #[.slice A0 l0.length c0] w fun e w'=>∃ v0_:Value,e = .returned (v0_)∧Kd.R k31 31 w' w.heap.size (fun _=>True) v0_ r∧Below w.heap.size w w') (ih_laws_toClause:∀ k_,k_ < k → ∀ (a0_0:Int) (a0_1:Int) (a0_2:ByteArray) (A0_3:Option Addr) (c0_3:Nat) (l0_3:List (S25)) (A0_4:Option Addr) (c0_4:Nat) (l0_4:List (S48)) (a0_5:Int) (a0_6:Int) (a0_7:ByteArray) (A0_8:Option Addr) (c0_8:Nat) (l0_8:List (S25)) (A0_9:Option Addr) (c0_9:Nat) (l0_9:List (S48)) (r1:Int) (r2:Int) (r3:ByteArray) (r4:List (S31)) (r5:List (S53)) (r6:Int) (r7:Int) (r8:ByteArray) (r9:List (S31)) (r10:List (S53)) (w:World) (hr0_3:Kd.C k25 w A0_3 l0_3.length l0_3) (hc0_3:l0_3.length≤c0_3) (hr0_4:Kd.C k48 w A0_4 l0_4.length l0_4) (hc0_4:l0_4.length≤c0_4) (hr0_8:Kd.C k25 w A0_8 l0_8.length l0_8) (hc0_8:l0_8.length≤c0_8) (hr0_9:Kd.C k48 w A0_9 l0_9.length l0_9) (hc0_9:l0_9.length≤c0_9) (h:laws_toClause.f k_ a0_0 a0_1 a0_2 l0_3 l0_4 a0_5 a0_6 a0_7 l0_8 l0_9 = some (r1,r2,r3,r4,r5,r6,r7,r8,r9,r10)),Calls Try.prog 21 #[.agg #[.int .i64 a0_0,.int .i64 a0_1,.string a0_2,.slice A0_3 l0_3.length c0_3,.slice A0_4 l0_4.length c0_4,.int .i64 a0_5,.int .i64 a0_6,.string a0_7,.slice A0_8 l0_8.length c0_8,.slice A0_9 l0_9.length c0_9]] w fun e w'=>∃ v3_ v4_ v8_ v9_:Value,e = .returned (.agg #[.int .i64 r1,.int .i64 r2,.string r3,v3_,v4_,.int .i64 r6,.int .i64 r7,.string r8,v8_,v9_])∧Kd.R k31 31 w' w.heap.size (fun k_=>some k_≠(v4_:Value).ownBlock∧some k_≠(v8_:Value).ownBlock∧some k_≠(v9_:Value).ownBlock) v3_ r4∧Kd.R k53 53 w' w.heap.size (fun k_=>some k_≠(v3_:Value).ownBlock∧some k_≠(v8_:Value).ownBlock∧some k_≠(v9_:Value).ownBlock) v4_ r5∧Kd.R k31 31 w' w.heap.size (fun k_=>some k_≠(v3_:Value).ownBlock∧some k_≠(v4_:Value).ownBlock∧some k_≠(v9_:Value).ownBlock) v8_ r9∧Kd.R k53 53 w' w.heap.size (fun k_=>some k_≠(v3_:Value).ownBlock∧some k_≠(v4_:Value).ownBlock∧some k_≠(v8_:Value).ownBlock) v9_ r10∧Below w.heap.size w w') (ih_laws_toClauseS:∀ k_,k_ < k → ∀ (A0:Option Addr) (c0:Nat) (l0:List (S48)) (r:List (S53)) (w:World) (hr0:Kd.C k48 w A0 l0.length l0) (hc0:l0.length≤c0) (h:laws_toClauseS.f k_ l0 = some r),Calls Try.prog 13 #[.slice A0 l0.length c0] w fun e w'=>∃ v0_:Value,e = .returned (v0_)∧Kd.R k53 53 w' w.heap.size (fun _=>True) v0_ r∧Below w.heap.size w w') (ih_laws_toExpr:∀ k_,k_ < k → ∀ (a0_0:Int) (a0_1:Int) (a0_2:ByteArray) (A0_3:Option Addr) (c0_3:Nat) (l0_3:List (S25)) (A0_4:Option Addr) (c0_4:Nat) (l0_4:List (S48)) (r1:Int) (r2:Int) (r3:ByteArray) (r4:List (S31)) (r5:List (S53)) (w:World) (hr0_3:Kd.C k25 w A0_3 l0_3.length l0_3) (hc0_3:l0_3.length≤c0_3) (hr0_4:Kd.C k48 w A0_4 l0_4.length l0_4) (hc0_4:l0_4.length≤c0_4) (h:laws_toExpr.f k_ a0_0 a0_1 a0_2 l0_3 l0_4 = some (r1,r2,r3,r4,r5)),Calls Try.prog 6 #[.agg #[.int .i64 a0_0,.int .i64 a0_1,.string a0_2,.slice A0_3 l0_3.length c0_3,.slice A0_4 l0_4.length c0_4]] w fun e w'=>∃ v3_ v4_:Value,e = .returned (.agg #[.int .i64 r1,.int .i64 r2,.string r3,v3_,v4_])∧Kd.R k31 31 w' w.heap.size (fun k_=>some k_≠(v4_:Value).ownBlock) v3_ r4∧Kd.R k53 53 w' w.heap.size (fun k_=>some k_≠(v3_:Value).ownBlock) v4_ r5∧Below w.heap.size w w'):∀ (A0:Option Addr) (c0:Nat) (l0:List (S48)) (r:List (S53)) (w:World) (hr0:Kd.C k48 w A0 l0.length l0) (hc0:l0.length≤c0) (h:laws_toClauseS.f k l0 = some r),
  Calls Try.prog 13 #[.slice A0 l0.length c0] w fun e w'=>∃ v0_:Value,e = .returned (v0_)∧Kd.R k53 53 w' w.heap.size (fun _=>True) v0_ r∧Below w.heap.size w w':=by
 intro A0 c0 l0 r w hr0 hc0 h
 cases k with
 | zero=>exact absurd h (by simp [laws_toClauseS.f])
 | succ k =>
 simp only [laws_toClauseS.f] at h
 have hu48:=Try.underlying48
 have hu53:=Try.underlying53
 have HR0:=Aside0.mk hr0
 have HC0:=Aside0.mk hc0
 clear hr0 hc0
 have HB:=Aside0.mk (Below.refl w.heap.size w)
 have H:(if 0≤(l0.length:Int) then (if ((l0.length:Int):Int).toNat≤1759218604441 then (laws_toClauseS.l0 k l0 (List.replicate ((l0.length:Int):Int).toNat z53) 0) else (none)) else (none)) = some r:=h
 clear h
 by_cases c2:0≤(l0.length:Int)
 ·rw [if_pos c2] at H
  have c2b0:=eq_true c2
  have c2b1:decide (0≤(l0.length:Int)) = true:=decide_eq_true c2
  clear c2
  by_cases c3:((l0.length:Int):Int).toNat≤1759218604441
  ·rw [if_pos c3] at H
   have c3b0:=eq_true c3
   have c3b1:decide (((l0.length:Int):Int).toNat≤1759218604441) = true:=decide_eq_true c3
   clear c3
   obtain ⟨y202,hy202⟩:∃ y_:List (S53),y_ = (List.replicate ((l0.length:Int):Int).toNat z53):=⟨_,rfl⟩
   replace H:(laws_toClauseS.l0 k l0 y202 0) = some r:=by first|(rw [hy202];with_reducible exact H)|(have H2_:=(Option.bind_some _ _).symm.trans H;rw [hy202];with_reducible exact H2_)|(have H2_:=(Option.bind_some _ _).symm.trans H;with_reducible exact H2_)|with_reducible exact H|(rw [hy202];exact H)|exact H
   have Ny202:=Aside0.mk hy202
   clear hy202
   have H':=Aside0.mk H
   clear H
   go_enter Try.func13,Try.ntmps13
   go_wp2_with (first|((with_reducible refine gate_dst (N:=7) rfl ?_);refine Kd.R_make k53 _ 53 rfl (N:=7) rfl 29 _ _ rfl (l0.length:Int) rfl rfl Try.underlying29 (.agg #[(.int .i64 0),(.int .i64 0),(.string ⟨#[]⟩),(.slice none 0 0),(.slice none 0 0),(.int .i64 0),(.int .i64 0),(.string ⟨#[]⟩),(.slice none 0 0),(.slice none 0 0)]) 160 info53 rfl (by decide) (by omega) z53 (ok:=fun _=>True) (okp:=fun _=>True) (k53_mkM _ _ _ z53 (Kd.R_nil _ _ _ _ _) (Kd.R_nil _ _ _ _ _) (Kd.R_nil _ _ _ _ _) (Kd.R_nil _ _ _ _ _)) (fun _ hk=>hk) trivial (of_decide_eq_true (by first|(with_reducible assumption)|assumption)) (Nat.le_trans (Nat.mul_le_mul_right _ (of_decide_eq_true (by first|(with_reducible assumption)|assumption):(l0.length:Int).toNat≤1759218604441)) (by omega)) (Below.refl _ _) (Nat.le_refl _) ?_;intro v203 w4 ho5 hb hg_ hnew_;clear hg_ hnew_;(first|rw [← Ny202.out] at ho5|(simp only [Int.reduceToNat] at ho5;rw [← Ny202.out] at ho5));have n0_:=Aside0.mk (Kd.R_lower ho5 (below_size (by repeat (first|(with_reducible first|exact HB.out|apply below_alloc|apply pw_below_drewN|apply below_drew1)|exact HB.out))));have n1_:=Aside0.mk (below_step (by repeat (first|(with_reducible first|exact HB.out|apply below_alloc|apply pw_below_drewN|apply below_drew1)|exact HB.out)) hb);clear HB;have HO204:=n0_;have HB:=n1_;clear n0_ n1_;clear hb ho5))
   go_loopg [4] k (fun kq v4 w'=>∃ (x3_1:List (S53)) (x4_1:Int),v4 = .int .i64 x4_1∧Aside0 (laws_toClauseS.l0 kq l0 x3_1 x4_1 = some r)∧Aside0 (kq≤k)∧Aside0 (Kd.R k53 53 w' w.heap.size (fun _=>True) v203 x3_1)∧Aside0 (Below w.heap.size w w'))
   case atStart=>exact ⟨(y202),(0),(by first|rfl|(simp;done)|(simp [*];done)),H',⟨Nat.le_refl _⟩,⟨by (with_reducible repeat (first|apply Kd.R_alloc|apply Kd.R_drewN|apply Kd.R_drew));exact HO204.out⟩,⟨by repeat (first|(with_reducible first|exact HB.out|apply below_alloc|apply pw_below_drewN|apply below_drew1)|exact HB.out)⟩⟩
   case round =>
    clear H'
    try clear c1
    try clear c2
    try clear c2b0
    try clear c2b1
    try clear p2
    try clear c3
    try clear c3b0
    try clear c3b1
    try clear HO_3
    try clear HB
    obtain ⟨x3_1,x4_1,rfl,HA,HK1,HO_3,HB⟩:=hrel
    cases gk with
    | zero=>exact absurd HA.out (by simp [laws_toClauseS.l0])
    | succ k1 =>
     have H:=HA.out
     clear HA
     simp only [laws_toClauseS.l0] at H
     by_cases c6:x4_1 < (l0.length:Int)
     ·rw [if_pos c6] at H
      have c6b0:decide (x4_1 < (l0.length:Int)) = true:=decide_eq_true c6
      clear c6
      by_cases c7:0≤x4_1
      ·rw [if_pos c7] at H
       have c7b0:decide (0≤x4_1) = true:=decide_eq_true c7
       clear c7
       replace H:=Option.bind_eq_some_iff.mp H
       obtain ⟨⟨t206,t207,t208,t209,t212,t215,t216,t217,t218,t221⟩,A80,H⟩:=H
       replace H:(if x4_1 < (x3_1.length:Int) then (laws_toClauseS.l0 k1 l0 (x3_1.set (x4_1:Int).toNat (⟨(⟨t206,t207,t208,t209,t212⟩:S31),(⟨t215,t216,t217,t218,t221⟩:S31)⟩:S53)) (wrap64 (x4_1 + 1))) else (none)) = some r:=H
       have A8:=Aside0.mk A80
       clear A80
       by_cases c9:x4_1 < (x3_1.length:Int)
       ·rw [if_pos c9] at H
        have c9b0:decide (x4_1 < (x3_1.length:Int)) = true:=decide_eq_true c9
        clear c9
        obtain ⟨y224,hy224⟩:∃ y_:List (S53),y_ = (x3_1.set (x4_1:Int).toNat (⟨(⟨t206,t207,t208,t209,t212⟩:S31),(⟨t215,t216,t217,t218,t221⟩:S31)⟩:S53)):=⟨_,rfl⟩
        replace H:(laws_toClauseS.l0 k1 l0 y224 (wrap64 (x4_1 + 1))) = some r:=by first|(rw [hy224];with_reducible exact H)|(have H2_:=(Option.bind_some _ _).symm.trans H;rw [hy224];with_reducible exact H2_)|(have H2_:=(Option.bind_some _ _).symm.trans H;with_reducible exact H2_)|with_reducible exact H|(rw [hy224];exact H)|exact H
        have Ny224:=Aside0.mk hy224
        clear hy224
        have H':=Aside0.mk H
        clear H
        have p205:0≤(x4_1:Int):=of_decide_eq_true (by first|(with_reducible assumption)|assumption)
        have q205:x4_1 < (l0.length:Int):=of_decide_eq_true (by first|(with_reducible assumption)|assumption)
        obtain ⟨ad205,A205_3,c205_3,A205_4,c205_4,A205_8,c205_8,A205_9,c205_9,e205,hx205_0,hx205_1,hx205_2,hx205_3,hx205_4,hx205_5,hx205_6,hx205_7,hx205_8,hx205_9,hl205_3,hi205_3,hl205_4,hi205_4,hl205_8,hi205_8,hl205_9,hi205_9⟩:=at_T48 HR0.out x4_1 p205 q205
        cases e205
        replace hx205_0:=(HB.out.cell (World.block_lt_of_cell? w _ hx205_0)).trans hx205_0
        replace hx205_1:=(HB.out.cell (World.block_lt_of_cell? w _ hx205_1)).trans hx205_1
        replace hx205_2:=(HB.out.cell (World.block_lt_of_cell? w _ hx205_2)).trans hx205_2
        replace hx205_3:=(HB.out.cell (World.block_lt_of_cell? w _ hx205_3)).trans hx205_3
        replace hx205_4:=(HB.out.cell (World.block_lt_of_cell? w _ hx205_4)).trans hx205_4
        replace hx205_5:=(HB.out.cell (World.block_lt_of_cell? w _ hx205_5)).trans hx205_5
        replace hx205_6:=(HB.out.cell (World.block_lt_of_cell? w _ hx205_6)).trans hx205_6
        replace hx205_7:=(HB.out.cell (World.block_lt_of_cell? w _ hx205_7)).trans hx205_7
        replace hx205_8:=(HB.out.cell (World.block_lt_of_cell? w _ hx205_8)).trans hx205_8
        replace hx205_9:=(HB.out.cell (World.block_lt_of_cell? w _ hx205_9)).trans hx205_9
        have HR205_3:=Aside0.mk hi205_3
        have HC205_3:=Aside0.mk hl205_3
        clear hi205_3 hl205_3
        have HR205_4:=Aside0.mk hi205_4
        have HC205_4:=Aside0.mk hl205_4
        clear hi205_4 hl205_4
        have HR205_8:=Aside0.mk hi205_8
        have HC205_8:=Aside0.mk hl205_8
        clear hi205_8 hl205_8
        have HR205_9:=Aside0.mk hi205_9
        have HC205_9:=Aside0.mk hl205_9
        clear hi205_9 hl205_9
        replace p205:=eq_true p205
        replace q205:=eq_true q205
        go_wp2_with (first|((with_reducible refine gate_callee (f:=21) rfl ?_);refine goesL_ (some 20) rfl rfl Try.func21 (by kernel_rfl) rfl #[.agg #[.int .i64 ((rd_T48 l0 x4_1).f0.f0),.int .i64 ((rd_T48 l0 x4_1).f0.f1),.string ((rd_T48 l0 x4_1).f0.f2),.slice A205_3 ((rd_T48 l0 x4_1).f0.f3).length c205_3,.slice A205_4 ((rd_T48 l0 x4_1).f0.f4).length c205_4,.int .i64 ((rd_T48 l0 x4_1).f1.f0),.int .i64 ((rd_T48 l0 x4_1).f1.f1),.string ((rd_T48 l0 x4_1).f1.f2),.slice A205_8 ((rd_T48 l0 x4_1).f1.f3).length c205_8,.slice A205_9 ((rd_T48 l0 x4_1).f1.f4).length c205_9]] rfl (by (try simp only [List.map_toArray,List.map_cons,List.map_nil]);first|done|rfl|(simp only [List.length_drop,List.length_take];rfl)) ?_;(with_reducible refine (ih_laws_toClause k1 (by have:=HK1.out;omega) ((rd_T48 l0 x4_1).f0.f0) ((rd_T48 l0 x4_1).f0.f1) ((rd_T48 l0 x4_1).f0.f2) _ _ ((rd_T48 l0 x4_1).f0.f3) _ _ ((rd_T48 l0 x4_1).f0.f4) ((rd_T48 l0 x4_1).f1.f0) ((rd_T48 l0 x4_1).f1.f1) ((rd_T48 l0 x4_1).f1.f2) _ _ ((rd_T48 l0 x4_1).f1.f3) _ _ ((rd_T48 l0 x4_1).f1.f4) t206 t207 t208 t209 t212 t215 t216 t217 t218 t221 _ ?side1 ?side2 ?side3 ?side4 ?side5 ?side6 ?side7 ?side8 A8.out).mono ?_);(case side1=>repeat (first|exact (Kd.C_below HR205_3.out HB.out)|(with_reducible refine Kd.C_alloc ?_ _)|(with_reducible refine Kd.C_drewN ?_ _)|(with_reducible refine Kd.C_drew ?_)));(case side2=>exact HC205_3.out);(case side3=>repeat (first|exact (Kd.C_below HR205_4.out HB.out)|(with_reducible refine Kd.C_alloc ?_ _)|(with_reducible refine Kd.C_drewN ?_ _)|(with_reducible refine Kd.C_drew ?_)));(case side4=>exact HC205_4.out);(case side5=>repeat (first|exact (Kd.C_below HR205_8.out HB.out)|(with_reducible refine Kd.C_alloc ?_ _)|(with_reducible refine Kd.C_drewN ?_ _)|(with_reducible refine Kd.C_drew ?_)));(case side6=>exact HC205_8.out);(case side7=>repeat (first|exact (Kd.C_below HR205_9.out HB.out)|(with_reducible refine Kd.C_alloc ?_ _)|(with_reducible refine Kd.C_drewN ?_ _)|(with_reducible refine Kd.C_drew ?_)));(case side8=>exact HC205_9.out);rintro e w11 ⟨v210,v213,v219,v222,rfl,ho0,ho1,ho2,ho3,hb⟩;refine ⟨_,rfl,?_⟩;have n0_:=Aside0.mk (Kd.R_mono (Kd.R_told (Kd.R_told (Kd.R_told (Kd.R_told (Kd.R_old (by (with_reducible repeat (first|apply Kd.R_alloc|apply Kd.R_drewN|apply Kd.R_drew));exact HO_3.out) hb) (Kd.R_base ho0)) (Kd.R_base ho1)) (Kd.R_base ho2)) (Kd.R_base ho3)) (fun _ h_=>h_.1));have n1_:=Aside0.mk (Kd.R_lower (Kd.R_new' ho0 (Kd.R_lt (by (with_reducible repeat (first|apply Kd.R_alloc|apply Kd.R_drewN|apply Kd.R_drew));exact HO_3.out))) (below_size (by repeat (first|(with_reducible first|exact HB.out|apply below_alloc|apply pw_below_drewN|apply below_drew1)|exact HB.out))));have n2_:=Aside0.mk (Kd.R_lower (Kd.R_new' ho1 (Kd.R_lt (by (with_reducible repeat (first|apply Kd.R_alloc|apply Kd.R_drewN|apply Kd.R_drew));exact HO_3.out))) (below_size (by repeat (first|(with_reducible first|exact HB.out|apply below_alloc|apply pw_below_drewN|apply below_drew1)|exact HB.out))));have n3_:=Aside0.mk (Kd.R_lower (Kd.R_new' ho2 (Kd.R_lt (by (with_reducible repeat (first|apply Kd.R_alloc|apply Kd.R_drewN|apply Kd.R_drew));exact HO_3.out))) (below_size (by repeat (first|(with_reducible first|exact HB.out|apply below_alloc|apply pw_below_drewN|apply below_drew1)|exact HB.out))));have n4_:=Aside0.mk (Kd.R_lower (Kd.R_new' ho3 (Kd.R_lt (by (with_reducible repeat (first|apply Kd.R_alloc|apply Kd.R_drewN|apply Kd.R_drew));exact HO_3.out))) (below_size (by repeat (first|(with_reducible first|exact HB.out|apply below_alloc|apply pw_below_drewN|apply below_drew1)|exact HB.out))));have n5_:=Aside0.mk (below_step (by repeat (first|(with_reducible first|exact HB.out|apply below_alloc|apply pw_below_drewN|apply below_drew1)|exact HB.out)) hb);clear HO_3;clear HB;have HO_3:=n0_;have HO211:=n1_;have HO214:=n2_;have HO220:=n3_;have HO223:=n4_;have HB:=n5_;clear n0_ n1_ n2_ n3_ n4_ n5_;(try clear hb);(try clear hb2);(try clear hk);(try clear hi);(try clear ho0);(try clear ho1);(try clear ho2);(try clear ho3);have p10:0≤(x4_1:Int):=of_decide_eq_true (by first|(with_reducible assumption)|assumption);have q10:(x4_1:Int) < ((x3_1.length:Int):Int):=of_decide_eq_true (by first|(with_reducible assumption)|assumption);obtain ⟨go10,co10,eo10,gb10,gl10,cl10,HG10⟩:=Kd.R_form HO_3.out (by omega);(first|cases eo10|(injection eo10 with ea_ en_ ec_;(first|subst ea_|(injection ea_ with ea_;subst ea_));subst ec_;clear en_));have GB10:=Aside0.mk gb10;have GG10:=Aside0.mk HG10;clear gb10 gl10 HG10;obtain ⟨ce10,hcl10,hM10,hcc10,hfr10⟩:=Kd.R_elem HO_3.out z53 (x4_1:Int) p10 q10;obtain ⟨ve10_3,ve10_4,ve10_8,ve10_9,rfl,ge10_3,ge10_4,ge10_8,ge10_9⟩:=k53_openM hM10;have hx10_0:w11.cell? ⟨go10,(x4_1:Int).toNat * 10,none⟩ = some (.int .i64 ((rd_T53 x3_1 x4_1).f0.f0)):=hcc10 0 _ rfl;have hx10_1:w11.cell? ⟨go10,(x4_1:Int).toNat * 10 + 1,none⟩ = some (.int .i64 ((rd_T53 x3_1 x4_1).f0.f1)):=hcc10 1 _ rfl;have hx10_2:w11.cell? ⟨go10,(x4_1:Int).toNat * 10 + 2,none⟩ = some (.string ((rd_T53 x3_1 x4_1).f0.f2)):=hcc10 2 _ rfl;have hx10_3:w11.cell? ⟨go10,(x4_1:Int).toNat * 10 + 3,none⟩ = some (ve10_3):=hcc10 3 _ rfl;have hx10_4:w11.cell? ⟨go10,(x4_1:Int).toNat * 10 + 4,none⟩ = some (ve10_4):=hcc10 4 _ rfl;have hx10_5:w11.cell? ⟨go10,(x4_1:Int).toNat * 10 + 5,none⟩ = some (.int .i64 ((rd_T53 x3_1 x4_1).f1.f0)):=hcc10 5 _ rfl;have hx10_6:w11.cell? ⟨go10,(x4_1:Int).toNat * 10 + 6,none⟩ = some (.int .i64 ((rd_T53 x3_1 x4_1).f1.f1)):=hcc10 6 _ rfl;have hx10_7:w11.cell? ⟨go10,(x4_1:Int).toNat * 10 + 7,none⟩ = some (.string ((rd_T53 x3_1 x4_1).f1.f2)):=hcc10 7 _ rfl;have hx10_8:w11.cell? ⟨go10,(x4_1:Int).toNat * 10 + 8,none⟩ = some (ve10_8):=hcc10 8 _ rfl;have hx10_9:w11.cell? ⟨go10,(x4_1:Int).toNat * 10 + 9,none⟩ = some (ve10_9):=hcc10 9 _ rfl;have hf10_0:w11.frozen? ⟨go10,(x4_1:Int).toNat * 10,none⟩ = false:=hfr10 0;have hf10_1:w11.frozen? ⟨go10,(x4_1:Int).toNat * 10 + 1,none⟩ = false:=hfr10 1;have hf10_2:w11.frozen? ⟨go10,(x4_1:Int).toNat * 10 + 2,none⟩ = false:=hfr10 2;have hf10_3:w11.frozen? ⟨go10,(x4_1:Int).toNat * 10 + 3,none⟩ = false:=hfr10 3;have hf10_4:w11.frozen? ⟨go10,(x4_1:Int).toNat * 10 + 4,none⟩ = false:=hfr10 4;have hf10_5:w11.frozen? ⟨go10,(x4_1:Int).toNat * 10 + 5,none⟩ = false:=hfr10 5;have hf10_6:w11.frozen? ⟨go10,(x4_1:Int).toNat * 10 + 6,none⟩ = false:=hfr10 6;have hf10_7:w11.frozen? ⟨go10,(x4_1:Int).toNat * 10 + 7,none⟩ = false:=hfr10 7;have hf10_8:w11.frozen? ⟨go10,(x4_1:Int).toNat * 10 + 8,none⟩ = false:=hfr10 8;have hf10_9:w11.frozen? ⟨go10,(x4_1:Int).toNat * 10 + 9,none⟩ = false:=hfr10 9;clear hcl10 hcc10 hfr10 hM10;replace p10:=eq_true p10;replace q10:=eq_true q10;obtain ⟨Ao12,co12,eo12⟩:=Kd.R_slice HO223.out;subst eo12;obtain ⟨Ao13,co13,eo13⟩:=Kd.R_slice HO220.out;subst eo13;obtain ⟨Ao14,co14,eo14⟩:=Kd.R_slice HO214.out;subst eo14;obtain ⟨Ao15,co15,eo15⟩:=Kd.R_slice HO211.out;subst eo15;have n_:=Aside0.mk (Kd.R_mono (ok':=(fun k_=>some k_≠(.slice Ao15 t209.length co15:Value).ownBlock∧some k_≠(.slice Ao14 t212.length co14:Value).ownBlock∧some k_≠(.slice Ao13 t218.length co13:Value).ownBlock∧some k_≠(.slice Ao12 t221.length co12:Value).ownBlock)) HO_3.out (fun k_ hk=>⟨hk.1.1.1.2,⟨hk.1.1.2,⟨hk.1.2,hk.2⟩⟩⟩));clear HO_3;have HO_3:=n_;clear n_;have HX16:=Aside0.mk (show Kd.R k53 53 w11 w.heap.size (fun _=>True) (.slice (some ⟨go10,0,none⟩) x3_1.length co10) x3_1 from (by (with_reducible repeat (first|apply Kd.R_alloc|apply Kd.R_drewN|apply Kd.R_drew));exact Kd.R_mono HO_3.out (fun _ hk=>trivial)));obtain ⟨ce16,hcl16,hM16,hcc16,hfr16⟩:=Kd.R_elem HX16.out z53 (x4_1:Int) (of_decide_eq_true (by first|(with_reducible assumption)|assumption)) (by have h_:(x4_1:Int) < ((x3_1.length:Int):Int):=of_decide_eq_true (by first|(with_reducible assumption)|assumption);first|exact h_|(have e_:=(Kd.R_reads' HO_3.out).1;omega)|simpa using h_);obtain ⟨ve16_3,ve16_4,ve16_8,ve16_9,rfl,ge16_3,ge16_4,ge16_8,ge16_9⟩:=k53_openM hM16;have HP16:=Kd.R_seg HX16.out (x4_1:Int) (of_decide_eq_true (by first|(with_reducible assumption)|assumption)) (by have h_:(x4_1:Int) < ((x3_1.length:Int):Int):=of_decide_eq_true (by first|(with_reducible assumption)|assumption);first|exact h_|(have e_:=(Kd.R_reads' HO_3.out).1;omega)|simpa using h_) (seg:=[.int .i64 t206,.int .i64 t207,.string t208,.slice Ao15 t209.length co15,.slice Ao14 t212.length co14,.int .i64 t215,.int .i64 t216,.string t217,.slice Ao13 t218.length co13,.slice Ao12 t221.length co12]) (j:=0) hcl16 hcc16 (show 10≤10 from by decide) (x':=(⟨(⟨t206,t207,t208,t209,t212⟩:S31),(⟨t215,t216,t217,t218,t221⟩:S31)⟩:S53)) (k53_mkM _ _ _ (⟨(⟨t206,t207,t208,t209,t212⟩:S31),(⟨t215,t216,t217,t218,t221⟩:S31)⟩:S53) (Kd.R_mono (HO211.out) (fun k_ hk=>⟨trivial,fun e_=>(hk.2) (by rw [e_];rfl)⟩)) (Kd.R_mono (HO214.out) (fun k_ hk=>⟨trivial,fun e_=>(hk.2) (by rw [e_];rfl)⟩)) (Kd.R_mono (HO220.out) (fun k_ hk=>⟨trivial,fun e_=>(hk.2) (by rw [e_];rfl)⟩)) (Kd.R_mono (HO223.out) (fun k_ hk=>⟨trivial,fun e_=>(hk.2) (by rw [e_];rfl)⟩))) (fun _ hk=>hk);have hx16_0:=hcc16 0 _ rfl;(try simp only [show (k53).sz = 10 from rfl,Nat.mul_one,Nat.add_zero] at hx16_0);have hf16_0:=hfr16 0;(try simp only [show (k53).sz = 10 from rfl,Nat.mul_one,Nat.add_zero] at hf16_0);have hx16_1:=hcc16 1 _ rfl;(try simp only [show (k53).sz = 10 from rfl,Nat.mul_one,Nat.add_zero] at hx16_1);have hf16_1:=hfr16 1;(try simp only [show (k53).sz = 10 from rfl,Nat.mul_one,Nat.add_zero] at hf16_1);have hx16_2:=hcc16 2 _ rfl;(try simp only [show (k53).sz = 10 from rfl,Nat.mul_one,Nat.add_zero] at hx16_2);have hf16_2:=hfr16 2;(try simp only [show (k53).sz = 10 from rfl,Nat.mul_one,Nat.add_zero] at hf16_2);have hx16_3:=hcc16 3 _ rfl;(try simp only [show (k53).sz = 10 from rfl,Nat.mul_one,Nat.add_zero] at hx16_3);have hf16_3:=hfr16 3;(try simp only [show (k53).sz = 10 from rfl,Nat.mul_one,Nat.add_zero] at hf16_3);have hx16_4:=hcc16 4 _ rfl;(try simp only [show (k53).sz = 10 from rfl,Nat.mul_one,Nat.add_zero] at hx16_4);have hf16_4:=hfr16 4;(try simp only [show (k53).sz = 10 from rfl,Nat.mul_one,Nat.add_zero] at hf16_4);have hx16_5:=hcc16 5 _ rfl;(try simp only [show (k53).sz = 10 from rfl,Nat.mul_one,Nat.add_zero] at hx16_5);have hf16_5:=hfr16 5;(try simp only [show (k53).sz = 10 from rfl,Nat.mul_one,Nat.add_zero] at hf16_5);have hx16_6:=hcc16 6 _ rfl;(try simp only [show (k53).sz = 10 from rfl,Nat.mul_one,Nat.add_zero] at hx16_6);have hf16_6:=hfr16 6;(try simp only [show (k53).sz = 10 from rfl,Nat.mul_one,Nat.add_zero] at hf16_6);have hx16_7:=hcc16 7 _ rfl;(try simp only [show (k53).sz = 10 from rfl,Nat.mul_one,Nat.add_zero] at hx16_7);have hf16_7:=hfr16 7;(try simp only [show (k53).sz = 10 from rfl,Nat.mul_one,Nat.add_zero] at hf16_7);have hx16_8:=hcc16 8 _ rfl;(try simp only [show (k53).sz = 10 from rfl,Nat.mul_one,Nat.add_zero] at hx16_8);have hf16_8:=hfr16 8;(try simp only [show (k53).sz = 10 from rfl,Nat.mul_one,Nat.add_zero] at hf16_8);have hx16_9:=hcc16 9 _ rfl;(try simp only [show (k53).sz = 10 from rfl,Nat.mul_one,Nat.add_zero] at hx16_9);have hf16_9:=hfr16 9;(try simp only [show (k53).sz = 10 from rfl,Nat.mul_one,Nat.add_zero] at hf16_9);clear hcl16 hcc16 hfr16 hM16)|((with_reducible refine gate_store (t:=53) (p:=21) rfl ?_);refine store_event (t:=53) (p:=21) (v:=?vo_w17) (w1:=((((((((((w11.setCell ⟨go10,(x4_1:Int).toNat * 10,none⟩ (.int .i64 t206)).setCell ⟨go10,(x4_1:Int).toNat * 10 + 1,none⟩ (.int .i64 t207)).setCell ⟨go10,(x4_1:Int).toNat * 10 + 2,none⟩ (.string t208)).setCell ⟨go10,(x4_1:Int).toNat * 10 + 3,none⟩ (.slice Ao15 t209.length co15)).setCell ⟨go10,(x4_1:Int).toNat * 10 + 4,none⟩ (.slice Ao14 t212.length co14)).setCell ⟨go10,(x4_1:Int).toNat * 10 + 5,none⟩ (.int .i64 t215)).setCell ⟨go10,(x4_1:Int).toNat * 10 + 6,none⟩ (.int .i64 t216)).setCell ⟨go10,(x4_1:Int).toNat * 10 + 7,none⟩ (.string t217)).setCell ⟨go10,(x4_1:Int).toNat * 10 + 8,none⟩ (.slice Ao13 t218.length co13)).setCell ⟨go10,(x4_1:Int).toNat * 10 + 9,none⟩ (.slice Ao12 t221.length co12))) ?hg ?ho ?hn ?hr ?_;(case ho=>rfl);(case hg=>rfl);(case hn=>rfl);(case hr=>first|(go_simp;done)|(go_simp;rfl));intro w17 hw;have hg:w11.grownBy w17 (some go10):=(by rw [hw];exact HP16.2);have hp_:Kd.R k53 53 w17 w.heap.size (fun _=>True) (.slice (some ⟨go10,0,none⟩) x3_1.length co10) y224:=(by rw [hw,Ny224.out];exact HP16.1);clear HP16;have n0_:=Aside0.mk (hp_);have n1_:=Aside0.mk ((by rw [hw];exact below_set (below_set (below_set (below_set (below_set (below_set (below_set (below_set (below_set (below_set (HB.out) GB10.out) GB10.out) GB10.out) GB10.out) GB10.out) GB10.out) GB10.out) GB10.out) GB10.out) GB10.out:Below w.heap.size w w17));clear HO_3;clear HB;clear HO211;clear HO214;clear HO220;clear HO223;have HO_3:=n0_;have HB:=n1_;clear n0_ n1_;clear hg hw hp_))
        go_roundg k1
        case measure=>have:=HK1.out;omega
        case rel=>exact ⟨(y224),(wrap64 (x4_1 + 1)),(by first|rfl|(simp;done)|(simp [*];done)),H',⟨by have:=HK1.out;omega⟩,⟨by (with_reducible repeat (first|apply Kd.R_alloc|apply Kd.R_drewN|apply Kd.R_drew));exact HO_3.out⟩,⟨by repeat (first|(with_reducible first|exact HB.out|apply below_alloc|apply pw_below_drewN|apply below_drew1)|exact HB.out)⟩⟩
       ·rw [if_neg c9] at H
        exact absurd H (by simp)
      ·rw [if_neg c7] at H
       exact absurd H (by simp)
     ·rw [if_neg c6] at H
      have c6b0:decide (x4_1 < (l0.length:Int)) = false:=decide_eq_false c6
      clear c6
      obtain rfl:=Option.some.inj H
      go_wp2
      go_ret
      exact ⟨_,by first|rfl|(simp [*,errW_none,errW_some] <;> rfl),by (with_reducible repeat (first|apply Kd.R_alloc|apply Kd.R_drewN|apply Kd.R_drew));exact HO_3.out,by repeat (first|(with_reducible first|exact HB.out|apply below_alloc|apply pw_below_drewN|apply below_drew1)|exact HB.out)⟩
  ·rw [if_neg c3] at H
   exact absurd H (by simp)
 ·rw [if_neg c2] at H
  exact absurd H (by simp)

/-! ### laws_toExpr: function 6 -/
set_option maxHeartbeats 8000000 in
set_option maxRecDepth 100000 in
theorem laws_toExpr.step (k:Nat) (ih_laws_toExprS:∀ k_,k_ < k → ∀ (A0:Option Addr) (c0:Nat) (l0:List (S25)) (r:List (S31)) (w:World) (hr0:Kd.C k25 w A0 l0.length l0) (hc0:l0.length≤c0) (h:laws_toExprS.f k_ l0 = some r),Calls Try.prog 12 #[.slice A0 l0.length c0] w fun e w'=>∃ v0_:Value,e = .returned (v0_)∧Kd.R k31 31 w' w.heap.size (fun _=>True) v0_ r∧Below w.heap.size w w') (ih_laws_toClause:∀ k_,k_ < k → ∀ (a0_0:Int) (a0_1:Int) (a0_2:ByteArray) (A0_3:Option Addr) (c0_3:Nat) (l0_3:List (S25)) (A0_4:Option Addr) (c0_4:Nat) (l0_4:List (S48)) (a0_5:Int) (a0_6:Int) (a0_7:ByteArray) (A0_8:Option Addr) (c0_8:Nat) (l0_8:List (S25)) (A0_9:Option Addr) (c0_9:Nat) (l0_9:List (S48)) (r1:Int) (r2:Int) (r3:ByteArray) (r4:List (S31)) (r5:List (S53)) (r6:Int) (r7:Int) (r8:ByteArray) (r9:List (S31)) (r10:List (S53)) (w:World) (hr0_3:Kd.C k25 w A0_3 l0_3.length l0_3) (hc0_3:l0_3.length≤c0_3) (hr0_4:Kd.C k48 w A0_4 l0_4.length l0_4) (hc0_4:l0_4.length≤c0_4) (hr0_8:Kd.C k25 w A0_8 l0_8.length l0_8) (hc0_8:l0_8.length≤c0_8) (hr0_9:Kd.C k48 w A0_9 l0_9.length l0_9) (hc0_9:l0_9.length≤c0_9) (h:laws_toClause.f k_ a0_0 a0_1 a0_2 l0_3 l0_4 a0_5 a0_6 a0_7 l0_8 l0_9 = some (r1,r2,r3,r4,r5,r6,r7,r8,r9,r10)),Calls Try.prog 21 #[.agg #[.int .i64 a0_0,.int .i64 a0_1,.string a0_2,.slice A0_3 l0_3.length c0_3,.slice A0_4 l0_4.length c0_4,.int .i64 a0_5,.int .i64 a0_6,.string a0_7,.slice A0_8 l0_8.length c0_8,.slice A0_9 l0_9.length c0_9]] w fun e w'=>∃ v3_ v4_ v8_ v9_:Value,e = .returned (.agg #[.int .i64 r1,.int .i64 r2,.string r3,v3_,v4_,.int .i64 r6,.int .i64 r7,.string r8,v8_,v9_])∧Kd.R k31 31 w' w.heap.size (fun k_=>some k_≠(v4_:Value).ownBlock∧some k_≠(v8_:Value).ownBlock∧some k_≠(v9_:Value).ownBlock) v3_ r4∧Kd.R k53 53 w' w.heap.size (fun k_=>some k_≠(v3_:Value).ownBlock∧some k_≠(v8_:Value).ownBlock∧some k_≠(v9_:Value).ownBlock) v4_ r5∧Kd.R k31 31 w' w.heap.size (fun k_=>some k_≠(v3_:Value).ownBlock∧some k_≠(v4_:Value).ownBlock∧some k_≠(v9_:Value).ownBlock) v8_ r9∧Kd.R k53 53 w' w.heap.size (fun k_=>some k_≠(v3_:Value).ownBlock∧some k_≠(v4_:Value).ownBlock∧some k_≠(v8_:Value).ownBlock) v9_ r10∧Below w.heap.size w w') (ih_laws_toClauseS:∀ k_,k_ < k → ∀ (A0:Option Addr) (c0:Nat) (l0:List (S48)) (r:List (S53)) (w:World) (hr0:Kd.C k48 w A0 l0.length l0) (hc0:l0.length≤c0) (h:laws_toClauseS.f k_ l0 = some r),Calls Try.prog 13 #[.slice A0 l0.length c0] w fun e w'=>∃ v0_:Value,e = .returned (v0_)∧Kd.R k53 53 w' w.heap.size (fun _=>True) v0_ r∧Below w.heap.size w w') (ih_laws_toExpr:∀ k_,k_ < k → ∀ (a0_0:Int) (a0_1:Int) (a0_2:ByteArray) (A0_3:Option Addr) (c0_3:Nat) (l0_3:List (S25)) (A0_4:Option Addr) (c0_4:Nat) (l0_4:List (S48)) (r1:Int) (r2:Int) (r3:ByteArray) (r4:List (S31)) (r5:List (S53)) (w:World) (hr0_3:Kd.C k25 w A0_3 l0_3.length l0_3) (hc0_3:l0_3.length≤c0_3) (hr0_4:Kd.C k48 w A0_4 l0_4.length l0_4) (hc0_4:l0_4.length≤c0_4) (h:laws_toExpr.f k_ a0_0 a0_1 a0_2 l0_3 l0_4 = some (r1,r2,r3,r4,r5)),Calls Try.prog 6 #[.agg #[.int .i64 a0_0,.int .i64 a0_1,.string a0_2,.slice A0_3 l0_3.length c0_3,.slice A0_4 l0_4.length c0_4]] w fun e w'=>∃ v3_ v4_:Value,e = .returned (.agg #[.int .i64 r1,.int .i64 r2,.string r3,v3_,v4_])∧Kd.R k31 31 w' w.heap.size (fun k_=>some k_≠(v4_:Value).ownBlock) v3_ r4∧Kd.R k53 53 w' w.heap.size (fun k_=>some k_≠(v3_:Value).ownBlock) v4_ r5∧Below w.heap.size w w'):∀ (a0_0:Int) (a0_1:Int) (a0_2:ByteArray) (A0_3:Option Addr) (c0_3:Nat) (l0_3:List (S25)) (A0_4:Option Addr) (c0_4:Nat) (l0_4:List (S48)) (r1:Int) (r2:Int) (r3:ByteArray) (r4:List (S31)) (r5:List (S53)) (w:World) (hr0_3:Kd.C k25 w A0_3 l0_3.length l0_3) (hc0_3:l0_3.length≤c0_3) (hr0_4:Kd.C k48 w A0_4 l0_4.length l0_4) (hc0_4:l0_4.length≤c0_4) (h:laws_toExpr.f k a0_0 a0_1 a0_2 l0_3 l0_4 = some (r1,r2,r3,r4,r5)),
  Calls Try.prog 6 #[.agg #[.int .i64 a0_0,.int .i64 a0_1,.string a0_2,.slice A0_3 l0_3.length c0_3,.slice A0_4 l0_4.length c0_4]] w fun e w'=>∃ v3_ v4_:Value,e = .returned (.agg #[.int .i64 r1,.int .i64 r2,.string r3,v3_,v4_])∧Kd.R k31 31 w' w.heap.size (fun k_=>some k_≠(v4_:Value).ownBlock) v3_ r4∧Kd.R k53 53 w' w.heap.size (fun k_=>some k_≠(v3_:Value).ownBlock) v4_ r5∧Below w.heap.size w w':=by
 intro a0_0 a0_1 a0_2 A0_3 c0_3 l0_3 A0_4 c0_4 l0_4 r1 r2 r3 r4 r5 w hr0_3 hc0_3 hr0_4 hc0_4 h
 cases k with
 | zero=>exact absurd h (by simp [laws_toExpr.f])
 | succ k =>
 simp only [laws_toExpr.f] at h
 have hu25:=Try.underlying25
 have hu31:=Try.underlying31
 have HR0_3:=Aside0.mk hr0_3
 have HC0_3:=Aside0.mk hc0_3
 clear hr0_3 hc0_3
 have HR0_4:=Aside0.mk hr0_4
 have HC0_4:=Aside0.mk hc0_4
 clear hr0_4 hc0_4
 have HB:=Aside0.mk (Below.refl w.heap.size w)
 have H:((laws_toExprS.f k l0_3).bind fun t228=>((laws_toClauseS.f k l0_4).bind fun t231=>(some (a0_0,a0_1,a0_2,t228,t231)))) = some (r1,r2,r3,r4,r5):=h
 clear h
 replace H:=Option.bind_eq_some_iff.mp H
 obtain ⟨t228,A20,H⟩:=H
 replace H:((laws_toClauseS.f k l0_4).bind fun t231=>(some (a0_0,a0_1,a0_2,t228,t231))) = some (r1,r2,r3,r4,r5):=H
 have A2:=Aside0.mk A20
 clear A20
 replace H:=Option.bind_eq_some_iff.mp H
 obtain ⟨t231,A30,H⟩:=H
 replace H:(some (a0_0,a0_1,a0_2,t228,t231)) = some (r1,r2,r3,r4,r5):=H
 have A3:=Aside0.mk A30
 clear A30
 simp only [Option.some.injEq,Prod.mk.injEq] at H
 obtain ⟨rfl,rfl,rfl,rfl,rfl⟩:=H
 go_enter Try.func6,Try.ntmps6
 go_wp2_with (first|((with_reducible refine gate_dst (N:=1) rfl ?_);refine box_event ?hg (N:=1) ?hd (cs:=#[.int .i64 a0_0,.int .i64 a0_1,.string a0_2,.slice A0_3 l0_3.length c0_3,.slice A0_4 l0_4.length c0_4]) (t:=25) ?hr ?_;(case hd=>rfl);(case hg=>rfl);(case hr=>first|(go_simp;done)|(go_simp;rfl));intro gb225 hg w4 hbox hb;have n0_:=Aside0.mk (below_step (by repeat (first|(with_reducible first|exact HB.out|apply below_alloc|apply pw_below_drewN|apply below_drew1)|exact HB.out)) hb);have n1_:=Aside0.mk (hbox);have n2_:=Aside0.mk ((by rw [hg];exact (below_size (by repeat (first|(with_reducible first|exact HB.out|apply below_alloc|apply pw_below_drewN|apply below_drew1)|exact HB.out))):w.heap.size≤gb225));have n3_:=Aside0.mk ((by rw [hg];exact (below_size (by repeat (first|(with_reducible first|exact HB.out|apply below_alloc|apply pw_below_drewN|apply below_drew1)|exact HB.out))):w.heap.size≤gb225));clear HB;have HB:=n0_;have BK225:=n1_;have GW225:=n2_;have GE225:=n3_;clear n0_ n1_ n2_ n3_;clear hb hbox hg)|((with_reducible refine gate_dst (N:=2) rfl ?_);refine box_event ?hg (N:=2) ?hd (cs:=#[.int .i64 0,.int .i64 0,.string (⟨#[]⟩:ByteArray),.slice none 0 0,.slice none 0 0]) (t:=31) ?hr ?_;(case hd=>rfl);(case hg=>rfl);(case hr=>first|(go_simp;done)|(go_simp;rfl));intro gb226 hg w5 hbox hb;have n0_:=Aside0.mk (blk_below (g:=gb225) (o:=.cells #[.int .i64 a0_0,.int .i64 a0_1,.string a0_2,.slice A0_3 l0_3.length c0_3,.slice A0_4 l0_4.length c0_4] 25 (0,0)) (by (with_reducible repeat (first|refine blk_drewN ?_ _|refine blk_drew ?_|refine blk_alloc ?_ _));exact BK225.out) hb);have n1_:=Aside0.mk (below_step (by repeat (first|(with_reducible first|exact HB.out|apply below_alloc|apply pw_below_drewN|apply below_drew1|refine below_set ?_ GE225.out)|exact HB.out)) hb);have n2_:=Aside0.mk (hbox);have n3_:=Aside0.mk ((by rw [hg];exact (below_size (by repeat (first|(with_reducible first|exact HB.out|apply below_alloc|apply pw_below_drewN|apply below_drew1|refine below_set ?_ GE225.out)|exact HB.out))):w.heap.size≤gb226));have n4_:=Aside0.mk ((by rw [hg];exact (below_size (by repeat (first|(with_reducible first|exact HB.out|apply below_alloc|apply pw_below_drewN|apply below_drew1|refine below_set ?_ GE225.out)|exact HB.out))):w.heap.size≤gb226));have n5_:=Aside0.mk ((by rw [hg];exact Nat.ne_of_lt (blk_lt (g:=gb225) (o:=.cells #[.int .i64 a0_0,.int .i64 a0_1,.string a0_2,.slice A0_3 l0_3.length c0_3,.slice A0_4 l0_4.length c0_4] 25 (0,0)) (by (with_reducible repeat (first|refine blk_drewN ?_ _|refine blk_drew ?_|refine blk_alloc ?_ _));exact BK225.out)):gb225≠gb226));have n6_:=Aside0.mk ((by rw [hg];exact Nat.ne_of_gt (blk_lt (g:=gb225) (o:=.cells #[.int .i64 a0_0,.int .i64 a0_1,.string a0_2,.slice A0_3 l0_3.length c0_3,.slice A0_4 l0_4.length c0_4] 25 (0,0)) (by (with_reducible repeat (first|refine blk_drewN ?_ _|refine blk_drew ?_|refine blk_alloc ?_ _));exact BK225.out)):gb226≠gb225));clear BK225;clear HB;have BK225:=n0_;have HB:=n1_;have BK226:=n2_;have GW226:=n3_;have GE226:=n4_;have NB225_226:=n5_;have NB226_225:=n6_;clear n0_ n1_ n2_ n3_ n4_ n5_ n6_;clear hb hbox hg)|((with_reducible refine gate_dst (N:=3) rfl ?_);refine box_event ?hg (N:=3) ?hd (cs:=#[.int .i64 0,.int .i64 0,.string (⟨#[]⟩:ByteArray),.slice none 0 0,.slice none 0 0]) (t:=31) ?hr ?_;(case hd=>rfl);(case hg=>rfl);(case hr=>first|(go_simp;done)|(go_simp;rfl));intro gb227 hg w6 hbox hb;have n0_:=Aside0.mk (blk_below (g:=gb225) (o:=.cells #[.int .i64 a0_0,.int .i64 a0_1,.string a0_2,.slice A0_3 l0_3.length c0_3,.slice A0_4 l0_4.length c0_4] 25 (0,0)) (by (with_reducible repeat (first|refine blk_drewN ?_ _|refine blk_drew ?_|refine blk_alloc ?_ _));exact BK225.out) hb);have n1_:=Aside0.mk (blk_below (g:=gb226) (o:=.cells #[.int .i64 0,.int .i64 0,.string (⟨#[]⟩:ByteArray),.slice none 0 0,.slice none 0 0] 31 (0,0)) (by (with_reducible repeat (first|refine blk_drewN ?_ _|refine blk_drew ?_|refine blk_alloc ?_ _));exact BK226.out) hb);have n2_:=Aside0.mk (below_step (by repeat (first|(with_reducible first|exact HB.out|apply below_alloc|apply pw_below_drewN|apply below_drew1|refine below_set ?_ GE225.out|refine below_set ?_ GE226.out)|exact HB.out)) hb);have n3_:=Aside0.mk (hbox);have n4_:=Aside0.mk ((by rw [hg];exact (below_size (by repeat (first|(with_reducible first|exact HB.out|apply below_alloc|apply pw_below_drewN|apply below_drew1|refine below_set ?_ GE225.out|refine below_set ?_ GE226.out)|exact HB.out))):w.heap.size≤gb227));have n5_:=Aside0.mk ((by rw [hg];exact (below_size (by repeat (first|(with_reducible first|exact HB.out|apply below_alloc|apply pw_below_drewN|apply below_drew1|refine below_set ?_ GE225.out|refine below_set ?_ GE226.out)|exact HB.out))):w.heap.size≤gb227));have n6_:=Aside0.mk ((by rw [hg];exact Nat.ne_of_lt (blk_lt (g:=gb225) (o:=.cells #[.int .i64 a0_0,.int .i64 a0_1,.string a0_2,.slice A0_3 l0_3.length c0_3,.slice A0_4 l0_4.length c0_4] 25 (0,0)) (by (with_reducible repeat (first|refine blk_drewN ?_ _|refine blk_drew ?_|refine blk_alloc ?_ _));exact BK225.out)):gb225≠gb227));have n7_:=Aside0.mk ((by rw [hg];exact Nat.ne_of_gt (blk_lt (g:=gb225) (o:=.cells #[.int .i64 a0_0,.int .i64 a0_1,.string a0_2,.slice A0_3 l0_3.length c0_3,.slice A0_4 l0_4.length c0_4] 25 (0,0)) (by (with_reducible repeat (first|refine blk_drewN ?_ _|refine blk_drew ?_|refine blk_alloc ?_ _));exact BK225.out)):gb227≠gb225));have n8_:=Aside0.mk ((by rw [hg];exact Nat.ne_of_lt (blk_lt (g:=gb226) (o:=.cells #[.int .i64 0,.int .i64 0,.string (⟨#[]⟩:ByteArray),.slice none 0 0,.slice none 0 0] 31 (0,0)) (by (with_reducible repeat (first|refine blk_drewN ?_ _|refine blk_drew ?_|refine blk_alloc ?_ _));exact BK226.out)):gb226≠gb227));have n9_:=Aside0.mk ((by rw [hg];exact Nat.ne_of_gt (blk_lt (g:=gb226) (o:=.cells #[.int .i64 0,.int .i64 0,.string (⟨#[]⟩:ByteArray),.slice none 0 0,.slice none 0 0] 31 (0,0)) (by (with_reducible repeat (first|refine blk_drewN ?_ _|refine blk_drew ?_|refine blk_alloc ?_ _));exact BK226.out)):gb227≠gb226));clear BK225;clear BK226;clear HB;have BK225:=n0_;have BK226:=n1_;have HB:=n2_;have BK227:=n3_;have GW227:=n4_;have GE227:=n5_;have NB225_227:=n6_;have NB227_225:=n7_;have NB226_227:=n8_;have NB227_226:=n9_;clear n0_ n1_ n2_ n3_ n4_ n5_ n6_ n7_ n8_ n9_;clear hb hbox hg;have hnb7:=NB225_226.out;have hnc7:=NB226_225.out;have hnb8:=NB225_227.out;have hnc8:=NB227_225.out;have hcz9_0:w6.cell? ⟨gb225,0,none⟩ = some (.int .i64 a0_0):=(blk_cell BK225.out 0).trans rfl;have hcz9_1:w6.cell? ⟨gb225,1,none⟩ = some (.int .i64 a0_1):=(blk_cell BK225.out 1).trans rfl;have hcz9_2:w6.cell? ⟨gb225,2,none⟩ = some (.string a0_2):=(blk_cell BK225.out 2).trans rfl;have hcz9_3:w6.cell? ⟨gb225,3,none⟩ = some (.slice A0_3 l0_3.length c0_3):=(blk_cell BK225.out 3).trans rfl;have hcz9_4:w6.cell? ⟨gb225,4,none⟩ = some (.slice A0_4 l0_4.length c0_4):=(blk_cell BK225.out 4).trans rfl;have hfz9_0:=blk_frozen BK225.out 0;have hfz9_1:=blk_frozen BK225.out 1;have hfz9_2:=blk_frozen BK225.out 2;have hfz9_3:=blk_frozen BK225.out 3;have hfz9_4:=blk_frozen BK225.out 4;have hnb10:=NB227_226.out;have hnc10:=NB226_227.out;have hcz11_0:w6.cell? ⟨gb227,0,none⟩ = some (.int .i64 0):=(blk_cell BK227.out 0).trans rfl;have hcz11_1:w6.cell? ⟨gb227,1,none⟩ = some (.int .i64 0):=(blk_cell BK227.out 1).trans rfl;have hcz11_2:w6.cell? ⟨gb227,2,none⟩ = some (.string (⟨#[]⟩:ByteArray)):=(blk_cell BK227.out 2).trans rfl;have hcz11_3:w6.cell? ⟨gb227,3,none⟩ = some (.slice none 0 0):=(blk_cell BK227.out 3).trans rfl;have hcz11_4:w6.cell? ⟨gb227,4,none⟩ = some (.slice none 0 0):=(blk_cell BK227.out 4).trans rfl;have hfz11_0:=blk_frozen BK227.out 0;have hfz11_1:=blk_frozen BK227.out 1;have hfz11_2:=blk_frozen BK227.out 2;have hfz11_3:=blk_frozen BK227.out 3;have hfz11_4:=blk_frozen BK227.out 4)|((with_reducible refine gate_callee (f:=12) rfl ?_);refine goesL_ (some 15) rfl rfl Try.func12 (by kernel_rfl) rfl #[.slice A0_3 l0_3.length c0_3] rfl (by (try simp only [List.map_toArray,List.map_cons,List.map_nil]);first|done|rfl|(simp only [List.length_drop,List.length_take];rfl)) ?_;(with_reducible refine (ih_laws_toExprS k (by omega) _ _ l0_3 t228 _ ?side1 ?side2 A2.out).mono ?_);(case side1=>exact Kd.C_below HR0_3.out (by repeat (first|(with_reducible first|exact HB.out|apply below_alloc|apply pw_below_drewN|apply below_drew1|refine below_set ?_ GE225.out|refine below_set ?_ GE226.out|refine below_set ?_ GE227.out)|exact HB.out)));(case side2=>exact HC0_3.out);rintro e w12 ⟨v229,rfl,ho0,hb⟩;refine ⟨_,rfl,?_⟩;have n0_:=Aside0.mk (Kd.R_lower (Kd.R_newB (Kd.R_newB ho0 (g:=gb226) (o:=.cells #[.int .i64 0,.int .i64 0,.string (⟨#[]⟩:ByteArray),.slice none 0 0,.slice none 0 0] 31 (0,0)) (by (with_reducible repeat (first|refine blk_drewN ?_ _|refine blk_drew ?_|refine blk_alloc ?_ _));refine blk_far ?_ NB226_227.out _;(with_reducible repeat (first|refine blk_drewN ?_ _|refine blk_drew ?_|refine blk_alloc ?_ _));refine blk_far ?_ NB226_227.out _;(with_reducible repeat (first|refine blk_drewN ?_ _|refine blk_drew ?_|refine blk_alloc ?_ _));refine blk_far ?_ NB226_227.out _;(with_reducible repeat (first|refine blk_drewN ?_ _|refine blk_drew ?_|refine blk_alloc ?_ _));exact BK226.out)) (g:=gb227) (o:=.cells #[.int .i64 a0_0,.int .i64 a0_1,.string a0_2,.slice none 0 0,.slice none 0 0] 31 (0,0)) (by (with_reducible repeat (first|refine blk_drewN ?_ _|refine blk_drew ?_|refine blk_alloc ?_ _));refine blk_put (cs:=#[.int .i64 a0_0,.int .i64 a0_1,.string (⟨#[]⟩:ByteArray),.slice none 0 0,.slice none 0 0]) ?_ 2 _ rfl;(with_reducible repeat (first|refine blk_drewN ?_ _|refine blk_drew ?_|refine blk_alloc ?_ _));refine blk_put (cs:=#[.int .i64 a0_0,.int .i64 0,.string (⟨#[]⟩:ByteArray),.slice none 0 0,.slice none 0 0]) ?_ 1 _ rfl;(with_reducible repeat (first|refine blk_drewN ?_ _|refine blk_drew ?_|refine blk_alloc ?_ _));refine blk_put (cs:=#[.int .i64 0,.int .i64 0,.string (⟨#[]⟩:ByteArray),.slice none 0 0,.slice none 0 0]) ?_ 0 _ rfl;(with_reducible repeat (first|refine blk_drewN ?_ _|refine blk_drew ?_|refine blk_alloc ?_ _));exact BK227.out)) (below_size (by repeat (first|(with_reducible first|exact HB.out|apply below_alloc|apply pw_below_drewN|apply below_drew1|refine below_set ?_ GE225.out|refine below_set ?_ GE226.out|refine below_set ?_ GE227.out)|exact HB.out))));have n1_:=Aside0.mk (blk_below (g:=gb225) (o:=.cells #[.int .i64 a0_0,.int .i64 a0_1,.string a0_2,.slice A0_3 l0_3.length c0_3,.slice A0_4 l0_4.length c0_4] 25 (0,0)) (by (with_reducible repeat (first|refine blk_drewN ?_ _|refine blk_drew ?_|refine blk_alloc ?_ _));refine blk_far ?_ NB225_227.out _;(with_reducible repeat (first|refine blk_drewN ?_ _|refine blk_drew ?_|refine blk_alloc ?_ _));refine blk_far ?_ NB225_227.out _;(with_reducible repeat (first|refine blk_drewN ?_ _|refine blk_drew ?_|refine blk_alloc ?_ _));refine blk_far ?_ NB225_227.out _;(with_reducible repeat (first|refine blk_drewN ?_ _|refine blk_drew ?_|refine blk_alloc ?_ _));exact BK225.out) hb);have n2_:=Aside0.mk (blk_below (g:=gb226) (o:=.cells #[.int .i64 0,.int .i64 0,.string (⟨#[]⟩:ByteArray),.slice none 0 0,.slice none 0 0] 31 (0,0)) (by (with_reducible repeat (first|refine blk_drewN ?_ _|refine blk_drew ?_|refine blk_alloc ?_ _));refine blk_far ?_ NB226_227.out _;(with_reducible repeat (first|refine blk_drewN ?_ _|refine blk_drew ?_|refine blk_alloc ?_ _));refine blk_far ?_ NB226_227.out _;(with_reducible repeat (first|refine blk_drewN ?_ _|refine blk_drew ?_|refine blk_alloc ?_ _));refine blk_far ?_ NB226_227.out _;(with_reducible repeat (first|refine blk_drewN ?_ _|refine blk_drew ?_|refine blk_alloc ?_ _));exact BK226.out) hb);have n3_:=Aside0.mk (blk_below (g:=gb227) (o:=.cells #[.int .i64 a0_0,.int .i64 a0_1,.string a0_2,.slice none 0 0,.slice none 0 0] 31 (0,0)) (by (with_reducible repeat (first|refine blk_drewN ?_ _|refine blk_drew ?_|refine blk_alloc ?_ _));refine blk_put (cs:=#[.int .i64 a0_0,.int .i64 a0_1,.string (⟨#[]⟩:ByteArray),.slice none 0 0,.slice none 0 0]) ?_ 2 _ rfl;(with_reducible repeat (first|refine blk_drewN ?_ _|refine blk_drew ?_|refine blk_alloc ?_ _));refine blk_put (cs:=#[.int .i64 a0_0,.int .i64 0,.string (⟨#[]⟩:ByteArray),.slice none 0 0,.slice none 0 0]) ?_ 1 _ rfl;(with_reducible repeat (first|refine blk_drewN ?_ _|refine blk_drew ?_|refine blk_alloc ?_ _));refine blk_put (cs:=#[.int .i64 0,.int .i64 0,.string (⟨#[]⟩:ByteArray),.slice none 0 0,.slice none 0 0]) ?_ 0 _ rfl;(with_reducible repeat (first|refine blk_drewN ?_ _|refine blk_drew ?_|refine blk_alloc ?_ _));exact BK227.out) hb);have n4_:=Aside0.mk (below_step (by repeat (first|(with_reducible first|exact HB.out|apply below_alloc|apply pw_below_drewN|apply below_drew1|refine below_set ?_ GE225.out|refine below_set ?_ GE226.out|refine below_set ?_ GE227.out)|exact HB.out)) hb);clear BK225;clear BK226;clear BK227;clear HB;have HO230:=n0_;have BK225:=n1_;have BK226:=n2_;have BK227:=n3_;have HB:=n4_;clear n0_ n1_ n2_ n3_ n4_;(try clear hb);(try clear hb2);(try clear hk);(try clear hi);(try clear ho0);obtain ⟨Ao13,co13,eo13⟩:=Kd.R_slice HO230.out;subst eo13;have hcz14_0:w12.cell? ⟨gb227,0,none⟩ = some (.int .i64 a0_0):=(blk_cell BK227.out 0).trans rfl;have hcz14_1:w12.cell? ⟨gb227,1,none⟩ = some (.int .i64 a0_1):=(blk_cell BK227.out 1).trans rfl;have hcz14_2:w12.cell? ⟨gb227,2,none⟩ = some (.string a0_2):=(blk_cell BK227.out 2).trans rfl;have hcz14_3:w12.cell? ⟨gb227,3,none⟩ = some (.slice none 0 0):=(blk_cell BK227.out 3).trans rfl;have hcz14_4:w12.cell? ⟨gb227,4,none⟩ = some (.slice none 0 0):=(blk_cell BK227.out 4).trans rfl;have hfz14_0:=blk_frozen BK227.out 0;have hfz14_1:=blk_frozen BK227.out 1;have hfz14_2:=blk_frozen BK227.out 2;have hfz14_3:=blk_frozen BK227.out 3;have hfz14_4:=blk_frozen BK227.out 4;have hcz15_0:w12.cell? ⟨gb225,0,none⟩ = some (.int .i64 a0_0):=(blk_cell BK225.out 0).trans rfl;have hcz15_1:w12.cell? ⟨gb225,1,none⟩ = some (.int .i64 a0_1):=(blk_cell BK225.out 1).trans rfl;have hcz15_2:w12.cell? ⟨gb225,2,none⟩ = some (.string a0_2):=(blk_cell BK225.out 2).trans rfl;have hcz15_3:w12.cell? ⟨gb225,3,none⟩ = some (.slice A0_3 l0_3.length c0_3):=(blk_cell BK225.out 3).trans rfl;have hcz15_4:w12.cell? ⟨gb225,4,none⟩ = some (.slice A0_4 l0_4.length c0_4):=(blk_cell BK225.out 4).trans rfl;have hfz15_0:=blk_frozen BK225.out 0;have hfz15_1:=blk_frozen BK225.out 1;have hfz15_2:=blk_frozen BK225.out 2;have hfz15_3:=blk_frozen BK225.out 3;have hfz15_4:=blk_frozen BK225.out 4)|((with_reducible refine gate_callee (f:=13) rfl ?_);refine goesL_ (some 19) rfl rfl Try.func13 (by kernel_rfl) rfl #[.slice A0_4 l0_4.length c0_4] rfl (by (try simp only [List.map_toArray,List.map_cons,List.map_nil]);first|done|rfl|(simp only [List.length_drop,List.length_take];rfl)) ?_;(with_reducible refine (ih_laws_toClauseS k (by omega) _ _ l0_4 t231 _ ?side1 ?side2 A3.out).mono ?_);(case side1=>exact Kd.C_below HR0_4.out (by repeat (first|(with_reducible first|exact HB.out|apply below_alloc|apply pw_below_drewN|apply below_drew1|refine below_set ?_ GE225.out|refine below_set ?_ GE226.out|refine below_set ?_ GE227.out)|exact HB.out)));(case side2=>exact HC0_4.out);rintro e w16 ⟨v232,rfl,ho0,hb⟩;refine ⟨_,rfl,?_⟩;have n0_:=Aside0.mk (Kd.R_elder' (by (with_reducible repeat (first|apply Kd.R_alloc|apply Kd.R_drewN|apply Kd.R_drew));exact (Kd.R_mono (Kd.R_far (p:=⟨gb227,3,none⟩) (Kd.R_mono HO230.out (fun k_ hk=>(⟨hk,hk.2⟩:_∧k_≠gb227))) (fun _ hk=>hk.2) (.slice Ao13 t228.length co13)) (fun _ h_=>h_.1))) (Kd.R_base ho0) hb);have n1_:=Aside0.mk (Kd.R_lower (Kd.R_newB (Kd.R_newB (Kd.R_new' ho0 (Kd.R_lt (by (with_reducible repeat (first|apply Kd.R_alloc|apply Kd.R_drewN|apply Kd.R_drew));exact (Kd.R_mono (Kd.R_far (p:=⟨gb227,3,none⟩) (Kd.R_mono HO230.out (fun k_ hk=>(⟨hk,hk.2⟩:_∧k_≠gb227))) (fun _ hk=>hk.2) (.slice Ao13 t228.length co13)) (fun _ h_=>h_.1))))) (g:=gb226) (o:=.cells #[.int .i64 0,.int .i64 0,.string (⟨#[]⟩:ByteArray),.slice none 0 0,.slice none 0 0] 31 (0,0)) (by (with_reducible repeat (first|refine blk_drewN ?_ _|refine blk_drew ?_|refine blk_alloc ?_ _));refine blk_far ?_ NB226_227.out _;(with_reducible repeat (first|refine blk_drewN ?_ _|refine blk_drew ?_|refine blk_alloc ?_ _));exact BK226.out)) (g:=gb227) (o:=.cells #[.int .i64 a0_0,.int .i64 a0_1,.string a0_2,.slice Ao13 t228.length co13,.slice none 0 0] 31 (0,0)) (by (with_reducible repeat (first|refine blk_drewN ?_ _|refine blk_drew ?_|refine blk_alloc ?_ _));refine blk_put (cs:=#[.int .i64 a0_0,.int .i64 a0_1,.string a0_2,.slice none 0 0,.slice none 0 0]) ?_ 3 _ rfl;(with_reducible repeat (first|refine blk_drewN ?_ _|refine blk_drew ?_|refine blk_alloc ?_ _));exact BK227.out)) (below_size (by repeat (first|(with_reducible first|exact HB.out|apply below_alloc|apply pw_below_drewN|apply below_drew1|refine below_set ?_ GE225.out|refine below_set ?_ GE226.out|refine below_set ?_ GE227.out)|exact HB.out))));have n2_:=Aside0.mk (blk_below (g:=gb225) (o:=.cells #[.int .i64 a0_0,.int .i64 a0_1,.string a0_2,.slice A0_3 l0_3.length c0_3,.slice A0_4 l0_4.length c0_4] 25 (0,0)) (by (with_reducible repeat (first|refine blk_drewN ?_ _|refine blk_drew ?_|refine blk_alloc ?_ _));refine blk_far ?_ NB225_227.out _;(with_reducible repeat (first|refine blk_drewN ?_ _|refine blk_drew ?_|refine blk_alloc ?_ _));exact BK225.out) hb);have n3_:=Aside0.mk (blk_below (g:=gb226) (o:=.cells #[.int .i64 0,.int .i64 0,.string (⟨#[]⟩:ByteArray),.slice none 0 0,.slice none 0 0] 31 (0,0)) (by (with_reducible repeat (first|refine blk_drewN ?_ _|refine blk_drew ?_|refine blk_alloc ?_ _));refine blk_far ?_ NB226_227.out _;(with_reducible repeat (first|refine blk_drewN ?_ _|refine blk_drew ?_|refine blk_alloc ?_ _));exact BK226.out) hb);have n4_:=Aside0.mk (blk_below (g:=gb227) (o:=.cells #[.int .i64 a0_0,.int .i64 a0_1,.string a0_2,.slice Ao13 t228.length co13,.slice none 0 0] 31 (0,0)) (by (with_reducible repeat (first|refine blk_drewN ?_ _|refine blk_drew ?_|refine blk_alloc ?_ _));refine blk_put (cs:=#[.int .i64 a0_0,.int .i64 a0_1,.string a0_2,.slice none 0 0,.slice none 0 0]) ?_ 3 _ rfl;(with_reducible repeat (first|refine blk_drewN ?_ _|refine blk_drew ?_|refine blk_alloc ?_ _));exact BK227.out) hb);have n5_:=Aside0.mk (below_step (by repeat (first|(with_reducible first|exact HB.out|apply below_alloc|apply pw_below_drewN|apply below_drew1|refine below_set ?_ GE225.out|refine below_set ?_ GE226.out|refine below_set ?_ GE227.out)|exact HB.out)) hb);clear HO230;clear BK225;clear BK226;clear BK227;clear HB;have HO230:=n0_;have HO233:=n1_;have BK225:=n2_;have BK226:=n3_;have BK227:=n4_;have HB:=n5_;clear n0_ n1_ n2_ n3_ n4_ n5_;(try clear hb);(try clear hb2);(try clear hk);(try clear hi);(try clear ho0);obtain ⟨Ao17,co17,eo17⟩:=Kd.R_slice HO233.out;subst eo17;have hcz18_0:w16.cell? ⟨gb227,0,none⟩ = some (.int .i64 a0_0):=(blk_cell BK227.out 0).trans rfl;have hcz18_1:w16.cell? ⟨gb227,1,none⟩ = some (.int .i64 a0_1):=(blk_cell BK227.out 1).trans rfl;have hcz18_2:w16.cell? ⟨gb227,2,none⟩ = some (.string a0_2):=(blk_cell BK227.out 2).trans rfl;have hcz18_3:w16.cell? ⟨gb227,3,none⟩ = some (.slice Ao13 t228.length co13):=(blk_cell BK227.out 3).trans rfl;have hcz18_4:w16.cell? ⟨gb227,4,none⟩ = some (.slice none 0 0):=(blk_cell BK227.out 4).trans rfl;have hfz18_0:=blk_frozen BK227.out 0;have hfz18_1:=blk_frozen BK227.out 1;have hfz18_2:=blk_frozen BK227.out 2;have hfz18_3:=blk_frozen BK227.out 3;have hfz18_4:=blk_frozen BK227.out 4;have hcz19_0:w16.cell? ⟨gb226,0,none⟩ = some (.int .i64 0):=(blk_cell BK226.out 0).trans rfl;have hcz19_1:w16.cell? ⟨gb226,1,none⟩ = some (.int .i64 0):=(blk_cell BK226.out 1).trans rfl;have hcz19_2:w16.cell? ⟨gb226,2,none⟩ = some (.string (⟨#[]⟩:ByteArray)):=(blk_cell BK226.out 2).trans rfl;have hcz19_3:w16.cell? ⟨gb226,3,none⟩ = some (.slice none 0 0):=(blk_cell BK226.out 3).trans rfl;have hcz19_4:w16.cell? ⟨gb226,4,none⟩ = some (.slice none 0 0):=(blk_cell BK226.out 4).trans rfl;have hfz19_0:=blk_frozen BK226.out 0;have hfz19_1:=blk_frozen BK226.out 1;have hfz19_2:=blk_frozen BK226.out 2;have hfz19_3:=blk_frozen BK226.out 3;have hfz19_4:=blk_frozen BK226.out 4))
 refine bodyPost_ret (results_cell_row rfl _ _ gb226 31 #[.int .i64 a0_0,.int .i64 a0_1,.string a0_2,.slice Ao13 t228.length co13,.slice Ao17 t231.length co17] (0,0) _ rfl (by (with_reducible repeat (first|refine blk_drewN ?_ _|refine blk_drew ?_|refine blk_alloc ?_ _));refine blk_put (cs:=#[.int .i64 a0_0,.int .i64 a0_1,.string a0_2,.slice Ao13 t228.length co13,.slice none 0 0]) ?_ 4 _ rfl;(with_reducible repeat (first|refine blk_drewN ?_ _|refine blk_drew ?_|refine blk_alloc ?_ _));refine blk_put (cs:=#[.int .i64 a0_0,.int .i64 a0_1,.string a0_2,.slice none 0 0,.slice none 0 0]) ?_ 3 _ rfl;(with_reducible repeat (first|refine blk_drewN ?_ _|refine blk_drew ?_|refine blk_alloc ?_ _));refine blk_put (cs:=#[.int .i64 a0_0,.int .i64 a0_1,.string (⟨#[]⟩:ByteArray),.slice none 0 0,.slice none 0 0]) ?_ 2 _ rfl;(with_reducible repeat (first|refine blk_drewN ?_ _|refine blk_drew ?_|refine blk_alloc ?_ _));refine blk_put (cs:=#[.int .i64 a0_0,.int .i64 0,.string (⟨#[]⟩:ByteArray),.slice none 0 0,.slice none 0 0]) ?_ 1 _ rfl;(with_reducible repeat (first|refine blk_drewN ?_ _|refine blk_drew ?_|refine blk_alloc ?_ _));refine blk_put (cs:=#[.int .i64 0,.int .i64 0,.string (⟨#[]⟩:ByteArray),.slice none 0 0,.slice none 0 0]) ?_ 0 _ rfl;(with_reducible repeat (first|refine blk_drewN ?_ _|refine blk_drew ?_|refine blk_alloc ?_ _));refine blk_far ?_ NB226_227.out _;(with_reducible repeat (first|refine blk_drewN ?_ _|refine blk_drew ?_|refine blk_alloc ?_ _));exact BK226.out) Try.underlying31 rfl (by kernel_rfl)) rfl ?_
 exact ⟨_,_,by first|rfl|(simp [*,errW_none,errW_some] <;> rfl),by (with_reducible repeat (first|apply Kd.R_alloc|apply Kd.R_drewN|apply Kd.R_drew));exact Kd.R_mono (Kd.R_far (p:=⟨gb226,4,none⟩) (Kd.R_far (p:=⟨gb226,3,none⟩) (Kd.R_far (p:=⟨gb226,2,none⟩) (Kd.R_far (p:=⟨gb226,1,none⟩) (Kd.R_far (p:=⟨gb226,0,none⟩) (Kd.R_far (p:=⟨gb227,4,none⟩) (Kd.R_mono (Kd.R_mono HO230.out (fun k_ hk=>(⟨hk,hk.1.2⟩:_∧k_≠gb227))) (fun k_ hk=>(⟨hk,hk.1.1.1.2⟩:_∧k_≠gb226))) (fun _ hk=>hk.1.2) (.slice Ao17 t231.length co17)) (fun _ hk=>hk.2) (.int .i64 a0_0)) (fun _ hk=>hk.2) (.int .i64 a0_1)) (fun _ hk=>hk.2) (.string a0_2)) (fun _ hk=>hk.2) (.slice Ao13 t228.length co13)) (fun _ hk=>hk.2) (.slice Ao17 t231.length co17)) (fun _ hk=>hk.1.1.2),by (with_reducible repeat (first|apply Kd.R_alloc|apply Kd.R_drewN|apply Kd.R_drew));exact Kd.R_mono (Kd.R_far (p:=⟨gb226,4,none⟩) (Kd.R_far (p:=⟨gb226,3,none⟩) (Kd.R_far (p:=⟨gb226,2,none⟩) (Kd.R_far (p:=⟨gb226,1,none⟩) (Kd.R_far (p:=⟨gb226,0,none⟩) (Kd.R_far (p:=⟨gb227,4,none⟩) (Kd.R_mono (Kd.R_mono HO233.out (fun k_ hk=>(⟨hk,hk.2⟩:_∧k_≠gb227))) (fun k_ hk=>(⟨hk,hk.1.1.2⟩:_∧k_≠gb226))) (fun _ hk=>hk.1.2) (.slice Ao17 t231.length co17)) (fun _ hk=>hk.2) (.int .i64 a0_0)) (fun _ hk=>hk.2) (.int .i64 a0_1)) (fun _ hk=>hk.2) (.string a0_2)) (fun _ hk=>hk.2) (.slice Ao13 t228.length co13)) (fun _ hk=>hk.2) (.slice Ao17 t231.length co17)) (fun _ hk=>hk.1.1.1.1.2),by repeat (first|(with_reducible first|exact HB.out|apply below_alloc|apply pw_below_drewN|apply below_drew1|refine below_set ?_ GE225.out|refine below_set ?_ GE226.out|refine below_set ?_ GE227.out)|exact HB.out)⟩

theorem laws_toExprS.all (k:Nat):(∀ (A0:Option Addr) (c0:Nat) (l0:List (S25)) (r:List (S31)) (w:World) (hr0:Kd.C k25 w A0 l0.length l0) (hc0:l0.length≤c0) (h:laws_toExprS.f k l0 = some r),Calls Try.prog 12 #[.slice A0 l0.length c0] w fun e w'=>∃ v0_:Value,e = .returned (v0_)∧Kd.R k31 31 w' w.heap.size (fun _=>True) v0_ r∧Below w.heap.size w w')∧(∀ (a0_0:Int) (a0_1:Int) (a0_2:ByteArray) (A0_3:Option Addr) (c0_3:Nat) (l0_3:List (S25)) (A0_4:Option Addr) (c0_4:Nat) (l0_4:List (S48)) (a0_5:Int) (a0_6:Int) (a0_7:ByteArray) (A0_8:Option Addr) (c0_8:Nat) (l0_8:List (S25)) (A0_9:Option Addr) (c0_9:Nat) (l0_9:List (S48)) (r1:Int) (r2:Int) (r3:ByteArray) (r4:List (S31)) (r5:List (S53)) (r6:Int) (r7:Int) (r8:ByteArray) (r9:List (S31)) (r10:List (S53)) (w:World) (hr0_3:Kd.C k25 w A0_3 l0_3.length l0_3) (hc0_3:l0_3.length≤c0_3) (hr0_4:Kd.C k48 w A0_4 l0_4.length l0_4) (hc0_4:l0_4.length≤c0_4) (hr0_8:Kd.C k25 w A0_8 l0_8.length l0_8) (hc0_8:l0_8.length≤c0_8) (hr0_9:Kd.C k48 w A0_9 l0_9.length l0_9) (hc0_9:l0_9.length≤c0_9) (h:laws_toClause.f k a0_0 a0_1 a0_2 l0_3 l0_4 a0_5 a0_6 a0_7 l0_8 l0_9 = some (r1,r2,r3,r4,r5,r6,r7,r8,r9,r10)),Calls Try.prog 21 #[.agg #[.int .i64 a0_0,.int .i64 a0_1,.string a0_2,.slice A0_3 l0_3.length c0_3,.slice A0_4 l0_4.length c0_4,.int .i64 a0_5,.int .i64 a0_6,.string a0_7,.slice A0_8 l0_8.length c0_8,.slice A0_9 l0_9.length c0_9]] w fun e w'=>∃ v3_ v4_ v8_ v9_:Value,e = .returned (.agg #[.int .i64 r1,.int .i64 r2,.string r3,v3_,v4_,.int .i64 r6,.int .i64 r7,.string r8,v8_,v9_])∧Kd.R k31 31 w' w.heap.size (fun k_=>some k_≠(v4_:Value).ownBlock∧some k_≠(v8_:Value).ownBlock∧some k_≠(v9_:Value).ownBlock) v3_ r4∧Kd.R k53 53 w' w.heap.size (fun k_=>some k_≠(v3_:Value).ownBlock∧some k_≠(v8_:Value).ownBlock∧some k_≠(v9_:Value).ownBlock) v4_ r5∧Kd.R k31 31 w' w.heap.size (fun k_=>some k_≠(v3_:Value).ownBlock∧some k_≠(v4_:Value).ownBlock∧some k_≠(v9_:Value).ownBlock) v8_ r9∧Kd.R k53 53 w' w.heap.size (fun k_=>some k_≠(v3_:Value).ownBlock∧some k_≠(v4_:Value).ownBlock∧some k_≠(v8_:Value).ownBlock) v9_ r10∧Below w.heap.size w w')∧(∀ (A0:Option Addr) (c0:Nat) (l0:List (S48)) (r:List (S53)) (w:World) (hr0:Kd.C k48 w A0 l0.length l0) (hc0:l0.length≤c0) (h:laws_toClauseS.f k l0 = some r),Calls Try.prog 13 #[.slice A0 l0.length c0] w fun e w'=>∃ v0_:Value,e = .returned (v0_)∧Kd.R k53 53 w' w.heap.size (fun _=>True) v0_ r∧Below w.heap.size w w')∧(∀ (a0_0:Int) (a0_1:Int) (a0_2:ByteArray) (A0_3:Option Addr) (c0_3:Nat) (l0_3:List (S25)) (A0_4:Option Addr) (c0_4:Nat) (l0_4:List (S48)) (r1:Int) (r2:Int) (r3:ByteArray) (r4:List (S31)) (r5:List (S53)) (w:World) (hr0_3:Kd.C k25 w A0_3 l0_3.length l0_3) (hc0_3:l0_3.length≤c0_3) (hr0_4:Kd.C k48 w A0_4 l0_4.length l0_4) (hc0_4:l0_4.length≤c0_4) (h:laws_toExpr.f k a0_0 a0_1 a0_2 l0_3 l0_4 = some (r1,r2,r3,r4,r5)),Calls Try.prog 6 #[.agg #[.int .i64 a0_0,.int .i64 a0_1,.string a0_2,.slice A0_3 l0_3.length c0_3,.slice A0_4 l0_4.length c0_4]] w fun e w'=>∃ v3_ v4_:Value,e = .returned (.agg #[.int .i64 r1,.int .i64 r2,.string r3,v3_,v4_])∧Kd.R k31 31 w' w.heap.size (fun k_=>some k_≠(v4_:Value).ownBlock) v3_ r4∧Kd.R k53 53 w' w.heap.size (fun k_=>some k_≠(v3_:Value).ownBlock) v4_ r5∧Below w.heap.size w w'):=by
 induction k using Nat.strongRecOn with
 | _ k ih =>
 exact ⟨laws_toExprS.step k (fun k_ h_=>(ih k_ h_).1) (fun k_ h_=>(ih k_ h_).2.1) (fun k_ h_=>(ih k_ h_).2.2.1) (fun k_ h_=>(ih k_ h_).2.2.2),laws_toClause.step k (fun k_ h_=>(ih k_ h_).1) (fun k_ h_=>(ih k_ h_).2.1) (fun k_ h_=>(ih k_ h_).2.2.1) (fun k_ h_=>(ih k_ h_).2.2.2),laws_toClauseS.step k (fun k_ h_=>(ih k_ h_).1) (fun k_ h_=>(ih k_ h_).2.1) (fun k_ h_=>(ih k_ h_).2.2.1) (fun k_ h_=>(ih k_ h_).2.2.2),laws_toExpr.step k (fun k_ h_=>(ih k_ h_).1) (fun k_ h_=>(ih k_ h_).2.1) (fun k_ h_=>(ih k_ h_).2.2.1) (fun k_ h_=>(ih k_ h_).2.2.2)⟩
theorem laws_toExprS.calls (k:Nat):∀ (A0:Option Addr) (c0:Nat) (l0:List (S25)) (r:List (S31)) (w:World) (hr0:Kd.C k25 w A0 l0.length l0) (hc0:l0.length≤c0) (h:laws_toExprS.f k l0 = some r),Calls Try.prog 12 #[.slice A0 l0.length c0] w fun e w'=>∃ v0_:Value,e = .returned (v0_)∧Kd.R k31 31 w' w.heap.size (fun _=>True) v0_ r∧Below w.heap.size w w':=(laws_toExprS.all k).1
theorem laws_toClause.calls (k:Nat):∀ (a0_0:Int) (a0_1:Int) (a0_2:ByteArray) (A0_3:Option Addr) (c0_3:Nat) (l0_3:List (S25)) (A0_4:Option Addr) (c0_4:Nat) (l0_4:List (S48)) (a0_5:Int) (a0_6:Int) (a0_7:ByteArray) (A0_8:Option Addr) (c0_8:Nat) (l0_8:List (S25)) (A0_9:Option Addr) (c0_9:Nat) (l0_9:List (S48)) (r1:Int) (r2:Int) (r3:ByteArray) (r4:List (S31)) (r5:List (S53)) (r6:Int) (r7:Int) (r8:ByteArray) (r9:List (S31)) (r10:List (S53)) (w:World) (hr0_3:Kd.C k25 w A0_3 l0_3.length l0_3) (hc0_3:l0_3.length≤c0_3) (hr0_4:Kd.C k48 w A0_4 l0_4.length l0_4) (hc0_4:l0_4.length≤c0_4) (hr0_8:Kd.C k25 w A0_8 l0_8.length l0_8) (hc0_8:l0_8.length≤c0_8) (hr0_9:Kd.C k48 w A0_9 l0_9.length l0_9) (hc0_9:l0_9.length≤c0_9) (h:laws_toClause.f k a0_0 a0_1 a0_2 l0_3 l0_4 a0_5 a0_6 a0_7 l0_8 l0_9 = some (r1,r2,r3,r4,r5,r6,r7,r8,r9,r10)),Calls Try.prog 21 #[.agg #[.int .i64 a0_0,.int .i64 a0_1,.string a0_2,.slice A0_3 l0_3.length c0_3,.slice A0_4 l0_4.length c0_4,.int .i64 a0_5,.int .i64 a0_6,.string a0_7,.slice A0_8 l0_8.length c0_8,.slice A0_9 l0_9.length c0_9]] w fun e w'=>∃ v3_ v4_ v8_ v9_:Value,e = .returned (.agg #[.int .i64 r1,.int .i64 r2,.string r3,v3_,v4_,.int .i64 r6,.int .i64 r7,.string r8,v8_,v9_])∧Kd.R k31 31 w' w.heap.size (fun k_=>some k_≠(v4_:Value).ownBlock∧some k_≠(v8_:Value).ownBlock∧some k_≠(v9_:Value).ownBlock) v3_ r4∧Kd.R k53 53 w' w.heap.size (fun k_=>some k_≠(v3_:Value).ownBlock∧some k_≠(v8_:Value).ownBlock∧some k_≠(v9_:Value).ownBlock) v4_ r5∧Kd.R k31 31 w' w.heap.size (fun k_=>some k_≠(v3_:Value).ownBlock∧some k_≠(v4_:Value).ownBlock∧some k_≠(v9_:Value).ownBlock) v8_ r9∧Kd.R k53 53 w' w.heap.size (fun k_=>some k_≠(v3_:Value).ownBlock∧some k_≠(v4_:Value).ownBlock∧some k_≠(v8_:Value).ownBlock) v9_ r10∧Below w.heap.size w w':=(laws_toExprS.all k).2.1
theorem laws_toClauseS.calls (k:Nat):∀ (A0:Option Addr) (c0:Nat) (l0:List (S48)) (r:List (S53)) (w:World) (hr0:Kd.C k48 w A0 l0.length l0) (hc0:l0.length≤c0) (h:laws_toClauseS.f k l0 = some r),Calls Try.prog 13 #[.slice A0 l0.length c0] w fun e w'=>∃ v0_:Value,e = .returned (v0_)∧Kd.R k53 53 w' w.heap.size (fun _=>True) v0_ r∧Below w.heap.size w w':=(laws_toExprS.all k).2.2.1
theorem laws_toExpr.calls (k:Nat):∀ (a0_0:Int) (a0_1:Int) (a0_2:ByteArray) (A0_3:Option Addr) (c0_3:Nat) (l0_3:List (S25)) (A0_4:Option Addr) (c0_4:Nat) (l0_4:List (S48)) (r1:Int) (r2:Int) (r3:ByteArray) (r4:List (S31)) (r5:List (S53)) (w:World) (hr0_3:Kd.C k25 w A0_3 l0_3.length l0_3) (hc0_3:l0_3.length≤c0_3) (hr0_4:Kd.C k48 w A0_4 l0_4.length l0_4) (hc0_4:l0_4.length≤c0_4) (h:laws_toExpr.f k a0_0 a0_1 a0_2 l0_3 l0_4 = some (r1,r2,r3,r4,r5)),Calls Try.prog 6 #[.agg #[.int .i64 a0_0,.int .i64 a0_1,.string a0_2,.slice A0_3 l0_3.length c0_3,.slice A0_4 l0_4.length c0_4]] w fun e w'=>∃ v3_ v4_:Value,e = .returned (.agg #[.int .i64 r1,.int .i64 r2,.string r3,v3_,v4_])∧Kd.R k31 31 w' w.heap.size (fun k_=>some k_≠(v4_:Value).ownBlock) v3_ r4∧Kd.R k53 53 w' w.heap.size (fun k_=>some k_≠(v3_:Value).ownBlock) v4_ r5∧Below w.heap.size w w':=(laws_toExprS.all k).2.2.2

/-! ### impl_inRange: function 30 -/
def impl_inRange.f (a0:Int) (a1:Int) (a2:Int):Option (Bool):=if a0 ≥ a1 then (some (decide (a0≤a2))) else (some false)
set_option maxHeartbeats 8000000 in
set_option maxRecDepth 100000 in
theorem impl_inRange.calls (a0:Int) (a1:Int) (a2:Int) (r:Bool) (w:World) (h:impl_inRange.f a0 a1 a2 = some r) :
  Calls Try.prog 30 #[.int .i64 a0,.int .i64 a1,.int .i64 a2] w fun e w'=>e = .returned (.bool r)∧Drawn0 w w':=by
 have H:(if a0 ≥ a1 then (some (decide (a0≤a2))) else (some false)) = some r:=h
 clear h
 by_cases c4:a0 ≥ a1
 ·rw [if_pos c4] at H
  have c4b0:decide (a1≤a0) = true:=decide_eq_true c4
  clear c4
  obtain rfl:=Option.some.inj H
  go_enter Try.func30,Try.ntmps30
  go_wp2
  go_ret
  exact ⟨by first|rfl|(simp;done)|(simp [*];done),by repeat (first|exact Drawn0.refl _|apply Drawn0.step)⟩
 ·rw [if_neg c4] at H
  have c4b0:decide (a1≤a0) = false:=decide_eq_false c4
  clear c4
  obtain rfl:=Option.some.inj H
  go_enter Try.func30,Try.ntmps30
  go_wp2
  go_ret
  exact ⟨by first|rfl|(simp;done)|(simp [*];done),by repeat (first|exact Drawn0.refl _|apply Drawn0.step)⟩

/-! ### impl_isSmall: function 44 -/
def impl_isSmall.f (a0:Int):Option (Bool):=if a0 ≥ 97 then (some (decide (a0≤122))) else (some false)
set_option maxHeartbeats 8000000 in
set_option maxRecDepth 100000 in
theorem impl_isSmall.calls (a0:Int) (r:Bool) (w:World) (h:impl_isSmall.f a0 = some r) :
  Calls Try.prog 44 #[.int .u8 a0] w fun e w'=>e = .returned (.bool r)∧Drawn0 w w':=by
 have H:(if a0 ≥ 97 then (some (decide (a0≤122))) else (some false)) = some r:=h
 clear h
 by_cases c2:a0 ≥ 97
 ·rw [if_pos c2] at H
  have c2b0:decide (97≤a0) = true:=decide_eq_true c2
  clear c2
  obtain rfl:=Option.some.inj H
  go_enter Try.func44,Try.ntmps44
  go_wp2
  go_ret
  exact ⟨by first|rfl|(simp;done)|(simp [*];done),by repeat (first|exact Drawn0.refl _|apply Drawn0.step)⟩
 ·rw [if_neg c2] at H
  have c2b0:decide (97≤a0) = false:=decide_eq_false c2
  clear c2
  obtain rfl:=Option.some.inj H
  go_enter Try.func44,Try.ntmps44
  go_wp2
  go_ret
  exact ⟨by first|rfl|(simp;done)|(simp [*];done),by repeat (first|exact Drawn0.refl _|apply Drawn0.step)⟩

/-! ### impl_isFigure: function 45 -/
def impl_isFigure.f (a0:Int):Option (Bool):=if a0 ≥ 48 then (some (decide (a0≤57))) else (some false)
set_option maxHeartbeats 8000000 in
set_option maxRecDepth 100000 in
theorem impl_isFigure.calls (a0:Int) (r:Bool) (w:World) (h:impl_isFigure.f a0 = some r) :
  Calls Try.prog 45 #[.int .u8 a0] w fun e w'=>e = .returned (.bool r)∧Drawn0 w w':=by
 have H:(if a0 ≥ 48 then (some (decide (a0≤57))) else (some false)) = some r:=h
 clear h
 by_cases c2:a0 ≥ 48
 ·rw [if_pos c2] at H
  have c2b0:decide (48≤a0) = true:=decide_eq_true c2
  clear c2
  obtain rfl:=Option.some.inj H
  go_enter Try.func45,Try.ntmps45
  go_wp2
  go_ret
  exact ⟨by first|rfl|(simp;done)|(simp [*];done),by repeat (first|exact Drawn0.refl _|apply Drawn0.step)⟩
 ·rw [if_neg c2] at H
  have c2b0:decide (48≤a0) = false:=decide_eq_false c2
  clear c2
  obtain rfl:=Option.some.inj H
  go_enter Try.func45,Try.ntmps45
  go_wp2
  go_ret
  exact ⟨by first|rfl|(simp;done)|(simp [*];done),by repeat (first|exact Drawn0.refl _|apply Drawn0.step)⟩

/-! ### impl_AtomOk: function 40 -/
def impl_AtomOk.l0:Nat → ByteArray → Int → Option (Bool)
 | 0,_,_=>none
 | k + 1,x0,x3=>if x3 < (x0.size:Int) then (if 0≤x3 then ((impl_isSmall.f (bt x0 x3)).bind fun t235=>(if t235 = true then (impl_AtomOk.l0 k x0 (wrap64 (x3 + 1))) else (if x3 = 0 then (some false) else ((impl_isFigure.f (bt x0 x3)).bind fun t236=>(if t236 = true then (impl_AtomOk.l0 k x0 (wrap64 (x3 + 1))) else (if (bt x0 x3) = 95 then (impl_AtomOk.l0 k x0 (wrap64 (x3 + 1))) else (some false))))))) else (none)) else ((impl_inRange.f (x0.size:Int) 1 20).bind fun t234=>(some t234))
def impl_AtomOk.f (k:Nat) (a0:ByteArray):Option (Bool):=impl_AtomOk.l0 k a0 0
theorem impl_AtomOk.mono_l:∀ k,(∀ y0 y1,LeO (impl_AtomOk.l0 k y0 y1) (impl_AtomOk.l0 (k + 1) y0 y1))
 | 0=>fun _ _ r h=>by simp [impl_AtomOk.l0] at h
 | k + 1=>by
  have ih0:=impl_AtomOk.mono_l k
  ·intro y0 y1
   unfold impl_AtomOk.l0
   repeat' first
   | (with_reducible exact ih0 _ _)
   | (with_reducible exact LeO.refl _)
   | (with_reducible exact LeO.none _)
   | (with_reducible refine LeO.ite ?_ ?_)
   | (with_reducible refine LeO.bind ?_ (fun _=>?_))
   | exact ih0 _ _
   | exact LeO.none _
   | refine LeO.ite ?_ ?_
   | refine LeO.bind ?_ (fun _=>?_)
theorem impl_AtomOk.mono:∀ a0 k,LeO (impl_AtomOk.f k a0) (impl_AtomOk.f (k + 1) a0):=by
 intro a0 k
 have ih0:=impl_AtomOk.mono_l k
 unfold impl_AtomOk.f
 repeat' first
   | (with_reducible exact ih0 _ _)
   | (with_reducible exact LeO.refl _)
   | (with_reducible exact LeO.none _)
   | (with_reducible refine LeO.ite ?_ ?_)
   | (with_reducible refine LeO.bind ?_ (fun _=>?_))
   | exact ih0 _ _
   | exact LeO.none _
   | refine LeO.ite ?_ ?_
   | refine LeO.bind ?_ (fun _=>?_)
set_option maxHeartbeats 8000000 in
set_option maxRecDepth 100000 in
theorem impl_AtomOk.calls (k:Nat) (a0:ByteArray) (r:Bool) (w:World) (h:impl_AtomOk.f k a0 = some r) :
  Calls Try.prog 40 #[.string a0] w fun e w'=>e = .returned (.bool r)∧Drawn0 w w':=by
 have H:(impl_AtomOk.l0 k a0 0) = some r:=h
 clear h
 have H':=Aside0.mk H
 clear H
 go_enter Try.func40,Try.ntmps40
 go_wp2
 go_loopg [3] k (fun kq v3 w'=>∃ (x3_1:Int),v3 = .int .i64 x3_1∧Aside0 (impl_AtomOk.l0 kq a0 x3_1 = some r)∧Aside0 (kq≤k)∧Drawn0 w w')
 case atStart=>exact ⟨(0),(by first|rfl|(simp;done)|(simp [*];done)),H',⟨Nat.le_refl _⟩,by repeat (first|exact Drawn0.refl _|apply Drawn0.step)⟩
 case round =>
  clear H'
  obtain ⟨x3_1,rfl,HA,HK1,⟨m1,rfl⟩⟩:=hrel
  cases gk with
  | zero=>exact absurd HA.out (by simp [impl_AtomOk.l0])
  | succ k1 =>
   have H:=HA.out
   clear HA
   simp only [impl_AtomOk.l0] at H
   by_cases c2:x3_1 < (a0.size:Int)
   ·rw [if_pos c2] at H
    have c2b0:decide (x3_1 < (a0.size:Int)) = true:=decide_eq_true c2
    clear c2
    by_cases c3:0≤x3_1
    ·rw [if_pos c3] at H
     have c3b0:decide (0≤x3_1) = true:=decide_eq_true c3
     clear c3
     replace H:=Option.bind_eq_some_iff.mp H
     obtain ⟨t235,A50,H⟩:=H
     replace H:(if t235 = true then (impl_AtomOk.l0 k1 a0 (wrap64 (x3_1 + 1))) else (if x3_1 = 0 then (some false) else ((impl_isFigure.f (bt a0 x3_1)).bind fun t236=>(if t236 = true then (impl_AtomOk.l0 k1 a0 (wrap64 (x3_1 + 1))) else (if (bt a0 x3_1) = 95 then (impl_AtomOk.l0 k1 a0 (wrap64 (x3_1 + 1))) else (some false)))))) = some r:=H
     have A5:=Aside0.mk A50
     clear A50
     by_cases c6:t235 = true
     ·subst c6
      have H1:(impl_AtomOk.l0 k1 a0 (wrap64 (x3_1 + 1))) = some r:=by rw [if_pos rfl] at H;exact H
      clear H
      have H:=H1
      clear H1
      have H':=Aside0.mk H
      clear H
      have p4:0≤(x3_1:Int):=of_decide_eq_true (by first|(with_reducible assumption)|assumption)
      have q4:x3_1 < (a0.size:Int):=of_decide_eq_true (by first|(with_reducible assumption)|assumption)
      have hx4:=bt_at a0 x3_1
      replace p4:=eq_true p4
      replace q4:=eq_true q4
      go_wp2_with (first|((with_reducible refine gate_callee (f:=44) rfl ?_);refine goesL_ (some 13) rfl rfl Try.func44 (by kernel_rfl) rfl #[.int .u8 (bt a0 x3_1)] rfl (by (try simp only [List.map_toArray,List.map_cons,List.map_nil]);first|done|rfl|(simp only [List.length_drop,List.length_take];rfl)) ?_;(with_reducible refine (impl_isSmall.calls (bt a0 x3_1) true _ A5.out).mono ?_);rintro e w' ⟨rfl,⟨nd,rfl⟩⟩;refine ⟨_,rfl,?_⟩))
      go_roundg k1
      case measure=>have:=HK1.out;omega
      case rel=>exact ⟨(wrap64 (x3_1 + 1)),(by first|rfl|(simp;done)|(simp [*];done)),H',⟨by have:=HK1.out;omega⟩,by repeat (first|exact Drawn0.refl _|apply Drawn0.step)⟩
     ·replace c6:=Bool.eq_false_iff.mpr c6
      subst c6
      have H1:(if x3_1 = 0 then (some false) else ((impl_isFigure.f (bt a0 x3_1)).bind fun t236=>(if t236 = true then (impl_AtomOk.l0 k1 a0 (wrap64 (x3_1 + 1))) else (if (bt a0 x3_1) = 95 then (impl_AtomOk.l0 k1 a0 (wrap64 (x3_1 + 1))) else (some false))))) = some r:=by rw [if_neg (show ¬ (false = true) by decide)] at H;exact H
      clear H
      have H:=H1
      clear H1
      by_cases c7:x3_1 = 0
      ·rw [if_pos c7] at H
       have c7b0:(x3_1 == 0) = true:=beq_iff_eq.mpr c7
       have c7b1:(x3_1 != 0) = false:=bne_eq_false_iff_eq.mpr c7
       clear c7
       obtain rfl:=Option.some.inj H
       have p4:0≤(x3_1:Int):=of_decide_eq_true (by first|(with_reducible assumption)|assumption)
       have q4:x3_1 < (a0.size:Int):=of_decide_eq_true (by first|(with_reducible assumption)|assumption)
       have hx4:=bt_at a0 x3_1
       replace p4:=eq_true p4
       replace q4:=eq_true q4
       go_wp2_with (first|((with_reducible refine gate_callee (f:=44) rfl ?_);refine goesL_ (some 13) rfl rfl Try.func44 (by kernel_rfl) rfl #[.int .u8 (bt a0 x3_1)] rfl (by (try simp only [List.map_toArray,List.map_cons,List.map_nil]);first|done|rfl|(simp only [List.length_drop,List.length_take];rfl)) ?_;(with_reducible refine (impl_isSmall.calls (bt a0 x3_1) false _ A5.out).mono ?_);rintro e w' ⟨rfl,⟨nd,rfl⟩⟩;refine ⟨_,rfl,?_⟩))
       go_ret
       exact ⟨by first|rfl|(simp;done)|(simp [*];done),by repeat (first|exact Drawn0.refl _|apply Drawn0.step)⟩
      ·rw [if_neg c7] at H
       have c7b0:(x3_1 == 0) = false:=beq_eq_false_iff_ne.mpr c7
       have c7b1:(x3_1 != 0) = true:=bne_iff_ne.mpr c7
       replace H:=Option.bind_eq_some_iff.mp H
       obtain ⟨t236,A90,H⟩:=H
       replace H:(if t236 = true then (impl_AtomOk.l0 k1 a0 (wrap64 (x3_1 + 1))) else (if (bt a0 x3_1) = 95 then (impl_AtomOk.l0 k1 a0 (wrap64 (x3_1 + 1))) else (some false))) = some r:=H
       have A9:=Aside0.mk A90
       clear A90
       by_cases c10:t236 = true
       ·subst c10
        have H1:(impl_AtomOk.l0 k1 a0 (wrap64 (x3_1 + 1))) = some r:=by rw [if_pos rfl] at H;exact H
        clear H
        have H:=H1
        clear H1
        have H':=Aside0.mk H
        clear H
        have p4:0≤(x3_1:Int):=of_decide_eq_true (by first|(with_reducible assumption)|assumption)
        have q4:x3_1 < (a0.size:Int):=of_decide_eq_true (by first|(with_reducible assumption)|assumption)
        have hx4:=bt_at a0 x3_1
        replace p4:=eq_true p4
        replace q4:=eq_true q4
        go_wp2_with (first|((with_reducible refine gate_callee (f:=44) rfl ?_);refine goesL_ (some 13) rfl rfl Try.func44 (by kernel_rfl) rfl #[.int .u8 (bt a0 x3_1)] rfl (by (try simp only [List.map_toArray,List.map_cons,List.map_nil]);first|done|rfl|(simp only [List.length_drop,List.length_take];rfl)) ?_;(with_reducible refine (impl_isSmall.calls (bt a0 x3_1) false _ A5.out).mono ?_);rintro e w' ⟨rfl,⟨nd,rfl⟩⟩;refine ⟨_,rfl,?_⟩;have p8:0≤(x3_1:Int):=of_decide_eq_true (by first|(with_reducible assumption)|assumption);have q8:x3_1 < (a0.size:Int):=of_decide_eq_true (by first|(with_reducible assumption)|assumption);have hx8:=bt_at a0 x3_1;replace p8:=eq_true p8;replace q8:=eq_true q8)|(go_at_call 45;(with_reducible refine (impl_isFigure.calls (bt a0 x3_1) true _ A9.out).mono ?_);rintro e w' ⟨rfl,⟨nd,rfl⟩⟩))
        go_roundg k1
        case measure=>have:=HK1.out;omega
        case rel=>exact ⟨(wrap64 (x3_1 + 1)),(by first|rfl|(simp;done)|(simp [*];done)),H',⟨by have:=HK1.out;omega⟩,by repeat (first|exact Drawn0.refl _|apply Drawn0.step)⟩
       ·replace c10:=Bool.eq_false_iff.mpr c10
        subst c10
        have H1:(if (bt a0 x3_1) = 95 then (impl_AtomOk.l0 k1 a0 (wrap64 (x3_1 + 1))) else (some false)) = some r:=by rw [if_neg (show ¬ (false = true) by decide)] at H;exact H
        clear H
        have H:=H1
        clear H1
        by_cases c12:(bt a0 x3_1) = 95
        ·rw [if_pos c12] at H
         have c12b0:((bt a0 x3_1) == 95) = true:=beq_iff_eq.mpr c12
         have c12b1:((bt a0 x3_1) != 95) = false:=bne_eq_false_iff_eq.mpr c12
         clear c12
         have H':=Aside0.mk H
         clear H
         have p4:0≤(x3_1:Int):=of_decide_eq_true (by first|(with_reducible assumption)|assumption)
         have q4:x3_1 < (a0.size:Int):=of_decide_eq_true (by first|(with_reducible assumption)|assumption)
         have hx4:=bt_at a0 x3_1
         replace p4:=eq_true p4
         replace q4:=eq_true q4
         go_wp2_with (first|((with_reducible refine gate_callee (f:=44) rfl ?_);refine goesL_ (some 13) rfl rfl Try.func44 (by kernel_rfl) rfl #[.int .u8 (bt a0 x3_1)] rfl (by (try simp only [List.map_toArray,List.map_cons,List.map_nil]);first|done|rfl|(simp only [List.length_drop,List.length_take];rfl)) ?_;(with_reducible refine (impl_isSmall.calls (bt a0 x3_1) false _ A5.out).mono ?_);rintro e w' ⟨rfl,⟨nd,rfl⟩⟩;refine ⟨_,rfl,?_⟩;have p8:0≤(x3_1:Int):=of_decide_eq_true (by first|(with_reducible assumption)|assumption);have q8:x3_1 < (a0.size:Int):=of_decide_eq_true (by first|(with_reducible assumption)|assumption);have hx8:=bt_at a0 x3_1;replace p8:=eq_true p8;replace q8:=eq_true q8)|(go_at_call 45;(with_reducible refine (impl_isFigure.calls (bt a0 x3_1) false _ A9.out).mono ?_);rintro e w' ⟨rfl,⟨nd,rfl⟩⟩;have p11:0≤(x3_1:Int):=of_decide_eq_true (by first|(with_reducible assumption)|assumption);have q11:x3_1 < (a0.size:Int):=of_decide_eq_true (by first|(with_reducible assumption)|assumption);have hx11:=bt_at a0 x3_1;replace p11:=eq_true p11;replace q11:=eq_true q11))
         go_roundg k1
         case measure=>have:=HK1.out;omega
         case rel=>exact ⟨(wrap64 (x3_1 + 1)),(by first|rfl|(simp;done)|(simp [*];done)),H',⟨by have:=HK1.out;omega⟩,by repeat (first|exact Drawn0.refl _|apply Drawn0.step)⟩
        ·rw [if_neg c12] at H
         have c12b0:((bt a0 x3_1) == 95) = false:=beq_eq_false_iff_ne.mpr c12
         have c12b1:((bt a0 x3_1) != 95) = true:=bne_iff_ne.mpr c12
         obtain rfl:=Option.some.inj H
         have p4:0≤(x3_1:Int):=of_decide_eq_true (by first|(with_reducible assumption)|assumption)
         have q4:x3_1 < (a0.size:Int):=of_decide_eq_true (by first|(with_reducible assumption)|assumption)
         have hx4:=bt_at a0 x3_1
         replace p4:=eq_true p4
         replace q4:=eq_true q4
         go_wp2_with (first|((with_reducible refine gate_callee (f:=44) rfl ?_);refine goesL_ (some 13) rfl rfl Try.func44 (by kernel_rfl) rfl #[.int .u8 (bt a0 x3_1)] rfl (by (try simp only [List.map_toArray,List.map_cons,List.map_nil]);first|done|rfl|(simp only [List.length_drop,List.length_take];rfl)) ?_;(with_reducible refine (impl_isSmall.calls (bt a0 x3_1) false _ A5.out).mono ?_);rintro e w' ⟨rfl,⟨nd,rfl⟩⟩;refine ⟨_,rfl,?_⟩;have p8:0≤(x3_1:Int):=of_decide_eq_true (by first|(with_reducible assumption)|assumption);have q8:x3_1 < (a0.size:Int):=of_decide_eq_true (by first|(with_reducible assumption)|assumption);have hx8:=bt_at a0 x3_1;replace p8:=eq_true p8;replace q8:=eq_true q8)|(go_at_call 45;(with_reducible refine (impl_isFigure.calls (bt a0 x3_1) false _ A9.out).mono ?_);rintro e w' ⟨rfl,⟨nd,rfl⟩⟩;have p11:0≤(x3_1:Int):=of_decide_eq_true (by first|(with_reducible assumption)|assumption);have q11:x3_1 < (a0.size:Int):=of_decide_eq_true (by first|(with_reducible assumption)|assumption);have hx11:=bt_at a0 x3_1;replace p11:=eq_true p11;replace q11:=eq_true q11))
         go_ret
         exact ⟨by first|rfl|(simp;done)|(simp [*];done),by repeat (first|exact Drawn0.refl _|apply Drawn0.step)⟩
    ·rw [if_neg c3] at H
     exact absurd H (by simp)
   ·rw [if_neg c2] at H
    have c2b0:decide (x3_1 < (a0.size:Int)) = false:=decide_eq_false c2
    clear c2
    replace H:=Option.bind_eq_some_iff.mp H
    obtain ⟨t234,A130,H⟩:=H
    replace H:(some t234) = some r:=H
    have A13:=Aside0.mk A130
    clear A130
    obtain rfl:=Option.some.inj H
    go_wp2_with (first|((with_reducible refine gate_callee (f:=30) rfl ?_);refine goesL_ (some 34) rfl rfl Try.func30 (by kernel_rfl) rfl #[.int .i64 (a0.size:Int),.int .i64 1,.int .i64 20] rfl (by (try simp only [List.map_toArray,List.map_cons,List.map_nil]);first|done|rfl|(simp only [List.length_drop,List.length_take];rfl)) ?_;(with_reducible refine (impl_inRange.calls (a0.size:Int) 1 20 t234 _ A13.out).mono ?_);rintro e w' ⟨rfl,⟨nd,rfl⟩⟩;refine ⟨_,rfl,?_⟩))
    go_ret
    exact ⟨by first|rfl|(simp;done)|(simp [*];done),by repeat (first|exact Drawn0.refl _|apply Drawn0.step)⟩

/-! ### impl_xAtomOk: function 31 -/
def impl_xAtomOk.f (k:Nat) (a0:ByteArray):Option (Bool):=(impl_AtomOk.f k a0).bind fun t237=>(if t237 = true then (if a0.toList = ([99,97,115,101]:List UInt8) then (some false) else (if a0.toList = ([111,102]:List UInt8) then (some false) else (some (a0.toList != ([101,110,100]:List UInt8))))) else (some false))
theorem impl_xAtomOk.mono:∀ a0 k,LeO (impl_xAtomOk.f k a0) (impl_xAtomOk.f (k + 1) a0):=by
 intro a0 k
 unfold impl_xAtomOk.f
 repeat' first
   | (with_reducible exact impl_AtomOk.mono _ _)
   | (with_reducible exact LeO.refl _)
   | (with_reducible exact LeO.none _)
   | (with_reducible refine LeO.ite ?_ ?_)
   | (with_reducible refine LeO.bind ?_ (fun _=>?_))
   | exact impl_AtomOk.mono _ _
   | exact LeO.none _
   | refine LeO.ite ?_ ?_
   | refine LeO.bind ?_ (fun _=>?_)
set_option maxHeartbeats 8000000 in
set_option maxRecDepth 100000 in
theorem impl_xAtomOk.calls (k:Nat) (a0:ByteArray) (r:Bool) (w:World) (h:impl_xAtomOk.f k a0 = some r) :
  Calls Try.prog 31 #[.string a0] w fun e w'=>e = .returned (.bool r)∧Drawn0 w w':=by
 have H:((impl_AtomOk.f k a0).bind fun t237=>(if t237 = true then (if a0.toList = ([99,97,115,101]:List UInt8) then (some false) else (if a0.toList = ([111,102]:List UInt8) then (some false) else (some (a0.toList != ([101,110,100]:List UInt8))))) else (some false))) = some r:=h
 clear h
 replace H:=Option.bind_eq_some_iff.mp H
 obtain ⟨t237,A20,H⟩:=H
 replace H:(if t237 = true then (if a0.toList = ([99,97,115,101]:List UInt8) then (some false) else (if a0.toList = ([111,102]:List UInt8) then (some false) else (some (a0.toList != ([101,110,100]:List UInt8))))) else (some false)) = some r:=H
 have A2:=Aside0.mk A20
 clear A20
 by_cases c3:t237 = true
 ·subst c3
  have H1:(if a0.toList = ([99,97,115,101]:List UInt8) then (some false) else (if a0.toList = ([111,102]:List UInt8) then (some false) else (some (a0.toList != ([101,110,100]:List UInt8))))) = some r:=by rw [if_pos rfl] at H;exact H
  clear H
  have H:=H1
  clear H1
  by_cases c4:a0.toList = ([99,97,115,101]:List UInt8)
  ·rw [if_pos c4] at H
   have c4b0:(a0.toList == ([99,97,115,101]:List UInt8)) = true:=beq_iff_eq.mpr c4
   have c4b1:(a0.toList != ([99,97,115,101]:List UInt8)) = false:=bne_eq_false_iff_eq.mpr c4
   clear c4
   obtain rfl:=Option.some.inj H
   go_enter Try.func31,Try.ntmps31
   go_wp2_with (first|((with_reducible refine gate_callee (f:=40) rfl ?_);refine goesL_ (some 4) rfl rfl Try.func40 (by kernel_rfl) rfl #[.string a0] rfl (by (try simp only [List.map_toArray,List.map_cons,List.map_nil]);first|done|rfl|(simp only [List.length_drop,List.length_take];rfl)) ?_;(with_reducible refine (impl_AtomOk.calls k a0 true _ A2.out).mono ?_);rintro e w' ⟨rfl,⟨nd,rfl⟩⟩;refine ⟨_,rfl,?_⟩))
   go_ret
   exact ⟨by first|rfl|(simp;done)|(simp [*];done),by repeat (first|exact Drawn0.refl _|apply Drawn0.step)⟩
  ·rw [if_neg c4] at H
   have c4b0:(a0.toList == ([99,97,115,101]:List UInt8)) = false:=beq_eq_false_iff_ne.mpr c4
   have c4b1:(a0.toList != ([99,97,115,101]:List UInt8)) = true:=bne_iff_ne.mpr c4
   by_cases c5:a0.toList = ([111,102]:List UInt8)
   ·rw [if_pos c5] at H
    have c5b0:(a0.toList == ([111,102]:List UInt8)) = true:=beq_iff_eq.mpr c5
    have c5b1:(a0.toList != ([111,102]:List UInt8)) = false:=bne_eq_false_iff_eq.mpr c5
    clear c5
    obtain rfl:=Option.some.inj H
    go_enter Try.func31,Try.ntmps31
    go_wp2_with (first|((with_reducible refine gate_callee (f:=40) rfl ?_);refine goesL_ (some 4) rfl rfl Try.func40 (by kernel_rfl) rfl #[.string a0] rfl (by (try simp only [List.map_toArray,List.map_cons,List.map_nil]);first|done|rfl|(simp only [List.length_drop,List.length_take];rfl)) ?_;(with_reducible refine (impl_AtomOk.calls k a0 true _ A2.out).mono ?_);rintro e w' ⟨rfl,⟨nd,rfl⟩⟩;refine ⟨_,rfl,?_⟩))
    go_ret
    exact ⟨by first|rfl|(simp;done)|(simp [*];done),by repeat (first|exact Drawn0.refl _|apply Drawn0.step)⟩
   ·rw [if_neg c5] at H
    have c5b0:(a0.toList == ([111,102]:List UInt8)) = false:=beq_eq_false_iff_ne.mpr c5
    have c5b1:(a0.toList != ([111,102]:List UInt8)) = true:=bne_iff_ne.mpr c5
    obtain rfl:=Option.some.inj H
    go_enter Try.func31,Try.ntmps31
    go_wp2_with (first|((with_reducible refine gate_callee (f:=40) rfl ?_);refine goesL_ (some 4) rfl rfl Try.func40 (by kernel_rfl) rfl #[.string a0] rfl (by (try simp only [List.map_toArray,List.map_cons,List.map_nil]);first|done|rfl|(simp only [List.length_drop,List.length_take];rfl)) ?_;(with_reducible refine (impl_AtomOk.calls k a0 true _ A2.out).mono ?_);rintro e w' ⟨rfl,⟨nd,rfl⟩⟩;refine ⟨_,rfl,?_⟩))
    go_ret
    exact ⟨by first|rfl|(simp;done)|(simp [*];done),by repeat (first|exact Drawn0.refl _|apply Drawn0.step)⟩
 ·replace c3:=Bool.eq_false_iff.mpr c3
  subst c3
  have H1:(some false) = some r:=by rw [if_neg (show ¬ (false = true) by decide)] at H;exact H
  clear H
  have H:=H1
  clear H1
  obtain rfl:=Option.some.inj H
  go_enter Try.func31,Try.ntmps31
  go_wp2_with (first|((with_reducible refine gate_callee (f:=40) rfl ?_);refine goesL_ (some 4) rfl rfl Try.func40 (by kernel_rfl) rfl #[.string a0] rfl (by (try simp only [List.map_toArray,List.map_cons,List.map_nil]);first|done|rfl|(simp only [List.length_drop,List.length_take];rfl)) ?_;(with_reducible refine (impl_AtomOk.calls k a0 false _ A2.out).mono ?_);rintro e w' ⟨rfl,⟨nd,rfl⟩⟩;refine ⟨_,rfl,?_⟩))
  go_ret
  exact ⟨by first|rfl|(simp;done)|(simp [*];done),by repeat (first|exact Drawn0.refl _|apply Drawn0.step)⟩

end Go.Proofs.Ytjgegnkphkfmoaa.QFnExactExprOk
