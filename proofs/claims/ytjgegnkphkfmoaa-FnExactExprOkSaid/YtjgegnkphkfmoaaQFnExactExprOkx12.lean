-- Written by a program of this workplace (print2.py) for this claim, over the print's words.
import Derived.Test.YtjgegnkphkfmoaaQFnExactExprOkx0
namespace Go.Proofs.Ytjgegnkphkfmoaa.QFnExactExprOk
open Go.RowKit Go.Proofs.YtjgegnkphkfmoaaW.PrintWords Go.Proofs.YtjgegnkphkfmoaaW.PrintLast Go.Proofs.YtjgegnkphkfmoaaW.PrintMore
attribute [local go_sem] max2_int min2_int max_two min_two max_three min_three max_four min_four   -- for this text's walks alone
set_option linter.unusedVariables false
set_option linter.unusedSimpArgs false

mutual
def laws_eqExprS.l0:Nat → List (S31) → List (S31) → Int → Option (Bool)
 | 0,_,_,_=>none
 | k + 1,x0,x1,x5=>if x5 < (x0.length:Int) then (if 0≤x5 then (if x5 < (x1.length:Int) then ((laws_eqExpr.f k ((rd_T31 x0 x5).f0) ((rd_T31 x0 x5).f1) ((rd_T31 x0 x5).f2) ((rd_T31 x0 x5).f3) ((rd_T31 x0 x5).f4) ((rd_T31 x1 x5).f0) ((rd_T31 x1 x5).f1) ((rd_T31 x1 x5).f2) ((rd_T31 x1 x5).f3) ((rd_T31 x1 x5).f4)).bind fun t295=>(if t295 = true then (laws_eqExprS.l0 k x0 x1 (wrap64 (x5 + 1))) else (some false))) else (none)) else (none)) else (some true)
def laws_eqExprS.f:Nat → List (S31) → List (S31) → Option (Bool)
 | 0,_,_=>none
 | k + 1,l0,l1=>if (l0.length:Int) = (l1.length:Int) then (laws_eqExprS.l0 k l0 l1 0) else (some false)
def laws_eqClause.f:Nat → Int → Int → ByteArray → List (S31) → List (S53) → Int → Int → ByteArray → List (S31) → List (S53) → Int → Int → ByteArray → List (S31) → List (S53) → Int → Int → ByteArray → List (S31) → List (S53) → Option (Bool)
 | 0,_,_,_,_,_,_,_,_,_,_,_,_,_,_,_,_,_,_,_,_=>none
 | k + 1,a0_0,a0_1,a0_2,l0_3,l0_4,a0_5,a0_6,a0_7,l0_8,l0_9,a1_0,a1_1,a1_2,l1_3,l1_4,a1_5,a1_6,a1_7,l1_8,l1_9=>(laws_eqExpr.f k a0_0 a0_1 a0_2 l0_3 l0_4 a1_0 a1_1 a1_2 l1_3 l1_4).bind fun t298=>(if t298 = true then ((laws_eqExpr.f k a0_5 a0_6 a0_7 l0_8 l0_9 a1_5 a1_6 a1_7 l1_8 l1_9).bind fun t299=>(if t299 = true then (some true) else (some false))) else (some false))
def laws_eqClauseS.l0:Nat → List (S53) → List (S53) → Int → Option (Bool)
 | 0,_,_,_=>none
 | k + 1,x0,x1,x5=>if x5 < (x0.length:Int) then (if 0≤x5 then (if x5 < (x1.length:Int) then ((laws_eqClause.f k ((rd_T53 x0 x5).f0.f0) ((rd_T53 x0 x5).f0.f1) ((rd_T53 x0 x5).f0.f2) ((rd_T53 x0 x5).f0.f3) ((rd_T53 x0 x5).f0.f4) ((rd_T53 x0 x5).f1.f0) ((rd_T53 x0 x5).f1.f1) ((rd_T53 x0 x5).f1.f2) ((rd_T53 x0 x5).f1.f3) ((rd_T53 x0 x5).f1.f4) ((rd_T53 x1 x5).f0.f0) ((rd_T53 x1 x5).f0.f1) ((rd_T53 x1 x5).f0.f2) ((rd_T53 x1 x5).f0.f3) ((rd_T53 x1 x5).f0.f4) ((rd_T53 x1 x5).f1.f0) ((rd_T53 x1 x5).f1.f1) ((rd_T53 x1 x5).f1.f2) ((rd_T53 x1 x5).f1.f3) ((rd_T53 x1 x5).f1.f4)).bind fun t302=>(if t302 = true then (laws_eqClauseS.l0 k x0 x1 (wrap64 (x5 + 1))) else (some false))) else (none)) else (none)) else (some true)
def laws_eqClauseS.f:Nat → List (S53) → List (S53) → Option (Bool)
 | 0,_,_=>none
 | k + 1,l0,l1=>if (l0.length:Int) = (l1.length:Int) then (laws_eqClauseS.l0 k l0 l1 0) else (some false)
def laws_eqExpr.f:Nat → Int → Int → ByteArray → List (S31) → List (S53) → Int → Int → ByteArray → List (S31) → List (S53) → Option (Bool)
 | 0,_,_,_,_,_,_,_,_,_,_=>none
 | k + 1,a0_0,a0_1,a0_2,l0_3,l0_4,a1_0,a1_1,a1_2,l1_3,l1_4=>if a0_0 = a1_0 then (if a0_1 = a1_1 then (if a0_2.toList = a1_2.toList then ((laws_eqExprS.f k l0_3 l1_3).bind fun t305=>(if t305 = true then ((laws_eqClauseS.f k l0_4 l1_4).bind fun t306=>(if t306 = true then (some true) else (some false))) else (some false))) else (some false)) else (some false)) else (some false)
end
theorem laws_eqExprS.mono_g:∀ k,(∀ y0 y1,LeO (laws_eqExprS.f k y0 y1) (laws_eqExprS.f (k + 1) y0 y1))∧(∀ y0 y1 y2,LeO (laws_eqExprS.l0 k y0 y1 y2) (laws_eqExprS.l0 (k + 1) y0 y1 y2))∧(∀ y0 y1 y2 y3 y4 y5 y6 y7 y8 y9 y10 y11 y12 y13 y14 y15 y16 y17 y18 y19,LeO (laws_eqClause.f k y0 y1 y2 y3 y4 y5 y6 y7 y8 y9 y10 y11 y12 y13 y14 y15 y16 y17 y18 y19) (laws_eqClause.f (k + 1) y0 y1 y2 y3 y4 y5 y6 y7 y8 y9 y10 y11 y12 y13 y14 y15 y16 y17 y18 y19))∧(∀ y0 y1,LeO (laws_eqClauseS.f k y0 y1) (laws_eqClauseS.f (k + 1) y0 y1))∧(∀ y0 y1 y2,LeO (laws_eqClauseS.l0 k y0 y1 y2) (laws_eqClauseS.l0 (k + 1) y0 y1 y2))∧(∀ y0 y1 y2 y3 y4 y5 y6 y7 y8 y9,LeO (laws_eqExpr.f k y0 y1 y2 y3 y4 y5 y6 y7 y8 y9) (laws_eqExpr.f (k + 1) y0 y1 y2 y3 y4 y5 y6 y7 y8 y9))
 | 0=>⟨fun _ _ r h=>by simp [laws_eqExprS.f] at h,fun _ _ _ r h=>by simp [laws_eqExprS.l0] at h,fun _ _ _ _ _ _ _ _ _ _ _ _ _ _ _ _ _ _ _ _ r h=>by simp [laws_eqClause.f] at h,fun _ _ r h=>by simp [laws_eqClauseS.f] at h,fun _ _ _ r h=>by simp [laws_eqClauseS.l0] at h,fun _ _ _ _ _ _ _ _ _ _ r h=>by simp [laws_eqExpr.f] at h⟩
 | k + 1=>by
  obtain ⟨ih0,ih1,ih2,ih3,ih4,ih5⟩:=laws_eqExprS.mono_g k
  refine ⟨?_,?_,?_,?_,?_,?_⟩
  ·intro y0 y1
   unfold laws_eqExprS.f
   repeat' first
   | (with_reducible exact ih0 _ _)
   | (with_reducible exact ih1 _ _ _)
   | (with_reducible exact ih2 _ _ _ _ _ _ _ _ _ _ _ _ _ _ _ _ _ _ _ _)
   | (with_reducible exact ih3 _ _)
   | (with_reducible exact ih4 _ _ _)
   | (with_reducible exact ih5 _ _ _ _ _ _ _ _ _ _)
   | (with_reducible exact LeO.refl _)
   | (with_reducible exact LeO.none _)
   | (with_reducible refine LeO.ite ?_ ?_)
   | (with_reducible refine LeO.bind ?_ (fun _=>?_))
   | exact ih0 _ _
   | exact ih1 _ _ _
   | exact ih2 _ _ _ _ _ _ _ _ _ _ _ _ _ _ _ _ _ _ _ _
   | exact ih3 _ _
   | exact ih4 _ _ _
   | exact ih5 _ _ _ _ _ _ _ _ _ _
   | exact LeO.none _
   | refine LeO.ite ?_ ?_
   | refine LeO.bind ?_ (fun _=>?_)
  ·intro y0 y1 y2
   unfold laws_eqExprS.l0
   repeat' first
   | (with_reducible exact ih0 _ _)
   | (with_reducible exact ih1 _ _ _)
   | (with_reducible exact ih2 _ _ _ _ _ _ _ _ _ _ _ _ _ _ _ _ _ _ _ _)
   | (with_reducible exact ih3 _ _)
   | (with_reducible exact ih4 _ _ _)
   | (with_reducible exact ih5 _ _ _ _ _ _ _ _ _ _)
   | (with_reducible exact LeO.refl _)
   | (with_reducible exact LeO.none _)
   | (with_reducible refine LeO.ite ?_ ?_)
   | (with_reducible refine LeO.bind ?_ (fun _=>?_))
   | exact ih0 _ _
   | exact ih1 _ _ _
   | exact ih2 _ _ _ _ _ _ _ _ _ _ _ _ _ _ _ _ _ _ _ _
   | exact ih3 _ _
   | exact ih4 _ _ _
   | exact ih5 _ _ _ _ _ _ _ _ _ _
   | exact LeO.none _
   | refine LeO.ite ?_ ?_
   | refine LeO.bind ?_ (fun _=>?_)
  ·intro y0 y1 y2 y3 y4 y5 y6 y7 y8 y9 y10 y11 y12 y13 y14 y15 y16 y17 y18 y19
   unfold laws_eqClause.f
   repeat' first
   | (with_reducible exact ih0 _ _)
   | (with_reducible exact ih1 _ _ _)
   | (with_reducible exact ih2 _ _ _ _ _ _ _ _ _ _ _ _ _ _ _ _ _ _ _ _)
   | (with_reducible exact ih3 _ _)
   | (with_reducible exact ih4 _ _ _)
   | (with_reducible exact ih5 _ _ _ _ _ _ _ _ _ _)
   | (with_reducible exact LeO.refl _)
   | (with_reducible exact LeO.none _)
   | (with_reducible refine LeO.ite ?_ ?_)
   | (with_reducible refine LeO.bind ?_ (fun _=>?_))
   | exact ih0 _ _
   | exact ih1 _ _ _
   | exact ih2 _ _ _ _ _ _ _ _ _ _ _ _ _ _ _ _ _ _ _ _
   | exact ih3 _ _
   | exact ih4 _ _ _
   | exact ih5 _ _ _ _ _ _ _ _ _ _
   | exact LeO.none _
   | refine LeO.ite ?_ ?_
   | refine LeO.bind ?_ (fun _=>?_)
  ·intro y0 y1
   unfold laws_eqClauseS.f
   repeat' first
   | (with_reducible exact ih0 _ _)
   | (with_reducible exact ih1 _ _ _)
   | (with_reducible exact ih2 _ _ _ _ _ _ _ _ _ _ _ _ _ _ _ _ _ _ _ _)
   | (with_reducible exact ih3 _ _)
   | (with_reducible exact ih4 _ _ _)
   | (with_reducible exact ih5 _ _ _ _ _ _ _ _ _ _)
   | (with_reducible exact LeO.refl _)
   | (with_reducible exact LeO.none _)
   | (with_reducible refine LeO.ite ?_ ?_)
   | (with_reducible refine LeO.bind ?_ (fun _=>?_))
   | exact ih0 _ _
   | exact ih1 _ _ _
   | exact ih2 _ _ _ _ _ _ _ _ _ _ _ _ _ _ _ _ _ _ _ _
   | exact ih3 _ _
   | exact ih4 _ _ _
   | exact ih5 _ _ _ _ _ _ _ _ _ _
   | exact LeO.none _
   | refine LeO.ite ?_ ?_
   | refine LeO.bind ?_ (fun _=>?_)
  ·intro y0 y1 y2
   unfold laws_eqClauseS.l0
   repeat' first
   | (with_reducible exact ih0 _ _)
   | (with_reducible exact ih1 _ _ _)
   | (with_reducible exact ih2 _ _ _ _ _ _ _ _ _ _ _ _ _ _ _ _ _ _ _ _)
   | (with_reducible exact ih3 _ _)
   | (with_reducible exact ih4 _ _ _)
   | (with_reducible exact ih5 _ _ _ _ _ _ _ _ _ _)
   | (with_reducible exact LeO.refl _)
   | (with_reducible exact LeO.none _)
   | (with_reducible refine LeO.ite ?_ ?_)
   | (with_reducible refine LeO.bind ?_ (fun _=>?_))
   | exact ih0 _ _
   | exact ih1 _ _ _
   | exact ih2 _ _ _ _ _ _ _ _ _ _ _ _ _ _ _ _ _ _ _ _
   | exact ih3 _ _
   | exact ih4 _ _ _
   | exact ih5 _ _ _ _ _ _ _ _ _ _
   | exact LeO.none _
   | refine LeO.ite ?_ ?_
   | refine LeO.bind ?_ (fun _=>?_)
  ·intro y0 y1 y2 y3 y4 y5 y6 y7 y8 y9
   unfold laws_eqExpr.f
   repeat' first
   | (with_reducible exact ih0 _ _)
   | (with_reducible exact ih1 _ _ _)
   | (with_reducible exact ih2 _ _ _ _ _ _ _ _ _ _ _ _ _ _ _ _ _ _ _ _)
   | (with_reducible exact ih3 _ _)
   | (with_reducible exact ih4 _ _ _)
   | (with_reducible exact ih5 _ _ _ _ _ _ _ _ _ _)
   | (with_reducible exact LeO.refl _)
   | (with_reducible exact LeO.none _)
   | (with_reducible refine LeO.ite ?_ ?_)
   | (with_reducible refine LeO.bind ?_ (fun _=>?_))
   | exact ih0 _ _
   | exact ih1 _ _ _
   | exact ih2 _ _ _ _ _ _ _ _ _ _ _ _ _ _ _ _ _ _ _ _
   | exact ih3 _ _
   | exact ih4 _ _ _
   | exact ih5 _ _ _ _ _ _ _ _ _ _
   | exact LeO.none _
   | refine LeO.ite ?_ ?_
   | refine LeO.bind ?_ (fun _=>?_)
theorem laws_eqExprS.mono:∀ a0 a1 k,LeO (laws_eqExprS.f k a0 a1) (laws_eqExprS.f (k + 1) a0 a1):=by
 intro a0 a1 k
 obtain ⟨ih0,ih1,ih2,ih3,ih4,ih5⟩:=laws_eqExprS.mono_g k
 exact ih0 a0 a1
theorem laws_eqClause.mono:∀ a0 a1 a2 a3 a4 a5 a6 a7 a8 a9 a10 a11 a12 a13 a14 a15 a16 a17 a18 a19 k,LeO (laws_eqClause.f k a0 a1 a2 a3 a4 a5 a6 a7 a8 a9 a10 a11 a12 a13 a14 a15 a16 a17 a18 a19) (laws_eqClause.f (k + 1) a0 a1 a2 a3 a4 a5 a6 a7 a8 a9 a10 a11 a12 a13 a14 a15 a16 a17 a18 a19):=by
 intro a0 a1 a2 a3 a4 a5 a6 a7 a8 a9 a10 a11 a12 a13 a14 a15 a16 a17 a18 a19 k
 obtain ⟨ih0,ih1,ih2,ih3,ih4,ih5⟩:=laws_eqExprS.mono_g k
 exact ih2 a0 a1 a2 a3 a4 a5 a6 a7 a8 a9 a10 a11 a12 a13 a14 a15 a16 a17 a18 a19
theorem laws_eqClauseS.mono:∀ a0 a1 k,LeO (laws_eqClauseS.f k a0 a1) (laws_eqClauseS.f (k + 1) a0 a1):=by
 intro a0 a1 k
 obtain ⟨ih0,ih1,ih2,ih3,ih4,ih5⟩:=laws_eqExprS.mono_g k
 exact ih3 a0 a1
theorem laws_eqExpr.mono:∀ a0 a1 a2 a3 a4 a5 a6 a7 a8 a9 k,LeO (laws_eqExpr.f k a0 a1 a2 a3 a4 a5 a6 a7 a8 a9) (laws_eqExpr.f (k + 1) a0 a1 a2 a3 a4 a5 a6 a7 a8 a9):=by
 intro a0 a1 a2 a3 a4 a5 a6 a7 a8 a9 k
 obtain ⟨ih0,ih1,ih2,ih3,ih4,ih5⟩:=laws_eqExprS.mono_g k
 exact ih5 a0 a1 a2 a3 a4 a5 a6 a7 a8 a9
/-! ### laws_eqExprS: function 15 -/
def laws_eqExprS.T6:Bool × List (List Nat × List Nat):=(true,[([],[]),([],[]),([0,1],[0,1]),([2],[2]),([],[]),([],[]),([4,5],[4,5]),([6],[6]),([3,7],[3,7]),([8],[8])])
def laws_eqExprS.B6:List Nat:=[0,0,3,7,0,0,48,112,255,511]
theorem laws_eqExprS.tab6:rtab .any (opsOf Try.f15 6) = laws_eqExprS.T6:=by kernel_rfl
theorem laws_eqExprS.bits6:waitsOk laws_eqExprS.T6.2 laws_eqExprS.B6 = true:=by kernel_rfl
set_option maxHeartbeats 8000000 in
set_option maxRecDepth 100000 in
theorem laws_eqExprS.step (k:Nat) (ih_laws_eqExprS:∀ k_,k_ < k → ∀ (A0:Option Addr) (c0:Nat) (l0:List (S31)) (A1:Option Addr) (c1:Nat) (l1:List (S31)) (r:Bool) (w:World) (hr0:Kd.C k31 w A0 l0.length l0) (hc0:l0.length≤c0) (hr1:Kd.C k31 w A1 l1.length l1) (hc1:l1.length≤c1) (h:laws_eqExprS.f k_ l0 l1 = some r),Calls Try.prog 15 #[.slice A0 l0.length c0,.slice A1 l1.length c1] w fun e w'=>e = .returned (.bool r)∧Below w.heap.size w w') (ih_laws_eqClause:∀ k_,k_ < k → ∀ (a0_0:Int) (a0_1:Int) (a0_2:ByteArray) (A0_3:Option Addr) (c0_3:Nat) (l0_3:List (S31)) (A0_4:Option Addr) (c0_4:Nat) (l0_4:List (S53)) (a0_5:Int) (a0_6:Int) (a0_7:ByteArray) (A0_8:Option Addr) (c0_8:Nat) (l0_8:List (S31)) (A0_9:Option Addr) (c0_9:Nat) (l0_9:List (S53)) (a1_0:Int) (a1_1:Int) (a1_2:ByteArray) (A1_3:Option Addr) (c1_3:Nat) (l1_3:List (S31)) (A1_4:Option Addr) (c1_4:Nat) (l1_4:List (S53)) (a1_5:Int) (a1_6:Int) (a1_7:ByteArray) (A1_8:Option Addr) (c1_8:Nat) (l1_8:List (S31)) (A1_9:Option Addr) (c1_9:Nat) (l1_9:List (S53)) (r:Bool) (w:World) (hr0_3:Kd.C k31 w A0_3 l0_3.length l0_3) (hc0_3:l0_3.length≤c0_3) (hr0_4:Kd.C k53 w A0_4 l0_4.length l0_4) (hc0_4:l0_4.length≤c0_4) (hr0_8:Kd.C k31 w A0_8 l0_8.length l0_8) (hc0_8:l0_8.length≤c0_8) (hr0_9:Kd.C k53 w A0_9 l0_9.length l0_9) (hc0_9:l0_9.length≤c0_9) (hr1_3:Kd.C k31 w A1_3 l1_3.length l1_3) (hc1_3:l1_3.length≤c1_3) (hr1_4:Kd.C k53 w A1_4 l1_4.length l1_4) (hc1_4:l1_4.length≤c1_4) (hr1_8:Kd.C k31 w A1_8 l1_8.length l1_8) (hc1_8:l1_8.length≤c1_8) (hr1_9:Kd.C k53 w A1_9 l1_9.length l1_9) (hc1_9:l1_9.length≤c1_9) (h:laws_eqClause.f k_ a0_0 a0_1 a0_2 l0_3 l0_4 a0_5 a0_6 a0_7 l0_8 l0_9 a1_0 a1_1 a1_2 l1_3 l1_4 a1_5 a1_6 a1_7 l1_8 l1_9 = some r),Calls Try.prog 24 #[.agg #[.int .i64 a0_0,.int .i64 a0_1,.string a0_2,.slice A0_3 l0_3.length c0_3,.slice A0_4 l0_4.length c0_4,.int .i64 a0_5,.int .i64 a0_6,.string a0_7,.slice A0_8 l0_8.length c0_8,.slice A0_9 l0_9.length c0_9],.agg #[.int .i64 a1_0,.int .i64 a1_1,.string a1_2,.slice A1_3 l1_3.length c1_3,.slice A1_4 l1_4.length c1_4,.int .i64 a1_5,.int .i64 a1_6,.string a1_7,.slice A1_8 l1_8.length c1_8,.slice A1_9 l1_9.length c1_9]] w fun e w'=>e = .returned (.bool r)∧Below w.heap.size w w') (ih_laws_eqClauseS:∀ k_,k_ < k → ∀ (A0:Option Addr) (c0:Nat) (l0:List (S53)) (A1:Option Addr) (c1:Nat) (l1:List (S53)) (r:Bool) (w:World) (hr0:Kd.C k53 w A0 l0.length l0) (hc0:l0.length≤c0) (hr1:Kd.C k53 w A1 l1.length l1) (hc1:l1.length≤c1) (h:laws_eqClauseS.f k_ l0 l1 = some r),Calls Try.prog 16 #[.slice A0 l0.length c0,.slice A1 l1.length c1] w fun e w'=>e = .returned (.bool r)∧Below w.heap.size w w') (ih_laws_eqExpr:∀ k_,k_ < k → ∀ (a0_0:Int) (a0_1:Int) (a0_2:ByteArray) (A0_3:Option Addr) (c0_3:Nat) (l0_3:List (S31)) (A0_4:Option Addr) (c0_4:Nat) (l0_4:List (S53)) (a1_0:Int) (a1_1:Int) (a1_2:ByteArray) (A1_3:Option Addr) (c1_3:Nat) (l1_3:List (S31)) (A1_4:Option Addr) (c1_4:Nat) (l1_4:List (S53)) (r:Bool) (w:World) (hr0_3:Kd.C k31 w A0_3 l0_3.length l0_3) (hc0_3:l0_3.length≤c0_3) (hr0_4:Kd.C k53 w A0_4 l0_4.length l0_4) (hc0_4:l0_4.length≤c0_4) (hr1_3:Kd.C k31 w A1_3 l1_3.length l1_3) (hc1_3:l1_3.length≤c1_3) (hr1_4:Kd.C k53 w A1_4 l1_4.length l1_4) (hc1_4:l1_4.length≤c1_4) (h:laws_eqExpr.f k_ a0_0 a0_1 a0_2 l0_3 l0_4 a1_0 a1_1 a1_2 l1_3 l1_4 = some r),Calls Try.prog 8 #[.agg #[.int .i64 a0_0,.int .i64 a0_1,.string a0_2,.slice A0_3 l0_3.length c0_3,.slice A0_4 l0_4.length c0_4],.agg #[.int .i64 a1_0,.int .i64 a1_1,.string a1_2,.slice A1_3 l1_3.length c1_3,.slice A1_4 l1_4.length c1_4]] w fun e w'=>e = .returned (.bool r)∧Below w.heap.size w w'):∀ (A0:Option Addr) (c0:Nat) (l0:List (S31)) (A1:Option Addr) (c1:Nat) (l1:List (S31)) (r:Bool) (w:World) (hr0:Kd.C k31 w A0 l0.length l0) (hc0:l0.length≤c0) (hr1:Kd.C k31 w A1 l1.length l1) (hc1:l1.length≤c1) (h:laws_eqExprS.f k l0 l1 = some r),
  Calls Try.prog 15 #[.slice A0 l0.length c0,.slice A1 l1.length c1] w fun e w'=>e = .returned (.bool r)∧Below w.heap.size w w':=by
 intro A0 c0 l0 A1 c1 l1 r w hr0 hc0 hr1 hc1 h
 cases k with
 | zero=>exact absurd h (by simp [laws_eqExprS.f])
 | succ k =>
 simp only [laws_eqExprS.f] at h
 have hu31:=Try.underlying31
 have HR0:=Aside0.mk hr0
 have HC0:=Aside0.mk hc0
 clear hr0 hc0
 have HR1:=Aside0.mk hr1
 have HC1:=Aside0.mk hc1
 clear hr1 hc1
 have HB:=Aside0.mk (Below.refl w.heap.size w)
 have H:(if (l0.length:Int) = (l1.length:Int) then (laws_eqExprS.l0 k l0 l1 0) else (some false)) = some r:=h
 clear h
 by_cases c3:(l0.length:Int) = (l1.length:Int)
 ·rw [if_pos c3] at H
  have c3b0:((l0.length:Int) == (l1.length:Int)) = true:=beq_iff_eq.mpr c3
  have c3b1:((l0.length:Int) != (l1.length:Int)) = false:=bne_eq_false_iff_eq.mpr c3
  have c3b2:(l0.length == l1.length) = true:=by first|simpa using c3|(simp at c3 ⊢;omega)
  clear c3
  have H':=Aside0.mk H
  clear H
  go_enter Try.func15,Try.ntmps15
  go_wp2
  go_loopg [5] k (fun kq v5 w'=>∃ (x5_1:Int),v5 = .int .i64 x5_1∧Aside0 (laws_eqExprS.l0 kq l0 l1 x5_1 = some r)∧Aside0 (kq≤k)∧Aside0 (Below w.heap.size w w'))
  case atStart=>exact ⟨(0),(by first|rfl|(simp;done)|(simp [*];done)),H',⟨Nat.le_refl _⟩,⟨by repeat (first|(with_reducible first|exact HB.out|apply below_alloc|apply pw_below_drewN|apply below_drew1)|exact HB.out)⟩⟩
  case round =>
   clear H'
   try clear c1
   try clear p2
   try clear c3
   try clear c3b0
   try clear c3b1
   try clear c3b2
   try clear HB
   obtain ⟨x5_1,rfl,HA,HK1,HB⟩:=hrel
   cases gk with
   | zero=>exact absurd HA.out (by simp [laws_eqExprS.l0])
   | succ k1 =>
    have H:=HA.out
    clear HA
    simp only [laws_eqExprS.l0] at H
    by_cases c4:x5_1 < (l0.length:Int)
    ·rw [if_pos c4] at H
     have c4b0:decide (x5_1 < (l0.length:Int)) = true:=decide_eq_true c4
     clear c4
     by_cases c5:0≤x5_1
     ·rw [if_pos c5] at H
      have c5b0:decide (0≤x5_1) = true:=decide_eq_true c5
      clear c5
      by_cases c6:x5_1 < (l1.length:Int)
      ·rw [if_pos c6] at H
       have c6b0:decide (x5_1 < (l1.length:Int)) = true:=decide_eq_true c6
       clear c6
       replace H:=Option.bind_eq_some_iff.mp H
       obtain ⟨t295,A70,H⟩:=H
       replace H:(if t295 = true then (laws_eqExprS.l0 k1 l0 l1 (wrap64 (x5_1 + 1))) else (some false)) = some r:=H
       have A7:=Aside0.mk A70
       clear A70
       by_cases c8:t295 = true
       ·subst c8
        have H1:(laws_eqExprS.l0 k1 l0 l1 (wrap64 (x5_1 + 1))) = some r:=by rw [if_pos rfl] at H;exact H
        clear H
        have H:=H1
        clear H1
        have H':=Aside0.mk H
        clear H
        try go_wp2
        have n0_:=Aside0.mk (below_drew1 HB.out)
        clear HB
        have HB:=n0_
        clear n0_
        have p293:0≤(x5_1:Int):=of_decide_eq_true (by first|(with_reducible assumption)|assumption)
        have q293:x5_1 < (l0.length:Int):=of_decide_eq_true (by first|(with_reducible assumption)|assumption)
        obtain ⟨ad293,A293_3,c293_3,A293_4,c293_4,e293,hx293_0,hx293_1,hx293_2,hx293_3,hx293_4,hl293_3,hi293_3,hl293_4,hi293_4⟩:=at_T31 HR0.out x5_1 p293 q293
        have hw293_4:=hx293_4
        have hw293_3:=hx293_3
        have hw293_2:=hx293_2
        have hw293_1:=hx293_1
        have hw293_0:=hx293_0
        cases e293
        replace hx293_0:=(HB.out.cell (World.block_lt_of_cell? w _ hx293_0)).trans hx293_0
        replace hx293_1:=(HB.out.cell (World.block_lt_of_cell? w _ hx293_1)).trans hx293_1
        replace hx293_2:=(HB.out.cell (World.block_lt_of_cell? w _ hx293_2)).trans hx293_2
        replace hx293_3:=(HB.out.cell (World.block_lt_of_cell? w _ hx293_3)).trans hx293_3
        replace hx293_4:=(HB.out.cell (World.block_lt_of_cell? w _ hx293_4)).trans hx293_4
        have HR293_3:=Aside0.mk hi293_3
        have HC293_3:=Aside0.mk hl293_3
        clear hi293_3 hl293_3
        have HR293_4:=Aside0.mk hi293_4
        have HC293_4:=Aside0.mk hl293_4
        clear hi293_4 hl293_4
        replace p293:=eq_true p293
        replace q293:=eq_true q293
        have p294:0≤(x5_1:Int):=of_decide_eq_true (by first|(with_reducible assumption)|assumption)
        have q294:x5_1 < (l1.length:Int):=of_decide_eq_true (by first|(with_reducible assumption)|assumption)
        obtain ⟨ad294,A294_3,c294_3,A294_4,c294_4,e294,hx294_0,hx294_1,hx294_2,hx294_3,hx294_4,hl294_3,hi294_3,hl294_4,hi294_4⟩:=at_T31 HR1.out x5_1 p294 q294
        have hw294_4:=hx294_4
        have hw294_3:=hx294_3
        have hw294_2:=hx294_2
        have hw294_1:=hx294_1
        have hw294_0:=hx294_0
        cases e294
        replace hx294_0:=(HB.out.cell (World.block_lt_of_cell? w _ hx294_0)).trans hx294_0
        replace hx294_1:=(HB.out.cell (World.block_lt_of_cell? w _ hx294_1)).trans hx294_1
        replace hx294_2:=(HB.out.cell (World.block_lt_of_cell? w _ hx294_2)).trans hx294_2
        replace hx294_3:=(HB.out.cell (World.block_lt_of_cell? w _ hx294_3)).trans hx294_3
        replace hx294_4:=(HB.out.cell (World.block_lt_of_cell? w _ hx294_4)).trans hx294_4
        have HR294_3:=Aside0.mk hi294_3
        have HC294_3:=Aside0.mk hl294_3
        clear hi294_3 hl294_3
        have HR294_4:=Aside0.mk hi294_4
        have HC294_4:=Aside0.mk hl294_4
        clear hi294_4 hl294_4
        replace p294:=eq_true p294
        replace q294:=eq_true q294
        refine start_ (n:=10) (S:=fun w'=>w'.cell? (ad293.add ((x5_1).toNat * 5)) = some (.int .i64 ((rd_T31 l0 x5_1).f0))∧w'.cell? ⟨(ad293.add ((x5_1).toNat * 5)).block,(ad293.add ((x5_1).toNat * 5)).off + 1,none⟩ = some (.int .i64 ((rd_T31 l0 x5_1).f1))∧w'.cell? ⟨(ad293.add ((x5_1).toNat * 5)).block,(ad293.add ((x5_1).toNat * 5)).off + 2,none⟩ = some (.string ((rd_T31 l0 x5_1).f2))∧w'.cell? ⟨(ad293.add ((x5_1).toNat * 5)).block,(ad293.add ((x5_1).toNat * 5)).off + 3,none⟩ = some (.slice A293_3 ((rd_T31 l0 x5_1).f3).length c293_3)∧w'.cell? ⟨(ad293.add ((x5_1).toNat * 5)).block,(ad293.add ((x5_1).toNat * 5)).off + 4,none⟩ = some (.slice A293_4 ((rd_T31 l0 x5_1).f4).length c293_4)∧w'.cell? (ad294.add ((x5_1).toNat * 5)) = some (.int .i64 ((rd_T31 l1 x5_1).f0))∧w'.cell? ⟨(ad294.add ((x5_1).toNat * 5)).block,(ad294.add ((x5_1).toNat * 5)).off + 1,none⟩ = some (.int .i64 ((rd_T31 l1 x5_1).f1))∧w'.cell? ⟨(ad294.add ((x5_1).toNat * 5)).block,(ad294.add ((x5_1).toNat * 5)).off + 2,none⟩ = some (.string ((rd_T31 l1 x5_1).f2))∧w'.cell? ⟨(ad294.add ((x5_1).toNat * 5)).block,(ad294.add ((x5_1).toNat * 5)).off + 3,none⟩ = some (.slice A294_3 ((rd_T31 l1 x5_1).f3).length c294_3)∧w'.cell? ⟨(ad294.add ((x5_1).toNat * 5)).block,(ad294.add ((x5_1).toNat * 5)).off + 4,none⟩ = some (.slice A294_4 ((rd_T31 l1 x5_1).f4).length c294_4)) (ds:=[]) #[false,false,false,false,false,false,false,false,false,false] (by kernel_rfl) rfl rfl ⟨((HB.out.cell (World.block_lt_of_cell? w _ hw293_0)).trans hw293_0),((HB.out.cell (World.block_lt_of_cell? w _ hw293_1)).trans hw293_1),((HB.out.cell (World.block_lt_of_cell? w _ hw293_2)).trans hw293_2),((HB.out.cell (World.block_lt_of_cell? w _ hw293_3)).trans hw293_3),((HB.out.cell (World.block_lt_of_cell? w _ hw293_4)).trans hw293_4),((HB.out.cell (World.block_lt_of_cell? w _ hw294_0)).trans hw294_0),((HB.out.cell (World.block_lt_of_cell? w _ hw294_1)).trans hw294_1),((HB.out.cell (World.block_lt_of_cell? w _ hw294_2)).trans hw294_2),((HB.out.cell (World.block_lt_of_cell? w _ hw294_3)).trans hw294_3),((HB.out.cell (World.block_lt_of_cell? w _ hw294_4)).trans hw294_4)⟩ (fun hHeld=>?_);refine with_tabW laws_eqExprS.tab6 laws_eqExprS.bits6 (fun HT_ HW_=>?_)
        generalize wr.drew = w9 at HB HR293_3 HR293_4 HR294_3 HR294_4 hx293_0 hx293_1 hx293_2 hx293_3 hx293_4 hx294_0 hx294_1 hx294_2 hx294_3 hx294_4 hHeld ⊢
        refine pure_ (i:=0) (N:=some 17) (v:=?_) (a':=?_) #[true,false,false,false,false,false,false,false,false,false] rfl rfl (any_of HT_.out (by kernel_rfl)) (fun _ _ _ h=>h) (Or.inl ⟨by rfl,?_⟩) ?_ ?_
        rotate_left
        ·intro w'
         go_simp
         with_reducible rfl
        rotate_left
        ·simp only [Act.put,List.setIfInBounds_toArray,List.set_cons_zero,List.set_cons_succ,i64_w,i32_w]
         rfl
        refine pure_ (i:=1) (N:=some 18) (v:=?_) (a':=?_) #[true,true,false,false,false,false,false,false,false,false] rfl rfl (any_of HT_.out (by kernel_rfl)) (fun _ _ _ h=>h) (Or.inl ⟨by rfl,?_⟩) ?_ ?_
        rotate_left
        ·intro w'
         go_simp
         with_reducible rfl
        rotate_left
        ·simp only [Act.put,List.setIfInBounds_toArray,List.set_cons_zero,List.set_cons_succ,i64_w,i32_w]
         rfl
        refine pure_ (i:=2) (N:=some 19) (v:=?_) (a':=?_) #[true,true,true,false,false,false,false,false,false,false] rfl rfl (any_of HT_.out (by kernel_rfl)) (fun _ _ _ h=>h) (Or.inl ⟨by rfl,?_⟩) ?_ ?_
        rotate_left
        ·intro w'
         go_simp
         with_reducible rfl
        rotate_left
        ·simp only [Act.put,List.setIfInBounds_toArray,List.set_cons_zero,List.set_cons_succ,i64_w,i32_w]
         rfl
        refine pure_ (i:=4) (N:=some 21) (v:=?_) (a':=?_) #[true,true,true,false,true,false,false,false,false,false] rfl rfl (any_of HT_.out (by kernel_rfl)) (fun _ _ _ h=>h) (Or.inl ⟨by rfl,?_⟩) ?_ ?_
        rotate_left
        ·intro w'
         go_simp
         with_reducible rfl
        rotate_left
        ·simp only [Act.put,List.setIfInBounds_toArray,List.set_cons_zero,List.set_cons_succ,i64_w,i32_w]
         rfl
        refine pure_ (i:=5) (N:=some 22) (v:=?_) (a':=?_) #[true,true,true,false,true,true,false,false,false,false] rfl rfl (any_of HT_.out (by kernel_rfl)) (fun _ _ _ h=>h) (Or.inl ⟨by rfl,?_⟩) ?_ ?_
        rotate_left
        ·intro w'
         go_simp
         with_reducible rfl
        rotate_left
        ·simp only [Act.put,List.setIfInBounds_toArray,List.set_cons_zero,List.set_cons_succ,i64_w,i32_w]
         rfl
        refine pure_ (i:=6) (N:=some 23) (v:=?_) (a':=?_) #[true,true,true,false,true,true,true,false,false,false] rfl rfl (any_of HT_.out (by kernel_rfl)) (fun _ _ _ h=>h) (Or.inl ⟨by rfl,?_⟩) ?_ ?_
        rotate_left
        ·intro w'
         go_simp
         with_reducible rfl
        rotate_left
        ·simp only [Act.put,List.setIfInBounds_toArray,List.set_cons_zero,List.set_cons_succ,i64_w,i32_w]
         rfl
        refine take_ (i:=3) (N:=some 20) (v:=?_) (a':=?_) #[true,true,true,true,true,true,true,false,false,false] rfl rfl (take_ofW HT_.out HW_.out (by kernel_rfl)) (fun _ _ _ h=>h) (Or.inl ⟨by rfl,?_⟩) hHeld ?_ ?_
        rotate_left
        ·rintro w' ⟨s0,s1,s2,s3,s4,s5,s6,s7,s8,s9⟩
         go_simp
         with_reducible rfl
        rotate_left
        ·simp only [Act.put,List.setIfInBounds_toArray,List.set_cons_zero,List.set_cons_succ,i64_w,i32_w]
         rfl
        refine take_ (i:=7) (N:=some 24) (v:=?_) (a':=?_) #[true,true,true,true,true,true,true,true,false,false] rfl rfl (take_ofW HT_.out HW_.out (by kernel_rfl)) (fun _ _ _ h=>h) (Or.inl ⟨by rfl,?_⟩) hHeld ?_ ?_
        rotate_left
        ·rintro w' ⟨s0,s1,s2,s3,s4,s5,s6,s7,s8,s9⟩
         go_simp
         with_reducible rfl
        rotate_left
        ·simp only [Act.put,List.setIfInBounds_toArray,List.set_cons_zero,List.set_cons_succ,i64_w,i32_w]
         rfl
        refine one_ (i:=8) (N:=some 25) #[true,true,true,true,true,true,true,true,true,false] rfl rfl (one_of HT_.out (by kernel_rfl)) (by decide) (fun K hK=>?_)
        refine goes_ Try.func8 (by kernel_rfl) rfl #[.agg #[.int .i64 ((rd_T31 l0 x5_1).f0),.int .i64 ((rd_T31 l0 x5_1).f1),.string ((rd_T31 l0 x5_1).f2),.slice A293_3 ((rd_T31 l0 x5_1).f3).length c293_3,.slice A293_4 ((rd_T31 l0 x5_1).f4).length c293_4],.agg #[.int .i64 ((rd_T31 l1 x5_1).f0),.int .i64 ((rd_T31 l1 x5_1).f1),.string ((rd_T31 l1 x5_1).f2),.slice A294_3 ((rd_T31 l1 x5_1).f3).length c294_3,.slice A294_4 ((rd_T31 l1 x5_1).f4).length c294_4]] (by rfl) rfl rfl (by (try simp only [List.map_toArray,List.map_cons,List.map_nil]);first|done|rfl|(simp only [List.length_drop,List.length_take];rfl)) ?_
        with_reducible refine (ih_laws_eqExpr k1 (by have:=HK1.out;omega) ((rd_T31 l0 x5_1).f0) ((rd_T31 l0 x5_1).f1) ((rd_T31 l0 x5_1).f2) _ _ ((rd_T31 l0 x5_1).f3) _ _ ((rd_T31 l0 x5_1).f4) ((rd_T31 l1 x5_1).f0) ((rd_T31 l1 x5_1).f1) ((rd_T31 l1 x5_1).f2) _ _ ((rd_T31 l1 x5_1).f3) _ _ ((rd_T31 l1 x5_1).f4) true _ ?side1 ?side2 ?side3 ?side4 ?side5 ?side6 ?side7 ?side8 A7.out).mono ?_
        (case side1=>repeat (first|exact (Kd.C_below HR293_3.out HB.out)|(with_reducible refine Kd.C_alloc ?_ _)|(with_reducible refine Kd.C_drewN ?_ _)|(with_reducible refine Kd.C_drew ?_)))
        (case side2=>exact HC293_3.out)
        (case side3=>repeat (first|exact (Kd.C_below HR293_4.out HB.out)|(with_reducible refine Kd.C_alloc ?_ _)|(with_reducible refine Kd.C_drewN ?_ _)|(with_reducible refine Kd.C_drew ?_)))
        (case side4=>exact HC293_4.out)
        (case side5=>repeat (first|exact (Kd.C_below HR294_3.out HB.out)|(with_reducible refine Kd.C_alloc ?_ _)|(with_reducible refine Kd.C_drewN ?_ _)|(with_reducible refine Kd.C_drew ?_)))
        (case side6=>exact HC294_3.out)
        (case side7=>repeat (first|exact (Kd.C_below HR294_4.out HB.out)|(with_reducible refine Kd.C_alloc ?_ _)|(with_reducible refine Kd.C_drewN ?_ _)|(with_reducible refine Kd.C_drew ?_)))
        (case side8=>exact HC294_4.out)
        rintro e w10 ⟨rfl,hb⟩
        refine ⟨_,rfl,?_⟩
        have n0_:=Aside0.mk (below_step (by repeat (first|(with_reducible first|exact HB.out|apply below_alloc|apply pw_below_drewN|apply below_drew1)|exact HB.out)) hb)
        clear HB
        have HB:=n0_
        clear n0_
        (try clear hb)
        (try clear hb2)
        (try clear hk)
        (try clear hi)
        refine hK.out _ _ ⟨((HB.out.cell (World.block_lt_of_cell? w _ hw293_0)).trans hw293_0),((HB.out.cell (World.block_lt_of_cell? w _ hw293_1)).trans hw293_1),((HB.out.cell (World.block_lt_of_cell? w _ hw293_2)).trans hw293_2),((HB.out.cell (World.block_lt_of_cell? w _ hw293_3)).trans hw293_3),((HB.out.cell (World.block_lt_of_cell? w _ hw293_4)).trans hw293_4),((HB.out.cell (World.block_lt_of_cell? w _ hw294_0)).trans hw294_0),((HB.out.cell (World.block_lt_of_cell? w _ hw294_1)).trans hw294_1),((HB.out.cell (World.block_lt_of_cell? w _ hw294_2)).trans hw294_2),((HB.out.cell (World.block_lt_of_cell? w _ hw294_3)).trans hw294_3),((HB.out.cell (World.block_lt_of_cell? w _ hw294_4)).trans hw294_4)⟩ (fun hHeld=>?_)
        clear hK K
        refine norm_ (a':=?_) ?_ ?_
        rotate_left
        ·show Act.put _ (some 25) _ = _
         simp only [Act.put,List.setIfInBounds_toArray,List.set_cons_zero,List.set_cons_succ,i64_w,i32_w]
         rfl
        refine pure_ (i:=9) (N:=some 26) (v:=?_) (a':=?_) #[true,true,true,true,true,true,true,true,true,true] rfl rfl (any_of HT_.out (by kernel_rfl)) (fun _ _ _ h=>h) (Or.inl ⟨by rfl,?_⟩) ?_ ?_
        rotate_left
        ·intro w'
         go_simp
         with_reducible rfl
        rotate_left
        ·simp only [Act.put,List.setIfInBounds_toArray,List.set_cons_zero,List.set_cons_succ,i64_w,i32_w]
         rfl
        refine done_ (done_of HT_.out (by kernel_rfl)) ?_
        try go_wp2
        go_roundg k1
        case measure=>have:=HK1.out;omega
        case rel=>exact ⟨(wrap64 (x5_1 + 1)),(by first|rfl|(simp;done)|(simp [*];done)),H',⟨by have:=HK1.out;omega⟩,⟨by repeat (first|(with_reducible first|exact HB.out|apply below_alloc|apply pw_below_drewN|apply below_drew1)|exact HB.out)⟩⟩
       ·replace c8:=Bool.eq_false_iff.mpr c8
        subst c8
        have H1:(some false) = some r:=by rw [if_neg (show ¬ (false = true) by decide)] at H;exact H
        clear H
        have H:=H1
        clear H1
        obtain rfl:=Option.some.inj H
        try go_wp2
        have n0_:=Aside0.mk (below_drew1 HB.out)
        clear HB
        have HB:=n0_
        clear n0_
        have p293:0≤(x5_1:Int):=of_decide_eq_true (by first|(with_reducible assumption)|assumption)
        have q293:x5_1 < (l0.length:Int):=of_decide_eq_true (by first|(with_reducible assumption)|assumption)
        obtain ⟨ad293,A293_3,c293_3,A293_4,c293_4,e293,hx293_0,hx293_1,hx293_2,hx293_3,hx293_4,hl293_3,hi293_3,hl293_4,hi293_4⟩:=at_T31 HR0.out x5_1 p293 q293
        have hw293_4:=hx293_4
        have hw293_3:=hx293_3
        have hw293_2:=hx293_2
        have hw293_1:=hx293_1
        have hw293_0:=hx293_0
        cases e293
        replace hx293_0:=(HB.out.cell (World.block_lt_of_cell? w _ hx293_0)).trans hx293_0
        replace hx293_1:=(HB.out.cell (World.block_lt_of_cell? w _ hx293_1)).trans hx293_1
        replace hx293_2:=(HB.out.cell (World.block_lt_of_cell? w _ hx293_2)).trans hx293_2
        replace hx293_3:=(HB.out.cell (World.block_lt_of_cell? w _ hx293_3)).trans hx293_3
        replace hx293_4:=(HB.out.cell (World.block_lt_of_cell? w _ hx293_4)).trans hx293_4
        have HR293_3:=Aside0.mk hi293_3
        have HC293_3:=Aside0.mk hl293_3
        clear hi293_3 hl293_3
        have HR293_4:=Aside0.mk hi293_4
        have HC293_4:=Aside0.mk hl293_4
        clear hi293_4 hl293_4
        replace p293:=eq_true p293
        replace q293:=eq_true q293
        have p294:0≤(x5_1:Int):=of_decide_eq_true (by first|(with_reducible assumption)|assumption)
        have q294:x5_1 < (l1.length:Int):=of_decide_eq_true (by first|(with_reducible assumption)|assumption)
        obtain ⟨ad294,A294_3,c294_3,A294_4,c294_4,e294,hx294_0,hx294_1,hx294_2,hx294_3,hx294_4,hl294_3,hi294_3,hl294_4,hi294_4⟩:=at_T31 HR1.out x5_1 p294 q294
        have hw294_4:=hx294_4
        have hw294_3:=hx294_3
        have hw294_2:=hx294_2
        have hw294_1:=hx294_1
        have hw294_0:=hx294_0
        cases e294
        replace hx294_0:=(HB.out.cell (World.block_lt_of_cell? w _ hx294_0)).trans hx294_0
        replace hx294_1:=(HB.out.cell (World.block_lt_of_cell? w _ hx294_1)).trans hx294_1
        replace hx294_2:=(HB.out.cell (World.block_lt_of_cell? w _ hx294_2)).trans hx294_2
        replace hx294_3:=(HB.out.cell (World.block_lt_of_cell? w _ hx294_3)).trans hx294_3
        replace hx294_4:=(HB.out.cell (World.block_lt_of_cell? w _ hx294_4)).trans hx294_4
        have HR294_3:=Aside0.mk hi294_3
        have HC294_3:=Aside0.mk hl294_3
        clear hi294_3 hl294_3
        have HR294_4:=Aside0.mk hi294_4
        have HC294_4:=Aside0.mk hl294_4
        clear hi294_4 hl294_4
        replace p294:=eq_true p294
        replace q294:=eq_true q294
        refine start_ (n:=10) (S:=fun w'=>w'.cell? (ad293.add ((x5_1).toNat * 5)) = some (.int .i64 ((rd_T31 l0 x5_1).f0))∧w'.cell? ⟨(ad293.add ((x5_1).toNat * 5)).block,(ad293.add ((x5_1).toNat * 5)).off + 1,none⟩ = some (.int .i64 ((rd_T31 l0 x5_1).f1))∧w'.cell? ⟨(ad293.add ((x5_1).toNat * 5)).block,(ad293.add ((x5_1).toNat * 5)).off + 2,none⟩ = some (.string ((rd_T31 l0 x5_1).f2))∧w'.cell? ⟨(ad293.add ((x5_1).toNat * 5)).block,(ad293.add ((x5_1).toNat * 5)).off + 3,none⟩ = some (.slice A293_3 ((rd_T31 l0 x5_1).f3).length c293_3)∧w'.cell? ⟨(ad293.add ((x5_1).toNat * 5)).block,(ad293.add ((x5_1).toNat * 5)).off + 4,none⟩ = some (.slice A293_4 ((rd_T31 l0 x5_1).f4).length c293_4)∧w'.cell? (ad294.add ((x5_1).toNat * 5)) = some (.int .i64 ((rd_T31 l1 x5_1).f0))∧w'.cell? ⟨(ad294.add ((x5_1).toNat * 5)).block,(ad294.add ((x5_1).toNat * 5)).off + 1,none⟩ = some (.int .i64 ((rd_T31 l1 x5_1).f1))∧w'.cell? ⟨(ad294.add ((x5_1).toNat * 5)).block,(ad294.add ((x5_1).toNat * 5)).off + 2,none⟩ = some (.string ((rd_T31 l1 x5_1).f2))∧w'.cell? ⟨(ad294.add ((x5_1).toNat * 5)).block,(ad294.add ((x5_1).toNat * 5)).off + 3,none⟩ = some (.slice A294_3 ((rd_T31 l1 x5_1).f3).length c294_3)∧w'.cell? ⟨(ad294.add ((x5_1).toNat * 5)).block,(ad294.add ((x5_1).toNat * 5)).off + 4,none⟩ = some (.slice A294_4 ((rd_T31 l1 x5_1).f4).length c294_4)) (ds:=[]) #[false,false,false,false,false,false,false,false,false,false] (by kernel_rfl) rfl rfl ⟨((HB.out.cell (World.block_lt_of_cell? w _ hw293_0)).trans hw293_0),((HB.out.cell (World.block_lt_of_cell? w _ hw293_1)).trans hw293_1),((HB.out.cell (World.block_lt_of_cell? w _ hw293_2)).trans hw293_2),((HB.out.cell (World.block_lt_of_cell? w _ hw293_3)).trans hw293_3),((HB.out.cell (World.block_lt_of_cell? w _ hw293_4)).trans hw293_4),((HB.out.cell (World.block_lt_of_cell? w _ hw294_0)).trans hw294_0),((HB.out.cell (World.block_lt_of_cell? w _ hw294_1)).trans hw294_1),((HB.out.cell (World.block_lt_of_cell? w _ hw294_2)).trans hw294_2),((HB.out.cell (World.block_lt_of_cell? w _ hw294_3)).trans hw294_3),((HB.out.cell (World.block_lt_of_cell? w _ hw294_4)).trans hw294_4)⟩ (fun hHeld=>?_);refine with_tabW laws_eqExprS.tab6 laws_eqExprS.bits6 (fun HT_ HW_=>?_)
        generalize wr.drew = w11 at HB HR293_3 HR293_4 HR294_3 HR294_4 hx293_0 hx293_1 hx293_2 hx293_3 hx293_4 hx294_0 hx294_1 hx294_2 hx294_3 hx294_4 hHeld ⊢
        refine pure_ (i:=0) (N:=some 17) (v:=?_) (a':=?_) #[true,false,false,false,false,false,false,false,false,false] rfl rfl (any_of HT_.out (by kernel_rfl)) (fun _ _ _ h=>h) (Or.inl ⟨by rfl,?_⟩) ?_ ?_
        rotate_left
        ·intro w'
         go_simp
         with_reducible rfl
        rotate_left
        ·simp only [Act.put,List.setIfInBounds_toArray,List.set_cons_zero,List.set_cons_succ,i64_w,i32_w]
         rfl
        refine pure_ (i:=1) (N:=some 18) (v:=?_) (a':=?_) #[true,true,false,false,false,false,false,false,false,false] rfl rfl (any_of HT_.out (by kernel_rfl)) (fun _ _ _ h=>h) (Or.inl ⟨by rfl,?_⟩) ?_ ?_
        rotate_left
        ·intro w'
         go_simp
         with_reducible rfl
        rotate_left
        ·simp only [Act.put,List.setIfInBounds_toArray,List.set_cons_zero,List.set_cons_succ,i64_w,i32_w]
         rfl
        refine pure_ (i:=2) (N:=some 19) (v:=?_) (a':=?_) #[true,true,true,false,false,false,false,false,false,false] rfl rfl (any_of HT_.out (by kernel_rfl)) (fun _ _ _ h=>h) (Or.inl ⟨by rfl,?_⟩) ?_ ?_
        rotate_left
        ·intro w'
         go_simp
         with_reducible rfl
        rotate_left
        ·simp only [Act.put,List.setIfInBounds_toArray,List.set_cons_zero,List.set_cons_succ,i64_w,i32_w]
         rfl
        refine pure_ (i:=4) (N:=some 21) (v:=?_) (a':=?_) #[true,true,true,false,true,false,false,false,false,false] rfl rfl (any_of HT_.out (by kernel_rfl)) (fun _ _ _ h=>h) (Or.inl ⟨by rfl,?_⟩) ?_ ?_
        rotate_left
        ·intro w'
         go_simp
         with_reducible rfl
        rotate_left
        ·simp only [Act.put,List.setIfInBounds_toArray,List.set_cons_zero,List.set_cons_succ,i64_w,i32_w]
         rfl
        refine pure_ (i:=5) (N:=some 22) (v:=?_) (a':=?_) #[true,true,true,false,true,true,false,false,false,false] rfl rfl (any_of HT_.out (by kernel_rfl)) (fun _ _ _ h=>h) (Or.inl ⟨by rfl,?_⟩) ?_ ?_
        rotate_left
        ·intro w'
         go_simp
         with_reducible rfl
        rotate_left
        ·simp only [Act.put,List.setIfInBounds_toArray,List.set_cons_zero,List.set_cons_succ,i64_w,i32_w]
         rfl
        refine pure_ (i:=6) (N:=some 23) (v:=?_) (a':=?_) #[true,true,true,false,true,true,true,false,false,false] rfl rfl (any_of HT_.out (by kernel_rfl)) (fun _ _ _ h=>h) (Or.inl ⟨by rfl,?_⟩) ?_ ?_
        rotate_left
        ·intro w'
         go_simp
         with_reducible rfl
        rotate_left
        ·simp only [Act.put,List.setIfInBounds_toArray,List.set_cons_zero,List.set_cons_succ,i64_w,i32_w]
         rfl
        refine take_ (i:=3) (N:=some 20) (v:=?_) (a':=?_) #[true,true,true,true,true,true,true,false,false,false] rfl rfl (take_ofW HT_.out HW_.out (by kernel_rfl)) (fun _ _ _ h=>h) (Or.inl ⟨by rfl,?_⟩) hHeld ?_ ?_
        rotate_left
        ·rintro w' ⟨s0,s1,s2,s3,s4,s5,s6,s7,s8,s9⟩
         go_simp
         with_reducible rfl
        rotate_left
        ·simp only [Act.put,List.setIfInBounds_toArray,List.set_cons_zero,List.set_cons_succ,i64_w,i32_w]
         rfl
        refine take_ (i:=7) (N:=some 24) (v:=?_) (a':=?_) #[true,true,true,true,true,true,true,true,false,false] rfl rfl (take_ofW HT_.out HW_.out (by kernel_rfl)) (fun _ _ _ h=>h) (Or.inl ⟨by rfl,?_⟩) hHeld ?_ ?_
        rotate_left
        ·rintro w' ⟨s0,s1,s2,s3,s4,s5,s6,s7,s8,s9⟩
         go_simp
         with_reducible rfl
        rotate_left
        ·simp only [Act.put,List.setIfInBounds_toArray,List.set_cons_zero,List.set_cons_succ,i64_w,i32_w]
         rfl
        refine one_ (i:=8) (N:=some 25) #[true,true,true,true,true,true,true,true,true,false] rfl rfl (one_of HT_.out (by kernel_rfl)) (by decide) (fun K hK=>?_)
        refine goes_ Try.func8 (by kernel_rfl) rfl #[.agg #[.int .i64 ((rd_T31 l0 x5_1).f0),.int .i64 ((rd_T31 l0 x5_1).f1),.string ((rd_T31 l0 x5_1).f2),.slice A293_3 ((rd_T31 l0 x5_1).f3).length c293_3,.slice A293_4 ((rd_T31 l0 x5_1).f4).length c293_4],.agg #[.int .i64 ((rd_T31 l1 x5_1).f0),.int .i64 ((rd_T31 l1 x5_1).f1),.string ((rd_T31 l1 x5_1).f2),.slice A294_3 ((rd_T31 l1 x5_1).f3).length c294_3,.slice A294_4 ((rd_T31 l1 x5_1).f4).length c294_4]] (by rfl) rfl rfl (by (try simp only [List.map_toArray,List.map_cons,List.map_nil]);first|done|rfl|(simp only [List.length_drop,List.length_take];rfl)) ?_
        with_reducible refine (ih_laws_eqExpr k1 (by have:=HK1.out;omega) ((rd_T31 l0 x5_1).f0) ((rd_T31 l0 x5_1).f1) ((rd_T31 l0 x5_1).f2) _ _ ((rd_T31 l0 x5_1).f3) _ _ ((rd_T31 l0 x5_1).f4) ((rd_T31 l1 x5_1).f0) ((rd_T31 l1 x5_1).f1) ((rd_T31 l1 x5_1).f2) _ _ ((rd_T31 l1 x5_1).f3) _ _ ((rd_T31 l1 x5_1).f4) false _ ?side1 ?side2 ?side3 ?side4 ?side5 ?side6 ?side7 ?side8 A7.out).mono ?_
        (case side1=>repeat (first|exact (Kd.C_below HR293_3.out HB.out)|(with_reducible refine Kd.C_alloc ?_ _)|(with_reducible refine Kd.C_drewN ?_ _)|(with_reducible refine Kd.C_drew ?_)))
        (case side2=>exact HC293_3.out)
        (case side3=>repeat (first|exact (Kd.C_below HR293_4.out HB.out)|(with_reducible refine Kd.C_alloc ?_ _)|(with_reducible refine Kd.C_drewN ?_ _)|(with_reducible refine Kd.C_drew ?_)))
        (case side4=>exact HC293_4.out)
        (case side5=>repeat (first|exact (Kd.C_below HR294_3.out HB.out)|(with_reducible refine Kd.C_alloc ?_ _)|(with_reducible refine Kd.C_drewN ?_ _)|(with_reducible refine Kd.C_drew ?_)))
        (case side6=>exact HC294_3.out)
        (case side7=>repeat (first|exact (Kd.C_below HR294_4.out HB.out)|(with_reducible refine Kd.C_alloc ?_ _)|(with_reducible refine Kd.C_drewN ?_ _)|(with_reducible refine Kd.C_drew ?_)))
        (case side8=>exact HC294_4.out)
        rintro e w12 ⟨rfl,hb⟩
        refine ⟨_,rfl,?_⟩
        have n0_:=Aside0.mk (below_step (by repeat (first|(with_reducible first|exact HB.out|apply below_alloc|apply pw_below_drewN|apply below_drew1)|exact HB.out)) hb)
        clear HB
        have HB:=n0_
        clear n0_
        (try clear hb)
        (try clear hb2)
        (try clear hk)
        (try clear hi)
        refine hK.out _ _ ⟨((HB.out.cell (World.block_lt_of_cell? w _ hw293_0)).trans hw293_0),((HB.out.cell (World.block_lt_of_cell? w _ hw293_1)).trans hw293_1),((HB.out.cell (World.block_lt_of_cell? w _ hw293_2)).trans hw293_2),((HB.out.cell (World.block_lt_of_cell? w _ hw293_3)).trans hw293_3),((HB.out.cell (World.block_lt_of_cell? w _ hw293_4)).trans hw293_4),((HB.out.cell (World.block_lt_of_cell? w _ hw294_0)).trans hw294_0),((HB.out.cell (World.block_lt_of_cell? w _ hw294_1)).trans hw294_1),((HB.out.cell (World.block_lt_of_cell? w _ hw294_2)).trans hw294_2),((HB.out.cell (World.block_lt_of_cell? w _ hw294_3)).trans hw294_3),((HB.out.cell (World.block_lt_of_cell? w _ hw294_4)).trans hw294_4)⟩ (fun hHeld=>?_)
        clear hK K
        refine norm_ (a':=?_) ?_ ?_
        rotate_left
        ·show Act.put _ (some 25) _ = _
         simp only [Act.put,List.setIfInBounds_toArray,List.set_cons_zero,List.set_cons_succ,i64_w,i32_w]
         rfl
        refine pure_ (i:=9) (N:=some 26) (v:=?_) (a':=?_) #[true,true,true,true,true,true,true,true,true,true] rfl rfl (any_of HT_.out (by kernel_rfl)) (fun _ _ _ h=>h) (Or.inl ⟨by rfl,?_⟩) ?_ ?_
        rotate_left
        ·intro w'
         go_simp
         with_reducible rfl
        rotate_left
        ·simp only [Act.put,List.setIfInBounds_toArray,List.set_cons_zero,List.set_cons_succ,i64_w,i32_w]
         rfl
        refine done_ (done_of HT_.out (by kernel_rfl)) ?_
        try go_wp2
        go_ret
        exact ⟨by first|rfl|(simp [*,errW_none,errW_some] <;> rfl),by repeat (first|(with_reducible first|exact HB.out|apply below_alloc|apply pw_below_drewN|apply below_drew1)|exact HB.out)⟩
      ·rw [if_neg c6] at H
       exact absurd H (by simp)
     ·rw [if_neg c5] at H
      exact absurd H (by simp)
    ·rw [if_neg c4] at H
     have c4b0:decide (x5_1 < (l0.length:Int)) = false:=decide_eq_false c4
     clear c4
     obtain rfl:=Option.some.inj H
     go_wp2
     go_ret
     exact ⟨by first|rfl|(simp [*,errW_none,errW_some] <;> rfl),by repeat (first|(with_reducible first|exact HB.out|apply below_alloc|apply pw_below_drewN|apply below_drew1)|exact HB.out)⟩
 ·rw [if_neg c3] at H
  have c3b0:((l0.length:Int) == (l1.length:Int)) = false:=beq_eq_false_iff_ne.mpr c3
  have c3b1:((l0.length:Int) != (l1.length:Int)) = true:=bne_iff_ne.mpr c3
  have c3b2:(l0.length == l1.length) = false:=by first|simpa using c3|(simp at c3 ⊢;omega)
  obtain rfl:=Option.some.inj H
  go_enter Try.func15,Try.ntmps15
  go_wp2
  go_ret
  exact ⟨by first|rfl|(simp [*,errW_none,errW_some] <;> rfl),by repeat (first|(with_reducible first|exact HB.out|apply below_alloc|apply pw_below_drewN|apply below_drew1)|exact HB.out)⟩

/-! ### laws_eqClause: function 24 -/
set_option maxHeartbeats 8000000 in
set_option maxRecDepth 100000 in
theorem laws_eqClause.step (k:Nat) (ih_laws_eqExprS:∀ k_,k_ < k → ∀ (A0:Option Addr) (c0:Nat) (l0:List (S31)) (A1:Option Addr) (c1:Nat) (l1:List (S31)) (r:Bool) (w:World) (hr0:Kd.C k31 w A0 l0.length l0) (hc0:l0.length≤c0) (hr1:Kd.C k31 w A1 l1.length l1) (hc1:l1.length≤c1) (h:laws_eqExprS.f k_ l0 l1 = some r),Calls Try.prog 15 #[.slice A0 l0.length c0,.slice A1 l1.length c1] w fun e w'=>e = .returned (.bool r)∧Below w.heap.size w w') (ih_laws_eqClause:∀ k_,k_ < k → ∀ (a0_0:Int) (a0_1:Int) (a0_2:ByteArray) (A0_3:Option Addr) (c0_3:Nat) (l0_3:List (S31)) (A0_4:Option Addr) (c0_4:Nat) (l0_4:List (S53)) (a0_5:Int) (a0_6:Int) (a0_7:ByteArray) (A0_8:Option Addr) (c0_8:Nat) (l0_8:List (S31)) (A0_9:Option Addr) (c0_9:Nat) (l0_9:List (S53)) (a1_0:Int) (a1_1:Int) (a1_2:ByteArray) (A1_3:Option Addr) (c1_3:Nat) (l1_3:List (S31)) (A1_4:Option Addr) (c1_4:Nat) (l1_4:List (S53)) (a1_5:Int) (a1_6:Int) (a1_7:ByteArray) (A1_8:Option Addr) (c1_8:Nat) (l1_8:List (S31)) (A1_9:Option Addr) (c1_9:Nat) (l1_9:List (S53)) (r:Bool) (w:World) (hr0_3:Kd.C k31 w A0_3 l0_3.length l0_3) (hc0_3:l0_3.length≤c0_3) (hr0_4:Kd.C k53 w A0_4 l0_4.length l0_4) (hc0_4:l0_4.length≤c0_4) (hr0_8:Kd.C k31 w A0_8 l0_8.length l0_8) (hc0_8:l0_8.length≤c0_8) (hr0_9:Kd.C k53 w A0_9 l0_9.length l0_9) (hc0_9:l0_9.length≤c0_9) (hr1_3:Kd.C k31 w A1_3 l1_3.length l1_3) (hc1_3:l1_3.length≤c1_3) (hr1_4:Kd.C k53 w A1_4 l1_4.length l1_4) (hc1_4:l1_4.length≤c1_4) (hr1_8:Kd.C k31 w A1_8 l1_8.length l1_8) (hc1_8:l1_8.length≤c1_8) (hr1_9:Kd.C k53 w A1_9 l1_9.length l1_9) (hc1_9:l1_9.length≤c1_9) (h:laws_eqClause.f k_ a0_0 a0_1 a0_2 l0_3 l0_4 a0_5 a0_6 a0_7 l0_8 l0_9 a1_0 a1_1 a1_2 l1_3 l1_4 a1_5 a1_6 a1_7 l1_8 l1_9 = some r),Calls Try.prog 24 #[.agg #[.int .i64 a0_0,.int .i64 a0_1,.string a0_2,.slice A0_3 l0_3.length c0_3,.slice A0_4 l0_4.length c0_4,.int .i64 a0_5,.int .i64 a0_6,.string a0_7,.slice A0_8 l0_8.length c0_8,.slice A0_9 l0_9.length c0_9],.agg #[.int .i64 a1_0,.int .i64 a1_1,.string a1_2,.slice A1_3 l1_3.length c1_3,.slice A1_4 l1_4.length c1_4,.int .i64 a1_5,.int .i64 a1_6,.string a1_7,.slice A1_8 l1_8.length c1_8,.slice A1_9 l1_9.length c1_9]] w fun e w'=>e = .returned (.bool r)∧Below w.heap.size w w') (ih_laws_eqClauseS:∀ k_,k_ < k → ∀ (A0:Option Addr) (c0:Nat) (l0:List (S53)) (A1:Option Addr) (c1:Nat) (l1:List (S53)) (r:Bool) (w:World) (hr0:Kd.C k53 w A0 l0.length l0) (hc0:l0.length≤c0) (hr1:Kd.C k53 w A1 l1.length l1) (hc1:l1.length≤c1) (h:laws_eqClauseS.f k_ l0 l1 = some r),Calls Try.prog 16 #[.slice A0 l0.length c0,.slice A1 l1.length c1] w fun e w'=>e = .returned (.bool r)∧Below w.heap.size w w') (ih_laws_eqExpr:∀ k_,k_ < k → ∀ (a0_0:Int) (a0_1:Int) (a0_2:ByteArray) (A0_3:Option Addr) (c0_3:Nat) (l0_3:List (S31)) (A0_4:Option Addr) (c0_4:Nat) (l0_4:List (S53)) (a1_0:Int) (a1_1:Int) (a1_2:ByteArray) (A1_3:Option Addr) (c1_3:Nat) (l1_3:List (S31)) (A1_4:Option Addr) (c1_4:Nat) (l1_4:List (S53)) (r:Bool) (w:World) (hr0_3:Kd.C k31 w A0_3 l0_3.length l0_3) (hc0_3:l0_3.length≤c0_3) (hr0_4:Kd.C k53 w A0_4 l0_4.length l0_4) (hc0_4:l0_4.length≤c0_4) (hr1_3:Kd.C k31 w A1_3 l1_3.length l1_3) (hc1_3:l1_3.length≤c1_3) (hr1_4:Kd.C k53 w A1_4 l1_4.length l1_4) (hc1_4:l1_4.length≤c1_4) (h:laws_eqExpr.f k_ a0_0 a0_1 a0_2 l0_3 l0_4 a1_0 a1_1 a1_2 l1_3 l1_4 = some r),Calls Try.prog 8 #[.agg #[.int .i64 a0_0,.int .i64 a0_1,.string a0_2,.slice A0_3 l0_3.length c0_3,.slice A0_4 l0_4.length c0_4],.agg #[.int .i64 a1_0,.int .i64 a1_1,.string a1_2,.slice A1_3 l1_3.length c1_3,.slice A1_4 l1_4.length c1_4]] w fun e w'=>e = .returned (.bool r)∧Below w.heap.size w w'):∀ (a0_0:Int) (a0_1:Int) (a0_2:ByteArray) (A0_3:Option Addr) (c0_3:Nat) (l0_3:List (S31)) (A0_4:Option Addr) (c0_4:Nat) (l0_4:List (S53)) (a0_5:Int) (a0_6:Int) (a0_7:ByteArray) (A0_8:Option Addr) (c0_8:Nat) (l0_8:List (S31)) (A0_9:Option Addr) (c0_9:Nat) (l0_9:List (S53)) (a1_0:Int) (a1_1:Int) (a1_2:ByteArray) (A1_3:Option Addr) (c1_3:Nat) (l1_3:List (S31)) (A1_4:Option Addr) (c1_4:Nat) (l1_4:List (S53)) (a1_5:Int) (a1_6:Int) (a1_7:ByteArray) (A1_8:Option Addr) (c1_8:Nat) (l1_8:List (S31)) (A1_9:Option Addr) (c1_9:Nat) (l1_9:List (S53)) (r:Bool) (w:World) (hr0_3:Kd.C k31 w A0_3 l0_3.length l0_3) (hc0_3:l0_3.length≤c0_3) (hr0_4:Kd.C k53 w A0_4 l0_4.length l0_4) (hc0_4:l0_4.length≤c0_4) (hr0_8:Kd.C k31 w A0_8 l0_8.length l0_8) (hc0_8:l0_8.length≤c0_8) (hr0_9:Kd.C k53 w A0_9 l0_9.length l0_9) (hc0_9:l0_9.length≤c0_9) (hr1_3:Kd.C k31 w A1_3 l1_3.length l1_3) (hc1_3:l1_3.length≤c1_3) (hr1_4:Kd.C k53 w A1_4 l1_4.length l1_4) (hc1_4:l1_4.length≤c1_4) (hr1_8:Kd.C k31 w A1_8 l1_8.length l1_8) (hc1_8:l1_8.length≤c1_8) (hr1_9:Kd.C k53 w A1_9 l1_9.length l1_9) (hc1_9:l1_9.length≤c1_9) (h:laws_eqClause.f k a0_0 a0_1 a0_2 l0_3 l0_4 a0_5 a0_6 a0_7 l0_8 l0_9 a1_0 a1_1 a1_2 l1_3 l1_4 a1_5 a1_6 a1_7 l1_8 l1_9 = some r),
  Calls Try.prog 24 #[.agg #[.int .i64 a0_0,.int .i64 a0_1,.string a0_2,.slice A0_3 l0_3.length c0_3,.slice A0_4 l0_4.length c0_4,.int .i64 a0_5,.int .i64 a0_6,.string a0_7,.slice A0_8 l0_8.length c0_8,.slice A0_9 l0_9.length c0_9],.agg #[.int .i64 a1_0,.int .i64 a1_1,.string a1_2,.slice A1_3 l1_3.length c1_3,.slice A1_4 l1_4.length c1_4,.int .i64 a1_5,.int .i64 a1_6,.string a1_7,.slice A1_8 l1_8.length c1_8,.slice A1_9 l1_9.length c1_9]] w fun e w'=>e = .returned (.bool r)∧Below w.heap.size w w':=by
 intro a0_0 a0_1 a0_2 A0_3 c0_3 l0_3 A0_4 c0_4 l0_4 a0_5 a0_6 a0_7 A0_8 c0_8 l0_8 A0_9 c0_9 l0_9 a1_0 a1_1 a1_2 A1_3 c1_3 l1_3 A1_4 c1_4 l1_4 a1_5 a1_6 a1_7 A1_8 c1_8 l1_8 A1_9 c1_9 l1_9 r w hr0_3 hc0_3 hr0_4 hc0_4 hr0_8 hc0_8 hr0_9 hc0_9 hr1_3 hc1_3 hr1_4 hc1_4 hr1_8 hc1_8 hr1_9 hc1_9 h
 cases k with
 | zero=>exact absurd h (by simp [laws_eqClause.f])
 | succ k =>
 simp only [laws_eqClause.f] at h
 have hu53:=Try.underlying53
 have hu31:=Try.underlying31
 have HR0_3:=Aside0.mk hr0_3
 have HC0_3:=Aside0.mk hc0_3
 clear hr0_3 hc0_3
 have HR0_4:=Aside0.mk hr0_4
 have HC0_4:=Aside0.mk hc0_4
 clear hr0_4 hc0_4
 have HR0_8:=Aside0.mk hr0_8
 have HC0_8:=Aside0.mk hc0_8
 clear hr0_8 hc0_8
 have HR0_9:=Aside0.mk hr0_9
 have HC0_9:=Aside0.mk hc0_9
 clear hr0_9 hc0_9
 have HR1_3:=Aside0.mk hr1_3
 have HC1_3:=Aside0.mk hc1_3
 clear hr1_3 hc1_3
 have HR1_4:=Aside0.mk hr1_4
 have HC1_4:=Aside0.mk hc1_4
 clear hr1_4 hc1_4
 have HR1_8:=Aside0.mk hr1_8
 have HC1_8:=Aside0.mk hc1_8
 clear hr1_8 hc1_8
 have HR1_9:=Aside0.mk hr1_9
 have HC1_9:=Aside0.mk hc1_9
 clear hr1_9 hc1_9
 have HB:=Aside0.mk (Below.refl w.heap.size w)
 have H:((laws_eqExpr.f k a0_0 a0_1 a0_2 l0_3 l0_4 a1_0 a1_1 a1_2 l1_3 l1_4).bind fun t298=>(if t298 = true then ((laws_eqExpr.f k a0_5 a0_6 a0_7 l0_8 l0_9 a1_5 a1_6 a1_7 l1_8 l1_9).bind fun t299=>(if t299 = true then (some true) else (some false))) else (some false))) = some r:=h
 clear h
 replace H:=Option.bind_eq_some_iff.mp H
 obtain ⟨t298,A30,H⟩:=H
 replace H:(if t298 = true then ((laws_eqExpr.f k a0_5 a0_6 a0_7 l0_8 l0_9 a1_5 a1_6 a1_7 l1_8 l1_9).bind fun t299=>(if t299 = true then (some true) else (some false))) else (some false)) = some r:=H
 have A3:=Aside0.mk A30
 clear A30
 by_cases c4:t298 = true
 ·subst c4
  have H1:((laws_eqExpr.f k a0_5 a0_6 a0_7 l0_8 l0_9 a1_5 a1_6 a1_7 l1_8 l1_9).bind fun t299=>(if t299 = true then (some true) else (some false))) = some r:=by rw [if_pos rfl] at H;exact H
  clear H
  have H:=H1
  clear H1
  replace H:=Option.bind_eq_some_iff.mp H
  obtain ⟨t299,A50,H⟩:=H
  replace H:(if t299 = true then (some true) else (some false)) = some r:=H
  have A5:=Aside0.mk A50
  clear A50
  by_cases c6:t299 = true
  focus
   subst c6
   have H1:(some true) = some r:=by rw [if_pos rfl] at H;exact H
  rotate_left
  focus
   replace c6:=Bool.eq_false_iff.mpr c6
   subst c6
   have H1:(some false) = some r:=by rw [if_neg (show ¬ (false = true) by decide)] at H;exact H
  rotate_left
  all_goals
   clear H
   have H:=H1
   clear H1
   obtain rfl:=Option.some.inj H
   go_enter Try.func24,Try.ntmps24
   go_wp2_with (first|((with_reducible refine gate_dst (N:=2) rfl ?_);refine box_event ?hg (N:=2) ?hd (cs:=#[.int .i64 a0_0,.int .i64 a0_1,.string a0_2,.slice A0_3 l0_3.length c0_3,.slice A0_4 l0_4.length c0_4,.int .i64 a0_5,.int .i64 a0_6,.string a0_7,.slice A0_8 l0_8.length c0_8,.slice A0_9 l0_9.length c0_9]) (t:=53) ?hr ?_;(case hd=>rfl);(case hg=>rfl);(case hr=>first|(go_simp;done)|(go_simp;rfl));intro gb296 hg w7 hbox hb;have n0_:=Aside0.mk (below_step (by repeat (first|(with_reducible first|exact HB.out|apply below_alloc|apply pw_below_drewN|apply below_drew1)|exact HB.out)) hb);have n1_:=Aside0.mk (hbox);have n2_:=Aside0.mk ((by rw [hg];exact (below_size (by repeat (first|(with_reducible first|exact HB.out|apply below_alloc|apply pw_below_drewN|apply below_drew1)|exact HB.out))):w.heap.size≤gb296));have n3_:=Aside0.mk ((by rw [hg];exact (below_size (by repeat (first|(with_reducible first|exact HB.out|apply below_alloc|apply pw_below_drewN|apply below_drew1)|exact HB.out))):w.heap.size≤gb296));clear HB;have HB:=n0_;have BK296:=n1_;have GW296:=n2_;have GE296:=n3_;clear n0_ n1_ n2_ n3_;clear hb hbox hg)|((with_reducible refine gate_dst (N:=3) rfl ?_);refine box_event ?hg (N:=3) ?hd (cs:=#[.int .i64 a1_0,.int .i64 a1_1,.string a1_2,.slice A1_3 l1_3.length c1_3,.slice A1_4 l1_4.length c1_4,.int .i64 a1_5,.int .i64 a1_6,.string a1_7,.slice A1_8 l1_8.length c1_8,.slice A1_9 l1_9.length c1_9]) (t:=53) ?hr ?_;(case hd=>rfl);(case hg=>rfl);(case hr=>first|(go_simp;done)|(go_simp;rfl));intro gb297 hg w8 hbox hb;have n0_:=Aside0.mk (blk_below (g:=gb296) (o:=.cells #[.int .i64 a0_0,.int .i64 a0_1,.string a0_2,.slice A0_3 l0_3.length c0_3,.slice A0_4 l0_4.length c0_4,.int .i64 a0_5,.int .i64 a0_6,.string a0_7,.slice A0_8 l0_8.length c0_8,.slice A0_9 l0_9.length c0_9] 53 (0,0)) (by (with_reducible repeat (first|refine blk_drewN ?_ _|refine blk_drew ?_|refine blk_alloc ?_ _));exact BK296.out) hb);have n1_:=Aside0.mk (below_step (by repeat (first|(with_reducible first|exact HB.out|apply below_alloc|apply pw_below_drewN|apply below_drew1|refine below_set ?_ GE296.out)|exact HB.out)) hb);have n2_:=Aside0.mk (hbox);have n3_:=Aside0.mk ((by rw [hg];exact (below_size (by repeat (first|(with_reducible first|exact HB.out|apply below_alloc|apply pw_below_drewN|apply below_drew1|refine below_set ?_ GE296.out)|exact HB.out))):w.heap.size≤gb297));have n4_:=Aside0.mk ((by rw [hg];exact (below_size (by repeat (first|(with_reducible first|exact HB.out|apply below_alloc|apply pw_below_drewN|apply below_drew1|refine below_set ?_ GE296.out)|exact HB.out))):w.heap.size≤gb297));have n5_:=Aside0.mk ((by rw [hg];exact Nat.ne_of_lt (blk_lt (g:=gb296) (o:=.cells #[.int .i64 a0_0,.int .i64 a0_1,.string a0_2,.slice A0_3 l0_3.length c0_3,.slice A0_4 l0_4.length c0_4,.int .i64 a0_5,.int .i64 a0_6,.string a0_7,.slice A0_8 l0_8.length c0_8,.slice A0_9 l0_9.length c0_9] 53 (0,0)) (by (with_reducible repeat (first|refine blk_drewN ?_ _|refine blk_drew ?_|refine blk_alloc ?_ _));exact BK296.out)):gb296≠gb297));have n6_:=Aside0.mk ((by rw [hg];exact Nat.ne_of_gt (blk_lt (g:=gb296) (o:=.cells #[.int .i64 a0_0,.int .i64 a0_1,.string a0_2,.slice A0_3 l0_3.length c0_3,.slice A0_4 l0_4.length c0_4,.int .i64 a0_5,.int .i64 a0_6,.string a0_7,.slice A0_8 l0_8.length c0_8,.slice A0_9 l0_9.length c0_9] 53 (0,0)) (by (with_reducible repeat (first|refine blk_drewN ?_ _|refine blk_drew ?_|refine blk_alloc ?_ _));exact BK296.out)):gb297≠gb296));clear BK296;clear HB;have BK296:=n0_;have HB:=n1_;have BK297:=n2_;have GW297:=n3_;have GE297:=n4_;have NB296_297:=n5_;have NB297_296:=n6_;clear n0_ n1_ n2_ n3_ n4_ n5_ n6_;clear hb hbox hg;have hnb9:=NB296_297.out;have hnc9:=NB297_296.out;have hcz10_0:w8.cell? ⟨gb296,0,none⟩ = some (.int .i64 a0_0):=(blk_cell BK296.out 0).trans rfl;have hcz10_1:w8.cell? ⟨gb296,1,none⟩ = some (.int .i64 a0_1):=(blk_cell BK296.out 1).trans rfl;have hcz10_2:w8.cell? ⟨gb296,2,none⟩ = some (.string a0_2):=(blk_cell BK296.out 2).trans rfl;have hcz10_3:w8.cell? ⟨gb296,3,none⟩ = some (.slice A0_3 l0_3.length c0_3):=(blk_cell BK296.out 3).trans rfl;have hcz10_4:w8.cell? ⟨gb296,4,none⟩ = some (.slice A0_4 l0_4.length c0_4):=(blk_cell BK296.out 4).trans rfl;have hcz10_5:w8.cell? ⟨gb296,5,none⟩ = some (.int .i64 a0_5):=(blk_cell BK296.out 5).trans rfl;have hcz10_6:w8.cell? ⟨gb296,6,none⟩ = some (.int .i64 a0_6):=(blk_cell BK296.out 6).trans rfl;have hcz10_7:w8.cell? ⟨gb296,7,none⟩ = some (.string a0_7):=(blk_cell BK296.out 7).trans rfl;have hcz10_8:w8.cell? ⟨gb296,8,none⟩ = some (.slice A0_8 l0_8.length c0_8):=(blk_cell BK296.out 8).trans rfl;have hcz10_9:w8.cell? ⟨gb296,9,none⟩ = some (.slice A0_9 l0_9.length c0_9):=(blk_cell BK296.out 9).trans rfl;have hfz10_0:=blk_frozen BK296.out 0;have hfz10_1:=blk_frozen BK296.out 1;have hfz10_2:=blk_frozen BK296.out 2;have hfz10_3:=blk_frozen BK296.out 3;have hfz10_4:=blk_frozen BK296.out 4;have hfz10_5:=blk_frozen BK296.out 5;have hfz10_6:=blk_frozen BK296.out 6;have hfz10_7:=blk_frozen BK296.out 7;have hfz10_8:=blk_frozen BK296.out 8;have hfz10_9:=blk_frozen BK296.out 9;have hcz11_0:w8.cell? ⟨gb297,0,none⟩ = some (.int .i64 a1_0):=(blk_cell BK297.out 0).trans rfl;have hcz11_1:w8.cell? ⟨gb297,1,none⟩ = some (.int .i64 a1_1):=(blk_cell BK297.out 1).trans rfl;have hcz11_2:w8.cell? ⟨gb297,2,none⟩ = some (.string a1_2):=(blk_cell BK297.out 2).trans rfl;have hcz11_3:w8.cell? ⟨gb297,3,none⟩ = some (.slice A1_3 l1_3.length c1_3):=(blk_cell BK297.out 3).trans rfl;have hcz11_4:w8.cell? ⟨gb297,4,none⟩ = some (.slice A1_4 l1_4.length c1_4):=(blk_cell BK297.out 4).trans rfl;have hcz11_5:w8.cell? ⟨gb297,5,none⟩ = some (.int .i64 a1_5):=(blk_cell BK297.out 5).trans rfl;have hcz11_6:w8.cell? ⟨gb297,6,none⟩ = some (.int .i64 a1_6):=(blk_cell BK297.out 6).trans rfl;have hcz11_7:w8.cell? ⟨gb297,7,none⟩ = some (.string a1_7):=(blk_cell BK297.out 7).trans rfl;have hcz11_8:w8.cell? ⟨gb297,8,none⟩ = some (.slice A1_8 l1_8.length c1_8):=(blk_cell BK297.out 8).trans rfl;have hcz11_9:w8.cell? ⟨gb297,9,none⟩ = some (.slice A1_9 l1_9.length c1_9):=(blk_cell BK297.out 9).trans rfl;have hfz11_0:=blk_frozen BK297.out 0;have hfz11_1:=blk_frozen BK297.out 1;have hfz11_2:=blk_frozen BK297.out 2;have hfz11_3:=blk_frozen BK297.out 3;have hfz11_4:=blk_frozen BK297.out 4;have hfz11_5:=blk_frozen BK297.out 5;have hfz11_6:=blk_frozen BK297.out 6;have hfz11_7:=blk_frozen BK297.out 7;have hfz11_8:=blk_frozen BK297.out 8;have hfz11_9:=blk_frozen BK297.out 9)|((with_reducible refine gate_callee (f:=8) rfl ?_);refine goesL_ (some 9) rfl rfl Try.func8 (by kernel_rfl) rfl #[.agg #[.int .i64 a0_0,.int .i64 a0_1,.string a0_2,.slice A0_3 l0_3.length c0_3,.slice A0_4 l0_4.length c0_4],.agg #[.int .i64 a1_0,.int .i64 a1_1,.string a1_2,.slice A1_3 l1_3.length c1_3,.slice A1_4 l1_4.length c1_4]] rfl (by (try simp only [List.map_toArray,List.map_cons,List.map_nil]);first|done|rfl|(simp only [List.length_drop,List.length_take];rfl)) ?_;(with_reducible refine (ih_laws_eqExpr k (by omega) a0_0 a0_1 a0_2 _ _ l0_3 _ _ l0_4 a1_0 a1_1 a1_2 _ _ l1_3 _ _ l1_4 true _ ?side1 ?side2 ?side3 ?side4 ?side5 ?side6 ?side7 ?side8 A3.out).mono ?_);(case side1=>repeat (first|exact (Kd.C_below HR0_3.out HB.out)|(with_reducible refine Kd.C_alloc ?_ _)|(with_reducible refine Kd.C_drewN ?_ _)|(with_reducible refine Kd.C_drew ?_)));(case side2=>exact HC0_3.out);(case side3=>repeat (first|exact (Kd.C_below HR0_4.out HB.out)|(with_reducible refine Kd.C_alloc ?_ _)|(with_reducible refine Kd.C_drewN ?_ _)|(with_reducible refine Kd.C_drew ?_)));(case side4=>exact HC0_4.out);(case side5=>repeat (first|exact (Kd.C_below HR1_3.out HB.out)|(with_reducible refine Kd.C_alloc ?_ _)|(with_reducible refine Kd.C_drewN ?_ _)|(with_reducible refine Kd.C_drew ?_)));(case side6=>exact HC1_3.out);(case side7=>repeat (first|exact (Kd.C_below HR1_4.out HB.out)|(with_reducible refine Kd.C_alloc ?_ _)|(with_reducible refine Kd.C_drewN ?_ _)|(with_reducible refine Kd.C_drew ?_)));(case side8=>exact HC1_4.out);rintro e w12 ⟨rfl,hb⟩;refine ⟨_,rfl,?_⟩;have n0_:=Aside0.mk (blk_below (g:=gb296) (o:=.cells #[.int .i64 a0_0,.int .i64 a0_1,.string a0_2,.slice A0_3 l0_3.length c0_3,.slice A0_4 l0_4.length c0_4,.int .i64 a0_5,.int .i64 a0_6,.string a0_7,.slice A0_8 l0_8.length c0_8,.slice A0_9 l0_9.length c0_9] 53 (0,0)) (by (with_reducible repeat (first|refine blk_drewN ?_ _|refine blk_drew ?_|refine blk_alloc ?_ _));exact BK296.out) hb);have n1_:=Aside0.mk (blk_below (g:=gb297) (o:=.cells #[.int .i64 a1_0,.int .i64 a1_1,.string a1_2,.slice A1_3 l1_3.length c1_3,.slice A1_4 l1_4.length c1_4,.int .i64 a1_5,.int .i64 a1_6,.string a1_7,.slice A1_8 l1_8.length c1_8,.slice A1_9 l1_9.length c1_9] 53 (0,0)) (by (with_reducible repeat (first|refine blk_drewN ?_ _|refine blk_drew ?_|refine blk_alloc ?_ _));exact BK297.out) hb);have n2_:=Aside0.mk (below_step (by repeat (first|(with_reducible first|exact HB.out|apply below_alloc|apply pw_below_drewN|apply below_drew1|refine below_set ?_ GE296.out|refine below_set ?_ GE297.out)|exact HB.out)) hb);clear BK296;clear BK297;clear HB;have BK296:=n0_;have BK297:=n1_;have HB:=n2_;clear n0_ n1_ n2_;(try clear hb);(try clear hb2);(try clear hk);(try clear hi);have hcz13_0:w12.cell? ⟨gb296,0,none⟩ = some (.int .i64 a0_0):=(blk_cell BK296.out 0).trans rfl;have hcz13_1:w12.cell? ⟨gb296,1,none⟩ = some (.int .i64 a0_1):=(blk_cell BK296.out 1).trans rfl;have hcz13_2:w12.cell? ⟨gb296,2,none⟩ = some (.string a0_2):=(blk_cell BK296.out 2).trans rfl;have hcz13_3:w12.cell? ⟨gb296,3,none⟩ = some (.slice A0_3 l0_3.length c0_3):=(blk_cell BK296.out 3).trans rfl;have hcz13_4:w12.cell? ⟨gb296,4,none⟩ = some (.slice A0_4 l0_4.length c0_4):=(blk_cell BK296.out 4).trans rfl;have hcz13_5:w12.cell? ⟨gb296,5,none⟩ = some (.int .i64 a0_5):=(blk_cell BK296.out 5).trans rfl;have hcz13_6:w12.cell? ⟨gb296,6,none⟩ = some (.int .i64 a0_6):=(blk_cell BK296.out 6).trans rfl;have hcz13_7:w12.cell? ⟨gb296,7,none⟩ = some (.string a0_7):=(blk_cell BK296.out 7).trans rfl;have hcz13_8:w12.cell? ⟨gb296,8,none⟩ = some (.slice A0_8 l0_8.length c0_8):=(blk_cell BK296.out 8).trans rfl;have hcz13_9:w12.cell? ⟨gb296,9,none⟩ = some (.slice A0_9 l0_9.length c0_9):=(blk_cell BK296.out 9).trans rfl;have hfz13_0:=blk_frozen BK296.out 0;have hfz13_1:=blk_frozen BK296.out 1;have hfz13_2:=blk_frozen BK296.out 2;have hfz13_3:=blk_frozen BK296.out 3;have hfz13_4:=blk_frozen BK296.out 4;have hfz13_5:=blk_frozen BK296.out 5;have hfz13_6:=blk_frozen BK296.out 6;have hfz13_7:=blk_frozen BK296.out 7;have hfz13_8:=blk_frozen BK296.out 8;have hfz13_9:=blk_frozen BK296.out 9;have hcz14_0:w12.cell? ⟨gb297,0,none⟩ = some (.int .i64 a1_0):=(blk_cell BK297.out 0).trans rfl;have hcz14_1:w12.cell? ⟨gb297,1,none⟩ = some (.int .i64 a1_1):=(blk_cell BK297.out 1).trans rfl;have hcz14_2:w12.cell? ⟨gb297,2,none⟩ = some (.string a1_2):=(blk_cell BK297.out 2).trans rfl;have hcz14_3:w12.cell? ⟨gb297,3,none⟩ = some (.slice A1_3 l1_3.length c1_3):=(blk_cell BK297.out 3).trans rfl;have hcz14_4:w12.cell? ⟨gb297,4,none⟩ = some (.slice A1_4 l1_4.length c1_4):=(blk_cell BK297.out 4).trans rfl;have hcz14_5:w12.cell? ⟨gb297,5,none⟩ = some (.int .i64 a1_5):=(blk_cell BK297.out 5).trans rfl;have hcz14_6:w12.cell? ⟨gb297,6,none⟩ = some (.int .i64 a1_6):=(blk_cell BK297.out 6).trans rfl;have hcz14_7:w12.cell? ⟨gb297,7,none⟩ = some (.string a1_7):=(blk_cell BK297.out 7).trans rfl;have hcz14_8:w12.cell? ⟨gb297,8,none⟩ = some (.slice A1_8 l1_8.length c1_8):=(blk_cell BK297.out 8).trans rfl;have hcz14_9:w12.cell? ⟨gb297,9,none⟩ = some (.slice A1_9 l1_9.length c1_9):=(blk_cell BK297.out 9).trans rfl;have hfz14_0:=blk_frozen BK297.out 0;have hfz14_1:=blk_frozen BK297.out 1;have hfz14_2:=blk_frozen BK297.out 2;have hfz14_3:=blk_frozen BK297.out 3;have hfz14_4:=blk_frozen BK297.out 4;have hfz14_5:=blk_frozen BK297.out 5;have hfz14_6:=blk_frozen BK297.out 6;have hfz14_7:=blk_frozen BK297.out 7;have hfz14_8:=blk_frozen BK297.out 8;have hfz14_9:=blk_frozen BK297.out 9)|((with_reducible refine gate_callee (f:=8) rfl ?_);refine goesL_ (some 15) rfl rfl Try.func8 (by kernel_rfl) rfl #[.agg #[.int .i64 a0_5,.int .i64 a0_6,.string a0_7,.slice A0_8 l0_8.length c0_8,.slice A0_9 l0_9.length c0_9],.agg #[.int .i64 a1_5,.int .i64 a1_6,.string a1_7,.slice A1_8 l1_8.length c1_8,.slice A1_9 l1_9.length c1_9]] rfl (by (try simp only [List.map_toArray,List.map_cons,List.map_nil]);first|done|rfl|(simp only [List.length_drop,List.length_take];rfl)) ?_;(with_reducible refine (ih_laws_eqExpr k (by omega) a0_5 a0_6 a0_7 _ _ l0_8 _ _ l0_9 a1_5 a1_6 a1_7 _ _ l1_8 _ _ l1_9 _ _ ?side1 ?side2 ?side3 ?side4 ?side5 ?side6 ?side7 ?side8 A5.out).mono ?_);(case side1=>repeat (first|exact (Kd.C_below HR0_8.out HB.out)|(with_reducible refine Kd.C_alloc ?_ _)|(with_reducible refine Kd.C_drewN ?_ _)|(with_reducible refine Kd.C_drew ?_)));(case side2=>exact HC0_8.out);(case side3=>repeat (first|exact (Kd.C_below HR0_9.out HB.out)|(with_reducible refine Kd.C_alloc ?_ _)|(with_reducible refine Kd.C_drewN ?_ _)|(with_reducible refine Kd.C_drew ?_)));(case side4=>exact HC0_9.out);(case side5=>repeat (first|exact (Kd.C_below HR1_8.out HB.out)|(with_reducible refine Kd.C_alloc ?_ _)|(with_reducible refine Kd.C_drewN ?_ _)|(with_reducible refine Kd.C_drew ?_)));(case side6=>exact HC1_8.out);(case side7=>repeat (first|exact (Kd.C_below HR1_9.out HB.out)|(with_reducible refine Kd.C_alloc ?_ _)|(with_reducible refine Kd.C_drewN ?_ _)|(with_reducible refine Kd.C_drew ?_)));(case side8=>exact HC1_9.out);rintro e w15 ⟨rfl,hb⟩;refine ⟨_,rfl,?_⟩;have n0_:=Aside0.mk (blk_below (g:=gb296) (o:=.cells #[.int .i64 a0_0,.int .i64 a0_1,.string a0_2,.slice A0_3 l0_3.length c0_3,.slice A0_4 l0_4.length c0_4,.int .i64 a0_5,.int .i64 a0_6,.string a0_7,.slice A0_8 l0_8.length c0_8,.slice A0_9 l0_9.length c0_9] 53 (0,0)) (by (with_reducible repeat (first|refine blk_drewN ?_ _|refine blk_drew ?_|refine blk_alloc ?_ _));exact BK296.out) hb);have n1_:=Aside0.mk (blk_below (g:=gb297) (o:=.cells #[.int .i64 a1_0,.int .i64 a1_1,.string a1_2,.slice A1_3 l1_3.length c1_3,.slice A1_4 l1_4.length c1_4,.int .i64 a1_5,.int .i64 a1_6,.string a1_7,.slice A1_8 l1_8.length c1_8,.slice A1_9 l1_9.length c1_9] 53 (0,0)) (by (with_reducible repeat (first|refine blk_drewN ?_ _|refine blk_drew ?_|refine blk_alloc ?_ _));exact BK297.out) hb);have n2_:=Aside0.mk (below_step (by repeat (first|(with_reducible first|exact HB.out|apply below_alloc|apply pw_below_drewN|apply below_drew1|refine below_set ?_ GE296.out|refine below_set ?_ GE297.out)|exact HB.out)) hb);clear BK296;clear BK297;clear HB;have BK296:=n0_;have BK297:=n1_;have HB:=n2_;clear n0_ n1_ n2_;(try clear hb);(try clear hb2);(try clear hk);(try clear hi)))
  ·go_ret
   exact ⟨by first|rfl|(simp [*,errW_none,errW_some] <;> rfl),by repeat (first|(with_reducible first|exact HB.out|apply below_alloc|apply pw_below_drewN|apply below_drew1|refine below_set ?_ GE296.out|refine below_set ?_ GE297.out)|exact HB.out)⟩
  ·go_ret
   exact ⟨by first|rfl|(simp [*,errW_none,errW_some] <;> rfl),by repeat (first|(with_reducible first|exact HB.out|apply below_alloc|apply pw_below_drewN|apply below_drew1|refine below_set ?_ GE296.out|refine below_set ?_ GE297.out)|exact HB.out)⟩
 ·replace c4:=Bool.eq_false_iff.mpr c4
  subst c4
  have H1:(some false) = some r:=by rw [if_neg (show ¬ (false = true) by decide)] at H;exact H
  clear H
  have H:=H1
  clear H1
  obtain rfl:=Option.some.inj H
  go_enter Try.func24,Try.ntmps24
  go_wp2_with (first|((with_reducible refine gate_dst (N:=2) rfl ?_);refine box_event ?hg (N:=2) ?hd (cs:=#[.int .i64 a0_0,.int .i64 a0_1,.string a0_2,.slice A0_3 l0_3.length c0_3,.slice A0_4 l0_4.length c0_4,.int .i64 a0_5,.int .i64 a0_6,.string a0_7,.slice A0_8 l0_8.length c0_8,.slice A0_9 l0_9.length c0_9]) (t:=53) ?hr ?_;(case hd=>rfl);(case hg=>rfl);(case hr=>first|(go_simp;done)|(go_simp;rfl));intro gb296 hg w25 hbox hb;have n0_:=Aside0.mk (below_step (by repeat (first|(with_reducible first|exact HB.out|apply below_alloc|apply pw_below_drewN|apply below_drew1)|exact HB.out)) hb);have n1_:=Aside0.mk (hbox);have n2_:=Aside0.mk ((by rw [hg];exact (below_size (by repeat (first|(with_reducible first|exact HB.out|apply below_alloc|apply pw_below_drewN|apply below_drew1)|exact HB.out))):w.heap.size≤gb296));have n3_:=Aside0.mk ((by rw [hg];exact (below_size (by repeat (first|(with_reducible first|exact HB.out|apply below_alloc|apply pw_below_drewN|apply below_drew1)|exact HB.out))):w.heap.size≤gb296));clear HB;have HB:=n0_;have BK296:=n1_;have GW296:=n2_;have GE296:=n3_;clear n0_ n1_ n2_ n3_;clear hb hbox hg)|((with_reducible refine gate_dst (N:=3) rfl ?_);refine box_event ?hg (N:=3) ?hd (cs:=#[.int .i64 a1_0,.int .i64 a1_1,.string a1_2,.slice A1_3 l1_3.length c1_3,.slice A1_4 l1_4.length c1_4,.int .i64 a1_5,.int .i64 a1_6,.string a1_7,.slice A1_8 l1_8.length c1_8,.slice A1_9 l1_9.length c1_9]) (t:=53) ?hr ?_;(case hd=>rfl);(case hg=>rfl);(case hr=>first|(go_simp;done)|(go_simp;rfl));intro gb297 hg w26 hbox hb;have n0_:=Aside0.mk (blk_below (g:=gb296) (o:=.cells #[.int .i64 a0_0,.int .i64 a0_1,.string a0_2,.slice A0_3 l0_3.length c0_3,.slice A0_4 l0_4.length c0_4,.int .i64 a0_5,.int .i64 a0_6,.string a0_7,.slice A0_8 l0_8.length c0_8,.slice A0_9 l0_9.length c0_9] 53 (0,0)) (by (with_reducible repeat (first|refine blk_drewN ?_ _|refine blk_drew ?_|refine blk_alloc ?_ _));exact BK296.out) hb);have n1_:=Aside0.mk (below_step (by repeat (first|(with_reducible first|exact HB.out|apply below_alloc|apply pw_below_drewN|apply below_drew1|refine below_set ?_ GE296.out)|exact HB.out)) hb);have n2_:=Aside0.mk (hbox);have n3_:=Aside0.mk ((by rw [hg];exact (below_size (by repeat (first|(with_reducible first|exact HB.out|apply below_alloc|apply pw_below_drewN|apply below_drew1|refine below_set ?_ GE296.out)|exact HB.out))):w.heap.size≤gb297));have n4_:=Aside0.mk ((by rw [hg];exact (below_size (by repeat (first|(with_reducible first|exact HB.out|apply below_alloc|apply pw_below_drewN|apply below_drew1|refine below_set ?_ GE296.out)|exact HB.out))):w.heap.size≤gb297));have n5_:=Aside0.mk ((by rw [hg];exact Nat.ne_of_lt (blk_lt (g:=gb296) (o:=.cells #[.int .i64 a0_0,.int .i64 a0_1,.string a0_2,.slice A0_3 l0_3.length c0_3,.slice A0_4 l0_4.length c0_4,.int .i64 a0_5,.int .i64 a0_6,.string a0_7,.slice A0_8 l0_8.length c0_8,.slice A0_9 l0_9.length c0_9] 53 (0,0)) (by (with_reducible repeat (first|refine blk_drewN ?_ _|refine blk_drew ?_|refine blk_alloc ?_ _));exact BK296.out)):gb296≠gb297));have n6_:=Aside0.mk ((by rw [hg];exact Nat.ne_of_gt (blk_lt (g:=gb296) (o:=.cells #[.int .i64 a0_0,.int .i64 a0_1,.string a0_2,.slice A0_3 l0_3.length c0_3,.slice A0_4 l0_4.length c0_4,.int .i64 a0_5,.int .i64 a0_6,.string a0_7,.slice A0_8 l0_8.length c0_8,.slice A0_9 l0_9.length c0_9] 53 (0,0)) (by (with_reducible repeat (first|refine blk_drewN ?_ _|refine blk_drew ?_|refine blk_alloc ?_ _));exact BK296.out)):gb297≠gb296));clear BK296;clear HB;have BK296:=n0_;have HB:=n1_;have BK297:=n2_;have GW297:=n3_;have GE297:=n4_;have NB296_297:=n5_;have NB297_296:=n6_;clear n0_ n1_ n2_ n3_ n4_ n5_ n6_;clear hb hbox hg;have hnb27:=NB296_297.out;have hnc27:=NB297_296.out;have hcz28_0:w26.cell? ⟨gb296,0,none⟩ = some (.int .i64 a0_0):=(blk_cell BK296.out 0).trans rfl;have hcz28_1:w26.cell? ⟨gb296,1,none⟩ = some (.int .i64 a0_1):=(blk_cell BK296.out 1).trans rfl;have hcz28_2:w26.cell? ⟨gb296,2,none⟩ = some (.string a0_2):=(blk_cell BK296.out 2).trans rfl;have hcz28_3:w26.cell? ⟨gb296,3,none⟩ = some (.slice A0_3 l0_3.length c0_3):=(blk_cell BK296.out 3).trans rfl;have hcz28_4:w26.cell? ⟨gb296,4,none⟩ = some (.slice A0_4 l0_4.length c0_4):=(blk_cell BK296.out 4).trans rfl;have hcz28_5:w26.cell? ⟨gb296,5,none⟩ = some (.int .i64 a0_5):=(blk_cell BK296.out 5).trans rfl;have hcz28_6:w26.cell? ⟨gb296,6,none⟩ = some (.int .i64 a0_6):=(blk_cell BK296.out 6).trans rfl;have hcz28_7:w26.cell? ⟨gb296,7,none⟩ = some (.string a0_7):=(blk_cell BK296.out 7).trans rfl;have hcz28_8:w26.cell? ⟨gb296,8,none⟩ = some (.slice A0_8 l0_8.length c0_8):=(blk_cell BK296.out 8).trans rfl;have hcz28_9:w26.cell? ⟨gb296,9,none⟩ = some (.slice A0_9 l0_9.length c0_9):=(blk_cell BK296.out 9).trans rfl;have hfz28_0:=blk_frozen BK296.out 0;have hfz28_1:=blk_frozen BK296.out 1;have hfz28_2:=blk_frozen BK296.out 2;have hfz28_3:=blk_frozen BK296.out 3;have hfz28_4:=blk_frozen BK296.out 4;have hfz28_5:=blk_frozen BK296.out 5;have hfz28_6:=blk_frozen BK296.out 6;have hfz28_7:=blk_frozen BK296.out 7;have hfz28_8:=blk_frozen BK296.out 8;have hfz28_9:=blk_frozen BK296.out 9;have hcz29_0:w26.cell? ⟨gb297,0,none⟩ = some (.int .i64 a1_0):=(blk_cell BK297.out 0).trans rfl;have hcz29_1:w26.cell? ⟨gb297,1,none⟩ = some (.int .i64 a1_1):=(blk_cell BK297.out 1).trans rfl;have hcz29_2:w26.cell? ⟨gb297,2,none⟩ = some (.string a1_2):=(blk_cell BK297.out 2).trans rfl;have hcz29_3:w26.cell? ⟨gb297,3,none⟩ = some (.slice A1_3 l1_3.length c1_3):=(blk_cell BK297.out 3).trans rfl;have hcz29_4:w26.cell? ⟨gb297,4,none⟩ = some (.slice A1_4 l1_4.length c1_4):=(blk_cell BK297.out 4).trans rfl;have hcz29_5:w26.cell? ⟨gb297,5,none⟩ = some (.int .i64 a1_5):=(blk_cell BK297.out 5).trans rfl;have hcz29_6:w26.cell? ⟨gb297,6,none⟩ = some (.int .i64 a1_6):=(blk_cell BK297.out 6).trans rfl;have hcz29_7:w26.cell? ⟨gb297,7,none⟩ = some (.string a1_7):=(blk_cell BK297.out 7).trans rfl;have hcz29_8:w26.cell? ⟨gb297,8,none⟩ = some (.slice A1_8 l1_8.length c1_8):=(blk_cell BK297.out 8).trans rfl;have hcz29_9:w26.cell? ⟨gb297,9,none⟩ = some (.slice A1_9 l1_9.length c1_9):=(blk_cell BK297.out 9).trans rfl;have hfz29_0:=blk_frozen BK297.out 0;have hfz29_1:=blk_frozen BK297.out 1;have hfz29_2:=blk_frozen BK297.out 2;have hfz29_3:=blk_frozen BK297.out 3;have hfz29_4:=blk_frozen BK297.out 4;have hfz29_5:=blk_frozen BK297.out 5;have hfz29_6:=blk_frozen BK297.out 6;have hfz29_7:=blk_frozen BK297.out 7;have hfz29_8:=blk_frozen BK297.out 8;have hfz29_9:=blk_frozen BK297.out 9)|((with_reducible refine gate_callee (f:=8) rfl ?_);refine goesL_ (some 9) rfl rfl Try.func8 (by kernel_rfl) rfl #[.agg #[.int .i64 a0_0,.int .i64 a0_1,.string a0_2,.slice A0_3 l0_3.length c0_3,.slice A0_4 l0_4.length c0_4],.agg #[.int .i64 a1_0,.int .i64 a1_1,.string a1_2,.slice A1_3 l1_3.length c1_3,.slice A1_4 l1_4.length c1_4]] rfl (by (try simp only [List.map_toArray,List.map_cons,List.map_nil]);first|done|rfl|(simp only [List.length_drop,List.length_take];rfl)) ?_;(with_reducible refine (ih_laws_eqExpr k (by omega) a0_0 a0_1 a0_2 _ _ l0_3 _ _ l0_4 a1_0 a1_1 a1_2 _ _ l1_3 _ _ l1_4 false _ ?side1 ?side2 ?side3 ?side4 ?side5 ?side6 ?side7 ?side8 A3.out).mono ?_);(case side1=>repeat (first|exact (Kd.C_below HR0_3.out HB.out)|(with_reducible refine Kd.C_alloc ?_ _)|(with_reducible refine Kd.C_drewN ?_ _)|(with_reducible refine Kd.C_drew ?_)));(case side2=>exact HC0_3.out);(case side3=>repeat (first|exact (Kd.C_below HR0_4.out HB.out)|(with_reducible refine Kd.C_alloc ?_ _)|(with_reducible refine Kd.C_drewN ?_ _)|(with_reducible refine Kd.C_drew ?_)));(case side4=>exact HC0_4.out);(case side5=>repeat (first|exact (Kd.C_below HR1_3.out HB.out)|(with_reducible refine Kd.C_alloc ?_ _)|(with_reducible refine Kd.C_drewN ?_ _)|(with_reducible refine Kd.C_drew ?_)));(case side6=>exact HC1_3.out);(case side7=>repeat (first|exact (Kd.C_below HR1_4.out HB.out)|(with_reducible refine Kd.C_alloc ?_ _)|(with_reducible refine Kd.C_drewN ?_ _)|(with_reducible refine Kd.C_drew ?_)));(case side8=>exact HC1_4.out);rintro e w30 ⟨rfl,hb⟩;refine ⟨_,rfl,?_⟩;have n0_:=Aside0.mk (blk_below (g:=gb296) (o:=.cells #[.int .i64 a0_0,.int .i64 a0_1,.string a0_2,.slice A0_3 l0_3.length c0_3,.slice A0_4 l0_4.length c0_4,.int .i64 a0_5,.int .i64 a0_6,.string a0_7,.slice A0_8 l0_8.length c0_8,.slice A0_9 l0_9.length c0_9] 53 (0,0)) (by (with_reducible repeat (first|refine blk_drewN ?_ _|refine blk_drew ?_|refine blk_alloc ?_ _));exact BK296.out) hb);have n1_:=Aside0.mk (blk_below (g:=gb297) (o:=.cells #[.int .i64 a1_0,.int .i64 a1_1,.string a1_2,.slice A1_3 l1_3.length c1_3,.slice A1_4 l1_4.length c1_4,.int .i64 a1_5,.int .i64 a1_6,.string a1_7,.slice A1_8 l1_8.length c1_8,.slice A1_9 l1_9.length c1_9] 53 (0,0)) (by (with_reducible repeat (first|refine blk_drewN ?_ _|refine blk_drew ?_|refine blk_alloc ?_ _));exact BK297.out) hb);have n2_:=Aside0.mk (below_step (by repeat (first|(with_reducible first|exact HB.out|apply below_alloc|apply pw_below_drewN|apply below_drew1|refine below_set ?_ GE296.out|refine below_set ?_ GE297.out)|exact HB.out)) hb);clear BK296;clear BK297;clear HB;have BK296:=n0_;have BK297:=n1_;have HB:=n2_;clear n0_ n1_ n2_;(try clear hb);(try clear hb2);(try clear hk);(try clear hi)))
  go_ret
  exact ⟨by first|rfl|(simp [*,errW_none,errW_some] <;> rfl),by repeat (first|(with_reducible first|exact HB.out|apply below_alloc|apply pw_below_drewN|apply below_drew1|refine below_set ?_ GE296.out|refine below_set ?_ GE297.out)|exact HB.out)⟩

/-! ### laws_eqClauseS: function 16 -/
def laws_eqClauseS.T6:Bool × List (List Nat × List Nat):=(true,[([],[]),([],[]),([0,1],[0,1]),([2],[2]),([],[]),([],[]),([4,5],[4,5]),([6],[6]),([3,7],[3,7]),([8],[8])])
def laws_eqClauseS.B6:List Nat:=[0,0,3,7,0,0,48,112,255,511]
theorem laws_eqClauseS.tab6:rtab .any (opsOf Try.f16 6) = laws_eqClauseS.T6:=by kernel_rfl
theorem laws_eqClauseS.bits6:waitsOk laws_eqClauseS.T6.2 laws_eqClauseS.B6 = true:=by kernel_rfl
set_option maxHeartbeats 8000000 in
set_option maxRecDepth 100000 in
theorem laws_eqClauseS.step (k:Nat) (ih_laws_eqExprS:∀ k_,k_ < k → ∀ (A0:Option Addr) (c0:Nat) (l0:List (S31)) (A1:Option Addr) (c1:Nat) (l1:List (S31)) (r:Bool) (w:World) (hr0:Kd.C k31 w A0 l0.length l0) (hc0:l0.length≤c0) (hr1:Kd.C k31 w A1 l1.length l1) (hc1:l1.length≤c1) (h:laws_eqExprS.f k_ l0 l1 = some r),Calls Try.prog 15 #[.slice A0 l0.length c0,.slice A1 l1.length c1] w fun e w'=>e = .returned (.bool r)∧Below w.heap.size w w') (ih_laws_eqClause:∀ k_,k_ < k → ∀ (a0_0:Int) (a0_1:Int) (a0_2:ByteArray) (A0_3:Option Addr) (c0_3:Nat) (l0_3:List (S31)) (A0_4:Option Addr) (c0_4:Nat) (l0_4:List (S53)) (a0_5:Int) (a0_6:Int) (a0_7:ByteArray) (A0_8:Option Addr) (c0_8:Nat) (l0_8:List (S31)) (A0_9:Option Addr) (c0_9:Nat) (l0_9:List (S53)) (a1_0:Int) (a1_1:Int) (a1_2:ByteArray) (A1_3:Option Addr) (c1_3:Nat) (l1_3:List (S31)) (A1_4:Option Addr) (c1_4:Nat) (l1_4:List (S53)) (a1_5:Int) (a1_6:Int) (a1_7:ByteArray) (A1_8:Option Addr) (c1_8:Nat) (l1_8:List (S31)) (A1_9:Option Addr) (c1_9:Nat) (l1_9:List (S53)) (r:Bool) (w:World) (hr0_3:Kd.C k31 w A0_3 l0_3.length l0_3) (hc0_3:l0_3.length≤c0_3) (hr0_4:Kd.C k53 w A0_4 l0_4.length l0_4) (hc0_4:l0_4.length≤c0_4) (hr0_8:Kd.C k31 w A0_8 l0_8.length l0_8) (hc0_8:l0_8.length≤c0_8) (hr0_9:Kd.C k53 w A0_9 l0_9.length l0_9) (hc0_9:l0_9.length≤c0_9) (hr1_3:Kd.C k31 w A1_3 l1_3.length l1_3) (hc1_3:l1_3.length≤c1_3) (hr1_4:Kd.C k53 w A1_4 l1_4.length l1_4) (hc1_4:l1_4.length≤c1_4) (hr1_8:Kd.C k31 w A1_8 l1_8.length l1_8) (hc1_8:l1_8.length≤c1_8) (hr1_9:Kd.C k53 w A1_9 l1_9.length l1_9) (hc1_9:l1_9.length≤c1_9) (h:laws_eqClause.f k_ a0_0 a0_1 a0_2 l0_3 l0_4 a0_5 a0_6 a0_7 l0_8 l0_9 a1_0 a1_1 a1_2 l1_3 l1_4 a1_5 a1_6 a1_7 l1_8 l1_9 = some r),Calls Try.prog 24 #[.agg #[.int .i64 a0_0,.int .i64 a0_1,.string a0_2,.slice A0_3 l0_3.length c0_3,.slice A0_4 l0_4.length c0_4,.int .i64 a0_5,.int .i64 a0_6,.string a0_7,.slice A0_8 l0_8.length c0_8,.slice A0_9 l0_9.length c0_9],.agg #[.int .i64 a1_0,.int .i64 a1_1,.string a1_2,.slice A1_3 l1_3.length c1_3,.slice A1_4 l1_4.length c1_4,.int .i64 a1_5,.int .i64 a1_6,.string a1_7,.slice A1_8 l1_8.length c1_8,.slice A1_9 l1_9.length c1_9]] w fun e w'=>e = .returned (.bool r)∧Below w.heap.size w w') (ih_laws_eqClauseS:∀ k_,k_ < k → ∀ (A0:Option Addr) (c0:Nat) (l0:List (S53)) (A1:Option Addr) (c1:Nat) (l1:List (S53)) (r:Bool) (w:World) (hr0:Kd.C k53 w A0 l0.length l0) (hc0:l0.length≤c0) (hr1:Kd.C k53 w A1 l1.length l1) (hc1:l1.length≤c1) (h:laws_eqClauseS.f k_ l0 l1 = some r),Calls Try.prog 16 #[.slice A0 l0.length c0,.slice A1 l1.length c1] w fun e w'=>e = .returned (.bool r)∧Below w.heap.size w w') (ih_laws_eqExpr:∀ k_,k_ < k → ∀ (a0_0:Int) (a0_1:Int) (a0_2:ByteArray) (A0_3:Option Addr) (c0_3:Nat) (l0_3:List (S31)) (A0_4:Option Addr) (c0_4:Nat) (l0_4:List (S53)) (a1_0:Int) (a1_1:Int) (a1_2:ByteArray) (A1_3:Option Addr) (c1_3:Nat) (l1_3:List (S31)) (A1_4:Option Addr) (c1_4:Nat) (l1_4:List (S53)) (r:Bool) (w:World) (hr0_3:Kd.C k31 w A0_3 l0_3.length l0_3) (hc0_3:l0_3.length≤c0_3) (hr0_4:Kd.C k53 w A0_4 l0_4.length l0_4) (hc0_4:l0_4.length≤c0_4) (hr1_3:Kd.C k31 w A1_3 l1_3.length l1_3) (hc1_3:l1_3.length≤c1_3) (hr1_4:Kd.C k53 w A1_4 l1_4.length l1_4) (hc1_4:l1_4.length≤c1_4) (h:laws_eqExpr.f k_ a0_0 a0_1 a0_2 l0_3 l0_4 a1_0 a1_1 a1_2 l1_3 l1_4 = some r),Calls Try.prog 8 #[.agg #[.int .i64 a0_0,.int .i64 a0_1,.string a0_2,.slice A0_3 l0_3.length c0_3,.slice A0_4 l0_4.length c0_4],.agg #[.int .i64 a1_0,.int .i64 a1_1,.string a1_2,.slice A1_3 l1_3.length c1_3,.slice A1_4 l1_4.length c1_4]] w fun e w'=>e = .returned (.bool r)∧Below w.heap.size w w'):∀ (A0:Option Addr) (c0:Nat) (l0:List (S53)) (A1:Option Addr) (c1:Nat) (l1:List (S53)) (r:Bool) (w:World) (hr0:Kd.C k53 w A0 l0.length l0) (hc0:l0.length≤c0) (hr1:Kd.C k53 w A1 l1.length l1) (hc1:l1.length≤c1) (h:laws_eqClauseS.f k l0 l1 = some r),
  Calls Try.prog 16 #[.slice A0 l0.length c0,.slice A1 l1.length c1] w fun e w'=>e = .returned (.bool r)∧Below w.heap.size w w':=by
 intro A0 c0 l0 A1 c1 l1 r w hr0 hc0 hr1 hc1 h
 cases k with
 | zero=>exact absurd h (by simp [laws_eqClauseS.f])
 | succ k =>
 simp only [laws_eqClauseS.f] at h
 have hu53:=Try.underlying53
 have HR0:=Aside0.mk hr0
 have HC0:=Aside0.mk hc0
 clear hr0 hc0
 have HR1:=Aside0.mk hr1
 have HC1:=Aside0.mk hc1
 clear hr1 hc1
 have HB:=Aside0.mk (Below.refl w.heap.size w)
 have H:(if (l0.length:Int) = (l1.length:Int) then (laws_eqClauseS.l0 k l0 l1 0) else (some false)) = some r:=h
 clear h
 by_cases c3:(l0.length:Int) = (l1.length:Int)
 ·rw [if_pos c3] at H
  have c3b0:((l0.length:Int) == (l1.length:Int)) = true:=beq_iff_eq.mpr c3
  have c3b1:((l0.length:Int) != (l1.length:Int)) = false:=bne_eq_false_iff_eq.mpr c3
  have c3b2:(l0.length == l1.length) = true:=by first|simpa using c3|(simp at c3 ⊢;omega)
  clear c3
  have H':=Aside0.mk H
  clear H
  go_enter Try.func16,Try.ntmps16
  go_wp2
  go_loopg [5] k (fun kq v5 w'=>∃ (x5_1:Int),v5 = .int .i64 x5_1∧Aside0 (laws_eqClauseS.l0 kq l0 l1 x5_1 = some r)∧Aside0 (kq≤k)∧Aside0 (Below w.heap.size w w'))
  case atStart=>exact ⟨(0),(by first|rfl|(simp;done)|(simp [*];done)),H',⟨Nat.le_refl _⟩,⟨by repeat (first|(with_reducible first|exact HB.out|apply below_alloc|apply pw_below_drewN|apply below_drew1)|exact HB.out)⟩⟩
  case round =>
   clear H'
   try clear c1
   try clear p2
   try clear c3
   try clear c3b0
   try clear c3b1
   try clear c3b2
   try clear HB
   obtain ⟨x5_1,rfl,HA,HK1,HB⟩:=hrel
   cases gk with
   | zero=>exact absurd HA.out (by simp [laws_eqClauseS.l0])
   | succ k1 =>
    have H:=HA.out
    clear HA
    simp only [laws_eqClauseS.l0] at H
    by_cases c4:x5_1 < (l0.length:Int)
    ·rw [if_pos c4] at H
     have c4b0:decide (x5_1 < (l0.length:Int)) = true:=decide_eq_true c4
     clear c4
     by_cases c5:0≤x5_1
     ·rw [if_pos c5] at H
      have c5b0:decide (0≤x5_1) = true:=decide_eq_true c5
      clear c5
      by_cases c6:x5_1 < (l1.length:Int)
      ·rw [if_pos c6] at H
       have c6b0:decide (x5_1 < (l1.length:Int)) = true:=decide_eq_true c6
       clear c6
       replace H:=Option.bind_eq_some_iff.mp H
       obtain ⟨t302,A70,H⟩:=H
       replace H:(if t302 = true then (laws_eqClauseS.l0 k1 l0 l1 (wrap64 (x5_1 + 1))) else (some false)) = some r:=H
       have A7:=Aside0.mk A70
       clear A70
       by_cases c8:t302 = true
       ·subst c8
        have H1:(laws_eqClauseS.l0 k1 l0 l1 (wrap64 (x5_1 + 1))) = some r:=by rw [if_pos rfl] at H;exact H
        clear H
        have H:=H1
        clear H1
        have H':=Aside0.mk H
        clear H
        try go_wp2
        have n0_:=Aside0.mk (below_drew1 HB.out)
        clear HB
        have HB:=n0_
        clear n0_
        have p300:0≤(x5_1:Int):=of_decide_eq_true (by first|(with_reducible assumption)|assumption)
        have q300:x5_1 < (l0.length:Int):=of_decide_eq_true (by first|(with_reducible assumption)|assumption)
        obtain ⟨ad300,A300_3,c300_3,A300_4,c300_4,A300_8,c300_8,A300_9,c300_9,e300,hx300_0,hx300_1,hx300_2,hx300_3,hx300_4,hx300_5,hx300_6,hx300_7,hx300_8,hx300_9,hl300_3,hi300_3,hl300_4,hi300_4,hl300_8,hi300_8,hl300_9,hi300_9⟩:=at_T53 HR0.out x5_1 p300 q300
        have hw300_9:=hx300_9
        have hw300_8:=hx300_8
        have hw300_7:=hx300_7
        have hw300_6:=hx300_6
        have hw300_5:=hx300_5
        have hw300_4:=hx300_4
        have hw300_3:=hx300_3
        have hw300_2:=hx300_2
        have hw300_1:=hx300_1
        have hw300_0:=hx300_0
        cases e300
        replace hx300_0:=(HB.out.cell (World.block_lt_of_cell? w _ hx300_0)).trans hx300_0
        replace hx300_1:=(HB.out.cell (World.block_lt_of_cell? w _ hx300_1)).trans hx300_1
        replace hx300_2:=(HB.out.cell (World.block_lt_of_cell? w _ hx300_2)).trans hx300_2
        replace hx300_3:=(HB.out.cell (World.block_lt_of_cell? w _ hx300_3)).trans hx300_3
        replace hx300_4:=(HB.out.cell (World.block_lt_of_cell? w _ hx300_4)).trans hx300_4
        replace hx300_5:=(HB.out.cell (World.block_lt_of_cell? w _ hx300_5)).trans hx300_5
        replace hx300_6:=(HB.out.cell (World.block_lt_of_cell? w _ hx300_6)).trans hx300_6
        replace hx300_7:=(HB.out.cell (World.block_lt_of_cell? w _ hx300_7)).trans hx300_7
        replace hx300_8:=(HB.out.cell (World.block_lt_of_cell? w _ hx300_8)).trans hx300_8
        replace hx300_9:=(HB.out.cell (World.block_lt_of_cell? w _ hx300_9)).trans hx300_9
        have HR300_3:=Aside0.mk hi300_3
        have HC300_3:=Aside0.mk hl300_3
        clear hi300_3 hl300_3
        have HR300_4:=Aside0.mk hi300_4
        have HC300_4:=Aside0.mk hl300_4
        clear hi300_4 hl300_4
        have HR300_8:=Aside0.mk hi300_8
        have HC300_8:=Aside0.mk hl300_8
        clear hi300_8 hl300_8
        have HR300_9:=Aside0.mk hi300_9
        have HC300_9:=Aside0.mk hl300_9
        clear hi300_9 hl300_9
        replace p300:=eq_true p300
        replace q300:=eq_true q300
        have p301:0≤(x5_1:Int):=of_decide_eq_true (by first|(with_reducible assumption)|assumption)
        have q301:x5_1 < (l1.length:Int):=of_decide_eq_true (by first|(with_reducible assumption)|assumption)
        obtain ⟨ad301,A301_3,c301_3,A301_4,c301_4,A301_8,c301_8,A301_9,c301_9,e301,hx301_0,hx301_1,hx301_2,hx301_3,hx301_4,hx301_5,hx301_6,hx301_7,hx301_8,hx301_9,hl301_3,hi301_3,hl301_4,hi301_4,hl301_8,hi301_8,hl301_9,hi301_9⟩:=at_T53 HR1.out x5_1 p301 q301
        have hw301_9:=hx301_9
        have hw301_8:=hx301_8
        have hw301_7:=hx301_7
        have hw301_6:=hx301_6
        have hw301_5:=hx301_5
        have hw301_4:=hx301_4
        have hw301_3:=hx301_3
        have hw301_2:=hx301_2
        have hw301_1:=hx301_1
        have hw301_0:=hx301_0
        cases e301
        replace hx301_0:=(HB.out.cell (World.block_lt_of_cell? w _ hx301_0)).trans hx301_0
        replace hx301_1:=(HB.out.cell (World.block_lt_of_cell? w _ hx301_1)).trans hx301_1
        replace hx301_2:=(HB.out.cell (World.block_lt_of_cell? w _ hx301_2)).trans hx301_2
        replace hx301_3:=(HB.out.cell (World.block_lt_of_cell? w _ hx301_3)).trans hx301_3
        replace hx301_4:=(HB.out.cell (World.block_lt_of_cell? w _ hx301_4)).trans hx301_4
        replace hx301_5:=(HB.out.cell (World.block_lt_of_cell? w _ hx301_5)).trans hx301_5
        replace hx301_6:=(HB.out.cell (World.block_lt_of_cell? w _ hx301_6)).trans hx301_6
        replace hx301_7:=(HB.out.cell (World.block_lt_of_cell? w _ hx301_7)).trans hx301_7
        replace hx301_8:=(HB.out.cell (World.block_lt_of_cell? w _ hx301_8)).trans hx301_8
        replace hx301_9:=(HB.out.cell (World.block_lt_of_cell? w _ hx301_9)).trans hx301_9
        have HR301_3:=Aside0.mk hi301_3
        have HC301_3:=Aside0.mk hl301_3
        clear hi301_3 hl301_3
        have HR301_4:=Aside0.mk hi301_4
        have HC301_4:=Aside0.mk hl301_4
        clear hi301_4 hl301_4
        have HR301_8:=Aside0.mk hi301_8
        have HC301_8:=Aside0.mk hl301_8
        clear hi301_8 hl301_8
        have HR301_9:=Aside0.mk hi301_9
        have HC301_9:=Aside0.mk hl301_9
        clear hi301_9 hl301_9
        replace p301:=eq_true p301
        replace q301:=eq_true q301
        refine start_ (n:=10) (S:=fun w'=>w'.cell? (ad300.add ((x5_1).toNat * 10)) = some (.int .i64 ((rd_T53 l0 x5_1).f0.f0))∧w'.cell? ⟨(ad300.add ((x5_1).toNat * 10)).block,(ad300.add ((x5_1).toNat * 10)).off + 1,none⟩ = some (.int .i64 ((rd_T53 l0 x5_1).f0.f1))∧w'.cell? ⟨(ad300.add ((x5_1).toNat * 10)).block,(ad300.add ((x5_1).toNat * 10)).off + 2,none⟩ = some (.string ((rd_T53 l0 x5_1).f0.f2))∧w'.cell? ⟨(ad300.add ((x5_1).toNat * 10)).block,(ad300.add ((x5_1).toNat * 10)).off + 3,none⟩ = some (.slice A300_3 ((rd_T53 l0 x5_1).f0.f3).length c300_3)∧w'.cell? ⟨(ad300.add ((x5_1).toNat * 10)).block,(ad300.add ((x5_1).toNat * 10)).off + 4,none⟩ = some (.slice A300_4 ((rd_T53 l0 x5_1).f0.f4).length c300_4)∧w'.cell? ⟨(ad300.add ((x5_1).toNat * 10)).block,(ad300.add ((x5_1).toNat * 10)).off + 5,none⟩ = some (.int .i64 ((rd_T53 l0 x5_1).f1.f0))∧w'.cell? ⟨(ad300.add ((x5_1).toNat * 10)).block,(ad300.add ((x5_1).toNat * 10)).off + 6,none⟩ = some (.int .i64 ((rd_T53 l0 x5_1).f1.f1))∧w'.cell? ⟨(ad300.add ((x5_1).toNat * 10)).block,(ad300.add ((x5_1).toNat * 10)).off + 7,none⟩ = some (.string ((rd_T53 l0 x5_1).f1.f2))∧w'.cell? ⟨(ad300.add ((x5_1).toNat * 10)).block,(ad300.add ((x5_1).toNat * 10)).off + 8,none⟩ = some (.slice A300_8 ((rd_T53 l0 x5_1).f1.f3).length c300_8)∧w'.cell? ⟨(ad300.add ((x5_1).toNat * 10)).block,(ad300.add ((x5_1).toNat * 10)).off + 9,none⟩ = some (.slice A300_9 ((rd_T53 l0 x5_1).f1.f4).length c300_9)∧w'.cell? (ad301.add ((x5_1).toNat * 10)) = some (.int .i64 ((rd_T53 l1 x5_1).f0.f0))∧w'.cell? ⟨(ad301.add ((x5_1).toNat * 10)).block,(ad301.add ((x5_1).toNat * 10)).off + 1,none⟩ = some (.int .i64 ((rd_T53 l1 x5_1).f0.f1))∧w'.cell? ⟨(ad301.add ((x5_1).toNat * 10)).block,(ad301.add ((x5_1).toNat * 10)).off + 2,none⟩ = some (.string ((rd_T53 l1 x5_1).f0.f2))∧w'.cell? ⟨(ad301.add ((x5_1).toNat * 10)).block,(ad301.add ((x5_1).toNat * 10)).off + 3,none⟩ = some (.slice A301_3 ((rd_T53 l1 x5_1).f0.f3).length c301_3)∧w'.cell? ⟨(ad301.add ((x5_1).toNat * 10)).block,(ad301.add ((x5_1).toNat * 10)).off + 4,none⟩ = some (.slice A301_4 ((rd_T53 l1 x5_1).f0.f4).length c301_4)∧w'.cell? ⟨(ad301.add ((x5_1).toNat * 10)).block,(ad301.add ((x5_1).toNat * 10)).off + 5,none⟩ = some (.int .i64 ((rd_T53 l1 x5_1).f1.f0))∧w'.cell? ⟨(ad301.add ((x5_1).toNat * 10)).block,(ad301.add ((x5_1).toNat * 10)).off + 6,none⟩ = some (.int .i64 ((rd_T53 l1 x5_1).f1.f1))∧w'.cell? ⟨(ad301.add ((x5_1).toNat * 10)).block,(ad301.add ((x5_1).toNat * 10)).off + 7,none⟩ = some (.string ((rd_T53 l1 x5_1).f1.f2))∧w'.cell? ⟨(ad301.add ((x5_1).toNat * 10)).block,(ad301.add ((x5_1).toNat * 10)).off + 8,none⟩ = some (.slice A301_8 ((rd_T53 l1 x5_1).f1.f3).length c301_8)∧w'.cell? ⟨(ad301.add ((x5_1).toNat * 10)).block,(ad301.add ((x5_1).toNat * 10)).off + 9,none⟩ = some (.slice A301_9 ((rd_T53 l1 x5_1).f1.f4).length c301_9)) (ds:=[]) #[false,false,false,false,false,false,false,false,false,false] (by kernel_rfl) rfl rfl ⟨((HB.out.cell (World.block_lt_of_cell? w _ hw300_0)).trans hw300_0),((HB.out.cell (World.block_lt_of_cell? w _ hw300_1)).trans hw300_1),((HB.out.cell (World.block_lt_of_cell? w _ hw300_2)).trans hw300_2),((HB.out.cell (World.block_lt_of_cell? w _ hw300_3)).trans hw300_3),((HB.out.cell (World.block_lt_of_cell? w _ hw300_4)).trans hw300_4),((HB.out.cell (World.block_lt_of_cell? w _ hw300_5)).trans hw300_5),((HB.out.cell (World.block_lt_of_cell? w _ hw300_6)).trans hw300_6),((HB.out.cell (World.block_lt_of_cell? w _ hw300_7)).trans hw300_7),((HB.out.cell (World.block_lt_of_cell? w _ hw300_8)).trans hw300_8),((HB.out.cell (World.block_lt_of_cell? w _ hw300_9)).trans hw300_9),((HB.out.cell (World.block_lt_of_cell? w _ hw301_0)).trans hw301_0),((HB.out.cell (World.block_lt_of_cell? w _ hw301_1)).trans hw301_1),((HB.out.cell (World.block_lt_of_cell? w _ hw301_2)).trans hw301_2),((HB.out.cell (World.block_lt_of_cell? w _ hw301_3)).trans hw301_3),((HB.out.cell (World.block_lt_of_cell? w _ hw301_4)).trans hw301_4),((HB.out.cell (World.block_lt_of_cell? w _ hw301_5)).trans hw301_5),((HB.out.cell (World.block_lt_of_cell? w _ hw301_6)).trans hw301_6),((HB.out.cell (World.block_lt_of_cell? w _ hw301_7)).trans hw301_7),((HB.out.cell (World.block_lt_of_cell? w _ hw301_8)).trans hw301_8),((HB.out.cell (World.block_lt_of_cell? w _ hw301_9)).trans hw301_9)⟩ (fun hHeld=>?_);refine with_tabW laws_eqClauseS.tab6 laws_eqClauseS.bits6 (fun HT_ HW_=>?_)
        generalize wr.drew = w9 at HB HR300_3 HR300_4 HR300_8 HR300_9 HR301_3 HR301_4 HR301_8 HR301_9 hx300_0 hx300_1 hx300_2 hx300_3 hx300_4 hx300_5 hx300_6 hx300_7 hx300_8 hx300_9 hx301_0 hx301_1 hx301_2 hx301_3 hx301_4 hx301_5 hx301_6 hx301_7 hx301_8 hx301_9 hHeld ⊢
        refine pure_ (i:=0) (N:=some 17) (v:=?_) (a':=?_) #[true,false,false,false,false,false,false,false,false,false] rfl rfl (any_of HT_.out (by kernel_rfl)) (fun _ _ _ h=>h) (Or.inl ⟨by rfl,?_⟩) ?_ ?_
        rotate_left
        ·intro w'
         go_simp
         with_reducible rfl
        rotate_left
        ·simp only [Act.put,List.setIfInBounds_toArray,List.set_cons_zero,List.set_cons_succ,i64_w,i32_w]
         rfl
        refine pure_ (i:=1) (N:=some 18) (v:=?_) (a':=?_) #[true,true,false,false,false,false,false,false,false,false] rfl rfl (any_of HT_.out (by kernel_rfl)) (fun _ _ _ h=>h) (Or.inl ⟨by rfl,?_⟩) ?_ ?_
        rotate_left
        ·intro w'
         go_simp
         with_reducible rfl
        rotate_left
        ·simp only [Act.put,List.setIfInBounds_toArray,List.set_cons_zero,List.set_cons_succ,i64_w,i32_w]
         rfl
        refine pure_ (i:=2) (N:=some 19) (v:=?_) (a':=?_) #[true,true,true,false,false,false,false,false,false,false] rfl rfl (any_of HT_.out (by kernel_rfl)) (fun _ _ _ h=>h) (Or.inl ⟨by rfl,?_⟩) ?_ ?_
        rotate_left
        ·intro w'
         go_simp
         with_reducible rfl
        rotate_left
        ·simp only [Act.put,List.setIfInBounds_toArray,List.set_cons_zero,List.set_cons_succ,i64_w,i32_w]
         rfl
        refine pure_ (i:=4) (N:=some 21) (v:=?_) (a':=?_) #[true,true,true,false,true,false,false,false,false,false] rfl rfl (any_of HT_.out (by kernel_rfl)) (fun _ _ _ h=>h) (Or.inl ⟨by rfl,?_⟩) ?_ ?_
        rotate_left
        ·intro w'
         go_simp
         with_reducible rfl
        rotate_left
        ·simp only [Act.put,List.setIfInBounds_toArray,List.set_cons_zero,List.set_cons_succ,i64_w,i32_w]
         rfl
        refine pure_ (i:=5) (N:=some 22) (v:=?_) (a':=?_) #[true,true,true,false,true,true,false,false,false,false] rfl rfl (any_of HT_.out (by kernel_rfl)) (fun _ _ _ h=>h) (Or.inl ⟨by rfl,?_⟩) ?_ ?_
        rotate_left
        ·intro w'
         go_simp
         with_reducible rfl
        rotate_left
        ·simp only [Act.put,List.setIfInBounds_toArray,List.set_cons_zero,List.set_cons_succ,i64_w,i32_w]
         rfl
        refine pure_ (i:=6) (N:=some 23) (v:=?_) (a':=?_) #[true,true,true,false,true,true,true,false,false,false] rfl rfl (any_of HT_.out (by kernel_rfl)) (fun _ _ _ h=>h) (Or.inl ⟨by rfl,?_⟩) ?_ ?_
        rotate_left
        ·intro w'
         go_simp
         with_reducible rfl
        rotate_left
        ·simp only [Act.put,List.setIfInBounds_toArray,List.set_cons_zero,List.set_cons_succ,i64_w,i32_w]
         rfl
        refine take_ (i:=3) (N:=some 20) (v:=?_) (a':=?_) #[true,true,true,true,true,true,true,false,false,false] rfl rfl (take_ofW HT_.out HW_.out (by kernel_rfl)) (fun _ _ _ h=>h) (Or.inl ⟨by rfl,?_⟩) hHeld ?_ ?_
        rotate_left
        ·rintro w' ⟨s0,s1,s2,s3,s4,s5,s6,s7,s8,s9,s10,s11,s12,s13,s14,s15,s16,s17,s18,s19⟩
         go_simp
         with_reducible rfl
        rotate_left
        ·simp only [Act.put,List.setIfInBounds_toArray,List.set_cons_zero,List.set_cons_succ,i64_w,i32_w]
         rfl
        refine take_ (i:=7) (N:=some 24) (v:=?_) (a':=?_) #[true,true,true,true,true,true,true,true,false,false] rfl rfl (take_ofW HT_.out HW_.out (by kernel_rfl)) (fun _ _ _ h=>h) (Or.inl ⟨by rfl,?_⟩) hHeld ?_ ?_
        rotate_left
        ·rintro w' ⟨s0,s1,s2,s3,s4,s5,s6,s7,s8,s9,s10,s11,s12,s13,s14,s15,s16,s17,s18,s19⟩
         go_simp
         with_reducible rfl
        rotate_left
        ·simp only [Act.put,List.setIfInBounds_toArray,List.set_cons_zero,List.set_cons_succ,i64_w,i32_w]
         rfl
        refine one_ (i:=8) (N:=some 25) #[true,true,true,true,true,true,true,true,true,false] rfl rfl (one_of HT_.out (by kernel_rfl)) (by decide) (fun K hK=>?_)
        refine goes_ Try.func24 (by kernel_rfl) rfl #[.agg #[.int .i64 ((rd_T53 l0 x5_1).f0.f0),.int .i64 ((rd_T53 l0 x5_1).f0.f1),.string ((rd_T53 l0 x5_1).f0.f2),.slice A300_3 ((rd_T53 l0 x5_1).f0.f3).length c300_3,.slice A300_4 ((rd_T53 l0 x5_1).f0.f4).length c300_4,.int .i64 ((rd_T53 l0 x5_1).f1.f0),.int .i64 ((rd_T53 l0 x5_1).f1.f1),.string ((rd_T53 l0 x5_1).f1.f2),.slice A300_8 ((rd_T53 l0 x5_1).f1.f3).length c300_8,.slice A300_9 ((rd_T53 l0 x5_1).f1.f4).length c300_9],.agg #[.int .i64 ((rd_T53 l1 x5_1).f0.f0),.int .i64 ((rd_T53 l1 x5_1).f0.f1),.string ((rd_T53 l1 x5_1).f0.f2),.slice A301_3 ((rd_T53 l1 x5_1).f0.f3).length c301_3,.slice A301_4 ((rd_T53 l1 x5_1).f0.f4).length c301_4,.int .i64 ((rd_T53 l1 x5_1).f1.f0),.int .i64 ((rd_T53 l1 x5_1).f1.f1),.string ((rd_T53 l1 x5_1).f1.f2),.slice A301_8 ((rd_T53 l1 x5_1).f1.f3).length c301_8,.slice A301_9 ((rd_T53 l1 x5_1).f1.f4).length c301_9]] (by rfl) rfl rfl (by (try simp only [List.map_toArray,List.map_cons,List.map_nil]);first|done|rfl|(simp only [List.length_drop,List.length_take];rfl)) ?_
        with_reducible refine (ih_laws_eqClause k1 (by have:=HK1.out;omega) ((rd_T53 l0 x5_1).f0.f0) ((rd_T53 l0 x5_1).f0.f1) ((rd_T53 l0 x5_1).f0.f2) _ _ ((rd_T53 l0 x5_1).f0.f3) _ _ ((rd_T53 l0 x5_1).f0.f4) ((rd_T53 l0 x5_1).f1.f0) ((rd_T53 l0 x5_1).f1.f1) ((rd_T53 l0 x5_1).f1.f2) _ _ ((rd_T53 l0 x5_1).f1.f3) _ _ ((rd_T53 l0 x5_1).f1.f4) ((rd_T53 l1 x5_1).f0.f0) ((rd_T53 l1 x5_1).f0.f1) ((rd_T53 l1 x5_1).f0.f2) _ _ ((rd_T53 l1 x5_1).f0.f3) _ _ ((rd_T53 l1 x5_1).f0.f4) ((rd_T53 l1 x5_1).f1.f0) ((rd_T53 l1 x5_1).f1.f1) ((rd_T53 l1 x5_1).f1.f2) _ _ ((rd_T53 l1 x5_1).f1.f3) _ _ ((rd_T53 l1 x5_1).f1.f4) true _ ?side1 ?side2 ?side3 ?side4 ?side5 ?side6 ?side7 ?side8 ?side9 ?side10 ?side11 ?side12 ?side13 ?side14 ?side15 ?side16 A7.out).mono ?_
        (case side1=>repeat (first|exact (Kd.C_below HR300_3.out HB.out)|(with_reducible refine Kd.C_alloc ?_ _)|(with_reducible refine Kd.C_drewN ?_ _)|(with_reducible refine Kd.C_drew ?_)))
        (case side2=>exact HC300_3.out)
        (case side3=>repeat (first|exact (Kd.C_below HR300_4.out HB.out)|(with_reducible refine Kd.C_alloc ?_ _)|(with_reducible refine Kd.C_drewN ?_ _)|(with_reducible refine Kd.C_drew ?_)))
        (case side4=>exact HC300_4.out)
        (case side5=>repeat (first|exact (Kd.C_below HR300_8.out HB.out)|(with_reducible refine Kd.C_alloc ?_ _)|(with_reducible refine Kd.C_drewN ?_ _)|(with_reducible refine Kd.C_drew ?_)))
        (case side6=>exact HC300_8.out)
        (case side7=>repeat (first|exact (Kd.C_below HR300_9.out HB.out)|(with_reducible refine Kd.C_alloc ?_ _)|(with_reducible refine Kd.C_drewN ?_ _)|(with_reducible refine Kd.C_drew ?_)))
        (case side8=>exact HC300_9.out)
        (case side9=>repeat (first|exact (Kd.C_below HR301_3.out HB.out)|(with_reducible refine Kd.C_alloc ?_ _)|(with_reducible refine Kd.C_drewN ?_ _)|(with_reducible refine Kd.C_drew ?_)))
        (case side10=>exact HC301_3.out)
        (case side11=>repeat (first|exact (Kd.C_below HR301_4.out HB.out)|(with_reducible refine Kd.C_alloc ?_ _)|(with_reducible refine Kd.C_drewN ?_ _)|(with_reducible refine Kd.C_drew ?_)))
        (case side12=>exact HC301_4.out)
        (case side13=>repeat (first|exact (Kd.C_below HR301_8.out HB.out)|(with_reducible refine Kd.C_alloc ?_ _)|(with_reducible refine Kd.C_drewN ?_ _)|(with_reducible refine Kd.C_drew ?_)))
        (case side14=>exact HC301_8.out)
        (case side15=>repeat (first|exact (Kd.C_below HR301_9.out HB.out)|(with_reducible refine Kd.C_alloc ?_ _)|(with_reducible refine Kd.C_drewN ?_ _)|(with_reducible refine Kd.C_drew ?_)))
        (case side16=>exact HC301_9.out)
        rintro e w10 ⟨rfl,hb⟩
        refine ⟨_,rfl,?_⟩
        have n0_:=Aside0.mk (below_step (by repeat (first|(with_reducible first|exact HB.out|apply below_alloc|apply pw_below_drewN|apply below_drew1)|exact HB.out)) hb)
        clear HB
        have HB:=n0_
        clear n0_
        (try clear hb)
        (try clear hb2)
        (try clear hk)
        (try clear hi)
        refine hK.out _ _ ⟨((HB.out.cell (World.block_lt_of_cell? w _ hw300_0)).trans hw300_0),((HB.out.cell (World.block_lt_of_cell? w _ hw300_1)).trans hw300_1),((HB.out.cell (World.block_lt_of_cell? w _ hw300_2)).trans hw300_2),((HB.out.cell (World.block_lt_of_cell? w _ hw300_3)).trans hw300_3),((HB.out.cell (World.block_lt_of_cell? w _ hw300_4)).trans hw300_4),((HB.out.cell (World.block_lt_of_cell? w _ hw300_5)).trans hw300_5),((HB.out.cell (World.block_lt_of_cell? w _ hw300_6)).trans hw300_6),((HB.out.cell (World.block_lt_of_cell? w _ hw300_7)).trans hw300_7),((HB.out.cell (World.block_lt_of_cell? w _ hw300_8)).trans hw300_8),((HB.out.cell (World.block_lt_of_cell? w _ hw300_9)).trans hw300_9),((HB.out.cell (World.block_lt_of_cell? w _ hw301_0)).trans hw301_0),((HB.out.cell (World.block_lt_of_cell? w _ hw301_1)).trans hw301_1),((HB.out.cell (World.block_lt_of_cell? w _ hw301_2)).trans hw301_2),((HB.out.cell (World.block_lt_of_cell? w _ hw301_3)).trans hw301_3),((HB.out.cell (World.block_lt_of_cell? w _ hw301_4)).trans hw301_4),((HB.out.cell (World.block_lt_of_cell? w _ hw301_5)).trans hw301_5),((HB.out.cell (World.block_lt_of_cell? w _ hw301_6)).trans hw301_6),((HB.out.cell (World.block_lt_of_cell? w _ hw301_7)).trans hw301_7),((HB.out.cell (World.block_lt_of_cell? w _ hw301_8)).trans hw301_8),((HB.out.cell (World.block_lt_of_cell? w _ hw301_9)).trans hw301_9)⟩ (fun hHeld=>?_)
        clear hK K
        refine norm_ (a':=?_) ?_ ?_
        rotate_left
        ·show Act.put _ (some 25) _ = _
         simp only [Act.put,List.setIfInBounds_toArray,List.set_cons_zero,List.set_cons_succ,i64_w,i32_w]
         rfl
        refine pure_ (i:=9) (N:=some 26) (v:=?_) (a':=?_) #[true,true,true,true,true,true,true,true,true,true] rfl rfl (any_of HT_.out (by kernel_rfl)) (fun _ _ _ h=>h) (Or.inl ⟨by rfl,?_⟩) ?_ ?_
        rotate_left
        ·intro w'
         go_simp
         with_reducible rfl
        rotate_left
        ·simp only [Act.put,List.setIfInBounds_toArray,List.set_cons_zero,List.set_cons_succ,i64_w,i32_w]
         rfl
        refine done_ (done_of HT_.out (by kernel_rfl)) ?_
        try go_wp2
        go_roundg k1
        case measure=>have:=HK1.out;omega
        case rel=>exact ⟨(wrap64 (x5_1 + 1)),(by first|rfl|(simp;done)|(simp [*];done)),H',⟨by have:=HK1.out;omega⟩,⟨by repeat (first|(with_reducible first|exact HB.out|apply below_alloc|apply pw_below_drewN|apply below_drew1)|exact HB.out)⟩⟩
       ·replace c8:=Bool.eq_false_iff.mpr c8
        subst c8
        have H1:(some false) = some r:=by rw [if_neg (show ¬ (false = true) by decide)] at H;exact H
        clear H
        have H:=H1
        clear H1
        obtain rfl:=Option.some.inj H
        try go_wp2
        have n0_:=Aside0.mk (below_drew1 HB.out)
        clear HB
        have HB:=n0_
        clear n0_
        have p300:0≤(x5_1:Int):=of_decide_eq_true (by first|(with_reducible assumption)|assumption)
        have q300:x5_1 < (l0.length:Int):=of_decide_eq_true (by first|(with_reducible assumption)|assumption)
        obtain ⟨ad300,A300_3,c300_3,A300_4,c300_4,A300_8,c300_8,A300_9,c300_9,e300,hx300_0,hx300_1,hx300_2,hx300_3,hx300_4,hx300_5,hx300_6,hx300_7,hx300_8,hx300_9,hl300_3,hi300_3,hl300_4,hi300_4,hl300_8,hi300_8,hl300_9,hi300_9⟩:=at_T53 HR0.out x5_1 p300 q300
        have hw300_9:=hx300_9
        have hw300_8:=hx300_8
        have hw300_7:=hx300_7
        have hw300_6:=hx300_6
        have hw300_5:=hx300_5
        have hw300_4:=hx300_4
        have hw300_3:=hx300_3
        have hw300_2:=hx300_2
        have hw300_1:=hx300_1
        have hw300_0:=hx300_0
        cases e300
        replace hx300_0:=(HB.out.cell (World.block_lt_of_cell? w _ hx300_0)).trans hx300_0
        replace hx300_1:=(HB.out.cell (World.block_lt_of_cell? w _ hx300_1)).trans hx300_1
        replace hx300_2:=(HB.out.cell (World.block_lt_of_cell? w _ hx300_2)).trans hx300_2
        replace hx300_3:=(HB.out.cell (World.block_lt_of_cell? w _ hx300_3)).trans hx300_3
        replace hx300_4:=(HB.out.cell (World.block_lt_of_cell? w _ hx300_4)).trans hx300_4
        replace hx300_5:=(HB.out.cell (World.block_lt_of_cell? w _ hx300_5)).trans hx300_5
        replace hx300_6:=(HB.out.cell (World.block_lt_of_cell? w _ hx300_6)).trans hx300_6
        replace hx300_7:=(HB.out.cell (World.block_lt_of_cell? w _ hx300_7)).trans hx300_7
        replace hx300_8:=(HB.out.cell (World.block_lt_of_cell? w _ hx300_8)).trans hx300_8
        replace hx300_9:=(HB.out.cell (World.block_lt_of_cell? w _ hx300_9)).trans hx300_9
        have HR300_3:=Aside0.mk hi300_3
        have HC300_3:=Aside0.mk hl300_3
        clear hi300_3 hl300_3
        have HR300_4:=Aside0.mk hi300_4
        have HC300_4:=Aside0.mk hl300_4
        clear hi300_4 hl300_4
        have HR300_8:=Aside0.mk hi300_8
        have HC300_8:=Aside0.mk hl300_8
        clear hi300_8 hl300_8
        have HR300_9:=Aside0.mk hi300_9
        have HC300_9:=Aside0.mk hl300_9
        clear hi300_9 hl300_9
        replace p300:=eq_true p300
        replace q300:=eq_true q300
        have p301:0≤(x5_1:Int):=of_decide_eq_true (by first|(with_reducible assumption)|assumption)
        have q301:x5_1 < (l1.length:Int):=of_decide_eq_true (by first|(with_reducible assumption)|assumption)
        obtain ⟨ad301,A301_3,c301_3,A301_4,c301_4,A301_8,c301_8,A301_9,c301_9,e301,hx301_0,hx301_1,hx301_2,hx301_3,hx301_4,hx301_5,hx301_6,hx301_7,hx301_8,hx301_9,hl301_3,hi301_3,hl301_4,hi301_4,hl301_8,hi301_8,hl301_9,hi301_9⟩:=at_T53 HR1.out x5_1 p301 q301
        have hw301_9:=hx301_9
        have hw301_8:=hx301_8
        have hw301_7:=hx301_7
        have hw301_6:=hx301_6
        have hw301_5:=hx301_5
        have hw301_4:=hx301_4
        have hw301_3:=hx301_3
        have hw301_2:=hx301_2
        have hw301_1:=hx301_1
        have hw301_0:=hx301_0
        cases e301
        replace hx301_0:=(HB.out.cell (World.block_lt_of_cell? w _ hx301_0)).trans hx301_0
        replace hx301_1:=(HB.out.cell (World.block_lt_of_cell? w _ hx301_1)).trans hx301_1
        replace hx301_2:=(HB.out.cell (World.block_lt_of_cell? w _ hx301_2)).trans hx301_2
        replace hx301_3:=(HB.out.cell (World.block_lt_of_cell? w _ hx301_3)).trans hx301_3
        replace hx301_4:=(HB.out.cell (World.block_lt_of_cell? w _ hx301_4)).trans hx301_4
        replace hx301_5:=(HB.out.cell (World.block_lt_of_cell? w _ hx301_5)).trans hx301_5
        replace hx301_6:=(HB.out.cell (World.block_lt_of_cell? w _ hx301_6)).trans hx301_6
        replace hx301_7:=(HB.out.cell (World.block_lt_of_cell? w _ hx301_7)).trans hx301_7
        replace hx301_8:=(HB.out.cell (World.block_lt_of_cell? w _ hx301_8)).trans hx301_8
        replace hx301_9:=(HB.out.cell (World.block_lt_of_cell? w _ hx301_9)).trans hx301_9
        have HR301_3:=Aside0.mk hi301_3
        have HC301_3:=Aside0.mk hl301_3
        clear hi301_3 hl301_3
        have HR301_4:=Aside0.mk hi301_4
        have HC301_4:=Aside0.mk hl301_4
        clear hi301_4 hl301_4
        have HR301_8:=Aside0.mk hi301_8
        have HC301_8:=Aside0.mk hl301_8
        clear hi301_8 hl301_8
        have HR301_9:=Aside0.mk hi301_9
        have HC301_9:=Aside0.mk hl301_9
        clear hi301_9 hl301_9
        replace p301:=eq_true p301
        replace q301:=eq_true q301
        refine start_ (n:=10) (S:=fun w'=>w'.cell? (ad300.add ((x5_1).toNat * 10)) = some (.int .i64 ((rd_T53 l0 x5_1).f0.f0))∧w'.cell? ⟨(ad300.add ((x5_1).toNat * 10)).block,(ad300.add ((x5_1).toNat * 10)).off + 1,none⟩ = some (.int .i64 ((rd_T53 l0 x5_1).f0.f1))∧w'.cell? ⟨(ad300.add ((x5_1).toNat * 10)).block,(ad300.add ((x5_1).toNat * 10)).off + 2,none⟩ = some (.string ((rd_T53 l0 x5_1).f0.f2))∧w'.cell? ⟨(ad300.add ((x5_1).toNat * 10)).block,(ad300.add ((x5_1).toNat * 10)).off + 3,none⟩ = some (.slice A300_3 ((rd_T53 l0 x5_1).f0.f3).length c300_3)∧w'.cell? ⟨(ad300.add ((x5_1).toNat * 10)).block,(ad300.add ((x5_1).toNat * 10)).off + 4,none⟩ = some (.slice A300_4 ((rd_T53 l0 x5_1).f0.f4).length c300_4)∧w'.cell? ⟨(ad300.add ((x5_1).toNat * 10)).block,(ad300.add ((x5_1).toNat * 10)).off + 5,none⟩ = some (.int .i64 ((rd_T53 l0 x5_1).f1.f0))∧w'.cell? ⟨(ad300.add ((x5_1).toNat * 10)).block,(ad300.add ((x5_1).toNat * 10)).off + 6,none⟩ = some (.int .i64 ((rd_T53 l0 x5_1).f1.f1))∧w'.cell? ⟨(ad300.add ((x5_1).toNat * 10)).block,(ad300.add ((x5_1).toNat * 10)).off + 7,none⟩ = some (.string ((rd_T53 l0 x5_1).f1.f2))∧w'.cell? ⟨(ad300.add ((x5_1).toNat * 10)).block,(ad300.add ((x5_1).toNat * 10)).off + 8,none⟩ = some (.slice A300_8 ((rd_T53 l0 x5_1).f1.f3).length c300_8)∧w'.cell? ⟨(ad300.add ((x5_1).toNat * 10)).block,(ad300.add ((x5_1).toNat * 10)).off + 9,none⟩ = some (.slice A300_9 ((rd_T53 l0 x5_1).f1.f4).length c300_9)∧w'.cell? (ad301.add ((x5_1).toNat * 10)) = some (.int .i64 ((rd_T53 l1 x5_1).f0.f0))∧w'.cell? ⟨(ad301.add ((x5_1).toNat * 10)).block,(ad301.add ((x5_1).toNat * 10)).off + 1,none⟩ = some (.int .i64 ((rd_T53 l1 x5_1).f0.f1))∧w'.cell? ⟨(ad301.add ((x5_1).toNat * 10)).block,(ad301.add ((x5_1).toNat * 10)).off + 2,none⟩ = some (.string ((rd_T53 l1 x5_1).f0.f2))∧w'.cell? ⟨(ad301.add ((x5_1).toNat * 10)).block,(ad301.add ((x5_1).toNat * 10)).off + 3,none⟩ = some (.slice A301_3 ((rd_T53 l1 x5_1).f0.f3).length c301_3)∧w'.cell? ⟨(ad301.add ((x5_1).toNat * 10)).block,(ad301.add ((x5_1).toNat * 10)).off + 4,none⟩ = some (.slice A301_4 ((rd_T53 l1 x5_1).f0.f4).length c301_4)∧w'.cell? ⟨(ad301.add ((x5_1).toNat * 10)).block,(ad301.add ((x5_1).toNat * 10)).off + 5,none⟩ = some (.int .i64 ((rd_T53 l1 x5_1).f1.f0))∧w'.cell? ⟨(ad301.add ((x5_1).toNat * 10)).block,(ad301.add ((x5_1).toNat * 10)).off + 6,none⟩ = some (.int .i64 ((rd_T53 l1 x5_1).f1.f1))∧w'.cell? ⟨(ad301.add ((x5_1).toNat * 10)).block,(ad301.add ((x5_1).toNat * 10)).off + 7,none⟩ = some (.string ((rd_T53 l1 x5_1).f1.f2))∧w'.cell? ⟨(ad301.add ((x5_1).toNat * 10)).block,(ad301.add ((x5_1).toNat * 10)).off + 8,none⟩ = some (.slice A301_8 ((rd_T53 l1 x5_1).f1.f3).length c301_8)∧w'.cell? ⟨(ad301.add ((x5_1).toNat * 10)).block,(ad301.add ((x5_1).toNat * 10)).off + 9,none⟩ = some (.slice A301_9 ((rd_T53 l1 x5_1).f1.f4).length c301_9)) (ds:=[]) #[false,false,false,false,false,false,false,false,false,false] (by kernel_rfl) rfl rfl ⟨((HB.out.cell (World.block_lt_of_cell? w _ hw300_0)).trans hw300_0),((HB.out.cell (World.block_lt_of_cell? w _ hw300_1)).trans hw300_1),((HB.out.cell (World.block_lt_of_cell? w _ hw300_2)).trans hw300_2),((HB.out.cell (World.block_lt_of_cell? w _ hw300_3)).trans hw300_3),((HB.out.cell (World.block_lt_of_cell? w _ hw300_4)).trans hw300_4),((HB.out.cell (World.block_lt_of_cell? w _ hw300_5)).trans hw300_5),((HB.out.cell (World.block_lt_of_cell? w _ hw300_6)).trans hw300_6),((HB.out.cell (World.block_lt_of_cell? w _ hw300_7)).trans hw300_7),((HB.out.cell (World.block_lt_of_cell? w _ hw300_8)).trans hw300_8),((HB.out.cell (World.block_lt_of_cell? w _ hw300_9)).trans hw300_9),((HB.out.cell (World.block_lt_of_cell? w _ hw301_0)).trans hw301_0),((HB.out.cell (World.block_lt_of_cell? w _ hw301_1)).trans hw301_1),((HB.out.cell (World.block_lt_of_cell? w _ hw301_2)).trans hw301_2),((HB.out.cell (World.block_lt_of_cell? w _ hw301_3)).trans hw301_3),((HB.out.cell (World.block_lt_of_cell? w _ hw301_4)).trans hw301_4),((HB.out.cell (World.block_lt_of_cell? w _ hw301_5)).trans hw301_5),((HB.out.cell (World.block_lt_of_cell? w _ hw301_6)).trans hw301_6),((HB.out.cell (World.block_lt_of_cell? w _ hw301_7)).trans hw301_7),((HB.out.cell (World.block_lt_of_cell? w _ hw301_8)).trans hw301_8),((HB.out.cell (World.block_lt_of_cell? w _ hw301_9)).trans hw301_9)⟩ (fun hHeld=>?_);refine with_tabW laws_eqClauseS.tab6 laws_eqClauseS.bits6 (fun HT_ HW_=>?_)
        generalize wr.drew = w11 at HB HR300_3 HR300_4 HR300_8 HR300_9 HR301_3 HR301_4 HR301_8 HR301_9 hx300_0 hx300_1 hx300_2 hx300_3 hx300_4 hx300_5 hx300_6 hx300_7 hx300_8 hx300_9 hx301_0 hx301_1 hx301_2 hx301_3 hx301_4 hx301_5 hx301_6 hx301_7 hx301_8 hx301_9 hHeld ⊢
        refine pure_ (i:=0) (N:=some 17) (v:=?_) (a':=?_) #[true,false,false,false,false,false,false,false,false,false] rfl rfl (any_of HT_.out (by kernel_rfl)) (fun _ _ _ h=>h) (Or.inl ⟨by rfl,?_⟩) ?_ ?_
        rotate_left
        ·intro w'
         go_simp
         with_reducible rfl
        rotate_left
        ·simp only [Act.put,List.setIfInBounds_toArray,List.set_cons_zero,List.set_cons_succ,i64_w,i32_w]
         rfl
        refine pure_ (i:=1) (N:=some 18) (v:=?_) (a':=?_) #[true,true,false,false,false,false,false,false,false,false] rfl rfl (any_of HT_.out (by kernel_rfl)) (fun _ _ _ h=>h) (Or.inl ⟨by rfl,?_⟩) ?_ ?_
        rotate_left
        ·intro w'
         go_simp
         with_reducible rfl
        rotate_left
        ·simp only [Act.put,List.setIfInBounds_toArray,List.set_cons_zero,List.set_cons_succ,i64_w,i32_w]
         rfl
        refine pure_ (i:=2) (N:=some 19) (v:=?_) (a':=?_) #[true,true,true,false,false,false,false,false,false,false] rfl rfl (any_of HT_.out (by kernel_rfl)) (fun _ _ _ h=>h) (Or.inl ⟨by rfl,?_⟩) ?_ ?_
        rotate_left
        ·intro w'
         go_simp
         with_reducible rfl
        rotate_left
        ·simp only [Act.put,List.setIfInBounds_toArray,List.set_cons_zero,List.set_cons_succ,i64_w,i32_w]
         rfl
        refine pure_ (i:=4) (N:=some 21) (v:=?_) (a':=?_) #[true,true,true,false,true,false,false,false,false,false] rfl rfl (any_of HT_.out (by kernel_rfl)) (fun _ _ _ h=>h) (Or.inl ⟨by rfl,?_⟩) ?_ ?_
        rotate_left
        ·intro w'
         go_simp
         with_reducible rfl
        rotate_left
        ·simp only [Act.put,List.setIfInBounds_toArray,List.set_cons_zero,List.set_cons_succ,i64_w,i32_w]
         rfl
        refine pure_ (i:=5) (N:=some 22) (v:=?_) (a':=?_) #[true,true,true,false,true,true,false,false,false,false] rfl rfl (any_of HT_.out (by kernel_rfl)) (fun _ _ _ h=>h) (Or.inl ⟨by rfl,?_⟩) ?_ ?_
        rotate_left
        ·intro w'
         go_simp
         with_reducible rfl
        rotate_left
        ·simp only [Act.put,List.setIfInBounds_toArray,List.set_cons_zero,List.set_cons_succ,i64_w,i32_w]
         rfl
        refine pure_ (i:=6) (N:=some 23) (v:=?_) (a':=?_) #[true,true,true,false,true,true,true,false,false,false] rfl rfl (any_of HT_.out (by kernel_rfl)) (fun _ _ _ h=>h) (Or.inl ⟨by rfl,?_⟩) ?_ ?_
        rotate_left
        ·intro w'
         go_simp
         with_reducible rfl
        rotate_left
        ·simp only [Act.put,List.setIfInBounds_toArray,List.set_cons_zero,List.set_cons_succ,i64_w,i32_w]
         rfl
        refine take_ (i:=3) (N:=some 20) (v:=?_) (a':=?_) #[true,true,true,true,true,true,true,false,false,false] rfl rfl (take_ofW HT_.out HW_.out (by kernel_rfl)) (fun _ _ _ h=>h) (Or.inl ⟨by rfl,?_⟩) hHeld ?_ ?_
        rotate_left
        ·rintro w' ⟨s0,s1,s2,s3,s4,s5,s6,s7,s8,s9,s10,s11,s12,s13,s14,s15,s16,s17,s18,s19⟩
         go_simp
         with_reducible rfl
        rotate_left
        ·simp only [Act.put,List.setIfInBounds_toArray,List.set_cons_zero,List.set_cons_succ,i64_w,i32_w]
         rfl
        refine take_ (i:=7) (N:=some 24) (v:=?_) (a':=?_) #[true,true,true,true,true,true,true,true,false,false] rfl rfl (take_ofW HT_.out HW_.out (by kernel_rfl)) (fun _ _ _ h=>h) (Or.inl ⟨by rfl,?_⟩) hHeld ?_ ?_
        rotate_left
        ·rintro w' ⟨s0,s1,s2,s3,s4,s5,s6,s7,s8,s9,s10,s11,s12,s13,s14,s15,s16,s17,s18,s19⟩
         go_simp
         with_reducible rfl
        rotate_left
        ·simp only [Act.put,List.setIfInBounds_toArray,List.set_cons_zero,List.set_cons_succ,i64_w,i32_w]
         rfl
        refine one_ (i:=8) (N:=some 25) #[true,true,true,true,true,true,true,true,true,false] rfl rfl (one_of HT_.out (by kernel_rfl)) (by decide) (fun K hK=>?_)
        refine goes_ Try.func24 (by kernel_rfl) rfl #[.agg #[.int .i64 ((rd_T53 l0 x5_1).f0.f0),.int .i64 ((rd_T53 l0 x5_1).f0.f1),.string ((rd_T53 l0 x5_1).f0.f2),.slice A300_3 ((rd_T53 l0 x5_1).f0.f3).length c300_3,.slice A300_4 ((rd_T53 l0 x5_1).f0.f4).length c300_4,.int .i64 ((rd_T53 l0 x5_1).f1.f0),.int .i64 ((rd_T53 l0 x5_1).f1.f1),.string ((rd_T53 l0 x5_1).f1.f2),.slice A300_8 ((rd_T53 l0 x5_1).f1.f3).length c300_8,.slice A300_9 ((rd_T53 l0 x5_1).f1.f4).length c300_9],.agg #[.int .i64 ((rd_T53 l1 x5_1).f0.f0),.int .i64 ((rd_T53 l1 x5_1).f0.f1),.string ((rd_T53 l1 x5_1).f0.f2),.slice A301_3 ((rd_T53 l1 x5_1).f0.f3).length c301_3,.slice A301_4 ((rd_T53 l1 x5_1).f0.f4).length c301_4,.int .i64 ((rd_T53 l1 x5_1).f1.f0),.int .i64 ((rd_T53 l1 x5_1).f1.f1),.string ((rd_T53 l1 x5_1).f1.f2),.slice A301_8 ((rd_T53 l1 x5_1).f1.f3).length c301_8,.slice A301_9 ((rd_T53 l1 x5_1).f1.f4).length c301_9]] (by rfl) rfl rfl (by (try simp only [List.map_toArray,List.map_cons,List.map_nil]);first|done|rfl|(simp only [List.length_drop,List.length_take];rfl)) ?_
        with_reducible refine (ih_laws_eqClause k1 (by have:=HK1.out;omega) ((rd_T53 l0 x5_1).f0.f0) ((rd_T53 l0 x5_1).f0.f1) ((rd_T53 l0 x5_1).f0.f2) _ _ ((rd_T53 l0 x5_1).f0.f3) _ _ ((rd_T53 l0 x5_1).f0.f4) ((rd_T53 l0 x5_1).f1.f0) ((rd_T53 l0 x5_1).f1.f1) ((rd_T53 l0 x5_1).f1.f2) _ _ ((rd_T53 l0 x5_1).f1.f3) _ _ ((rd_T53 l0 x5_1).f1.f4) ((rd_T53 l1 x5_1).f0.f0) ((rd_T53 l1 x5_1).f0.f1) ((rd_T53 l1 x5_1).f0.f2) _ _ ((rd_T53 l1 x5_1).f0.f3) _ _ ((rd_T53 l1 x5_1).f0.f4) ((rd_T53 l1 x5_1).f1.f0) ((rd_T53 l1 x5_1).f1.f1) ((rd_T53 l1 x5_1).f1.f2) _ _ ((rd_T53 l1 x5_1).f1.f3) _ _ ((rd_T53 l1 x5_1).f1.f4) false _ ?side1 ?side2 ?side3 ?side4 ?side5 ?side6 ?side7 ?side8 ?side9 ?side10 ?side11 ?side12 ?side13 ?side14 ?side15 ?side16 A7.out).mono ?_
        (case side1=>repeat (first|exact (Kd.C_below HR300_3.out HB.out)|(with_reducible refine Kd.C_alloc ?_ _)|(with_reducible refine Kd.C_drewN ?_ _)|(with_reducible refine Kd.C_drew ?_)))
        (case side2=>exact HC300_3.out)
        (case side3=>repeat (first|exact (Kd.C_below HR300_4.out HB.out)|(with_reducible refine Kd.C_alloc ?_ _)|(with_reducible refine Kd.C_drewN ?_ _)|(with_reducible refine Kd.C_drew ?_)))
        (case side4=>exact HC300_4.out)
        (case side5=>repeat (first|exact (Kd.C_below HR300_8.out HB.out)|(with_reducible refine Kd.C_alloc ?_ _)|(with_reducible refine Kd.C_drewN ?_ _)|(with_reducible refine Kd.C_drew ?_)))
        (case side6=>exact HC300_8.out)
        (case side7=>repeat (first|exact (Kd.C_below HR300_9.out HB.out)|(with_reducible refine Kd.C_alloc ?_ _)|(with_reducible refine Kd.C_drewN ?_ _)|(with_reducible refine Kd.C_drew ?_)))
        (case side8=>exact HC300_9.out)
        (case side9=>repeat (first|exact (Kd.C_below HR301_3.out HB.out)|(with_reducible refine Kd.C_alloc ?_ _)|(with_reducible refine Kd.C_drewN ?_ _)|(with_reducible refine Kd.C_drew ?_)))
        (case side10=>exact HC301_3.out)
        (case side11=>repeat (first|exact (Kd.C_below HR301_4.out HB.out)|(with_reducible refine Kd.C_alloc ?_ _)|(with_reducible refine Kd.C_drewN ?_ _)|(with_reducible refine Kd.C_drew ?_)))
        (case side12=>exact HC301_4.out)
        (case side13=>repeat (first|exact (Kd.C_below HR301_8.out HB.out)|(with_reducible refine Kd.C_alloc ?_ _)|(with_reducible refine Kd.C_drewN ?_ _)|(with_reducible refine Kd.C_drew ?_)))
        (case side14=>exact HC301_8.out)
        (case side15=>repeat (first|exact (Kd.C_below HR301_9.out HB.out)|(with_reducible refine Kd.C_alloc ?_ _)|(with_reducible refine Kd.C_drewN ?_ _)|(with_reducible refine Kd.C_drew ?_)))
        (case side16=>exact HC301_9.out)
        rintro e w12 ⟨rfl,hb⟩
        refine ⟨_,rfl,?_⟩
        have n0_:=Aside0.mk (below_step (by repeat (first|(with_reducible first|exact HB.out|apply below_alloc|apply pw_below_drewN|apply below_drew1)|exact HB.out)) hb)
        clear HB
        have HB:=n0_
        clear n0_
        (try clear hb)
        (try clear hb2)
        (try clear hk)
        (try clear hi)
        refine hK.out _ _ ⟨((HB.out.cell (World.block_lt_of_cell? w _ hw300_0)).trans hw300_0),((HB.out.cell (World.block_lt_of_cell? w _ hw300_1)).trans hw300_1),((HB.out.cell (World.block_lt_of_cell? w _ hw300_2)).trans hw300_2),((HB.out.cell (World.block_lt_of_cell? w _ hw300_3)).trans hw300_3),((HB.out.cell (World.block_lt_of_cell? w _ hw300_4)).trans hw300_4),((HB.out.cell (World.block_lt_of_cell? w _ hw300_5)).trans hw300_5),((HB.out.cell (World.block_lt_of_cell? w _ hw300_6)).trans hw300_6),((HB.out.cell (World.block_lt_of_cell? w _ hw300_7)).trans hw300_7),((HB.out.cell (World.block_lt_of_cell? w _ hw300_8)).trans hw300_8),((HB.out.cell (World.block_lt_of_cell? w _ hw300_9)).trans hw300_9),((HB.out.cell (World.block_lt_of_cell? w _ hw301_0)).trans hw301_0),((HB.out.cell (World.block_lt_of_cell? w _ hw301_1)).trans hw301_1),((HB.out.cell (World.block_lt_of_cell? w _ hw301_2)).trans hw301_2),((HB.out.cell (World.block_lt_of_cell? w _ hw301_3)).trans hw301_3),((HB.out.cell (World.block_lt_of_cell? w _ hw301_4)).trans hw301_4),((HB.out.cell (World.block_lt_of_cell? w _ hw301_5)).trans hw301_5),((HB.out.cell (World.block_lt_of_cell? w _ hw301_6)).trans hw301_6),((HB.out.cell (World.block_lt_of_cell? w _ hw301_7)).trans hw301_7),((HB.out.cell (World.block_lt_of_cell? w _ hw301_8)).trans hw301_8),((HB.out.cell (World.block_lt_of_cell? w _ hw301_9)).trans hw301_9)⟩ (fun hHeld=>?_)
        clear hK K
        refine norm_ (a':=?_) ?_ ?_
        rotate_left
        ·show Act.put _ (some 25) _ = _
         simp only [Act.put,List.setIfInBounds_toArray,List.set_cons_zero,List.set_cons_succ,i64_w,i32_w]
         rfl
        refine pure_ (i:=9) (N:=some 26) (v:=?_) (a':=?_) #[true,true,true,true,true,true,true,true,true,true] rfl rfl (any_of HT_.out (by kernel_rfl)) (fun _ _ _ h=>h) (Or.inl ⟨by rfl,?_⟩) ?_ ?_
        rotate_left
        ·intro w'
         go_simp
         with_reducible rfl
        rotate_left
        ·simp only [Act.put,List.setIfInBounds_toArray,List.set_cons_zero,List.set_cons_succ,i64_w,i32_w]
         rfl
        refine done_ (done_of HT_.out (by kernel_rfl)) ?_
        try go_wp2
        go_ret
        exact ⟨by first|rfl|(simp [*,errW_none,errW_some] <;> rfl),by repeat (first|(with_reducible first|exact HB.out|apply below_alloc|apply pw_below_drewN|apply below_drew1)|exact HB.out)⟩
      ·rw [if_neg c6] at H
       exact absurd H (by simp)
     ·rw [if_neg c5] at H
      exact absurd H (by simp)
    ·rw [if_neg c4] at H
     have c4b0:decide (x5_1 < (l0.length:Int)) = false:=decide_eq_false c4
     clear c4
     obtain rfl:=Option.some.inj H
     go_wp2
     go_ret
     exact ⟨by first|rfl|(simp [*,errW_none,errW_some] <;> rfl),by repeat (first|(with_reducible first|exact HB.out|apply below_alloc|apply pw_below_drewN|apply below_drew1)|exact HB.out)⟩
 ·rw [if_neg c3] at H
  have c3b0:((l0.length:Int) == (l1.length:Int)) = false:=beq_eq_false_iff_ne.mpr c3
  have c3b1:((l0.length:Int) != (l1.length:Int)) = true:=bne_iff_ne.mpr c3
  have c3b2:(l0.length == l1.length) = false:=by first|simpa using c3|(simp at c3 ⊢;omega)
  obtain rfl:=Option.some.inj H
  go_enter Try.func16,Try.ntmps16
  go_wp2
  go_ret
  exact ⟨by first|rfl|(simp [*,errW_none,errW_some] <;> rfl),by repeat (first|(with_reducible first|exact HB.out|apply below_alloc|apply pw_below_drewN|apply below_drew1)|exact HB.out)⟩

/-! ### laws_eqExpr: function 8 -/
set_option maxHeartbeats 8000000 in
set_option maxRecDepth 100000 in
theorem laws_eqExpr.step (k:Nat) (ih_laws_eqExprS:∀ k_,k_ < k → ∀ (A0:Option Addr) (c0:Nat) (l0:List (S31)) (A1:Option Addr) (c1:Nat) (l1:List (S31)) (r:Bool) (w:World) (hr0:Kd.C k31 w A0 l0.length l0) (hc0:l0.length≤c0) (hr1:Kd.C k31 w A1 l1.length l1) (hc1:l1.length≤c1) (h:laws_eqExprS.f k_ l0 l1 = some r),Calls Try.prog 15 #[.slice A0 l0.length c0,.slice A1 l1.length c1] w fun e w'=>e = .returned (.bool r)∧Below w.heap.size w w') (ih_laws_eqClause:∀ k_,k_ < k → ∀ (a0_0:Int) (a0_1:Int) (a0_2:ByteArray) (A0_3:Option Addr) (c0_3:Nat) (l0_3:List (S31)) (A0_4:Option Addr) (c0_4:Nat) (l0_4:List (S53)) (a0_5:Int) (a0_6:Int) (a0_7:ByteArray) (A0_8:Option Addr) (c0_8:Nat) (l0_8:List (S31)) (A0_9:Option Addr) (c0_9:Nat) (l0_9:List (S53)) (a1_0:Int) (a1_1:Int) (a1_2:ByteArray) (A1_3:Option Addr) (c1_3:Nat) (l1_3:List (S31)) (A1_4:Option Addr) (c1_4:Nat) (l1_4:List (S53)) (a1_5:Int) (a1_6:Int) (a1_7:ByteArray) (A1_8:Option Addr) (c1_8:Nat) (l1_8:List (S31)) (A1_9:Option Addr) (c1_9:Nat) (l1_9:List (S53)) (r:Bool) (w:World) (hr0_3:Kd.C k31 w A0_3 l0_3.length l0_3) (hc0_3:l0_3.length≤c0_3) (hr0_4:Kd.C k53 w A0_4 l0_4.length l0_4) (hc0_4:l0_4.length≤c0_4) (hr0_8:Kd.C k31 w A0_8 l0_8.length l0_8) (hc0_8:l0_8.length≤c0_8) (hr0_9:Kd.C k53 w A0_9 l0_9.length l0_9) (hc0_9:l0_9.length≤c0_9) (hr1_3:Kd.C k31 w A1_3 l1_3.length l1_3) (hc1_3:l1_3.length≤c1_3) (hr1_4:Kd.C k53 w A1_4 l1_4.length l1_4) (hc1_4:l1_4.length≤c1_4) (hr1_8:Kd.C k31 w A1_8 l1_8.length l1_8) (hc1_8:l1_8.length≤c1_8) (hr1_9:Kd.C k53 w A1_9 l1_9.length l1_9) (hc1_9:l1_9.length≤c1_9) (h:laws_eqClause.f k_ a0_0 a0_1 a0_2 l0_3 l0_4 a0_5 a0_6 a0_7 l0_8 l0_9 a1_0 a1_1 a1_2 l1_3 l1_4 a1_5 a1_6 a1_7 l1_8 l1_9 = some r),Calls Try.prog 24 #[.agg #[.int .i64 a0_0,.int .i64 a0_1,.string a0_2,.slice A0_3 l0_3.length c0_3,.slice A0_4 l0_4.length c0_4,.int .i64 a0_5,.int .i64 a0_6,.string a0_7,.slice A0_8 l0_8.length c0_8,.slice A0_9 l0_9.length c0_9],.agg #[.int .i64 a1_0,.int .i64 a1_1,.string a1_2,.slice A1_3 l1_3.length c1_3,.slice A1_4 l1_4.length c1_4,.int .i64 a1_5,.int .i64 a1_6,.string a1_7,.slice A1_8 l1_8.length c1_8,.slice A1_9 l1_9.length c1_9]] w fun e w'=>e = .returned (.bool r)∧Below w.heap.size w w') (ih_laws_eqClauseS:∀ k_,k_ < k → ∀ (A0:Option Addr) (c0:Nat) (l0:List (S53)) (A1:Option Addr) (c1:Nat) (l1:List (S53)) (r:Bool) (w:World) (hr0:Kd.C k53 w A0 l0.length l0) (hc0:l0.length≤c0) (hr1:Kd.C k53 w A1 l1.length l1) (hc1:l1.length≤c1) (h:laws_eqClauseS.f k_ l0 l1 = some r),Calls Try.prog 16 #[.slice A0 l0.length c0,.slice A1 l1.length c1] w fun e w'=>e = .returned (.bool r)∧Below w.heap.size w w') (ih_laws_eqExpr:∀ k_,k_ < k → ∀ (a0_0:Int) (a0_1:Int) (a0_2:ByteArray) (A0_3:Option Addr) (c0_3:Nat) (l0_3:List (S31)) (A0_4:Option Addr) (c0_4:Nat) (l0_4:List (S53)) (a1_0:Int) (a1_1:Int) (a1_2:ByteArray) (A1_3:Option Addr) (c1_3:Nat) (l1_3:List (S31)) (A1_4:Option Addr) (c1_4:Nat) (l1_4:List (S53)) (r:Bool) (w:World) (hr0_3:Kd.C k31 w A0_3 l0_3.length l0_3) (hc0_3:l0_3.length≤c0_3) (hr0_4:Kd.C k53 w A0_4 l0_4.length l0_4) (hc0_4:l0_4.length≤c0_4) (hr1_3:Kd.C k31 w A1_3 l1_3.length l1_3) (hc1_3:l1_3.length≤c1_3) (hr1_4:Kd.C k53 w A1_4 l1_4.length l1_4) (hc1_4:l1_4.length≤c1_4) (h:laws_eqExpr.f k_ a0_0 a0_1 a0_2 l0_3 l0_4 a1_0 a1_1 a1_2 l1_3 l1_4 = some r),Calls Try.prog 8 #[.agg #[.int .i64 a0_0,.int .i64 a0_1,.string a0_2,.slice A0_3 l0_3.length c0_3,.slice A0_4 l0_4.length c0_4],.agg #[.int .i64 a1_0,.int .i64 a1_1,.string a1_2,.slice A1_3 l1_3.length c1_3,.slice A1_4 l1_4.length c1_4]] w fun e w'=>e = .returned (.bool r)∧Below w.heap.size w w'):∀ (a0_0:Int) (a0_1:Int) (a0_2:ByteArray) (A0_3:Option Addr) (c0_3:Nat) (l0_3:List (S31)) (A0_4:Option Addr) (c0_4:Nat) (l0_4:List (S53)) (a1_0:Int) (a1_1:Int) (a1_2:ByteArray) (A1_3:Option Addr) (c1_3:Nat) (l1_3:List (S31)) (A1_4:Option Addr) (c1_4:Nat) (l1_4:List (S53)) (r:Bool) (w:World) (hr0_3:Kd.C k31 w A0_3 l0_3.length l0_3) (hc0_3:l0_3.length≤c0_3) (hr0_4:Kd.C k53 w A0_4 l0_4.length l0_4) (hc0_4:l0_4.length≤c0_4) (hr1_3:Kd.C k31 w A1_3 l1_3.length l1_3) (hc1_3:l1_3.length≤c1_3) (hr1_4:Kd.C k53 w A1_4 l1_4.length l1_4) (hc1_4:l1_4.length≤c1_4) (h:laws_eqExpr.f k a0_0 a0_1 a0_2 l0_3 l0_4 a1_0 a1_1 a1_2 l1_3 l1_4 = some r),
  Calls Try.prog 8 #[.agg #[.int .i64 a0_0,.int .i64 a0_1,.string a0_2,.slice A0_3 l0_3.length c0_3,.slice A0_4 l0_4.length c0_4],.agg #[.int .i64 a1_0,.int .i64 a1_1,.string a1_2,.slice A1_3 l1_3.length c1_3,.slice A1_4 l1_4.length c1_4]] w fun e w'=>e = .returned (.bool r)∧Below w.heap.size w w':=by
 intro a0_0 a0_1 a0_2 A0_3 c0_3 l0_3 A0_4 c0_4 l0_4 a1_0 a1_1 a1_2 A1_3 c1_3 l1_3 A1_4 c1_4 l1_4 r w hr0_3 hc0_3 hr0_4 hc0_4 hr1_3 hc1_3 hr1_4 hc1_4 h
 cases k with
 | zero=>exact absurd h (by simp [laws_eqExpr.f])
 | succ k =>
 simp only [laws_eqExpr.f] at h
 have hu31:=Try.underlying31
 have HR0_3:=Aside0.mk hr0_3
 have HC0_3:=Aside0.mk hc0_3
 clear hr0_3 hc0_3
 have HR0_4:=Aside0.mk hr0_4
 have HC0_4:=Aside0.mk hc0_4
 clear hr0_4 hc0_4
 have HR1_3:=Aside0.mk hr1_3
 have HC1_3:=Aside0.mk hc1_3
 clear hr1_3 hc1_3
 have HR1_4:=Aside0.mk hr1_4
 have HC1_4:=Aside0.mk hc1_4
 clear hr1_4 hc1_4
 have HB:=Aside0.mk (Below.refl w.heap.size w)
 have H:(if a0_0 = a1_0 then (if a0_1 = a1_1 then (if a0_2.toList = a1_2.toList then ((laws_eqExprS.f k l0_3 l1_3).bind fun t305=>(if t305 = true then ((laws_eqClauseS.f k l0_4 l1_4).bind fun t306=>(if t306 = true then (some true) else (some false))) else (some false))) else (some false)) else (some false)) else (some false)) = some r:=h
 clear h
 by_cases c3:a0_0 = a1_0
 ·rw [if_pos c3] at H
  have c3b0:(a0_0 == a1_0) = true:=beq_iff_eq.mpr c3
  have c3b1:(a0_0 != a1_0) = false:=bne_eq_false_iff_eq.mpr c3
  clear c3
  by_cases c4:a0_1 = a1_1
  ·rw [if_pos c4] at H
   have c4b0:(a0_1 == a1_1) = true:=beq_iff_eq.mpr c4
   have c4b1:(a0_1 != a1_1) = false:=bne_eq_false_iff_eq.mpr c4
   clear c4
   by_cases c5:a0_2.toList = a1_2.toList
   ·rw [if_pos c5] at H
    have c5b0:(a0_2.toList == a1_2.toList) = true:=beq_iff_eq.mpr c5
    have c5b1:(a0_2.toList != a1_2.toList) = false:=bne_eq_false_iff_eq.mpr c5
    clear c5
    replace H:=Option.bind_eq_some_iff.mp H
    obtain ⟨t305,A60,H⟩:=H
    replace H:(if t305 = true then ((laws_eqClauseS.f k l0_4 l1_4).bind fun t306=>(if t306 = true then (some true) else (some false))) else (some false)) = some r:=H
    have A6:=Aside0.mk A60
    clear A60
    by_cases c7:t305 = true
    ·subst c7
     have H1:((laws_eqClauseS.f k l0_4 l1_4).bind fun t306=>(if t306 = true then (some true) else (some false))) = some r:=by rw [if_pos rfl] at H;exact H
     clear H
     have H:=H1
     clear H1
     replace H:=Option.bind_eq_some_iff.mp H
     obtain ⟨t306,A80,H⟩:=H
     replace H:(if t306 = true then (some true) else (some false)) = some r:=H
     have A8:=Aside0.mk A80
     clear A80
     by_cases c9:t306 = true
     focus
      subst c9
      have H1:(some true) = some r:=by rw [if_pos rfl] at H;exact H
     rotate_left
     focus
      replace c9:=Bool.eq_false_iff.mpr c9
      subst c9
      have H1:(some false) = some r:=by rw [if_neg (show ¬ (false = true) by decide)] at H;exact H
     rotate_left
     all_goals
      clear H
      have H:=H1
      clear H1
      obtain rfl:=Option.some.inj H
      go_enter Try.func8,Try.ntmps8
      go_wp2_with (first|((with_reducible refine gate_dst (N:=2) rfl ?_);refine box_event ?hg (N:=2) ?hd (cs:=#[.int .i64 a0_0,.int .i64 a0_1,.string a0_2,.slice A0_3 l0_3.length c0_3,.slice A0_4 l0_4.length c0_4]) (t:=31) ?hr ?_;(case hd=>rfl);(case hg=>rfl);(case hr=>first|(go_simp;done)|(go_simp;rfl));intro gb303 hg w10 hbox hb;have n0_:=Aside0.mk (below_step (by repeat (first|(with_reducible first|exact HB.out|apply below_alloc|apply pw_below_drewN|apply below_drew1)|exact HB.out)) hb);have n1_:=Aside0.mk (hbox);have n2_:=Aside0.mk ((by rw [hg];exact (below_size (by repeat (first|(with_reducible first|exact HB.out|apply below_alloc|apply pw_below_drewN|apply below_drew1)|exact HB.out))):w.heap.size≤gb303));have n3_:=Aside0.mk ((by rw [hg];exact (below_size (by repeat (first|(with_reducible first|exact HB.out|apply below_alloc|apply pw_below_drewN|apply below_drew1)|exact HB.out))):w.heap.size≤gb303));clear HB;have HB:=n0_;have BK303:=n1_;have GW303:=n2_;have GE303:=n3_;clear n0_ n1_ n2_ n3_;clear hb hbox hg)|((with_reducible refine gate_dst (N:=3) rfl ?_);refine box_event ?hg (N:=3) ?hd (cs:=#[.int .i64 a1_0,.int .i64 a1_1,.string a1_2,.slice A1_3 l1_3.length c1_3,.slice A1_4 l1_4.length c1_4]) (t:=31) ?hr ?_;(case hd=>rfl);(case hg=>rfl);(case hr=>first|(go_simp;done)|(go_simp;rfl));intro gb304 hg w11 hbox hb;have n0_:=Aside0.mk (blk_below (g:=gb303) (o:=.cells #[.int .i64 a0_0,.int .i64 a0_1,.string a0_2,.slice A0_3 l0_3.length c0_3,.slice A0_4 l0_4.length c0_4] 31 (0,0)) (by (with_reducible repeat (first|refine blk_drewN ?_ _|refine blk_drew ?_|refine blk_alloc ?_ _));exact BK303.out) hb);have n1_:=Aside0.mk (below_step (by repeat (first|(with_reducible first|exact HB.out|apply below_alloc|apply pw_below_drewN|apply below_drew1|refine below_set ?_ GE303.out)|exact HB.out)) hb);have n2_:=Aside0.mk (hbox);have n3_:=Aside0.mk ((by rw [hg];exact (below_size (by repeat (first|(with_reducible first|exact HB.out|apply below_alloc|apply pw_below_drewN|apply below_drew1|refine below_set ?_ GE303.out)|exact HB.out))):w.heap.size≤gb304));have n4_:=Aside0.mk ((by rw [hg];exact (below_size (by repeat (first|(with_reducible first|exact HB.out|apply below_alloc|apply pw_below_drewN|apply below_drew1|refine below_set ?_ GE303.out)|exact HB.out))):w.heap.size≤gb304));have n5_:=Aside0.mk ((by rw [hg];exact Nat.ne_of_lt (blk_lt (g:=gb303) (o:=.cells #[.int .i64 a0_0,.int .i64 a0_1,.string a0_2,.slice A0_3 l0_3.length c0_3,.slice A0_4 l0_4.length c0_4] 31 (0,0)) (by (with_reducible repeat (first|refine blk_drewN ?_ _|refine blk_drew ?_|refine blk_alloc ?_ _));exact BK303.out)):gb303≠gb304));have n6_:=Aside0.mk ((by rw [hg];exact Nat.ne_of_gt (blk_lt (g:=gb303) (o:=.cells #[.int .i64 a0_0,.int .i64 a0_1,.string a0_2,.slice A0_3 l0_3.length c0_3,.slice A0_4 l0_4.length c0_4] 31 (0,0)) (by (with_reducible repeat (first|refine blk_drewN ?_ _|refine blk_drew ?_|refine blk_alloc ?_ _));exact BK303.out)):gb304≠gb303));clear BK303;clear HB;have BK303:=n0_;have HB:=n1_;have BK304:=n2_;have GW304:=n3_;have GE304:=n4_;have NB303_304:=n5_;have NB304_303:=n6_;clear n0_ n1_ n2_ n3_ n4_ n5_ n6_;clear hb hbox hg;have hnb12:=NB303_304.out;have hnc12:=NB304_303.out;have hcz13_0:w11.cell? ⟨gb303,0,none⟩ = some (.int .i64 a0_0):=(blk_cell BK303.out 0).trans rfl;have hcz13_1:w11.cell? ⟨gb303,1,none⟩ = some (.int .i64 a0_1):=(blk_cell BK303.out 1).trans rfl;have hcz13_2:w11.cell? ⟨gb303,2,none⟩ = some (.string a0_2):=(blk_cell BK303.out 2).trans rfl;have hcz13_3:w11.cell? ⟨gb303,3,none⟩ = some (.slice A0_3 l0_3.length c0_3):=(blk_cell BK303.out 3).trans rfl;have hcz13_4:w11.cell? ⟨gb303,4,none⟩ = some (.slice A0_4 l0_4.length c0_4):=(blk_cell BK303.out 4).trans rfl;have hfz13_0:=blk_frozen BK303.out 0;have hfz13_1:=blk_frozen BK303.out 1;have hfz13_2:=blk_frozen BK303.out 2;have hfz13_3:=blk_frozen BK303.out 3;have hfz13_4:=blk_frozen BK303.out 4;have hcz14_0:w11.cell? ⟨gb304,0,none⟩ = some (.int .i64 a1_0):=(blk_cell BK304.out 0).trans rfl;have hcz14_1:w11.cell? ⟨gb304,1,none⟩ = some (.int .i64 a1_1):=(blk_cell BK304.out 1).trans rfl;have hcz14_2:w11.cell? ⟨gb304,2,none⟩ = some (.string a1_2):=(blk_cell BK304.out 2).trans rfl;have hcz14_3:w11.cell? ⟨gb304,3,none⟩ = some (.slice A1_3 l1_3.length c1_3):=(blk_cell BK304.out 3).trans rfl;have hcz14_4:w11.cell? ⟨gb304,4,none⟩ = some (.slice A1_4 l1_4.length c1_4):=(blk_cell BK304.out 4).trans rfl;have hfz14_0:=blk_frozen BK304.out 0;have hfz14_1:=blk_frozen BK304.out 1;have hfz14_2:=blk_frozen BK304.out 2;have hfz14_3:=blk_frozen BK304.out 3;have hfz14_4:=blk_frozen BK304.out 4)|((with_reducible refine gate_callee (f:=15) rfl ?_);refine goesL_ (some 24) rfl rfl Try.func15 (by kernel_rfl) rfl #[.slice A0_3 l0_3.length c0_3,.slice A1_3 l1_3.length c1_3] rfl (by (try simp only [List.map_toArray,List.map_cons,List.map_nil]);first|done|rfl|(simp only [List.length_drop,List.length_take];rfl)) ?_;(with_reducible refine (ih_laws_eqExprS k (by omega) _ _ l0_3 _ _ l1_3 true _ ?side1 ?side2 ?side3 ?side4 A6.out).mono ?_);(case side1=>repeat (first|exact (Kd.C_below HR0_3.out HB.out)|(with_reducible refine Kd.C_alloc ?_ _)|(with_reducible refine Kd.C_drewN ?_ _)|(with_reducible refine Kd.C_drew ?_)));(case side2=>exact HC0_3.out);(case side3=>repeat (first|exact (Kd.C_below HR1_3.out HB.out)|(with_reducible refine Kd.C_alloc ?_ _)|(with_reducible refine Kd.C_drewN ?_ _)|(with_reducible refine Kd.C_drew ?_)));(case side4=>exact HC1_3.out);rintro e w15 ⟨rfl,hb⟩;refine ⟨_,rfl,?_⟩;have n0_:=Aside0.mk (blk_below (g:=gb303) (o:=.cells #[.int .i64 a0_0,.int .i64 a0_1,.string a0_2,.slice A0_3 l0_3.length c0_3,.slice A0_4 l0_4.length c0_4] 31 (0,0)) (by (with_reducible repeat (first|refine blk_drewN ?_ _|refine blk_drew ?_|refine blk_alloc ?_ _));exact BK303.out) hb);have n1_:=Aside0.mk (blk_below (g:=gb304) (o:=.cells #[.int .i64 a1_0,.int .i64 a1_1,.string a1_2,.slice A1_3 l1_3.length c1_3,.slice A1_4 l1_4.length c1_4] 31 (0,0)) (by (with_reducible repeat (first|refine blk_drewN ?_ _|refine blk_drew ?_|refine blk_alloc ?_ _));exact BK304.out) hb);have n2_:=Aside0.mk (below_step (by repeat (first|(with_reducible first|exact HB.out|apply below_alloc|apply pw_below_drewN|apply below_drew1|refine below_set ?_ GE303.out|refine below_set ?_ GE304.out)|exact HB.out)) hb);clear BK303;clear BK304;clear HB;have BK303:=n0_;have BK304:=n1_;have HB:=n2_;clear n0_ n1_ n2_;(try clear hb);(try clear hb2);(try clear hk);(try clear hi);have hcz16_0:w15.cell? ⟨gb303,0,none⟩ = some (.int .i64 a0_0):=(blk_cell BK303.out 0).trans rfl;have hcz16_1:w15.cell? ⟨gb303,1,none⟩ = some (.int .i64 a0_1):=(blk_cell BK303.out 1).trans rfl;have hcz16_2:w15.cell? ⟨gb303,2,none⟩ = some (.string a0_2):=(blk_cell BK303.out 2).trans rfl;have hcz16_3:w15.cell? ⟨gb303,3,none⟩ = some (.slice A0_3 l0_3.length c0_3):=(blk_cell BK303.out 3).trans rfl;have hcz16_4:w15.cell? ⟨gb303,4,none⟩ = some (.slice A0_4 l0_4.length c0_4):=(blk_cell BK303.out 4).trans rfl;have hfz16_0:=blk_frozen BK303.out 0;have hfz16_1:=blk_frozen BK303.out 1;have hfz16_2:=blk_frozen BK303.out 2;have hfz16_3:=blk_frozen BK303.out 3;have hfz16_4:=blk_frozen BK303.out 4;have hcz17_0:w15.cell? ⟨gb304,0,none⟩ = some (.int .i64 a1_0):=(blk_cell BK304.out 0).trans rfl;have hcz17_1:w15.cell? ⟨gb304,1,none⟩ = some (.int .i64 a1_1):=(blk_cell BK304.out 1).trans rfl;have hcz17_2:w15.cell? ⟨gb304,2,none⟩ = some (.string a1_2):=(blk_cell BK304.out 2).trans rfl;have hcz17_3:w15.cell? ⟨gb304,3,none⟩ = some (.slice A1_3 l1_3.length c1_3):=(blk_cell BK304.out 3).trans rfl;have hcz17_4:w15.cell? ⟨gb304,4,none⟩ = some (.slice A1_4 l1_4.length c1_4):=(blk_cell BK304.out 4).trans rfl;have hfz17_0:=blk_frozen BK304.out 0;have hfz17_1:=blk_frozen BK304.out 1;have hfz17_2:=blk_frozen BK304.out 2;have hfz17_3:=blk_frozen BK304.out 3;have hfz17_4:=blk_frozen BK304.out 4)|((with_reducible refine gate_callee (f:=16) rfl ?_);refine goesL_ (some 30) rfl rfl Try.func16 (by kernel_rfl) rfl #[.slice A0_4 l0_4.length c0_4,.slice A1_4 l1_4.length c1_4] rfl (by (try simp only [List.map_toArray,List.map_cons,List.map_nil]);first|done|rfl|(simp only [List.length_drop,List.length_take];rfl)) ?_;(with_reducible refine (ih_laws_eqClauseS k (by omega) _ _ l0_4 _ _ l1_4 _ _ ?side1 ?side2 ?side3 ?side4 A8.out).mono ?_);(case side1=>repeat (first|exact (Kd.C_below HR0_4.out HB.out)|(with_reducible refine Kd.C_alloc ?_ _)|(with_reducible refine Kd.C_drewN ?_ _)|(with_reducible refine Kd.C_drew ?_)));(case side2=>exact HC0_4.out);(case side3=>repeat (first|exact (Kd.C_below HR1_4.out HB.out)|(with_reducible refine Kd.C_alloc ?_ _)|(with_reducible refine Kd.C_drewN ?_ _)|(with_reducible refine Kd.C_drew ?_)));(case side4=>exact HC1_4.out);rintro e w18 ⟨rfl,hb⟩;refine ⟨_,rfl,?_⟩;have n0_:=Aside0.mk (blk_below (g:=gb303) (o:=.cells #[.int .i64 a0_0,.int .i64 a0_1,.string a0_2,.slice A0_3 l0_3.length c0_3,.slice A0_4 l0_4.length c0_4] 31 (0,0)) (by (with_reducible repeat (first|refine blk_drewN ?_ _|refine blk_drew ?_|refine blk_alloc ?_ _));exact BK303.out) hb);have n1_:=Aside0.mk (blk_below (g:=gb304) (o:=.cells #[.int .i64 a1_0,.int .i64 a1_1,.string a1_2,.slice A1_3 l1_3.length c1_3,.slice A1_4 l1_4.length c1_4] 31 (0,0)) (by (with_reducible repeat (first|refine blk_drewN ?_ _|refine blk_drew ?_|refine blk_alloc ?_ _));exact BK304.out) hb);have n2_:=Aside0.mk (below_step (by repeat (first|(with_reducible first|exact HB.out|apply below_alloc|apply pw_below_drewN|apply below_drew1|refine below_set ?_ GE303.out|refine below_set ?_ GE304.out)|exact HB.out)) hb);clear BK303;clear BK304;clear HB;have BK303:=n0_;have BK304:=n1_;have HB:=n2_;clear n0_ n1_ n2_;(try clear hb);(try clear hb2);(try clear hk);(try clear hi)))
     ·go_ret
      exact ⟨by first|rfl|(simp [*,errW_none,errW_some] <;> rfl),by repeat (first|(with_reducible first|exact HB.out|apply below_alloc|apply pw_below_drewN|apply below_drew1|refine below_set ?_ GE303.out|refine below_set ?_ GE304.out)|exact HB.out)⟩
     ·go_ret
      exact ⟨by first|rfl|(simp [*,errW_none,errW_some] <;> rfl),by repeat (first|(with_reducible first|exact HB.out|apply below_alloc|apply pw_below_drewN|apply below_drew1|refine below_set ?_ GE303.out|refine below_set ?_ GE304.out)|exact HB.out)⟩
    ·replace c7:=Bool.eq_false_iff.mpr c7
     subst c7
     have H1:(some false) = some r:=by rw [if_neg (show ¬ (false = true) by decide)] at H;exact H
     clear H
     have H:=H1
     clear H1
     obtain rfl:=Option.some.inj H
     go_enter Try.func8,Try.ntmps8
     go_wp2_with (first|((with_reducible refine gate_dst (N:=2) rfl ?_);refine box_event ?hg (N:=2) ?hd (cs:=#[.int .i64 a0_0,.int .i64 a0_1,.string a0_2,.slice A0_3 l0_3.length c0_3,.slice A0_4 l0_4.length c0_4]) (t:=31) ?hr ?_;(case hd=>rfl);(case hg=>rfl);(case hr=>first|(go_simp;done)|(go_simp;rfl));intro gb303 hg w28 hbox hb;have n0_:=Aside0.mk (below_step (by repeat (first|(with_reducible first|exact HB.out|apply below_alloc|apply pw_below_drewN|apply below_drew1)|exact HB.out)) hb);have n1_:=Aside0.mk (hbox);have n2_:=Aside0.mk ((by rw [hg];exact (below_size (by repeat (first|(with_reducible first|exact HB.out|apply below_alloc|apply pw_below_drewN|apply below_drew1)|exact HB.out))):w.heap.size≤gb303));have n3_:=Aside0.mk ((by rw [hg];exact (below_size (by repeat (first|(with_reducible first|exact HB.out|apply below_alloc|apply pw_below_drewN|apply below_drew1)|exact HB.out))):w.heap.size≤gb303));clear HB;have HB:=n0_;have BK303:=n1_;have GW303:=n2_;have GE303:=n3_;clear n0_ n1_ n2_ n3_;clear hb hbox hg)|((with_reducible refine gate_dst (N:=3) rfl ?_);refine box_event ?hg (N:=3) ?hd (cs:=#[.int .i64 a1_0,.int .i64 a1_1,.string a1_2,.slice A1_3 l1_3.length c1_3,.slice A1_4 l1_4.length c1_4]) (t:=31) ?hr ?_;(case hd=>rfl);(case hg=>rfl);(case hr=>first|(go_simp;done)|(go_simp;rfl));intro gb304 hg w29 hbox hb;have n0_:=Aside0.mk (blk_below (g:=gb303) (o:=.cells #[.int .i64 a0_0,.int .i64 a0_1,.string a0_2,.slice A0_3 l0_3.length c0_3,.slice A0_4 l0_4.length c0_4] 31 (0,0)) (by (with_reducible repeat (first|refine blk_drewN ?_ _|refine blk_drew ?_|refine blk_alloc ?_ _));exact BK303.out) hb);have n1_:=Aside0.mk (below_step (by repeat (first|(with_reducible first|exact HB.out|apply below_alloc|apply pw_below_drewN|apply below_drew1|refine below_set ?_ GE303.out)|exact HB.out)) hb);have n2_:=Aside0.mk (hbox);have n3_:=Aside0.mk ((by rw [hg];exact (below_size (by repeat (first|(with_reducible first|exact HB.out|apply below_alloc|apply pw_below_drewN|apply below_drew1|refine below_set ?_ GE303.out)|exact HB.out))):w.heap.size≤gb304));have n4_:=Aside0.mk ((by rw [hg];exact (below_size (by repeat (first|(with_reducible first|exact HB.out|apply below_alloc|apply pw_below_drewN|apply below_drew1|refine below_set ?_ GE303.out)|exact HB.out))):w.heap.size≤gb304));have n5_:=Aside0.mk ((by rw [hg];exact Nat.ne_of_lt (blk_lt (g:=gb303) (o:=.cells #[.int .i64 a0_0,.int .i64 a0_1,.string a0_2,.slice A0_3 l0_3.length c0_3,.slice A0_4 l0_4.length c0_4] 31 (0,0)) (by (with_reducible repeat (first|refine blk_drewN ?_ _|refine blk_drew ?_|refine blk_alloc ?_ _));exact BK303.out)):gb303≠gb304));have n6_:=Aside0.mk ((by rw [hg];exact Nat.ne_of_gt (blk_lt (g:=gb303) (o:=.cells #[.int .i64 a0_0,.int .i64 a0_1,.string a0_2,.slice A0_3 l0_3.length c0_3,.slice A0_4 l0_4.length c0_4] 31 (0,0)) (by (with_reducible repeat (first|refine blk_drewN ?_ _|refine blk_drew ?_|refine blk_alloc ?_ _));exact BK303.out)):gb304≠gb303));clear BK303;clear HB;have BK303:=n0_;have HB:=n1_;have BK304:=n2_;have GW304:=n3_;have GE304:=n4_;have NB303_304:=n5_;have NB304_303:=n6_;clear n0_ n1_ n2_ n3_ n4_ n5_ n6_;clear hb hbox hg;have hnb30:=NB303_304.out;have hnc30:=NB304_303.out;have hcz31_0:w29.cell? ⟨gb303,0,none⟩ = some (.int .i64 a0_0):=(blk_cell BK303.out 0).trans rfl;have hcz31_1:w29.cell? ⟨gb303,1,none⟩ = some (.int .i64 a0_1):=(blk_cell BK303.out 1).trans rfl;have hcz31_2:w29.cell? ⟨gb303,2,none⟩ = some (.string a0_2):=(blk_cell BK303.out 2).trans rfl;have hcz31_3:w29.cell? ⟨gb303,3,none⟩ = some (.slice A0_3 l0_3.length c0_3):=(blk_cell BK303.out 3).trans rfl;have hcz31_4:w29.cell? ⟨gb303,4,none⟩ = some (.slice A0_4 l0_4.length c0_4):=(blk_cell BK303.out 4).trans rfl;have hfz31_0:=blk_frozen BK303.out 0;have hfz31_1:=blk_frozen BK303.out 1;have hfz31_2:=blk_frozen BK303.out 2;have hfz31_3:=blk_frozen BK303.out 3;have hfz31_4:=blk_frozen BK303.out 4;have hcz32_0:w29.cell? ⟨gb304,0,none⟩ = some (.int .i64 a1_0):=(blk_cell BK304.out 0).trans rfl;have hcz32_1:w29.cell? ⟨gb304,1,none⟩ = some (.int .i64 a1_1):=(blk_cell BK304.out 1).trans rfl;have hcz32_2:w29.cell? ⟨gb304,2,none⟩ = some (.string a1_2):=(blk_cell BK304.out 2).trans rfl;have hcz32_3:w29.cell? ⟨gb304,3,none⟩ = some (.slice A1_3 l1_3.length c1_3):=(blk_cell BK304.out 3).trans rfl;have hcz32_4:w29.cell? ⟨gb304,4,none⟩ = some (.slice A1_4 l1_4.length c1_4):=(blk_cell BK304.out 4).trans rfl;have hfz32_0:=blk_frozen BK304.out 0;have hfz32_1:=blk_frozen BK304.out 1;have hfz32_2:=blk_frozen BK304.out 2;have hfz32_3:=blk_frozen BK304.out 3;have hfz32_4:=blk_frozen BK304.out 4)|((with_reducible refine gate_callee (f:=15) rfl ?_);refine goesL_ (some 24) rfl rfl Try.func15 (by kernel_rfl) rfl #[.slice A0_3 l0_3.length c0_3,.slice A1_3 l1_3.length c1_3] rfl (by (try simp only [List.map_toArray,List.map_cons,List.map_nil]);first|done|rfl|(simp only [List.length_drop,List.length_take];rfl)) ?_;(with_reducible refine (ih_laws_eqExprS k (by omega) _ _ l0_3 _ _ l1_3 false _ ?side1 ?side2 ?side3 ?side4 A6.out).mono ?_);(case side1=>repeat (first|exact (Kd.C_below HR0_3.out HB.out)|(with_reducible refine Kd.C_alloc ?_ _)|(with_reducible refine Kd.C_drewN ?_ _)|(with_reducible refine Kd.C_drew ?_)));(case side2=>exact HC0_3.out);(case side3=>repeat (first|exact (Kd.C_below HR1_3.out HB.out)|(with_reducible refine Kd.C_alloc ?_ _)|(with_reducible refine Kd.C_drewN ?_ _)|(with_reducible refine Kd.C_drew ?_)));(case side4=>exact HC1_3.out);rintro e w33 ⟨rfl,hb⟩;refine ⟨_,rfl,?_⟩;have n0_:=Aside0.mk (blk_below (g:=gb303) (o:=.cells #[.int .i64 a0_0,.int .i64 a0_1,.string a0_2,.slice A0_3 l0_3.length c0_3,.slice A0_4 l0_4.length c0_4] 31 (0,0)) (by (with_reducible repeat (first|refine blk_drewN ?_ _|refine blk_drew ?_|refine blk_alloc ?_ _));exact BK303.out) hb);have n1_:=Aside0.mk (blk_below (g:=gb304) (o:=.cells #[.int .i64 a1_0,.int .i64 a1_1,.string a1_2,.slice A1_3 l1_3.length c1_3,.slice A1_4 l1_4.length c1_4] 31 (0,0)) (by (with_reducible repeat (first|refine blk_drewN ?_ _|refine blk_drew ?_|refine blk_alloc ?_ _));exact BK304.out) hb);have n2_:=Aside0.mk (below_step (by repeat (first|(with_reducible first|exact HB.out|apply below_alloc|apply pw_below_drewN|apply below_drew1|refine below_set ?_ GE303.out|refine below_set ?_ GE304.out)|exact HB.out)) hb);clear BK303;clear BK304;clear HB;have BK303:=n0_;have BK304:=n1_;have HB:=n2_;clear n0_ n1_ n2_;(try clear hb);(try clear hb2);(try clear hk);(try clear hi)))
     go_ret
     exact ⟨by first|rfl|(simp [*,errW_none,errW_some] <;> rfl),by repeat (first|(with_reducible first|exact HB.out|apply below_alloc|apply pw_below_drewN|apply below_drew1|refine below_set ?_ GE303.out|refine below_set ?_ GE304.out)|exact HB.out)⟩
   ·rw [if_neg c5] at H
    have c5b0:(a0_2.toList == a1_2.toList) = false:=beq_eq_false_iff_ne.mpr c5
    have c5b1:(a0_2.toList != a1_2.toList) = true:=bne_iff_ne.mpr c5
    obtain rfl:=Option.some.inj H
    go_enter Try.func8,Try.ntmps8
    go_wp2_with (first|((with_reducible refine gate_dst (N:=2) rfl ?_);refine box_event ?hg (N:=2) ?hd (cs:=#[.int .i64 a0_0,.int .i64 a0_1,.string a0_2,.slice A0_3 l0_3.length c0_3,.slice A0_4 l0_4.length c0_4]) (t:=31) ?hr ?_;(case hd=>rfl);(case hg=>rfl);(case hr=>first|(go_simp;done)|(go_simp;rfl));intro gb303 hg w34 hbox hb;have n0_:=Aside0.mk (below_step (by repeat (first|(with_reducible first|exact HB.out|apply below_alloc|apply pw_below_drewN|apply below_drew1)|exact HB.out)) hb);have n1_:=Aside0.mk (hbox);have n2_:=Aside0.mk ((by rw [hg];exact (below_size (by repeat (first|(with_reducible first|exact HB.out|apply below_alloc|apply pw_below_drewN|apply below_drew1)|exact HB.out))):w.heap.size≤gb303));have n3_:=Aside0.mk ((by rw [hg];exact (below_size (by repeat (first|(with_reducible first|exact HB.out|apply below_alloc|apply pw_below_drewN|apply below_drew1)|exact HB.out))):w.heap.size≤gb303));clear HB;have HB:=n0_;have BK303:=n1_;have GW303:=n2_;have GE303:=n3_;clear n0_ n1_ n2_ n3_;clear hb hbox hg)|((with_reducible refine gate_dst (N:=3) rfl ?_);refine box_event ?hg (N:=3) ?hd (cs:=#[.int .i64 a1_0,.int .i64 a1_1,.string a1_2,.slice A1_3 l1_3.length c1_3,.slice A1_4 l1_4.length c1_4]) (t:=31) ?hr ?_;(case hd=>rfl);(case hg=>rfl);(case hr=>first|(go_simp;done)|(go_simp;rfl));intro gb304 hg w35 hbox hb;have n0_:=Aside0.mk (blk_below (g:=gb303) (o:=.cells #[.int .i64 a0_0,.int .i64 a0_1,.string a0_2,.slice A0_3 l0_3.length c0_3,.slice A0_4 l0_4.length c0_4] 31 (0,0)) (by (with_reducible repeat (first|refine blk_drewN ?_ _|refine blk_drew ?_|refine blk_alloc ?_ _));exact BK303.out) hb);have n1_:=Aside0.mk (below_step (by repeat (first|(with_reducible first|exact HB.out|apply below_alloc|apply pw_below_drewN|apply below_drew1|refine below_set ?_ GE303.out)|exact HB.out)) hb);have n2_:=Aside0.mk (hbox);have n3_:=Aside0.mk ((by rw [hg];exact (below_size (by repeat (first|(with_reducible first|exact HB.out|apply below_alloc|apply pw_below_drewN|apply below_drew1|refine below_set ?_ GE303.out)|exact HB.out))):w.heap.size≤gb304));have n4_:=Aside0.mk ((by rw [hg];exact (below_size (by repeat (first|(with_reducible first|exact HB.out|apply below_alloc|apply pw_below_drewN|apply below_drew1|refine below_set ?_ GE303.out)|exact HB.out))):w.heap.size≤gb304));have n5_:=Aside0.mk ((by rw [hg];exact Nat.ne_of_lt (blk_lt (g:=gb303) (o:=.cells #[.int .i64 a0_0,.int .i64 a0_1,.string a0_2,.slice A0_3 l0_3.length c0_3,.slice A0_4 l0_4.length c0_4] 31 (0,0)) (by (with_reducible repeat (first|refine blk_drewN ?_ _|refine blk_drew ?_|refine blk_alloc ?_ _));exact BK303.out)):gb303≠gb304));have n6_:=Aside0.mk ((by rw [hg];exact Nat.ne_of_gt (blk_lt (g:=gb303) (o:=.cells #[.int .i64 a0_0,.int .i64 a0_1,.string a0_2,.slice A0_3 l0_3.length c0_3,.slice A0_4 l0_4.length c0_4] 31 (0,0)) (by (with_reducible repeat (first|refine blk_drewN ?_ _|refine blk_drew ?_|refine blk_alloc ?_ _));exact BK303.out)):gb304≠gb303));clear BK303;clear HB;have BK303:=n0_;have HB:=n1_;have BK304:=n2_;have GW304:=n3_;have GE304:=n4_;have NB303_304:=n5_;have NB304_303:=n6_;clear n0_ n1_ n2_ n3_ n4_ n5_ n6_;clear hb hbox hg;have hnb36:=NB303_304.out;have hnc36:=NB304_303.out;have hcz37_0:w35.cell? ⟨gb303,0,none⟩ = some (.int .i64 a0_0):=(blk_cell BK303.out 0).trans rfl;have hcz37_1:w35.cell? ⟨gb303,1,none⟩ = some (.int .i64 a0_1):=(blk_cell BK303.out 1).trans rfl;have hcz37_2:w35.cell? ⟨gb303,2,none⟩ = some (.string a0_2):=(blk_cell BK303.out 2).trans rfl;have hcz37_3:w35.cell? ⟨gb303,3,none⟩ = some (.slice A0_3 l0_3.length c0_3):=(blk_cell BK303.out 3).trans rfl;have hcz37_4:w35.cell? ⟨gb303,4,none⟩ = some (.slice A0_4 l0_4.length c0_4):=(blk_cell BK303.out 4).trans rfl;have hfz37_0:=blk_frozen BK303.out 0;have hfz37_1:=blk_frozen BK303.out 1;have hfz37_2:=blk_frozen BK303.out 2;have hfz37_3:=blk_frozen BK303.out 3;have hfz37_4:=blk_frozen BK303.out 4;have hcz38_0:w35.cell? ⟨gb304,0,none⟩ = some (.int .i64 a1_0):=(blk_cell BK304.out 0).trans rfl;have hcz38_1:w35.cell? ⟨gb304,1,none⟩ = some (.int .i64 a1_1):=(blk_cell BK304.out 1).trans rfl;have hcz38_2:w35.cell? ⟨gb304,2,none⟩ = some (.string a1_2):=(blk_cell BK304.out 2).trans rfl;have hcz38_3:w35.cell? ⟨gb304,3,none⟩ = some (.slice A1_3 l1_3.length c1_3):=(blk_cell BK304.out 3).trans rfl;have hcz38_4:w35.cell? ⟨gb304,4,none⟩ = some (.slice A1_4 l1_4.length c1_4):=(blk_cell BK304.out 4).trans rfl;have hfz38_0:=blk_frozen BK304.out 0;have hfz38_1:=blk_frozen BK304.out 1;have hfz38_2:=blk_frozen BK304.out 2;have hfz38_3:=blk_frozen BK304.out 3;have hfz38_4:=blk_frozen BK304.out 4))
    go_ret
    exact ⟨by first|rfl|(simp [*,errW_none,errW_some] <;> rfl),by repeat (first|(with_reducible first|exact HB.out|apply below_alloc|apply pw_below_drewN|apply below_drew1|refine below_set ?_ GE303.out|refine below_set ?_ GE304.out)|exact HB.out)⟩
  ·rw [if_neg c4] at H
   have c4b0:(a0_1 == a1_1) = false:=beq_eq_false_iff_ne.mpr c4
   have c4b1:(a0_1 != a1_1) = true:=bne_iff_ne.mpr c4
   obtain rfl:=Option.some.inj H
   go_enter Try.func8,Try.ntmps8
   go_wp2_with (first|((with_reducible refine gate_dst (N:=2) rfl ?_);refine box_event ?hg (N:=2) ?hd (cs:=#[.int .i64 a0_0,.int .i64 a0_1,.string a0_2,.slice A0_3 l0_3.length c0_3,.slice A0_4 l0_4.length c0_4]) (t:=31) ?hr ?_;(case hd=>rfl);(case hg=>rfl);(case hr=>first|(go_simp;done)|(go_simp;rfl));intro gb303 hg w39 hbox hb;have n0_:=Aside0.mk (below_step (by repeat (first|(with_reducible first|exact HB.out|apply below_alloc|apply pw_below_drewN|apply below_drew1)|exact HB.out)) hb);have n1_:=Aside0.mk (hbox);have n2_:=Aside0.mk ((by rw [hg];exact (below_size (by repeat (first|(with_reducible first|exact HB.out|apply below_alloc|apply pw_below_drewN|apply below_drew1)|exact HB.out))):w.heap.size≤gb303));have n3_:=Aside0.mk ((by rw [hg];exact (below_size (by repeat (first|(with_reducible first|exact HB.out|apply below_alloc|apply pw_below_drewN|apply below_drew1)|exact HB.out))):w.heap.size≤gb303));clear HB;have HB:=n0_;have BK303:=n1_;have GW303:=n2_;have GE303:=n3_;clear n0_ n1_ n2_ n3_;clear hb hbox hg)|((with_reducible refine gate_dst (N:=3) rfl ?_);refine box_event ?hg (N:=3) ?hd (cs:=#[.int .i64 a1_0,.int .i64 a1_1,.string a1_2,.slice A1_3 l1_3.length c1_3,.slice A1_4 l1_4.length c1_4]) (t:=31) ?hr ?_;(case hd=>rfl);(case hg=>rfl);(case hr=>first|(go_simp;done)|(go_simp;rfl));intro gb304 hg w40 hbox hb;have n0_:=Aside0.mk (blk_below (g:=gb303) (o:=.cells #[.int .i64 a0_0,.int .i64 a0_1,.string a0_2,.slice A0_3 l0_3.length c0_3,.slice A0_4 l0_4.length c0_4] 31 (0,0)) (by (with_reducible repeat (first|refine blk_drewN ?_ _|refine blk_drew ?_|refine blk_alloc ?_ _));exact BK303.out) hb);have n1_:=Aside0.mk (below_step (by repeat (first|(with_reducible first|exact HB.out|apply below_alloc|apply pw_below_drewN|apply below_drew1|refine below_set ?_ GE303.out)|exact HB.out)) hb);have n2_:=Aside0.mk (hbox);have n3_:=Aside0.mk ((by rw [hg];exact (below_size (by repeat (first|(with_reducible first|exact HB.out|apply below_alloc|apply pw_below_drewN|apply below_drew1|refine below_set ?_ GE303.out)|exact HB.out))):w.heap.size≤gb304));have n4_:=Aside0.mk ((by rw [hg];exact (below_size (by repeat (first|(with_reducible first|exact HB.out|apply below_alloc|apply pw_below_drewN|apply below_drew1|refine below_set ?_ GE303.out)|exact HB.out))):w.heap.size≤gb304));have n5_:=Aside0.mk ((by rw [hg];exact Nat.ne_of_lt (blk_lt (g:=gb303) (o:=.cells #[.int .i64 a0_0,.int .i64 a0_1,.string a0_2,.slice A0_3 l0_3.length c0_3,.slice A0_4 l0_4.length c0_4] 31 (0,0)) (by (with_reducible repeat (first|refine blk_drewN ?_ _|refine blk_drew ?_|refine blk_alloc ?_ _));exact BK303.out)):gb303≠gb304));have n6_:=Aside0.mk ((by rw [hg];exact Nat.ne_of_gt (blk_lt (g:=gb303) (o:=.cells #[.int .i64 a0_0,.int .i64 a0_1,.string a0_2,.slice A0_3 l0_3.length c0_3,.slice A0_4 l0_4.length c0_4] 31 (0,0)) (by (with_reducible repeat (first|refine blk_drewN ?_ _|refine blk_drew ?_|refine blk_alloc ?_ _));exact BK303.out)):gb304≠gb303));clear BK303;clear HB;have BK303:=n0_;have HB:=n1_;have BK304:=n2_;have GW304:=n3_;have GE304:=n4_;have NB303_304:=n5_;have NB304_303:=n6_;clear n0_ n1_ n2_ n3_ n4_ n5_ n6_;clear hb hbox hg;have hnb41:=NB303_304.out;have hnc41:=NB304_303.out;have hcz42_0:w40.cell? ⟨gb303,0,none⟩ = some (.int .i64 a0_0):=(blk_cell BK303.out 0).trans rfl;have hcz42_1:w40.cell? ⟨gb303,1,none⟩ = some (.int .i64 a0_1):=(blk_cell BK303.out 1).trans rfl;have hcz42_2:w40.cell? ⟨gb303,2,none⟩ = some (.string a0_2):=(blk_cell BK303.out 2).trans rfl;have hcz42_3:w40.cell? ⟨gb303,3,none⟩ = some (.slice A0_3 l0_3.length c0_3):=(blk_cell BK303.out 3).trans rfl;have hcz42_4:w40.cell? ⟨gb303,4,none⟩ = some (.slice A0_4 l0_4.length c0_4):=(blk_cell BK303.out 4).trans rfl;have hfz42_0:=blk_frozen BK303.out 0;have hfz42_1:=blk_frozen BK303.out 1;have hfz42_2:=blk_frozen BK303.out 2;have hfz42_3:=blk_frozen BK303.out 3;have hfz42_4:=blk_frozen BK303.out 4;have hcz43_0:w40.cell? ⟨gb304,0,none⟩ = some (.int .i64 a1_0):=(blk_cell BK304.out 0).trans rfl;have hcz43_1:w40.cell? ⟨gb304,1,none⟩ = some (.int .i64 a1_1):=(blk_cell BK304.out 1).trans rfl;have hcz43_2:w40.cell? ⟨gb304,2,none⟩ = some (.string a1_2):=(blk_cell BK304.out 2).trans rfl;have hcz43_3:w40.cell? ⟨gb304,3,none⟩ = some (.slice A1_3 l1_3.length c1_3):=(blk_cell BK304.out 3).trans rfl;have hcz43_4:w40.cell? ⟨gb304,4,none⟩ = some (.slice A1_4 l1_4.length c1_4):=(blk_cell BK304.out 4).trans rfl;have hfz43_0:=blk_frozen BK304.out 0;have hfz43_1:=blk_frozen BK304.out 1;have hfz43_2:=blk_frozen BK304.out 2;have hfz43_3:=blk_frozen BK304.out 3;have hfz43_4:=blk_frozen BK304.out 4))
   go_ret
   exact ⟨by first|rfl|(simp [*,errW_none,errW_some] <;> rfl),by repeat (first|(with_reducible first|exact HB.out|apply below_alloc|apply pw_below_drewN|apply below_drew1|refine below_set ?_ GE303.out|refine below_set ?_ GE304.out)|exact HB.out)⟩
 ·rw [if_neg c3] at H
  have c3b0:(a0_0 == a1_0) = false:=beq_eq_false_iff_ne.mpr c3
  have c3b1:(a0_0 != a1_0) = true:=bne_iff_ne.mpr c3
  obtain rfl:=Option.some.inj H
  go_enter Try.func8,Try.ntmps8
  go_wp2_with (first|((with_reducible refine gate_dst (N:=2) rfl ?_);refine box_event ?hg (N:=2) ?hd (cs:=#[.int .i64 a0_0,.int .i64 a0_1,.string a0_2,.slice A0_3 l0_3.length c0_3,.slice A0_4 l0_4.length c0_4]) (t:=31) ?hr ?_;(case hd=>rfl);(case hg=>rfl);(case hr=>first|(go_simp;done)|(go_simp;rfl));intro gb303 hg w44 hbox hb;have n0_:=Aside0.mk (below_step (by repeat (first|(with_reducible first|exact HB.out|apply below_alloc|apply pw_below_drewN|apply below_drew1)|exact HB.out)) hb);have n1_:=Aside0.mk (hbox);have n2_:=Aside0.mk ((by rw [hg];exact (below_size (by repeat (first|(with_reducible first|exact HB.out|apply below_alloc|apply pw_below_drewN|apply below_drew1)|exact HB.out))):w.heap.size≤gb303));have n3_:=Aside0.mk ((by rw [hg];exact (below_size (by repeat (first|(with_reducible first|exact HB.out|apply below_alloc|apply pw_below_drewN|apply below_drew1)|exact HB.out))):w.heap.size≤gb303));clear HB;have HB:=n0_;have BK303:=n1_;have GW303:=n2_;have GE303:=n3_;clear n0_ n1_ n2_ n3_;clear hb hbox hg)|((with_reducible refine gate_dst (N:=3) rfl ?_);refine box_event ?hg (N:=3) ?hd (cs:=#[.int .i64 a1_0,.int .i64 a1_1,.string a1_2,.slice A1_3 l1_3.length c1_3,.slice A1_4 l1_4.length c1_4]) (t:=31) ?hr ?_;(case hd=>rfl);(case hg=>rfl);(case hr=>first|(go_simp;done)|(go_simp;rfl));intro gb304 hg w45 hbox hb;have n0_:=Aside0.mk (blk_below (g:=gb303) (o:=.cells #[.int .i64 a0_0,.int .i64 a0_1,.string a0_2,.slice A0_3 l0_3.length c0_3,.slice A0_4 l0_4.length c0_4] 31 (0,0)) (by (with_reducible repeat (first|refine blk_drewN ?_ _|refine blk_drew ?_|refine blk_alloc ?_ _));exact BK303.out) hb);have n1_:=Aside0.mk (below_step (by repeat (first|(with_reducible first|exact HB.out|apply below_alloc|apply pw_below_drewN|apply below_drew1|refine below_set ?_ GE303.out)|exact HB.out)) hb);have n2_:=Aside0.mk (hbox);have n3_:=Aside0.mk ((by rw [hg];exact (below_size (by repeat (first|(with_reducible first|exact HB.out|apply below_alloc|apply pw_below_drewN|apply below_drew1|refine below_set ?_ GE303.out)|exact HB.out))):w.heap.size≤gb304));have n4_:=Aside0.mk ((by rw [hg];exact (below_size (by repeat (first|(with_reducible first|exact HB.out|apply below_alloc|apply pw_below_drewN|apply below_drew1|refine below_set ?_ GE303.out)|exact HB.out))):w.heap.size≤gb304));have n5_:=Aside0.mk ((by rw [hg];exact Nat.ne_of_lt (blk_lt (g:=gb303) (o:=.cells #[.int .i64 a0_0,.int .i64 a0_1,.string a0_2,.slice A0_3 l0_3.length c0_3,.slice A0_4 l0_4.length c0_4] 31 (0,0)) (by (with_reducible repeat (first|refine blk_drewN ?_ _|refine blk_drew ?_|refine blk_alloc ?_ _));exact BK303.out)):gb303≠gb304));have n6_:=Aside0.mk ((by rw [hg];exact Nat.ne_of_gt (blk_lt (g:=gb303) (o:=.cells #[.int .i64 a0_0,.int .i64 a0_1,.string a0_2,.slice A0_3 l0_3.length c0_3,.slice A0_4 l0_4.length c0_4] 31 (0,0)) (by (with_reducible repeat (first|refine blk_drewN ?_ _|refine blk_drew ?_|refine blk_alloc ?_ _));exact BK303.out)):gb304≠gb303));clear BK303;clear HB;have BK303:=n0_;have HB:=n1_;have BK304:=n2_;have GW304:=n3_;have GE304:=n4_;have NB303_304:=n5_;have NB304_303:=n6_;clear n0_ n1_ n2_ n3_ n4_ n5_ n6_;clear hb hbox hg;have hnb46:=NB303_304.out;have hnc46:=NB304_303.out;have hcz47_0:w45.cell? ⟨gb303,0,none⟩ = some (.int .i64 a0_0):=(blk_cell BK303.out 0).trans rfl;have hcz47_1:w45.cell? ⟨gb303,1,none⟩ = some (.int .i64 a0_1):=(blk_cell BK303.out 1).trans rfl;have hcz47_2:w45.cell? ⟨gb303,2,none⟩ = some (.string a0_2):=(blk_cell BK303.out 2).trans rfl;have hcz47_3:w45.cell? ⟨gb303,3,none⟩ = some (.slice A0_3 l0_3.length c0_3):=(blk_cell BK303.out 3).trans rfl;have hcz47_4:w45.cell? ⟨gb303,4,none⟩ = some (.slice A0_4 l0_4.length c0_4):=(blk_cell BK303.out 4).trans rfl;have hfz47_0:=blk_frozen BK303.out 0;have hfz47_1:=blk_frozen BK303.out 1;have hfz47_2:=blk_frozen BK303.out 2;have hfz47_3:=blk_frozen BK303.out 3;have hfz47_4:=blk_frozen BK303.out 4;have hcz48_0:w45.cell? ⟨gb304,0,none⟩ = some (.int .i64 a1_0):=(blk_cell BK304.out 0).trans rfl;have hcz48_1:w45.cell? ⟨gb304,1,none⟩ = some (.int .i64 a1_1):=(blk_cell BK304.out 1).trans rfl;have hcz48_2:w45.cell? ⟨gb304,2,none⟩ = some (.string a1_2):=(blk_cell BK304.out 2).trans rfl;have hcz48_3:w45.cell? ⟨gb304,3,none⟩ = some (.slice A1_3 l1_3.length c1_3):=(blk_cell BK304.out 3).trans rfl;have hcz48_4:w45.cell? ⟨gb304,4,none⟩ = some (.slice A1_4 l1_4.length c1_4):=(blk_cell BK304.out 4).trans rfl;have hfz48_0:=blk_frozen BK304.out 0;have hfz48_1:=blk_frozen BK304.out 1;have hfz48_2:=blk_frozen BK304.out 2;have hfz48_3:=blk_frozen BK304.out 3;have hfz48_4:=blk_frozen BK304.out 4))
  go_ret
  exact ⟨by first|rfl|(simp [*,errW_none,errW_some] <;> rfl),by repeat (first|(with_reducible first|exact HB.out|apply below_alloc|apply pw_below_drewN|apply below_drew1|refine below_set ?_ GE303.out|refine below_set ?_ GE304.out)|exact HB.out)⟩

theorem laws_eqExprS.all (k:Nat):(∀ (A0:Option Addr) (c0:Nat) (l0:List (S31)) (A1:Option Addr) (c1:Nat) (l1:List (S31)) (r:Bool) (w:World) (hr0:Kd.C k31 w A0 l0.length l0) (hc0:l0.length≤c0) (hr1:Kd.C k31 w A1 l1.length l1) (hc1:l1.length≤c1) (h:laws_eqExprS.f k l0 l1 = some r),Calls Try.prog 15 #[.slice A0 l0.length c0,.slice A1 l1.length c1] w fun e w'=>e = .returned (.bool r)∧Below w.heap.size w w')∧(∀ (a0_0:Int) (a0_1:Int) (a0_2:ByteArray) (A0_3:Option Addr) (c0_3:Nat) (l0_3:List (S31)) (A0_4:Option Addr) (c0_4:Nat) (l0_4:List (S53)) (a0_5:Int) (a0_6:Int) (a0_7:ByteArray) (A0_8:Option Addr) (c0_8:Nat) (l0_8:List (S31)) (A0_9:Option Addr) (c0_9:Nat) (l0_9:List (S53)) (a1_0:Int) (a1_1:Int) (a1_2:ByteArray) (A1_3:Option Addr) (c1_3:Nat) (l1_3:List (S31)) (A1_4:Option Addr) (c1_4:Nat) (l1_4:List (S53)) (a1_5:Int) (a1_6:Int) (a1_7:ByteArray) (A1_8:Option Addr) (c1_8:Nat) (l1_8:List (S31)) (A1_9:Option Addr) (c1_9:Nat) (l1_9:List (S53)) (r:Bool) (w:World) (hr0_3:Kd.C k31 w A0_3 l0_3.length l0_3) (hc0_3:l0_3.length≤c0_3) (hr0_4:Kd.C k53 w A0_4 l0_4.length l0_4) (hc0_4:l0_4.length≤c0_4) (hr0_8:Kd.C k31 w A0_8 l0_8.length l0_8) (hc0_8:l0_8.length≤c0_8) (hr0_9:Kd.C k53 w A0_9 l0_9.length l0_9) (hc0_9:l0_9.length≤c0_9) (hr1_3:Kd.C k31 w A1_3 l1_3.length l1_3) (hc1_3:l1_3.length≤c1_3) (hr1_4:Kd.C k53 w A1_4 l1_4.length l1_4) (hc1_4:l1_4.length≤c1_4) (hr1_8:Kd.C k31 w A1_8 l1_8.length l1_8) (hc1_8:l1_8.length≤c1_8) (hr1_9:Kd.C k53 w A1_9 l1_9.length l1_9) (hc1_9:l1_9.length≤c1_9) (h:laws_eqClause.f k a0_0 a0_1 a0_2 l0_3 l0_4 a0_5 a0_6 a0_7 l0_8 l0_9 a1_0 a1_1 a1_2 l1_3 l1_4 a1_5 a1_6 a1_7 l1_8 l1_9 = some r),Calls Try.prog 24 #[.agg #[.int .i64 a0_0,.int .i64 a0_1,.string a0_2,.slice A0_3 l0_3.length c0_3,.slice A0_4 l0_4.length c0_4,.int .i64 a0_5,.int .i64 a0_6,.string a0_7,.slice A0_8 l0_8.length c0_8,.slice A0_9 l0_9.length c0_9],.agg #[.int .i64 a1_0,.int .i64 a1_1,.string a1_2,.slice A1_3 l1_3.length c1_3,.slice A1_4 l1_4.length c1_4,.int .i64 a1_5,.int .i64 a1_6,.string a1_7,.slice A1_8 l1_8.length c1_8,.slice A1_9 l1_9.length c1_9]] w fun e w'=>e = .returned (.bool r)∧Below w.heap.size w w')∧(∀ (A0:Option Addr) (c0:Nat) (l0:List (S53)) (A1:Option Addr) (c1:Nat) (l1:List (S53)) (r:Bool) (w:World) (hr0:Kd.C k53 w A0 l0.length l0) (hc0:l0.length≤c0) (hr1:Kd.C k53 w A1 l1.length l1) (hc1:l1.length≤c1) (h:laws_eqClauseS.f k l0 l1 = some r),Calls Try.prog 16 #[.slice A0 l0.length c0,.slice A1 l1.length c1] w fun e w'=>e = .returned (.bool r)∧Below w.heap.size w w')∧(∀ (a0_0:Int) (a0_1:Int) (a0_2:ByteArray) (A0_3:Option Addr) (c0_3:Nat) (l0_3:List (S31)) (A0_4:Option Addr) (c0_4:Nat) (l0_4:List (S53)) (a1_0:Int) (a1_1:Int) (a1_2:ByteArray) (A1_3:Option Addr) (c1_3:Nat) (l1_3:List (S31)) (A1_4:Option Addr) (c1_4:Nat) (l1_4:List (S53)) (r:Bool) (w:World) (hr0_3:Kd.C k31 w A0_3 l0_3.length l0_3) (hc0_3:l0_3.length≤c0_3) (hr0_4:Kd.C k53 w A0_4 l0_4.length l0_4) (hc0_4:l0_4.length≤c0_4) (hr1_3:Kd.C k31 w A1_3 l1_3.length l1_3) (hc1_3:l1_3.length≤c1_3) (hr1_4:Kd.C k53 w A1_4 l1_4.length l1_4) (hc1_4:l1_4.length≤c1_4) (h:laws_eqExpr.f k a0_0 a0_1 a0_2 l0_3 l0_4 a1_0 a1_1 a1_2 l1_3 l1_4 = some r),Calls Try.prog 8 #[.agg #[.int .i64 a0_0,.int .i64 a0_1,.string a0_2,.slice A0_3 l0_3.length c0_3,.slice A0_4 l0_4.length c0_4],.agg #[.int .i64 a1_0,.int .i64 a1_1,.string a1_2,.slice A1_3 l1_3.length c1_3,.slice A1_4 l1_4.length c1_4]] w fun e w'=>e = .returned (.bool r)∧Below w.heap.size w w'):=by
 induction k using Nat.strongRecOn with
 | _ k ih =>
 exact ⟨laws_eqExprS.step k (fun k_ h_=>(ih k_ h_).1) (fun k_ h_=>(ih k_ h_).2.1) (fun k_ h_=>(ih k_ h_).2.2.1) (fun k_ h_=>(ih k_ h_).2.2.2),laws_eqClause.step k (fun k_ h_=>(ih k_ h_).1) (fun k_ h_=>(ih k_ h_).2.1) (fun k_ h_=>(ih k_ h_).2.2.1) (fun k_ h_=>(ih k_ h_).2.2.2),laws_eqClauseS.step k (fun k_ h_=>(ih k_ h_).1) (fun k_ h_=>(ih k_ h_).2.1) (fun k_ h_=>(ih k_ h_).2.2.1) (fun k_ h_=>(ih k_ h_).2.2.2),laws_eqExpr.step k (fun k_ h_=>(ih k_ h_).1) (fun k_ h_=>(ih k_ h_).2.1) (fun k_ h_=>(ih k_ h_).2.2.1) (fun k_ h_=>(ih k_ h_).2.2.2)⟩
theorem laws_eqExprS.calls (k:Nat):∀ (A0:Option Addr) (c0:Nat) (l0:List (S31)) (A1:Option Addr) (c1:Nat) (l1:List (S31)) (r:Bool) (w:World) (hr0:Kd.C k31 w A0 l0.length l0) (hc0:l0.length≤c0) (hr1:Kd.C k31 w A1 l1.length l1) (hc1:l1.length≤c1) (h:laws_eqExprS.f k l0 l1 = some r),Calls Try.prog 15 #[.slice A0 l0.length c0,.slice A1 l1.length c1] w fun e w'=>e = .returned (.bool r)∧Below w.heap.size w w':=(laws_eqExprS.all k).1
theorem laws_eqClause.calls (k:Nat):∀ (a0_0:Int) (a0_1:Int) (a0_2:ByteArray) (A0_3:Option Addr) (c0_3:Nat) (l0_3:List (S31)) (A0_4:Option Addr) (c0_4:Nat) (l0_4:List (S53)) (a0_5:Int) (a0_6:Int) (a0_7:ByteArray) (A0_8:Option Addr) (c0_8:Nat) (l0_8:List (S31)) (A0_9:Option Addr) (c0_9:Nat) (l0_9:List (S53)) (a1_0:Int) (a1_1:Int) (a1_2:ByteArray) (A1_3:Option Addr) (c1_3:Nat) (l1_3:List (S31)) (A1_4:Option Addr) (c1_4:Nat) (l1_4:List (S53)) (a1_5:Int) (a1_6:Int) (a1_7:ByteArray) (A1_8:Option Addr) (c1_8:Nat) (l1_8:List (S31)) (A1_9:Option Addr) (c1_9:Nat) (l1_9:List (S53)) (r:Bool) (w:World) (hr0_3:Kd.C k31 w A0_3 l0_3.length l0_3) (hc0_3:l0_3.length≤c0_3) (hr0_4:Kd.C k53 w A0_4 l0_4.length l0_4) (hc0_4:l0_4.length≤c0_4) (hr0_8:Kd.C k31 w A0_8 l0_8.length l0_8) (hc0_8:l0_8.length≤c0_8) (hr0_9:Kd.C k53 w A0_9 l0_9.length l0_9) (hc0_9:l0_9.length≤c0_9) (hr1_3:Kd.C k31 w A1_3 l1_3.length l1_3) (hc1_3:l1_3.length≤c1_3) (hr1_4:Kd.C k53 w A1_4 l1_4.length l1_4) (hc1_4:l1_4.length≤c1_4) (hr1_8:Kd.C k31 w A1_8 l1_8.length l1_8) (hc1_8:l1_8.length≤c1_8) (hr1_9:Kd.C k53 w A1_9 l1_9.length l1_9) (hc1_9:l1_9.length≤c1_9) (h:laws_eqClause.f k a0_0 a0_1 a0_2 l0_3 l0_4 a0_5 a0_6 a0_7 l0_8 l0_9 a1_0 a1_1 a1_2 l1_3 l1_4 a1_5 a1_6 a1_7 l1_8 l1_9 = some r),Calls Try.prog 24 #[.agg #[.int .i64 a0_0,.int .i64 a0_1,.string a0_2,.slice A0_3 l0_3.length c0_3,.slice A0_4 l0_4.length c0_4,.int .i64 a0_5,.int .i64 a0_6,.string a0_7,.slice A0_8 l0_8.length c0_8,.slice A0_9 l0_9.length c0_9],.agg #[.int .i64 a1_0,.int .i64 a1_1,.string a1_2,.slice A1_3 l1_3.length c1_3,.slice A1_4 l1_4.length c1_4,.int .i64 a1_5,.int .i64 a1_6,.string a1_7,.slice A1_8 l1_8.length c1_8,.slice A1_9 l1_9.length c1_9]] w fun e w'=>e = .returned (.bool r)∧Below w.heap.size w w':=(laws_eqExprS.all k).2.1
theorem laws_eqClauseS.calls (k:Nat):∀ (A0:Option Addr) (c0:Nat) (l0:List (S53)) (A1:Option Addr) (c1:Nat) (l1:List (S53)) (r:Bool) (w:World) (hr0:Kd.C k53 w A0 l0.length l0) (hc0:l0.length≤c0) (hr1:Kd.C k53 w A1 l1.length l1) (hc1:l1.length≤c1) (h:laws_eqClauseS.f k l0 l1 = some r),Calls Try.prog 16 #[.slice A0 l0.length c0,.slice A1 l1.length c1] w fun e w'=>e = .returned (.bool r)∧Below w.heap.size w w':=(laws_eqExprS.all k).2.2.1
theorem laws_eqExpr.calls (k:Nat):∀ (a0_0:Int) (a0_1:Int) (a0_2:ByteArray) (A0_3:Option Addr) (c0_3:Nat) (l0_3:List (S31)) (A0_4:Option Addr) (c0_4:Nat) (l0_4:List (S53)) (a1_0:Int) (a1_1:Int) (a1_2:ByteArray) (A1_3:Option Addr) (c1_3:Nat) (l1_3:List (S31)) (A1_4:Option Addr) (c1_4:Nat) (l1_4:List (S53)) (r:Bool) (w:World) (hr0_3:Kd.C k31 w A0_3 l0_3.length l0_3) (hc0_3:l0_3.length≤c0_3) (hr0_4:Kd.C k53 w A0_4 l0_4.length l0_4) (hc0_4:l0_4.length≤c0_4) (hr1_3:Kd.C k31 w A1_3 l1_3.length l1_3) (hc1_3:l1_3.length≤c1_3) (hr1_4:Kd.C k53 w A1_4 l1_4.length l1_4) (hc1_4:l1_4.length≤c1_4) (h:laws_eqExpr.f k a0_0 a0_1 a0_2 l0_3 l0_4 a1_0 a1_1 a1_2 l1_3 l1_4 = some r),Calls Try.prog 8 #[.agg #[.int .i64 a0_0,.int .i64 a0_1,.string a0_2,.slice A0_3 l0_3.length c0_3,.slice A0_4 l0_4.length c0_4],.agg #[.int .i64 a1_0,.int .i64 a1_1,.string a1_2,.slice A1_3 l1_3.length c1_3,.slice A1_4 l1_4.length c1_4]] w fun e w'=>e = .returned (.bool r)∧Below w.heap.size w w':=(laws_eqExprS.all k).2.2.2

end Go.Proofs.Ytjgegnkphkfmoaa.QFnExactExprOk
