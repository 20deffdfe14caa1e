-- Written by a program of this workplace (print2.py) for this claim, over the print's words.
import Derived.Test.YtlgenmndgngmdaaQFnExactFreeOfx0
namespace Go.Proofs.Ytlgenmndgngmdaa.QFnExactFreeOf
open Go.RowKit Go.Proofs.YtlgenmndgngmdaaW.PrintWords Go.Proofs.YtlgenmndgngmdaaW.PrintLast Go.Proofs.YtlgenmndgngmdaaW.PrintMore
attribute [local go_sem] max2_int min2_int max_two min_two max_three min_three max_four min_four   -- for this text's walks alone
set_option linter.unusedVariables false
set_option linter.unusedSimpArgs false

mutual
def laws_szExprS.l0:Nat → List (S25) → Int → Int → Option (Int)
 | 0,_,_,_=>none
 | k + 1,x0,x1,x5=>if x5 < (x0.length:Int) then (if 0≤x5 then ((laws_szExpr.f k ((rd_T25 x0 x5).f0) ((rd_T25 x0 x5).f1) ((rd_T25 x0 x5).f2) ((rd_T25 x0 x5).f3) ((rd_T25 x0 x5).f4) x1).bind fun t102=>(if t102 < 0 then (some (-1)) else (laws_szExprS.l0 k x0 t102 (wrap64 (x5 + 1))))) else (none)) else (some x1)
def laws_szExprS.f:Nat → List (S25) → Int → Option (Int)
 | 0,_,_=>none
 | k + 1,l0,a1=>if (wrap64 (a1 - (l0.length:Int))) < 0 then (some (-1)) else (laws_szExprS.l0 k l0 (wrap64 (a1 - (l0.length:Int))) 0)
def laws_szClause.f:Nat → Int → Int → ByteArray → List (S25) → List (S55) → Int → Int → ByteArray → List (S25) → List (S55) → Int → Option (Int)
 | 0,_,_,_,_,_,_,_,_,_,_,_=>none
 | k + 1,a0_0,a0_1,a0_2,l0_3,l0_4,a0_5,a0_6,a0_7,l0_8,l0_9,a1=>(laws_szExpr.f k a0_0 a0_1 a0_2 l0_3 l0_4 a1).bind fun t104=>(if t104 < 0 then (some (-1)) else ((laws_szExpr.f k a0_5 a0_6 a0_7 l0_8 l0_9 t104).bind fun t105=>(if t105 < 0 then (some (-1)) else (some t105))))
def laws_szClauseS.l0:Nat → List (S55) → Int → Int → Option (Int)
 | 0,_,_,_=>none
 | k + 1,x0,x1,x5=>if x5 < (x0.length:Int) then (if 0≤x5 then ((laws_szClause.f k ((rd_T55 x0 x5).f0.f0) ((rd_T55 x0 x5).f0.f1) ((rd_T55 x0 x5).f0.f2) ((rd_T55 x0 x5).f0.f3) ((rd_T55 x0 x5).f0.f4) ((rd_T55 x0 x5).f1.f0) ((rd_T55 x0 x5).f1.f1) ((rd_T55 x0 x5).f1.f2) ((rd_T55 x0 x5).f1.f3) ((rd_T55 x0 x5).f1.f4) x1).bind fun t107=>(if t107 < 0 then (some (-1)) else (laws_szClauseS.l0 k x0 t107 (wrap64 (x5 + 1))))) else (none)) else (some x1)
def laws_szClauseS.f:Nat → List (S55) → Int → Option (Int)
 | 0,_,_=>none
 | k + 1,l0,a1=>if (wrap64 (a1 - (l0.length:Int))) < 0 then (some (-1)) else (laws_szClauseS.l0 k l0 (wrap64 (a1 - (l0.length:Int))) 0)
def laws_szExpr.f:Nat → Int → Int → ByteArray → List (S25) → List (S55) → Int → Option (Int)
 | 0,_,_,_,_,_,_=>none
 | k + 1,a0_0,a0_1,a0_2,l0_3,l0_4,a1=>if (wrap64 (a1 - (a0_2.size:Int))) < 0 then (some (-1)) else ((laws_szExprS.f k l0_3 (wrap64 (a1 - (a0_2.size:Int)))).bind fun t109=>(if t109 < 0 then (some (-1)) else ((laws_szClauseS.f k l0_4 t109).bind fun t110=>(if t110 < 0 then (some (-1)) else (some t110)))))
end
theorem laws_szExprS.mono_g:∀ k,(∀ y0 y1,LeO (laws_szExprS.f k y0 y1) (laws_szExprS.f (k + 1) y0 y1))∧(∀ y0 y1 y2,LeO (laws_szExprS.l0 k y0 y1 y2) (laws_szExprS.l0 (k + 1) y0 y1 y2))∧(∀ y0 y1 y2 y3 y4 y5 y6 y7 y8 y9 y10,LeO (laws_szClause.f k y0 y1 y2 y3 y4 y5 y6 y7 y8 y9 y10) (laws_szClause.f (k + 1) y0 y1 y2 y3 y4 y5 y6 y7 y8 y9 y10))∧(∀ y0 y1,LeO (laws_szClauseS.f k y0 y1) (laws_szClauseS.f (k + 1) y0 y1))∧(∀ y0 y1 y2,LeO (laws_szClauseS.l0 k y0 y1 y2) (laws_szClauseS.l0 (k + 1) y0 y1 y2))∧(∀ y0 y1 y2 y3 y4 y5,LeO (laws_szExpr.f k y0 y1 y2 y3 y4 y5) (laws_szExpr.f (k + 1) y0 y1 y2 y3 y4 y5))
 | 0=>⟨fun _ _ r h=>by simp [laws_szExprS.f] at h,fun _ _ _ r h=>by simp [laws_szExprS.l0] at h,fun _ _ _ _ _ _ _ _ _ _ _ r h=>by simp [laws_szClause.f] at h,fun _ _ r h=>by simp [laws_szClauseS.f] at h,fun _ _ _ r h=>by simp [laws_szClauseS.l0] at h,fun _ _ _ _ _ _ r h=>by simp [laws_szExpr.f] at h⟩
 | k + 1=>by
  obtain ⟨ih0,ih1,ih2,ih3,ih4,ih5⟩:=laws_szExprS.mono_g k
  refine ⟨?_,?_,?_,?_,?_,?_⟩
  ·intro y0 y1
   unfold laws_szExprS.f
   with_reducible repeat' first|apply ih0|apply ih1|apply ih2|apply ih3|apply ih4|apply ih5|apply LeO.refl|apply LeO.none|apply LeO.ite|refine LeO.bind ?_ (fun _=>?_)
  ·intro y0 y1 y2
   unfold laws_szExprS.l0
   with_reducible repeat' first|apply ih0|apply ih1|apply ih2|apply ih3|apply ih4|apply ih5|apply LeO.refl|apply LeO.none|apply LeO.ite|refine LeO.bind ?_ (fun _=>?_)
  ·intro y0 y1 y2 y3 y4 y5 y6 y7 y8 y9 y10
   unfold laws_szClause.f
   with_reducible repeat' first|apply ih0|apply ih1|apply ih2|apply ih3|apply ih4|apply ih5|apply LeO.refl|apply LeO.none|apply LeO.ite|refine LeO.bind ?_ (fun _=>?_)
  ·intro y0 y1
   unfold laws_szClauseS.f
   with_reducible repeat' first|apply ih0|apply ih1|apply ih2|apply ih3|apply ih4|apply ih5|apply LeO.refl|apply LeO.none|apply LeO.ite|refine LeO.bind ?_ (fun _=>?_)
  ·intro y0 y1 y2
   unfold laws_szClauseS.l0
   with_reducible repeat' first|apply ih0|apply ih1|apply ih2|apply ih3|apply ih4|apply ih5|apply LeO.refl|apply LeO.none|apply LeO.ite|refine LeO.bind ?_ (fun _=>?_)
  ·intro y0 y1 y2 y3 y4 y5
   unfold laws_szExpr.f
   with_reducible repeat' first|apply ih0|apply ih1|apply ih2|apply ih3|apply ih4|apply ih5|apply LeO.refl|apply LeO.none|apply LeO.ite|refine LeO.bind ?_ (fun _=>?_)
theorem laws_szExprS.mono:∀ a0 a1 k,LeO (laws_szExprS.f k a0 a1) (laws_szExprS.f (k + 1) a0 a1):=by
 intro a0 a1 k;obtain ⟨ih0,ih1,ih2,ih3,ih4,ih5⟩:=laws_szExprS.mono_g k
 exact ih0 a0 a1
theorem laws_szClause.mono:∀ a0 a1 a2 a3 a4 a5 a6 a7 a8 a9 a10 k,LeO (laws_szClause.f k a0 a1 a2 a3 a4 a5 a6 a7 a8 a9 a10) (laws_szClause.f (k + 1) a0 a1 a2 a3 a4 a5 a6 a7 a8 a9 a10):=by
 intro a0 a1 a2 a3 a4 a5 a6 a7 a8 a9 a10 k;obtain ⟨ih0,ih1,ih2,ih3,ih4,ih5⟩:=laws_szExprS.mono_g k
 exact ih2 a0 a1 a2 a3 a4 a5 a6 a7 a8 a9 a10
theorem laws_szClauseS.mono:∀ a0 a1 k,LeO (laws_szClauseS.f k a0 a1) (laws_szClauseS.f (k + 1) a0 a1):=by
 intro a0 a1 k;obtain ⟨ih0,ih1,ih2,ih3,ih4,ih5⟩:=laws_szExprS.mono_g k
 exact ih3 a0 a1
theorem laws_szExpr.mono:∀ a0 a1 a2 a3 a4 a5 k,LeO (laws_szExpr.f k a0 a1 a2 a3 a4 a5) (laws_szExpr.f (k + 1) a0 a1 a2 a3 a4 a5):=by
 intro a0 a1 a2 a3 a4 a5 k;obtain ⟨ih0,ih1,ih2,ih3,ih4,ih5⟩:=laws_szExprS.mono_g k
 exact ih5 a0 a1 a2 a3 a4 a5
/-! ### laws_szExprS: function 13 -/
set_option maxHeartbeats 8000000 in
set_option maxRecDepth 100000 in
theorem laws_szExprS.step (k:Nat) (ih_laws_szExprS:∀ k_,k_ < k → ∀ (A0:Option Addr) (c0:Nat) (l0:List (S25)) (a1:Int) (r:Int) (w:World) (hr0:Kd.C k25 w A0 l0.length l0) (hc0:l0.length≤c0) (h:laws_szExprS.f k_ l0 a1 = some r),Calls Try.prog 13 #[.slice A0 l0.length c0,.int .i64 a1] w fun e w'=>e = .returned (.int .i64 r)∧Below w.heap.size w w') (ih_laws_szClause:∀ k_,k_ < k → ∀ (a0_0:Int) (a0_1:Int) (a0_2:ByteArray) (A0_3:Option Addr) (c0_3:Nat) (l0_3:List (S25)) (A0_4:Option Addr) (c0_4:Nat) (l0_4:List (S55)) (a0_5:Int) (a0_6:Int) (a0_7:ByteArray) (A0_8:Option Addr) (c0_8:Nat) (l0_8:List (S25)) (A0_9:Option Addr) (c0_9:Nat) (l0_9:List (S55)) (a1:Int) (r:Int) (w:World) (hr0_3:Kd.C k25 w A0_3 l0_3.length l0_3) (hc0_3:l0_3.length≤c0_3) (hr0_4:Kd.C k55 w A0_4 l0_4.length l0_4) (hc0_4:l0_4.length≤c0_4) (hr0_8:Kd.C k25 w A0_8 l0_8.length l0_8) (hc0_8:l0_8.length≤c0_8) (hr0_9:Kd.C k55 w A0_9 l0_9.length l0_9) (hc0_9:l0_9.length≤c0_9) (h:laws_szClause.f k_ a0_0 a0_1 a0_2 l0_3 l0_4 a0_5 a0_6 a0_7 l0_8 l0_9 a1 = some r),Calls Try.prog 26 #[.agg #[.int .i64 a0_0,.int .i64 a0_1,.string a0_2,.slice A0_3 l0_3.length c0_3,.slice A0_4 l0_4.length c0_4,.int .i64 a0_5,.int .i64 a0_6,.string a0_7,.slice A0_8 l0_8.length c0_8,.slice A0_9 l0_9.length c0_9],.int .i64 a1] w fun e w'=>e = .returned (.int .i64 r)∧Below w.heap.size w w') (ih_laws_szClauseS:∀ k_,k_ < k → ∀ (A0:Option Addr) (c0:Nat) (l0:List (S55)) (a1:Int) (r:Int) (w:World) (hr0:Kd.C k55 w A0 l0.length l0) (hc0:l0.length≤c0) (h:laws_szClauseS.f k_ l0 a1 = some r),Calls Try.prog 14 #[.slice A0 l0.length c0,.int .i64 a1] w fun e w'=>e = .returned (.int .i64 r)∧Below w.heap.size w w') (ih_laws_szExpr:∀ k_,k_ < k → ∀ (a0_0:Int) (a0_1:Int) (a0_2:ByteArray) (A0_3:Option Addr) (c0_3:Nat) (l0_3:List (S25)) (A0_4:Option Addr) (c0_4:Nat) (l0_4:List (S55)) (a1:Int) (r:Int) (w:World) (hr0_3:Kd.C k25 w A0_3 l0_3.length l0_3) (hc0_3:l0_3.length≤c0_3) (hr0_4:Kd.C k55 w A0_4 l0_4.length l0_4) (hc0_4:l0_4.length≤c0_4) (h:laws_szExpr.f k_ a0_0 a0_1 a0_2 l0_3 l0_4 a1 = some r),Calls Try.prog 4 #[.agg #[.int .i64 a0_0,.int .i64 a0_1,.string a0_2,.slice A0_3 l0_3.length c0_3,.slice A0_4 l0_4.length c0_4],.int .i64 a1] w fun e w'=>e = .returned (.int .i64 r)∧Below w.heap.size w w'):∀ (A0:Option Addr) (c0:Nat) (l0:List (S25)) (a1:Int) (r:Int) (w:World) (hr0:Kd.C k25 w A0 l0.length l0) (hc0:l0.length≤c0) (h:laws_szExprS.f k l0 a1 = some r),
  Calls Try.prog 13 #[.slice A0 l0.length c0,.int .i64 a1] w fun e w'=>e = .returned (.int .i64 r)∧Below w.heap.size w w':=by
 intro A0 c0 l0 a1 r w hr0 hc0 h
 cases k with
 | zero=>exact absurd h (by simp [laws_szExprS.f])
 | succ k =>
 simp only [laws_szExprS.f] at h;have hu25:=Try.underlying25;have HR0:=Aside0.mk hr0;have HC0:=Aside0.mk hc0;clear hr0 hc0;have HB:=Aside0.mk (Below.refl w.heap.size w);have H:(if (wrap64 (a1 - (l0.length:Int))) < 0 then (some (-1)) else (laws_szExprS.l0 k l0 (wrap64 (a1 - (l0.length:Int))) 0)) = some r:=h;clear h
 by_cases c3:(wrap64 (a1 - (l0.length:Int))) < 0
 ·rw [if_pos c3] at H
  have c3b0:decide ((wrap64 (a1 - (l0.length:Int))) < 0) = true:=decide_eq_true c3;clear c3;obtain rfl:=Option.some.inj H
  go_enter Try.func13,Try.ntmps13
  go_wp2
  go_ret
  exact ⟨cl,bl HB.out⟩
 ·rw [if_neg c3] at H
  have c3b0:decide ((wrap64 (a1 - (l0.length:Int))) < 0) = false:=decide_eq_false c3;clear c3;have H':=Aside0.mk H;clear H
  go_enter Try.func13,Try.ntmps13
  go_wp2
  go_loopg [1,5] k (fun kq v1 v5 w'=>∃ (x1_1:Int) (x5_1:Int),v1 = .int .i64 x1_1∧v5 = .int .i64 x5_1∧Aside0 (laws_szExprS.l0 kq l0 x1_1 x5_1 = some r)∧Aside0 (kq≤k)∧Aside0 (Below w.heap.size w w'))
  case atStart=>exact ⟨(wrap64 (a1 - (l0.length:Int))),(0),(cl2),(cl2),H',⟨Nat.le_refl _⟩,⟨bl HB.out⟩⟩
  case round =>
   clear H';(try clear c1);(try clear p2);(try clear c3);(try clear c3b0);(try clear HB);obtain ⟨x1_1,x5_1,rfl,rfl,HA,HK1,HB⟩:=hrel
   cases gk with
   | zero=>exact absurd HA.out (by simp [laws_szExprS.l0])
   | succ k1 =>
    have H:=HA.out;clear HA;simp only [laws_szExprS.l0] at H
    by_cases c4:x5_1 < (l0.length:Int)
    ·rw [if_pos c4] at H
     have c4b0:decide (x5_1 < (l0.length:Int)) = true:=decide_eq_true c4;clear c4
     by_cases c5:0≤x5_1
     ·rw [if_pos c5] at H
      have c5b0:decide (0≤x5_1) = true:=decide_eq_true c5;clear c5;replace H:=Option.bind_eq_some_iff.mp H;obtain ⟨t102,A60,H⟩:=H;replace H:(if t102 < 0 then (some (-1)) else (laws_szExprS.l0 k1 l0 t102 (wrap64 (x5_1 + 1)))) = some r:=H;have A6:=Aside0.mk A60;clear A60
      by_cases c7:t102 < 0
      ·rw [if_pos c7] at H
       have c7b0:decide (t102 < 0) = true:=decide_eq_true c7;clear c7;obtain rfl:=Option.some.inj H;have p101:0≤(x5_1:Int):=od;have q101:x5_1 < (l0.length:Int):=od;obtain ⟨ad101,A101_3,c101_3,A101_4,c101_4,e101,hx101_0,hx101_1,hx101_2,hx101_3,hx101_4,hl101_3,hi101_3,hl101_4,hi101_4⟩:=at_T25 HR0.out x5_1 p101 q101;cases e101;replace hx101_0:=cb HB hx101_0;replace hx101_1:=cb HB hx101_1;replace hx101_2:=cb HB hx101_2;replace hx101_3:=cb HB hx101_3;replace hx101_4:=cb HB hx101_4;have HR101_3:=Aside0.mk hi101_3;have HC101_3:=Aside0.mk hl101_3;clear hi101_3 hl101_3;have HR101_4:=Aside0.mk hi101_4;have HC101_4:=Aside0.mk hl101_4;clear hi101_4 hl101_4;replace p101:=eq_true p101;replace q101:=eq_true q101
       go_wp2_with (first|((with_reducible refine gate_callee (f:=4) rfl ?_);refine goesL_ (some 23) rfl rfl Try.func4 (by kernel_rfl) rfl #[.agg #[.int .i64 ((rd_T25 l0 x5_1).f0),.int .i64 ((rd_T25 l0 x5_1).f1),.string ((rd_T25 l0 x5_1).f2),.slice A101_3 ((rd_T25 l0 x5_1).f3).length c101_3,.slice A101_4 ((rd_T25 l0 x5_1).f4).length c101_4],.int .i64 x1_1] rfl gs ?_;(with_reducible refine (ih_laws_szExpr k1 (by have:=HK1.out;omega) ((rd_T25 l0 x5_1).f0) ((rd_T25 l0 x5_1).f1) ((rd_T25 l0 x5_1).f2) _ _ ((rd_T25 l0 x5_1).f3) _ _ ((rd_T25 l0 x5_1).f4) x1_1 t102 _ ?side1 ?side2 ?side3 ?side4 A6.out).mono ?_);(case side1=>exact ck (Kd.C_below HR101_3.out HB.out));(case side2=>exact HC101_3.out);(case side3=>exact ck (Kd.C_below HR101_4.out HB.out));(case side4=>exact HC101_4.out);rintro e w8 ⟨rfl,hb⟩;refine ⟨_,rfl,?_⟩;have n_:=bq HB hb;clear HB;have HB:=n_;clear n_;(try clear hb);(try clear hb2);(try clear hk);(try clear hi)))
       go_ret
       exact ⟨cl,bl HB.out⟩
      ·rw [if_neg c7] at H
       have c7b0:decide (t102 < 0) = false:=decide_eq_false c7;clear c7;have H':=Aside0.mk H;clear H;have p101:0≤(x5_1:Int):=od;have q101:x5_1 < (l0.length:Int):=od;obtain ⟨ad101,A101_3,c101_3,A101_4,c101_4,e101,hx101_0,hx101_1,hx101_2,hx101_3,hx101_4,hl101_3,hi101_3,hl101_4,hi101_4⟩:=at_T25 HR0.out x5_1 p101 q101;cases e101;replace hx101_0:=cb HB hx101_0;replace hx101_1:=cb HB hx101_1;replace hx101_2:=cb HB hx101_2;replace hx101_3:=cb HB hx101_3;replace hx101_4:=cb HB hx101_4;have HR101_3:=Aside0.mk hi101_3;have HC101_3:=Aside0.mk hl101_3;clear hi101_3 hl101_3;have HR101_4:=Aside0.mk hi101_4;have HC101_4:=Aside0.mk hl101_4;clear hi101_4 hl101_4;replace p101:=eq_true p101;replace q101:=eq_true q101
       go_wp2_with (first|((with_reducible refine gate_callee (f:=4) rfl ?_);refine goesL_ (some 23) rfl rfl Try.func4 (by kernel_rfl) rfl #[.agg #[.int .i64 ((rd_T25 l0 x5_1).f0),.int .i64 ((rd_T25 l0 x5_1).f1),.string ((rd_T25 l0 x5_1).f2),.slice A101_3 ((rd_T25 l0 x5_1).f3).length c101_3,.slice A101_4 ((rd_T25 l0 x5_1).f4).length c101_4],.int .i64 x1_1] rfl gs ?_;(with_reducible refine (ih_laws_szExpr k1 (by have:=HK1.out;omega) ((rd_T25 l0 x5_1).f0) ((rd_T25 l0 x5_1).f1) ((rd_T25 l0 x5_1).f2) _ _ ((rd_T25 l0 x5_1).f3) _ _ ((rd_T25 l0 x5_1).f4) x1_1 t102 _ ?side1 ?side2 ?side3 ?side4 A6.out).mono ?_);(case side1=>exact ck (Kd.C_below HR101_3.out HB.out));(case side2=>exact HC101_3.out);(case side3=>exact ck (Kd.C_below HR101_4.out HB.out));(case side4=>exact HC101_4.out);rintro e w9 ⟨rfl,hb⟩;refine ⟨_,rfl,?_⟩;have n_:=bq HB hb;clear HB;have HB:=n_;clear n_;(try clear hb);(try clear hb2);(try clear hk);(try clear hi)))
       go_roundg k1
       case measure=>have:=HK1.out;omega
       case rel=>exact ⟨(t102),(wrap64 (x5_1 + 1)),(cl2),(cl2),H',⟨by have:=HK1.out;omega⟩,⟨bl HB.out⟩⟩
     ·rw [if_neg c5] at H
      exact absurd H (by simp)
    ·rw [if_neg c4] at H
     have c4b0:decide (x5_1 < (l0.length:Int)) = false:=decide_eq_false c4;clear c4;obtain rfl:=Option.some.inj H
     go_wp2
     go_ret
     exact ⟨cl,bl HB.out⟩

/-! ### laws_szClause: function 26 -/
set_option maxHeartbeats 8000000 in
set_option maxRecDepth 100000 in
theorem laws_szClause.step (k:Nat) (ih_laws_szExprS:∀ k_,k_ < k → ∀ (A0:Option Addr) (c0:Nat) (l0:List (S25)) (a1:Int) (r:Int) (w:World) (hr0:Kd.C k25 w A0 l0.length l0) (hc0:l0.length≤c0) (h:laws_szExprS.f k_ l0 a1 = some r),Calls Try.prog 13 #[.slice A0 l0.length c0,.int .i64 a1] w fun e w'=>e = .returned (.int .i64 r)∧Below w.heap.size w w') (ih_laws_szClause:∀ k_,k_ < k → ∀ (a0_0:Int) (a0_1:Int) (a0_2:ByteArray) (A0_3:Option Addr) (c0_3:Nat) (l0_3:List (S25)) (A0_4:Option Addr) (c0_4:Nat) (l0_4:List (S55)) (a0_5:Int) (a0_6:Int) (a0_7:ByteArray) (A0_8:Option Addr) (c0_8:Nat) (l0_8:List (S25)) (A0_9:Option Addr) (c0_9:Nat) (l0_9:List (S55)) (a1:Int) (r:Int) (w:World) (hr0_3:Kd.C k25 w A0_3 l0_3.length l0_3) (hc0_3:l0_3.length≤c0_3) (hr0_4:Kd.C k55 w A0_4 l0_4.length l0_4) (hc0_4:l0_4.length≤c0_4) (hr0_8:Kd.C k25 w A0_8 l0_8.length l0_8) (hc0_8:l0_8.length≤c0_8) (hr0_9:Kd.C k55 w A0_9 l0_9.length l0_9) (hc0_9:l0_9.length≤c0_9) (h:laws_szClause.f k_ a0_0 a0_1 a0_2 l0_3 l0_4 a0_5 a0_6 a0_7 l0_8 l0_9 a1 = some r),Calls Try.prog 26 #[.agg #[.int .i64 a0_0,.int .i64 a0_1,.string a0_2,.slice A0_3 l0_3.length c0_3,.slice A0_4 l0_4.length c0_4,.int .i64 a0_5,.int .i64 a0_6,.string a0_7,.slice A0_8 l0_8.length c0_8,.slice A0_9 l0_9.length c0_9],.int .i64 a1] w fun e w'=>e = .returned (.int .i64 r)∧Below w.heap.size w w') (ih_laws_szClauseS:∀ k_,k_ < k → ∀ (A0:Option Addr) (c0:Nat) (l0:List (S55)) (a1:Int) (r:Int) (w:World) (hr0:Kd.C k55 w A0 l0.length l0) (hc0:l0.length≤c0) (h:laws_szClauseS.f k_ l0 a1 = some r),Calls Try.prog 14 #[.slice A0 l0.length c0,.int .i64 a1] w fun e w'=>e = .returned (.int .i64 r)∧Below w.heap.size w w') (ih_laws_szExpr:∀ k_,k_ < k → ∀ (a0_0:Int) (a0_1:Int) (a0_2:ByteArray) (A0_3:Option Addr) (c0_3:Nat) (l0_3:List (S25)) (A0_4:Option Addr) (c0_4:Nat) (l0_4:List (S55)) (a1:Int) (r:Int) (w:World) (hr0_3:Kd.C k25 w A0_3 l0_3.length l0_3) (hc0_3:l0_3.length≤c0_3) (hr0_4:Kd.C k55 w A0_4 l0_4.length l0_4) (hc0_4:l0_4.length≤c0_4) (h:laws_szExpr.f k_ a0_0 a0_1 a0_2 l0_3 l0_4 a1 = some r),Calls Try.prog 4 #[.agg #[.int .i64 a0_0,.int .i64 a0_1,.string a0_2,.slice A0_3 l0_3.length c0_3,.slice A0_4 l0_4.length c0_4],.int .i64 a1] w fun e w'=>e = .returned (.int .i64 r)∧Below w.heap.size w w'):∀ (a0_0:Int) (a0_1:Int) (a0_2:ByteArray) (A0_3:Option Addr) (c0_3:Nat) (l0_3:List (S25)) (A0_4:Option Addr) (c0_4:Nat) (l0_4:List (S55)) (a0_5:Int) (a0_6:Int) (a0_7:ByteArray) (A0_8:Option Addr) (c0_8:Nat) (l0_8:List (S25)) (A0_9:Option Addr) (c0_9:Nat) (l0_9:List (S55)) (a1:Int) (r:Int) (w:World) (hr0_3:Kd.C k25 w A0_3 l0_3.length l0_3) (hc0_3:l0_3.length≤c0_3) (hr0_4:Kd.C k55 w A0_4 l0_4.length l0_4) (hc0_4:l0_4.length≤c0_4) (hr0_8:Kd.C k25 w A0_8 l0_8.length l0_8) (hc0_8:l0_8.length≤c0_8) (hr0_9:Kd.C k55 w A0_9 l0_9.length l0_9) (hc0_9:l0_9.length≤c0_9) (h:laws_szClause.f k a0_0 a0_1 a0_2 l0_3 l0_4 a0_5 a0_6 a0_7 l0_8 l0_9 a1 = some r),
  Calls Try.prog 26 #[.agg #[.int .i64 a0_0,.int .i64 a0_1,.string a0_2,.slice A0_3 l0_3.length c0_3,.slice A0_4 l0_4.length c0_4,.int .i64 a0_5,.int .i64 a0_6,.string a0_7,.slice A0_8 l0_8.length c0_8,.slice A0_9 l0_9.length c0_9],.int .i64 a1] w fun e w'=>e = .returned (.int .i64 r)∧Below w.heap.size w w':=by
 intro a0_0 a0_1 a0_2 A0_3 c0_3 l0_3 A0_4 c0_4 l0_4 a0_5 a0_6 a0_7 A0_8 c0_8 l0_8 A0_9 c0_9 l0_9 a1 r w hr0_3 hc0_3 hr0_4 hc0_4 hr0_8 hc0_8 hr0_9 hc0_9 h
 cases k with
 | zero=>exact absurd h (by simp [laws_szClause.f])
 | succ k =>
 simp only [laws_szClause.f] at h;have hu55:=Try.underlying55;have hu25:=Try.underlying25;have HR0_3:=Aside0.mk hr0_3;have HC0_3:=Aside0.mk hc0_3;clear hr0_3 hc0_3;have HR0_4:=Aside0.mk hr0_4;have HC0_4:=Aside0.mk hc0_4;clear hr0_4 hc0_4;have HR0_8:=Aside0.mk hr0_8;have HC0_8:=Aside0.mk hc0_8;clear hr0_8 hc0_8;have HR0_9:=Aside0.mk hr0_9;have HC0_9:=Aside0.mk hc0_9;clear hr0_9 hc0_9;have HB:=Aside0.mk (Below.refl w.heap.size w);have H:((laws_szExpr.f k a0_0 a0_1 a0_2 l0_3 l0_4 a1).bind fun t104=>(if t104 < 0 then (some (-1)) else ((laws_szExpr.f k a0_5 a0_6 a0_7 l0_8 l0_9 t104).bind fun t105=>(if t105 < 0 then (some (-1)) else (some t105))))) = some r:=h;clear h;replace H:=Option.bind_eq_some_iff.mp H;obtain ⟨t104,A30,H⟩:=H;replace H:(if t104 < 0 then (some (-1)) else ((laws_szExpr.f k a0_5 a0_6 a0_7 l0_8 l0_9 t104).bind fun t105=>(if t105 < 0 then (some (-1)) else (some t105)))) = some r:=H;have A3:=Aside0.mk A30;clear A30
 by_cases c4:t104 < 0
 ·rw [if_pos c4] at H
  have c4b0:decide (t104 < 0) = true:=decide_eq_true c4;clear c4;obtain rfl:=Option.some.inj H
  go_enter Try.func26,Try.ntmps26
  go_wp2_with (first|((with_reducible refine gate_dst (N:=2) rfl ?_);refine box_event ?hg (N:=2) ?hd (cs:=#[.int .i64 a0_0,.int .i64 a0_1,.string a0_2,.slice A0_3 l0_3.length c0_3,.slice A0_4 l0_4.length c0_4,.int .i64 a0_5,.int .i64 a0_6,.string a0_7,.slice A0_8 l0_8.length c0_8,.slice A0_9 l0_9.length c0_9]) (t:=55) ?hr ?_;(case hd=>rfl);(case hg=>rfl);(case hr=>first|(go_simp;done)|(go_simp;rfl));intro gb103 hg w5 hbox hb;have n_:=ai (bq HB hb) <| ai (Aside0.mk (hbox)) <| ai (bz hg HB) <| bz hg HB;clear HB;obtain ⟨HB,BK103,GW103,GE103⟩:=n_;clear hb hbox hg;have hcz6_0:=bc BK103.out 0;have hcz6_1:=bc BK103.out 1;have hcz6_2:=bc BK103.out 2;have hcz6_3:=bc BK103.out 3;have hcz6_4:=bc BK103.out 4;have hcz6_5:=bc BK103.out 5;have hcz6_6:=bc BK103.out 6;have hcz6_7:=bc BK103.out 7;have hcz6_8:=bc BK103.out 8;have hcz6_9:=bc BK103.out 9;have hfz6_0:=blk_frozen BK103.out 0;have hfz6_1:=blk_frozen BK103.out 1;have hfz6_2:=blk_frozen BK103.out 2;have hfz6_3:=blk_frozen BK103.out 3;have hfz6_4:=blk_frozen BK103.out 4;have hfz6_5:=blk_frozen BK103.out 5;have hfz6_6:=blk_frozen BK103.out 6;have hfz6_7:=blk_frozen BK103.out 7;have hfz6_8:=blk_frozen BK103.out 8;have hfz6_9:=blk_frozen BK103.out 9)|((with_reducible refine gate_callee (f:=4) rfl ?_);refine goesL_ (some 8) rfl rfl Try.func4 (by kernel_rfl) rfl #[.agg #[.int .i64 a0_0,.int .i64 a0_1,.string a0_2,.slice A0_3 l0_3.length c0_3,.slice A0_4 l0_4.length c0_4],.int .i64 a1] rfl gs ?_;(with_reducible refine (ih_laws_szExpr k (by omega) a0_0 a0_1 a0_2 _ _ l0_3 _ _ l0_4 a1 t104 _ ?side1 ?side2 ?side3 ?side4 A3.out).mono ?_);(case side1=>exact ck (Kd.C_below HR0_3.out HB.out));(case side2=>exact HC0_3.out);(case side3=>exact ck (Kd.C_below HR0_4.out HB.out));(case side4=>exact HC0_4.out);rintro e w7 ⟨rfl,hb⟩;refine ⟨_,rfl,?_⟩;have n_:=ai (bw BK103 hb) <| bq HB hb;clear BK103 HB;obtain ⟨BK103,HB⟩:=n_;(try clear hb);(try clear hb2);(try clear hk);(try clear hi)))
  go_ret
  exact ⟨cl,bl HB.out⟩
 ·rw [if_neg c4] at H
  have c4b0:decide (t104 < 0) = false:=decide_eq_false c4;clear c4;replace H:=Option.bind_eq_some_iff.mp H;obtain ⟨t105,A80,H⟩:=H;replace H:(if t105 < 0 then (some (-1)) else (some t105)) = some r:=H;have A8:=Aside0.mk A80;clear A80
  by_cases c9:t105 < 0
  ·rw [if_pos c9] at H
   have c9b0:decide (t105 < 0) = true:=decide_eq_true c9;clear c9;obtain rfl:=Option.some.inj H
   go_enter Try.func26,Try.ntmps26
   go_wp2_with (first|((with_reducible refine gate_dst (N:=2) rfl ?_);refine box_event ?hg (N:=2) ?hd (cs:=#[.int .i64 a0_0,.int .i64 a0_1,.string a0_2,.slice A0_3 l0_3.length c0_3,.slice A0_4 l0_4.length c0_4,.int .i64 a0_5,.int .i64 a0_6,.string a0_7,.slice A0_8 l0_8.length c0_8,.slice A0_9 l0_9.length c0_9]) (t:=55) ?hr ?_;(case hd=>rfl);(case hg=>rfl);(case hr=>first|(go_simp;done)|(go_simp;rfl));intro gb103 hg w10 hbox hb;have n_:=ai (bq HB hb) <| ai (Aside0.mk (hbox)) <| ai (bz hg HB) <| bz hg HB;clear HB;obtain ⟨HB,BK103,GW103,GE103⟩:=n_;clear hb hbox hg;have hcz11_0:=bc BK103.out 0;have hcz11_1:=bc BK103.out 1;have hcz11_2:=bc BK103.out 2;have hcz11_3:=bc BK103.out 3;have hcz11_4:=bc BK103.out 4;have hcz11_5:=bc BK103.out 5;have hcz11_6:=bc BK103.out 6;have hcz11_7:=bc BK103.out 7;have hcz11_8:=bc BK103.out 8;have hcz11_9:=bc BK103.out 9;have hfz11_0:=blk_frozen BK103.out 0;have hfz11_1:=blk_frozen BK103.out 1;have hfz11_2:=blk_frozen BK103.out 2;have hfz11_3:=blk_frozen BK103.out 3;have hfz11_4:=blk_frozen BK103.out 4;have hfz11_5:=blk_frozen BK103.out 5;have hfz11_6:=blk_frozen BK103.out 6;have hfz11_7:=blk_frozen BK103.out 7;have hfz11_8:=blk_frozen BK103.out 8;have hfz11_9:=blk_frozen BK103.out 9)|((with_reducible refine gate_callee (f:=4) rfl ?_);refine goesL_ (some 8) rfl rfl Try.func4 (by kernel_rfl) rfl #[.agg #[.int .i64 a0_0,.int .i64 a0_1,.string a0_2,.slice A0_3 l0_3.length c0_3,.slice A0_4 l0_4.length c0_4],.int .i64 a1] rfl gs ?_;(with_reducible refine (ih_laws_szExpr k (by omega) a0_0 a0_1 a0_2 _ _ l0_3 _ _ l0_4 a1 t104 _ ?side1 ?side2 ?side3 ?side4 A3.out).mono ?_);(case side1=>exact ck (Kd.C_below HR0_3.out HB.out));(case side2=>exact HC0_3.out);(case side3=>exact ck (Kd.C_below HR0_4.out HB.out));(case side4=>exact HC0_4.out);rintro e w12 ⟨rfl,hb⟩;refine ⟨_,rfl,?_⟩;have n_:=ai (bw BK103 hb) <| bq HB hb;clear BK103 HB;obtain ⟨BK103,HB⟩:=n_;(try clear hb);(try clear hb2);(try clear hk);(try clear hi);have hcz13_0:=bc BK103.out 0;have hcz13_1:=bc BK103.out 1;have hcz13_2:=bc BK103.out 2;have hcz13_3:=bc BK103.out 3;have hcz13_4:=bc BK103.out 4;have hcz13_5:=bc BK103.out 5;have hcz13_6:=bc BK103.out 6;have hcz13_7:=bc BK103.out 7;have hcz13_8:=bc BK103.out 8;have hcz13_9:=bc BK103.out 9;have hfz13_0:=blk_frozen BK103.out 0;have hfz13_1:=blk_frozen BK103.out 1;have hfz13_2:=blk_frozen BK103.out 2;have hfz13_3:=blk_frozen BK103.out 3;have hfz13_4:=blk_frozen BK103.out 4;have hfz13_5:=blk_frozen BK103.out 5;have hfz13_6:=blk_frozen BK103.out 6;have hfz13_7:=blk_frozen BK103.out 7;have hfz13_8:=blk_frozen BK103.out 8;have hfz13_9:=blk_frozen BK103.out 9)|((with_reducible refine gate_callee (f:=4) rfl ?_);refine goesL_ (some 14) rfl rfl Try.func4 (by kernel_rfl) rfl #[.agg #[.int .i64 a0_5,.int .i64 a0_6,.string a0_7,.slice A0_8 l0_8.length c0_8,.slice A0_9 l0_9.length c0_9],.int .i64 t104] rfl gs ?_;(with_reducible refine (ih_laws_szExpr k (by omega) a0_5 a0_6 a0_7 _ _ l0_8 _ _ l0_9 t104 t105 _ ?side1 ?side2 ?side3 ?side4 A8.out).mono ?_);(case side1=>exact ck (Kd.C_below HR0_8.out HB.out));(case side2=>exact HC0_8.out);(case side3=>exact ck (Kd.C_below HR0_9.out HB.out));(case side4=>exact HC0_9.out);rintro e w14 ⟨rfl,hb⟩;refine ⟨_,rfl,?_⟩;have n_:=ai (bw BK103 hb) <| bq HB hb;clear BK103 HB;obtain ⟨BK103,HB⟩:=n_;(try clear hb);(try clear hb2);(try clear hk);(try clear hi)))
   go_ret
   exact ⟨cl,bl HB.out⟩
  ·rw [if_neg c9] at H
   have c9b0:decide (t105 < 0) = false:=decide_eq_false c9;clear c9;obtain rfl:=Option.some.inj H
   go_enter Try.func26,Try.ntmps26
   go_wp2_with (first|((with_reducible refine gate_dst (N:=2) rfl ?_);refine box_event ?hg (N:=2) ?hd (cs:=#[.int .i64 a0_0,.int .i64 a0_1,.string a0_2,.slice A0_3 l0_3.length c0_3,.slice A0_4 l0_4.length c0_4,.int .i64 a0_5,.int .i64 a0_6,.string a0_7,.slice A0_8 l0_8.length c0_8,.slice A0_9 l0_9.length c0_9]) (t:=55) ?hr ?_;(case hd=>rfl);(case hg=>rfl);(case hr=>first|(go_simp;done)|(go_simp;rfl));intro gb103 hg w15 hbox hb;have n_:=ai (bq HB hb) <| ai (Aside0.mk (hbox)) <| ai (bz hg HB) <| bz hg HB;clear HB;obtain ⟨HB,BK103,GW103,GE103⟩:=n_;clear hb hbox hg;have hcz16_0:=bc BK103.out 0;have hcz16_1:=bc BK103.out 1;have hcz16_2:=bc BK103.out 2;have hcz16_3:=bc BK103.out 3;have hcz16_4:=bc BK103.out 4;have hcz16_5:=bc BK103.out 5;have hcz16_6:=bc BK103.out 6;have hcz16_7:=bc BK103.out 7;have hcz16_8:=bc BK103.out 8;have hcz16_9:=bc BK103.out 9;have hfz16_0:=blk_frozen BK103.out 0;have hfz16_1:=blk_frozen BK103.out 1;have hfz16_2:=blk_frozen BK103.out 2;have hfz16_3:=blk_frozen BK103.out 3;have hfz16_4:=blk_frozen BK103.out 4;have hfz16_5:=blk_frozen BK103.out 5;have hfz16_6:=blk_frozen BK103.out 6;have hfz16_7:=blk_frozen BK103.out 7;have hfz16_8:=blk_frozen BK103.out 8;have hfz16_9:=blk_frozen BK103.out 9)|((with_reducible refine gate_callee (f:=4) rfl ?_);refine goesL_ (some 8) rfl rfl Try.func4 (by kernel_rfl) rfl #[.agg #[.int .i64 a0_0,.int .i64 a0_1,.string a0_2,.slice A0_3 l0_3.length c0_3,.slice A0_4 l0_4.length c0_4],.int .i64 a1] rfl gs ?_;(with_reducible refine (ih_laws_szExpr k (by omega) a0_0 a0_1 a0_2 _ _ l0_3 _ _ l0_4 a1 t104 _ ?side1 ?side2 ?side3 ?side4 A3.out).mono ?_);(case side1=>exact ck (Kd.C_below HR0_3.out HB.out));(case side2=>exact HC0_3.out);(case side3=>exact ck (Kd.C_below HR0_4.out HB.out));(case side4=>exact HC0_4.out);rintro e w17 ⟨rfl,hb⟩;refine ⟨_,rfl,?_⟩;have n_:=ai (bw BK103 hb) <| bq HB hb;clear BK103 HB;obtain ⟨BK103,HB⟩:=n_;(try clear hb);(try clear hb2);(try clear hk);(try clear hi);have hcz18_0:=bc BK103.out 0;have hcz18_1:=bc BK103.out 1;have hcz18_2:=bc BK103.out 2;have hcz18_3:=bc BK103.out 3;have hcz18_4:=bc BK103.out 4;have hcz18_5:=bc BK103.out 5;have hcz18_6:=bc BK103.out 6;have hcz18_7:=bc BK103.out 7;have hcz18_8:=bc BK103.out 8;have hcz18_9:=bc BK103.out 9;have hfz18_0:=blk_frozen BK103.out 0;have hfz18_1:=blk_frozen BK103.out 1;have hfz18_2:=blk_frozen BK103.out 2;have hfz18_3:=blk_frozen BK103.out 3;have hfz18_4:=blk_frozen BK103.out 4;have hfz18_5:=blk_frozen BK103.out 5;have hfz18_6:=blk_frozen BK103.out 6;have hfz18_7:=blk_frozen BK103.out 7;have hfz18_8:=blk_frozen BK103.out 8;have hfz18_9:=blk_frozen BK103.out 9)|((with_reducible refine gate_callee (f:=4) rfl ?_);refine goesL_ (some 14) rfl rfl Try.func4 (by kernel_rfl) rfl #[.agg #[.int .i64 a0_5,.int .i64 a0_6,.string a0_7,.slice A0_8 l0_8.length c0_8,.slice A0_9 l0_9.length c0_9],.int .i64 t104] rfl gs ?_;(with_reducible refine (ih_laws_szExpr k (by omega) a0_5 a0_6 a0_7 _ _ l0_8 _ _ l0_9 t104 t105 _ ?side1 ?side2 ?side3 ?side4 A8.out).mono ?_);(case side1=>exact ck (Kd.C_below HR0_8.out HB.out));(case side2=>exact HC0_8.out);(case side3=>exact ck (Kd.C_below HR0_9.out HB.out));(case side4=>exact HC0_9.out);rintro e w19 ⟨rfl,hb⟩;refine ⟨_,rfl,?_⟩;have n_:=ai (bw BK103 hb) <| bq HB hb;clear BK103 HB;obtain ⟨BK103,HB⟩:=n_;(try clear hb);(try clear hb2);(try clear hk);(try clear hi)))
   go_ret
   exact ⟨cl,bl HB.out⟩

/-! ### laws_szClauseS: function 14 -/
set_option maxHeartbeats 8000000 in
set_option maxRecDepth 100000 in
theorem laws_szClauseS.step (k:Nat) (ih_laws_szExprS:∀ k_,k_ < k → ∀ (A0:Option Addr) (c0:Nat) (l0:List (S25)) (a1:Int) (r:Int) (w:World) (hr0:Kd.C k25 w A0 l0.length l0) (hc0:l0.length≤c0) (h:laws_szExprS.f k_ l0 a1 = some r),Calls Try.prog 13 #[.slice A0 l0.length c0,.int .i64 a1] w fun e w'=>e = .returned (.int .i64 r)∧Below w.heap.size w w') (ih_laws_szClause:∀ k_,k_ < k → ∀ (a0_0:Int) (a0_1:Int) (a0_2:ByteArray) (A0_3:Option Addr) (c0_3:Nat) (l0_3:List (S25)) (A0_4:Option Addr) (c0_4:Nat) (l0_4:List (S55)) (a0_5:Int) (a0_6:Int) (a0_7:ByteArray) (A0_8:Option Addr) (c0_8:Nat) (l0_8:List (S25)) (A0_9:Option Addr) (c0_9:Nat) (l0_9:List (S55)) (a1:Int) (r:Int) (w:World) (hr0_3:Kd.C k25 w A0_3 l0_3.length l0_3) (hc0_3:l0_3.length≤c0_3) (hr0_4:Kd.C k55 w A0_4 l0_4.length l0_4) (hc0_4:l0_4.length≤c0_4) (hr0_8:Kd.C k25 w A0_8 l0_8.length l0_8) (hc0_8:l0_8.length≤c0_8) (hr0_9:Kd.C k55 w A0_9 l0_9.length l0_9) (hc0_9:l0_9.length≤c0_9) (h:laws_szClause.f k_ a0_0 a0_1 a0_2 l0_3 l0_4 a0_5 a0_6 a0_7 l0_8 l0_9 a1 = some r),Calls Try.prog 26 #[.agg #[.int .i64 a0_0,.int .i64 a0_1,.string a0_2,.slice A0_3 l0_3.length c0_3,.slice A0_4 l0_4.length c0_4,.int .i64 a0_5,.int .i64 a0_6,.string a0_7,.slice A0_8 l0_8.length c0_8,.slice A0_9 l0_9.length c0_9],.int .i64 a1] w fun e w'=>e = .returned (.int .i64 r)∧Below w.heap.size w w') (ih_laws_szClauseS:∀ k_,k_ < k → ∀ (A0:Option Addr) (c0:Nat) (l0:List (S55)) (a1:Int) (r:Int) (w:World) (hr0:Kd.C k55 w A0 l0.length l0) (hc0:l0.length≤c0) (h:laws_szClauseS.f k_ l0 a1 = some r),Calls Try.prog 14 #[.slice A0 l0.length c0,.int .i64 a1] w fun e w'=>e = .returned (.int .i64 r)∧Below w.heap.size w w') (ih_laws_szExpr:∀ k_,k_ < k → ∀ (a0_0:Int) (a0_1:Int) (a0_2:ByteArray) (A0_3:Option Addr) (c0_3:Nat) (l0_3:List (S25)) (A0_4:Option Addr) (c0_4:Nat) (l0_4:List (S55)) (a1:Int) (r:Int) (w:World) (hr0_3:Kd.C k25 w A0_3 l0_3.length l0_3) (hc0_3:l0_3.length≤c0_3) (hr0_4:Kd.C k55 w A0_4 l0_4.length l0_4) (hc0_4:l0_4.length≤c0_4) (h:laws_szExpr.f k_ a0_0 a0_1 a0_2 l0_3 l0_4 a1 = some r),Calls Try.prog 4 #[.agg #[.int .i64 a0_0,.int .i64 a0_1,.string a0_2,.slice A0_3 l0_3.length c0_3,.slice A0_4 l0_4.length c0_4],.int .i64 a1] w fun e w'=>e = .returned (.int .i64 r)∧Below w.heap.size w w'):∀ (A0:Option Addr) (c0:Nat) (l0:List (S55)) (a1:Int) (r:Int) (w:World) (hr0:Kd.C k55 w A0 l0.length l0) (hc0:l0.length≤c0) (h:laws_szClauseS.f k l0 a1 = some r),
  Calls Try.prog 14 #[.slice A0 l0.length c0,.int .i64 a1] w fun e w'=>e = .returned (.int .i64 r)∧Below w.heap.size w w':=by
 intro A0 c0 l0 a1 r w hr0 hc0 h
 cases k with
 | zero=>exact absurd h (by simp [laws_szClauseS.f])
 | succ k =>
 simp only [laws_szClauseS.f] at h;have hu55:=Try.underlying55;have HR0:=Aside0.mk hr0;have HC0:=Aside0.mk hc0;clear hr0 hc0;have HB:=Aside0.mk (Below.refl w.heap.size w);have H:(if (wrap64 (a1 - (l0.length:Int))) < 0 then (some (-1)) else (laws_szClauseS.l0 k l0 (wrap64 (a1 - (l0.length:Int))) 0)) = some r:=h;clear h
 by_cases c3:(wrap64 (a1 - (l0.length:Int))) < 0
 ·rw [if_pos c3] at H
  have c3b0:decide ((wrap64 (a1 - (l0.length:Int))) < 0) = true:=decide_eq_true c3;clear c3;obtain rfl:=Option.some.inj H
  go_enter Try.func14,Try.ntmps14
  go_wp2
  go_ret
  exact ⟨cl,bl HB.out⟩
 ·rw [if_neg c3] at H
  have c3b0:decide ((wrap64 (a1 - (l0.length:Int))) < 0) = false:=decide_eq_false c3;clear c3;have H':=Aside0.mk H;clear H
  go_enter Try.func14,Try.ntmps14
  go_wp2
  go_loopg [1,5] k (fun kq v1 v5 w'=>∃ (x1_1:Int) (x5_1:Int),v1 = .int .i64 x1_1∧v5 = .int .i64 x5_1∧Aside0 (laws_szClauseS.l0 kq l0 x1_1 x5_1 = some r)∧Aside0 (kq≤k)∧Aside0 (Below w.heap.size w w'))
  case atStart=>exact ⟨(wrap64 (a1 - (l0.length:Int))),(0),(cl2),(cl2),H',⟨Nat.le_refl _⟩,⟨bl HB.out⟩⟩
  case round =>
   clear H';(try clear c1);(try clear p2);(try clear c3);(try clear c3b0);(try clear HB);obtain ⟨x1_1,x5_1,rfl,rfl,HA,HK1,HB⟩:=hrel
   cases gk with
   | zero=>exact absurd HA.out (by simp [laws_szClauseS.l0])
   | succ k1 =>
    have H:=HA.out;clear HA;simp only [laws_szClauseS.l0] at H
    by_cases c4:x5_1 < (l0.length:Int)
    ·rw [if_pos c4] at H
     have c4b0:decide (x5_1 < (l0.length:Int)) = true:=decide_eq_true c4;clear c4
     by_cases c5:0≤x5_1
     ·rw [if_pos c5] at H
      have c5b0:decide (0≤x5_1) = true:=decide_eq_true c5;clear c5;replace H:=Option.bind_eq_some_iff.mp H;obtain ⟨t107,A60,H⟩:=H;replace H:(if t107 < 0 then (some (-1)) else (laws_szClauseS.l0 k1 l0 t107 (wrap64 (x5_1 + 1)))) = some r:=H;have A6:=Aside0.mk A60;clear A60
      by_cases c7:t107 < 0
      ·rw [if_pos c7] at H
       have c7b0:decide (t107 < 0) = true:=decide_eq_true c7;clear c7;obtain rfl:=Option.some.inj H;have p106:0≤(x5_1:Int):=od;have q106:x5_1 < (l0.length:Int):=od;obtain ⟨ad106,A106_3,c106_3,A106_4,c106_4,A106_8,c106_8,A106_9,c106_9,e106,hx106_0,hx106_1,hx106_2,hx106_3,hx106_4,hx106_5,hx106_6,hx106_7,hx106_8,hx106_9,hl106_3,hi106_3,hl106_4,hi106_4,hl106_8,hi106_8,hl106_9,hi106_9⟩:=at_T55 HR0.out x5_1 p106 q106;cases e106;replace hx106_0:=cb HB hx106_0;replace hx106_1:=cb HB hx106_1;replace hx106_2:=cb HB hx106_2;replace hx106_3:=cb HB hx106_3;replace hx106_4:=cb HB hx106_4;replace hx106_5:=cb HB hx106_5;replace hx106_6:=cb HB hx106_6;replace hx106_7:=cb HB hx106_7;replace hx106_8:=cb HB hx106_8;replace hx106_9:=cb HB hx106_9;have HR106_3:=Aside0.mk hi106_3;have HC106_3:=Aside0.mk hl106_3;clear hi106_3 hl106_3;have HR106_4:=Aside0.mk hi106_4;have HC106_4:=Aside0.mk hl106_4;clear hi106_4 hl106_4;have HR106_8:=Aside0.mk hi106_8;have HC106_8:=Aside0.mk hl106_8;clear hi106_8 hl106_8;have HR106_9:=Aside0.mk hi106_9;have HC106_9:=Aside0.mk hl106_9;clear hi106_9 hl106_9;replace p106:=eq_true p106;replace q106:=eq_true q106
       go_wp2_with (first|((with_reducible refine gate_callee (f:=26) rfl ?_);refine goesL_ (some 23) rfl rfl Try.func26 (by kernel_rfl) rfl #[.agg #[.int .i64 ((rd_T55 l0 x5_1).f0.f0),.int .i64 ((rd_T55 l0 x5_1).f0.f1),.string ((rd_T55 l0 x5_1).f0.f2),.slice A106_3 ((rd_T55 l0 x5_1).f0.f3).length c106_3,.slice A106_4 ((rd_T55 l0 x5_1).f0.f4).length c106_4,.int .i64 ((rd_T55 l0 x5_1).f1.f0),.int .i64 ((rd_T55 l0 x5_1).f1.f1),.string ((rd_T55 l0 x5_1).f1.f2),.slice A106_8 ((rd_T55 l0 x5_1).f1.f3).length c106_8,.slice A106_9 ((rd_T55 l0 x5_1).f1.f4).length c106_9],.int .i64 x1_1] rfl gs ?_;(with_reducible refine (ih_laws_szClause k1 (by have:=HK1.out;omega) ((rd_T55 l0 x5_1).f0.f0) ((rd_T55 l0 x5_1).f0.f1) ((rd_T55 l0 x5_1).f0.f2) _ _ ((rd_T55 l0 x5_1).f0.f3) _ _ ((rd_T55 l0 x5_1).f0.f4) ((rd_T55 l0 x5_1).f1.f0) ((rd_T55 l0 x5_1).f1.f1) ((rd_T55 l0 x5_1).f1.f2) _ _ ((rd_T55 l0 x5_1).f1.f3) _ _ ((rd_T55 l0 x5_1).f1.f4) x1_1 t107 _ ?side1 ?side2 ?side3 ?side4 ?side5 ?side6 ?side7 ?side8 A6.out).mono ?_);(case side1=>exact ck (Kd.C_below HR106_3.out HB.out));(case side2=>exact HC106_3.out);(case side3=>exact ck (Kd.C_below HR106_4.out HB.out));(case side4=>exact HC106_4.out);(case side5=>exact ck (Kd.C_below HR106_8.out HB.out));(case side6=>exact HC106_8.out);(case side7=>exact ck (Kd.C_below HR106_9.out HB.out));(case side8=>exact HC106_9.out);rintro e w8 ⟨rfl,hb⟩;refine ⟨_,rfl,?_⟩;have n_:=bq HB hb;clear HB;have HB:=n_;clear n_;(try clear hb);(try clear hb2);(try clear hk);(try clear hi)))
       go_ret
       exact ⟨cl,bl HB.out⟩
      ·rw [if_neg c7] at H
       have c7b0:decide (t107 < 0) = false:=decide_eq_false c7;clear c7;have H':=Aside0.mk H;clear H;have p106:0≤(x5_1:Int):=od;have q106:x5_1 < (l0.length:Int):=od;obtain ⟨ad106,A106_3,c106_3,A106_4,c106_4,A106_8,c106_8,A106_9,c106_9,e106,hx106_0,hx106_1,hx106_2,hx106_3,hx106_4,hx106_5,hx106_6,hx106_7,hx106_8,hx106_9,hl106_3,hi106_3,hl106_4,hi106_4,hl106_8,hi106_8,hl106_9,hi106_9⟩:=at_T55 HR0.out x5_1 p106 q106;cases e106;replace hx106_0:=cb HB hx106_0;replace hx106_1:=cb HB hx106_1;replace hx106_2:=cb HB hx106_2;replace hx106_3:=cb HB hx106_3;replace hx106_4:=cb HB hx106_4;replace hx106_5:=cb HB hx106_5;replace hx106_6:=cb HB hx106_6;replace hx106_7:=cb HB hx106_7;replace hx106_8:=cb HB hx106_8;replace hx106_9:=cb HB hx106_9;have HR106_3:=Aside0.mk hi106_3;have HC106_3:=Aside0.mk hl106_3;clear hi106_3 hl106_3;have HR106_4:=Aside0.mk hi106_4;have HC106_4:=Aside0.mk hl106_4;clear hi106_4 hl106_4;have HR106_8:=Aside0.mk hi106_8;have HC106_8:=Aside0.mk hl106_8;clear hi106_8 hl106_8;have HR106_9:=Aside0.mk hi106_9;have HC106_9:=Aside0.mk hl106_9;clear hi106_9 hl106_9;replace p106:=eq_true p106;replace q106:=eq_true q106
       go_wp2_with (first|((with_reducible refine gate_callee (f:=26) rfl ?_);refine goesL_ (some 23) rfl rfl Try.func26 (by kernel_rfl) rfl #[.agg #[.int .i64 ((rd_T55 l0 x5_1).f0.f0),.int .i64 ((rd_T55 l0 x5_1).f0.f1),.string ((rd_T55 l0 x5_1).f0.f2),.slice A106_3 ((rd_T55 l0 x5_1).f0.f3).length c106_3,.slice A106_4 ((rd_T55 l0 x5_1).f0.f4).length c106_4,.int .i64 ((rd_T55 l0 x5_1).f1.f0),.int .i64 ((rd_T55 l0 x5_1).f1.f1),.string ((rd_T55 l0 x5_1).f1.f2),.slice A106_8 ((rd_T55 l0 x5_1).f1.f3).length c106_8,.slice A106_9 ((rd_T55 l0 x5_1).f1.f4).length c106_9],.int .i64 x1_1] rfl gs ?_;(with_reducible refine (ih_laws_szClause k1 (by have:=HK1.out;omega) ((rd_T55 l0 x5_1).f0.f0) ((rd_T55 l0 x5_1).f0.f1) ((rd_T55 l0 x5_1).f0.f2) _ _ ((rd_T55 l0 x5_1).f0.f3) _ _ ((rd_T55 l0 x5_1).f0.f4) ((rd_T55 l0 x5_1).f1.f0) ((rd_T55 l0 x5_1).f1.f1) ((rd_T55 l0 x5_1).f1.f2) _ _ ((rd_T55 l0 x5_1).f1.f3) _ _ ((rd_T55 l0 x5_1).f1.f4) x1_1 t107 _ ?side1 ?side2 ?side3 ?side4 ?side5 ?side6 ?side7 ?side8 A6.out).mono ?_);(case side1=>exact ck (Kd.C_below HR106_3.out HB.out));(case side2=>exact HC106_3.out);(case side3=>exact ck (Kd.C_below HR106_4.out HB.out));(case side4=>exact HC106_4.out);(case side5=>exact ck (Kd.C_below HR106_8.out HB.out));(case side6=>exact HC106_8.out);(case side7=>exact ck (Kd.C_below HR106_9.out HB.out));(case side8=>exact HC106_9.out);rintro e w9 ⟨rfl,hb⟩;refine ⟨_,rfl,?_⟩;have n_:=bq HB hb;clear HB;have HB:=n_;clear n_;(try clear hb);(try clear hb2);(try clear hk);(try clear hi)))
       go_roundg k1
       case measure=>have:=HK1.out;omega
       case rel=>exact ⟨(t107),(wrap64 (x5_1 + 1)),(cl2),(cl2),H',⟨by have:=HK1.out;omega⟩,⟨bl HB.out⟩⟩
     ·rw [if_neg c5] at H
      exact absurd H (by simp)
    ·rw [if_neg c4] at H
     have c4b0:decide (x5_1 < (l0.length:Int)) = false:=decide_eq_false c4;clear c4;obtain rfl:=Option.some.inj H
     go_wp2
     go_ret
     exact ⟨cl,bl HB.out⟩

/-! ### laws_szExpr: function 4 -/
set_option maxHeartbeats 8000000 in
set_option maxRecDepth 100000 in
theorem laws_szExpr.step (k:Nat) (ih_laws_szExprS:∀ k_,k_ < k → ∀ (A0:Option Addr) (c0:Nat) (l0:List (S25)) (a1:Int) (r:Int) (w:World) (hr0:Kd.C k25 w A0 l0.length l0) (hc0:l0.length≤c0) (h:laws_szExprS.f k_ l0 a1 = some r),Calls Try.prog 13 #[.slice A0 l0.length c0,.int .i64 a1] w fun e w'=>e = .returned (.int .i64 r)∧Below w.heap.size w w') (ih_laws_szClause:∀ k_,k_ < k → ∀ (a0_0:Int) (a0_1:Int) (a0_2:ByteArray) (A0_3:Option Addr) (c0_3:Nat) (l0_3:List (S25)) (A0_4:Option Addr) (c0_4:Nat) (l0_4:List (S55)) (a0_5:Int) (a0_6:Int) (a0_7:ByteArray) (A0_8:Option Addr) (c0_8:Nat) (l0_8:List (S25)) (A0_9:Option Addr) (c0_9:Nat) (l0_9:List (S55)) (a1:Int) (r:Int) (w:World) (hr0_3:Kd.C k25 w A0_3 l0_3.length l0_3) (hc0_3:l0_3.length≤c0_3) (hr0_4:Kd.C k55 w A0_4 l0_4.length l0_4) (hc0_4:l0_4.length≤c0_4) (hr0_8:Kd.C k25 w A0_8 l0_8.length l0_8) (hc0_8:l0_8.length≤c0_8) (hr0_9:Kd.C k55 w A0_9 l0_9.length l0_9) (hc0_9:l0_9.length≤c0_9) (h:laws_szClause.f k_ a0_0 a0_1 a0_2 l0_3 l0_4 a0_5 a0_6 a0_7 l0_8 l0_9 a1 = some r),Calls Try.prog 26 #[.agg #[.int .i64 a0_0,.int .i64 a0_1,.string a0_2,.slice A0_3 l0_3.length c0_3,.slice A0_4 l0_4.length c0_4,.int .i64 a0_5,.int .i64 a0_6,.string a0_7,.slice A0_8 l0_8.length c0_8,.slice A0_9 l0_9.length c0_9],.int .i64 a1] w fun e w'=>e = .returned (.int .i64 r)∧Below w.heap.size w w') (ih_laws_szClauseS:∀ k_,k_ < k → ∀ (A0:Option Addr) (c0:Nat) (l0:List (S55)) (a1:Int) (r:Int) (w:World) (hr0:Kd.C k55 w A0 l0.length l0) (hc0:l0.length≤c0) (h:laws_szClauseS.f k_ l0 a1 = some r),Calls Try.prog 14 #[.slice A0 l0.length c0,.int .i64 a1] w fun e w'=>e = .returned (.int .i64 r)∧Below w.heap.size w w') (ih_laws_szExpr:∀ k_,k_ < k → ∀ (a0_0:Int) (a0_1:Int) (a0_2:ByteArray) (A0_3:Option Addr) (c0_3:Nat) (l0_3:List (S25)) (A0_4:Option Addr) (c0_4:Nat) (l0_4:List (S55)) (a1:Int) (r:Int) (w:World) (hr0_3:Kd.C k25 w A0_3 l0_3.length l0_3) (hc0_3:l0_3.length≤c0_3) (hr0_4:Kd.C k55 w A0_4 l0_4.length l0_4) (hc0_4:l0_4.length≤c0_4) (h:laws_szExpr.f k_ a0_0 a0_1 a0_2 l0_3 l0_4 a1 = some r),Calls Try.prog 4 #[.agg #[.int .i64 a0_0,.int .i64 a0_1,.string a0_2,.slice A0_3 l0_3.length c0_3,.slice A0_4 l0_4.length c0_4],.int .i64 a1] w fun e w'=>e = .returned (.int .i64 r)∧Below w.heap.size w w'):∀ (a0_0:Int) (a0_1:Int) (a0_2:ByteArray) (A0_3:Option Addr) (c0_3:Nat) (l0_3:List (S25)) (A0_4:Option Addr) (c0_4:Nat) (l0_4:List (S55)) (a1:Int) (r:Int) (w:World) (hr0_3:Kd.C k25 w A0_3 l0_3.length l0_3) (hc0_3:l0_3.length≤c0_3) (hr0_4:Kd.C k55 w A0_4 l0_4.length l0_4) (hc0_4:l0_4.length≤c0_4) (h:laws_szExpr.f k a0_0 a0_1 a0_2 l0_3 l0_4 a1 = some r),
  Calls Try.prog 4 #[.agg #[.int .i64 a0_0,.int .i64 a0_1,.string a0_2,.slice A0_3 l0_3.length c0_3,.slice A0_4 l0_4.length c0_4],.int .i64 a1] w fun e w'=>e = .returned (.int .i64 r)∧Below w.heap.size w w':=by
 intro a0_0 a0_1 a0_2 A0_3 c0_3 l0_3 A0_4 c0_4 l0_4 a1 r w hr0_3 hc0_3 hr0_4 hc0_4 h
 cases k with
 | zero=>exact absurd h (by simp [laws_szExpr.f])
 | succ k =>
 simp only [laws_szExpr.f] at h;have hu25:=Try.underlying25;have HR0_3:=Aside0.mk hr0_3;have HC0_3:=Aside0.mk hc0_3;clear hr0_3 hc0_3;have HR0_4:=Aside0.mk hr0_4;have HC0_4:=Aside0.mk hc0_4;clear hr0_4 hc0_4;have HB:=Aside0.mk (Below.refl w.heap.size w);have H:(if (wrap64 (a1 - (a0_2.size:Int))) < 0 then (some (-1)) else ((laws_szExprS.f k l0_3 (wrap64 (a1 - (a0_2.size:Int)))).bind fun t109=>(if t109 < 0 then (some (-1)) else ((laws_szClauseS.f k l0_4 t109).bind fun t110=>(if t110 < 0 then (some (-1)) else (some t110)))))) = some r:=h;clear h
 by_cases c3:(wrap64 (a1 - (a0_2.size:Int))) < 0
 ·rw [if_pos c3] at H
  have c3b0:decide ((wrap64 (a1 - (a0_2.size:Int))) < 0) = true:=decide_eq_true c3;clear c3;obtain rfl:=Option.some.inj H
  go_enter Try.func4,Try.ntmps4
  go_wp2_with (first|((with_reducible refine gate_dst (N:=2) rfl ?_);refine box_event ?hg (N:=2) ?hd (cs:=#[.int .i64 a0_0,.int .i64 a0_1,.string a0_2,.slice A0_3 l0_3.length c0_3,.slice A0_4 l0_4.length c0_4]) (t:=25) ?hr ?_;(case hd=>rfl);(case hg=>rfl);(case hr=>first|(go_simp;done)|(go_simp;rfl));intro gb108 hg w4 hbox hb;have n_:=ai (bq HB hb) <| ai (Aside0.mk (hbox)) <| ai (bz hg HB) <| bz hg HB;clear HB;obtain ⟨HB,BK108,GW108,GE108⟩:=n_;clear hb hbox hg;obtain ⟨hcz5_0,hcz5_1,hcz5_2,hcz5_3,hcz5_4⟩:=kb5 BK108.out;obtain ⟨hfz5_0,hfz5_1,hfz5_2,hfz5_3,hfz5_4⟩:=kz5 BK108.out))
  go_ret
  exact ⟨cl,bl HB.out⟩
 ·rw [if_neg c3] at H
  have c3b0:decide ((wrap64 (a1 - (a0_2.size:Int))) < 0) = false:=decide_eq_false c3;clear c3;replace H:=Option.bind_eq_some_iff.mp H;obtain ⟨t109,A60,H⟩:=H;replace H:(if t109 < 0 then (some (-1)) else ((laws_szClauseS.f k l0_4 t109).bind fun t110=>(if t110 < 0 then (some (-1)) else (some t110)))) = some r:=H;have A6:=Aside0.mk A60;clear A60
  by_cases c7:t109 < 0
  ·rw [if_pos c7] at H
   have c7b0:decide (t109 < 0) = true:=decide_eq_true c7;clear c7;obtain rfl:=Option.some.inj H
   go_enter Try.func4,Try.ntmps4
   go_wp2_with (first|((with_reducible refine gate_dst (N:=2) rfl ?_);refine box_event ?hg (N:=2) ?hd (cs:=#[.int .i64 a0_0,.int .i64 a0_1,.string a0_2,.slice A0_3 l0_3.length c0_3,.slice A0_4 l0_4.length c0_4]) (t:=25) ?hr ?_;(case hd=>rfl);(case hg=>rfl);(case hr=>first|(go_simp;done)|(go_simp;rfl));intro gb108 hg w8 hbox hb;have n_:=ai (bq HB hb) <| ai (Aside0.mk (hbox)) <| ai (bz hg HB) <| bz hg HB;clear HB;obtain ⟨HB,BK108,GW108,GE108⟩:=n_;clear hb hbox hg;obtain ⟨hcz9_0,hcz9_1,hcz9_2,hcz9_3,hcz9_4⟩:=kb5 BK108.out;obtain ⟨hfz9_0,hfz9_1,hfz9_2,hfz9_3,hfz9_4⟩:=kz5 BK108.out)|((with_reducible refine gate_callee (f:=13) rfl ?_);refine goesL_ (some 15) rfl rfl Try.func13 (by kernel_rfl) rfl #[.slice A0_3 l0_3.length c0_3,.int .i64 (wrap64 (a1 - (a0_2.size:Int)))] rfl gs ?_;(with_reducible refine (ih_laws_szExprS k (by omega) _ _ l0_3 (wrap64 (a1 - (a0_2.size:Int))) t109 _ ?side1 ?side2 A6.out).mono ?_);(case side1=>exact ck (Kd.C_below HR0_3.out HB.out));(case side2=>exact HC0_3.out);rintro e w10 ⟨rfl,hb⟩;refine ⟨_,rfl,?_⟩;have n_:=ai (bw BK108 hb) <| bq HB hb;clear BK108 HB;obtain ⟨BK108,HB⟩:=n_;(try clear hb);(try clear hb2);(try clear hk);(try clear hi)))
   go_ret
   exact ⟨cl,bl HB.out⟩
  ·rw [if_neg c7] at H
   have c7b0:decide (t109 < 0) = false:=decide_eq_false c7;clear c7;replace H:=Option.bind_eq_some_iff.mp H;obtain ⟨t110,A110,H⟩:=H;replace H:(if t110 < 0 then (some (-1)) else (some t110)) = some r:=H;have A11:=Aside0.mk A110;clear A110
   by_cases c12:t110 < 0
   ·rw [if_pos c12] at H
    have c12b0:decide (t110 < 0) = true:=decide_eq_true c12;clear c12;obtain rfl:=Option.some.inj H
    go_enter Try.func4,Try.ntmps4
    go_wp2_with (first|((with_reducible refine gate_dst (N:=2) rfl ?_);refine box_event ?hg (N:=2) ?hd (cs:=#[.int .i64 a0_0,.int .i64 a0_1,.string a0_2,.slice A0_3 l0_3.length c0_3,.slice A0_4 l0_4.length c0_4]) (t:=25) ?hr ?_;(case hd=>rfl);(case hg=>rfl);(case hr=>first|(go_simp;done)|(go_simp;rfl));intro gb108 hg w13 hbox hb;have n_:=ai (bq HB hb) <| ai (Aside0.mk (hbox)) <| ai (bz hg HB) <| bz hg HB;clear HB;obtain ⟨HB,BK108,GW108,GE108⟩:=n_;clear hb hbox hg;obtain ⟨hcz14_0,hcz14_1,hcz14_2,hcz14_3,hcz14_4⟩:=kb5 BK108.out;obtain ⟨hfz14_0,hfz14_1,hfz14_2,hfz14_3,hfz14_4⟩:=kz5 BK108.out)|((with_reducible refine gate_callee (f:=13) rfl ?_);refine goesL_ (some 15) rfl rfl Try.func13 (by kernel_rfl) rfl #[.slice A0_3 l0_3.length c0_3,.int .i64 (wrap64 (a1 - (a0_2.size:Int)))] rfl gs ?_;(with_reducible refine (ih_laws_szExprS k (by omega) _ _ l0_3 (wrap64 (a1 - (a0_2.size:Int))) t109 _ ?side1 ?side2 A6.out).mono ?_);(case side1=>exact ck (Kd.C_below HR0_3.out HB.out));(case side2=>exact HC0_3.out);rintro e w15 ⟨rfl,hb⟩;refine ⟨_,rfl,?_⟩;have n_:=ai (bw BK108 hb) <| bq HB hb;clear BK108 HB;obtain ⟨BK108,HB⟩:=n_;(try clear hb);(try clear hb2);(try clear hk);(try clear hi);obtain ⟨hcz16_0,hcz16_1,hcz16_2,hcz16_3,hcz16_4⟩:=kb5 BK108.out;obtain ⟨hfz16_0,hfz16_1,hfz16_2,hfz16_3,hfz16_4⟩:=kz5 BK108.out)|((with_reducible refine gate_callee (f:=14) rfl ?_);refine goesL_ (some 21) rfl rfl Try.func14 (by kernel_rfl) rfl #[.slice A0_4 l0_4.length c0_4,.int .i64 t109] rfl gs ?_;(with_reducible refine (ih_laws_szClauseS k (by omega) _ _ l0_4 t109 t110 _ ?side1 ?side2 A11.out).mono ?_);(case side1=>exact ck (Kd.C_below HR0_4.out HB.out));(case side2=>exact HC0_4.out);rintro e w17 ⟨rfl,hb⟩;refine ⟨_,rfl,?_⟩;have n_:=ai (bw BK108 hb) <| bq HB hb;clear BK108 HB;obtain ⟨BK108,HB⟩:=n_;(try clear hb);(try clear hb2);(try clear hk);(try clear hi)))
    go_ret
    exact ⟨cl,bl HB.out⟩
   ·rw [if_neg c12] at H
    have c12b0:decide (t110 < 0) = false:=decide_eq_false c12;clear c12;obtain rfl:=Option.some.inj H
    go_enter Try.func4,Try.ntmps4
    go_wp2_with (first|((with_reducible refine gate_dst (N:=2) rfl ?_);refine box_event ?hg (N:=2) ?hd (cs:=#[.int .i64 a0_0,.int .i64 a0_1,.string a0_2,.slice A0_3 l0_3.length c0_3,.slice A0_4 l0_4.length c0_4]) (t:=25) ?hr ?_;(case hd=>rfl);(case hg=>rfl);(case hr=>first|(go_simp;done)|(go_simp;rfl));intro gb108 hg w18 hbox hb;have n_:=ai (bq HB hb) <| ai (Aside0.mk (hbox)) <| ai (bz hg HB) <| bz hg HB;clear HB;obtain ⟨HB,BK108,GW108,GE108⟩:=n_;clear hb hbox hg;obtain ⟨hcz19_0,hcz19_1,hcz19_2,hcz19_3,hcz19_4⟩:=kb5 BK108.out;obtain ⟨hfz19_0,hfz19_1,hfz19_2,hfz19_3,hfz19_4⟩:=kz5 BK108.out)|((with_reducible refine gate_callee (f:=13) rfl ?_);refine goesL_ (some 15) rfl rfl Try.func13 (by kernel_rfl) rfl #[.slice A0_3 l0_3.length c0_3,.int .i64 (wrap64 (a1 - (a0_2.size:Int)))] rfl gs ?_;(with_reducible refine (ih_laws_szExprS k (by omega) _ _ l0_3 (wrap64 (a1 - (a0_2.size:Int))) t109 _ ?side1 ?side2 A6.out).mono ?_);(case side1=>exact ck (Kd.C_below HR0_3.out HB.out));(case side2=>exact HC0_3.out);rintro e w20 ⟨rfl,hb⟩;refine ⟨_,rfl,?_⟩;have n_:=ai (bw BK108 hb) <| bq HB hb;clear BK108 HB;obtain ⟨BK108,HB⟩:=n_;(try clear hb);(try clear hb2);(try clear hk);(try clear hi);obtain ⟨hcz21_0,hcz21_1,hcz21_2,hcz21_3,hcz21_4⟩:=kb5 BK108.out;obtain ⟨hfz21_0,hfz21_1,hfz21_2,hfz21_3,hfz21_4⟩:=kz5 BK108.out)|((with_reducible refine gate_callee (f:=14) rfl ?_);refine goesL_ (some 21) rfl rfl Try.func14 (by kernel_rfl) rfl #[.slice A0_4 l0_4.length c0_4,.int .i64 t109] rfl gs ?_;(with_reducible refine (ih_laws_szClauseS k (by omega) _ _ l0_4 t109 t110 _ ?side1 ?side2 A11.out).mono ?_);(case side1=>exact ck (Kd.C_below HR0_4.out HB.out));(case side2=>exact HC0_4.out);rintro e w22 ⟨rfl,hb⟩;refine ⟨_,rfl,?_⟩;have n_:=ai (bw BK108 hb) <| bq HB hb;clear BK108 HB;obtain ⟨BK108,HB⟩:=n_;(try clear hb);(try clear hb2);(try clear hk);(try clear hi)))
    go_ret
    exact ⟨cl,bl HB.out⟩

theorem laws_szExprS.all (k:Nat):(∀ (A0:Option Addr) (c0:Nat) (l0:List (S25)) (a1:Int) (r:Int) (w:World) (hr0:Kd.C k25 w A0 l0.length l0) (hc0:l0.length≤c0) (h:laws_szExprS.f k l0 a1 = some r),Calls Try.prog 13 #[.slice A0 l0.length c0,.int .i64 a1] w fun e w'=>e = .returned (.int .i64 r)∧Below w.heap.size w w')∧(∀ (a0_0:Int) (a0_1:Int) (a0_2:ByteArray) (A0_3:Option Addr) (c0_3:Nat) (l0_3:List (S25)) (A0_4:Option Addr) (c0_4:Nat) (l0_4:List (S55)) (a0_5:Int) (a0_6:Int) (a0_7:ByteArray) (A0_8:Option Addr) (c0_8:Nat) (l0_8:List (S25)) (A0_9:Option Addr) (c0_9:Nat) (l0_9:List (S55)) (a1:Int) (r:Int) (w:World) (hr0_3:Kd.C k25 w A0_3 l0_3.length l0_3) (hc0_3:l0_3.length≤c0_3) (hr0_4:Kd.C k55 w A0_4 l0_4.length l0_4) (hc0_4:l0_4.length≤c0_4) (hr0_8:Kd.C k25 w A0_8 l0_8.length l0_8) (hc0_8:l0_8.length≤c0_8) (hr0_9:Kd.C k55 w A0_9 l0_9.length l0_9) (hc0_9:l0_9.length≤c0_9) (h:laws_szClause.f k a0_0 a0_1 a0_2 l0_3 l0_4 a0_5 a0_6 a0_7 l0_8 l0_9 a1 = some r),Calls Try.prog 26 #[.agg #[.int .i64 a0_0,.int .i64 a0_1,.string a0_2,.slice A0_3 l0_3.length c0_3,.slice A0_4 l0_4.length c0_4,.int .i64 a0_5,.int .i64 a0_6,.string a0_7,.slice A0_8 l0_8.length c0_8,.slice A0_9 l0_9.length c0_9],.int .i64 a1] w fun e w'=>e = .returned (.int .i64 r)∧Below w.heap.size w w')∧(∀ (A0:Option Addr) (c0:Nat) (l0:List (S55)) (a1:Int) (r:Int) (w:World) (hr0:Kd.C k55 w A0 l0.length l0) (hc0:l0.length≤c0) (h:laws_szClauseS.f k l0 a1 = some r),Calls Try.prog 14 #[.slice A0 l0.length c0,.int .i64 a1] w fun e w'=>e = .returned (.int .i64 r)∧Below w.heap.size w w')∧(∀ (a0_0:Int) (a0_1:Int) (a0_2:ByteArray) (A0_3:Option Addr) (c0_3:Nat) (l0_3:List (S25)) (A0_4:Option Addr) (c0_4:Nat) (l0_4:List (S55)) (a1:Int) (r:Int) (w:World) (hr0_3:Kd.C k25 w A0_3 l0_3.length l0_3) (hc0_3:l0_3.length≤c0_3) (hr0_4:Kd.C k55 w A0_4 l0_4.length l0_4) (hc0_4:l0_4.length≤c0_4) (h:laws_szExpr.f k a0_0 a0_1 a0_2 l0_3 l0_4 a1 = some r),Calls Try.prog 4 #[.agg #[.int .i64 a0_0,.int .i64 a0_1,.string a0_2,.slice A0_3 l0_3.length c0_3,.slice A0_4 l0_4.length c0_4],.int .i64 a1] w fun e w'=>e = .returned (.int .i64 r)∧Below w.heap.size w w'):=by
 induction k using Nat.strongRecOn with
 | _ k ih =>
 exact ⟨laws_szExprS.step k (fun k_ h_=>(ih k_ h_).1) (fun k_ h_=>(ih k_ h_).2.1) (fun k_ h_=>(ih k_ h_).2.2.1) (fun k_ h_=>(ih k_ h_).2.2.2),laws_szClause.step k (fun k_ h_=>(ih k_ h_).1) (fun k_ h_=>(ih k_ h_).2.1) (fun k_ h_=>(ih k_ h_).2.2.1) (fun k_ h_=>(ih k_ h_).2.2.2),laws_szClauseS.step k (fun k_ h_=>(ih k_ h_).1) (fun k_ h_=>(ih k_ h_).2.1) (fun k_ h_=>(ih k_ h_).2.2.1) (fun k_ h_=>(ih k_ h_).2.2.2),laws_szExpr.step k (fun k_ h_=>(ih k_ h_).1) (fun k_ h_=>(ih k_ h_).2.1) (fun k_ h_=>(ih k_ h_).2.2.1) (fun k_ h_=>(ih k_ h_).2.2.2)⟩
theorem laws_szExprS.calls (k:Nat):∀ (A0:Option Addr) (c0:Nat) (l0:List (S25)) (a1:Int) (r:Int) (w:World) (hr0:Kd.C k25 w A0 l0.length l0) (hc0:l0.length≤c0) (h:laws_szExprS.f k l0 a1 = some r),Calls Try.prog 13 #[.slice A0 l0.length c0,.int .i64 a1] w fun e w'=>e = .returned (.int .i64 r)∧Below w.heap.size w w':=(laws_szExprS.all k).1
theorem laws_szClause.calls (k:Nat):∀ (a0_0:Int) (a0_1:Int) (a0_2:ByteArray) (A0_3:Option Addr) (c0_3:Nat) (l0_3:List (S25)) (A0_4:Option Addr) (c0_4:Nat) (l0_4:List (S55)) (a0_5:Int) (a0_6:Int) (a0_7:ByteArray) (A0_8:Option Addr) (c0_8:Nat) (l0_8:List (S25)) (A0_9:Option Addr) (c0_9:Nat) (l0_9:List (S55)) (a1:Int) (r:Int) (w:World) (hr0_3:Kd.C k25 w A0_3 l0_3.length l0_3) (hc0_3:l0_3.length≤c0_3) (hr0_4:Kd.C k55 w A0_4 l0_4.length l0_4) (hc0_4:l0_4.length≤c0_4) (hr0_8:Kd.C k25 w A0_8 l0_8.length l0_8) (hc0_8:l0_8.length≤c0_8) (hr0_9:Kd.C k55 w A0_9 l0_9.length l0_9) (hc0_9:l0_9.length≤c0_9) (h:laws_szClause.f k a0_0 a0_1 a0_2 l0_3 l0_4 a0_5 a0_6 a0_7 l0_8 l0_9 a1 = some r),Calls Try.prog 26 #[.agg #[.int .i64 a0_0,.int .i64 a0_1,.string a0_2,.slice A0_3 l0_3.length c0_3,.slice A0_4 l0_4.length c0_4,.int .i64 a0_5,.int .i64 a0_6,.string a0_7,.slice A0_8 l0_8.length c0_8,.slice A0_9 l0_9.length c0_9],.int .i64 a1] w fun e w'=>e = .returned (.int .i64 r)∧Below w.heap.size w w':=(laws_szExprS.all k).2.1
theorem laws_szClauseS.calls (k:Nat):∀ (A0:Option Addr) (c0:Nat) (l0:List (S55)) (a1:Int) (r:Int) (w:World) (hr0:Kd.C k55 w A0 l0.length l0) (hc0:l0.length≤c0) (h:laws_szClauseS.f k l0 a1 = some r),Calls Try.prog 14 #[.slice A0 l0.length c0,.int .i64 a1] w fun e w'=>e = .returned (.int .i64 r)∧Below w.heap.size w w':=(laws_szExprS.all k).2.2.1
theorem laws_szExpr.calls (k:Nat):∀ (a0_0:Int) (a0_1:Int) (a0_2:ByteArray) (A0_3:Option Addr) (c0_3:Nat) (l0_3:List (S25)) (A0_4:Option Addr) (c0_4:Nat) (l0_4:List (S55)) (a1:Int) (r:Int) (w:World) (hr0_3:Kd.C k25 w A0_3 l0_3.length l0_3) (hc0_3:l0_3.length≤c0_3) (hr0_4:Kd.C k55 w A0_4 l0_4.length l0_4) (hc0_4:l0_4.length≤c0_4) (h:laws_szExpr.f k a0_0 a0_1 a0_2 l0_3 l0_4 a1 = some r),Calls Try.prog 4 #[.agg #[.int .i64 a0_0,.int .i64 a0_1,.string a0_2,.slice A0_3 l0_3.length c0_3,.slice A0_4 l0_4.length c0_4],.int .i64 a1] w fun e w'=>e = .returned (.int .i64 r)∧Below w.heap.size w w':=(laws_szExprS.all k).2.2.2

/-! ### spec_l4Has: function 27 -/
def spec_l4Has.l0:Nat → List ByteArray → ByteArray → Int → Option (Bool)
 | 0,_,_,_=>none
 | k + 1,x0,x1,x5=>if x5 < (x0.length:Int) then (if 0≤x5 then (if (rdOf ByteArray.empty x0 x5).toList = x1.toList then (some true) else (spec_l4Has.l0 k x0 x1 (wrap64 (x5 + 1)))) else (none)) else (some false)
def spec_l4Has.f (k:Nat) (l0:List ByteArray) (a1:ByteArray):Option (Bool):=spec_l4Has.l0 k l0 a1 0
theorem spec_l4Has.mono_l:∀ k,(∀ y0 y1 y2,LeO (spec_l4Has.l0 k y0 y1 y2) (spec_l4Has.l0 (k + 1) y0 y1 y2))
 | 0=>fun _ _ _ r h=>by simp [spec_l4Has.l0] at h
 | k + 1=>by
  have ih0:=spec_l4Has.mono_l k
  ·intro y0 y1 y2
   unfold spec_l4Has.l0
   with_reducible repeat' first|apply ih0|apply LeO.refl|apply LeO.none|apply LeO.ite|refine LeO.bind ?_ (fun _=>?_)
theorem spec_l4Has.mono:∀ a0 a1 k,LeO (spec_l4Has.f k a0 a1) (spec_l4Has.f (k + 1) a0 a1):=by
 intro a0 a1 k;have ih0:=spec_l4Has.mono_l k
 unfold spec_l4Has.f
 with_reducible repeat' first|apply ih0|apply LeO.refl|apply LeO.none|apply LeO.ite|refine LeO.bind ?_ (fun _=>?_)
set_option maxHeartbeats 8000000 in
set_option maxRecDepth 100000 in
theorem spec_l4Has.calls (k:Nat) (A0:Option Addr) (c0:Nat) (l0:List ByteArray) (a1:ByteArray) (r:Bool) (w:World) (hr0:Kd.C Kd.string w A0 l0.length l0) (hc0:l0.length≤c0) (h:spec_l4Has.f k l0 a1 = some r) :
  Calls Try.prog 27 #[.slice A0 l0.length c0,.string a1] w fun e w'=>e = .returned (.bool r)∧Drawn0 w w':=by
 have HR0:=Aside0.mk hr0;have HC0:=Aside0.mk hc0;clear hr0 hc0;have H:(spec_l4Has.l0 k l0 a1 0) = some r:=h;clear h;have H':=Aside0.mk H;clear H
 go_enter Try.func27,Try.ntmps27
 go_wp2
 go_loopg [5] k (fun kq v5 w'=>∃ (x5_1:Int),v5 = .int .i64 x5_1∧Aside0 (spec_l4Has.l0 kq l0 a1 x5_1 = some r)∧Aside0 (kq≤k)∧Drawn0 w w')
 case atStart=>exact ⟨(0),(cl2),H',⟨Nat.le_refl _⟩,by repeat (first|exact Drawn0.refl _|apply Drawn0.step)⟩
 case round =>
  clear H';(try clear c2);(try clear p2);obtain ⟨x5_1,rfl,HA,HK1,⟨m1,rfl⟩⟩:=hrel
  cases gk with
  | zero=>exact absurd HA.out (by simp [spec_l4Has.l0])
  | succ k1 =>
   have H:=HA.out;clear HA;simp only [spec_l4Has.l0] at H
   by_cases c3:x5_1 < (l0.length:Int)
   ·rw [if_pos c3] at H
    have c3b0:decide (x5_1 < (l0.length:Int)) = true:=decide_eq_true c3;clear c3
    by_cases c4:0≤x5_1
    ·rw [if_pos c4] at H
     have c4b0:decide (0≤x5_1) = true:=decide_eq_true c4;clear c4
     by_cases c5:(rdOf ByteArray.empty l0 x5_1).toList = a1.toList
     ·rw [if_pos c5] at H
      have c5b0:((rdOf ByteArray.empty l0 x5_1).toList == a1.toList) = true:=beq_iff_eq.mpr c5;have c5b1:((rdOf ByteArray.empty l0 x5_1).toList != a1.toList) = false:=bne_eq_false_iff_eq.mpr c5;clear c5;obtain rfl:=Option.some.inj H;have p111:0≤(x5_1:Int):=od;have q111:x5_1 < (l0.length:Int):=od;obtain ⟨ad111,e111,hx111_0⟩:=Kd.at_string HR0.out x5_1 p111 q111;cases e111;replace p111:=eq_true p111;replace q111:=eq_true q111
      go_wp2
      go_ret
      exact ⟨cl2,by repeat (first|exact Drawn0.refl _|apply Drawn0.step)⟩
     ·rw [if_neg c5] at H
      have c5b0:((rdOf ByteArray.empty l0 x5_1).toList == a1.toList) = false:=beq_eq_false_iff_ne.mpr c5;have c5b1:((rdOf ByteArray.empty l0 x5_1).toList != a1.toList) = true:=bne_iff_ne.mpr c5;have H':=Aside0.mk H;clear H;have p111:0≤(x5_1:Int):=od;have q111:x5_1 < (l0.length:Int):=od;obtain ⟨ad111,e111,hx111_0⟩:=Kd.at_string HR0.out x5_1 p111 q111;cases e111;replace p111:=eq_true p111;replace q111:=eq_true q111
      go_wp2
      go_roundg k1
      case measure=>have:=HK1.out;omega
      case rel=>exact ⟨(wrap64 (x5_1 + 1)),(cl2),H',⟨by have:=HK1.out;omega⟩,by repeat (first|exact Drawn0.refl _|apply Drawn0.step)⟩
    ·rw [if_neg c4] at H
     exact absurd H (by simp)
   ·rw [if_neg c3] at H
    have c3b0:decide (x5_1 < (l0.length:Int)) = false:=decide_eq_false c3;clear c3;obtain rfl:=Option.some.inj H
    go_wp2
    go_ret
    exact ⟨cl2,by repeat (first|exact Drawn0.refl _|apply Drawn0.step)⟩

end Go.Proofs.Ytlgenmndgngmdaa.QFnExactFreeOf
