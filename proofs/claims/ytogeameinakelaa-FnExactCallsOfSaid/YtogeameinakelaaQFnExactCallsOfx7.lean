-- Written by a program of this workplace (print2.py) for this claim, over the print's words.
import Derived.Test.YtogeameinakelaaQFnExactCallsOfx0
import Derived.Test.YtogeameinakelaaQFnExactCallsOfx1
import Derived.Test.YtogeameinakelaaQFnExactCallsOfx2
import Derived.Test.YtogeameinakelaaQFnExactCallsOfx3
import Derived.Test.YtogeameinakelaaQFnExactCallsOfx4
import Derived.Test.YtogeameinakelaaQFnExactCallsOfx5
import Derived.Test.YtogeameinakelaaQFnExactCallsOfx6
namespace Go.Proofs.Ytogeameinakelaa.QFnExactCallsOf
open Go.RowKit Go.Proofs.YtogeameinakelaaW.PrintWords Go.Proofs.YtogeameinakelaaW.PrintLast Go.Proofs.YtogeameinakelaaW.PrintMore
attribute [local go_sem] max2_int min2_int max_two min_two max_three min_three max_four min_four   -- for this text's walks alone
set_option linter.unusedVariables false
set_option linter.unusedSimpArgs false

/-! ### laws_FnExactCallsOf: function 3 -/
mutual
def laws_FnExactCallsOf.j0:Nat → Int → Int → ByteArray → List (S25) → List (S54) → Option (Bool)
 | 0,_,_,_,_,_=>none
 | k + 1,x246000,x246001,x246002,x246003,x246004=>(laws_toExpr.f k x246000 x246001 x246002 x246003 x246004).bind fun bt247=>((spec_CallsOf.f k bt247.1 bt247.2.1 bt247.2.2.1 bt247.2.2.2.1 bt247.2.2.2.2).bind fun t256=>((laws_toExpr.f k x246000 x246001 x246002 x246003 x246004).bind fun bt259=>((impl_CallsOf.f k bt259.1 bt259.2.1 bt259.2.2.1 bt259.2.2.2.1 bt259.2.2.2.2).bind fun t269=>((laws_eqStringS.f k t269 t256).bind fun t272=>(if t272 = true then (laws_FnExactCallsOf.j1 k t256 t269 x246000 x246001 x246002 x246003 x246004 bt259.1 bt259.2.1 bt259.2.2.1 bt259.2.2.2.1 bt259.2.2.2.2) else (some false))))))
def laws_FnExactCallsOf.j1:Nat → List ByteArray → List ByteArray → Int → Int → ByteArray → List (S25) → List (S54) → Int → Int → ByteArray → List (S32) → List (S42) → Option (Bool)
 | 0,_,_,_,_,_,_,_,_,_,_,_,_=>none
 | k + 1,x4,x6,x246000,x246001,x246002,x246003,x246004,x269000,x269001,x269002,x269003,x269004=>(laws_toExpr.f k x246000 x246001 x246002 x246003 x246004).bind fun bt273=>((laws_eqExpr.f k x269000 x269001 x269002 x269003 x269004 bt273.1 bt273.2.1 bt273.2.2.1 bt273.2.2.2.1 bt273.2.2.2.2).bind fun t282=>(if t282 = true then (laws_FnExactCallsOf.j2 k x4 x6 x246000 x246001 x246002 x246003 x246004 x269000 x269001 x269002 x269003 x269004) else (some false)))
def laws_FnExactCallsOf.j2:Nat → List ByteArray → List ByteArray → Int → Int → ByteArray → List (S25) → List (S54) → Int → Int → ByteArray → List (S32) → List (S42) → Option (Bool)
 | 0,_,_,_,_,_,_,_,_,_,_,_,_=>none
 | k + 1,x4,x6,x246000,x246001,x246002,x246003,x246004,x269000,x269001,x269002,x269003,x269004=>(laws_markExpr.f k x269000 x269001 x269002 x269003 x269004 1).bind fun t283=>(if t283 < 0 then (laws_FnExactCallsOf.j3 k x4 x6 true x246000 x246001 x246002 x246003 x246004) else ((laws_eqStringS.f k x6 x4).bind fun t284=>(laws_FnExactCallsOf.j3 k x4 x6 (!t284) x246000 x246001 x246002 x246003 x246004)))
def laws_FnExactCallsOf.j3:Nat → List ByteArray → List ByteArray → Bool → Int → Int → ByteArray → List (S25) → List (S54) → Option (Bool)
 | 0,_,_,_,_,_,_,_,_=>none
 | k + 1,x4,x6,x42,x246000,x246001,x246002,x246003,x246004=>if x42 = true then (some false) else (laws_FnExactCallsOf.j4 k x4 x6 x246000 x246001 x246002 x246003 x246004)
def laws_FnExactCallsOf.j4:Nat → List ByteArray → List ByteArray → Int → Int → ByteArray → List (S25) → List (S54) → Option (Bool)
 | 0,_,_,_,_,_,_,_=>none
 | k + 1,x4,x6,x246000,x246001,x246002,x246003,x246004=>(laws_markStringS.f k x6 1).bind fun bt285=>((laws_heldStringS.f k bt285.2 1).bind fun t287=>(if t287 < 0 then (some false) else (laws_FnExactCallsOf.j5 k x4 bt285.2 bt285.1 t287 x246000 x246001 x246002 x246003 x246004)))
def laws_FnExactCallsOf.j5:Nat → List ByteArray → List ByteArray → Int → Int → Int → Int → ByteArray → List (S25) → List (S54) → Option (Bool)
 | 0,_,_,_,_,_,_,_,_,_=>none
 | k + 1,x4,x6,x8,x9,x246000,x246001,x246002,x246003,x246004=>if x9 = x8 then (laws_FnExactCallsOf.j6 k x4 x6 x8 x246000 x246001 x246002 x246003 x246004) else (some false)
def laws_FnExactCallsOf.j6:Nat → List ByteArray → List ByteArray → Int → Int → Int → ByteArray → List (S25) → List (S54) → Option (Bool)
 | 0,_,_,_,_,_,_,_,_=>none
 | k + 1,x4,x6,x8,x246000,x246001,x246002,x246003,x246004=>(laws_toExpr.f k x246000 x246001 x246002 x246003 x246004).bind fun bt288=>((impl_CallsOf.f k bt288.1 bt288.2.1 bt288.2.2.1 bt288.2.2.2.1 bt288.2.2.2.2).bind fun t297=>((laws_eqStringS.f k t297 x4).bind fun t300=>(if t300 = true then (laws_FnExactCallsOf.j7 k x6 x8) else (some false))))
def laws_FnExactCallsOf.j7:Nat → List ByteArray → Int → Option (Bool)
 | 0,_,_=>none
 | k + 1,x6,x8=>(laws_heldStringS.f k x6 1).bind fun t301=>(if t301 < 0 then (some false) else (if t301 = x8 then (some true) else (some false)))
end
def laws_FnExactCallsOf.f (k:Nat) (a0_0:Int) (a0_1:Int) (a0_2:ByteArray) (l0_3:List (S25)) (l0_4:List (S54)):Option (Bool):=(laws_szExpr.f k a0_0 a0_1 a0_2 l0_3 l0_4 1048576).bind fun t246=>(if t246 < 0 then (some true) else (laws_FnExactCallsOf.j0 k a0_0 a0_1 a0_2 l0_3 l0_4))
theorem laws_FnExactCallsOf.mono_l:∀ k,(∀ y0 y1 y2 y3 y4,LeO (laws_FnExactCallsOf.j0 k y0 y1 y2 y3 y4) (laws_FnExactCallsOf.j0 (k + 1) y0 y1 y2 y3 y4))∧(∀ y0 y1 y2 y3 y4 y5 y6 y7 y8 y9 y10 y11,LeO (laws_FnExactCallsOf.j1 k y0 y1 y2 y3 y4 y5 y6 y7 y8 y9 y10 y11) (laws_FnExactCallsOf.j1 (k + 1) y0 y1 y2 y3 y4 y5 y6 y7 y8 y9 y10 y11))∧(∀ y0 y1 y2 y3 y4 y5 y6 y7 y8 y9 y10 y11,LeO (laws_FnExactCallsOf.j2 k y0 y1 y2 y3 y4 y5 y6 y7 y8 y9 y10 y11) (laws_FnExactCallsOf.j2 (k + 1) y0 y1 y2 y3 y4 y5 y6 y7 y8 y9 y10 y11))∧(∀ y0 y1 y2 y3 y4 y5 y6 y7,LeO (laws_FnExactCallsOf.j3 k y0 y1 y2 y3 y4 y5 y6 y7) (laws_FnExactCallsOf.j3 (k + 1) y0 y1 y2 y3 y4 y5 y6 y7))∧(∀ y0 y1 y2 y3 y4 y5 y6,LeO (laws_FnExactCallsOf.j4 k y0 y1 y2 y3 y4 y5 y6) (laws_FnExactCallsOf.j4 (k + 1) y0 y1 y2 y3 y4 y5 y6))∧(∀ y0 y1 y2 y3 y4 y5 y6 y7 y8,LeO (laws_FnExactCallsOf.j5 k y0 y1 y2 y3 y4 y5 y6 y7 y8) (laws_FnExactCallsOf.j5 (k + 1) y0 y1 y2 y3 y4 y5 y6 y7 y8))∧(∀ y0 y1 y2 y3 y4 y5 y6 y7,LeO (laws_FnExactCallsOf.j6 k y0 y1 y2 y3 y4 y5 y6 y7) (laws_FnExactCallsOf.j6 (k + 1) y0 y1 y2 y3 y4 y5 y6 y7))∧(∀ y0 y1,LeO (laws_FnExactCallsOf.j7 k y0 y1) (laws_FnExactCallsOf.j7 (k + 1) y0 y1))
 | 0=>⟨fun _ _ _ _ _ r h=>by simp [laws_FnExactCallsOf.j0] at h,fun _ _ _ _ _ _ _ _ _ _ _ _ r h=>by simp [laws_FnExactCallsOf.j1] at h,fun _ _ _ _ _ _ _ _ _ _ _ _ r h=>by simp [laws_FnExactCallsOf.j2] at h,fun _ _ _ _ _ _ _ _ r h=>by simp [laws_FnExactCallsOf.j3] at h,fun _ _ _ _ _ _ _ r h=>by simp [laws_FnExactCallsOf.j4] at h,fun _ _ _ _ _ _ _ _ _ r h=>by simp [laws_FnExactCallsOf.j5] at h,fun _ _ _ _ _ _ _ _ r h=>by simp [laws_FnExactCallsOf.j6] at h,fun _ _ r h=>by simp [laws_FnExactCallsOf.j7] at h⟩
 | k + 1=>by
  obtain ⟨ih0,ih1,ih2,ih3,ih4,ih5,ih6,ih7⟩:=laws_FnExactCallsOf.mono_l k
  refine ⟨?_,?_,?_,?_,?_,?_,?_,?_⟩
  ·intro y0 y1 y2 y3 y4
   unfold laws_FnExactCallsOf.j0
   with_reducible repeat' first|apply ih0|apply ih1|apply ih2|apply ih3|apply ih4|apply ih5|apply ih6|apply ih7|apply impl_CallsOf.mono|apply laws_eqExpr.mono|apply laws_eqStringS.mono|apply laws_heldStringS.mono|apply laws_markExpr.mono|apply laws_markStringS.mono|apply laws_szExpr.mono|apply laws_toExpr.mono|apply spec_CallsOf.mono|apply LeO.refl|apply LeO.none|apply LeO.ite|refine LeO.bind ?_ (fun _=>?_)
  ·intro y0 y1 y2 y3 y4 y5 y6 y7 y8 y9 y10 y11
   unfold laws_FnExactCallsOf.j1
   with_reducible repeat' first|apply ih0|apply ih1|apply ih2|apply ih3|apply ih4|apply ih5|apply ih6|apply ih7|apply impl_CallsOf.mono|apply laws_eqExpr.mono|apply laws_eqStringS.mono|apply laws_heldStringS.mono|apply laws_markExpr.mono|apply laws_markStringS.mono|apply laws_szExpr.mono|apply laws_toExpr.mono|apply spec_CallsOf.mono|apply LeO.refl|apply LeO.none|apply LeO.ite|refine LeO.bind ?_ (fun _=>?_)
  ·intro y0 y1 y2 y3 y4 y5 y6 y7 y8 y9 y10 y11
   unfold laws_FnExactCallsOf.j2
   with_reducible repeat' first|apply ih0|apply ih1|apply ih2|apply ih3|apply ih4|apply ih5|apply ih6|apply ih7|apply impl_CallsOf.mono|apply laws_eqExpr.mono|apply laws_eqStringS.mono|apply laws_heldStringS.mono|apply laws_markExpr.mono|apply laws_markStringS.mono|apply laws_szExpr.mono|apply laws_toExpr.mono|apply spec_CallsOf.mono|apply LeO.refl|apply LeO.none|apply LeO.ite|refine LeO.bind ?_ (fun _=>?_)
  ·intro y0 y1 y2 y3 y4 y5 y6 y7
   unfold laws_FnExactCallsOf.j3
   with_reducible repeat' first|apply ih0|apply ih1|apply ih2|apply ih3|apply ih4|apply ih5|apply ih6|apply ih7|apply impl_CallsOf.mono|apply laws_eqExpr.mono|apply laws_eqStringS.mono|apply laws_heldStringS.mono|apply laws_markExpr.mono|apply laws_markStringS.mono|apply laws_szExpr.mono|apply laws_toExpr.mono|apply spec_CallsOf.mono|apply LeO.refl|apply LeO.none|apply LeO.ite|refine LeO.bind ?_ (fun _=>?_)
  ·intro y0 y1 y2 y3 y4 y5 y6
   unfold laws_FnExactCallsOf.j4
   with_reducible repeat' first|apply ih0|apply ih1|apply ih2|apply ih3|apply ih4|apply ih5|apply ih6|apply ih7|apply impl_CallsOf.mono|apply laws_eqExpr.mono|apply laws_eqStringS.mono|apply laws_heldStringS.mono|apply laws_markExpr.mono|apply laws_markStringS.mono|apply laws_szExpr.mono|apply laws_toExpr.mono|apply spec_CallsOf.mono|apply LeO.refl|apply LeO.none|apply LeO.ite|refine LeO.bind ?_ (fun _=>?_)
  ·intro y0 y1 y2 y3 y4 y5 y6 y7 y8
   unfold laws_FnExactCallsOf.j5
   with_reducible repeat' first|apply ih0|apply ih1|apply ih2|apply ih3|apply ih4|apply ih5|apply ih6|apply ih7|apply impl_CallsOf.mono|apply laws_eqExpr.mono|apply laws_eqStringS.mono|apply laws_heldStringS.mono|apply laws_markExpr.mono|apply laws_markStringS.mono|apply laws_szExpr.mono|apply laws_toExpr.mono|apply spec_CallsOf.mono|apply LeO.refl|apply LeO.none|apply LeO.ite|refine LeO.bind ?_ (fun _=>?_)
  ·intro y0 y1 y2 y3 y4 y5 y6 y7
   unfold laws_FnExactCallsOf.j6
   with_reducible repeat' first|apply ih0|apply ih1|apply ih2|apply ih3|apply ih4|apply ih5|apply ih6|apply ih7|apply impl_CallsOf.mono|apply laws_eqExpr.mono|apply laws_eqStringS.mono|apply laws_heldStringS.mono|apply laws_markExpr.mono|apply laws_markStringS.mono|apply laws_szExpr.mono|apply laws_toExpr.mono|apply spec_CallsOf.mono|apply LeO.refl|apply LeO.none|apply LeO.ite|refine LeO.bind ?_ (fun _=>?_)
  ·intro y0 y1
   unfold laws_FnExactCallsOf.j7
   with_reducible repeat' first|apply ih0|apply ih1|apply ih2|apply ih3|apply ih4|apply ih5|apply ih6|apply ih7|apply impl_CallsOf.mono|apply laws_eqExpr.mono|apply laws_eqStringS.mono|apply laws_heldStringS.mono|apply laws_markExpr.mono|apply laws_markStringS.mono|apply laws_szExpr.mono|apply laws_toExpr.mono|apply spec_CallsOf.mono|apply LeO.refl|apply LeO.none|apply LeO.ite|refine LeO.bind ?_ (fun _=>?_)
theorem laws_FnExactCallsOf.mono:∀ a0 a1 a2 a3 a4 k,LeO (laws_FnExactCallsOf.f k a0 a1 a2 a3 a4) (laws_FnExactCallsOf.f (k + 1) a0 a1 a2 a3 a4):=by
 intro a0 a1 a2 a3 a4 k;obtain ⟨ih0,ih1,ih2,ih3,ih4,ih5,ih6,ih7⟩:=laws_FnExactCallsOf.mono_l k
 unfold laws_FnExactCallsOf.f
 with_reducible repeat' first|apply ih0|apply ih1|apply ih2|apply ih3|apply ih4|apply ih5|apply ih6|apply ih7|apply impl_CallsOf.mono|apply laws_eqExpr.mono|apply laws_eqStringS.mono|apply laws_heldStringS.mono|apply laws_markExpr.mono|apply laws_markStringS.mono|apply laws_szExpr.mono|apply laws_toExpr.mono|apply spec_CallsOf.mono|apply LeO.refl|apply LeO.none|apply LeO.ite|refine LeO.bind ?_ (fun _=>?_)
set_option maxHeartbeats 8000000 in
set_option maxRecDepth 100000 in
theorem laws_FnExactCallsOf.calls (k:Nat) (a0_0:Int) (a0_1:Int) (a0_2:ByteArray) (A0_3:Option Addr) (c0_3:Nat) (l0_3:List (S25)) (A0_4:Option Addr) (c0_4:Nat) (l0_4:List (S54)) (r:Bool) (w:World) (hr0_3:Kd.C k25 w A0_3 l0_3.length l0_3) (hc0_3:l0_3.length≤c0_3) (hr0_4:Kd.C k54 w A0_4 l0_4.length l0_4) (hc0_4:l0_4.length≤c0_4) (h:laws_FnExactCallsOf.f k a0_0 a0_1 a0_2 l0_3 l0_4 = some r) :
  Calls Try.prog 3 #[.agg #[.int .i64 a0_0,.int .i64 a0_1,.string a0_2,.slice A0_3 l0_3.length c0_3,.slice A0_4 l0_4.length c0_4]] w fun e w'=>e = .returned (.bool r)∧Below w.heap.size w w':=by
 have hu25:=Try.underlying25;have hu32:=Try.underlying32;have HR0_3:=Aside0.mk hr0_3;have HC0_3:=Aside0.mk hc0_3;clear hr0_3 hc0_3;have HR0_4:=Aside0.mk hr0_4;have HC0_4:=Aside0.mk hc0_4;clear hr0_4 hc0_4;have HB:=Aside0.mk (Below.refl w.heap.size w);have H:((laws_szExpr.f k a0_0 a0_1 a0_2 l0_3 l0_4 1048576).bind fun t246=>(if t246 < 0 then (some true) else (laws_FnExactCallsOf.j0 k a0_0 a0_1 a0_2 l0_3 l0_4))) = some r:=h;clear h;replace H:=Option.bind_eq_some_iff.mp H;obtain ⟨t246,A20,H⟩:=H;replace H:(if t246 < 0 then (some true) else (laws_FnExactCallsOf.j0 k a0_0 a0_1 a0_2 l0_3 l0_4)) = some r:=H;have A2:=Aside0.mk A20;clear A20;have HC3:=Aside0.mk H;clear H
 go_enter Try.func3,Try.ntmps3
 go_upto_if 15 with (first|((with_reducible refine gate_dst (N:=1) rfl ?_);refine box_event ?hg (N:=1) ?hd (cs:=#[.int .i64 a0_0,.int .i64 a0_1,.string a0_2,.slice A0_3 l0_3.length c0_3,.slice A0_4 l0_4.length c0_4]) (t:=25) ?hr ?_;(case hd=>rfl);(case hg=>rfl);(case hr=>first|(go_simp;done)|(go_simp;rfl));intro gb245 hg w4 hbox hb;have n_:=ai (bq HB hb) <| ai (Aside0.mk (hbox)) <| ai (bz hg HB) <| bz hg HB;clear HB;obtain ⟨HB,BK245,GW245,GE245⟩:=n_;clear hb hbox hg;obtain ⟨h5_0,h5_1,h5_2,h5_3,h5_4⟩:=kb5 BK245.out;obtain ⟨z5_0,z5_1,z5_2,z5_3,z5_4⟩:=kz5 BK245.out)|((with_reducible refine gate_callee (f:=4) rfl ?_);refine goesL_ (some 13) rfl rfl Try.func4 (by kernel_rfl) rfl #[.agg #[.int .i64 a0_0,.int .i64 a0_1,.string a0_2,.slice A0_3 l0_3.length c0_3,.slice A0_4 l0_4.length c0_4],.int .i64 1048576] rfl gs ?_;(with_reducible refine (laws_szExpr.calls k a0_0 a0_1 a0_2 _ _ l0_3 _ _ l0_4 1048576 t246 _ ?side1 ?side2 ?side3 ?side4 A2.out).mono ?_);(case side1=>exact ck (Kd.C_below HR0_3.out HB.out));(case side2=>exact HC0_3.out);(case side3=>exact ck (Kd.C_below HR0_4.out HB.out));(case side4=>exact HC0_4.out);rintro e w6 ⟨rfl,hb⟩;refine ⟨_,rfl,?_⟩;have n_:=ai (bw BK245 hb) <| bq HB hb;clear BK245 HB;obtain ⟨BK245,HB⟩:=n_;(try clear hb);(try clear hi)))
 (try simp only [Act.put,List.setIfInBounds_toArray,List.set_cons_zero,List.set_cons_succ])
 go_cut [] (fun wc=>∃ (kq:Nat),Aside0 (laws_FnExactCallsOf.j0 kq a0_0 a0_1 a0_2 l0_3 l0_4 = some r)∧Aside0 (kq≤k)∧Aside0 (wc.heap[gb245]? = some (.cells #[.int .i64 a0_0,.int .i64 a0_1,.string a0_2,(.slice A0_3 l0_3.length c0_3),(.slice A0_4 l0_4.length c0_4)] 25 (0,0)))∧Aside0 (Below w.heap.size w wc))
 case first =>
  have H:=HC3.out;clear HC3
  by_cases c7:t246 < 0
  ·rw [if_pos c7] at H
   have c7b0:decide (t246 < 0) = true:=decide_eq_true c7;clear c7
   (first|rw [c7b0]|(simp only [i64_w,i32_w];rw [c7b0])|(simp only [c7b2,Bool.not_true,Bool.not_false])|skip)
   obtain rfl:=Option.some.inj H
   go_wp2
   go_ret
   exact ⟨cl,bl HB.out⟩
  ·rw [if_neg c7] at H
   have c7b0:decide (t246 < 0) = false:=decide_eq_false c7;clear c7
   (first|rw [c7b0]|(simp only [i64_w,i32_w];rw [c7b0])|(simp only [c7b2,Bool.not_true,Bool.not_false])|skip)
   have H':=Aside0.mk H;clear H
   go_wp2
   go_meet
   case rel=>exact ⟨_,H',⟨by first|omega|exact Nat.le_refl _⟩,⟨bk BK245.out⟩,⟨bl HB.out⟩⟩
 case rest =>
  clear HC3;(try clear h5_0 h5_1 h5_2 h5_3 h5_4);(try clear z5_0 z5_1 z5_2 z5_3 z5_4);(try clear BK245);(try clear HB);obtain ⟨kq,HA,HJ2,BK245,HB⟩:=hcut
  cases kq with
  | zero=>exact absurd HA.out (by simp [laws_FnExactCallsOf.j0])
  | succ kj2 =>
   have H:=HA.out;clear HA;simp only [laws_FnExactCallsOf.j0] at H;replace H:=Option.bind_eq_some_iff.mp H;obtain ⟨⟨t247,t248,t249,t250,t253⟩,A80,H⟩:=H;replace H:((spec_CallsOf.f kj2 t247 t248 t249 t250 t253).bind fun t256=>((laws_toExpr.f kj2 a0_0 a0_1 a0_2 l0_3 l0_4).bind fun bt259=>((impl_CallsOf.f kj2 bt259.1 bt259.2.1 bt259.2.2.1 bt259.2.2.2.1 bt259.2.2.2.2).bind fun t269=>((laws_eqStringS.f kj2 t269 t256).bind fun t272=>(if t272 = true then (laws_FnExactCallsOf.j1 kj2 t256 t269 a0_0 a0_1 a0_2 l0_3 l0_4 bt259.1 bt259.2.1 bt259.2.2.1 bt259.2.2.2.1 bt259.2.2.2.2) else (some false)))))) = some r:=H;have A8:=Aside0.mk A80;clear A80;replace H:=Option.bind_eq_some_iff.mp H;obtain ⟨t256,A90,H⟩:=H;replace H:((laws_toExpr.f kj2 a0_0 a0_1 a0_2 l0_3 l0_4).bind fun bt259=>((impl_CallsOf.f kj2 bt259.1 bt259.2.1 bt259.2.2.1 bt259.2.2.2.1 bt259.2.2.2.2).bind fun t269=>((laws_eqStringS.f kj2 t269 t256).bind fun t272=>(if t272 = true then (laws_FnExactCallsOf.j1 kj2 t256 t269 a0_0 a0_1 a0_2 l0_3 l0_4 bt259.1 bt259.2.1 bt259.2.2.1 bt259.2.2.2.1 bt259.2.2.2.2) else (some false))))) = some r:=H;have A9:=Aside0.mk A90;clear A90;replace H:=Option.bind_eq_some_iff.mp H;obtain ⟨⟨t259,t260,t261,t262,t265⟩,A100,H⟩:=H;replace H:((impl_CallsOf.f kj2 t259 t260 t261 t262 t265).bind fun t269=>((laws_eqStringS.f kj2 t269 t256).bind fun t272=>(if t272 = true then (laws_FnExactCallsOf.j1 kj2 t256 t269 a0_0 a0_1 a0_2 l0_3 l0_4 t259 t260 t261 t262 t265) else (some false)))) = some r:=H;have A10:=Aside0.mk A100;clear A100;replace H:=Option.bind_eq_some_iff.mp H;obtain ⟨t269,A110,H⟩:=H;replace H:((laws_eqStringS.f kj2 t269 t256).bind fun t272=>(if t272 = true then (laws_FnExactCallsOf.j1 kj2 t256 t269 a0_0 a0_1 a0_2 l0_3 l0_4 t259 t260 t261 t262 t265) else (some false))) = some r:=H;have A11:=Aside0.mk A110;clear A110;replace H:=Option.bind_eq_some_iff.mp H;obtain ⟨t272,A120,H⟩:=H;replace H:(if t272 = true then (laws_FnExactCallsOf.j1 kj2 t256 t269 a0_0 a0_1 a0_2 l0_3 l0_4 t259 t260 t261 t262 t265) else (some false)) = some r:=H;have A12:=Aside0.mk A120;clear A120;have HC13:=Aside0.mk H;clear H;obtain ⟨h14_0,h14_1,h14_2,h14_3,h14_4⟩:=kb5 BK245.out
   go_upto_if 26 with (first|((with_reducible refine gate_callee (f:=6) rfl ?_);refine goesL_ (some 17) rfl rfl Try.func6 (by kernel_rfl) rfl #[.agg #[.int .i64 a0_0,.int .i64 a0_1,.string a0_2,.slice A0_3 l0_3.length c0_3,.slice A0_4 l0_4.length c0_4]] rfl gs ?_;(with_reducible refine (laws_toExpr.calls kj2 a0_0 a0_1 a0_2 _ _ l0_3 _ _ l0_4 t247 t248 t249 t250 t253 _ ?side1 ?side2 ?side3 ?side4 A8.out).mono ?_);(case side1=>exact ck (Kd.C_below HR0_3.out HB.out));(case side2=>exact HC0_3.out);(case side3=>exact ck (Kd.C_below HR0_4.out HB.out));(case side4=>exact HC0_4.out);rintro e w15 ⟨v251,v254,rfl,ho0,ho1,hb⟩;refine ⟨_,rfl,?_⟩;have n_:=ai (Aside0.mk (Kd.R_lower ho0 (below_size (bl HB.out)))) <| ai (Aside0.mk (Kd.R_lower ho1 (below_size (bl HB.out)))) <| ai (bw BK245 hb) <| bq HB hb;clear BK245 HB;obtain ⟨HO252,HO255,BK245,HB⟩:=n_;(try clear hb);(try clear ho0);(try clear ho1);obtain ⟨Ao16,co16,eo16⟩:=Kd.R_slice HO252.out;subst eo16;obtain ⟨Ao17,co17,eo17⟩:=Kd.R_slice HO255.out;subst eo17)|((with_reducible refine gate_callee (f:=5) rfl ?_);refine goesL_ (some 18) rfl rfl Try.func5 (by kernel_rfl) rfl #[.agg #[.int .i64 t247,.int .i64 t248,.string t249,.slice Ao16 t250.length co16,.slice Ao17 t253.length co17]] rfl gs ?_;(with_reducible refine (spec_CallsOf.calls kj2 t247 t248 t249 _ _ t250 _ _ t253 t256 _ ?side1 ?side2 ?side3 ?side4 A9.out).mono ?_);(case side1=>repeat (first|exact (Kd.R_reads' HO252.out).2.2|(with_reducible refine Kd.C_alloc ?_ _)|(with_reducible refine Kd.C_drewN ?_ _)|(with_reducible refine Kd.C_drew ?_)));(case side2=>exact (Kd.R_reads' HO252.out).2.1);(case side3=>repeat (first|exact (Kd.R_reads' HO255.out).2.2|(with_reducible refine Kd.C_alloc ?_ _)|(with_reducible refine Kd.C_drewN ?_ _)|(with_reducible refine Kd.C_drew ?_)));(case side4=>exact (Kd.R_reads' HO255.out).2.1);rintro e w18 ⟨v257,rfl,ho0,hb⟩;refine ⟨_,rfl,?_⟩;have n_:=ai (rwm HO252 hb) <| ai (rwm HO255 hb) <| ai (Aside0.mk (Kd.R_lower ho0 (below_size (bl HB.out)))) <| ai (bw BK245 hb) <| bq HB hb;clear HO252 HO255 BK245 HB;obtain ⟨HO252,HO255,HO258,BK245,HB⟩:=n_;(try clear hb);(try clear hb2);(try clear hk);(try clear hi);(try clear ho0);obtain ⟨h19_0,h19_1,h19_2,h19_3,h19_4⟩:=kb5 BK245.out;obtain ⟨z19_0,z19_1,z19_2,z19_3,z19_4⟩:=kz5 BK245.out)|((with_reducible refine gate_callee (f:=6) rfl ?_);refine goesL_ (some 20) rfl rfl Try.func6 (by kernel_rfl) rfl #[.agg #[.int .i64 a0_0,.int .i64 a0_1,.string a0_2,.slice A0_3 l0_3.length c0_3,.slice A0_4 l0_4.length c0_4]] rfl gs ?_;(with_reducible refine (laws_toExpr.calls kj2 a0_0 a0_1 a0_2 _ _ l0_3 _ _ l0_4 t259 t260 t261 t262 t265 _ ?side1 ?side2 ?side3 ?side4 A10.out).mono ?_);(case side1=>exact ck (Kd.C_below HR0_3.out HB.out));(case side2=>exact HC0_3.out);(case side3=>exact ck (Kd.C_below HR0_4.out HB.out));(case side4=>exact HC0_4.out);rintro e w20 ⟨v263,v266,rfl,ho0,ho1,hb⟩;refine ⟨_,rfl,?_⟩;have n_:=ai (Aside0.mk (Kd.R_mono (Kd.R_told (Kd.R_told (Kd.R_old (rk HO252.out) hb) (Kd.R_base ho0)) (Kd.R_base ho1)) (fun _ h_=>h_.1))) <| ai (Aside0.mk (Kd.R_mono (Kd.R_told (Kd.R_told (Kd.R_old (rk HO255.out) hb) (Kd.R_base ho0)) (Kd.R_base ho1)) (fun _ h_=>h_.1))) <| ai (rwm HO258 hb) <| ai (Aside0.mk (Kd.R_lower (Kd.R_new' (Kd.R_new' ho0 (Kd.R_lt (rk HO252.out))) (Kd.R_lt (rk HO255.out))) (below_size (bl HB.out)))) <| ai (Aside0.mk (Kd.R_lower (Kd.R_new' (Kd.R_new' ho1 (Kd.R_lt (rk HO252.out))) (Kd.R_lt (rk HO255.out))) (below_size (bl HB.out)))) <| ai (bw BK245 hb) <| bq HB hb;clear HO252 HO255 HO258 BK245 HB;obtain ⟨HO252,HO255,HO258,HO264,HO267,BK245,HB⟩:=n_;(try clear hb);(try clear hb2);(try clear hk);(try clear hi);(try clear ho0);(try clear ho1))|((with_reducible refine gate_dst (N:=5) rfl ?_);refine box_event ?hg (N:=5) ?hd (cs:=#[.int .i64 0,.int .i64 0,.string (⟨#[]⟩:ByteArray),.slice none 0 0,.slice none 0 0]) (t:=32) ?hr ?_;(case hd=>rfl);(case hg=>rfl);(case hr=>first|(go_simp;done)|(go_simp;rfl));intro gb268 hg w21 hbox hb;have n_:=ai (rbm HO252 hg hb) <| ai (rbm HO255 hg hb) <| ai (rwm HO258 hb) <| ai (rbm HO264 hg hb) <| ai (rbm HO267 hg hb) <| ai (bw BK245 hb) <| ai (bq HB hb) <| ai (Aside0.mk (hbox)) <| ai (bz hg HB) <| ai (bz hg HB) <| ai (nl hg BK245) <| ng hg BK245;clear HO252 HO255 HO258 HO264 HO267 BK245 HB;obtain ⟨HO252,HO255,HO258,HO264,HO267,BK245,HB,BK268,GW268,GE268,NB245_268,NB268_245⟩:=n_;clear hb hbox hg;have:=NB268_245.out;have:=NB245_268.out;obtain ⟨h23_0,h23_1,h23_2,h23_3,h23_4⟩:=kb5 BK268.out;obtain ⟨z23_0,z23_1,z23_2,z23_3,z23_4⟩:=kz5 BK268.out;obtain ⟨Ao24,co24,eo24⟩:=Kd.R_slice HO264.out;subst eo24;obtain ⟨Ao25,co25,eo25⟩:=Kd.R_slice HO267.out;subst eo25)|((with_reducible refine gate_callee (f:=7) rfl ?_);refine goesL_ (some 22) rfl rfl Try.func7 (by kernel_rfl) rfl #[.agg #[.int .i64 t259,.int .i64 t260,.string t261,.slice Ao24 t262.length co24,.slice Ao25 t265.length co25]] rfl gs ?_;(with_reducible refine (impl_CallsOf.calls kj2 t259 t260 t261 _ _ t262 _ _ t265 t269 _ ?side1 ?side2 ?side3 ?side4 A11.out).mono ?_);(case side1=>refine (Kd.R_reads' (e:=32) (base:=w.heap.size) (ok:=fun k_=>(((some k_≠(.slice Ao25 t265.length co25:Value).ownBlock∧some k_≠(.slice Ao16 t250.length co16:Value).ownBlock)∧some k_≠(.slice Ao17 t253.length co17:Value).ownBlock)∧k_≠gb268)) (n:=t262.length) (c:=co24) ?_).2.2;exact (by (with_reducible repeat (first|apply Kd.R_alloc|apply Kd.R_drewN|apply Kd.R_drew));exact (Kd.R_mono (rfm (Kd.R_mono HO264.out (fun k_ hk=>(⟨hk,hk.2⟩:_∧k_≠gb268)))) (fun _ h_=>h_.1))));(case side2=>exact (Kd.R_reads' HO264.out).2.1);(case side3=>refine (Kd.R_reads' (e:=42) (base:=w.heap.size) (ok:=fun k_=>(((some k_≠(.slice Ao24 t262.length co24:Value).ownBlock∧some k_≠(.slice Ao16 t250.length co16:Value).ownBlock)∧some k_≠(.slice Ao17 t253.length co17:Value).ownBlock)∧k_≠gb268)) (n:=t265.length) (c:=co25) ?_).2.2;exact (by (with_reducible repeat (first|apply Kd.R_alloc|apply Kd.R_drewN|apply Kd.R_drew));exact (Kd.R_mono (rfm (Kd.R_mono HO267.out (fun k_ hk=>(⟨hk,hk.2⟩:_∧k_≠gb268)))) (fun _ h_=>h_.1))));(case side4=>exact (Kd.R_reads' HO267.out).2.1);rintro e w26 ⟨v270,rfl,ho0,hb⟩;refine ⟨_,rfl,?_⟩;have n_:=ai (Aside0.mk (Kd.R_below (by (with_reducible repeat (first|apply Kd.R_alloc|apply Kd.R_drewN|apply Kd.R_drew));exact (Kd.R_mono (rfm (Kd.R_mono HO252.out (fun k_ hk=>(⟨hk,hk.2⟩:_∧k_≠gb268)))) (fun _ h_=>h_.1))) hb)) <| ai (Aside0.mk (Kd.R_below (by (with_reducible repeat (first|apply Kd.R_alloc|apply Kd.R_drewN|apply Kd.R_drew));exact (Kd.R_mono (rfm (Kd.R_mono HO255.out (fun k_ hk=>(⟨hk,hk.2⟩:_∧k_≠gb268)))) (fun _ h_=>h_.1))) hb)) <| ai (Aside0.mk (Kd.R_elder' (by (with_reducible repeat (first|apply Kd.R_alloc|apply Kd.R_drewN|apply Kd.R_drew));exact (Kd.R_mono (rfm (Kd.R_types HO258.out BK268.out (by decide))) (fun _ h_=>h_.1))) (Kd.R_base ho0) hb)) <| ai (Aside0.mk (Kd.R_below (by (with_reducible repeat (first|apply Kd.R_alloc|apply Kd.R_drewN|apply Kd.R_drew));exact (Kd.R_mono (rfm (Kd.R_mono HO264.out (fun k_ hk=>(⟨hk,hk.2⟩:_∧k_≠gb268)))) (fun _ h_=>h_.1))) hb)) <| ai (Aside0.mk (Kd.R_below (by (with_reducible repeat (first|apply Kd.R_alloc|apply Kd.R_drewN|apply Kd.R_drew));exact (Kd.R_mono (rfm (Kd.R_mono HO267.out (fun k_ hk=>(⟨hk,hk.2⟩:_∧k_≠gb268)))) (fun _ h_=>h_.1))) hb)) <| ai (Aside0.mk (Kd.R_lower (Kd.R_new' ho0 (Kd.R_lt (by (with_reducible repeat (first|apply Kd.R_alloc|apply Kd.R_drewN|apply Kd.R_drew));exact (Kd.R_mono (rfm (Kd.R_types HO258.out BK268.out (by decide))) (fun _ h_=>h_.1))))) (below_size (bl HB.out)))) <| ai (bwm BK245 hb) <| ai (Aside0.mk (blk_below (g:=gb268) (o:=.cells #[.int .i64 t259,.int .i64 t260,.string t261,.slice Ao24 t262.length co24,.slice Ao25 t265.length co25] 32 (0,0)) (bmp BK268.out) hb)) <| bq HB hb;clear HO252 HO255 HO258 HO264 HO267 BK245 BK268 HB;obtain ⟨HO252,HO255,HO258,HO264,HO267,HO271,BK245,BK268,HB⟩:=n_;(try clear hb);(try clear hb2);(try clear hk);(try clear hi);(try clear ho0);obtain ⟨Ao27,co27,eo27⟩:=Kd.R_slice HO271.out;subst eo27;obtain ⟨Ao28,co28,eo28⟩:=Kd.R_slice HO258.out;subst eo28)|((with_reducible refine gate_callee (f:=8) rfl ?_);refine goesL_ (some 25) rfl rfl Try.func8 (by kernel_rfl) rfl #[.slice Ao27 t269.length co27,.slice Ao28 t256.length co28] rfl gs ?_;(with_reducible refine (laws_eqStringS.calls kj2 _ _ t269 _ _ t256 t272 _ ?side1 ?side2 ?side3 ?side4 A12.out).mono ?_);(case side1=>repeat (first|exact (Kd.R_reads' HO271.out).2.2|(with_reducible refine Kd.C_alloc ?_ _)|(with_reducible refine Kd.C_drewN ?_ _)|(with_reducible refine Kd.C_drew ?_)));(case side2=>exact (Kd.R_reads' HO271.out).2.1);(case side3=>repeat (first|exact (Kd.R_reads' HO258.out).2.2|(with_reducible refine Kd.C_alloc ?_ _)|(with_reducible refine Kd.C_drewN ?_ _)|(with_reducible refine Kd.C_drew ?_)));(case side4=>exact (Kd.R_reads' HO258.out).2.1);rintro e w' ⟨rfl,⟨nd,rfl⟩⟩;refine ⟨_,rfl,?_⟩))
   (try simp only [Act.put,List.setIfInBounds_toArray,List.set_cons_zero,List.set_cons_succ])
   go_cut [] (fun wc=>∃ (kq:Nat),Aside0 (laws_FnExactCallsOf.j1 kq t256 t269 a0_0 a0_1 a0_2 l0_3 l0_4 t259 t260 t261 t262 t265 = some r)∧Aside0 (kq≤kj2)∧Aside0 (Kd.R Kd.string 9 wc w.heap.size (fun k_=>some k_≠((.slice Ao27 t269.length co27):Value).ownBlock) (.slice Ao28 t256.length co28) t256)∧Aside0 (Kd.R Kd.string 9 wc w.heap.size (fun k_=>some k_≠((.slice Ao28 t256.length co28):Value).ownBlock) (.slice Ao27 t269.length co27) t269)∧Aside0 (Kd.R k32 32 wc w.heap.size (fun k_=>some k_≠((.slice Ao25 t265.length co25):Value).ownBlock∧k_≠gb268) (.slice Ao24 t262.length co24) t262)∧Aside0 (Kd.R k42 42 wc w.heap.size (fun k_=>some k_≠((.slice Ao24 t262.length co24):Value).ownBlock∧k_≠gb268) (.slice Ao25 t265.length co25) t265)∧Aside0 (wc.heap[gb245]? = some (.cells #[.int .i64 a0_0,.int .i64 a0_1,.string a0_2,(.slice A0_3 l0_3.length c0_3),(.slice A0_4 l0_4.length c0_4)] 25 (0,0)))∧Aside0 (wc.heap[gb268]? = some (.cells #[.int .i64 t259,.int .i64 t260,.string t261,(.slice Ao24 t262.length co24),(.slice Ao25 t265.length co25)] 32 (0,0)))∧Aside0 (Below w.heap.size w wc))
   case first =>
    have H:=HC13.out;clear HC13
    by_cases c29:t272 = true
    ·subst c29
     have H1:(laws_FnExactCallsOf.j1 kj2 t256 t269 a0_0 a0_1 a0_2 l0_3 l0_4 t259 t260 t261 t262 t265) = some r:=by rw [if_pos rfl] at H;exact H
     clear H;have H:=H1;clear H1;have H':=Aside0.mk H;clear H
     go_wp2
     go_meet
     case rel=>exact ⟨_,H',⟨by have:=HJ2.out;first|omega|exact Nat.le_refl _⟩,⟨by (with_reducible repeat (first|apply Kd.R_alloc|apply Kd.R_drewN|apply Kd.R_drew));exact Kd.R_mono HO258.out (fun _ hk=>hk.2)⟩,⟨by (with_reducible repeat (first|apply Kd.R_alloc|apply Kd.R_drewN|apply Kd.R_drew));exact Kd.R_mono HO271.out (fun _ hk=>hk.2)⟩,⟨by (with_reducible repeat (first|apply Kd.R_alloc|apply Kd.R_drewN|apply Kd.R_drew));exact Kd.R_mono HO264.out (fun _ hk=>⟨hk.1.1.1,hk.2⟩)⟩,⟨by (with_reducible repeat (first|apply Kd.R_alloc|apply Kd.R_drewN|apply Kd.R_drew));exact Kd.R_mono HO267.out (fun _ hk=>⟨hk.1.1.1,hk.2⟩)⟩,⟨bk BK245.out⟩,⟨bk BK268.out⟩,⟨bl HB.out⟩⟩
    ·replace c29:=Bool.eq_false_iff.mpr c29
     subst c29;have H1:(some false) = some r:=by rw [if_neg (show ¬ (false = true) by decide)] at H;exact H
     clear H;have H:=H1;clear H1;obtain rfl:=Option.some.inj H
     go_wp2
     go_ret
     exact ⟨cl,bl HB.out⟩
   case rest =>
    clear HC13;(try clear h14_0 h14_1 h14_2 h14_3 h14_4);(try clear h19_0 h19_1 h19_2 h19_3 h19_4);(try clear h23_0 h23_1 h23_2 h23_3 h23_4);(try clear h5_0 h5_1 h5_2 h5_3 h5_4);(try clear z19_0 z19_1 z19_2 z19_3 z19_4);(try clear z23_0 z23_1 z23_2 z23_3 z23_4);(try clear z5_0 z5_1 z5_2 z5_3 z5_4);(try clear p2);(try clear BK245);(try clear BK268);(try clear HB);obtain ⟨kq,HA,HJ12,HO_4,HO_6,HO_269003,HO_269004,BK245,BK268,HB⟩:=hcut
    cases kq with
    | zero=>exact absurd HA.out (by simp [laws_FnExactCallsOf.j1])
    | succ kj12 =>
     have H:=HA.out;clear HA;simp only [laws_FnExactCallsOf.j1] at H;replace H:=Option.bind_eq_some_iff.mp H;obtain ⟨⟨t273,t274,t275,t276,t279⟩,A300,H⟩:=H;replace H:((laws_eqExpr.f kj12 t259 t260 t261 t262 t265 t273 t274 t275 t276 t279).bind fun t282=>(if t282 = true then (laws_FnExactCallsOf.j2 kj12 t256 t269 a0_0 a0_1 a0_2 l0_3 l0_4 t259 t260 t261 t262 t265) else (some false))) = some r:=H;have A30:=Aside0.mk A300;clear A300;replace H:=Option.bind_eq_some_iff.mp H;obtain ⟨t282,A310,H⟩:=H;replace H:(if t282 = true then (laws_FnExactCallsOf.j2 kj12 t256 t269 a0_0 a0_1 a0_2 l0_3 l0_4 t259 t260 t261 t262 t265) else (some false)) = some r:=H;have A31:=Aside0.mk A310;clear A310;have HC32:=Aside0.mk H;clear H
     try go_wp2
     have n_:=ai (Aside0.mk (Kd.R_drew HO_4.out)) <| ai (Aside0.mk (Kd.R_drew HO_6.out)) <| ai (Aside0.mk (Kd.R_drew HO_269003.out)) <| ai (Aside0.mk (Kd.R_drew HO_269004.out)) <| ai (dk BK245) <| ai (dk BK268) <| dh HB;clear HO_4 HO_6 HO_269003 HO_269004 BK245 BK268 HB;obtain ⟨HO_4,HO_6,HO_269003,HO_269004,BK245,BK268,HB⟩:=n_
     refine start_ (n:=5) (S:=fun w'=>(w'.cell? ⟨gb268,0,none⟩ = some (.int .i64 t259)∧w'.cell? ⟨gb268,1,none⟩ = some (.int .i64 t260)∧w'.cell? ⟨gb268,2,none⟩ = some (.string t261)∧w'.cell? ⟨gb268,3,none⟩ = some (.slice Ao24 t262.length co24)∧w'.cell? ⟨gb268,4,none⟩ = some (.slice Ao25 t265.length co25))∧(w'.cell? ⟨gb245,0,none⟩ = some (.int .i64 a0_0)∧w'.cell? ⟨gb245,1,none⟩ = some (.int .i64 a0_1)∧w'.cell? ⟨gb245,2,none⟩ = some (.string a0_2)∧w'.cell? ⟨gb245,3,none⟩ = some (.slice A0_3 l0_3.length c0_3)∧w'.cell? ⟨gb245,4,none⟩ = some (.slice A0_4 l0_4.length c0_4))) (ds:=[]) #[false,false,false,false,false] (by kernel_rfl) rfl rfl ⟨kb5 BK268.out,kb5 BK245.out⟩ (fun hHeld=>?_)
     generalize wc.drew = w33 at HO_4 HO_6 HO_269003 HO_269004 BK245 BK268 HB hHeld ⊢
     refine take_ (i:=0) (N:=some 27) (v:=?_) (a':=?_) #[true,false,false,false,false] rfl rfl (by kernel_rfl) (fun _ _ _ h=>h) (Or.inl ⟨by rfl,?_⟩) hHeld ?_ ?_
     rotate_left
     ·rintro w' ⟨⟨s0,s1,s2,s3,s4⟩,⟨s5,s6,s7,s8,s9⟩⟩
      go_simp
      with_reducible rfl
     rotate_left
     ·simp only [Act.put,List.setIfInBounds_toArray,List.set_cons_zero,List.set_cons_succ,i64_w,i32_w]
      rfl
     refine take_ (i:=1) (N:=some 28) (v:=?_) (a':=?_) #[true,true,false,false,false] rfl rfl (by kernel_rfl) (fun _ _ _ h=>h) (Or.inl ⟨by rfl,?_⟩) hHeld ?_ ?_
     rotate_left
     ·rintro w' ⟨⟨s0,s1,s2,s3,s4⟩,⟨s5,s6,s7,s8,s9⟩⟩
      go_simp
      with_reducible rfl
     rotate_left
     ·simp only [Act.put,List.setIfInBounds_toArray,List.set_cons_zero,List.set_cons_succ,i64_w,i32_w]
      rfl
     refine one_ (i:=2) (N:=some 29) #[true,true,true,false,false] rfl rfl (by kernel_rfl) (by decide) (fun K hK=>?_)
     refine goes_ Try.func6 (by kernel_rfl) rfl #[.agg #[.int .i64 a0_0,.int .i64 a0_1,.string a0_2,.slice A0_3 l0_3.length c0_3,.slice A0_4 l0_4.length c0_4]] (by rfl) rfl rfl gs ?_
     with_reducible refine (laws_toExpr.calls kj12 a0_0 a0_1 a0_2 _ _ l0_3 _ _ l0_4 t273 t274 t275 t276 t279 _ ?side1 ?side2 ?side3 ?side4 A30.out).mono ?_
     (case side1=>exact ck (Kd.C_below HR0_3.out HB.out))
     (case side2=>exact HC0_3.out)
     (case side3=>exact ck (Kd.C_below HR0_4.out HB.out))
     (case side4=>exact HC0_4.out)
     rintro e w34 ⟨v277,v280,rfl,ho0,ho1,hb⟩
     refine ⟨_,rfl,?_⟩
     have n_:=ai (rwm HO_4 hb) <| ai (rwm HO_6 hb) <| ai (Aside0.mk (Kd.R_mono (Kd.R_told (Kd.R_told (Kd.R_old (rk HO_269003.out) hb) (Kd.R_base ho0)) (Kd.R_base ho1)) (fun _ h_=>h_.1))) <| ai (Aside0.mk (Kd.R_mono (Kd.R_told (Kd.R_told (Kd.R_old (rk HO_269004.out) hb) (Kd.R_base ho0)) (Kd.R_base ho1)) (fun _ h_=>h_.1))) <| ai (Aside0.mk (Kd.R_lower (Kd.R_newB (Kd.R_new' (Kd.R_new' ho0 (Kd.R_lt (rk HO_269003.out))) (Kd.R_lt (rk HO_269004.out))) (g:=gb268) (o:=.cells #[.int .i64 t259,.int .i64 t260,.string t261,.slice Ao24 t262.length co24,.slice Ao25 t265.length co25] 32 (0,0)) (bk BK268.out)) (below_size (bl HB.out)))) <| ai (Aside0.mk (Kd.R_lower (Kd.R_newB (Kd.R_new' (Kd.R_new' ho1 (Kd.R_lt (rk HO_269003.out))) (Kd.R_lt (rk HO_269004.out))) (g:=gb268) (o:=.cells #[.int .i64 t259,.int .i64 t260,.string t261,.slice Ao24 t262.length co24,.slice Ao25 t265.length co25] 32 (0,0)) (bk BK268.out)) (below_size (bl HB.out)))) <| ai (bw BK245 hb) <| ai (bw BK268 hb) <| bq HB hb;clear HO_4 HO_6 HO_269003 HO_269004 BK245 BK268 HB;obtain ⟨HO_4,HO_6,HO_269003,HO_269004,HO278,HO281,BK245,BK268,HB⟩:=n_;(try clear hb);(try clear hk);(try clear ho0);(try clear ho1);obtain ⟨Ao35,co35,eo35⟩:=Kd.R_slice HO278.out
     (first|subst eo35|(injection eo35 with f1_ f2_ f3_;have f4_:=f1_.symm;have f5_:=f3_.symm;clear f1_ f2_ f3_;subst f4_;subst f5_))
     obtain ⟨Ao36,co36,eo36⟩:=Kd.R_slice HO281.out
     (first|subst eo36|(injection eo36 with f1_ f2_ f3_;have f4_:=f1_.symm;have f5_:=f3_.symm;clear f1_ f2_ f3_;subst f4_;subst f5_))
     refine hK.out _ _ ⟨kb5 BK268.out,kb5 BK245.out⟩ (fun hHeld=>?_)
     clear hK K
     refine norm_ (a':=?_) ?_ ?_
     rotate_left
     ·show Act.put _ (some 29) _ = _
      simp only [Act.put,List.setIfInBounds_toArray,List.set_cons_zero,List.set_cons_succ,i64_w,i32_w]
      rfl
     refine one_ (i:=3) (N:=some 30) #[true,true,true,true,false] rfl rfl (by kernel_rfl) (by decide) (fun K hK=>?_)
     refine goes_ Try.func9 (by kernel_rfl) rfl #[.agg #[.int .i64 t259,.int .i64 t260,.string t261,.slice Ao24 t262.length co24,.slice Ao25 t265.length co25],.agg #[.int .i64 t273,.int .i64 t274,.string t275,.slice Ao35 t276.length co35,.slice Ao36 t279.length co36]] (by rfl) rfl rfl gs ?_
     with_reducible refine (laws_eqExpr.calls kj12 t259 t260 t261 _ _ t262 _ _ t265 t273 t274 t275 _ _ t276 _ _ t279 t282 _ ?side1 ?side2 ?side3 ?side4 ?side5 ?side6 ?side7 ?side8 A31.out).mono ?_
     (case side1=>repeat (first|exact (Kd.R_reads' HO_269003.out).2.2|(with_reducible refine Kd.C_alloc ?_ _)|(with_reducible refine Kd.C_drewN ?_ _)|(with_reducible refine Kd.C_drew ?_)))
     (case side2=>exact (Kd.R_reads' HO_269003.out).2.1)
     (case side3=>repeat (first|exact (Kd.R_reads' HO_269004.out).2.2|(with_reducible refine Kd.C_alloc ?_ _)|(with_reducible refine Kd.C_drewN ?_ _)|(with_reducible refine Kd.C_drew ?_)))
     (case side4=>exact (Kd.R_reads' HO_269004.out).2.1)
     (case side5=>repeat (first|exact (Kd.R_reads' HO278.out).2.2|(with_reducible refine Kd.C_alloc ?_ _)|(with_reducible refine Kd.C_drewN ?_ _)|(with_reducible refine Kd.C_drew ?_)))
     (case side6=>exact (Kd.R_reads' HO278.out).2.1)
     (case side7=>repeat (first|exact (Kd.R_reads' HO281.out).2.2|(with_reducible refine Kd.C_alloc ?_ _)|(with_reducible refine Kd.C_drewN ?_ _)|(with_reducible refine Kd.C_drew ?_)))
     (case side8=>exact (Kd.R_reads' HO281.out).2.1)
     rintro e w37 ⟨rfl,hb⟩
     refine ⟨_,rfl,?_⟩
     have n_:=ai (rwm HO_4 hb) <| ai (rwm HO_6 hb) <| ai (rwm HO_269003 hb) <| ai (rwm HO_269004 hb) <| ai (rwm HO278 hb) <| ai (rwm HO281 hb) <| ai (bw BK245 hb) <| ai (bw BK268 hb) <| bq HB hb;clear HO_4 HO_6 HO_269003 HO_269004 HO278 HO281 BK245 BK268 HB;obtain ⟨HO_4,HO_6,HO_269003,HO_269004,HO278,HO281,BK245,BK268,HB⟩:=n_;(try clear hb);(try clear hk)
     refine hK.out _ _ ⟨kb5 BK268.out,kb5 BK245.out⟩ (fun hHeld=>?_)
     clear hK K
     refine norm_ (a':=?_) ?_ ?_
     rotate_left
     ·show Act.put _ (some 30) _ = _
      simp only [Act.put,List.setIfInBounds_toArray,List.set_cons_zero,List.set_cons_succ,i64_w,i32_w]
      rfl
     refine pure_ (i:=4) (N:=some 31) (v:=?_) (a':=?_) #[true,true,true,true,true] rfl rfl (by kernel_rfl) (fun _ _ _ h=>h) (Or.inl ⟨by rfl,?_⟩) ?_ ?_
     rotate_left
     ·intro w'
      go_simp
      with_reducible rfl
     rotate_left
     ·simp only [Act.put,List.setIfInBounds_toArray,List.set_cons_zero,List.set_cons_succ,i64_w,i32_w]
      rfl
     refine done_ (by kernel_rfl) ?_
     go_upto_if 31 with (fail)
     go_cut [] (fun wc=>∃ (kq:Nat),Aside0 (laws_FnExactCallsOf.j2 kq t256 t269 a0_0 a0_1 a0_2 l0_3 l0_4 t259 t260 t261 t262 t265 = some r)∧Aside0 (kq≤kj12)∧Aside0 (Kd.R Kd.string 9 wc w.heap.size (fun k_=>some k_≠((.slice Ao27 t269.length co27):Value).ownBlock) (.slice Ao28 t256.length co28) t256)∧Aside0 (Kd.R Kd.string 9 wc w.heap.size (fun k_=>some k_≠((.slice Ao28 t256.length co28):Value).ownBlock) (.slice Ao27 t269.length co27) t269)∧Aside0 (Kd.R k32 32 wc w.heap.size (fun k_=>some k_≠((.slice Ao25 t265.length co25):Value).ownBlock∧k_≠gb268) (.slice Ao24 t262.length co24) t262)∧Aside0 (Kd.R k42 42 wc w.heap.size (fun k_=>some k_≠((.slice Ao24 t262.length co24):Value).ownBlock∧k_≠gb268) (.slice Ao25 t265.length co25) t265)∧Aside0 (wc.heap[gb245]? = some (.cells #[.int .i64 a0_0,.int .i64 a0_1,.string a0_2,(.slice A0_3 l0_3.length c0_3),(.slice A0_4 l0_4.length c0_4)] 25 (0,0)))∧Aside0 (wc.heap[gb268]? = some (.cells #[.int .i64 t259,.int .i64 t260,.string t261,(.slice Ao24 t262.length co24),(.slice Ao25 t265.length co25)] 32 (0,0)))∧Aside0 (Below w.heap.size w wc))
     case first =>
      have H:=HC32.out;clear HC32
      by_cases c38:t282 = true
      ·subst c38
       have H1:(laws_FnExactCallsOf.j2 kj12 t256 t269 a0_0 a0_1 a0_2 l0_3 l0_4 t259 t260 t261 t262 t265) = some r:=by rw [if_pos rfl] at H;exact H
       clear H;have H:=H1;clear H1;have H':=Aside0.mk H;clear H
       go_wp2
       go_meet
       case rel=>exact ⟨_,H',⟨by have:=HJ2.out;have:=HJ12.out;first|omega|exact Nat.le_refl _⟩,⟨rk HO_4.out⟩,⟨rk HO_6.out⟩,⟨by (with_reducible repeat (first|apply Kd.R_alloc|apply Kd.R_drewN|apply Kd.R_drew));exact Kd.R_mono HO_269003.out (fun _ hk=>⟨hk.1.1.1,hk.1.1.2⟩)⟩,⟨by (with_reducible repeat (first|apply Kd.R_alloc|apply Kd.R_drewN|apply Kd.R_drew));exact Kd.R_mono HO_269004.out (fun _ hk=>⟨hk.1.1.1,hk.1.1.2⟩)⟩,⟨bk BK245.out⟩,⟨bk BK268.out⟩,⟨bl HB.out⟩⟩
      ·replace c38:=Bool.eq_false_iff.mpr c38
       subst c38;have H1:(some false) = some r:=by rw [if_neg (show ¬ (false = true) by decide)] at H;exact H
       clear H;have H:=H1;clear H1;obtain rfl:=Option.some.inj H
       go_wp2
       go_ret
       exact ⟨cl,bl HB.out⟩
     case rest =>
      clear HC32;(try clear h14_0 h14_1 h14_2 h14_3 h14_4);(try clear h19_0 h19_1 h19_2 h19_3 h19_4);(try clear h23_0 h23_1 h23_2 h23_3 h23_4);(try clear h5_0 h5_1 h5_2 h5_3 h5_4);(try clear z19_0 z19_1 z19_2 z19_3 z19_4);(try clear z23_0 z23_1 z23_2 z23_3 z23_4);(try clear z5_0 z5_1 z5_2 z5_3 z5_4);(try clear p2);(try clear HO_4);(try clear HO_6);(try clear HO_269003);(try clear HO_269004);(try clear BK245);(try clear BK268);(try clear HB);obtain ⟨kq,HA,HJ31,HO_4,HO_6,HO_269003,HO_269004,BK245,BK268,HB⟩:=hcut
      cases kq with
      | zero=>exact absurd HA.out (by simp [laws_FnExactCallsOf.j2])
      | succ kj31 =>
       have H:=HA.out;clear HA;simp only [laws_FnExactCallsOf.j2] at H;replace H:=Option.bind_eq_some_iff.mp H;obtain ⟨t283,A390,H⟩:=H;replace H:(if t283 < 0 then (laws_FnExactCallsOf.j3 kj31 t256 t269 true a0_0 a0_1 a0_2 l0_3 l0_4) else ((laws_eqStringS.f kj31 t269 t256).bind fun t284=>(laws_FnExactCallsOf.j3 kj31 t256 t269 (!t284) a0_0 a0_1 a0_2 l0_3 l0_4))) = some r:=H;have A39:=Aside0.mk A390;clear A390;have HC40:=Aside0.mk H;clear H;have:=NB268_245.out;have:=NB245_268.out;obtain ⟨h42_0,h42_1,h42_2,h42_3,h42_4⟩:=kb5 BK268.out;obtain ⟨z42_0,z42_1,z42_2,z42_3,z42_4⟩:=kz5 BK268.out
       go_upto_region 14 with (first|((with_reducible refine gate_callee (f:=10) rfl ?_);refine goesL_ (some 34) rfl rfl Try.func10 (by kernel_rfl) rfl #[.agg #[.int .i64 t259,.int .i64 t260,.string t261,.slice Ao24 t262.length co24,.slice Ao25 t265.length co25],.int .i64 1] rfl gs ?_;(with_reducible refine (laws_markExpr.calls kj31 t259 t260 t261 (.slice Ao24 t262.length co24) t262 (.slice Ao25 t265.length co25) t265 1 t283 w.heap.size (fun _=>True) ?q1 ?q2 _ ?side3 ?side1 ?side2 (fun _ _=>trivial) (fun _ _=>trivial) A39.out).mono ?_);(case side1=>exact rk HO_269003.out);(case side2=>exact rk HO_269004.out);(case side3=>exact (below_size (bl HB.out)));rintro e w43 ⟨rfl,hb,hk⟩;refine ⟨_,rfl,?_⟩;have n_:=ai (Aside0.mk (R_soft (rk HO_4.out) hk (by decide))) <| ai (Aside0.mk (R_soft (rk HO_6.out) hk (by decide))) <| ai (Aside0.mk (blk_soft (bk BK245.out) hk (by decide))) <| Aside0.mk ((show Below w.heap.size w _ from bl HB.out).trans hb);clear HO_4 HO_6 BK245 HB HO_269003 HO_269004 BK268;obtain ⟨HO_4,HO_6,BK245,HB⟩:=n_;(try clear hb);(try clear hk)))
       (try simp only [Act.put,List.setIfInBounds_toArray,List.set_cons_zero,List.set_cons_succ])
       go_cut [42] (fun v42 wc=>∃ (kq:Nat) (x42_39:Bool),v42 = .bool x42_39∧Aside0 (laws_FnExactCallsOf.j3 kq t256 t269 x42_39 a0_0 a0_1 a0_2 l0_3 l0_4 = some r)∧Aside0 (kq≤kj31)∧Aside0 (Kd.R Kd.string 9 wc w.heap.size (fun k_=>some k_≠((.slice Ao27 t269.length co27):Value).ownBlock) (.slice Ao28 t256.length co28) t256)∧Aside0 (Kd.R Kd.string 9 wc w.heap.size (fun k_=>some k_≠((.slice Ao28 t256.length co28):Value).ownBlock) (.slice Ao27 t269.length co27) t269)∧Aside0 (wc.heap[gb245]? = some (.cells #[.int .i64 a0_0,.int .i64 a0_1,.string a0_2,(.slice A0_3 l0_3.length c0_3),(.slice A0_4 l0_4.length c0_4)] 25 (0,0)))∧Aside0 (Below w.heap.size w wc))
       case first =>
        have H:=HC40.out;clear HC40
        by_cases c44:t283 < 0
        ·rw [if_pos c44] at H
         have c44b0:decide (t283 < 0) = true:=decide_eq_true c44;clear c44
         (first|rw [c44b0]|(simp only [i64_w,i32_w];rw [c44b0])|(simp only [c44b2,Bool.not_true,Bool.not_false])|skip)
         have H':=Aside0.mk H;clear H
         go_wp2
         go_meet
         case rel=>exact ⟨_,(true),(cl2),H',⟨by have:=HJ2.out;have:=HJ12.out;have:=HJ31.out;first|omega|exact Nat.le_refl _⟩,⟨rk HO_4.out⟩,⟨rk HO_6.out⟩,⟨bk BK245.out⟩,⟨bl HB.out⟩⟩
        ·rw [if_neg c44] at H
         have c44b0:decide (t283 < 0) = false:=decide_eq_false c44;clear c44
         (first|rw [c44b0]|(simp only [i64_w,i32_w];rw [c44b0])|(simp only [c44b2,Bool.not_true,Bool.not_false])|skip)
         replace H:=Option.bind_eq_some_iff.mp H;obtain ⟨t284,A450,H⟩:=H;replace H:(laws_FnExactCallsOf.j3 kj31 t256 t269 (!t284) a0_0 a0_1 a0_2 l0_3 l0_4) = some r:=H;have A45:=Aside0.mk A450;clear A450;have H':=Aside0.mk H;clear H
         go_wp2_with (first|(go_at_call 8;(with_reducible refine (laws_eqStringS.calls kj31 _ _ t269 _ _ t256 t284 _ ?side1 ?side2 ?side3 ?side4 A45.out).mono ?_);(case side1=>repeat (first|exact (Kd.R_reads' HO_6.out).2.2|(with_reducible refine Kd.C_alloc ?_ _)|(with_reducible refine Kd.C_drewN ?_ _)|(with_reducible refine Kd.C_drew ?_)));(case side2=>exact (Kd.R_reads' HO_6.out).2.1);(case side3=>repeat (first|exact (Kd.R_reads' HO_4.out).2.2|(with_reducible refine Kd.C_alloc ?_ _)|(with_reducible refine Kd.C_drewN ?_ _)|(with_reducible refine Kd.C_drew ?_)));(case side4=>exact (Kd.R_reads' HO_4.out).2.1);rintro e w' ⟨rfl,⟨nd,rfl⟩⟩))
         go_meet
         case rel=>exact ⟨_,(!t284),(cl2),H',⟨by have:=HJ2.out;have:=HJ12.out;have:=HJ31.out;first|omega|exact Nat.le_refl _⟩,⟨rk HO_4.out⟩,⟨rk HO_6.out⟩,⟨bk BK245.out⟩,⟨bl HB.out⟩⟩
       case rest =>
        clear HC40;(try clear q1);(try clear q2);(try clear h14_0 h14_1 h14_2 h14_3 h14_4);(try clear h19_0 h19_1 h19_2 h19_3 h19_4);(try clear h23_0 h23_1 h23_2 h23_3 h23_4);(try clear h42_0 h42_1 h42_2 h42_3 h42_4);(try clear h5_0 h5_1 h5_2 h5_3 h5_4);(try clear z19_0 z19_1 z19_2 z19_3 z19_4);(try clear z23_0 z23_1 z23_2 z23_3 z23_4);(try clear z42_0 z42_1 z42_2 z42_3 z42_4);(try clear z5_0 z5_1 z5_2 z5_3 z5_4);(try clear p2);(try clear HO_4);(try clear HO_6);(try clear BK245);(try clear HB);obtain ⟨kq,x42_39,rfl,HA,HJ39,HO_4,HO_6,BK245,HB⟩:=hcut
        cases kq with
        | zero=>exact absurd HA.out (by simp [laws_FnExactCallsOf.j3])
        | succ kj39 =>
         have H:=HA.out;clear HA;simp only [laws_FnExactCallsOf.j3] at H;have HC46:=Aside0.mk H;clear H
         go_upto_if 42 with (fail)
         go_cut [] (fun wc=>∃ (kq:Nat),Aside0 (laws_FnExactCallsOf.j4 kq t256 t269 a0_0 a0_1 a0_2 l0_3 l0_4 = some r)∧Aside0 (kq≤kj39)∧Aside0 (Kd.R Kd.string 9 wc w.heap.size (fun k_=>some k_≠((.slice Ao27 t269.length co27):Value).ownBlock) (.slice Ao28 t256.length co28) t256)∧Aside0 (Kd.R Kd.string 9 wc w.heap.size (fun k_=>some k_≠((.slice Ao28 t256.length co28):Value).ownBlock) (.slice Ao27 t269.length co27) t269)∧Aside0 (wc.heap[gb245]? = some (.cells #[.int .i64 a0_0,.int .i64 a0_1,.string a0_2,(.slice A0_3 l0_3.length c0_3),(.slice A0_4 l0_4.length c0_4)] 25 (0,0)))∧Aside0 (Below w.heap.size w wc))
         case first =>
          have H:=HC46.out;clear HC46
          by_cases c47:x42_39 = true
          ·subst c47
           have H1:(some false) = some r:=by rw [if_pos rfl] at H;exact H
           clear H;have H:=H1;clear H1;obtain rfl:=Option.some.inj H
           go_wp2
           go_ret
           exact ⟨cl,bl HB.out⟩
          ·replace c47:=Bool.eq_false_iff.mpr c47
           subst c47;have H1:(laws_FnExactCallsOf.j4 kj39 t256 t269 a0_0 a0_1 a0_2 l0_3 l0_4) = some r:=by rw [if_neg (show ¬ (false = true) by decide)] at H;exact H
           clear H;have H:=H1;clear H1;have H':=Aside0.mk H;clear H
           go_wp2
           go_meet
           case rel=>exact ⟨_,H',⟨by have:=HJ2.out;have:=HJ12.out;have:=HJ31.out;have:=HJ39.out;first|omega|exact Nat.le_refl _⟩,⟨rk HO_4.out⟩,⟨rk HO_6.out⟩,⟨bk BK245.out⟩,⟨bl HB.out⟩⟩
         case rest =>
          clear HC46;(try clear q1);(try clear q2);(try clear h14_0 h14_1 h14_2 h14_3 h14_4);(try clear h19_0 h19_1 h19_2 h19_3 h19_4);(try clear h23_0 h23_1 h23_2 h23_3 h23_4);(try clear h42_0 h42_1 h42_2 h42_3 h42_4);(try clear h5_0 h5_1 h5_2 h5_3 h5_4);(try clear z19_0 z19_1 z19_2 z19_3 z19_4);(try clear z23_0 z23_1 z23_2 z23_3 z23_4);(try clear z42_0 z42_1 z42_2 z42_3 z42_4);(try clear z5_0 z5_1 z5_2 z5_3 z5_4);(try clear p2);(try clear HO_4);(try clear HO_6);(try clear BK245);(try clear HB);obtain ⟨kq,HA,HJ45,HO_4,HO_6,BK245,HB⟩:=hcut
          cases kq with
          | zero=>exact absurd HA.out (by simp [laws_FnExactCallsOf.j4])
          | succ kj45 =>
           have H:=HA.out;clear HA;simp only [laws_FnExactCallsOf.j4] at H;replace H:=Option.bind_eq_some_iff.mp H;obtain ⟨⟨t285,t286⟩,A480,H⟩:=H;replace H:((laws_heldStringS.f kj45 t286 1).bind fun t287=>(if t287 < 0 then (some false) else (laws_FnExactCallsOf.j5 kj45 t256 t286 t285 t287 a0_0 a0_1 a0_2 l0_3 l0_4))) = some r:=H;have A48:=Aside0.mk A480;clear A480;replace H:=Option.bind_eq_some_iff.mp H;obtain ⟨t287,A490,H⟩:=H;replace H:(if t287 < 0 then (some false) else (laws_FnExactCallsOf.j5 kj45 t256 t286 t285 t287 a0_0 a0_1 a0_2 l0_3 l0_4)) = some r:=H;have A49:=Aside0.mk A490;clear A490;have HC50:=Aside0.mk H;clear H
           go_upto_if 50 with (first|((with_reducible refine gate_callee (f:=11) rfl ?_);refine goesL_ (some 45) rfl rfl Try.func11 (by kernel_rfl) rfl #[.slice Ao27 t269.length co27,.int .i64 1] rfl gs ?_;(with_reducible refine (laws_markStringS.calls kj45 (fun k_=>some k_ = (.slice Ao27 t269.length co27:Value).ownBlock) (.slice Ao27 t269.length co27) t269 1 t285 t286 w _ ?side1 ?side2 A48.out).mono ?_);(case side1=>exact bl HB.out);(case side2=>exact Kd.R_tight rfl HO_6.out);rintro e w51 ⟨rfl,hy0,hb,hkp⟩;refine ⟨_,rfl,?_⟩;have n_:=ai (Aside0.mk (Kd.R_mono (ok':=fun k_=>some k_≠(.slice Ao27 t269.length co27:Value).ownBlock) (Kd.R_keptB (HO_4.out) hkp (fun k_ hk_ hs_=>(hk_) hs_)) (fun k_ hk_=>hk_.1))) <| ai (Aside0.mk (Kd.R_reok rfl hy0 (fun k_ e_=>HO_6.out.1 k_ e_))) <| ai (Aside0.mk (blk_kept (bk BK245.out) hkp (fun hs_=>(fun e_=>(Kd.R_ne HO_6.out BK245.out (by decide)) e_) hs_))) <| Aside0.mk (hb);clear HO_4 HO_6 BK245 HB;obtain ⟨HO_4,HO_6,BK245,HB⟩:=n_;(try clear hb);(try clear hkp);(try clear hy0))|((with_reducible refine gate_callee (f:=12) rfl ?_);refine goesL_ (some 48) rfl rfl Try.func12 (by kernel_rfl) rfl #[.slice Ao27 t286.length co27,.int .i64 1] rfl (by (try simp only [List.map_toArray,List.map_cons,List.map_nil]);first|done|(rw [show t286.length = t269.length from (Kd.R_reads' HO_6.out).1.symm] <;> rfl)|rfl|(simp only [List.length_drop,List.length_take];rfl)) ?_;(with_reducible refine (laws_heldStringS.calls kj45 _ _ t286 1 t287 _ ?side1 ?side2 A49.out).mono ?_);(case side1=>repeat (first|exact (Kd.R_reads' HO_6.out).2.2|(with_reducible refine Kd.C_alloc ?_ _)|(with_reducible refine Kd.C_drewN ?_ _)|(with_reducible refine Kd.C_drew ?_)));(case side2=>rw [show t286.length = t269.length from (Kd.R_reads' HO_6.out).1.symm];exact (Kd.R_reads' HO_6.out).2.1);rintro e w52 ⟨rfl,hb⟩;refine ⟨_,rfl,?_⟩;have n_:=ai (rwm HO_4 hb) <| ai (rwm HO_6 hb) <| ai (bw BK245 hb) <| bq HB hb;clear HO_4 HO_6 BK245 HB;obtain ⟨HO_4,HO_6,BK245,HB⟩:=n_;(try clear hb);(try clear hk);(try clear hi)))
           (try simp only [Act.put,List.setIfInBounds_toArray,List.set_cons_zero,List.set_cons_succ])
           go_cut [] (fun wc=>∃ (kq:Nat),Aside0 (laws_FnExactCallsOf.j5 kq t256 t286 t285 t287 a0_0 a0_1 a0_2 l0_3 l0_4 = some r)∧Aside0 (kq≤kj45)∧Aside0 (Kd.R Kd.string 9 wc w.heap.size (fun k_=>some k_≠((.slice Ao27 t269.length co27):Value).ownBlock) (.slice Ao28 t256.length co28) t256)∧Aside0 (Kd.R Kd.string 9 wc w.heap.size (fun k_=>some k_≠((.slice Ao28 t256.length co28):Value).ownBlock) (.slice Ao27 t269.length co27) t286)∧Aside0 (wc.heap[gb245]? = some (.cells #[.int .i64 a0_0,.int .i64 a0_1,.string a0_2,(.slice A0_3 l0_3.length c0_3),(.slice A0_4 l0_4.length c0_4)] 25 (0,0)))∧Aside0 (Below w.heap.size w wc))
           case first =>
            have H:=HC50.out;clear HC50
            by_cases c53:t287 < 0
            ·rw [if_pos c53] at H
             have c53b0:decide (t287 < 0) = true:=decide_eq_true c53;clear c53
             (first|rw [c53b0]|(simp only [i64_w,i32_w];rw [c53b0])|(simp only [c53b2,Bool.not_true,Bool.not_false])|skip)
             obtain rfl:=Option.some.inj H
             go_wp2
             go_ret
             exact ⟨cl,bl HB.out⟩
            ·rw [if_neg c53] at H
             have c53b0:decide (t287 < 0) = false:=decide_eq_false c53;clear c53
             (first|rw [c53b0]|(simp only [i64_w,i32_w];rw [c53b0])|(simp only [c53b2,Bool.not_true,Bool.not_false])|skip)
             have H':=Aside0.mk H;clear H
             go_wp2
             go_meet
             case rel=>exact ⟨_,H',⟨by have:=HJ2.out;have:=HJ12.out;have:=HJ31.out;have:=HJ39.out;have:=HJ45.out;first|omega|exact Nat.le_refl _⟩,⟨rk HO_4.out⟩,⟨rk HO_6.out⟩,⟨bk BK245.out⟩,⟨bl HB.out⟩⟩
           case rest =>
            clear HC50;(try clear q1);(try clear q2);(try clear h14_0 h14_1 h14_2 h14_3 h14_4);(try clear h19_0 h19_1 h19_2 h19_3 h19_4);(try clear h23_0 h23_1 h23_2 h23_3 h23_4);(try clear h42_0 h42_1 h42_2 h42_3 h42_4);(try clear h5_0 h5_1 h5_2 h5_3 h5_4);(try clear z19_0 z19_1 z19_2 z19_3 z19_4);(try clear z23_0 z23_1 z23_2 z23_3 z23_4);(try clear z42_0 z42_1 z42_2 z42_3 z42_4);(try clear z5_0 z5_1 z5_2 z5_3 z5_4);(try clear p2);(try clear HO_4);(try clear HO_6);(try clear BK245);(try clear HB);obtain ⟨kq,HA,HJ49,HO_4,HO_6,BK245,HB⟩:=hcut;have hl6_49:=(Kd.R_reads' HO_6.out).1;rw [hl6_49] at HO_6;(try simp only [hl6_49]);(try simp only [hl6_49] at BK245);(try simp only [hl6_49] at HO_4)
            cases kq with
            | zero=>exact absurd HA.out (by simp [laws_FnExactCallsOf.j5])
            | succ kj49 =>
             have H:=HA.out;clear HA;simp only [laws_FnExactCallsOf.j5] at H;have HC54:=Aside0.mk H;clear H
             go_upto_if 53 with (fail)
             go_cut [] (fun wc=>∃ (kq:Nat),Aside0 (laws_FnExactCallsOf.j6 kq t256 t286 t285 a0_0 a0_1 a0_2 l0_3 l0_4 = some r)∧Aside0 (kq≤kj49)∧Aside0 (Kd.R Kd.string 9 wc w.heap.size (fun k_=>some k_≠((.slice Ao27 t286.length co27):Value).ownBlock) (.slice Ao28 t256.length co28) t256)∧Aside0 (Kd.R Kd.string 9 wc w.heap.size (fun k_=>some k_≠((.slice Ao28 t256.length co28):Value).ownBlock) (.slice Ao27 t286.length co27) t286)∧Aside0 (wc.heap[gb245]? = some (.cells #[.int .i64 a0_0,.int .i64 a0_1,.string a0_2,(.slice A0_3 l0_3.length c0_3),(.slice A0_4 l0_4.length c0_4)] 25 (0,0)))∧Aside0 (Below w.heap.size w wc))
             case first =>
              have H:=HC54.out;clear HC54
              by_cases c55:t287 = t285
              ·rw [if_pos c55] at H
               have c55b0:(t287 == t285) = true:=beq_iff_eq.mpr c55;have c55b1:(t287 != t285) = false:=bne_eq_false_iff_eq.mpr c55;clear c55
               (first|rw [c55b0]|(simp only [i64_w,i32_w];rw [c55b0])|(simp only [c55b2,Bool.not_true,Bool.not_false])|skip)
               have H':=Aside0.mk H;clear H
               go_wp2
               go_meet
               case rel=>exact ⟨_,H',⟨by have:=HJ2.out;have:=HJ12.out;have:=HJ31.out;have:=HJ39.out;have:=HJ45.out;have:=HJ49.out;first|omega|exact Nat.le_refl _⟩,⟨by (try simp only [hl6_49]);(with_reducible repeat (first|apply Kd.R_alloc|apply Kd.R_drewN|apply Kd.R_drew));exact HO_4.out⟩,⟨by (try simp only [hl6_49]);(with_reducible repeat (first|apply Kd.R_alloc|apply Kd.R_drewN|apply Kd.R_drew));exact HO_6.out⟩,⟨by (try simp only [hl6_49]);(with_reducible repeat (first|refine blk_drewN ?_ _|refine blk_drew ?_|refine blk_alloc ?_ _));exact BK245.out⟩,⟨bl HB.out⟩⟩
              ·rw [if_neg c55] at H
               have c55b0:(t287 == t285) = false:=beq_eq_false_iff_ne.mpr c55;have c55b1:(t287 != t285) = true:=bne_iff_ne.mpr c55
               (first|rw [c55b0]|(simp only [i64_w,i32_w];rw [c55b0])|(simp only [c55b2,Bool.not_true,Bool.not_false])|skip)
               obtain rfl:=Option.some.inj H
               go_wp2
               go_ret
               exact ⟨cl,bl HB.out⟩
             case rest =>
              clear HC54;(try clear q1);(try clear q2);(try clear h14_0 h14_1 h14_2 h14_3 h14_4);(try clear h19_0 h19_1 h19_2 h19_3 h19_4);(try clear h23_0 h23_1 h23_2 h23_3 h23_4);(try clear h42_0 h42_1 h42_2 h42_3 h42_4);(try clear h5_0 h5_1 h5_2 h5_3 h5_4);(try clear z19_0 z19_1 z19_2 z19_3 z19_4);(try clear z23_0 z23_1 z23_2 z23_3 z23_4);(try clear z42_0 z42_1 z42_2 z42_3 z42_4);(try clear z5_0 z5_1 z5_2 z5_3 z5_4);(try clear p2);(try clear HO_4);(try clear HO_6);(try clear BK245);(try clear HB);obtain ⟨kq,HA,HJ53,HO_4,HO_6,BK245,HB⟩:=hcut
              cases kq with
              | zero=>exact absurd HA.out (by simp [laws_FnExactCallsOf.j6])
              | succ kj53 =>
               have H:=HA.out;clear HA;simp only [laws_FnExactCallsOf.j6] at H;replace H:=Option.bind_eq_some_iff.mp H;obtain ⟨⟨t288,t289,t290,t291,t294⟩,A560,H⟩:=H;replace H:((impl_CallsOf.f kj53 t288 t289 t290 t291 t294).bind fun t297=>((laws_eqStringS.f kj53 t297 t256).bind fun t300=>(if t300 = true then (laws_FnExactCallsOf.j7 kj53 t286 t285) else (some false)))) = some r:=H;have A56:=Aside0.mk A560;clear A560;replace H:=Option.bind_eq_some_iff.mp H;obtain ⟨t297,A570,H⟩:=H;replace H:((laws_eqStringS.f kj53 t297 t256).bind fun t300=>(if t300 = true then (laws_FnExactCallsOf.j7 kj53 t286 t285) else (some false))) = some r:=H;have A57:=Aside0.mk A570;clear A570;replace H:=Option.bind_eq_some_iff.mp H;obtain ⟨t300,A580,H⟩:=H;replace H:(if t300 = true then (laws_FnExactCallsOf.j7 kj53 t286 t285) else (some false)) = some r:=H;have A58:=Aside0.mk A580;clear A580;have HC59:=Aside0.mk H;clear H;obtain ⟨h60_0,h60_1,h60_2,h60_3,h60_4⟩:=kb5 BK245.out
               go_upto_if 60 with (first|((with_reducible refine gate_callee (f:=6) rfl ?_);refine goesL_ (some 55) rfl rfl Try.func6 (by kernel_rfl) rfl #[.agg #[.int .i64 a0_0,.int .i64 a0_1,.string a0_2,.slice A0_3 l0_3.length c0_3,.slice A0_4 l0_4.length c0_4]] rfl gs ?_;(with_reducible refine (laws_toExpr.calls kj53 a0_0 a0_1 a0_2 _ _ l0_3 _ _ l0_4 t288 t289 t290 t291 t294 _ ?side1 ?side2 ?side3 ?side4 A56.out).mono ?_);(case side1=>exact ck (Kd.C_below HR0_3.out HB.out));(case side2=>exact HC0_3.out);(case side3=>exact ck (Kd.C_below HR0_4.out HB.out));(case side4=>exact HC0_4.out);rintro e w61 ⟨v292,v295,rfl,ho0,ho1,hb⟩;refine ⟨_,rfl,?_⟩;have n_:=ai (rwm HO_4 hb) <| ai (rwm HO_6 hb) <| ai (Aside0.mk (Kd.R_lower ho0 (below_size (bl HB.out)))) <| ai (Aside0.mk (Kd.R_lower ho1 (below_size (bl HB.out)))) <| ai (bw BK245 hb) <| bq HB hb;clear HO_4 HO_6 BK245 HB;obtain ⟨HO_4,HO_6,HO293,HO296,BK245,HB⟩:=n_;(try clear hb);(try clear hk);(try clear ho0);(try clear ho1);obtain ⟨Ao62,co62,eo62⟩:=Kd.R_slice HO293.out;subst eo62;obtain ⟨Ao63,co63,eo63⟩:=Kd.R_slice HO296.out;subst eo63)|((with_reducible refine gate_callee (f:=7) rfl ?_);refine goesL_ (some 56) rfl rfl Try.func7 (by kernel_rfl) rfl #[.agg #[.int .i64 t288,.int .i64 t289,.string t290,.slice Ao62 t291.length co62,.slice Ao63 t294.length co63]] rfl gs ?_;(with_reducible refine (impl_CallsOf.calls kj53 t288 t289 t290 _ _ t291 _ _ t294 t297 _ ?side1 ?side2 ?side3 ?side4 A57.out).mono ?_);(case side1=>repeat (first|exact (Kd.R_reads' HO293.out).2.2|(with_reducible refine Kd.C_alloc ?_ _)|(with_reducible refine Kd.C_drewN ?_ _)|(with_reducible refine Kd.C_drew ?_)));(case side2=>exact (Kd.R_reads' HO293.out).2.1);(case side3=>repeat (first|exact (Kd.R_reads' HO296.out).2.2|(with_reducible refine Kd.C_alloc ?_ _)|(with_reducible refine Kd.C_drewN ?_ _)|(with_reducible refine Kd.C_drew ?_)));(case side4=>exact (Kd.R_reads' HO296.out).2.1);rintro e w64 ⟨v298,rfl,ho0,hb⟩;refine ⟨_,rfl,?_⟩;have n_:=ai (Aside0.mk (Kd.R_elder' (rk HO_4.out) (Kd.R_base ho0) hb)) <| ai (Aside0.mk (Kd.R_elder' (rk HO_6.out) (Kd.R_base ho0) hb)) <| ai (rwm HO293 hb) <| ai (rwm HO296 hb) <| ai (Aside0.mk (Kd.R_lower (Kd.R_new' (Kd.R_new' ho0 (Kd.R_lt (rk HO_4.out))) (Kd.R_lt (rk HO_6.out))) (below_size (bl HB.out)))) <| ai (bw BK245 hb) <| bq HB hb;clear HO_4 HO_6 HO293 HO296 BK245 HB;obtain ⟨HO_4,HO_6,HO293,HO296,HO299,BK245,HB⟩:=n_;(try clear hb);(try clear hb2);(try clear hk);(try clear hi);(try clear ho0);obtain ⟨Ao65,co65,eo65⟩:=Kd.R_slice HO299.out;subst eo65)|((with_reducible refine gate_callee (f:=8) rfl ?_);refine goesL_ (some 59) rfl rfl Try.func8 (by kernel_rfl) rfl #[.slice Ao65 t297.length co65,.slice Ao28 t256.length co28] rfl gs ?_;(with_reducible refine (laws_eqStringS.calls kj53 _ _ t297 _ _ t256 t300 _ ?side1 ?side2 ?side3 ?side4 A58.out).mono ?_);(case side1=>repeat (first|exact (Kd.R_reads' HO299.out).2.2|(with_reducible refine Kd.C_alloc ?_ _)|(with_reducible refine Kd.C_drewN ?_ _)|(with_reducible refine Kd.C_drew ?_)));(case side2=>exact (Kd.R_reads' HO299.out).2.1);(case side3=>repeat (first|exact (Kd.R_reads' HO_4.out).2.2|(with_reducible refine Kd.C_alloc ?_ _)|(with_reducible refine Kd.C_drewN ?_ _)|(with_reducible refine Kd.C_drew ?_)));(case side4=>exact (Kd.R_reads' HO_4.out).2.1);rintro e w' ⟨rfl,⟨nd,rfl⟩⟩;refine ⟨_,rfl,?_⟩))
               (try simp only [Act.put,List.setIfInBounds_toArray,List.set_cons_zero,List.set_cons_succ])
               go_cut [] (fun wc=>∃ (kq:Nat),Aside0 (laws_FnExactCallsOf.j7 kq t286 t285 = some r)∧Aside0 (kq≤kj53)∧Aside0 (Kd.R Kd.string 9 wc w.heap.size (fun _=>True) (.slice Ao27 t286.length co27) t286)∧Aside0 (wc.heap[gb245]? = some (.cells #[.int .i64 a0_0,.int .i64 a0_1,.string a0_2,(.slice A0_3 l0_3.length c0_3),(.slice A0_4 l0_4.length c0_4)] 25 (0,0)))∧Aside0 (Below w.heap.size w wc))
               case first =>
                have H:=HC59.out;clear HC59
                by_cases c66:t300 = true
                ·subst c66
                 have H1:(laws_FnExactCallsOf.j7 kj53 t286 t285) = some r:=by rw [if_pos rfl] at H;exact H
                 clear H;have H:=H1;clear H1;have H':=Aside0.mk H;clear H
                 go_wp2
                 go_meet
                 case rel=>exact ⟨_,H',⟨by have:=HJ2.out;have:=HJ12.out;have:=HJ31.out;have:=HJ39.out;have:=HJ45.out;have:=HJ49.out;have:=HJ53.out;first|omega|exact Nat.le_refl _⟩,⟨by (try simp only [hl6_49]);(with_reducible repeat (first|apply Kd.R_alloc|apply Kd.R_drewN|apply Kd.R_drew));exact Kd.R_mono HO_6.out (fun _ hk=>trivial)⟩,⟨by (try simp only [hl6_49]);(with_reducible repeat (first|refine blk_drewN ?_ _|refine blk_drew ?_|refine blk_alloc ?_ _));exact BK245.out⟩,⟨bl HB.out⟩⟩
                ·replace c66:=Bool.eq_false_iff.mpr c66
                 subst c66;have H1:(some false) = some r:=by rw [if_neg (show ¬ (false = true) by decide)] at H;exact H
                 clear H;have H:=H1;clear H1;obtain rfl:=Option.some.inj H
                 go_wp2
                 go_ret
                 exact ⟨cl,bl HB.out⟩
               case rest =>
                clear HC59;(try clear q1);(try clear q2);(try clear h14_0 h14_1 h14_2 h14_3 h14_4);(try clear h19_0 h19_1 h19_2 h19_3 h19_4);(try clear h23_0 h23_1 h23_2 h23_3 h23_4);(try clear h42_0 h42_1 h42_2 h42_3 h42_4);(try clear h5_0 h5_1 h5_2 h5_3 h5_4);(try clear h60_0 h60_1 h60_2 h60_3 h60_4);(try clear z19_0 z19_1 z19_2 z19_3 z19_4);(try clear z23_0 z23_1 z23_2 z23_3 z23_4);(try clear z42_0 z42_1 z42_2 z42_3 z42_4);(try clear z5_0 z5_1 z5_2 z5_3 z5_4);(try clear p2);(try clear HO_6);(try clear BK245);(try clear HB);obtain ⟨kq,HA,HJ58,HO_6,BK245,HB⟩:=hcut
                cases kq with
                | zero=>exact absurd HA.out (by simp [laws_FnExactCallsOf.j7])
                | succ kj58 =>
                 have H:=HA.out;clear HA;simp only [laws_FnExactCallsOf.j7] at H;replace H:=Option.bind_eq_some_iff.mp H;obtain ⟨t301,A670,H⟩:=H;replace H:(if t301 < 0 then (some false) else (if t301 = t285 then (some true) else (some false))) = some r:=H;have A67:=Aside0.mk A670;clear A670
                 by_cases c68:t301 < 0
                 ·rw [if_pos c68] at H
                  have c68b0:decide (t301 < 0) = true:=decide_eq_true c68;clear c68;obtain rfl:=Option.some.inj H
                  go_wp2_with (first|((with_reducible refine gate_callee (f:=12) rfl ?_);refine goesL_ (some 63) rfl rfl Try.func12 (by kernel_rfl) rfl #[.slice Ao27 t286.length co27,.int .i64 1] rfl gs ?_;(with_reducible refine (laws_heldStringS.calls kj58 _ _ t286 1 t301 _ ?side1 ?side2 A67.out).mono ?_);(case side1=>repeat (first|exact (Kd.R_reads' HO_6.out).2.2|(with_reducible refine Kd.C_alloc ?_ _)|(with_reducible refine Kd.C_drewN ?_ _)|(with_reducible refine Kd.C_drew ?_)));(case side2=>exact (Kd.R_reads' HO_6.out).2.1);rintro e w69 ⟨rfl,hb⟩;refine ⟨_,rfl,?_⟩;have n_:=ai (rwm HO_6 hb) <| ai (bw BK245 hb) <| bq HB hb;clear HO_6 BK245 HB;obtain ⟨HO_6,BK245,HB⟩:=n_;(try clear hb);(try clear hk);(try clear hi)))
                  go_ret
                  exact ⟨cl,bl HB.out⟩
                 ·rw [if_neg c68] at H
                  have c68b0:decide (t301 < 0) = false:=decide_eq_false c68;clear c68
                  by_cases c70:t301 = t285
                  ·rw [if_pos c70] at H
                   have c70b0:(t301 == t285) = true:=beq_iff_eq.mpr c70;have c70b1:(t301 != t285) = false:=bne_eq_false_iff_eq.mpr c70;clear c70;obtain rfl:=Option.some.inj H
                   go_wp2_with (first|((with_reducible refine gate_callee (f:=12) rfl ?_);refine goesL_ (some 63) rfl rfl Try.func12 (by kernel_rfl) rfl #[.slice Ao27 t286.length co27,.int .i64 1] rfl gs ?_;(with_reducible refine (laws_heldStringS.calls kj58 _ _ t286 1 t301 _ ?side1 ?side2 A67.out).mono ?_);(case side1=>repeat (first|exact (Kd.R_reads' HO_6.out).2.2|(with_reducible refine Kd.C_alloc ?_ _)|(with_reducible refine Kd.C_drewN ?_ _)|(with_reducible refine Kd.C_drew ?_)));(case side2=>exact (Kd.R_reads' HO_6.out).2.1);rintro e w71 ⟨rfl,hb⟩;refine ⟨_,rfl,?_⟩;have n_:=ai (rwm HO_6 hb) <| ai (bw BK245 hb) <| bq HB hb;clear HO_6 BK245 HB;obtain ⟨HO_6,BK245,HB⟩:=n_;(try clear hb);(try clear hk);(try clear hi)))
                   go_ret
                   exact ⟨cl,bl HB.out⟩
                  ·rw [if_neg c70] at H
                   have c70b0:(t301 == t285) = false:=beq_eq_false_iff_ne.mpr c70;have c70b1:(t301 != t285) = true:=bne_iff_ne.mpr c70;obtain rfl:=Option.some.inj H
                   go_wp2_with (first|((with_reducible refine gate_callee (f:=12) rfl ?_);refine goesL_ (some 63) rfl rfl Try.func12 (by kernel_rfl) rfl #[.slice Ao27 t286.length co27,.int .i64 1] rfl gs ?_;(with_reducible refine (laws_heldStringS.calls kj58 _ _ t286 1 t301 _ ?side1 ?side2 A67.out).mono ?_);(case side1=>repeat (first|exact (Kd.R_reads' HO_6.out).2.2|(with_reducible refine Kd.C_alloc ?_ _)|(with_reducible refine Kd.C_drewN ?_ _)|(with_reducible refine Kd.C_drew ?_)));(case side2=>exact (Kd.R_reads' HO_6.out).2.1);rintro e w72 ⟨rfl,hb⟩;refine ⟨_,rfl,?_⟩;have n_:=ai (rwm HO_6 hb) <| ai (bw BK245 hb) <| bq HB hb;clear HO_6 BK245 HB;obtain ⟨HO_6,BK245,HB⟩:=n_;(try clear hb);(try clear hk);(try clear hi)))
                   go_ret
                   exact ⟨cl,bl HB.out⟩

/-- THE ONE PURE STATEMENT of laws_FnExactCallsOf: yours. -/
def laws_FnExactCallsOf.Pure:Prop:=∀ (a0_0:Int) (a0_1:Int) (a0_2:ByteArray) (l0_3:List (S25)) (l0_4:List (S54)),wf25 (⟨a0_0,a0_1,a0_2,l0_3,l0_4⟩:S25) → ∃ k,laws_FnExactCallsOf.f k a0_0 a0_1 a0_2 l0_3 l0_4 = some true
theorem laws_FnExactCallsOf.walk (k_:Nat):True:=trivial

end Go.Proofs.Ytogeameinakelaa.QFnExactCallsOf
