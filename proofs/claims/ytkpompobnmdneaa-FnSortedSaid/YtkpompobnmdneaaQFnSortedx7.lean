-- Written by a program of this workplace (print2.py) for this claim, over the print's words.
import Derived.Test.YtkpompobnmdneaaQFnSortedx0
import Derived.Test.YtkpompobnmdneaaQFnSortedx1
import Derived.Test.YtkpompobnmdneaaQFnSortedx2
import Derived.Test.YtkpompobnmdneaaQFnSortedx6
namespace Go.Proofs.Ytkpompobnmdneaa.QFnSorted
open Go.RowKit Go.Proofs.YtkpompobnmdneaaW.PrintWords Go.Proofs.YtkpompobnmdneaaW.PrintLast Go.Proofs.YtkpompobnmdneaaW.PrintMore
attribute [local go_sem] binOp_string_gtr max2_int min2_int max_two min_two max_three min_three max_four min_four   -- for this text's walks alone
set_option linter.unusedVariables false
set_option linter.unusedSimpArgs false

/-! ### laws_FnSorted: function 3 -/
mutual
def laws_FnSorted.j0:Nat → List Int → Option (Bool)
 | 0,_=>none
 | k + 1,x0=>(spec_DrawSortTerms.f k x0).bind fun t244=>((impl_SortTerms.f k t244).bind fun t247=>(if (t247.length:Int) = (t244.length:Int) then ((impl_SortTerms.f k t247).bind fun t250=>((laws_sameTerms.f k t250 t247).bind fun t253=>(laws_FnSorted.j1 k t244 t247 (!t253)))) else (laws_FnSorted.j1 k t244 t247 true)))
def laws_FnSorted.j1:Nat → List (S30) → List (S30) → Bool → Option (Bool)
 | 0,_,_,_=>none
 | k + 1,x3,x4,x26=>if x26 = true then (some false) else (laws_FnSorted.j2 k x3 x4)
def laws_FnSorted.j2:Nat → List (S30) → List (S30) → Option (Bool)
 | 0,_,_=>none
 | k + 1,x3,x4=>laws_FnSorted.l0 k x3 x4 0
def laws_FnSorted.l0:Nat → List (S30) → List (S30) → Int → Option (Bool)
 | 0,_,_,_=>none
 | k + 1,x3,x4,x5=>if x5 < (x4.length:Int) then (laws_FnSorted.j4 k x3 x4 x5) else (some true)
def laws_FnSorted.j4:Nat → List (S30) → List (S30) → Int → Option (Bool)
 | 0,_,_,_=>none
 | k + 1,x3,x4,x5=>laws_FnSorted.l1 k x3 x4 x5 0 0 0
def laws_FnSorted.l1:Nat → List (S30) → List (S30) → Int → Int → Int → Int → Option (Bool)
 | 0,_,_,_,_,_,_=>none
 | k + 1,x3,x4,x5,x6,x7,x8=>if x8 < (x3.length:Int) then (laws_FnSorted.j6 k x3 x4 x5 x6 x7 x8) else (if x6 = x7 then (if x6 = 0 then (some false) else (if x5 > 0 then (if 0≤x5 then (if x5 < (x4.length:Int) then (if 0≤(wrap64 (x5 - 1)) then (if (wrap64 (x5 - 1)) < (x4.length:Int) then ((impl_LessTerm.f k ((rd_T30 x4 x5).f0) ((rd_T30 x4 x5).f1) ((rd_T30 x4 x5).f2) ((rd_T30 x4 x5).f3) ((rd_T30 x4 (wrap64 (x5 - 1))).f0) ((rd_T30 x4 (wrap64 (x5 - 1))).f1) ((rd_T30 x4 (wrap64 (x5 - 1))).f2) ((rd_T30 x4 (wrap64 (x5 - 1))).f3)).bind fun t256=>(if t256 = true then (some false) else (laws_FnSorted.l0 k x3 x4 (wrap64 (x5 + 1))))) else (none)) else (none)) else (none)) else (none)) else (laws_FnSorted.l0 k x3 x4 (wrap64 (x5 + 1))))) else (some false))
def laws_FnSorted.j6:Nat → List (S30) → List (S30) → Int → Int → Int → Int → Option (Bool)
 | 0,_,_,_,_,_,_=>none
 | k + 1,x3,x4,x5,x6,x7,x8=>if 0≤x8 then (if x8 < (x3.length:Int) then (if 0≤x5 then (if x5 < (x4.length:Int) then ((impl_SameTerm.f k ((rd_T30 x3 x8).f0) ((rd_T30 x3 x8).f1) ((rd_T30 x3 x8).f2) ((rd_T30 x3 x8).f3) ((rd_T30 x4 x5).f0) ((rd_T30 x4 x5).f1) ((rd_T30 x4 x5).f2) ((rd_T30 x4 x5).f3)).bind fun t259=>(if t259 = true then (if x8 < (x4.length:Int) then ((impl_SameTerm.f k ((rd_T30 x4 x8).f0) ((rd_T30 x4 x8).f1) ((rd_T30 x4 x8).f2) ((rd_T30 x4 x8).f3) ((rd_T30 x4 x5).f0) ((rd_T30 x4 x5).f1) ((rd_T30 x4 x5).f2) ((rd_T30 x4 x5).f3)).bind fun t262=>(if t262 = true then (laws_FnSorted.l1 k x3 x4 x5 (wrap64 (x6 + 1)) (wrap64 (x7 + 1)) (wrap64 (x8 + 1))) else (laws_FnSorted.l1 k x3 x4 x5 (wrap64 (x6 + 1)) x7 (wrap64 (x8 + 1))))) else (none)) else (if x8 < (x4.length:Int) then ((impl_SameTerm.f k ((rd_T30 x4 x8).f0) ((rd_T30 x4 x8).f1) ((rd_T30 x4 x8).f2) ((rd_T30 x4 x8).f3) ((rd_T30 x4 x5).f0) ((rd_T30 x4 x5).f1) ((rd_T30 x4 x5).f2) ((rd_T30 x4 x5).f3)).bind fun t265=>(if t265 = true then (laws_FnSorted.l1 k x3 x4 x5 x6 (wrap64 (x7 + 1)) (wrap64 (x8 + 1))) else (laws_FnSorted.l1 k x3 x4 x5 x6 x7 (wrap64 (x8 + 1))))) else (none)))) else (none)) else (none)) else (none)) else (none)
end
def laws_FnSorted.f (k:Nat) (l0:List Int):Option (Bool):=(laws_big.f l0).bind fun t243=>(if t243 = true then (some true) else (laws_FnSorted.j0 k l0))
theorem laws_FnSorted.mono_l:∀ k,(∀ y0,LeO (laws_FnSorted.j0 k y0) (laws_FnSorted.j0 (k + 1) y0))∧(∀ y0 y1 y2,LeO (laws_FnSorted.j1 k y0 y1 y2) (laws_FnSorted.j1 (k + 1) y0 y1 y2))∧(∀ y0 y1,LeO (laws_FnSorted.j2 k y0 y1) (laws_FnSorted.j2 (k + 1) y0 y1))∧(∀ y0 y1 y2,LeO (laws_FnSorted.l0 k y0 y1 y2) (laws_FnSorted.l0 (k + 1) y0 y1 y2))∧(∀ y0 y1 y2,LeO (laws_FnSorted.j4 k y0 y1 y2) (laws_FnSorted.j4 (k + 1) y0 y1 y2))∧(∀ y0 y1 y2 y3 y4 y5,LeO (laws_FnSorted.l1 k y0 y1 y2 y3 y4 y5) (laws_FnSorted.l1 (k + 1) y0 y1 y2 y3 y4 y5))∧(∀ y0 y1 y2 y3 y4 y5,LeO (laws_FnSorted.j6 k y0 y1 y2 y3 y4 y5) (laws_FnSorted.j6 (k + 1) y0 y1 y2 y3 y4 y5))
 | 0=>⟨fun _ r h=>by simp [laws_FnSorted.j0] at h,fun _ _ _ r h=>by simp [laws_FnSorted.j1] at h,fun _ _ r h=>by simp [laws_FnSorted.j2] at h,fun _ _ _ r h=>by simp [laws_FnSorted.l0] at h,fun _ _ _ r h=>by simp [laws_FnSorted.j4] at h,fun _ _ _ _ _ _ r h=>by simp [laws_FnSorted.l1] at h,fun _ _ _ _ _ _ r h=>by simp [laws_FnSorted.j6] at h⟩
 | k + 1=>by
  obtain ⟨ih0,ih1,ih2,ih3,ih4,ih5,ih6⟩:=laws_FnSorted.mono_l k
  refine ⟨?_,?_,?_,?_,?_,?_,?_⟩
  ·intro y0
   unfold laws_FnSorted.j0
   with_reducible repeat' first|apply ih0|apply ih1|apply ih2|apply ih3|apply ih4|apply ih5|apply ih6|apply impl_LessTerm.mono|apply impl_SameTerm.mono|apply impl_SortTerms.mono|apply laws_sameTerms.mono|apply spec_DrawSortTerms.mono|apply LeO.refl|apply LeO.none|apply LeO.ite|refine LeO.bind ?_ (fun _=>?_)
  ·intro y0 y1 y2
   unfold laws_FnSorted.j1
   with_reducible repeat' first|apply ih0|apply ih1|apply ih2|apply ih3|apply ih4|apply ih5|apply ih6|apply impl_LessTerm.mono|apply impl_SameTerm.mono|apply impl_SortTerms.mono|apply laws_sameTerms.mono|apply spec_DrawSortTerms.mono|apply LeO.refl|apply LeO.none|apply LeO.ite|refine LeO.bind ?_ (fun _=>?_)
  ·intro y0 y1
   unfold laws_FnSorted.j2
   with_reducible repeat' first|apply ih0|apply ih1|apply ih2|apply ih3|apply ih4|apply ih5|apply ih6|apply impl_LessTerm.mono|apply impl_SameTerm.mono|apply impl_SortTerms.mono|apply laws_sameTerms.mono|apply spec_DrawSortTerms.mono|apply LeO.refl|apply LeO.none|apply LeO.ite|refine LeO.bind ?_ (fun _=>?_)
  ·intro y0 y1 y2
   unfold laws_FnSorted.l0
   with_reducible repeat' first|apply ih0|apply ih1|apply ih2|apply ih3|apply ih4|apply ih5|apply ih6|apply impl_LessTerm.mono|apply impl_SameTerm.mono|apply impl_SortTerms.mono|apply laws_sameTerms.mono|apply spec_DrawSortTerms.mono|apply LeO.refl|apply LeO.none|apply LeO.ite|refine LeO.bind ?_ (fun _=>?_)
  ·intro y0 y1 y2
   unfold laws_FnSorted.j4
   with_reducible repeat' first|apply ih0|apply ih1|apply ih2|apply ih3|apply ih4|apply ih5|apply ih6|apply impl_LessTerm.mono|apply impl_SameTerm.mono|apply impl_SortTerms.mono|apply laws_sameTerms.mono|apply spec_DrawSortTerms.mono|apply LeO.refl|apply LeO.none|apply LeO.ite|refine LeO.bind ?_ (fun _=>?_)
  ·intro y0 y1 y2 y3 y4 y5
   unfold laws_FnSorted.l1
   with_reducible repeat' first|apply ih0|apply ih1|apply ih2|apply ih3|apply ih4|apply ih5|apply ih6|apply impl_LessTerm.mono|apply impl_SameTerm.mono|apply impl_SortTerms.mono|apply laws_sameTerms.mono|apply spec_DrawSortTerms.mono|apply LeO.refl|apply LeO.none|apply LeO.ite|refine LeO.bind ?_ (fun _=>?_)
  ·intro y0 y1 y2 y3 y4 y5
   unfold laws_FnSorted.j6
   with_reducible repeat' first|apply ih0|apply ih1|apply ih2|apply ih3|apply ih4|apply ih5|apply ih6|apply impl_LessTerm.mono|apply impl_SameTerm.mono|apply impl_SortTerms.mono|apply laws_sameTerms.mono|apply spec_DrawSortTerms.mono|apply LeO.refl|apply LeO.none|apply LeO.ite|refine LeO.bind ?_ (fun _=>?_)
theorem laws_FnSorted.mono:∀ a0 k,LeO (laws_FnSorted.f k a0) (laws_FnSorted.f (k + 1) a0):=by
 intro a0 k;obtain ⟨ih0,ih1,ih2,ih3,ih4,ih5,ih6⟩:=laws_FnSorted.mono_l k
 unfold laws_FnSorted.f
 with_reducible repeat' first|apply ih0|apply ih1|apply ih2|apply ih3|apply ih4|apply ih5|apply ih6|apply impl_LessTerm.mono|apply impl_SameTerm.mono|apply impl_SortTerms.mono|apply laws_sameTerms.mono|apply spec_DrawSortTerms.mono|apply LeO.refl|apply LeO.none|apply LeO.ite|refine LeO.bind ?_ (fun _=>?_)
def laws_FnSorted.T15:Bool × List (List Nat × List Nat):=(true,[([],[]),([],[]),([0,1],[0,1]),([2],[2]),([],[]),([],[]),([4,5],[4,5]),([6],[6]),([3,7],[3,7])])
def laws_FnSorted.B15:List Nat:=[0,0,3,7,0,0,48,112,255]
theorem laws_FnSorted.tab15:rtab .any (opsOf Try.f3 15) = laws_FnSorted.T15:=by kernel_rfl
theorem laws_FnSorted.bits15:waitsOk laws_FnSorted.T15.2 laws_FnSorted.B15 = true:=by kernel_rfl
def laws_FnSorted.T17:Bool × List (List Nat × List Nat):=(true,[([],[]),([],[]),([0,1],[0,1]),([2],[2]),([],[]),([],[]),([4,5],[4,5]),([6],[6]),([3,7],[3,7])])
def laws_FnSorted.B17:List Nat:=[0,0,3,7,0,0,48,112,255]
theorem laws_FnSorted.tab17:rtab .any (opsOf Try.f3 17) = laws_FnSorted.T17:=by kernel_rfl
theorem laws_FnSorted.bits17:waitsOk laws_FnSorted.T17.2 laws_FnSorted.B17 = true:=by kernel_rfl
def laws_FnSorted.T19:Bool × List (List Nat × List Nat):=(true,[([],[]),([],[]),([0,1],[0,1]),([2],[2]),([3],[3]),([4,3],[3,4]),([3,5],[3,5]),([6,3],[6]),([7],[7]),([8,7],[7,8]),([9,7,7],[7,9]),([10],[10]),([10],[10]),([11,12,10],[10,11,12]),([13,10],[10,13]),([10],[10]),([10],[10]),([16,10],[10,16]),([15,17,10],[10,15,17]),([18,10],[10,18]),([14,19,10,10],[10,14,19]),([10,20,7],[7,10,20]),([7,21],[7,21])])
def laws_FnSorted.B19:List Nat:=[0,0,3,7,15,31,63,127,255,511,1023,2047,2047,8191,16383,2047,2047,67583,231423,493567,1048575,2097151,4194303]
theorem laws_FnSorted.tab19:rtab .any (opsOf Try.f3 19) = laws_FnSorted.T19:=by kernel_rfl
theorem laws_FnSorted.bits19:waitsOk laws_FnSorted.T19.2 laws_FnSorted.B19 = true:=by kernel_rfl
set_option maxHeartbeats 8000000 in
set_option maxRecDepth 100000 in
theorem laws_FnSorted.calls (k:Nat) (A0:Option Addr) (c0:Nat) (l0:List Int) (r:Bool) (w:World) (hr0:Kd.C (Kd.int .u8) w A0 l0.length l0) (hc0:l0.length≤c0) (h:laws_FnSorted.f k l0 = some r) :
  Calls Try.prog 3 #[.slice A0 l0.length c0] w fun e w'=>e = .returned (.bool r)∧Below w.heap.size w w':=by
 have hu30:=Try.underlying30;have HR0:=Aside0.mk hr0;have HC0:=Aside0.mk hc0;clear hr0 hc0;have HB:=Aside0.mk (Below.refl w.heap.size w);have H:((laws_big.f l0).bind fun t243=>(if t243 = true then (some true) else (laws_FnSorted.j0 k l0))) = some r:=h;clear h;replace H:=Option.bind_eq_some_iff.mp H;obtain ⟨t243,A20,H⟩:=H;replace H:(if t243 = true then (some true) else (laws_FnSorted.j0 k l0)) = some r:=H;have A2:=Aside0.mk A20;clear A20;have HC3:=Aside0.mk H;clear H
 go_enter Try.func3,Try.ntmps3
 go_upto_if 10 with (first|((with_reducible refine gate_callee (f:=4) rfl ?_);refine goesL_ (some 10) rfl rfl Try.func4 (by kernel_rfl) rfl #[.slice A0 l0.length c0] rfl gs ?_;(with_reducible refine (laws_big.calls _ _ l0 t243 _ ?side1 ?side2 A2.out).mono ?_);(case side1=>repeat (first|exact HR0.out|(with_reducible refine Kd.C_alloc ?_ _)|(with_reducible refine Kd.C_drewN ?_ _)|(with_reducible refine Kd.C_drew ?_)));(case side2=>exact HC0.out);rintro e w' ⟨rfl,⟨nd,rfl⟩⟩;refine ⟨_,rfl,?_⟩))
 (try simp only [Act.put,List.setIfInBounds_toArray,List.set_cons_zero,List.set_cons_succ])
 go_cut [] (fun wc=>∃ (kq:Nat),Aside0 (laws_FnSorted.j0 kq l0 = some r)∧Aside0 (kq≤k)∧Aside0 (Below w.heap.size w wc))
 case first =>
  have H:=HC3.out;clear HC3
  by_cases c4:t243 = true
  ·subst c4
   have H1:(some true) = some r:=by rw [if_pos rfl] at H;exact H
   clear H;have H:=H1;clear H1;obtain rfl:=Option.some.inj H
   go_wp2
   go_ret
   exact ⟨cl,bl HB.out⟩
  ·replace c4:=Bool.eq_false_iff.mpr c4
   subst c4;have H1:(laws_FnSorted.j0 k l0) = some r:=by rw [if_neg (show ¬ (false = true) by decide)] at H;exact H
   clear H;have H:=H1;clear H1;have H':=Aside0.mk H;clear H
   go_wp2
   go_meet
   case rel=>exact ⟨_,H',⟨by first|omega|exact Nat.le_refl _⟩,⟨bl HB.out⟩⟩
 case rest =>
  clear HC3;(try clear HB);obtain ⟨kq,HA,HJ2,HB⟩:=hcut
  cases kq with
  | zero=>exact absurd HA.out (by simp [laws_FnSorted.j0])
  | succ kj2 =>
   have H:=HA.out;clear HA;simp only [laws_FnSorted.j0] at H;replace H:=Option.bind_eq_some_iff.mp H;obtain ⟨t244,A50,H⟩:=H;replace H:((impl_SortTerms.f kj2 t244).bind fun t247=>(if (t247.length:Int) = (t244.length:Int) then ((impl_SortTerms.f kj2 t247).bind fun t250=>((laws_sameTerms.f kj2 t250 t247).bind fun t253=>(laws_FnSorted.j1 kj2 t244 t247 (!t253)))) else (laws_FnSorted.j1 kj2 t244 t247 true))) = some r:=H;have A5:=Aside0.mk A50;clear A50;replace H:=Option.bind_eq_some_iff.mp H;obtain ⟨t247,A60,H⟩:=H;replace H:(if (t247.length:Int) = (t244.length:Int) then ((impl_SortTerms.f kj2 t247).bind fun t250=>((laws_sameTerms.f kj2 t250 t247).bind fun t253=>(laws_FnSorted.j1 kj2 t244 t247 (!t253)))) else (laws_FnSorted.j1 kj2 t244 t247 true)) = some r:=H;have A6:=Aside0.mk A60;clear A60;have HC7:=Aside0.mk H;clear H
   go_upto_region 5 with (first|((with_reducible refine gate_callee (f:=5) rfl ?_);refine goesL_ (some 12) rfl rfl Try.func5 (by kernel_rfl) rfl #[.slice A0 l0.length c0] rfl gs ?_;(with_reducible refine (spec_DrawSortTerms.calls kj2 _ _ l0 t244 _ ?side1 ?side2 A5.out).mono ?_);(case side1=>exact ck (Kd.C_below HR0.out HB.out));(case side2=>exact HC0.out);rintro e w8 ⟨v245,rfl,ho0,hb⟩;refine ⟨_,rfl,?_⟩;have n_:=ai (Aside0.mk (Kd.R_lower ho0 (below_size (bl HB.out)))) <| bq HB hb;clear HB;obtain ⟨HO246,HB⟩:=n_;(try clear hb);(try clear ho0);obtain ⟨Ao9,co9,eo9⟩:=Kd.R_slice HO246.out;subst eo9)|((with_reducible refine gate_callee (f:=6) rfl ?_);refine goesL_ (some 14) rfl rfl Try.func6 (by kernel_rfl) rfl #[.slice Ao9 t244.length co9] rfl gs ?_;(with_reducible refine (impl_SortTerms.calls kj2 _ _ t244 t247 _ ?side1 ?side2 A6.out).mono ?_);(case side1=>repeat (first|exact (Kd.R_reads' HO246.out).2.2|(with_reducible refine Kd.C_alloc ?_ _)|(with_reducible refine Kd.C_drewN ?_ _)|(with_reducible refine Kd.C_drew ?_)));(case side2=>exact (Kd.R_reads' HO246.out).2.1);rintro e w10 ⟨v248,rfl,ho0,hb⟩;refine ⟨_,rfl,?_⟩;have n_:=ai (rwm HO246 hb) <| ai (Aside0.mk (Kd.V_lower (Kd.V_mono (ok':=fun k_=>some k_≠(.slice Ao9 t244.length co9:Value).ownBlock) ho0 (fun k_ hk_=>(Kd.fresh' (Kd.R_lt (rk HO246.out)) k_ hk_))) (below_size (bl HB.out)))) <| bq HB hb;clear HO246 HB;obtain ⟨HO246,HO249,HB⟩:=n_;(try clear hb);(try clear hb2);(try clear hk);(try clear hi);(try clear ho0)))
   (try simp only [Act.put,List.setIfInBounds_toArray,List.set_cons_zero,List.set_cons_succ])
   go_cut [26] (fun v26 wc=>∃ (kq:Nat) (x26_6:Bool),v26 = .bool x26_6∧Aside0 (laws_FnSorted.j1 kq t244 t247 x26_6 = some r)∧Aside0 (kq≤kj2)∧Aside0 (Kd.R k30 30 wc w.heap.size (fun _=>True) (.slice Ao9 t244.length co9) t244)∧Aside0 (Kd.V k30 30 wc w.heap.size (fun k_=>some k_≠((.slice Ao9 t244.length co9):Value).ownBlock) v248 t247)∧Aside0 (Below w.heap.size w wc))
   case first =>
    have H:=HC7.out;clear HC7
    by_cases c11:(t247.length:Int) = (t244.length:Int)
    ·rw [if_pos c11] at H
     have c11b0:((t247.length:Int) == (t244.length:Int)) = true:=beq_iff_eq.mpr c11;have c11b1:((t247.length:Int) != (t244.length:Int)) = false:=bne_eq_false_iff_eq.mpr c11;have c11b2:(t247.length == t244.length) = true:=by first|simpa using c11|(simp at c11 ⊢;omega)
     clear c11
     (first|rw [c11b0]|(simp only [i64_w,i32_w];rw [c11b0])|(simp only [c11b2,Bool.not_true,Bool.not_false])|skip)
     replace H:=Option.bind_eq_some_iff.mp H;obtain ⟨t250,A120,H⟩:=H;replace H:((laws_sameTerms.f kj2 t250 t247).bind fun t253=>(laws_FnSorted.j1 kj2 t244 t247 (!t253))) = some r:=H;have A12:=Aside0.mk A120;clear A120;replace H:=Option.bind_eq_some_iff.mp H;obtain ⟨t253,A130,H⟩:=H;replace H:(laws_FnSorted.j1 kj2 t244 t247 (!t253)) = some r:=H;have A13:=Aside0.mk A130;clear A130;have H':=Aside0.mk H;clear H;obtain ⟨Ao14,co14,eo14⟩:=Kd.V_slice HO249.out;subst eo14
     go_wp2_with (first|(go_at_call 6;(with_reducible refine (impl_SortTerms.calls kj2 _ _ t247 t250 _ ?side1 ?side2 A12.out).mono ?_);(case side1=>repeat (first|exact (Kd.V_reads' HO249.out).2.2|(with_reducible refine Kd.C_alloc ?_ _)|(with_reducible refine Kd.C_drewN ?_ _)|(with_reducible refine Kd.C_drew ?_)));(case side2=>exact (Kd.V_reads' HO249.out).2.1);rintro e w15 ⟨v251,rfl,ho0,hb⟩;have n_:=ai (rwm HO246 hb) <| ai (vwm HO249 hb) <| ai (Aside0.mk (Kd.V_lower (Kd.V_mono (ok':=fun k_=>some k_≠(.slice Ao9 t244.length co9:Value).ownBlock) ho0 (fun k_ hk_=>(Kd.fresh' (Kd.R_lt (rk HO246.out)) k_ hk_))) (below_size (bl HB.out)))) <| bq HB hb;clear HO246 HO249 HB;obtain ⟨HO246,HO249,HO252,HB⟩:=n_;(try clear hb);(try clear ho0);obtain ⟨Ao16,co16,eo16⟩:=Kd.V_slice HO252.out;subst eo16)|(go_at_call 7;(with_reducible refine (laws_sameTerms.calls kj2 _ _ t250 _ _ t247 t253 _ ?side1 ?side2 ?side3 ?side4 A13.out).mono ?_);(case side1=>repeat (first|exact (Kd.V_reads' HO252.out).2.2|(with_reducible refine Kd.C_alloc ?_ _)|(with_reducible refine Kd.C_drewN ?_ _)|(with_reducible refine Kd.C_drew ?_)));(case side2=>exact (Kd.V_reads' HO252.out).2.1);(case side3=>repeat (first|exact (Kd.V_reads' HO249.out).2.2|(with_reducible refine Kd.C_alloc ?_ _)|(with_reducible refine Kd.C_drewN ?_ _)|(with_reducible refine Kd.C_drew ?_)));(case side4=>exact (Kd.V_reads' HO249.out).2.1);rintro e w17 ⟨rfl,hb⟩;have n_:=ai (rwm HO246 hb) <| ai (vwm HO249 hb) <| ai (vwm HO252 hb) <| bq HB hb;clear HO246 HO249 HO252 HB;obtain ⟨HO246,HO249,HO252,HB⟩:=n_;(try clear hb);(try clear hb2);(try clear hk);(try clear hi)))
     go_meet
     case rel=>exact ⟨_,(!t253),(cl2),H',⟨by have:=HJ2.out;first|omega|exact Nat.le_refl _⟩,⟨rk HO246.out⟩,⟨vdm HO249.out⟩,⟨bl HB.out⟩⟩
    ·rw [if_neg c11] at H
     have c11b0:((t247.length:Int) == (t244.length:Int)) = false:=beq_eq_false_iff_ne.mpr c11;have c11b1:((t247.length:Int) != (t244.length:Int)) = true:=bne_iff_ne.mpr c11;have c11b2:(t247.length == t244.length) = false:=by first|simpa using c11|(simp at c11 ⊢;omega)
     (first|rw [c11b0]|(simp only [i64_w,i32_w];rw [c11b0])|(simp only [c11b2,Bool.not_true,Bool.not_false])|skip)
     have H':=Aside0.mk H;clear H;obtain ⟨Ao18,co18,eo18⟩:=Kd.V_slice HO249.out;subst eo18
     go_wp2
     go_meet
     case rel=>exact ⟨_,(true),(cl2),H',⟨by have:=HJ2.out;first|omega|exact Nat.le_refl _⟩,⟨rk HO246.out⟩,⟨vdm HO249.out⟩,⟨bl HB.out⟩⟩
   case rest =>
    clear HC7;(try clear p2);(try clear HB);obtain ⟨kq,x26_6,rfl,HA,HJ6,HO_3,HO_4,HB⟩:=hcut
    cases kq with
    | zero=>exact absurd HA.out (by simp [laws_FnSorted.j1])
    | succ kj6 =>
     have H:=HA.out;clear HA;simp only [laws_FnSorted.j1] at H;have HC19:=Aside0.mk H;clear H
     go_upto_if 26 with (fail)
     go_cut [] (fun wc=>∃ (kq:Nat),Aside0 (laws_FnSorted.j2 kq t244 t247 = some r)∧Aside0 (kq≤kj6)∧Aside0 (Kd.R k30 30 wc w.heap.size (fun _=>True) (.slice Ao9 t244.length co9) t244)∧Aside0 (Kd.V k30 30 wc w.heap.size (fun k_=>some k_≠((.slice Ao9 t244.length co9):Value).ownBlock) v248 t247)∧Aside0 (Below w.heap.size w wc))
     case first =>
      have H:=HC19.out;clear HC19
      by_cases c20:x26_6 = true
      ·subst c20
       have H1:(some false) = some r:=by rw [if_pos rfl] at H;exact H
       clear H;have H:=H1;clear H1;obtain rfl:=Option.some.inj H
       go_wp2
       go_ret
       exact ⟨cl,bl HB.out⟩
      ·replace c20:=Bool.eq_false_iff.mpr c20
       subst c20;have H1:(laws_FnSorted.j2 kj6 t244 t247) = some r:=by rw [if_neg (show ¬ (false = true) by decide)] at H;exact H
       clear H;have H:=H1;clear H1;have H':=Aside0.mk H;clear H
       go_wp2
       go_meet
       case rel=>exact ⟨_,H',⟨by have:=HJ2.out;have:=HJ6.out;first|omega|exact Nat.le_refl _⟩,⟨rk HO_3.out⟩,⟨vdm HO_4.out⟩,⟨bl HB.out⟩⟩
     case rest =>
      clear HC19;(try clear p2);(try clear HO_3);(try clear HO_4);(try clear HB);obtain ⟨kq,HA,HJ18,HO_3,HO_4,HB⟩:=hcut
      cases kq with
      | zero=>exact absurd HA.out (by simp [laws_FnSorted.j2])
      | succ kj18 =>
       have H:=HA.out;clear HA;simp only [laws_FnSorted.j2] at H;have H':=Aside0.mk H;clear H
       go_wp2
       go_loopg [5] kj18 (fun kq v5 w'=>∃ (x5_4:Int),v5 = .int .i64 x5_4∧Aside0 (laws_FnSorted.l0 kq t244 t247 x5_4 = some r)∧Aside0 (kq≤kj18)∧Aside0 (Kd.R k30 30 w' w.heap.size (fun _=>True) (.slice Ao9 t244.length co9) t244)∧Aside0 (Kd.V k30 30 w' w.heap.size (fun k_=>some k_≠((.slice Ao9 t244.length co9):Value).ownBlock) v248 t247)∧Aside0 (Below w.heap.size w w'))
       case atStart=>exact ⟨(0),(cl2),H',⟨Nat.le_refl _⟩,⟨rk HO_3.out⟩,⟨vdm HO_4.out⟩,⟨bl HB.out⟩⟩
       case round =>
        clear H';(try clear p2);(try clear HO_3);(try clear HO_4);(try clear HB);obtain ⟨x5_4,rfl,HA,HK4,HO_3,HO_4,HB⟩:=hrel
        cases gk with
        | zero=>exact absurd HA.out (by simp [laws_FnSorted.l0])
        | succ k4 =>
         have H:=HA.out;clear HA;simp only [laws_FnSorted.l0] at H;have HC21:=Aside0.mk H;clear H;obtain ⟨Ao22,co22,eo22⟩:=Kd.V_slice HO_4.out;subst eo22
         go_upto_if 30 with (fail)
         go_cut [] (fun wc=>∃ (kq:Nat),Aside0 (laws_FnSorted.j4 kq t244 t247 x5_4 = some r)∧Aside0 (kq≤k4)∧Aside0 (Kd.R k30 30 wc w.heap.size (fun _=>True) (.slice Ao9 t244.length co9) t244)∧Aside0 (Kd.V k30 30 wc w.heap.size (fun k_=>some k_≠((.slice Ao9 t244.length co9):Value).ownBlock) (.slice Ao22 t247.length co22) t247)∧Aside0 (Below w.heap.size w wc))
         case first =>
          have H:=HC21.out;clear HC21
          by_cases c23:x5_4 < (t247.length:Int)
          ·rw [if_pos c23] at H
           have c23b0:decide (x5_4 < (t247.length:Int)) = true:=decide_eq_true c23;clear c23
           (first|rw [c23b0]|(simp only [i64_w,i32_w];rw [c23b0])|(simp only [c23b2,Bool.not_true,Bool.not_false])|skip)
           have H':=Aside0.mk H;clear H
           go_wp2
           go_meet
           case rel=>exact ⟨_,H',⟨by have:=HJ2.out;have:=HJ6.out;have:=HJ18.out;have:=HK4.out;first|omega|exact Nat.le_refl _⟩,⟨rk HO_3.out⟩,⟨vdm HO_4.out⟩,⟨bl HB.out⟩⟩
          ·rw [if_neg c23] at H
           have c23b0:decide (x5_4 < (t247.length:Int)) = false:=decide_eq_false c23;clear c23
           (first|rw [c23b0]|(simp only [i64_w,i32_w];rw [c23b0])|(simp only [c23b2,Bool.not_true,Bool.not_false])|skip)
           obtain rfl:=Option.some.inj H
           go_wp2
           go_ret
           exact ⟨cl,bl HB.out⟩
         case rest =>
          clear HC21;(try clear p2);(try clear HO_3);(try clear HO_4);(try clear HB);obtain ⟨kq,HA,HJ20,HO_3,HO_4,HB⟩:=hcut
          cases kq with
          | zero=>exact absurd HA.out (by simp [laws_FnSorted.j4])
          | succ kj20 =>
           have H:=HA.out;clear HA;simp only [laws_FnSorted.j4] at H;have H':=Aside0.mk H;clear H
           go_wp2
           go_loopg [6,7,8] kj20 (fun kq v6 v7 v8 w'=>∃ (x6_6:Int) (x7_6:Int) (x8_6:Int),v6 = .int .i64 x6_6∧v7 = .int .i64 x7_6∧v8 = .int .i64 x8_6∧Aside0 (laws_FnSorted.l1 kq t244 t247 x5_4 x6_6 x7_6 x8_6 = some r)∧Aside0 (kq≤kj20)∧Aside0 (Kd.R k30 30 w' w.heap.size (fun _=>True) (.slice Ao9 t244.length co9) t244)∧Aside0 (Kd.V k30 30 w' w.heap.size (fun k_=>some k_≠((.slice Ao9 t244.length co9):Value).ownBlock) (.slice Ao22 t247.length co22) t247)∧Aside0 (Below w.heap.size w w'))
           case atStart=>exact ⟨(0),(0),(0),(cl2),(cl2),(cl2),H',⟨Nat.le_refl _⟩,⟨rk HO_3.out⟩,⟨vdm HO_4.out⟩,⟨bl HB.out⟩⟩
           case round =>
            clear H';(try clear p2);(try clear HO_3);(try clear HO_4);(try clear HB);obtain ⟨x6_6,x7_6,x8_6,rfl,rfl,rfl,HA,HK6,HO_3,HO_4,HB⟩:=hrel
            cases gk with
            | zero=>exact absurd HA.out (by simp [laws_FnSorted.l1])
            | succ k6 =>
             have H:=HA.out;clear HA;simp only [laws_FnSorted.l1] at H;have HC24:=Aside0.mk H;clear H
             go_upto_if 36 with (fail)
             go_cut [] (fun wc=>∃ (kq:Nat),Aside0 (laws_FnSorted.j6 kq t244 t247 x5_4 x6_6 x7_6 x8_6 = some r)∧Aside0 (kq≤k6)∧Aside0 (Kd.R k30 30 wc w.heap.size (fun _=>True) (.slice Ao9 t244.length co9) t244)∧Aside0 (Kd.V k30 30 wc w.heap.size (fun k_=>some k_≠((.slice Ao9 t244.length co9):Value).ownBlock) (.slice Ao22 t247.length co22) t247)∧Aside0 (Below w.heap.size w wc))
             case first =>
              have H:=HC24.out;clear HC24
              by_cases c25:x8_6 < (t244.length:Int)
              ·rw [if_pos c25] at H
               have c25b0:decide (x8_6 < (t244.length:Int)) = true:=decide_eq_true c25;clear c25
               (first|rw [c25b0]|(simp only [i64_w,i32_w];rw [c25b0])|(simp only [c25b2,Bool.not_true,Bool.not_false])|skip)
               have H':=Aside0.mk H;clear H
               go_wp2
               go_meet
               case rel=>exact ⟨_,H',⟨by have:=HJ2.out;have:=HJ6.out;have:=HJ18.out;have:=HK4.out;have:=HJ20.out;have:=HK6.out;first|omega|exact Nat.le_refl _⟩,⟨rk HO_3.out⟩,⟨vdm HO_4.out⟩,⟨bl HB.out⟩⟩
              ·rw [if_neg c25] at H
               have c25b0:decide (x8_6 < (t244.length:Int)) = false:=decide_eq_false c25;clear c25
               (first|rw [c25b0]|(simp only [i64_w,i32_w];rw [c25b0])|(simp only [c25b2,Bool.not_true,Bool.not_false])|skip)
               by_cases c26:x6_6 = x7_6
               ·rw [if_pos c26] at H
                have c26b0:(x6_6 == x7_6) = true:=beq_iff_eq.mpr c26;have c26b1:(x6_6 != x7_6) = false:=bne_eq_false_iff_eq.mpr c26;clear c26
                by_cases c27:x6_6 = 0
                ·rw [if_pos c27] at H
                 have c27b0:(x6_6 == 0) = true:=beq_iff_eq.mpr c27;have c27b1:(x6_6 != 0) = false:=bne_eq_false_iff_eq.mpr c27;clear c27;obtain rfl:=Option.some.inj H
                 try go_wp2
                 have n_:=ai (Aside0.mk (Kd.R_drew HO_3.out)) <| ai (Aside0.mk (Kd.V_drew HO_4.out)) <| dh HB;clear HO_3 HO_4 HB;obtain ⟨HO_3,HO_4,HB⟩:=n_
                 refine start_ (n:=23) (S:=fun w'=>True) (ds:=[]) #[false,false,false,false,false,false,false,false,false,false,false,false,false,false,false,false,false,false,false,false,false,false,false] (by kernel_rfl) rfl rfl trivial (fun hHeld=>?_);refine with_tabW laws_FnSorted.tab19 laws_FnSorted.bits19 (fun HT_ HW_=>?_)
                 generalize wr.drew = w28 at HO_3 HO_4 HB hHeld ⊢;refine pu 0 61 ?_;refine pu 1 62 ?_;refine pu 2 63 ?_;refine pu 3 64 ?_;refine pu 4 65 ?_;refine pu 5 66 ?_;refine pu 6 67 ?_;refine pu 7 68 ?_;refine pu 8 69 ?_;refine pu 9 70 ?_;refine pu 10 71 ?_;refine pu 11 72 ?_;refine pu 12 73 ?_;refine pu 13 74 ?_;refine pu 14 75 ?_;refine pu 15 76 ?_;refine pu 16 77 ?_;refine pu 17 78 ?_;refine pu 18 79 ?_;refine pu 19 80 ?_;refine pu 20 81 ?_;refine pu 21 82 ?_;refine pu 22 83 ?_
                 refine done_ (done_of HT_.out (by kernel_rfl)) ?_
                 try go_wp2
                 go_ret
                 exact ⟨cl,bl HB.out⟩
                ·rw [if_neg c27] at H
                 have c27b0:(x6_6 == 0) = false:=beq_eq_false_iff_ne.mpr c27;have c27b1:(x6_6 != 0) = true:=bne_iff_ne.mpr c27
                 by_cases c29:x5_4 > 0
                 ·rw [if_pos c29] at H
                  have c29b0:decide (0 < x5_4) = true:=decide_eq_true c29;clear c29
                  by_cases c30:0≤x5_4
                  ·rw [if_pos c30] at H
                   have c30b0:decide (0≤x5_4) = true:=decide_eq_true c30;clear c30
                   by_cases c31:x5_4 < (t247.length:Int)
                   ·rw [if_pos c31] at H
                    have c31b0:decide (x5_4 < (t247.length:Int)) = true:=decide_eq_true c31;clear c31;obtain ⟨ji32,hji32⟩:∃ j_:Int,(wrap64 (x5_4 - 1)) = j_:=⟨_,rfl⟩;replace H:(if 0≤(ji32) then (if (ji32) < (t247.length:Int) then ((impl_LessTerm.f k6 ((rd_T30 t247 x5_4).f0) ((rd_T30 t247 x5_4).f1) ((rd_T30 t247 x5_4).f2) ((rd_T30 t247 x5_4).f3) ((rd_T30 t247 (ji32)).f0) ((rd_T30 t247 (ji32)).f1) ((rd_T30 t247 (ji32)).f2) ((rd_T30 t247 (ji32)).f3)).bind fun t256=>(if t256 = true then (some false) else (laws_FnSorted.l0 k6 t244 t247 (wrap64 (x5_4 + 1))))) else (none)) else (none)) = some r:=by first|(rw [hji32] at H;exact H)|(simp only [hji32] at H ⊢;exact H)
                    have hji32w:(IntKind.i64.wrap (x5_4 - 1)) = ji32:=(i64_w _).trans hji32
                    by_cases c33:0≤(ji32)
                    ·rw [if_pos c33] at H
                     have c33b0:decide (0≤(ji32)) = true:=decide_eq_true c33;clear c33
                     by_cases c34:(ji32) < (t247.length:Int)
                     ·rw [if_pos c34] at H
                      have c34b0:decide ((ji32) < (t247.length:Int)) = true:=decide_eq_true c34;clear c34;replace H:=Option.bind_eq_some_iff.mp H;obtain ⟨t256,A350,H⟩:=H;replace H:(if t256 = true then (some false) else (laws_FnSorted.l0 k6 t244 t247 (wrap64 (x5_4 + 1)))) = some r:=H;have A35:=Aside0.mk A350;clear A350
                      try go_wp2
                      have n_:=ai (Aside0.mk (Kd.R_drew HO_3.out)) <| ai (Aside0.mk (Kd.V_drew HO_4.out)) <| dh HB;clear HO_3 HO_4 HB;obtain ⟨HO_3,HO_4,HB⟩:=n_;have p254:0≤(x5_4:Int):=od;have q254:x5_4 < (t247.length:Int):=od;obtain ⟨ad254,A254_3,c254_3,e254,hx254_0,hx254_1,hx254_2,hx254_3,hl254_3,hi254_3⟩:=at_T30 (Kd.V_reads' HO_4.out).2.2 x5_4 p254 q254;cases e254;obtain ⟨ce254,hce254,hMe254,hcc254⟩:=Kd.V_get HO_4.out z30 x5_4 p254 (by first|exact q254|exact od|(have e_:=(Kd.V_reads' HO_4.out).1;omega));obtain ⟨ua254_3,uc254_3,rfl,ul254_3,ge254_3⟩:=k30_openF hMe254;have hv254_3:=hcc254 3 _ rfl;rw [add_field _ _ 3 (by omega)] at hv254_3;replace hv254_3:=Option.some.inj (hv254_3.symm.trans hx254_3)
                      injection hv254_3 with hva_ hvn_ hvc_
                      rw [hva_] at ge254_3;rw [hvc_] at ul254_3;have HL254_3:=Aside0.mk (show Kd.V k30 30 _ w.heap.size _ _ ((rd_T30 t247 x5_4).f3) from Kd.V_mk ul254_3 ge254_3);clear hva_ hvn_ hvc_ ge254_3 ul254_3;clear hcc254 hce254;have HR254_3:=Aside0.mk hi254_3;have HC254_3:=Aside0.mk hl254_3;clear hi254_3 hl254_3;replace p254:=eq_true p254;replace q254:=eq_true q254;have p255:0≤((ji32):Int):=od;have q255:(ji32) < (t247.length:Int):=od;obtain ⟨ad255,A255_3,c255_3,e255,hx255_0,hx255_1,hx255_2,hx255_3,hl255_3,hi255_3⟩:=at_T30 (Kd.V_reads' HO_4.out).2.2 (ji32) p255 q255;obtain rfl:ad254 = ad255:=(by injection e255);obtain ⟨ce255,hce255,hMe255,hcc255⟩:=Kd.V_get HO_4.out z30 (ji32) p255 (by first|exact q255|exact od|(have e_:=(Kd.V_reads' HO_4.out).1;omega));obtain ⟨ua255_3,uc255_3,rfl,ul255_3,ge255_3⟩:=k30_openF hMe255;have hv255_3:=hcc255 3 _ rfl;rw [add_field _ _ 3 (by omega)] at hv255_3;replace hv255_3:=Option.some.inj (hv255_3.symm.trans hx255_3)
                      injection hv255_3 with hva_ hvn_ hvc_
                      rw [hva_] at ge255_3;rw [hvc_] at ul255_3;have HL255_3:=Aside0.mk (show Kd.V k30 30 _ w.heap.size _ _ ((rd_T30 t247 (ji32)).f3) from Kd.V_mk ul255_3 ge255_3);clear hva_ hvn_ hvc_ ge255_3 ul255_3;clear hcc255 hce255;have HR255_3:=Aside0.mk hi255_3;have HC255_3:=Aside0.mk hl255_3;clear hi255_3 hl255_3;replace p255:=eq_true p255;replace q255:=eq_true q255
                      refine start_ (n:=23) (S:=fun w'=>w'.cell? (ad254.add ((x5_4).toNat * 4)) = some (.int .i64 ((rd_T30 t247 x5_4).f0))∧w'.cell? ⟨(ad254.add ((x5_4).toNat * 4)).block,(ad254.add ((x5_4).toNat * 4)).off + 1,none⟩ = some (.int .i64 ((rd_T30 t247 x5_4).f1))∧w'.cell? ⟨(ad254.add ((x5_4).toNat * 4)).block,(ad254.add ((x5_4).toNat * 4)).off + 2,none⟩ = some (.string ((rd_T30 t247 x5_4).f2))∧w'.cell? ⟨(ad254.add ((x5_4).toNat * 4)).block,(ad254.add ((x5_4).toNat * 4)).off + 3,none⟩ = some (.slice A254_3 ((rd_T30 t247 x5_4).f3).length c254_3)∧w'.cell? (ad254.add (((ji32)).toNat * 4)) = some (.int .i64 ((rd_T30 t247 (ji32)).f0))∧w'.cell? ⟨(ad254.add (((ji32)).toNat * 4)).block,(ad254.add (((ji32)).toNat * 4)).off + 1,none⟩ = some (.int .i64 ((rd_T30 t247 (ji32)).f1))∧w'.cell? ⟨(ad254.add (((ji32)).toNat * 4)).block,(ad254.add (((ji32)).toNat * 4)).off + 2,none⟩ = some (.string ((rd_T30 t247 (ji32)).f2))∧w'.cell? ⟨(ad254.add (((ji32)).toNat * 4)).block,(ad254.add (((ji32)).toNat * 4)).off + 3,none⟩ = some (.slice A255_3 ((rd_T30 t247 (ji32)).f3).length c255_3)) (ds:=[]) #[false,false,false,false,false,false,false,false,false,false,false,false,false,false,false,false,false,false,false,false,false,false,false] (by kernel_rfl) rfl rfl ⟨hx254_0,hx254_1,hx254_2,hx254_3,hx255_0,hx255_1,hx255_2,hx255_3⟩ (fun hHeld=>?_);refine with_tabW laws_FnSorted.tab19 laws_FnSorted.bits19 (fun HT_ HW_=>?_)
                      generalize wr.drew = w37 at HO_3 HO_4 HB HL254_3 HL255_3 HR254_3 HR255_3 hx254_0 hx254_1 hx254_2 hx254_3 hx255_0 hx255_1 hx255_2 hx255_3 hHeld ⊢;refine pu 0 61 ?_;refine pu 1 62 ?_;refine pu 2 63 ?_;refine pu 3 64 ?_;refine pu 4 65 ?_;refine pu 5 66 ?_;refine pu 6 67 ?_;refine pu 7 68 ?_;refine pu 8 69 ?_;refine pu 9 70 ?_;refine pu 10 71 ?_;refine pu 11 72 ?_;refine pu 12 73 ?_;refine pu 13 74 ?_;refine pu 15 76 ?_;refine pu 16 77 ?_;refine pu 17 78 ?_;refine pu 18 79 ?_;refine ta 14 75 hHeld ?_;refine ta 19 80 hHeld ?_
                      refine one_ (i:=20) (N:=some 81) #[true,true,true,true,true,true,true,true,true,true,true,true,true,true,true,true,true,true,true,true,true,false,false] rfl rfl (one_of HT_.out (by kernel_rfl)) (by decide) (fun K hK=>?_)
                      refine goes_ Try.func9 (by kernel_rfl) rfl #[.agg #[.int .i64 ((rd_T30 t247 x5_4).f0),.int .i64 ((rd_T30 t247 x5_4).f1),.string ((rd_T30 t247 x5_4).f2),.slice A254_3 ((rd_T30 t247 x5_4).f3).length c254_3],.agg #[.int .i64 ((rd_T30 t247 (ji32)).f0),.int .i64 ((rd_T30 t247 (ji32)).f1),.string ((rd_T30 t247 (ji32)).f2),.slice A255_3 ((rd_T30 t247 (ji32)).f3).length c255_3]] (by rfl) rfl rfl (by (try simp only [List.map_toArray,List.map_cons,List.map_nil]);first|done|(simp only [hji32];rfl)|rfl|(simp only [List.length_drop,List.length_take];rfl)) ?_
                      with_reducible refine (impl_LessTerm.calls k6 ((rd_T30 t247 x5_4).f0) ((rd_T30 t247 x5_4).f1) ((rd_T30 t247 x5_4).f2) _ _ ((rd_T30 t247 x5_4).f3) ((rd_T30 t247 (ji32)).f0) ((rd_T30 t247 (ji32)).f1) ((rd_T30 t247 (ji32)).f2) _ _ ((rd_T30 t247 (ji32)).f3) t256 _ ?side1 ?side2 ?side3 ?side4 A35.out).mono ?_
                      (case side1=>repeat (first|exact (by repeat (first|(with_reducible exact HR254_3.out)|(with_reducible refine Kd.C_alloc ?_ _)|(with_reducible refine Kd.C_drewN ?_ _)|(with_reducible refine Kd.C_drew ?_)|exact HR254_3.out))|(with_reducible refine Kd.C_alloc ?_ _)|(with_reducible refine Kd.C_drewN ?_ _)|(with_reducible refine Kd.C_drew ?_)))
                      (case side2=>exact HC254_3.out)
                      (case side3=>repeat (first|exact (by repeat (first|(with_reducible exact HR255_3.out)|(with_reducible refine Kd.C_alloc ?_ _)|(with_reducible refine Kd.C_drewN ?_ _)|(with_reducible refine Kd.C_drew ?_)|exact HR255_3.out))|(with_reducible refine Kd.C_alloc ?_ _)|(with_reducible refine Kd.C_drewN ?_ _)|(with_reducible refine Kd.C_drew ?_)))
                      (case side4=>exact HC255_3.out)
                      rintro e w38 ⟨rfl,hb⟩;have HS0_:=(hb.cell (World.block_lt_of_cell? _ _ (hHeld.1))).trans (hHeld.1);have HS1_:=(hb.cell (World.block_lt_of_cell? _ _ (hHeld.2.1))).trans (hHeld.2.1);have HS2_:=(hb.cell (World.block_lt_of_cell? _ _ (hHeld.2.2.1))).trans (hHeld.2.2.1);have HS3_:=(hb.cell (World.block_lt_of_cell? _ _ (hHeld.2.2.2.1))).trans (hHeld.2.2.2.1);have HS4_:=(hb.cell (World.block_lt_of_cell? _ _ (hHeld.2.2.2.2.1))).trans (hHeld.2.2.2.2.1);have HS5_:=(hb.cell (World.block_lt_of_cell? _ _ (hHeld.2.2.2.2.2.1))).trans (hHeld.2.2.2.2.2.1);have HS6_:=(hb.cell (World.block_lt_of_cell? _ _ (hHeld.2.2.2.2.2.2.1))).trans (hHeld.2.2.2.2.2.2.1);have HS7_:=(hb.cell (World.block_lt_of_cell? _ _ (hHeld.2.2.2.2.2.2.2))).trans (hHeld.2.2.2.2.2.2.2)
                      refine ⟨_,rfl,?_⟩
                      have n_:=ai (rwm HO_3 hb) <| ai (vwm HO_4 hb) <| ai (vwm HL254_3 hb) <| ai (vwm HL255_3 hb) <| ai (Aside0.mk (Kd.C_below (by repeat (first|(with_reducible exact HR254_3.out)|(with_reducible refine Kd.C_alloc ?_ _)|(with_reducible refine Kd.C_drewN ?_ _)|(with_reducible refine Kd.C_drew ?_)|exact HR254_3.out)) hb)) <| ai (Aside0.mk (Kd.C_below (by repeat (first|(with_reducible exact HR255_3.out)|(with_reducible refine Kd.C_alloc ?_ _)|(with_reducible refine Kd.C_drewN ?_ _)|(with_reducible refine Kd.C_drew ?_)|exact HR255_3.out)) hb)) <| bq HB hb;clear HO_3 HO_4 HL254_3 HL255_3 HR254_3 HR255_3 HB;obtain ⟨HO_3,HO_4,HL254_3,HL255_3,HR254_3,HR255_3,HB⟩:=n_;(try clear hb)
                      refine hK.out _ _ ⟨HS0_,HS1_,HS2_,HS3_,HS4_,HS5_,HS6_,HS7_⟩ (fun hHeld=>?_)
                      clear hK K
                      refine norm_ (a':=?_) ?_ ?_
                      rotate_left
                      ·show Act.put _ (some 81) _ = _
                       simp only [Act.put,List.setIfInBounds_toArray,List.set_cons_zero,List.set_cons_succ,i64_w,i32_w]
                       rfl
                      refine pu 21 82 ?_;refine pu 22 83 ?_
                      refine done_ (done_of HT_.out (by kernel_rfl)) ?_
                      by_cases c36:t256 = true
                      ·subst c36
                       have H1:(some false) = some r:=by rw [if_pos rfl] at H;exact H
                       clear H;have H:=H1;clear H1;obtain rfl:=Option.some.inj H
                       try go_wp2
                       go_ret
                       exact ⟨by first|rfl|(simp [errW_none,errW_some] <;> rfl)|(simp only [← hji32];first|rfl|(simp [errW_none,errW_some] <;> rfl))|(simp [*,errW_none,errW_some] <;> rfl),bl HB.out⟩
                      ·replace c36:=Bool.eq_false_iff.mpr c36
                       subst c36;have H1:(laws_FnSorted.l0 k6 t244 t247 (wrap64 (x5_4 + 1))) = some r:=by rw [if_neg (show ¬ (false = true) by decide)] at H;exact H
                       clear H;have H:=H1;clear H1;have H':=Aside0.mk H;clear H
                       try go_wp2
                       go_roundg k6
                       case measure=>have:=HJ2.out;have:=HJ6.out;have:=HJ18.out;have:=HK4.out;have:=HJ20.out;have:=HK6.out;omega
                       case rel=>exact ⟨(wrap64 (x5_4 + 1)),(cl2),H',⟨by have:=HJ2.out;have:=HJ6.out;have:=HJ18.out;have:=HK4.out;have:=HJ20.out;have:=HK6.out;omega⟩,⟨rk HO_3.out⟩,⟨vdm HO_4.out⟩,⟨bl HB.out⟩⟩
                     ·rw [if_neg c34] at H
                      exact absurd H (by simp)
                    ·rw [if_neg c33] at H
                     exact absurd H (by simp)
                   ·rw [if_neg c31] at H
                    exact absurd H (by simp)
                  ·rw [if_neg c30] at H
                   exact absurd H (by simp)
                 ·rw [if_neg c29] at H
                  have c29b0:decide (0 < x5_4) = false:=decide_eq_false c29;clear c29;have H':=Aside0.mk H;clear H
                  try go_wp2
                  have n_:=ai (Aside0.mk (Kd.R_drew HO_3.out)) <| ai (Aside0.mk (Kd.V_drew HO_4.out)) <| dh HB;clear HO_3 HO_4 HB;obtain ⟨HO_3,HO_4,HB⟩:=n_
                  refine start_ (n:=23) (S:=fun w'=>True) (ds:=[]) #[false,false,false,false,false,false,false,false,false,false,false,false,false,false,false,false,false,false,false,false,false,false,false] (by kernel_rfl) rfl rfl trivial (fun hHeld=>?_);refine with_tabW laws_FnSorted.tab19 laws_FnSorted.bits19 (fun HT_ HW_=>?_)
                  generalize wr.drew = w41 at HO_3 HO_4 HB hHeld ⊢;refine pu 0 61 ?_;refine pu 1 62 ?_;refine pu 2 63 ?_;refine pu 3 64 ?_;refine pu 4 65 ?_;refine pu 5 66 ?_;refine pu 6 67 ?_;refine pu 7 68 ?_;refine pu 8 69 ?_;refine pu 9 70 ?_;refine pu 10 71 ?_;refine pu 11 72 ?_;refine pu 12 73 ?_;refine pu 13 74 ?_;refine pu 14 75 ?_;refine pu 15 76 ?_;refine pu 16 77 ?_;refine pu 17 78 ?_;refine pu 18 79 ?_;refine pu 19 80 ?_;refine pu 20 81 ?_;refine pu 21 82 ?_;refine pu 22 83 ?_
                  refine done_ (done_of HT_.out (by kernel_rfl)) ?_
                  try go_wp2
                  go_roundg k6
                  case measure=>have:=HJ2.out;have:=HJ6.out;have:=HJ18.out;have:=HK4.out;have:=HJ20.out;have:=HK6.out;omega
                  case rel=>exact ⟨(wrap64 (x5_4 + 1)),(cl2),H',⟨by have:=HJ2.out;have:=HJ6.out;have:=HJ18.out;have:=HK4.out;have:=HJ20.out;have:=HK6.out;omega⟩,⟨rk HO_3.out⟩,⟨vdm HO_4.out⟩,⟨bl HB.out⟩⟩
               ·rw [if_neg c26] at H
                have c26b0:(x6_6 == x7_6) = false:=beq_eq_false_iff_ne.mpr c26;have c26b1:(x6_6 != x7_6) = true:=bne_iff_ne.mpr c26;obtain rfl:=Option.some.inj H
                try go_wp2
                have n_:=ai (Aside0.mk (Kd.R_drew HO_3.out)) <| ai (Aside0.mk (Kd.V_drew HO_4.out)) <| dh HB;clear HO_3 HO_4 HB;obtain ⟨HO_3,HO_4,HB⟩:=n_
                refine start_ (n:=23) (S:=fun w'=>True) (ds:=[]) #[false,false,false,false,false,false,false,false,false,false,false,false,false,false,false,false,false,false,false,false,false,false,false] (by kernel_rfl) rfl rfl trivial (fun hHeld=>?_);refine with_tabW laws_FnSorted.tab19 laws_FnSorted.bits19 (fun HT_ HW_=>?_)
                generalize wr.drew = w42 at HO_3 HO_4 HB hHeld ⊢;refine pu 0 61 ?_;refine pu 1 62 ?_;refine pu 2 63 ?_;refine pu 3 64 ?_;refine pu 4 65 ?_;refine pu 5 66 ?_;refine pu 6 67 ?_;refine pu 7 68 ?_;refine pu 8 69 ?_;refine pu 9 70 ?_;refine pu 10 71 ?_;refine pu 11 72 ?_;refine pu 12 73 ?_;refine pu 13 74 ?_;refine pu 14 75 ?_;refine pu 15 76 ?_;refine pu 16 77 ?_;refine pu 17 78 ?_;refine pu 18 79 ?_;refine pu 19 80 ?_;refine pu 20 81 ?_;refine pu 21 82 ?_;refine pu 22 83 ?_
                refine done_ (done_of HT_.out (by kernel_rfl)) ?_
                try go_wp2
                go_ret
                exact ⟨cl,bl HB.out⟩
             case rest =>
              clear HC24;(try clear HO_3);(try clear HO_4);(try clear HB);obtain ⟨kq,HA,HJ23,HO_3,HO_4,HB⟩:=hcut
              cases kq with
              | zero=>exact absurd HA.out (by simp [laws_FnSorted.j6])
              | succ kj23 =>
               have H:=HA.out;clear HA;simp only [laws_FnSorted.j6] at H
               by_cases c43:0≤x8_6
               ·rw [if_pos c43] at H
                have c43b0:decide (0≤x8_6) = true:=decide_eq_true c43;clear c43
                by_cases c44:x8_6 < (t244.length:Int)
                ·rw [if_pos c44] at H
                 have c44b0:decide (x8_6 < (t244.length:Int)) = true:=decide_eq_true c44;clear c44
                 by_cases c45:0≤x5_4
                 ·rw [if_pos c45] at H
                  have c45b0:decide (0≤x5_4) = true:=decide_eq_true c45;clear c45
                  by_cases c46:x5_4 < (t247.length:Int)
                  ·rw [if_pos c46] at H
                   have c46b0:decide (x5_4 < (t247.length:Int)) = true:=decide_eq_true c46;clear c46;replace H:=Option.bind_eq_some_iff.mp H;obtain ⟨t259,A470,H⟩:=H;replace H:(if t259 = true then (if x8_6 < (t247.length:Int) then ((impl_SameTerm.f kj23 ((rd_T30 t247 x8_6).f0) ((rd_T30 t247 x8_6).f1) ((rd_T30 t247 x8_6).f2) ((rd_T30 t247 x8_6).f3) ((rd_T30 t247 x5_4).f0) ((rd_T30 t247 x5_4).f1) ((rd_T30 t247 x5_4).f2) ((rd_T30 t247 x5_4).f3)).bind fun t262=>(if t262 = true then (laws_FnSorted.l1 kj23 t244 t247 x5_4 (wrap64 (x6_6 + 1)) (wrap64 (x7_6 + 1)) (wrap64 (x8_6 + 1))) else (laws_FnSorted.l1 kj23 t244 t247 x5_4 (wrap64 (x6_6 + 1)) x7_6 (wrap64 (x8_6 + 1))))) else (none)) else (if x8_6 < (t247.length:Int) then ((impl_SameTerm.f kj23 ((rd_T30 t247 x8_6).f0) ((rd_T30 t247 x8_6).f1) ((rd_T30 t247 x8_6).f2) ((rd_T30 t247 x8_6).f3) ((rd_T30 t247 x5_4).f0) ((rd_T30 t247 x5_4).f1) ((rd_T30 t247 x5_4).f2) ((rd_T30 t247 x5_4).f3)).bind fun t265=>(if t265 = true then (laws_FnSorted.l1 kj23 t244 t247 x5_4 x6_6 (wrap64 (x7_6 + 1)) (wrap64 (x8_6 + 1))) else (laws_FnSorted.l1 kj23 t244 t247 x5_4 x6_6 x7_6 (wrap64 (x8_6 + 1))))) else (none))) = some r:=H;have A47:=Aside0.mk A470;clear A470
                   by_cases c48:t259 = true
                   ·subst c48
                    have H1:(if x8_6 < (t247.length:Int) then ((impl_SameTerm.f kj23 ((rd_T30 t247 x8_6).f0) ((rd_T30 t247 x8_6).f1) ((rd_T30 t247 x8_6).f2) ((rd_T30 t247 x8_6).f3) ((rd_T30 t247 x5_4).f0) ((rd_T30 t247 x5_4).f1) ((rd_T30 t247 x5_4).f2) ((rd_T30 t247 x5_4).f3)).bind fun t262=>(if t262 = true then (laws_FnSorted.l1 kj23 t244 t247 x5_4 (wrap64 (x6_6 + 1)) (wrap64 (x7_6 + 1)) (wrap64 (x8_6 + 1))) else (laws_FnSorted.l1 kj23 t244 t247 x5_4 (wrap64 (x6_6 + 1)) x7_6 (wrap64 (x8_6 + 1))))) else (none)) = some r:=by rw [if_pos rfl] at H;exact H
                    clear H;have H:=H1;clear H1
                    by_cases c49:x8_6 < (t247.length:Int)
                    ·rw [if_pos c49] at H
                     have c49b0:decide (x8_6 < (t247.length:Int)) = true:=decide_eq_true c49;clear c49;replace H:=Option.bind_eq_some_iff.mp H;obtain ⟨t262,A500,H⟩:=H;replace H:(if t262 = true then (laws_FnSorted.l1 kj23 t244 t247 x5_4 (wrap64 (x6_6 + 1)) (wrap64 (x7_6 + 1)) (wrap64 (x8_6 + 1))) else (laws_FnSorted.l1 kj23 t244 t247 x5_4 (wrap64 (x6_6 + 1)) x7_6 (wrap64 (x8_6 + 1)))) = some r:=H;have A50:=Aside0.mk A500;clear A500
                     try go_wp2
                     have n_:=ai (Aside0.mk (Kd.R_drew HO_3.out)) <| ai (Aside0.mk (Kd.V_drew HO_4.out)) <| dh HB;clear HO_3 HO_4 HB;obtain ⟨HO_3,HO_4,HB⟩:=n_;have p257:0≤(x8_6:Int):=od;have q257:x8_6 < (t244.length:Int):=od;obtain ⟨ad257,A257_3,c257_3,e257,hx257_0,hx257_1,hx257_2,hx257_3,hl257_3,hi257_3⟩:=at_T30 (Kd.R_reads' HO_3.out).2.2 x8_6 p257 q257;cases e257;obtain ⟨ce257,hce257,hMe257,hcc257⟩:=Kd.R_get HO_3.out z30 x8_6 p257 (by first|exact q257|exact od|(have e_:=(Kd.R_reads' HO_3.out).1;omega));obtain ⟨ve257_3,rfl,ge257_3⟩:=k30_openM hMe257;have hv257_3:=hcc257 3 _ rfl;rw [add_field _ _ 3 (by omega)] at hv257_3;replace hv257_3:=Option.some.inj (hv257_3.symm.trans hx257_3);rw [hv257_3] at ge257_3;have HL257_3:=Aside0.mk (show Kd.R k30 30 _ _ _ _ ((rd_T30 t244 x8_6).f3) from ge257_3);clear hv257_3 ge257_3;clear hcc257 hce257;have HR257_3:=Aside0.mk hi257_3;have HC257_3:=Aside0.mk hl257_3;clear hi257_3 hl257_3;replace p257:=eq_true p257;replace q257:=eq_true q257;have p258:0≤(x5_4:Int):=od;have q258:x5_4 < (t247.length:Int):=od;obtain ⟨ad258,A258_3,c258_3,e258,hx258_0,hx258_1,hx258_2,hx258_3,hl258_3,hi258_3⟩:=at_T30 (Kd.V_reads' HO_4.out).2.2 x5_4 p258 q258;cases e258;obtain ⟨ce258,hce258,hMe258,hcc258⟩:=Kd.V_get HO_4.out z30 x5_4 p258 (by first|exact q258|exact od|(have e_:=(Kd.V_reads' HO_4.out).1;omega));obtain ⟨ua258_3,uc258_3,rfl,ul258_3,ge258_3⟩:=k30_openF hMe258;have hv258_3:=hcc258 3 _ rfl;rw [add_field _ _ 3 (by omega)] at hv258_3;replace hv258_3:=Option.some.inj (hv258_3.symm.trans hx258_3)
                     injection hv258_3 with hva_ hvn_ hvc_
                     rw [hva_] at ge258_3;rw [hvc_] at ul258_3;have HL258_3:=Aside0.mk (show Kd.V k30 30 _ w.heap.size _ _ ((rd_T30 t247 x5_4).f3) from Kd.V_mk ul258_3 ge258_3);clear hva_ hvn_ hvc_ ge258_3 ul258_3;clear hcc258 hce258;have HR258_3:=Aside0.mk hi258_3;have HC258_3:=Aside0.mk hl258_3;clear hi258_3 hl258_3;replace p258:=eq_true p258;replace q258:=eq_true q258
                     refine start_ (n:=9) (S:=fun w'=>w'.cell? (ad257.add ((x8_6).toNat * 4)) = some (.int .i64 ((rd_T30 t244 x8_6).f0))∧w'.cell? ⟨(ad257.add ((x8_6).toNat * 4)).block,(ad257.add ((x8_6).toNat * 4)).off + 1,none⟩ = some (.int .i64 ((rd_T30 t244 x8_6).f1))∧w'.cell? ⟨(ad257.add ((x8_6).toNat * 4)).block,(ad257.add ((x8_6).toNat * 4)).off + 2,none⟩ = some (.string ((rd_T30 t244 x8_6).f2))∧w'.cell? ⟨(ad257.add ((x8_6).toNat * 4)).block,(ad257.add ((x8_6).toNat * 4)).off + 3,none⟩ = some (.slice A257_3 ((rd_T30 t244 x8_6).f3).length c257_3)∧w'.cell? (ad258.add ((x5_4).toNat * 4)) = some (.int .i64 ((rd_T30 t247 x5_4).f0))∧w'.cell? ⟨(ad258.add ((x5_4).toNat * 4)).block,(ad258.add ((x5_4).toNat * 4)).off + 1,none⟩ = some (.int .i64 ((rd_T30 t247 x5_4).f1))∧w'.cell? ⟨(ad258.add ((x5_4).toNat * 4)).block,(ad258.add ((x5_4).toNat * 4)).off + 2,none⟩ = some (.string ((rd_T30 t247 x5_4).f2))∧w'.cell? ⟨(ad258.add ((x5_4).toNat * 4)).block,(ad258.add ((x5_4).toNat * 4)).off + 3,none⟩ = some (.slice A258_3 ((rd_T30 t247 x5_4).f3).length c258_3)) (ds:=[]) #[false,false,false,false,false,false,false,false,false] (by kernel_rfl) rfl rfl ⟨hx257_0,hx257_1,hx257_2,hx257_3,hx258_0,hx258_1,hx258_2,hx258_3⟩ (fun hHeld=>?_);refine with_tabW laws_FnSorted.tab15 laws_FnSorted.bits15 (fun HT_ HW_=>?_)
                     generalize wc.drew = w52 at HO_3 HO_4 HB HL257_3 HL258_3 HR257_3 HR258_3 hx257_0 hx257_1 hx257_2 hx257_3 hx258_0 hx258_1 hx258_2 hx258_3 hHeld ⊢;refine pu 0 39 ?_;refine pu 1 40 ?_;refine pu 2 41 ?_;refine pu 4 43 ?_;refine pu 5 44 ?_;refine pu 6 45 ?_;refine ta 3 42 hHeld ?_;refine ta 7 46 hHeld ?_
                     refine one_ (i:=8) (N:=some 47) #[true,true,true,true,true,true,true,true,true] rfl rfl (one_of HT_.out (by kernel_rfl)) (by decide) (fun K hK=>?_)
                     refine goes_ Try.func8 (by kernel_rfl) rfl #[.agg #[.int .i64 ((rd_T30 t244 x8_6).f0),.int .i64 ((rd_T30 t244 x8_6).f1),.string ((rd_T30 t244 x8_6).f2),.slice A257_3 ((rd_T30 t244 x8_6).f3).length c257_3],.agg #[.int .i64 ((rd_T30 t247 x5_4).f0),.int .i64 ((rd_T30 t247 x5_4).f1),.string ((rd_T30 t247 x5_4).f2),.slice A258_3 ((rd_T30 t247 x5_4).f3).length c258_3]] (by rfl) rfl rfl gs ?_
                     with_reducible refine (impl_SameTerm.calls kj23 ((rd_T30 t244 x8_6).f0) ((rd_T30 t244 x8_6).f1) ((rd_T30 t244 x8_6).f2) _ _ ((rd_T30 t244 x8_6).f3) ((rd_T30 t247 x5_4).f0) ((rd_T30 t247 x5_4).f1) ((rd_T30 t247 x5_4).f2) _ _ ((rd_T30 t247 x5_4).f3) true _ ?side1 ?side2 ?side3 ?side4 A47.out).mono ?_
                     (case side1=>repeat (first|exact (by repeat (first|(with_reducible exact HR257_3.out)|(with_reducible refine Kd.C_alloc ?_ _)|(with_reducible refine Kd.C_drewN ?_ _)|(with_reducible refine Kd.C_drew ?_)|exact HR257_3.out))|(with_reducible refine Kd.C_alloc ?_ _)|(with_reducible refine Kd.C_drewN ?_ _)|(with_reducible refine Kd.C_drew ?_)))
                     (case side2=>exact HC257_3.out)
                     (case side3=>repeat (first|exact (by repeat (first|(with_reducible exact HR258_3.out)|(with_reducible refine Kd.C_alloc ?_ _)|(with_reducible refine Kd.C_drewN ?_ _)|(with_reducible refine Kd.C_drew ?_)|exact HR258_3.out))|(with_reducible refine Kd.C_alloc ?_ _)|(with_reducible refine Kd.C_drewN ?_ _)|(with_reducible refine Kd.C_drew ?_)))
                     (case side4=>exact HC258_3.out)
                     rintro e w53 ⟨rfl,hb⟩;have HS0_:=(hb.cell (World.block_lt_of_cell? _ _ (hHeld.1))).trans (hHeld.1);have HS1_:=(hb.cell (World.block_lt_of_cell? _ _ (hHeld.2.1))).trans (hHeld.2.1);have HS2_:=(hb.cell (World.block_lt_of_cell? _ _ (hHeld.2.2.1))).trans (hHeld.2.2.1);have HS3_:=(hb.cell (World.block_lt_of_cell? _ _ (hHeld.2.2.2.1))).trans (hHeld.2.2.2.1);have HS4_:=(hb.cell (World.block_lt_of_cell? _ _ (hHeld.2.2.2.2.1))).trans (hHeld.2.2.2.2.1);have HS5_:=(hb.cell (World.block_lt_of_cell? _ _ (hHeld.2.2.2.2.2.1))).trans (hHeld.2.2.2.2.2.1);have HS6_:=(hb.cell (World.block_lt_of_cell? _ _ (hHeld.2.2.2.2.2.2.1))).trans (hHeld.2.2.2.2.2.2.1);have HS7_:=(hb.cell (World.block_lt_of_cell? _ _ (hHeld.2.2.2.2.2.2.2))).trans (hHeld.2.2.2.2.2.2.2)
                     refine ⟨_,rfl,?_⟩
                     have n_:=ai (rwm HO_3 hb) <| ai (vwm HO_4 hb) <| ai (rwm HL257_3 hb) <| ai (vwm HL258_3 hb) <| ai (Aside0.mk (Kd.C_below (by repeat (first|(with_reducible exact HR257_3.out)|(with_reducible refine Kd.C_alloc ?_ _)|(with_reducible refine Kd.C_drewN ?_ _)|(with_reducible refine Kd.C_drew ?_)|exact HR257_3.out)) hb)) <| ai (Aside0.mk (Kd.C_below (by repeat (first|(with_reducible exact HR258_3.out)|(with_reducible refine Kd.C_alloc ?_ _)|(with_reducible refine Kd.C_drewN ?_ _)|(with_reducible refine Kd.C_drew ?_)|exact HR258_3.out)) hb)) <| bq HB hb;clear HO_3 HO_4 HL257_3 HL258_3 HR257_3 HR258_3 HB;obtain ⟨HO_3,HO_4,HL257_3,HL258_3,HR257_3,HR258_3,HB⟩:=n_;(try clear hb)
                     refine hK.out _ _ ⟨HS0_,HS1_,HS2_,HS3_,HS4_,HS5_,HS6_,HS7_⟩ (fun hHeld=>?_)
                     clear hK K
                     refine norm_ (a':=?_) ?_ ?_
                     rotate_left
                     ·show Act.put _ (some 47) _ = _
                      simp only [Act.put,List.setIfInBounds_toArray,List.set_cons_zero,List.set_cons_succ,i64_w,i32_w]
                      rfl
                     refine done_ (done_of HT_.out (by kernel_rfl)) ?_
                     try go_wp2
                     have n_:=ai (Aside0.mk (Kd.R_drew HO_3.out)) <| ai (Aside0.mk (Kd.V_drew HO_4.out)) <| ai (Aside0.mk (Kd.R_drew HL257_3.out)) <| ai (Aside0.mk (Kd.V_drew HL258_3.out)) <| ai (Aside0.mk (Kd.C_drew HR257_3.out)) <| ai (Aside0.mk (Kd.C_drew HR258_3.out)) <| dh HB;clear HO_3 HO_4 HL257_3 HL258_3 HR257_3 HR258_3 HB;obtain ⟨HO_3,HO_4,HL257_3,HL258_3,HR257_3,HR258_3,HB⟩:=n_;have p260:0≤(x8_6:Int):=od;have q260:x8_6 < (t247.length:Int):=od;obtain ⟨ad260,A260_3,c260_3,e260,hx260_0,hx260_1,hx260_2,hx260_3,hl260_3,hi260_3⟩:=at_T30 (Kd.V_reads' HO_4.out).2.2 x8_6 p260 q260;obtain rfl:ad258 = ad260:=(by injection e260);obtain ⟨ce260,hce260,hMe260,hcc260⟩:=Kd.V_get HO_4.out z30 x8_6 p260 (by first|exact q260|exact od|(have e_:=(Kd.V_reads' HO_4.out).1;omega));obtain ⟨ua260_3,uc260_3,rfl,ul260_3,ge260_3⟩:=k30_openF hMe260;have hv260_3:=hcc260 3 _ rfl;rw [add_field _ _ 3 (by omega)] at hv260_3;replace hv260_3:=Option.some.inj (hv260_3.symm.trans hx260_3)
                     injection hv260_3 with hva_ hvn_ hvc_
                     rw [hva_] at ge260_3;rw [hvc_] at ul260_3;have HL260_3:=Aside0.mk (show Kd.V k30 30 _ w.heap.size _ _ ((rd_T30 t247 x8_6).f3) from Kd.V_mk ul260_3 ge260_3);clear hva_ hvn_ hvc_ ge260_3 ul260_3;clear hcc260 hce260;have HR260_3:=Aside0.mk hi260_3;have HC260_3:=Aside0.mk hl260_3;clear hi260_3 hl260_3;replace p260:=eq_true p260;replace q260:=eq_true q260;have p261:0≤(x5_4:Int):=od;have q261:x5_4 < (t247.length:Int):=od;obtain ⟨ad261,A261_3,c261_3,e261,hx261_0,hx261_1,hx261_2,hx261_3,hl261_3,hi261_3⟩:=at_T30 (Kd.V_reads' HO_4.out).2.2 x5_4 p261 q261;obtain rfl:ad258 = ad261:=(by injection e261);obtain ⟨ce261,hce261,hMe261,hcc261⟩:=Kd.V_get HO_4.out z30 x5_4 p261 (by first|exact q261|exact od|(have e_:=(Kd.V_reads' HO_4.out).1;omega));obtain ⟨ua261_3,uc261_3,rfl,ul261_3,ge261_3⟩:=k30_openF hMe261;have hv261_3:=hcc261 3 _ rfl;rw [add_field _ _ 3 (by omega)] at hv261_3;replace hv261_3:=Option.some.inj (hv261_3.symm.trans hx261_3)
                     injection hv261_3 with hva_ hvn_ hvc_
                     rw [hva_] at ge261_3;rw [hvc_] at ul261_3;have HL261_3:=Aside0.mk (show Kd.V k30 30 _ w.heap.size _ _ ((rd_T30 t247 x5_4).f3) from Kd.V_mk ul261_3 ge261_3);clear hva_ hvn_ hvc_ ge261_3 ul261_3;clear hcc261 hce261;have HR261_3:=Aside0.mk hi261_3;have HC261_3:=Aside0.mk hl261_3;clear hi261_3 hl261_3;replace p261:=eq_true p261;replace q261:=eq_true q261
                     refine start_ (n:=9) (S:=fun w'=>w'.cell? (ad258.add ((x8_6).toNat * 4)) = some (.int .i64 ((rd_T30 t247 x8_6).f0))∧w'.cell? ⟨(ad258.add ((x8_6).toNat * 4)).block,(ad258.add ((x8_6).toNat * 4)).off + 1,none⟩ = some (.int .i64 ((rd_T30 t247 x8_6).f1))∧w'.cell? ⟨(ad258.add ((x8_6).toNat * 4)).block,(ad258.add ((x8_6).toNat * 4)).off + 2,none⟩ = some (.string ((rd_T30 t247 x8_6).f2))∧w'.cell? ⟨(ad258.add ((x8_6).toNat * 4)).block,(ad258.add ((x8_6).toNat * 4)).off + 3,none⟩ = some (.slice A260_3 ((rd_T30 t247 x8_6).f3).length c260_3)∧w'.cell? (ad258.add ((x5_4).toNat * 4)) = some (.int .i64 ((rd_T30 t247 x5_4).f0))∧w'.cell? ⟨(ad258.add ((x5_4).toNat * 4)).block,(ad258.add ((x5_4).toNat * 4)).off + 1,none⟩ = some (.int .i64 ((rd_T30 t247 x5_4).f1))∧w'.cell? ⟨(ad258.add ((x5_4).toNat * 4)).block,(ad258.add ((x5_4).toNat * 4)).off + 2,none⟩ = some (.string ((rd_T30 t247 x5_4).f2))∧w'.cell? ⟨(ad258.add ((x5_4).toNat * 4)).block,(ad258.add ((x5_4).toNat * 4)).off + 3,none⟩ = some (.slice A261_3 ((rd_T30 t247 x5_4).f3).length c261_3)) (ds:=[]) #[false,false,false,false,false,false,false,false,false] (by kernel_rfl) rfl rfl ⟨hx260_0,hx260_1,hx260_2,hx260_3,hx261_0,hx261_1,hx261_2,hx261_3⟩ (fun hHeld=>?_);refine with_tabW laws_FnSorted.tab17 laws_FnSorted.bits17 (fun HT_ HW_=>?_)
                     generalize w53.drew = w54 at HO_3 HO_4 HL257_3 HL258_3 HR257_3 HR258_3 HB HL260_3 HL261_3 HR260_3 HR261_3 hx260_0 hx260_1 hx260_2 hx260_3 hx261_0 hx261_1 hx261_2 hx261_3 hHeld ⊢;refine pu 0 50 ?_;refine pu 1 51 ?_;refine pu 2 52 ?_;refine pu 4 54 ?_;refine pu 5 55 ?_;refine pu 6 56 ?_;refine ta 3 53 hHeld ?_;refine ta 7 57 hHeld ?_
                     refine one_ (i:=8) (N:=some 58) #[true,true,true,true,true,true,true,true,true] rfl rfl (one_of HT_.out (by kernel_rfl)) (by decide) (fun K hK=>?_)
                     refine goes_ Try.func8 (by kernel_rfl) rfl #[.agg #[.int .i64 ((rd_T30 t247 x8_6).f0),.int .i64 ((rd_T30 t247 x8_6).f1),.string ((rd_T30 t247 x8_6).f2),.slice A260_3 ((rd_T30 t247 x8_6).f3).length c260_3],.agg #[.int .i64 ((rd_T30 t247 x5_4).f0),.int .i64 ((rd_T30 t247 x5_4).f1),.string ((rd_T30 t247 x5_4).f2),.slice A261_3 ((rd_T30 t247 x5_4).f3).length c261_3]] (by rfl) rfl rfl gs ?_
                     with_reducible refine (impl_SameTerm.calls kj23 ((rd_T30 t247 x8_6).f0) ((rd_T30 t247 x8_6).f1) ((rd_T30 t247 x8_6).f2) _ _ ((rd_T30 t247 x8_6).f3) ((rd_T30 t247 x5_4).f0) ((rd_T30 t247 x5_4).f1) ((rd_T30 t247 x5_4).f2) _ _ ((rd_T30 t247 x5_4).f3) t262 _ ?side1 ?side2 ?side3 ?side4 A50.out).mono ?_
                     (case side1=>repeat (first|exact (by repeat (first|(with_reducible exact HR260_3.out)|(with_reducible refine Kd.C_alloc ?_ _)|(with_reducible refine Kd.C_drewN ?_ _)|(with_reducible refine Kd.C_drew ?_)|exact HR260_3.out))|(with_reducible refine Kd.C_alloc ?_ _)|(with_reducible refine Kd.C_drewN ?_ _)|(with_reducible refine Kd.C_drew ?_)))
                     (case side2=>exact HC260_3.out)
                     (case side3=>repeat (first|exact (by repeat (first|(with_reducible exact HR261_3.out)|(with_reducible refine Kd.C_alloc ?_ _)|(with_reducible refine Kd.C_drewN ?_ _)|(with_reducible refine Kd.C_drew ?_)|exact HR261_3.out))|(with_reducible refine Kd.C_alloc ?_ _)|(with_reducible refine Kd.C_drewN ?_ _)|(with_reducible refine Kd.C_drew ?_)))
                     (case side4=>exact HC261_3.out)
                     rintro e w55 ⟨rfl,hb⟩;have HS0_:=(hb.cell (World.block_lt_of_cell? _ _ (hHeld.1))).trans (hHeld.1);have HS1_:=(hb.cell (World.block_lt_of_cell? _ _ (hHeld.2.1))).trans (hHeld.2.1);have HS2_:=(hb.cell (World.block_lt_of_cell? _ _ (hHeld.2.2.1))).trans (hHeld.2.2.1);have HS3_:=(hb.cell (World.block_lt_of_cell? _ _ (hHeld.2.2.2.1))).trans (hHeld.2.2.2.1);have HS4_:=(hb.cell (World.block_lt_of_cell? _ _ (hHeld.2.2.2.2.1))).trans (hHeld.2.2.2.2.1);have HS5_:=(hb.cell (World.block_lt_of_cell? _ _ (hHeld.2.2.2.2.2.1))).trans (hHeld.2.2.2.2.2.1);have HS6_:=(hb.cell (World.block_lt_of_cell? _ _ (hHeld.2.2.2.2.2.2.1))).trans (hHeld.2.2.2.2.2.2.1);have HS7_:=(hb.cell (World.block_lt_of_cell? _ _ (hHeld.2.2.2.2.2.2.2))).trans (hHeld.2.2.2.2.2.2.2)
                     refine ⟨_,rfl,?_⟩
                     have n_:=ai (rwm HO_3 hb) <| ai (vwm HO_4 hb) <| ai (rwm HL257_3 hb) <| ai (vwm HL258_3 hb) <| ai (vwm HL260_3 hb) <| ai (vwm HL261_3 hb) <| ai (Aside0.mk (Kd.C_below (by repeat (first|(with_reducible exact HR257_3.out)|(with_reducible refine Kd.C_alloc ?_ _)|(with_reducible refine Kd.C_drewN ?_ _)|(with_reducible refine Kd.C_drew ?_)|exact HR257_3.out)) hb)) <| ai (Aside0.mk (Kd.C_below (by repeat (first|(with_reducible exact HR258_3.out)|(with_reducible refine Kd.C_alloc ?_ _)|(with_reducible refine Kd.C_drewN ?_ _)|(with_reducible refine Kd.C_drew ?_)|exact HR258_3.out)) hb)) <| ai (Aside0.mk (Kd.C_below (by repeat (first|(with_reducible exact HR260_3.out)|(with_reducible refine Kd.C_alloc ?_ _)|(with_reducible refine Kd.C_drewN ?_ _)|(with_reducible refine Kd.C_drew ?_)|exact HR260_3.out)) hb)) <| ai (Aside0.mk (Kd.C_below (by repeat (first|(with_reducible exact HR261_3.out)|(with_reducible refine Kd.C_alloc ?_ _)|(with_reducible refine Kd.C_drewN ?_ _)|(with_reducible refine Kd.C_drew ?_)|exact HR261_3.out)) hb)) <| bq HB hb;clear HO_3 HO_4 HL257_3 HL258_3 HL260_3 HL261_3 HR257_3 HR258_3 HR260_3 HR261_3 HB;obtain ⟨HO_3,HO_4,HL257_3,HL258_3,HL260_3,HL261_3,HR257_3,HR258_3,HR260_3,HR261_3,HB⟩:=n_;(try clear hb)
                     refine hK.out _ _ ⟨HS0_,HS1_,HS2_,HS3_,HS4_,HS5_,HS6_,HS7_⟩ (fun hHeld=>?_)
                     clear hK K
                     refine norm_ (a':=?_) ?_ ?_
                     rotate_left
                     ·show Act.put _ (some 58) _ = _
                      simp only [Act.put,List.setIfInBounds_toArray,List.set_cons_zero,List.set_cons_succ,i64_w,i32_w]
                      rfl
                     refine done_ (done_of HT_.out (by kernel_rfl)) ?_
                     by_cases c51:t262 = true
                     ·subst c51
                      have H1:(laws_FnSorted.l1 kj23 t244 t247 x5_4 (wrap64 (x6_6 + 1)) (wrap64 (x7_6 + 1)) (wrap64 (x8_6 + 1))) = some r:=by rw [if_pos rfl] at H;exact H
                      clear H;have H:=H1;clear H1;have H':=Aside0.mk H;clear H
                      try go_wp2
                      go_roundg kj23
                      case measure=>have:=HJ2.out;have:=HJ6.out;have:=HJ18.out;have:=HK4.out;have:=HJ20.out;have:=HK6.out;have:=HJ23.out;omega
                      case rel=>exact ⟨(wrap64 (x6_6 + 1)),(wrap64 (x7_6 + 1)),(wrap64 (x8_6 + 1)),(cl2),(cl2),(cl2),H',⟨by have:=HJ2.out;have:=HJ6.out;have:=HJ18.out;have:=HK4.out;have:=HJ20.out;have:=HK6.out;have:=HJ23.out;omega⟩,⟨rk HO_3.out⟩,⟨vdm HO_4.out⟩,⟨bl HB.out⟩⟩
                     ·replace c51:=Bool.eq_false_iff.mpr c51
                      subst c51;have H1:(laws_FnSorted.l1 kj23 t244 t247 x5_4 (wrap64 (x6_6 + 1)) x7_6 (wrap64 (x8_6 + 1))) = some r:=by rw [if_neg (show ¬ (false = true) by decide)] at H;exact H
                      clear H;have H:=H1;clear H1;have H':=Aside0.mk H;clear H
                      try go_wp2
                      go_roundg kj23
                      case measure=>have:=HJ2.out;have:=HJ6.out;have:=HJ18.out;have:=HK4.out;have:=HJ20.out;have:=HK6.out;have:=HJ23.out;omega
                      case rel=>exact ⟨(wrap64 (x6_6 + 1)),(x7_6),(wrap64 (x8_6 + 1)),(cl2),(cl2),(cl2),H',⟨by have:=HJ2.out;have:=HJ6.out;have:=HJ18.out;have:=HK4.out;have:=HJ20.out;have:=HK6.out;have:=HJ23.out;omega⟩,⟨rk HO_3.out⟩,⟨vdm HO_4.out⟩,⟨bl HB.out⟩⟩
                    ·rw [if_neg c49] at H
                     exact absurd H (by simp)
                   ·replace c48:=Bool.eq_false_iff.mpr c48
                    subst c48;have H1:(if x8_6 < (t247.length:Int) then ((impl_SameTerm.f kj23 ((rd_T30 t247 x8_6).f0) ((rd_T30 t247 x8_6).f1) ((rd_T30 t247 x8_6).f2) ((rd_T30 t247 x8_6).f3) ((rd_T30 t247 x5_4).f0) ((rd_T30 t247 x5_4).f1) ((rd_T30 t247 x5_4).f2) ((rd_T30 t247 x5_4).f3)).bind fun t265=>(if t265 = true then (laws_FnSorted.l1 kj23 t244 t247 x5_4 x6_6 (wrap64 (x7_6 + 1)) (wrap64 (x8_6 + 1))) else (laws_FnSorted.l1 kj23 t244 t247 x5_4 x6_6 x7_6 (wrap64 (x8_6 + 1))))) else (none)) = some r:=by rw [if_neg (show ¬ (false = true) by decide)] at H;exact H
                    clear H;have H:=H1;clear H1
                    by_cases c60:x8_6 < (t247.length:Int)
                    ·rw [if_pos c60] at H
                     have c60b0:decide (x8_6 < (t247.length:Int)) = true:=decide_eq_true c60;clear c60;replace H:=Option.bind_eq_some_iff.mp H;obtain ⟨t265,A610,H⟩:=H;replace H:(if t265 = true then (laws_FnSorted.l1 kj23 t244 t247 x5_4 x6_6 (wrap64 (x7_6 + 1)) (wrap64 (x8_6 + 1))) else (laws_FnSorted.l1 kj23 t244 t247 x5_4 x6_6 x7_6 (wrap64 (x8_6 + 1)))) = some r:=H;have A61:=Aside0.mk A610;clear A610
                     try go_wp2
                     have n_:=ai (Aside0.mk (Kd.R_drew HO_3.out)) <| ai (Aside0.mk (Kd.V_drew HO_4.out)) <| dh HB;clear HO_3 HO_4 HB;obtain ⟨HO_3,HO_4,HB⟩:=n_;have p257:0≤(x8_6:Int):=od;have q257:x8_6 < (t244.length:Int):=od;obtain ⟨ad257,A257_3,c257_3,e257,hx257_0,hx257_1,hx257_2,hx257_3,hl257_3,hi257_3⟩:=at_T30 (Kd.R_reads' HO_3.out).2.2 x8_6 p257 q257;cases e257;obtain ⟨ce257,hce257,hMe257,hcc257⟩:=Kd.R_get HO_3.out z30 x8_6 p257 (by first|exact q257|exact od|(have e_:=(Kd.R_reads' HO_3.out).1;omega));obtain ⟨ve257_3,rfl,ge257_3⟩:=k30_openM hMe257;have hv257_3:=hcc257 3 _ rfl;rw [add_field _ _ 3 (by omega)] at hv257_3;replace hv257_3:=Option.some.inj (hv257_3.symm.trans hx257_3);rw [hv257_3] at ge257_3;have HL257_3:=Aside0.mk (show Kd.R k30 30 _ _ _ _ ((rd_T30 t244 x8_6).f3) from ge257_3);clear hv257_3 ge257_3;clear hcc257 hce257;have HR257_3:=Aside0.mk hi257_3;have HC257_3:=Aside0.mk hl257_3;clear hi257_3 hl257_3;replace p257:=eq_true p257;replace q257:=eq_true q257;have p258:0≤(x5_4:Int):=od;have q258:x5_4 < (t247.length:Int):=od;obtain ⟨ad258,A258_3,c258_3,e258,hx258_0,hx258_1,hx258_2,hx258_3,hl258_3,hi258_3⟩:=at_T30 (Kd.V_reads' HO_4.out).2.2 x5_4 p258 q258;cases e258;obtain ⟨ce258,hce258,hMe258,hcc258⟩:=Kd.V_get HO_4.out z30 x5_4 p258 (by first|exact q258|exact od|(have e_:=(Kd.V_reads' HO_4.out).1;omega));obtain ⟨ua258_3,uc258_3,rfl,ul258_3,ge258_3⟩:=k30_openF hMe258;have hv258_3:=hcc258 3 _ rfl;rw [add_field _ _ 3 (by omega)] at hv258_3;replace hv258_3:=Option.some.inj (hv258_3.symm.trans hx258_3)
                     injection hv258_3 with hva_ hvn_ hvc_
                     rw [hva_] at ge258_3;rw [hvc_] at ul258_3;have HL258_3:=Aside0.mk (show Kd.V k30 30 _ w.heap.size _ _ ((rd_T30 t247 x5_4).f3) from Kd.V_mk ul258_3 ge258_3);clear hva_ hvn_ hvc_ ge258_3 ul258_3;clear hcc258 hce258;have HR258_3:=Aside0.mk hi258_3;have HC258_3:=Aside0.mk hl258_3;clear hi258_3 hl258_3;replace p258:=eq_true p258;replace q258:=eq_true q258
                     refine start_ (n:=9) (S:=fun w'=>w'.cell? (ad257.add ((x8_6).toNat * 4)) = some (.int .i64 ((rd_T30 t244 x8_6).f0))∧w'.cell? ⟨(ad257.add ((x8_6).toNat * 4)).block,(ad257.add ((x8_6).toNat * 4)).off + 1,none⟩ = some (.int .i64 ((rd_T30 t244 x8_6).f1))∧w'.cell? ⟨(ad257.add ((x8_6).toNat * 4)).block,(ad257.add ((x8_6).toNat * 4)).off + 2,none⟩ = some (.string ((rd_T30 t244 x8_6).f2))∧w'.cell? ⟨(ad257.add ((x8_6).toNat * 4)).block,(ad257.add ((x8_6).toNat * 4)).off + 3,none⟩ = some (.slice A257_3 ((rd_T30 t244 x8_6).f3).length c257_3)∧w'.cell? (ad258.add ((x5_4).toNat * 4)) = some (.int .i64 ((rd_T30 t247 x5_4).f0))∧w'.cell? ⟨(ad258.add ((x5_4).toNat * 4)).block,(ad258.add ((x5_4).toNat * 4)).off + 1,none⟩ = some (.int .i64 ((rd_T30 t247 x5_4).f1))∧w'.cell? ⟨(ad258.add ((x5_4).toNat * 4)).block,(ad258.add ((x5_4).toNat * 4)).off + 2,none⟩ = some (.string ((rd_T30 t247 x5_4).f2))∧w'.cell? ⟨(ad258.add ((x5_4).toNat * 4)).block,(ad258.add ((x5_4).toNat * 4)).off + 3,none⟩ = some (.slice A258_3 ((rd_T30 t247 x5_4).f3).length c258_3)) (ds:=[]) #[false,false,false,false,false,false,false,false,false] (by kernel_rfl) rfl rfl ⟨hx257_0,hx257_1,hx257_2,hx257_3,hx258_0,hx258_1,hx258_2,hx258_3⟩ (fun hHeld=>?_);refine with_tabW laws_FnSorted.tab15 laws_FnSorted.bits15 (fun HT_ HW_=>?_)
                     generalize wc.drew = w63 at HO_3 HO_4 HB HL257_3 HL258_3 HR257_3 HR258_3 hx257_0 hx257_1 hx257_2 hx257_3 hx258_0 hx258_1 hx258_2 hx258_3 hHeld ⊢;refine pu 0 39 ?_;refine pu 1 40 ?_;refine pu 2 41 ?_;refine pu 4 43 ?_;refine pu 5 44 ?_;refine pu 6 45 ?_;refine ta 3 42 hHeld ?_;refine ta 7 46 hHeld ?_
                     refine one_ (i:=8) (N:=some 47) #[true,true,true,true,true,true,true,true,true] rfl rfl (one_of HT_.out (by kernel_rfl)) (by decide) (fun K hK=>?_)
                     refine goes_ Try.func8 (by kernel_rfl) rfl #[.agg #[.int .i64 ((rd_T30 t244 x8_6).f0),.int .i64 ((rd_T30 t244 x8_6).f1),.string ((rd_T30 t244 x8_6).f2),.slice A257_3 ((rd_T30 t244 x8_6).f3).length c257_3],.agg #[.int .i64 ((rd_T30 t247 x5_4).f0),.int .i64 ((rd_T30 t247 x5_4).f1),.string ((rd_T30 t247 x5_4).f2),.slice A258_3 ((rd_T30 t247 x5_4).f3).length c258_3]] (by rfl) rfl rfl gs ?_
                     with_reducible refine (impl_SameTerm.calls kj23 ((rd_T30 t244 x8_6).f0) ((rd_T30 t244 x8_6).f1) ((rd_T30 t244 x8_6).f2) _ _ ((rd_T30 t244 x8_6).f3) ((rd_T30 t247 x5_4).f0) ((rd_T30 t247 x5_4).f1) ((rd_T30 t247 x5_4).f2) _ _ ((rd_T30 t247 x5_4).f3) false _ ?side1 ?side2 ?side3 ?side4 A47.out).mono ?_
                     (case side1=>repeat (first|exact (by repeat (first|(with_reducible exact HR257_3.out)|(with_reducible refine Kd.C_alloc ?_ _)|(with_reducible refine Kd.C_drewN ?_ _)|(with_reducible refine Kd.C_drew ?_)|exact HR257_3.out))|(with_reducible refine Kd.C_alloc ?_ _)|(with_reducible refine Kd.C_drewN ?_ _)|(with_reducible refine Kd.C_drew ?_)))
                     (case side2=>exact HC257_3.out)
                     (case side3=>repeat (first|exact (by repeat (first|(with_reducible exact HR258_3.out)|(with_reducible refine Kd.C_alloc ?_ _)|(with_reducible refine Kd.C_drewN ?_ _)|(with_reducible refine Kd.C_drew ?_)|exact HR258_3.out))|(with_reducible refine Kd.C_alloc ?_ _)|(with_reducible refine Kd.C_drewN ?_ _)|(with_reducible refine Kd.C_drew ?_)))
                     (case side4=>exact HC258_3.out)
                     rintro e w64 ⟨rfl,hb⟩;have HS0_:=(hb.cell (World.block_lt_of_cell? _ _ (hHeld.1))).trans (hHeld.1);have HS1_:=(hb.cell (World.block_lt_of_cell? _ _ (hHeld.2.1))).trans (hHeld.2.1);have HS2_:=(hb.cell (World.block_lt_of_cell? _ _ (hHeld.2.2.1))).trans (hHeld.2.2.1);have HS3_:=(hb.cell (World.block_lt_of_cell? _ _ (hHeld.2.2.2.1))).trans (hHeld.2.2.2.1);have HS4_:=(hb.cell (World.block_lt_of_cell? _ _ (hHeld.2.2.2.2.1))).trans (hHeld.2.2.2.2.1);have HS5_:=(hb.cell (World.block_lt_of_cell? _ _ (hHeld.2.2.2.2.2.1))).trans (hHeld.2.2.2.2.2.1);have HS6_:=(hb.cell (World.block_lt_of_cell? _ _ (hHeld.2.2.2.2.2.2.1))).trans (hHeld.2.2.2.2.2.2.1);have HS7_:=(hb.cell (World.block_lt_of_cell? _ _ (hHeld.2.2.2.2.2.2.2))).trans (hHeld.2.2.2.2.2.2.2)
                     refine ⟨_,rfl,?_⟩
                     have n_:=ai (rwm HO_3 hb) <| ai (vwm HO_4 hb) <| ai (rwm HL257_3 hb) <| ai (vwm HL258_3 hb) <| ai (Aside0.mk (Kd.C_below (by repeat (first|(with_reducible exact HR257_3.out)|(with_reducible refine Kd.C_alloc ?_ _)|(with_reducible refine Kd.C_drewN ?_ _)|(with_reducible refine Kd.C_drew ?_)|exact HR257_3.out)) hb)) <| ai (Aside0.mk (Kd.C_below (by repeat (first|(with_reducible exact HR258_3.out)|(with_reducible refine Kd.C_alloc ?_ _)|(with_reducible refine Kd.C_drewN ?_ _)|(with_reducible refine Kd.C_drew ?_)|exact HR258_3.out)) hb)) <| bq HB hb;clear HO_3 HO_4 HL257_3 HL258_3 HR257_3 HR258_3 HB;obtain ⟨HO_3,HO_4,HL257_3,HL258_3,HR257_3,HR258_3,HB⟩:=n_;(try clear hb)
                     refine hK.out _ _ ⟨HS0_,HS1_,HS2_,HS3_,HS4_,HS5_,HS6_,HS7_⟩ (fun hHeld=>?_)
                     clear hK K
                     refine norm_ (a':=?_) ?_ ?_
                     rotate_left
                     ·show Act.put _ (some 47) _ = _
                      simp only [Act.put,List.setIfInBounds_toArray,List.set_cons_zero,List.set_cons_succ,i64_w,i32_w]
                      rfl
                     refine done_ (done_of HT_.out (by kernel_rfl)) ?_
                     try go_wp2
                     have n_:=ai (Aside0.mk (Kd.R_drew HO_3.out)) <| ai (Aside0.mk (Kd.V_drew HO_4.out)) <| ai (Aside0.mk (Kd.R_drew HL257_3.out)) <| ai (Aside0.mk (Kd.V_drew HL258_3.out)) <| ai (Aside0.mk (Kd.C_drew HR257_3.out)) <| ai (Aside0.mk (Kd.C_drew HR258_3.out)) <| dh HB;clear HO_3 HO_4 HL257_3 HL258_3 HR257_3 HR258_3 HB;obtain ⟨HO_3,HO_4,HL257_3,HL258_3,HR257_3,HR258_3,HB⟩:=n_;have p263:0≤(x8_6:Int):=od;have q263:x8_6 < (t247.length:Int):=od;obtain ⟨ad263,A263_3,c263_3,e263,hx263_0,hx263_1,hx263_2,hx263_3,hl263_3,hi263_3⟩:=at_T30 (Kd.V_reads' HO_4.out).2.2 x8_6 p263 q263;obtain rfl:ad258 = ad263:=(by injection e263);obtain ⟨ce263,hce263,hMe263,hcc263⟩:=Kd.V_get HO_4.out z30 x8_6 p263 (by first|exact q263|exact od|(have e_:=(Kd.V_reads' HO_4.out).1;omega));obtain ⟨ua263_3,uc263_3,rfl,ul263_3,ge263_3⟩:=k30_openF hMe263;have hv263_3:=hcc263 3 _ rfl;rw [add_field _ _ 3 (by omega)] at hv263_3;replace hv263_3:=Option.some.inj (hv263_3.symm.trans hx263_3)
                     injection hv263_3 with hva_ hvn_ hvc_
                     rw [hva_] at ge263_3;rw [hvc_] at ul263_3;have HL263_3:=Aside0.mk (show Kd.V k30 30 _ w.heap.size _ _ ((rd_T30 t247 x8_6).f3) from Kd.V_mk ul263_3 ge263_3);clear hva_ hvn_ hvc_ ge263_3 ul263_3;clear hcc263 hce263;have HR263_3:=Aside0.mk hi263_3;have HC263_3:=Aside0.mk hl263_3;clear hi263_3 hl263_3;replace p263:=eq_true p263;replace q263:=eq_true q263;have p264:0≤(x5_4:Int):=od;have q264:x5_4 < (t247.length:Int):=od;obtain ⟨ad264,A264_3,c264_3,e264,hx264_0,hx264_1,hx264_2,hx264_3,hl264_3,hi264_3⟩:=at_T30 (Kd.V_reads' HO_4.out).2.2 x5_4 p264 q264;obtain rfl:ad258 = ad264:=(by injection e264);obtain ⟨ce264,hce264,hMe264,hcc264⟩:=Kd.V_get HO_4.out z30 x5_4 p264 (by first|exact q264|exact od|(have e_:=(Kd.V_reads' HO_4.out).1;omega));obtain ⟨ua264_3,uc264_3,rfl,ul264_3,ge264_3⟩:=k30_openF hMe264;have hv264_3:=hcc264 3 _ rfl;rw [add_field _ _ 3 (by omega)] at hv264_3;replace hv264_3:=Option.some.inj (hv264_3.symm.trans hx264_3)
                     injection hv264_3 with hva_ hvn_ hvc_
                     rw [hva_] at ge264_3;rw [hvc_] at ul264_3;have HL264_3:=Aside0.mk (show Kd.V k30 30 _ w.heap.size _ _ ((rd_T30 t247 x5_4).f3) from Kd.V_mk ul264_3 ge264_3);clear hva_ hvn_ hvc_ ge264_3 ul264_3;clear hcc264 hce264;have HR264_3:=Aside0.mk hi264_3;have HC264_3:=Aside0.mk hl264_3;clear hi264_3 hl264_3;replace p264:=eq_true p264;replace q264:=eq_true q264
                     refine start_ (n:=9) (S:=fun w'=>w'.cell? (ad258.add ((x8_6).toNat * 4)) = some (.int .i64 ((rd_T30 t247 x8_6).f0))∧w'.cell? ⟨(ad258.add ((x8_6).toNat * 4)).block,(ad258.add ((x8_6).toNat * 4)).off + 1,none⟩ = some (.int .i64 ((rd_T30 t247 x8_6).f1))∧w'.cell? ⟨(ad258.add ((x8_6).toNat * 4)).block,(ad258.add ((x8_6).toNat * 4)).off + 2,none⟩ = some (.string ((rd_T30 t247 x8_6).f2))∧w'.cell? ⟨(ad258.add ((x8_6).toNat * 4)).block,(ad258.add ((x8_6).toNat * 4)).off + 3,none⟩ = some (.slice A263_3 ((rd_T30 t247 x8_6).f3).length c263_3)∧w'.cell? (ad258.add ((x5_4).toNat * 4)) = some (.int .i64 ((rd_T30 t247 x5_4).f0))∧w'.cell? ⟨(ad258.add ((x5_4).toNat * 4)).block,(ad258.add ((x5_4).toNat * 4)).off + 1,none⟩ = some (.int .i64 ((rd_T30 t247 x5_4).f1))∧w'.cell? ⟨(ad258.add ((x5_4).toNat * 4)).block,(ad258.add ((x5_4).toNat * 4)).off + 2,none⟩ = some (.string ((rd_T30 t247 x5_4).f2))∧w'.cell? ⟨(ad258.add ((x5_4).toNat * 4)).block,(ad258.add ((x5_4).toNat * 4)).off + 3,none⟩ = some (.slice A264_3 ((rd_T30 t247 x5_4).f3).length c264_3)) (ds:=[]) #[false,false,false,false,false,false,false,false,false] (by kernel_rfl) rfl rfl ⟨hx263_0,hx263_1,hx263_2,hx263_3,hx264_0,hx264_1,hx264_2,hx264_3⟩ (fun hHeld=>?_);refine with_tabW laws_FnSorted.tab17 laws_FnSorted.bits17 (fun HT_ HW_=>?_)
                     generalize w64.drew = w65 at HO_3 HO_4 HL257_3 HL258_3 HR257_3 HR258_3 HB HL263_3 HL264_3 HR263_3 HR264_3 hx263_0 hx263_1 hx263_2 hx263_3 hx264_0 hx264_1 hx264_2 hx264_3 hHeld ⊢;refine pu 0 50 ?_;refine pu 1 51 ?_;refine pu 2 52 ?_;refine pu 4 54 ?_;refine pu 5 55 ?_;refine pu 6 56 ?_;refine ta 3 53 hHeld ?_;refine ta 7 57 hHeld ?_
                     refine one_ (i:=8) (N:=some 58) #[true,true,true,true,true,true,true,true,true] rfl rfl (one_of HT_.out (by kernel_rfl)) (by decide) (fun K hK=>?_)
                     refine goes_ Try.func8 (by kernel_rfl) rfl #[.agg #[.int .i64 ((rd_T30 t247 x8_6).f0),.int .i64 ((rd_T30 t247 x8_6).f1),.string ((rd_T30 t247 x8_6).f2),.slice A263_3 ((rd_T30 t247 x8_6).f3).length c263_3],.agg #[.int .i64 ((rd_T30 t247 x5_4).f0),.int .i64 ((rd_T30 t247 x5_4).f1),.string ((rd_T30 t247 x5_4).f2),.slice A264_3 ((rd_T30 t247 x5_4).f3).length c264_3]] (by rfl) rfl rfl gs ?_
                     with_reducible refine (impl_SameTerm.calls kj23 ((rd_T30 t247 x8_6).f0) ((rd_T30 t247 x8_6).f1) ((rd_T30 t247 x8_6).f2) _ _ ((rd_T30 t247 x8_6).f3) ((rd_T30 t247 x5_4).f0) ((rd_T30 t247 x5_4).f1) ((rd_T30 t247 x5_4).f2) _ _ ((rd_T30 t247 x5_4).f3) t265 _ ?side1 ?side2 ?side3 ?side4 A61.out).mono ?_
                     (case side1=>repeat (first|exact (by repeat (first|(with_reducible exact HR263_3.out)|(with_reducible refine Kd.C_alloc ?_ _)|(with_reducible refine Kd.C_drewN ?_ _)|(with_reducible refine Kd.C_drew ?_)|exact HR263_3.out))|(with_reducible refine Kd.C_alloc ?_ _)|(with_reducible refine Kd.C_drewN ?_ _)|(with_reducible refine Kd.C_drew ?_)))
                     (case side2=>exact HC263_3.out)
                     (case side3=>repeat (first|exact (by repeat (first|(with_reducible exact HR264_3.out)|(with_reducible refine Kd.C_alloc ?_ _)|(with_reducible refine Kd.C_drewN ?_ _)|(with_reducible refine Kd.C_drew ?_)|exact HR264_3.out))|(with_reducible refine Kd.C_alloc ?_ _)|(with_reducible refine Kd.C_drewN ?_ _)|(with_reducible refine Kd.C_drew ?_)))
                     (case side4=>exact HC264_3.out)
                     rintro e w66 ⟨rfl,hb⟩;have HS0_:=(hb.cell (World.block_lt_of_cell? _ _ (hHeld.1))).trans (hHeld.1);have HS1_:=(hb.cell (World.block_lt_of_cell? _ _ (hHeld.2.1))).trans (hHeld.2.1);have HS2_:=(hb.cell (World.block_lt_of_cell? _ _ (hHeld.2.2.1))).trans (hHeld.2.2.1);have HS3_:=(hb.cell (World.block_lt_of_cell? _ _ (hHeld.2.2.2.1))).trans (hHeld.2.2.2.1);have HS4_:=(hb.cell (World.block_lt_of_cell? _ _ (hHeld.2.2.2.2.1))).trans (hHeld.2.2.2.2.1);have HS5_:=(hb.cell (World.block_lt_of_cell? _ _ (hHeld.2.2.2.2.2.1))).trans (hHeld.2.2.2.2.2.1);have HS6_:=(hb.cell (World.block_lt_of_cell? _ _ (hHeld.2.2.2.2.2.2.1))).trans (hHeld.2.2.2.2.2.2.1);have HS7_:=(hb.cell (World.block_lt_of_cell? _ _ (hHeld.2.2.2.2.2.2.2))).trans (hHeld.2.2.2.2.2.2.2)
                     refine ⟨_,rfl,?_⟩
                     have n_:=ai (rwm HO_3 hb) <| ai (vwm HO_4 hb) <| ai (rwm HL257_3 hb) <| ai (vwm HL258_3 hb) <| ai (vwm HL263_3 hb) <| ai (vwm HL264_3 hb) <| ai (Aside0.mk (Kd.C_below (by repeat (first|(with_reducible exact HR257_3.out)|(with_reducible refine Kd.C_alloc ?_ _)|(with_reducible refine Kd.C_drewN ?_ _)|(with_reducible refine Kd.C_drew ?_)|exact HR257_3.out)) hb)) <| ai (Aside0.mk (Kd.C_below (by repeat (first|(with_reducible exact HR258_3.out)|(with_reducible refine Kd.C_alloc ?_ _)|(with_reducible refine Kd.C_drewN ?_ _)|(with_reducible refine Kd.C_drew ?_)|exact HR258_3.out)) hb)) <| ai (Aside0.mk (Kd.C_below (by repeat (first|(with_reducible exact HR263_3.out)|(with_reducible refine Kd.C_alloc ?_ _)|(with_reducible refine Kd.C_drewN ?_ _)|(with_reducible refine Kd.C_drew ?_)|exact HR263_3.out)) hb)) <| ai (Aside0.mk (Kd.C_below (by repeat (first|(with_reducible exact HR264_3.out)|(with_reducible refine Kd.C_alloc ?_ _)|(with_reducible refine Kd.C_drewN ?_ _)|(with_reducible refine Kd.C_drew ?_)|exact HR264_3.out)) hb)) <| bq HB hb;clear HO_3 HO_4 HL257_3 HL258_3 HL263_3 HL264_3 HR257_3 HR258_3 HR263_3 HR264_3 HB;obtain ⟨HO_3,HO_4,HL257_3,HL258_3,HL263_3,HL264_3,HR257_3,HR258_3,HR263_3,HR264_3,HB⟩:=n_;(try clear hb)
                     refine hK.out _ _ ⟨HS0_,HS1_,HS2_,HS3_,HS4_,HS5_,HS6_,HS7_⟩ (fun hHeld=>?_)
                     clear hK K
                     refine norm_ (a':=?_) ?_ ?_
                     rotate_left
                     ·show Act.put _ (some 58) _ = _
                      simp only [Act.put,List.setIfInBounds_toArray,List.set_cons_zero,List.set_cons_succ,i64_w,i32_w]
                      rfl
                     refine done_ (done_of HT_.out (by kernel_rfl)) ?_
                     by_cases c62:t265 = true
                     ·subst c62
                      have H1:(laws_FnSorted.l1 kj23 t244 t247 x5_4 x6_6 (wrap64 (x7_6 + 1)) (wrap64 (x8_6 + 1))) = some r:=by rw [if_pos rfl] at H;exact H
                      clear H;have H:=H1;clear H1;have H':=Aside0.mk H;clear H
                      try go_wp2
                      go_roundg kj23
                      case measure=>have:=HJ2.out;have:=HJ6.out;have:=HJ18.out;have:=HK4.out;have:=HJ20.out;have:=HK6.out;have:=HJ23.out;omega
                      case rel=>exact ⟨(x6_6),(wrap64 (x7_6 + 1)),(wrap64 (x8_6 + 1)),(cl2),(cl2),(cl2),H',⟨by have:=HJ2.out;have:=HJ6.out;have:=HJ18.out;have:=HK4.out;have:=HJ20.out;have:=HK6.out;have:=HJ23.out;omega⟩,⟨rk HO_3.out⟩,⟨vdm HO_4.out⟩,⟨bl HB.out⟩⟩
                     ·replace c62:=Bool.eq_false_iff.mpr c62
                      subst c62;have H1:(laws_FnSorted.l1 kj23 t244 t247 x5_4 x6_6 x7_6 (wrap64 (x8_6 + 1))) = some r:=by rw [if_neg (show ¬ (false = true) by decide)] at H;exact H
                      clear H;have H:=H1;clear H1;have H':=Aside0.mk H;clear H
                      try go_wp2
                      go_roundg kj23
                      case measure=>have:=HJ2.out;have:=HJ6.out;have:=HJ18.out;have:=HK4.out;have:=HJ20.out;have:=HK6.out;have:=HJ23.out;omega
                      case rel=>exact ⟨(x6_6),(x7_6),(wrap64 (x8_6 + 1)),(cl2),(cl2),(cl2),H',⟨by have:=HJ2.out;have:=HJ6.out;have:=HJ18.out;have:=HK4.out;have:=HJ20.out;have:=HK6.out;have:=HJ23.out;omega⟩,⟨rk HO_3.out⟩,⟨vdm HO_4.out⟩,⟨bl HB.out⟩⟩
                    ·rw [if_neg c60] at H
                     exact absurd H (by simp)
                  ·rw [if_neg c46] at H
                   exact absurd H (by simp)
                 ·rw [if_neg c45] at H
                  exact absurd H (by simp)
                ·rw [if_neg c44] at H
                 exact absurd H (by simp)
               ·rw [if_neg c43] at H
                exact absurd H (by simp)

/-- THE ONE PURE STATEMENT of laws_FnSorted: yours. -/
def laws_FnSorted.Pure:Prop:=∀ (l0:List Int),l0.length≤maxLen → l0.length * 1≤140737488351232 → (∀ x ∈ l0,(Lit.int .u8 x).wf = true) → ∃ k,laws_FnSorted.f k l0 = some true
theorem laws_FnSorted.walk (P:laws_FnSorted.Pure) (a0:Option Addr) (len0 cap0:Nat) (z0:List Int) (w:World) (w0:(a0 = none∧len0 = 0∧cap0 = 0∧z0 = [])∨∃ x,a0 = some x∧len0≤cap0∧cap0≤maxLen∧z0.length = cap0∧(∀ i,i < z0.length → w.cell? (x.add i) = some (.int .u8 (z0.getD i 0)))∧∀ n ∈ z0,(Lit.int .u8 n).wf = true) (y0:len0 * 1≤140737488351232) :
  Calls Try.prog 3 #[.slice a0 len0 cap0] w fun e w'=>e = .returned (.bool true)∧Below w.heap.size w w':=by
 obtain ⟨l0,rfl,hr0,hm0,hw0,hc0⟩:=ReadsInt.ofRowC w0;obtain ⟨k,h⟩:=P l0 hm0 y0 hw0
 refine (laws_FnSorted.calls k _ _ l0 true w (Kd.C_of_reads (d:=(0:Int)) (h1:=fun _=>rfl) hr0) hc0 h).mono ?_
 rintro e w' ⟨rfl,hd⟩
 exact ⟨rfl,hd⟩

end Go.Proofs.Ytkpompobnmdneaa.QFnSorted
