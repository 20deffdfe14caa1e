-- Written by a program of this workplace (print2.py) for this claim, over the print's words.
import Derived.Test.YteifhhbaiobioaaQFnExactPatFitsx0
import Derived.Test.YteifhhbaiobioaaQFnExactPatFitsx1
import Derived.Test.YteifhhbaiobioaaQFnExactPatFitsx3
import Derived.Test.YteifhhbaiobioaaQFnExactPatFitsx4
import Derived.Test.YteifhhbaiobioaaQFnExactPatFitsx7
namespace Go.Proofs.Yteifhhbaiobioaa.QFnExactPatFits
open Go.RowKit Go.Proofs.YteifhhbaiobioaaW.PrintWords Go.Proofs.YteifhhbaiobioaaW.PrintLast Go.Proofs.YteifhhbaiobioaaW.PrintMore
attribute [local go_sem] max2_int min2_int max_two min_two max_three min_three max_four min_four   -- for this text's walks alone
set_option linter.unusedVariables false
set_option linter.unusedSimpArgs false

/-! ### laws_FnExactPatFits: function 3 -/
def laws_FnExactPatFits.j0 : Nat → Int → Int → Int → ByteArray → List (S24) → Option (Bool)
  | 0,_,_,_,_,_ => none
  | k + 1,x1,x210000,x210001,x210002,x210003 => (laws_toPat.f k x210000 x210001 x210002 x210003).bind fun bt211 => ((spec_PatFits.f k bt211.1 bt211.2.1 bt211.2.2.1 bt211.2.2.2 x1).bind fun t217 => ((laws_toPat.f k x210000 x210001 x210002 x210003).bind fun bt218 => ((impl_PatFits.f k bt218.1 bt218.2.1 bt218.2.2.1 bt218.2.2.2 x1).bind fun t225 => (if (t225 != t217) = true then (some false) else ((laws_toPat.f k x210000 x210001 x210002 x210003).bind fun bt226 => ((laws_eqPat.f k bt218.1 bt218.2.1 bt218.2.2.1 bt218.2.2.2 bt226.1 bt226.2.1 bt226.2.2.1 bt226.2.2.2).bind fun t232 => (if t232 = true then (some true) else (some false))))))))
def laws_FnExactPatFits.f (k : Nat) (a0_0 : Int) (a0_1 : Int) (a0_2 : ByteArray) (l0_3 : List (S24)) (a1 : Int) : Option (Bool) := (laws_szPat.f k a0_0 a0_1 a0_2 l0_3 1048576).bind fun t210 => (if t210 < 0 then (some true) else (laws_FnExactPatFits.j0 k a1 a0_0 a0_1 a0_2 l0_3))
theorem laws_FnExactPatFits.mono_l : ∀ k,(∀ y0 y1 y2 y3 y4,LeO (laws_FnExactPatFits.j0 k y0 y1 y2 y3 y4) (laws_FnExactPatFits.j0 (k + 1) y0 y1 y2 y3 y4))
  | 0 => fun _ _ _ _ _ r h => by simp [laws_FnExactPatFits.j0] at h
  | k + 1 => by
    have ih0 := laws_FnExactPatFits.mono_l k
    · intro y0 y1 y2 y3 y4
      unfold laws_FnExactPatFits.j0
      repeat' first
      | (with_reducible exact ih0 _ _ _ _ _)
      | (with_reducible exact impl_PatFits.mono _ _ _ _ _ _)
      | (with_reducible exact laws_eqPat.mono _ _ _ _ _ _ _ _ _)
      | (with_reducible exact laws_szPat.mono _ _ _ _ _ _)
      | (with_reducible exact laws_toPat.mono _ _ _ _ _)
      | (with_reducible exact spec_PatFits.mono _ _ _ _ _ _)
      | (with_reducible exact LeO.refl _)
      | (with_reducible exact LeO.none _)
      | (with_reducible refine LeO.ite ?_ ?_)
      | (with_reducible refine LeO.bind ?_ (fun _ => ?_))
      | exact ih0 _ _ _ _ _
      | exact impl_PatFits.mono _ _ _ _ _ _
      | exact laws_eqPat.mono _ _ _ _ _ _ _ _ _
      | exact laws_szPat.mono _ _ _ _ _ _
      | exact laws_toPat.mono _ _ _ _ _
      | exact spec_PatFits.mono _ _ _ _ _ _
      | exact LeO.none _
      | refine LeO.ite ?_ ?_
      | refine LeO.bind ?_ (fun _ => ?_)
theorem laws_FnExactPatFits.mono : ∀ a0 a1 a2 a3 a4 k,LeO (laws_FnExactPatFits.f k a0 a1 a2 a3 a4) (laws_FnExactPatFits.f (k + 1) a0 a1 a2 a3 a4) := by
  intro a0 a1 a2 a3 a4 k
  have ih0 := laws_FnExactPatFits.mono_l k
  unfold laws_FnExactPatFits.f
  repeat' first
      | (with_reducible exact ih0 _ _ _ _ _)
      | (with_reducible exact impl_PatFits.mono _ _ _ _ _ _)
      | (with_reducible exact laws_eqPat.mono _ _ _ _ _ _ _ _ _)
      | (with_reducible exact laws_szPat.mono _ _ _ _ _ _)
      | (with_reducible exact laws_toPat.mono _ _ _ _ _)
      | (with_reducible exact spec_PatFits.mono _ _ _ _ _ _)
      | (with_reducible exact LeO.refl _)
      | (with_reducible exact LeO.none _)
      | (with_reducible refine LeO.ite ?_ ?_)
      | (with_reducible refine LeO.bind ?_ (fun _ => ?_))
      | exact ih0 _ _ _ _ _
      | exact impl_PatFits.mono _ _ _ _ _ _
      | exact laws_eqPat.mono _ _ _ _ _ _ _ _ _
      | exact laws_szPat.mono _ _ _ _ _ _
      | exact laws_toPat.mono _ _ _ _ _
      | exact spec_PatFits.mono _ _ _ _ _ _
      | exact LeO.none _
      | refine LeO.ite ?_ ?_
      | refine LeO.bind ?_ (fun _ => ?_)
set_option maxHeartbeats 8000000 in
set_option maxRecDepth 100000 in
theorem laws_FnExactPatFits.calls (k : Nat) (a0_0 : Int) (a0_1 : Int) (a0_2 : ByteArray) (A0_3 : Option Addr) (c0_3 : Nat) (l0_3 : List (S24)) (a1 : Int) (r : Bool) (w : World) (hr0_3 : Kd.C k24 w A0_3 l0_3.length l0_3) (hc0_3 : l0_3.length ≤ c0_3) (h : laws_FnExactPatFits.f k a0_0 a0_1 a0_2 l0_3 a1 = some r) :
    Calls Try.prog 3 #[.agg #[.int .i64 a0_0,.int .i64 a0_1,.string a0_2,.slice A0_3 l0_3.length c0_3],.int .i64 a1] w fun e w' => e = .returned (.bool r) ∧ Below w.heap.size w w' := by
  have hu24 := Try.underlying24
  have hu29 := Try.underlying29
  have HR0_3 := Aside0.mk hr0_3
  have HC0_3 := Aside0.mk hc0_3
  clear hr0_3 hc0_3
  have HB := Aside0.mk (Below.refl w.heap.size w)
  have H : ((laws_szPat.f k a0_0 a0_1 a0_2 l0_3 1048576).bind fun t210 => (if t210 < 0 then (some true) else (laws_FnExactPatFits.j0 k a1 a0_0 a0_1 a0_2 l0_3))) = some r := h
  clear h
  replace H := Option.bind_eq_some_iff.mp H
  obtain ⟨t210,A30,H⟩ := H
  replace H : (if t210 < 0 then (some true) else (laws_FnExactPatFits.j0 k a1 a0_0 a0_1 a0_2 l0_3)) = some r := H
  have A3 := Aside0.mk A30
  clear A30
  have HC4 := Aside0.mk H
  clear H
  go_enter Try.func3,Try.ntmps3
  go_upto_if 13 with (first | ((with_reducible refine gate_dst (N := 2) rfl ?_);refine box_event ?hg (N := 2) ?hd (cs := #[.int .i64 a0_0,.int .i64 a0_1,.string a0_2,.slice A0_3 l0_3.length c0_3]) (t := 24) ?hr ?_;(case hd => rfl);(case hg => rfl);(case hr => first | (go_simp;done) | (go_simp;rfl));intro gb209 hg w5 hbox hb;have n0_ := Aside0.mk (below_step (by repeat (first | (with_reducible first | exact HB.out | apply below_alloc | apply pw_below_drewN | apply below_drew1) | exact HB.out)) hb);have n1_ := Aside0.mk (hbox);have n2_ := Aside0.mk ((by rw [hg];exact (below_size (by repeat (first | (with_reducible first | exact HB.out | apply below_alloc | apply pw_below_drewN | apply below_drew1) | exact HB.out))) : w.heap.size ≤ gb209));have n3_ := Aside0.mk ((by rw [hg];exact (below_size (by repeat (first | (with_reducible first | exact HB.out | apply below_alloc | apply pw_below_drewN | apply below_drew1) | exact HB.out))) : w.heap.size ≤ gb209));clear HB;have HB := n0_;have BK209 := n1_;have GW209 := n2_;have GE209 := n3_;clear n0_ n1_ n2_ n3_;clear hb hbox hg;have hcz6_0 : w5.cell? ⟨gb209,0,none⟩ = some (.int .i64 a0_0) := (blk_cell BK209.out 0).trans rfl;have hcz6_1 : w5.cell? ⟨gb209,1,none⟩ = some (.int .i64 a0_1) := (blk_cell BK209.out 1).trans rfl;have hcz6_2 : w5.cell? ⟨gb209,2,none⟩ = some (.string a0_2) := (blk_cell BK209.out 2).trans rfl;have hcz6_3 : w5.cell? ⟨gb209,3,none⟩ = some (.slice A0_3 l0_3.length c0_3) := (blk_cell BK209.out 3).trans rfl;have hfz6_0 := blk_frozen BK209.out 0;have hfz6_1 := blk_frozen BK209.out 1;have hfz6_2 := blk_frozen BK209.out 2;have hfz6_3 := blk_frozen BK209.out 3) | ((with_reducible refine gate_callee (f := 4) rfl ?_);refine goesL_ (some 11) rfl rfl Try.func4 (by kernel_rfl) rfl #[.agg #[.int .i64 a0_0,.int .i64 a0_1,.string a0_2,.slice A0_3 l0_3.length c0_3],.int .i64 1048576] rfl (by (try simp only [List.map_toArray,List.map_cons,List.map_nil]);first | done | rfl | (simp only [List.length_drop,List.length_take];rfl)) ?_;(with_reducible refine (laws_szPat.calls k a0_0 a0_1 a0_2 _ _ l0_3 1048576 t210 _ ?side1 ?side2 A3.out).mono ?_);(case side1 => repeat (first | exact (Kd.C_below HR0_3.out HB.out) | (with_reducible refine Kd.C_alloc ?_ _) | (with_reducible refine Kd.C_drewN ?_ _) | (with_reducible refine Kd.C_drew ?_)));(case side2 => exact HC0_3.out);rintro e w7 ⟨rfl,hb⟩;refine ⟨_,rfl,?_⟩;have n0_ := Aside0.mk (blk_below (g := gb209) (o := .cells #[.int .i64 a0_0,.int .i64 a0_1,.string a0_2,.slice A0_3 l0_3.length c0_3] 24 (0,0)) (by (with_reducible repeat (first | refine blk_drewN ?_ _ | refine blk_drew ?_ | refine blk_alloc ?_ _));exact BK209.out) hb);have n1_ := Aside0.mk (below_step (by repeat (first | (with_reducible first | exact HB.out | apply below_alloc | apply pw_below_drewN | apply below_drew1 | refine below_set ?_ GE209.out) | exact HB.out)) hb);clear BK209;clear HB;have BK209 := n0_;have HB := n1_;clear n0_ n1_;(try clear hb);(try clear hb2);(try clear hk);(try clear hi)))
  (try simp only [Act.put,List.setIfInBounds_toArray,List.set_cons_zero,List.set_cons_succ])
  go_cut [] (fun wc => ∃ (kq : Nat),Aside0 (laws_FnExactPatFits.j0 kq a1 a0_0 a0_1 a0_2 l0_3 = some r) ∧ Aside0 (kq ≤ k) ∧ Aside0 (wc.heap[gb209]? = some (.cells #[.int .i64 a0_0,.int .i64 a0_1,.string a0_2,(.slice A0_3 l0_3.length c0_3)] 24 (0,0))) ∧ Aside0 (Below w.heap.size w wc))
  case first =>
    have H := HC4.out
    clear HC4
    by_cases c8 : t210 < 0
    · rw [if_pos c8] at H
      have c8b0 : decide (t210 < 0) = true := decide_eq_true c8
      clear c8
      (first | rw [c8b0] | (simp only [i64_w,i32_w];rw [c8b0]) | (simp only [c8b2,Bool.not_true,Bool.not_false]) | skip)
      obtain rfl := Option.some.inj H
      go_wp2
      go_ret
      exact ⟨by first | rfl | (simp [errW_none,errW_some] <;> rfl) | (simp [*,errW_none,errW_some] <;> rfl) | (rw [isEmpty_ne];first | done | rfl) | (rw [isEmpty_be];first | done | rfl),by repeat (first | (with_reducible first | exact HB.out | apply below_alloc | apply pw_below_drewN | apply below_drew1 | refine below_set ?_ GE209.out) | exact HB.out)⟩
    · rw [if_neg c8] at H
      have c8b0 : decide (t210 < 0) = false := decide_eq_false c8
      clear c8
      (first | rw [c8b0] | (simp only [i64_w,i32_w];rw [c8b0]) | (simp only [c8b2,Bool.not_true,Bool.not_false]) | skip)
      have H' := Aside0.mk H
      clear H
      go_wp2
      go_meet
      case rel => exact ⟨_,H',⟨by first | omega | exact Nat.le_refl _⟩,⟨by (with_reducible repeat (first | refine blk_drewN ?_ _ | refine blk_drew ?_ | refine blk_alloc ?_ _));exact BK209.out⟩,⟨by repeat (first | (with_reducible first | exact HB.out | apply below_alloc | apply pw_below_drewN | apply below_drew1 | refine below_set ?_ GE209.out) | exact HB.out)⟩⟩
  case rest =>
    clear HC4
    try clear p2
    try clear c3
    try clear c4
    try clear c8
    try clear c8b0
    try clear c8b2
    try clear hcz6_0
    try clear hcz6_1
    try clear hcz6_2
    try clear hcz6_3
    try clear hfz6_0
    try clear hfz6_1
    try clear hfz6_2
    try clear hfz6_3
    try clear BK209
    try clear HB
    obtain ⟨kq,HA,HJ3,BK209,HB⟩ := hcut
    cases kq with
    | zero => exact absurd HA.out (by simp [laws_FnExactPatFits.j0])
    | succ kj3 =>
      have H := HA.out
      clear HA
      simp only [laws_FnExactPatFits.j0] at H
      replace H := Option.bind_eq_some_iff.mp H
      obtain ⟨⟨t211,t212,t213,t214⟩,A90,H⟩ := H
      replace H : ((spec_PatFits.f kj3 t211 t212 t213 t214 a1).bind fun t217 => ((laws_toPat.f kj3 a0_0 a0_1 a0_2 l0_3).bind fun bt218 => ((impl_PatFits.f kj3 bt218.1 bt218.2.1 bt218.2.2.1 bt218.2.2.2 a1).bind fun t225 => (if (t225 != t217) = true then (some false) else ((laws_toPat.f kj3 a0_0 a0_1 a0_2 l0_3).bind fun bt226 => ((laws_eqPat.f kj3 bt218.1 bt218.2.1 bt218.2.2.1 bt218.2.2.2 bt226.1 bt226.2.1 bt226.2.2.1 bt226.2.2.2).bind fun t232 => (if t232 = true then (some true) else (some false)))))))) = some r := H
      have A9 := Aside0.mk A90
      clear A90
      replace H := Option.bind_eq_some_iff.mp H
      obtain ⟨t217,A100,H⟩ := H
      replace H : ((laws_toPat.f kj3 a0_0 a0_1 a0_2 l0_3).bind fun bt218 => ((impl_PatFits.f kj3 bt218.1 bt218.2.1 bt218.2.2.1 bt218.2.2.2 a1).bind fun t225 => (if (t225 != t217) = true then (some false) else ((laws_toPat.f kj3 a0_0 a0_1 a0_2 l0_3).bind fun bt226 => ((laws_eqPat.f kj3 bt218.1 bt218.2.1 bt218.2.2.1 bt218.2.2.2 bt226.1 bt226.2.1 bt226.2.2.1 bt226.2.2.2).bind fun t232 => (if t232 = true then (some true) else (some false))))))) = some r := H
      have A10 := Aside0.mk A100
      clear A100
      replace H := Option.bind_eq_some_iff.mp H
      obtain ⟨⟨t218,t219,t220,t221⟩,A110,H⟩ := H
      replace H : ((impl_PatFits.f kj3 t218 t219 t220 t221 a1).bind fun t225 => (if (t225 != t217) = true then (some false) else ((laws_toPat.f kj3 a0_0 a0_1 a0_2 l0_3).bind fun bt226 => ((laws_eqPat.f kj3 t218 t219 t220 t221 bt226.1 bt226.2.1 bt226.2.2.1 bt226.2.2.2).bind fun t232 => (if t232 = true then (some true) else (some false)))))) = some r := H
      have A11 := Aside0.mk A110
      clear A110
      replace H := Option.bind_eq_some_iff.mp H
      obtain ⟨t225,A120,H⟩ := H
      replace H : (if (t225 != t217) = true then (some false) else ((laws_toPat.f kj3 a0_0 a0_1 a0_2 l0_3).bind fun bt226 => ((laws_eqPat.f kj3 t218 t219 t220 t221 bt226.1 bt226.2.1 bt226.2.2.1 bt226.2.2.2).bind fun t232 => (if t232 = true then (some true) else (some false))))) = some r := H
      have A12 := Aside0.mk A120
      clear A120
      by_cases c13 : (t225 != t217) = true
      · rw [if_pos c13] at H
        have c13b0 : (t225 != t217) = true := c13
        (try (have c13b1 : decide (t225 = t217) = false := by simpa using c13))
        (try (have c13b2 : (t225 == t217) = false := by simpa using c13))
        (try (have c13b3 : ¬ (t225 = t217) := by simpa using c13))
        clear c13
        obtain rfl := Option.some.inj H
        have hcz14_0 : wc.cell? ⟨gb209,0,none⟩ = some (.int .i64 a0_0) := (blk_cell BK209.out 0).trans rfl
        have hcz14_1 : wc.cell? ⟨gb209,1,none⟩ = some (.int .i64 a0_1) := (blk_cell BK209.out 1).trans rfl
        have hcz14_2 : wc.cell? ⟨gb209,2,none⟩ = some (.string a0_2) := (blk_cell BK209.out 2).trans rfl
        have hcz14_3 : wc.cell? ⟨gb209,3,none⟩ = some (.slice A0_3 l0_3.length c0_3) := (blk_cell BK209.out 3).trans rfl
        have hfz14_0 := blk_frozen BK209.out 0
        have hfz14_1 := blk_frozen BK209.out 1
        have hfz14_2 := blk_frozen BK209.out 2
        have hfz14_3 := blk_frozen BK209.out 3
        go_wp2_with (first | ((with_reducible refine gate_callee (f := 6) rfl ?_);refine goesL_ (some 15) rfl rfl Try.func6 (by kernel_rfl) rfl #[.agg #[.int .i64 a0_0,.int .i64 a0_1,.string a0_2,.slice A0_3 l0_3.length c0_3]] rfl (by (try simp only [List.map_toArray,List.map_cons,List.map_nil]);first | done | rfl | (simp only [List.length_drop,List.length_take];rfl)) ?_;(with_reducible refine (laws_toPat.calls kj3 a0_0 a0_1 a0_2 _ _ l0_3 t211 t212 t213 t214 _ ?side1 ?side2 A9.out).mono ?_);(case side1 => repeat (first | exact (Kd.C_below HR0_3.out HB.out) | (with_reducible refine Kd.C_alloc ?_ _) | (with_reducible refine Kd.C_drewN ?_ _) | (with_reducible refine Kd.C_drew ?_)));(case side2 => exact HC0_3.out);rintro e w15 ⟨v215,rfl,ho0,hb⟩;refine ⟨_,rfl,?_⟩;have n0_ := Aside0.mk (Kd.R_lower ho0 (below_size (by repeat (first | (with_reducible first | exact HB.out | apply below_alloc | apply pw_below_drewN | apply below_drew1 | refine below_set ?_ GE209.out) | exact HB.out))));have n1_ := Aside0.mk (blk_below (g := gb209) (o := .cells #[.int .i64 a0_0,.int .i64 a0_1,.string a0_2,.slice A0_3 l0_3.length c0_3] 24 (0,0)) (by (with_reducible repeat (first | refine blk_drewN ?_ _ | refine blk_drew ?_ | refine blk_alloc ?_ _));exact BK209.out) hb);have n2_ := Aside0.mk (below_step (by repeat (first | (with_reducible first | exact HB.out | apply below_alloc | apply pw_below_drewN | apply below_drew1 | refine below_set ?_ GE209.out) | exact HB.out)) hb);clear BK209;clear HB;have HO216 := n0_;have BK209 := n1_;have HB := n2_;clear n0_ n1_ n2_;(try clear hb);(try clear hb2);(try clear hk);(try clear hi);(try clear ho0);obtain ⟨Ao16,co16,eo16⟩ := Kd.R_slice HO216.out;subst eo16) | ((with_reducible refine gate_callee (f := 5) rfl ?_);refine goesL_ (some 17) rfl rfl Try.func5 (by kernel_rfl) rfl #[.agg #[.int .i64 t211,.int .i64 t212,.string t213,.slice Ao16 t214.length co16],.int .i64 a1] rfl (by (try simp only [List.map_toArray,List.map_cons,List.map_nil]);first | done | rfl | (simp only [List.length_drop,List.length_take];rfl)) ?_;(with_reducible refine (spec_PatFits.calls kj3 t211 t212 t213 _ _ t214 a1 t217 _ ?side1 ?side2 A10.out).mono ?_);(case side1 => repeat (first | exact (Kd.R_reads' HO216.out).2.2 | (with_reducible refine Kd.C_alloc ?_ _) | (with_reducible refine Kd.C_drewN ?_ _) | (with_reducible refine Kd.C_drew ?_)));(case side2 => exact (Kd.R_reads' HO216.out).2.1);rintro e w17 ⟨rfl,hb⟩;refine ⟨_,rfl,?_⟩;have n0_ := Aside0.mk (Kd.R_below (by (with_reducible repeat (first | apply Kd.R_alloc | apply Kd.R_drewN | apply Kd.R_drew));exact HO216.out) hb);have n1_ := Aside0.mk (blk_below (g := gb209) (o := .cells #[.int .i64 a0_0,.int .i64 a0_1,.string a0_2,.slice A0_3 l0_3.length c0_3] 24 (0,0)) (by (with_reducible repeat (first | refine blk_drewN ?_ _ | refine blk_drew ?_ | refine blk_alloc ?_ _));exact BK209.out) hb);have n2_ := Aside0.mk (below_step (by repeat (first | (with_reducible first | exact HB.out | apply below_alloc | apply pw_below_drewN | apply below_drew1 | refine below_set ?_ GE209.out) | exact HB.out)) hb);clear HO216;clear BK209;clear HB;have HO216 := n0_;have BK209 := n1_;have HB := n2_;clear n0_ n1_ n2_;(try clear hb);(try clear hb2);(try clear hk);(try clear hi);have hcz18_0 : w17.cell? ⟨gb209,0,none⟩ = some (.int .i64 a0_0) := (blk_cell BK209.out 0).trans rfl;have hcz18_1 : w17.cell? ⟨gb209,1,none⟩ = some (.int .i64 a0_1) := (blk_cell BK209.out 1).trans rfl;have hcz18_2 : w17.cell? ⟨gb209,2,none⟩ = some (.string a0_2) := (blk_cell BK209.out 2).trans rfl;have hcz18_3 : w17.cell? ⟨gb209,3,none⟩ = some (.slice A0_3 l0_3.length c0_3) := (blk_cell BK209.out 3).trans rfl;have hfz18_0 := blk_frozen BK209.out 0;have hfz18_1 := blk_frozen BK209.out 1;have hfz18_2 := blk_frozen BK209.out 2;have hfz18_3 := blk_frozen BK209.out 3) | ((with_reducible refine gate_callee (f := 6) rfl ?_);refine goesL_ (some 19) rfl rfl Try.func6 (by kernel_rfl) rfl #[.agg #[.int .i64 a0_0,.int .i64 a0_1,.string a0_2,.slice A0_3 l0_3.length c0_3]] rfl (by (try simp only [List.map_toArray,List.map_cons,List.map_nil]);first | done | rfl | (simp only [List.length_drop,List.length_take];rfl)) ?_;(with_reducible refine (laws_toPat.calls kj3 a0_0 a0_1 a0_2 _ _ l0_3 t218 t219 t220 t221 _ ?side1 ?side2 A11.out).mono ?_);(case side1 => repeat (first | exact (Kd.C_below HR0_3.out HB.out) | (with_reducible refine Kd.C_alloc ?_ _) | (with_reducible refine Kd.C_drewN ?_ _) | (with_reducible refine Kd.C_drew ?_)));(case side2 => exact HC0_3.out);rintro e w19 ⟨v222,rfl,ho0,hb⟩;refine ⟨_,rfl,?_⟩;have n0_ := Aside0.mk (Kd.R_elder' (by (with_reducible repeat (first | apply Kd.R_alloc | apply Kd.R_drewN | apply Kd.R_drew));exact HO216.out) (Kd.R_base ho0) hb);have n1_ := Aside0.mk (Kd.R_lower (Kd.R_new' ho0 (Kd.R_lt (by (with_reducible repeat (first | apply Kd.R_alloc | apply Kd.R_drewN | apply Kd.R_drew));exact HO216.out))) (below_size (by repeat (first | (with_reducible first | exact HB.out | apply below_alloc | apply pw_below_drewN | apply below_drew1 | refine below_set ?_ GE209.out) | exact HB.out))));have n2_ := Aside0.mk (blk_below (g := gb209) (o := .cells #[.int .i64 a0_0,.int .i64 a0_1,.string a0_2,.slice A0_3 l0_3.length c0_3] 24 (0,0)) (by (with_reducible repeat (first | refine blk_drewN ?_ _ | refine blk_drew ?_ | refine blk_alloc ?_ _));exact BK209.out) hb);have n3_ := Aside0.mk (below_step (by repeat (first | (with_reducible first | exact HB.out | apply below_alloc | apply pw_below_drewN | apply below_drew1 | refine below_set ?_ GE209.out) | exact HB.out)) hb);clear HO216;clear BK209;clear HB;have HO216 := n0_;have HO223 := n1_;have BK209 := n2_;have HB := n3_;clear n0_ n1_ n2_ n3_;(try clear hb);(try clear hb2);(try clear hk);(try clear hi);(try clear ho0)) | ((with_reducible refine gate_dst (N := 7) rfl ?_);refine box_event ?hg (N := 7) ?hd (cs := #[.int .i64 0,.int .i64 0,.string (⟨#[]⟩ : ByteArray),.slice none 0 0]) (t := 29) ?hr ?_;(case hd => rfl);(case hg => rfl);(case hr => first | (go_simp;done) | (go_simp;rfl));intro gb224 hg w20 hbox hb;have n0_ := Aside0.mk (Kd.R_below (Kd.R_elderB (by (with_reducible repeat (first | apply Kd.R_alloc | apply Kd.R_drewN | apply Kd.R_drew));exact HO216.out) gb224 (Nat.le_of_eq hg.symm)) hb);have n1_ := Aside0.mk (Kd.R_below (Kd.R_elderB (by (with_reducible repeat (first | apply Kd.R_alloc | apply Kd.R_drewN | apply Kd.R_drew));exact HO223.out) gb224 (Nat.le_of_eq hg.symm)) hb);have n2_ := Aside0.mk (blk_below (g := gb209) (o := .cells #[.int .i64 a0_0,.int .i64 a0_1,.string a0_2,.slice A0_3 l0_3.length c0_3] 24 (0,0)) (by (with_reducible repeat (first | refine blk_drewN ?_ _ | refine blk_drew ?_ | refine blk_alloc ?_ _));exact BK209.out) hb);have n3_ := Aside0.mk (below_step (by repeat (first | (with_reducible first | exact HB.out | apply below_alloc | apply pw_below_drewN | apply below_drew1 | refine below_set ?_ GE209.out) | exact HB.out)) hb);have n4_ := Aside0.mk (hbox);have n5_ := Aside0.mk ((by rw [hg];exact (below_size (by repeat (first | (with_reducible first | exact HB.out | apply below_alloc | apply pw_below_drewN | apply below_drew1 | refine below_set ?_ GE209.out) | exact HB.out))) : w.heap.size ≤ gb224));have n6_ := Aside0.mk ((by rw [hg];exact (below_size (by repeat (first | (with_reducible first | exact HB.out | apply below_alloc | apply pw_below_drewN | apply below_drew1 | refine below_set ?_ GE209.out) | exact HB.out))) : w.heap.size ≤ gb224));have n7_ := Aside0.mk ((by rw [hg];exact Nat.ne_of_lt (blk_lt (g := gb209) (o := .cells #[.int .i64 a0_0,.int .i64 a0_1,.string a0_2,.slice A0_3 l0_3.length c0_3] 24 (0,0)) (by (with_reducible repeat (first | refine blk_drewN ?_ _ | refine blk_drew ?_ | refine blk_alloc ?_ _));exact BK209.out)) : gb209 ≠ gb224));have n8_ := Aside0.mk ((by rw [hg];exact Nat.ne_of_gt (blk_lt (g := gb209) (o := .cells #[.int .i64 a0_0,.int .i64 a0_1,.string a0_2,.slice A0_3 l0_3.length c0_3] 24 (0,0)) (by (with_reducible repeat (first | refine blk_drewN ?_ _ | refine blk_drew ?_ | refine blk_alloc ?_ _));exact BK209.out)) : gb224 ≠ gb209));clear HO216;clear HO223;clear BK209;clear HB;have HO216 := n0_;have HO223 := n1_;have BK209 := n2_;have HB := n3_;have BK224 := n4_;have GW224 := n5_;have GE224 := n6_;have NB209_224 := n7_;have NB224_209 := n8_;clear n0_ n1_ n2_ n3_ n4_ n5_ n6_ n7_ n8_;clear hb hbox hg;have hnb21 := NB224_209.out;have hnc21 := NB209_224.out;have hcz22_0 : w20.cell? ⟨gb224,0,none⟩ = some (.int .i64 0) := (blk_cell BK224.out 0).trans rfl;have hcz22_1 : w20.cell? ⟨gb224,1,none⟩ = some (.int .i64 0) := (blk_cell BK224.out 1).trans rfl;have hcz22_2 : w20.cell? ⟨gb224,2,none⟩ = some (.string (⟨#[]⟩ : ByteArray)) := (blk_cell BK224.out 2).trans rfl;have hcz22_3 : w20.cell? ⟨gb224,3,none⟩ = some (.slice none 0 0) := (blk_cell BK224.out 3).trans rfl;have hfz22_0 := blk_frozen BK224.out 0;have hfz22_1 := blk_frozen BK224.out 1;have hfz22_2 := blk_frozen BK224.out 2;have hfz22_3 := blk_frozen BK224.out 3;obtain ⟨Ao23,co23,eo23⟩ := Kd.R_slice HO223.out;subst eo23) | ((with_reducible refine gate_callee (f := 7) rfl ?_);refine goesL_ (some 22) rfl rfl Try.func7 (by kernel_rfl) rfl #[.agg #[.int .i64 t218,.int .i64 t219,.string t220,.slice Ao23 t221.length co23],.int .i64 a1] rfl (by (try simp only [List.map_toArray,List.map_cons,List.map_nil]);first | done | rfl | (simp only [List.length_drop,List.length_take];rfl)) ?_;(with_reducible refine (impl_PatFits.calls kj3 t218 t219 t220 _ _ t221 a1 t225 _ ?side1 ?side2 A12.out).mono ?_);(case side1 => refine (Kd.R_reads' (e := 29) (base := w.heap.size) (ok := fun k_ => ((True ∧ some k_ ≠ (.slice Ao16 t214.length co16 : Value).ownBlock) ∧ k_ ≠ gb224)) (n := t221.length) (c := co23) ?_).2.2;exact (by (with_reducible repeat (first | apply Kd.R_alloc | apply Kd.R_drewN | apply Kd.R_drew));exact (Kd.R_mono (Kd.R_far (p := ⟨gb224,3,none⟩) (Kd.R_far (p := ⟨gb224,2,none⟩) (Kd.R_far (p := ⟨gb224,1,none⟩) (Kd.R_far (p := ⟨gb224,0,none⟩) (Kd.R_mono HO223.out (fun k_ hk => (⟨hk,hk.2⟩ : _ ∧ k_ ≠ gb224))) (fun _ hk => hk.2) (.int .i64 t218)) (fun _ hk => hk.2) (.int .i64 t219)) (fun _ hk => hk.2) (.string t220)) (fun _ hk => hk.2) (.slice Ao23 t221.length co23)) (fun _ h_ => h_.1))));(case side2 => exact (Kd.R_reads' HO223.out).2.1);rintro e w24 ⟨rfl,hb⟩;refine ⟨_,rfl,?_⟩;have n0_ := Aside0.mk (Kd.R_below (by (with_reducible repeat (first | apply Kd.R_alloc | apply Kd.R_drewN | apply Kd.R_drew));exact (Kd.R_mono (Kd.R_far (p := ⟨gb224,3,none⟩) (Kd.R_far (p := ⟨gb224,2,none⟩) (Kd.R_far (p := ⟨gb224,1,none⟩) (Kd.R_far (p := ⟨gb224,0,none⟩) (Kd.R_mono HO216.out (fun k_ hk => (⟨hk,hk.2⟩ : _ ∧ k_ ≠ gb224))) (fun _ hk => hk.2) (.int .i64 t218)) (fun _ hk => hk.2) (.int .i64 t219)) (fun _ hk => hk.2) (.string t220)) (fun _ hk => hk.2) (.slice Ao23 t221.length co23)) (fun _ h_ => h_.1))) hb);have n1_ := Aside0.mk (Kd.R_below (by (with_reducible repeat (first | apply Kd.R_alloc | apply Kd.R_drewN | apply Kd.R_drew));exact (Kd.R_mono (Kd.R_far (p := ⟨gb224,3,none⟩) (Kd.R_far (p := ⟨gb224,2,none⟩) (Kd.R_far (p := ⟨gb224,1,none⟩) (Kd.R_far (p := ⟨gb224,0,none⟩) (Kd.R_mono HO223.out (fun k_ hk => (⟨hk,hk.2⟩ : _ ∧ k_ ≠ gb224))) (fun _ hk => hk.2) (.int .i64 t218)) (fun _ hk => hk.2) (.int .i64 t219)) (fun _ hk => hk.2) (.string t220)) (fun _ hk => hk.2) (.slice Ao23 t221.length co23)) (fun _ h_ => h_.1))) hb);have n2_ := Aside0.mk (blk_below (g := gb209) (o := .cells #[.int .i64 a0_0,.int .i64 a0_1,.string a0_2,.slice A0_3 l0_3.length c0_3] 24 (0,0)) (by (with_reducible repeat (first | refine blk_drewN ?_ _ | refine blk_drew ?_ | refine blk_alloc ?_ _));refine blk_far ?_ NB209_224.out _;(with_reducible repeat (first | refine blk_drewN ?_ _ | refine blk_drew ?_ | refine blk_alloc ?_ _));refine blk_far ?_ NB209_224.out _;(with_reducible repeat (first | refine blk_drewN ?_ _ | refine blk_drew ?_ | refine blk_alloc ?_ _));refine blk_far ?_ NB209_224.out _;(with_reducible repeat (first | refine blk_drewN ?_ _ | refine blk_drew ?_ | refine blk_alloc ?_ _));refine blk_far ?_ NB209_224.out _;(with_reducible repeat (first | refine blk_drewN ?_ _ | refine blk_drew ?_ | refine blk_alloc ?_ _));exact BK209.out) hb);have n3_ := Aside0.mk (blk_below (g := gb224) (o := .cells #[.int .i64 t218,.int .i64 t219,.string t220,.slice Ao23 t221.length co23] 29 (0,0)) (by (with_reducible repeat (first | refine blk_drewN ?_ _ | refine blk_drew ?_ | refine blk_alloc ?_ _));refine blk_put (cs := #[.int .i64 t218,.int .i64 t219,.string t220,.slice none 0 0]) ?_ 3 _ rfl;(with_reducible repeat (first | refine blk_drewN ?_ _ | refine blk_drew ?_ | refine blk_alloc ?_ _));refine blk_put (cs := #[.int .i64 t218,.int .i64 t219,.string (⟨#[]⟩ : ByteArray),.slice none 0 0]) ?_ 2 _ rfl;(with_reducible repeat (first | refine blk_drewN ?_ _ | refine blk_drew ?_ | refine blk_alloc ?_ _));refine blk_put (cs := #[.int .i64 t218,.int .i64 0,.string (⟨#[]⟩ : ByteArray),.slice none 0 0]) ?_ 1 _ rfl;(with_reducible repeat (first | refine blk_drewN ?_ _ | refine blk_drew ?_ | refine blk_alloc ?_ _));refine blk_put (cs := #[.int .i64 0,.int .i64 0,.string (⟨#[]⟩ : ByteArray),.slice none 0 0]) ?_ 0 _ rfl;(with_reducible repeat (first | refine blk_drewN ?_ _ | refine blk_drew ?_ | refine blk_alloc ?_ _));exact BK224.out) hb);have n4_ := Aside0.mk (below_step (by repeat (first | (with_reducible first | exact HB.out | apply below_alloc | apply pw_below_drewN | apply below_drew1 | refine below_set ?_ GE209.out | refine below_set ?_ GE224.out) | exact HB.out)) hb);clear HO216;clear HO223;clear BK209;clear BK224;clear HB;have HO216 := n0_;have HO223 := n1_;have BK209 := n2_;have BK224 := n3_;have HB := n4_;clear n0_ n1_ n2_ n3_ n4_;(try clear hb);(try clear hb2);(try clear hk);(try clear hi)))
        go_ret
        exact ⟨by first | rfl | (simp [errW_none,errW_some] <;> rfl) | (simp [*,errW_none,errW_some] <;> rfl) | (rw [isEmpty_ne];first | done | rfl) | (rw [isEmpty_be];first | done | rfl),by repeat (first | (with_reducible first | exact HB.out | apply below_alloc | apply pw_below_drewN | apply below_drew1 | refine below_set ?_ GE209.out | refine below_set ?_ GE224.out) | exact HB.out)⟩
      · rw [if_neg c13] at H
        have c13b0 : (t225 != t217) = false := by simpa using c13
        (try (have c13b1 : decide (t225 = t217) = true := by simpa using c13))
        (try (have c13b2 : (t225 == t217) = true := by simpa using c13))
        clear c13
        replace H := Option.bind_eq_some_iff.mp H
        obtain ⟨⟨t226,t227,t228,t229⟩,A250,H⟩ := H
        replace H : ((laws_eqPat.f kj3 t218 t219 t220 t221 t226 t227 t228 t229).bind fun t232 => (if t232 = true then (some true) else (some false))) = some r := H
        have A25 := Aside0.mk A250
        clear A250
        replace H := Option.bind_eq_some_iff.mp H
        obtain ⟨t232,A260,H⟩ := H
        replace H : (if t232 = true then (some true) else (some false)) = some r := H
        have A26 := Aside0.mk A260
        clear A260
        by_cases c27 : t232 = true
        · subst c27
          have H1 : (some true) = some r := by rw [if_pos rfl] at H;exact H
          clear H
          have H := H1
          clear H1
          obtain rfl := Option.some.inj H
          have hcz28_0 : wc.cell? ⟨gb209,0,none⟩ = some (.int .i64 a0_0) := (blk_cell BK209.out 0).trans rfl
          have hcz28_1 : wc.cell? ⟨gb209,1,none⟩ = some (.int .i64 a0_1) := (blk_cell BK209.out 1).trans rfl
          have hcz28_2 : wc.cell? ⟨gb209,2,none⟩ = some (.string a0_2) := (blk_cell BK209.out 2).trans rfl
          have hcz28_3 : wc.cell? ⟨gb209,3,none⟩ = some (.slice A0_3 l0_3.length c0_3) := (blk_cell BK209.out 3).trans rfl
          have hfz28_0 := blk_frozen BK209.out 0
          have hfz28_1 := blk_frozen BK209.out 1
          have hfz28_2 := blk_frozen BK209.out 2
          have hfz28_3 := blk_frozen BK209.out 3
          try go_wp2_with (first | ((with_reducible refine gate_callee (f := 6) rfl ?_);refine goesL_ (some 15) rfl rfl Try.func6 (by kernel_rfl) rfl #[.agg #[.int .i64 a0_0,.int .i64 a0_1,.string a0_2,.slice A0_3 l0_3.length c0_3]] rfl (by (try simp only [List.map_toArray,List.map_cons,List.map_nil]);first | done | rfl | (simp only [List.length_drop,List.length_take];rfl)) ?_;(with_reducible refine (laws_toPat.calls kj3 a0_0 a0_1 a0_2 _ _ l0_3 t211 t212 t213 t214 _ ?side1 ?side2 A9.out).mono ?_);(case side1 => repeat (first | exact (Kd.C_below HR0_3.out HB.out) | (with_reducible refine Kd.C_alloc ?_ _) | (with_reducible refine Kd.C_drewN ?_ _) | (with_reducible refine Kd.C_drew ?_)));(case side2 => exact HC0_3.out);rintro e w29 ⟨v215,rfl,ho0,hb⟩;refine ⟨_,rfl,?_⟩;have n0_ := Aside0.mk (Kd.R_lower ho0 (below_size (by repeat (first | (with_reducible first | exact HB.out | apply below_alloc | apply pw_below_drewN | apply below_drew1 | refine below_set ?_ GE209.out) | exact HB.out))));have n1_ := Aside0.mk (blk_below (g := gb209) (o := .cells #[.int .i64 a0_0,.int .i64 a0_1,.string a0_2,.slice A0_3 l0_3.length c0_3] 24 (0,0)) (by (with_reducible repeat (first | refine blk_drewN ?_ _ | refine blk_drew ?_ | refine blk_alloc ?_ _));exact BK209.out) hb);have n2_ := Aside0.mk (below_step (by repeat (first | (with_reducible first | exact HB.out | apply below_alloc | apply pw_below_drewN | apply below_drew1 | refine below_set ?_ GE209.out) | exact HB.out)) hb);clear BK209;clear HB;have HO216 := n0_;have BK209 := n1_;have HB := n2_;clear n0_ n1_ n2_;(try clear hb);(try clear hb2);(try clear hk);(try clear hi);(try clear ho0);obtain ⟨Ao30,co30,eo30⟩ := Kd.R_slice HO216.out;subst eo30) | ((with_reducible refine gate_callee (f := 5) rfl ?_);refine goesL_ (some 17) rfl rfl Try.func5 (by kernel_rfl) rfl #[.agg #[.int .i64 t211,.int .i64 t212,.string t213,.slice Ao30 t214.length co30],.int .i64 a1] rfl (by (try simp only [List.map_toArray,List.map_cons,List.map_nil]);first | done | rfl | (simp only [List.length_drop,List.length_take];rfl)) ?_;(with_reducible refine (spec_PatFits.calls kj3 t211 t212 t213 _ _ t214 a1 t217 _ ?side1 ?side2 A10.out).mono ?_);(case side1 => repeat (first | exact (Kd.R_reads' HO216.out).2.2 | (with_reducible refine Kd.C_alloc ?_ _) | (with_reducible refine Kd.C_drewN ?_ _) | (with_reducible refine Kd.C_drew ?_)));(case side2 => exact (Kd.R_reads' HO216.out).2.1);rintro e w31 ⟨rfl,hb⟩;refine ⟨_,rfl,?_⟩;have n0_ := Aside0.mk (Kd.R_below (by (with_reducible repeat (first | apply Kd.R_alloc | apply Kd.R_drewN | apply Kd.R_drew));exact HO216.out) hb);have n1_ := Aside0.mk (blk_below (g := gb209) (o := .cells #[.int .i64 a0_0,.int .i64 a0_1,.string a0_2,.slice A0_3 l0_3.length c0_3] 24 (0,0)) (by (with_reducible repeat (first | refine blk_drewN ?_ _ | refine blk_drew ?_ | refine blk_alloc ?_ _));exact BK209.out) hb);have n2_ := Aside0.mk (below_step (by repeat (first | (with_reducible first | exact HB.out | apply below_alloc | apply pw_below_drewN | apply below_drew1 | refine below_set ?_ GE209.out) | exact HB.out)) hb);clear HO216;clear BK209;clear HB;have HO216 := n0_;have BK209 := n1_;have HB := n2_;clear n0_ n1_ n2_;(try clear hb);(try clear hb2);(try clear hk);(try clear hi);have hcz32_0 : w31.cell? ⟨gb209,0,none⟩ = some (.int .i64 a0_0) := (blk_cell BK209.out 0).trans rfl;have hcz32_1 : w31.cell? ⟨gb209,1,none⟩ = some (.int .i64 a0_1) := (blk_cell BK209.out 1).trans rfl;have hcz32_2 : w31.cell? ⟨gb209,2,none⟩ = some (.string a0_2) := (blk_cell BK209.out 2).trans rfl;have hcz32_3 : w31.cell? ⟨gb209,3,none⟩ = some (.slice A0_3 l0_3.length c0_3) := (blk_cell BK209.out 3).trans rfl;have hfz32_0 := blk_frozen BK209.out 0;have hfz32_1 := blk_frozen BK209.out 1;have hfz32_2 := blk_frozen BK209.out 2;have hfz32_3 := blk_frozen BK209.out 3) | ((with_reducible refine gate_callee (f := 6) rfl ?_);refine goesL_ (some 19) rfl rfl Try.func6 (by kernel_rfl) rfl #[.agg #[.int .i64 a0_0,.int .i64 a0_1,.string a0_2,.slice A0_3 l0_3.length c0_3]] rfl (by (try simp only [List.map_toArray,List.map_cons,List.map_nil]);first | done | rfl | (simp only [List.length_drop,List.length_take];rfl)) ?_;(with_reducible refine (laws_toPat.calls kj3 a0_0 a0_1 a0_2 _ _ l0_3 t218 t219 t220 t221 _ ?side1 ?side2 A11.out).mono ?_);(case side1 => repeat (first | exact (Kd.C_below HR0_3.out HB.out) | (with_reducible refine Kd.C_alloc ?_ _) | (with_reducible refine Kd.C_drewN ?_ _) | (with_reducible refine Kd.C_drew ?_)));(case side2 => exact HC0_3.out);rintro e w33 ⟨v222,rfl,ho0,hb⟩;refine ⟨_,rfl,?_⟩;have n0_ := Aside0.mk (Kd.R_elder' (by (with_reducible repeat (first | apply Kd.R_alloc | apply Kd.R_drewN | apply Kd.R_drew));exact HO216.out) (Kd.R_base ho0) hb);have n1_ := Aside0.mk (Kd.R_lower (Kd.R_new' ho0 (Kd.R_lt (by (with_reducible repeat (first | apply Kd.R_alloc | apply Kd.R_drewN | apply Kd.R_drew));exact HO216.out))) (below_size (by repeat (first | (with_reducible first | exact HB.out | apply below_alloc | apply pw_below_drewN | apply below_drew1 | refine below_set ?_ GE209.out) | exact HB.out))));have n2_ := Aside0.mk (blk_below (g := gb209) (o := .cells #[.int .i64 a0_0,.int .i64 a0_1,.string a0_2,.slice A0_3 l0_3.length c0_3] 24 (0,0)) (by (with_reducible repeat (first | refine blk_drewN ?_ _ | refine blk_drew ?_ | refine blk_alloc ?_ _));exact BK209.out) hb);have n3_ := Aside0.mk (below_step (by repeat (first | (with_reducible first | exact HB.out | apply below_alloc | apply pw_below_drewN | apply below_drew1 | refine below_set ?_ GE209.out) | exact HB.out)) hb);clear HO216;clear BK209;clear HB;have HO216 := n0_;have HO223 := n1_;have BK209 := n2_;have HB := n3_;clear n0_ n1_ n2_ n3_;(try clear hb);(try clear hb2);(try clear hk);(try clear hi);(try clear ho0)) | ((with_reducible refine gate_dst (N := 7) rfl ?_);refine box_event ?hg (N := 7) ?hd (cs := #[.int .i64 0,.int .i64 0,.string (⟨#[]⟩ : ByteArray),.slice none 0 0]) (t := 29) ?hr ?_;(case hd => rfl);(case hg => rfl);(case hr => first | (go_simp;done) | (go_simp;rfl));intro gb224 hg w34 hbox hb;have n0_ := Aside0.mk (Kd.R_below (Kd.R_elderB (by (with_reducible repeat (first | apply Kd.R_alloc | apply Kd.R_drewN | apply Kd.R_drew));exact HO216.out) gb224 (Nat.le_of_eq hg.symm)) hb);have n1_ := Aside0.mk (Kd.R_below (Kd.R_elderB (by (with_reducible repeat (first | apply Kd.R_alloc | apply Kd.R_drewN | apply Kd.R_drew));exact HO223.out) gb224 (Nat.le_of_eq hg.symm)) hb);have n2_ := Aside0.mk (blk_below (g := gb209) (o := .cells #[.int .i64 a0_0,.int .i64 a0_1,.string a0_2,.slice A0_3 l0_3.length c0_3] 24 (0,0)) (by (with_reducible repeat (first | refine blk_drewN ?_ _ | refine blk_drew ?_ | refine blk_alloc ?_ _));exact BK209.out) hb);have n3_ := Aside0.mk (below_step (by repeat (first | (with_reducible first | exact HB.out | apply below_alloc | apply pw_below_drewN | apply below_drew1 | refine below_set ?_ GE209.out) | exact HB.out)) hb);have n4_ := Aside0.mk (hbox);have n5_ := Aside0.mk ((by rw [hg];exact (below_size (by repeat (first | (with_reducible first | exact HB.out | apply below_alloc | apply pw_below_drewN | apply below_drew1 | refine below_set ?_ GE209.out) | exact HB.out))) : w.heap.size ≤ gb224));have n6_ := Aside0.mk ((by rw [hg];exact (below_size (by repeat (first | (with_reducible first | exact HB.out | apply below_alloc | apply pw_below_drewN | apply below_drew1 | refine below_set ?_ GE209.out) | exact HB.out))) : w.heap.size ≤ gb224));have n7_ := Aside0.mk ((by rw [hg];exact Nat.ne_of_lt (blk_lt (g := gb209) (o := .cells #[.int .i64 a0_0,.int .i64 a0_1,.string a0_2,.slice A0_3 l0_3.length c0_3] 24 (0,0)) (by (with_reducible repeat (first | refine blk_drewN ?_ _ | refine blk_drew ?_ | refine blk_alloc ?_ _));exact BK209.out)) : gb209 ≠ gb224));have n8_ := Aside0.mk ((by rw [hg];exact Nat.ne_of_gt (blk_lt (g := gb209) (o := .cells #[.int .i64 a0_0,.int .i64 a0_1,.string a0_2,.slice A0_3 l0_3.length c0_3] 24 (0,0)) (by (with_reducible repeat (first | refine blk_drewN ?_ _ | refine blk_drew ?_ | refine blk_alloc ?_ _));exact BK209.out)) : gb224 ≠ gb209));clear HO216;clear HO223;clear BK209;clear HB;have HO216 := n0_;have HO223 := n1_;have BK209 := n2_;have HB := n3_;have BK224 := n4_;have GW224 := n5_;have GE224 := n6_;have NB209_224 := n7_;have NB224_209 := n8_;clear n0_ n1_ n2_ n3_ n4_ n5_ n6_ n7_ n8_;clear hb hbox hg;have hnb35 := NB224_209.out;have hnc35 := NB209_224.out;have hcz36_0 : w34.cell? ⟨gb224,0,none⟩ = some (.int .i64 0) := (blk_cell BK224.out 0).trans rfl;have hcz36_1 : w34.cell? ⟨gb224,1,none⟩ = some (.int .i64 0) := (blk_cell BK224.out 1).trans rfl;have hcz36_2 : w34.cell? ⟨gb224,2,none⟩ = some (.string (⟨#[]⟩ : ByteArray)) := (blk_cell BK224.out 2).trans rfl;have hcz36_3 : w34.cell? ⟨gb224,3,none⟩ = some (.slice none 0 0) := (blk_cell BK224.out 3).trans rfl;have hfz36_0 := blk_frozen BK224.out 0;have hfz36_1 := blk_frozen BK224.out 1;have hfz36_2 := blk_frozen BK224.out 2;have hfz36_3 := blk_frozen BK224.out 3;obtain ⟨Ao37,co37,eo37⟩ := Kd.R_slice HO223.out;subst eo37) | ((with_reducible refine gate_callee (f := 7) rfl ?_);refine goesL_ (some 22) rfl rfl Try.func7 (by kernel_rfl) rfl #[.agg #[.int .i64 t218,.int .i64 t219,.string t220,.slice Ao37 t221.length co37],.int .i64 a1] rfl (by (try simp only [List.map_toArray,List.map_cons,List.map_nil]);first | done | rfl | (simp only [List.length_drop,List.length_take];rfl)) ?_;(with_reducible refine (impl_PatFits.calls kj3 t218 t219 t220 _ _ t221 a1 t225 _ ?side1 ?side2 A12.out).mono ?_);(case side1 => refine (Kd.R_reads' (e := 29) (base := w.heap.size) (ok := fun k_ => ((True ∧ some k_ ≠ (.slice Ao30 t214.length co30 : Value).ownBlock) ∧ k_ ≠ gb224)) (n := t221.length) (c := co37) ?_).2.2;exact (by (with_reducible repeat (first | apply Kd.R_alloc | apply Kd.R_drewN | apply Kd.R_drew));exact (Kd.R_mono (Kd.R_far (p := ⟨gb224,3,none⟩) (Kd.R_far (p := ⟨gb224,2,none⟩) (Kd.R_far (p := ⟨gb224,1,none⟩) (Kd.R_far (p := ⟨gb224,0,none⟩) (Kd.R_mono HO223.out (fun k_ hk => (⟨hk,hk.2⟩ : _ ∧ k_ ≠ gb224))) (fun _ hk => hk.2) (.int .i64 t218)) (fun _ hk => hk.2) (.int .i64 t219)) (fun _ hk => hk.2) (.string t220)) (fun _ hk => hk.2) (.slice Ao37 t221.length co37)) (fun _ h_ => h_.1))));(case side2 => exact (Kd.R_reads' HO223.out).2.1);rintro e w38 ⟨rfl,hb⟩;refine ⟨_,rfl,?_⟩;have n0_ := Aside0.mk (Kd.R_below (by (with_reducible repeat (first | apply Kd.R_alloc | apply Kd.R_drewN | apply Kd.R_drew));exact (Kd.R_mono (Kd.R_far (p := ⟨gb224,3,none⟩) (Kd.R_far (p := ⟨gb224,2,none⟩) (Kd.R_far (p := ⟨gb224,1,none⟩) (Kd.R_far (p := ⟨gb224,0,none⟩) (Kd.R_mono HO216.out (fun k_ hk => (⟨hk,hk.2⟩ : _ ∧ k_ ≠ gb224))) (fun _ hk => hk.2) (.int .i64 t218)) (fun _ hk => hk.2) (.int .i64 t219)) (fun _ hk => hk.2) (.string t220)) (fun _ hk => hk.2) (.slice Ao37 t221.length co37)) (fun _ h_ => h_.1))) hb);have n1_ := Aside0.mk (Kd.R_below (by (with_reducible repeat (first | apply Kd.R_alloc | apply Kd.R_drewN | apply Kd.R_drew));exact (Kd.R_mono (Kd.R_far (p := ⟨gb224,3,none⟩) (Kd.R_far (p := ⟨gb224,2,none⟩) (Kd.R_far (p := ⟨gb224,1,none⟩) (Kd.R_far (p := ⟨gb224,0,none⟩) (Kd.R_mono HO223.out (fun k_ hk => (⟨hk,hk.2⟩ : _ ∧ k_ ≠ gb224))) (fun _ hk => hk.2) (.int .i64 t218)) (fun _ hk => hk.2) (.int .i64 t219)) (fun _ hk => hk.2) (.string t220)) (fun _ hk => hk.2) (.slice Ao37 t221.length co37)) (fun _ h_ => h_.1))) hb);have n2_ := Aside0.mk (blk_below (g := gb209) (o := .cells #[.int .i64 a0_0,.int .i64 a0_1,.string a0_2,.slice A0_3 l0_3.length c0_3] 24 (0,0)) (by (with_reducible repeat (first | refine blk_drewN ?_ _ | refine blk_drew ?_ | refine blk_alloc ?_ _));refine blk_far ?_ NB209_224.out _;(with_reducible repeat (first | refine blk_drewN ?_ _ | refine blk_drew ?_ | refine blk_alloc ?_ _));refine blk_far ?_ NB209_224.out _;(with_reducible repeat (first | refine blk_drewN ?_ _ | refine blk_drew ?_ | refine blk_alloc ?_ _));refine blk_far ?_ NB209_224.out _;(with_reducible repeat (first | refine blk_drewN ?_ _ | refine blk_drew ?_ | refine blk_alloc ?_ _));refine blk_far ?_ NB209_224.out _;(with_reducible repeat (first | refine blk_drewN ?_ _ | refine blk_drew ?_ | refine blk_alloc ?_ _));exact BK209.out) hb);have n3_ := Aside0.mk (blk_below (g := gb224) (o := .cells #[.int .i64 t218,.int .i64 t219,.string t220,.slice Ao37 t221.length co37] 29 (0,0)) (by (with_reducible repeat (first | refine blk_drewN ?_ _ | refine blk_drew ?_ | refine blk_alloc ?_ _));refine blk_put (cs := #[.int .i64 t218,.int .i64 t219,.string t220,.slice none 0 0]) ?_ 3 _ rfl;(with_reducible repeat (first | refine blk_drewN ?_ _ | refine blk_drew ?_ | refine blk_alloc ?_ _));refine blk_put (cs := #[.int .i64 t218,.int .i64 t219,.string (⟨#[]⟩ : ByteArray),.slice none 0 0]) ?_ 2 _ rfl;(with_reducible repeat (first | refine blk_drewN ?_ _ | refine blk_drew ?_ | refine blk_alloc ?_ _));refine blk_put (cs := #[.int .i64 t218,.int .i64 0,.string (⟨#[]⟩ : ByteArray),.slice none 0 0]) ?_ 1 _ rfl;(with_reducible repeat (first | refine blk_drewN ?_ _ | refine blk_drew ?_ | refine blk_alloc ?_ _));refine blk_put (cs := #[.int .i64 0,.int .i64 0,.string (⟨#[]⟩ : ByteArray),.slice none 0 0]) ?_ 0 _ rfl;(with_reducible repeat (first | refine blk_drewN ?_ _ | refine blk_drew ?_ | refine blk_alloc ?_ _));exact BK224.out) hb);have n4_ := Aside0.mk (below_step (by repeat (first | (with_reducible first | exact HB.out | apply below_alloc | apply pw_below_drewN | apply below_drew1 | refine below_set ?_ GE209.out | refine below_set ?_ GE224.out) | exact HB.out)) hb);clear HO216;clear HO223;clear BK209;clear BK224;clear HB;have HO216 := n0_;have HO223 := n1_;have BK209 := n2_;have BK224 := n3_;have HB := n4_;clear n0_ n1_ n2_ n3_ n4_;(try clear hb);(try clear hb2);(try clear hk);(try clear hi)))
          have n0_ := Aside0.mk (Kd.R_drew HO216.out)
          have n1_ := Aside0.mk (Kd.R_drew HO223.out)
          have n2_ := Aside0.mk (blk_drew BK209.out)
          have n3_ := Aside0.mk (blk_drew BK224.out)
          have n4_ := Aside0.mk (below_drew1 HB.out)
          clear HO216
          clear HO223
          clear BK209
          clear BK224
          clear HB
          have HO216 := n0_
          have HO223 := n1_
          have BK209 := n2_
          have BK224 := n3_
          have HB := n4_
          clear n0_ n1_ n2_ n3_ n4_
          refine start_ (n := 5) (S := fun w' => w'.cell? ⟨gb224,0,none⟩ = some (.int .i64 t218) ∧ w'.cell? ⟨gb224,1,none⟩ = some (.int .i64 t219) ∧ w'.cell? ⟨gb224,2,none⟩ = some (.string t220) ∧ w'.cell? ⟨gb224,3,none⟩ = some (.slice Ao37 t221.length co37) ∧ w'.cell? ⟨gb209,0,none⟩ = some (.int .i64 a0_0) ∧ w'.cell? ⟨gb209,1,none⟩ = some (.int .i64 a0_1) ∧ w'.cell? ⟨gb209,2,none⟩ = some (.string a0_2) ∧ w'.cell? ⟨gb209,3,none⟩ = some (.slice A0_3 l0_3.length c0_3)) (ds := []) #[false,false,false,false,false] (by kernel_rfl) rfl rfl ⟨(blk_cell BK224.out 0).trans rfl,(blk_cell BK224.out 1).trans rfl,(blk_cell BK224.out 2).trans rfl,(blk_cell BK224.out 3).trans rfl,(blk_cell BK209.out 0).trans rfl,(blk_cell BK209.out 1).trans rfl,(blk_cell BK209.out 2).trans rfl,(blk_cell BK209.out 3).trans rfl⟩ (fun hHeld => ?_)
          generalize w38.drew = w39 at HO216 HO223 BK209 BK224 HB hHeld ⊢
          refine take_ (i := 0) (N := some 26) (v := ?_) (a' := ?_) #[true,false,false,false,false] rfl rfl (by kernel_rfl) (fun _ _ _ h => h) (Or.inl ⟨by rfl,?_⟩) hHeld ?_ ?_
          rotate_left
          · rintro w' ⟨s0,s1,s2,s3,s4,s5,s6,s7⟩
            go_simp
            with_reducible rfl
          rotate_left
          · simp only [Act.put,List.setIfInBounds_toArray,List.set_cons_zero,List.set_cons_succ,i64_w,i32_w]
            rfl
          refine take_ (i := 1) (N := some 27) (v := ?_) (a' := ?_) #[true,true,false,false,false] rfl rfl (by kernel_rfl) (fun _ _ _ h => h) (Or.inl ⟨by rfl,?_⟩) hHeld ?_ ?_
          rotate_left
          · rintro w' ⟨s0,s1,s2,s3,s4,s5,s6,s7⟩
            go_simp
            with_reducible rfl
          rotate_left
          · simp only [Act.put,List.setIfInBounds_toArray,List.set_cons_zero,List.set_cons_succ,i64_w,i32_w]
            rfl
          refine one_ (i := 2) (N := some 28) #[true,true,true,false,false] rfl rfl (by kernel_rfl) (by decide) (fun K hK => ?_)
          refine goes_ Try.func6 (by kernel_rfl) rfl #[.agg #[.int .i64 a0_0,.int .i64 a0_1,.string a0_2,.slice A0_3 l0_3.length c0_3]] (by rfl) rfl rfl (by (try simp only [List.map_toArray,List.map_cons,List.map_nil]);first | done | rfl | (simp only [List.length_drop,List.length_take];rfl)) ?_
          with_reducible refine (laws_toPat.calls kj3 a0_0 a0_1 a0_2 _ _ l0_3 t226 t227 t228 t229 _ ?side1 ?side2 A25.out).mono ?_
          (case side1 => repeat (first | exact (Kd.C_below HR0_3.out HB.out) | (with_reducible refine Kd.C_alloc ?_ _) | (with_reducible refine Kd.C_drewN ?_ _) | (with_reducible refine Kd.C_drew ?_)))
          (case side2 => exact HC0_3.out)
          rintro e w40 ⟨v230,rfl,ho0,hb⟩
          refine ⟨_,rfl,?_⟩
          have n0_ := Aside0.mk (Kd.R_elder' (by (with_reducible repeat (first | apply Kd.R_alloc | apply Kd.R_drewN | apply Kd.R_drew));exact HO216.out) (Kd.R_base ho0) hb)
          have n1_ := Aside0.mk (Kd.R_elder' (by (with_reducible repeat (first | apply Kd.R_alloc | apply Kd.R_drewN | apply Kd.R_drew));exact HO223.out) (Kd.R_base ho0) hb)
          have n2_ := Aside0.mk (Kd.R_lower (Kd.R_newB (Kd.R_new' (Kd.R_new' ho0 (Kd.R_lt (by (with_reducible repeat (first | apply Kd.R_alloc | apply Kd.R_drewN | apply Kd.R_drew));exact HO216.out))) (Kd.R_lt (by (with_reducible repeat (first | apply Kd.R_alloc | apply Kd.R_drewN | apply Kd.R_drew));exact HO223.out))) (g := gb224) (o := .cells #[.int .i64 t218,.int .i64 t219,.string t220,.slice Ao37 t221.length co37] 29 (0,0)) (by (with_reducible repeat (first | refine blk_drewN ?_ _ | refine blk_drew ?_ | refine blk_alloc ?_ _));exact BK224.out)) (below_size (by repeat (first | (with_reducible first | exact HB.out | apply below_alloc | apply pw_below_drewN | apply below_drew1 | refine below_set ?_ GE209.out | refine below_set ?_ GE224.out) | exact HB.out))))
          have n3_ := Aside0.mk (blk_below (g := gb209) (o := .cells #[.int .i64 a0_0,.int .i64 a0_1,.string a0_2,.slice A0_3 l0_3.length c0_3] 24 (0,0)) (by (with_reducible repeat (first | refine blk_drewN ?_ _ | refine blk_drew ?_ | refine blk_alloc ?_ _));exact BK209.out) hb)
          have n4_ := Aside0.mk (blk_below (g := gb224) (o := .cells #[.int .i64 t218,.int .i64 t219,.string t220,.slice Ao37 t221.length co37] 29 (0,0)) (by (with_reducible repeat (first | refine blk_drewN ?_ _ | refine blk_drew ?_ | refine blk_alloc ?_ _));exact BK224.out) hb)
          have n5_ := Aside0.mk (below_step (by repeat (first | (with_reducible first | exact HB.out | apply below_alloc | apply pw_below_drewN | apply below_drew1 | refine below_set ?_ GE209.out | refine below_set ?_ GE224.out) | exact HB.out)) hb)
          clear HO216
          clear HO223
          clear BK209
          clear BK224
          clear HB
          have HO216 := n0_
          have HO223 := n1_
          have HO231 := n2_
          have BK209 := n3_
          have BK224 := n4_
          have HB := n5_
          clear n0_ n1_ n2_ n3_ n4_ n5_
          (try clear hb)
          (try clear hb2)
          (try clear hk)
          (try clear hi)
          (try clear ho0)
          obtain ⟨Ao41,co41,eo41⟩ := Kd.R_slice HO231.out
          (first | subst eo41 | (injection eo41 with f1_ f2_ f3_;have f4_ := f1_.symm;have f5_ := f3_.symm;clear f1_ f2_ f3_;subst f4_;subst f5_))
          refine hK.out _ _ ⟨(blk_cell BK224.out 0).trans rfl,(blk_cell BK224.out 1).trans rfl,(blk_cell BK224.out 2).trans rfl,(blk_cell BK224.out 3).trans rfl,(blk_cell BK209.out 0).trans rfl,(blk_cell BK209.out 1).trans rfl,(blk_cell BK209.out 2).trans rfl,(blk_cell BK209.out 3).trans rfl⟩ (fun hHeld => ?_)
          clear hK K
          refine norm_ (a' := ?_) ?_ ?_
          rotate_left
          · show Act.put _ (some 28) _ = _
            simp only [Act.put,List.setIfInBounds_toArray,List.set_cons_zero,List.set_cons_succ,i64_w,i32_w]
            rfl
          refine one_ (i := 3) (N := some 29) #[true,true,true,true,false] rfl rfl (by kernel_rfl) (by decide) (fun K hK => ?_)
          refine goes_ Try.func8 (by kernel_rfl) rfl #[.agg #[.int .i64 t218,.int .i64 t219,.string t220,.slice Ao37 t221.length co37],.agg #[.int .i64 t226,.int .i64 t227,.string t228,.slice Ao41 t229.length co41]] (by rfl) rfl rfl (by (try simp only [List.map_toArray,List.map_cons,List.map_nil]);first | done | rfl | (simp only [List.length_drop,List.length_take];rfl)) ?_
          with_reducible refine (laws_eqPat.calls kj3 t218 t219 t220 _ _ t221 t226 t227 t228 _ _ t229 true _ ?side1 ?side2 ?side3 ?side4 A26.out).mono ?_
          (case side1 => repeat (first | exact (Kd.R_reads' HO223.out).2.2 | (with_reducible refine Kd.C_alloc ?_ _) | (with_reducible refine Kd.C_drewN ?_ _) | (with_reducible refine Kd.C_drew ?_)))
          (case side2 => exact (Kd.R_reads' HO223.out).2.1)
          (case side3 => repeat (first | exact (Kd.R_reads' HO231.out).2.2 | (with_reducible refine Kd.C_alloc ?_ _) | (with_reducible refine Kd.C_drewN ?_ _) | (with_reducible refine Kd.C_drew ?_)))
          (case side4 => exact (Kd.R_reads' HO231.out).2.1)
          rintro e w42 ⟨rfl,hb⟩
          refine ⟨_,rfl,?_⟩
          have n0_ := Aside0.mk (Kd.R_below (by (with_reducible repeat (first | apply Kd.R_alloc | apply Kd.R_drewN | apply Kd.R_drew));exact HO216.out) hb)
          have n1_ := Aside0.mk (Kd.R_below (by (with_reducible repeat (first | apply Kd.R_alloc | apply Kd.R_drewN | apply Kd.R_drew));exact HO223.out) hb)
          have n2_ := Aside0.mk (Kd.R_below (by (with_reducible repeat (first | apply Kd.R_alloc | apply Kd.R_drewN | apply Kd.R_drew));exact HO231.out) hb)
          have n3_ := Aside0.mk (blk_below (g := gb209) (o := .cells #[.int .i64 a0_0,.int .i64 a0_1,.string a0_2,.slice A0_3 l0_3.length c0_3] 24 (0,0)) (by (with_reducible repeat (first | refine blk_drewN ?_ _ | refine blk_drew ?_ | refine blk_alloc ?_ _));exact BK209.out) hb)
          have n4_ := Aside0.mk (blk_below (g := gb224) (o := .cells #[.int .i64 t218,.int .i64 t219,.string t220,.slice Ao37 t221.length co37] 29 (0,0)) (by (with_reducible repeat (first | refine blk_drewN ?_ _ | refine blk_drew ?_ | refine blk_alloc ?_ _));exact BK224.out) hb)
          have n5_ := Aside0.mk (below_step (by repeat (first | (with_reducible first | exact HB.out | apply below_alloc | apply pw_below_drewN | apply below_drew1 | refine below_set ?_ GE209.out | refine below_set ?_ GE224.out) | exact HB.out)) hb)
          clear HO216
          clear HO223
          clear HO231
          clear BK209
          clear BK224
          clear HB
          have HO216 := n0_
          have HO223 := n1_
          have HO231 := n2_
          have BK209 := n3_
          have BK224 := n4_
          have HB := n5_
          clear n0_ n1_ n2_ n3_ n4_ n5_
          (try clear hb)
          (try clear hb2)
          (try clear hk)
          (try clear hi)
          refine hK.out _ _ ⟨(blk_cell BK224.out 0).trans rfl,(blk_cell BK224.out 1).trans rfl,(blk_cell BK224.out 2).trans rfl,(blk_cell BK224.out 3).trans rfl,(blk_cell BK209.out 0).trans rfl,(blk_cell BK209.out 1).trans rfl,(blk_cell BK209.out 2).trans rfl,(blk_cell BK209.out 3).trans rfl⟩ (fun hHeld => ?_)
          clear hK K
          refine norm_ (a' := ?_) ?_ ?_
          rotate_left
          · show Act.put _ (some 29) _ = _
            simp only [Act.put,List.setIfInBounds_toArray,List.set_cons_zero,List.set_cons_succ,i64_w,i32_w]
            rfl
          refine pure_ (i := 4) (N := some 30) (v := ?_) (a' := ?_) #[true,true,true,true,true] rfl rfl (by kernel_rfl) (fun _ _ _ h => h) (Or.inl ⟨by rfl,?_⟩) ?_ ?_
          rotate_left
          · intro w'
            go_simp
            with_reducible rfl
          rotate_left
          · simp only [Act.put,List.setIfInBounds_toArray,List.set_cons_zero,List.set_cons_succ,i64_w,i32_w]
            rfl
          refine done_ (by kernel_rfl) ?_
          try go_wp2
          go_ret
          exact ⟨by first | rfl | (simp [errW_none,errW_some] <;> rfl) | (simp [*,errW_none,errW_some] <;> rfl) | (rw [isEmpty_ne];first | done | rfl) | (rw [isEmpty_be];first | done | rfl),by repeat (first | (with_reducible first | exact HB.out | apply below_alloc | apply pw_below_drewN | apply below_drew1 | refine below_set ?_ GE209.out | refine below_set ?_ GE224.out) | exact HB.out)⟩
        · replace c27 := Bool.eq_false_iff.mpr c27
          subst c27
          have H1 : (some false) = some r := by rw [if_neg (show ¬ (false = true) by decide)] at H;exact H
          clear H
          have H := H1
          clear H1
          obtain rfl := Option.some.inj H
          have hcz43_0 : wc.cell? ⟨gb209,0,none⟩ = some (.int .i64 a0_0) := (blk_cell BK209.out 0).trans rfl
          have hcz43_1 : wc.cell? ⟨gb209,1,none⟩ = some (.int .i64 a0_1) := (blk_cell BK209.out 1).trans rfl
          have hcz43_2 : wc.cell? ⟨gb209,2,none⟩ = some (.string a0_2) := (blk_cell BK209.out 2).trans rfl
          have hcz43_3 : wc.cell? ⟨gb209,3,none⟩ = some (.slice A0_3 l0_3.length c0_3) := (blk_cell BK209.out 3).trans rfl
          have hfz43_0 := blk_frozen BK209.out 0
          have hfz43_1 := blk_frozen BK209.out 1
          have hfz43_2 := blk_frozen BK209.out 2
          have hfz43_3 := blk_frozen BK209.out 3
          try go_wp2_with (first | ((with_reducible refine gate_callee (f := 6) rfl ?_);refine goesL_ (some 15) rfl rfl Try.func6 (by kernel_rfl) rfl #[.agg #[.int .i64 a0_0,.int .i64 a0_1,.string a0_2,.slice A0_3 l0_3.length c0_3]] rfl (by (try simp only [List.map_toArray,List.map_cons,List.map_nil]);first | done | rfl | (simp only [List.length_drop,List.length_take];rfl)) ?_;(with_reducible refine (laws_toPat.calls kj3 a0_0 a0_1 a0_2 _ _ l0_3 t211 t212 t213 t214 _ ?side1 ?side2 A9.out).mono ?_);(case side1 => repeat (first | exact (Kd.C_below HR0_3.out HB.out) | (with_reducible refine Kd.C_alloc ?_ _) | (with_reducible refine Kd.C_drewN ?_ _) | (with_reducible refine Kd.C_drew ?_)));(case side2 => exact HC0_3.out);rintro e w44 ⟨v215,rfl,ho0,hb⟩;refine ⟨_,rfl,?_⟩;have n0_ := Aside0.mk (Kd.R_lower ho0 (below_size (by repeat (first | (with_reducible first | exact HB.out | apply below_alloc | apply pw_below_drewN | apply below_drew1 | refine below_set ?_ GE209.out) | exact HB.out))));have n1_ := Aside0.mk (blk_below (g := gb209) (o := .cells #[.int .i64 a0_0,.int .i64 a0_1,.string a0_2,.slice A0_3 l0_3.length c0_3] 24 (0,0)) (by (with_reducible repeat (first | refine blk_drewN ?_ _ | refine blk_drew ?_ | refine blk_alloc ?_ _));exact BK209.out) hb);have n2_ := Aside0.mk (below_step (by repeat (first | (with_reducible first | exact HB.out | apply below_alloc | apply pw_below_drewN | apply below_drew1 | refine below_set ?_ GE209.out) | exact HB.out)) hb);clear BK209;clear HB;have HO216 := n0_;have BK209 := n1_;have HB := n2_;clear n0_ n1_ n2_;(try clear hb);(try clear hb2);(try clear hk);(try clear hi);(try clear ho0);obtain ⟨Ao45,co45,eo45⟩ := Kd.R_slice HO216.out;subst eo45) | ((with_reducible refine gate_callee (f := 5) rfl ?_);refine goesL_ (some 17) rfl rfl Try.func5 (by kernel_rfl) rfl #[.agg #[.int .i64 t211,.int .i64 t212,.string t213,.slice Ao45 t214.length co45],.int .i64 a1] rfl (by (try simp only [List.map_toArray,List.map_cons,List.map_nil]);first | done | rfl | (simp only [List.length_drop,List.length_take];rfl)) ?_;(with_reducible refine (spec_PatFits.calls kj3 t211 t212 t213 _ _ t214 a1 t217 _ ?side1 ?side2 A10.out).mono ?_);(case side1 => repeat (first | exact (Kd.R_reads' HO216.out).2.2 | (with_reducible refine Kd.C_alloc ?_ _) | (with_reducible refine Kd.C_drewN ?_ _) | (with_reducible refine Kd.C_drew ?_)));(case side2 => exact (Kd.R_reads' HO216.out).2.1);rintro e w46 ⟨rfl,hb⟩;refine ⟨_,rfl,?_⟩;have n0_ := Aside0.mk (Kd.R_below (by (with_reducible repeat (first | apply Kd.R_alloc | apply Kd.R_drewN | apply Kd.R_drew));exact HO216.out) hb);have n1_ := Aside0.mk (blk_below (g := gb209) (o := .cells #[.int .i64 a0_0,.int .i64 a0_1,.string a0_2,.slice A0_3 l0_3.length c0_3] 24 (0,0)) (by (with_reducible repeat (first | refine blk_drewN ?_ _ | refine blk_drew ?_ | refine blk_alloc ?_ _));exact BK209.out) hb);have n2_ := Aside0.mk (below_step (by repeat (first | (with_reducible first | exact HB.out | apply below_alloc | apply pw_below_drewN | apply below_drew1 | refine below_set ?_ GE209.out) | exact HB.out)) hb);clear HO216;clear BK209;clear HB;have HO216 := n0_;have BK209 := n1_;have HB := n2_;clear n0_ n1_ n2_;(try clear hb);(try clear hb2);(try clear hk);(try clear hi);have hcz47_0 : w46.cell? ⟨gb209,0,none⟩ = some (.int .i64 a0_0) := (blk_cell BK209.out 0).trans rfl;have hcz47_1 : w46.cell? ⟨gb209,1,none⟩ = some (.int .i64 a0_1) := (blk_cell BK209.out 1).trans rfl;have hcz47_2 : w46.cell? ⟨gb209,2,none⟩ = some (.string a0_2) := (blk_cell BK209.out 2).trans rfl;have hcz47_3 : w46.cell? ⟨gb209,3,none⟩ = some (.slice A0_3 l0_3.length c0_3) := (blk_cell BK209.out 3).trans rfl;have hfz47_0 := blk_frozen BK209.out 0;have hfz47_1 := blk_frozen BK209.out 1;have hfz47_2 := blk_frozen BK209.out 2;have hfz47_3 := blk_frozen BK209.out 3) | ((with_reducible refine gate_callee (f := 6) rfl ?_);refine goesL_ (some 19) rfl rfl Try.func6 (by kernel_rfl) rfl #[.agg #[.int .i64 a0_0,.int .i64 a0_1,.string a0_2,.slice A0_3 l0_3.length c0_3]] rfl (by (try simp only [List.map_toArray,List.map_cons,List.map_nil]);first | done | rfl | (simp only [List.length_drop,List.length_take];rfl)) ?_;(with_reducible refine (laws_toPat.calls kj3 a0_0 a0_1 a0_2 _ _ l0_3 t218 t219 t220 t221 _ ?side1 ?side2 A11.out).mono ?_);(case side1 => repeat (first | exact (Kd.C_below HR0_3.out HB.out) | (with_reducible refine Kd.C_alloc ?_ _) | (with_reducible refine Kd.C_drewN ?_ _) | (with_reducible refine Kd.C_drew ?_)));(case side2 => exact HC0_3.out);rintro e w48 ⟨v222,rfl,ho0,hb⟩;refine ⟨_,rfl,?_⟩;have n0_ := Aside0.mk (Kd.R_elder' (by (with_reducible repeat (first | apply Kd.R_alloc | apply Kd.R_drewN | apply Kd.R_drew));exact HO216.out) (Kd.R_base ho0) hb);have n1_ := Aside0.mk (Kd.R_lower (Kd.R_new' ho0 (Kd.R_lt (by (with_reducible repeat (first | apply Kd.R_alloc | apply Kd.R_drewN | apply Kd.R_drew));exact HO216.out))) (below_size (by repeat (first | (with_reducible first | exact HB.out | apply below_alloc | apply pw_below_drewN | apply below_drew1 | refine below_set ?_ GE209.out) | exact HB.out))));have n2_ := Aside0.mk (blk_below (g := gb209) (o := .cells #[.int .i64 a0_0,.int .i64 a0_1,.string a0_2,.slice A0_3 l0_3.length c0_3] 24 (0,0)) (by (with_reducible repeat (first | refine blk_drewN ?_ _ | refine blk_drew ?_ | refine blk_alloc ?_ _));exact BK209.out) hb);have n3_ := Aside0.mk (below_step (by repeat (first | (with_reducible first | exact HB.out | apply below_alloc | apply pw_below_drewN | apply below_drew1 | refine below_set ?_ GE209.out) | exact HB.out)) hb);clear HO216;clear BK209;clear HB;have HO216 := n0_;have HO223 := n1_;have BK209 := n2_;have HB := n3_;clear n0_ n1_ n2_ n3_;(try clear hb);(try clear hb2);(try clear hk);(try clear hi);(try clear ho0)) | ((with_reducible refine gate_dst (N := 7) rfl ?_);refine box_event ?hg (N := 7) ?hd (cs := #[.int .i64 0,.int .i64 0,.string (⟨#[]⟩ : ByteArray),.slice none 0 0]) (t := 29) ?hr ?_;(case hd => rfl);(case hg => rfl);(case hr => first | (go_simp;done) | (go_simp;rfl));intro gb224 hg w49 hbox hb;have n0_ := Aside0.mk (Kd.R_below (Kd.R_elderB (by (with_reducible repeat (first | apply Kd.R_alloc | apply Kd.R_drewN | apply Kd.R_drew));exact HO216.out) gb224 (Nat.le_of_eq hg.symm)) hb);have n1_ := Aside0.mk (Kd.R_below (Kd.R_elderB (by (with_reducible repeat (first | apply Kd.R_alloc | apply Kd.R_drewN | apply Kd.R_drew));exact HO223.out) gb224 (Nat.le_of_eq hg.symm)) hb);have n2_ := Aside0.mk (blk_below (g := gb209) (o := .cells #[.int .i64 a0_0,.int .i64 a0_1,.string a0_2,.slice A0_3 l0_3.length c0_3] 24 (0,0)) (by (with_reducible repeat (first | refine blk_drewN ?_ _ | refine blk_drew ?_ | refine blk_alloc ?_ _));exact BK209.out) hb);have n3_ := Aside0.mk (below_step (by repeat (first | (with_reducible first | exact HB.out | apply below_alloc | apply pw_below_drewN | apply below_drew1 | refine below_set ?_ GE209.out) | exact HB.out)) hb);have n4_ := Aside0.mk (hbox);have n5_ := Aside0.mk ((by rw [hg];exact (below_size (by repeat (first | (with_reducible first | exact HB.out | apply below_alloc | apply pw_below_drewN | apply below_drew1 | refine below_set ?_ GE209.out) | exact HB.out))) : w.heap.size ≤ gb224));have n6_ := Aside0.mk ((by rw [hg];exact (below_size (by repeat (first | (with_reducible first | exact HB.out | apply below_alloc | apply pw_below_drewN | apply below_drew1 | refine below_set ?_ GE209.out) | exact HB.out))) : w.heap.size ≤ gb224));have n7_ := Aside0.mk ((by rw [hg];exact Nat.ne_of_lt (blk_lt (g := gb209) (o := .cells #[.int .i64 a0_0,.int .i64 a0_1,.string a0_2,.slice A0_3 l0_3.length c0_3] 24 (0,0)) (by (with_reducible repeat (first | refine blk_drewN ?_ _ | refine blk_drew ?_ | refine blk_alloc ?_ _));exact BK209.out)) : gb209 ≠ gb224));have n8_ := Aside0.mk ((by rw [hg];exact Nat.ne_of_gt (blk_lt (g := gb209) (o := .cells #[.int .i64 a0_0,.int .i64 a0_1,.string a0_2,.slice A0_3 l0_3.length c0_3] 24 (0,0)) (by (with_reducible repeat (first | refine blk_drewN ?_ _ | refine blk_drew ?_ | refine blk_alloc ?_ _));exact BK209.out)) : gb224 ≠ gb209));clear HO216;clear HO223;clear BK209;clear HB;have HO216 := n0_;have HO223 := n1_;have BK209 := n2_;have HB := n3_;have BK224 := n4_;have GW224 := n5_;have GE224 := n6_;have NB209_224 := n7_;have NB224_209 := n8_;clear n0_ n1_ n2_ n3_ n4_ n5_ n6_ n7_ n8_;clear hb hbox hg;have hnb50 := NB224_209.out;have hnc50 := NB209_224.out;have hcz51_0 : w49.cell? ⟨gb224,0,none⟩ = some (.int .i64 0) := (blk_cell BK224.out 0).trans rfl;have hcz51_1 : w49.cell? ⟨gb224,1,none⟩ = some (.int .i64 0) := (blk_cell BK224.out 1).trans rfl;have hcz51_2 : w49.cell? ⟨gb224,2,none⟩ = some (.string (⟨#[]⟩ : ByteArray)) := (blk_cell BK224.out 2).trans rfl;have hcz51_3 : w49.cell? ⟨gb224,3,none⟩ = some (.slice none 0 0) := (blk_cell BK224.out 3).trans rfl;have hfz51_0 := blk_frozen BK224.out 0;have hfz51_1 := blk_frozen BK224.out 1;have hfz51_2 := blk_frozen BK224.out 2;have hfz51_3 := blk_frozen BK224.out 3;obtain ⟨Ao52,co52,eo52⟩ := Kd.R_slice HO223.out;subst eo52) | ((with_reducible refine gate_callee (f := 7) rfl ?_);refine goesL_ (some 22) rfl rfl Try.func7 (by kernel_rfl) rfl #[.agg #[.int .i64 t218,.int .i64 t219,.string t220,.slice Ao52 t221.length co52],.int .i64 a1] rfl (by (try simp only [List.map_toArray,List.map_cons,List.map_nil]);first | done | rfl | (simp only [List.length_drop,List.length_take];rfl)) ?_;(with_reducible refine (impl_PatFits.calls kj3 t218 t219 t220 _ _ t221 a1 t225 _ ?side1 ?side2 A12.out).mono ?_);(case side1 => refine (Kd.R_reads' (e := 29) (base := w.heap.size) (ok := fun k_ => ((True ∧ some k_ ≠ (.slice Ao45 t214.length co45 : Value).ownBlock) ∧ k_ ≠ gb224)) (n := t221.length) (c := co52) ?_).2.2;exact (by (with_reducible repeat (first | apply Kd.R_alloc | apply Kd.R_drewN | apply Kd.R_drew));exact (Kd.R_mono (Kd.R_far (p := ⟨gb224,3,none⟩) (Kd.R_far (p := ⟨gb224,2,none⟩) (Kd.R_far (p := ⟨gb224,1,none⟩) (Kd.R_far (p := ⟨gb224,0,none⟩) (Kd.R_mono HO223.out (fun k_ hk => (⟨hk,hk.2⟩ : _ ∧ k_ ≠ gb224))) (fun _ hk => hk.2) (.int .i64 t218)) (fun _ hk => hk.2) (.int .i64 t219)) (fun _ hk => hk.2) (.string t220)) (fun _ hk => hk.2) (.slice Ao52 t221.length co52)) (fun _ h_ => h_.1))));(case side2 => exact (Kd.R_reads' HO223.out).2.1);rintro e w53 ⟨rfl,hb⟩;refine ⟨_,rfl,?_⟩;have n0_ := Aside0.mk (Kd.R_below (by (with_reducible repeat (first | apply Kd.R_alloc | apply Kd.R_drewN | apply Kd.R_drew));exact (Kd.R_mono (Kd.R_far (p := ⟨gb224,3,none⟩) (Kd.R_far (p := ⟨gb224,2,none⟩) (Kd.R_far (p := ⟨gb224,1,none⟩) (Kd.R_far (p := ⟨gb224,0,none⟩) (Kd.R_mono HO216.out (fun k_ hk => (⟨hk,hk.2⟩ : _ ∧ k_ ≠ gb224))) (fun _ hk => hk.2) (.int .i64 t218)) (fun _ hk => hk.2) (.int .i64 t219)) (fun _ hk => hk.2) (.string t220)) (fun _ hk => hk.2) (.slice Ao52 t221.length co52)) (fun _ h_ => h_.1))) hb);have n1_ := Aside0.mk (Kd.R_below (by (with_reducible repeat (first | apply Kd.R_alloc | apply Kd.R_drewN | apply Kd.R_drew));exact (Kd.R_mono (Kd.R_far (p := ⟨gb224,3,none⟩) (Kd.R_far (p := ⟨gb224,2,none⟩) (Kd.R_far (p := ⟨gb224,1,none⟩) (Kd.R_far (p := ⟨gb224,0,none⟩) (Kd.R_mono HO223.out (fun k_ hk => (⟨hk,hk.2⟩ : _ ∧ k_ ≠ gb224))) (fun _ hk => hk.2) (.int .i64 t218)) (fun _ hk => hk.2) (.int .i64 t219)) (fun _ hk => hk.2) (.string t220)) (fun _ hk => hk.2) (.slice Ao52 t221.length co52)) (fun _ h_ => h_.1))) hb);have n2_ := Aside0.mk (blk_below (g := gb209) (o := .cells #[.int .i64 a0_0,.int .i64 a0_1,.string a0_2,.slice A0_3 l0_3.length c0_3] 24 (0,0)) (by (with_reducible repeat (first | refine blk_drewN ?_ _ | refine blk_drew ?_ | refine blk_alloc ?_ _));refine blk_far ?_ NB209_224.out _;(with_reducible repeat (first | refine blk_drewN ?_ _ | refine blk_drew ?_ | refine blk_alloc ?_ _));refine blk_far ?_ NB209_224.out _;(with_reducible repeat (first | refine blk_drewN ?_ _ | refine blk_drew ?_ | refine blk_alloc ?_ _));refine blk_far ?_ NB209_224.out _;(with_reducible repeat (first | refine blk_drewN ?_ _ | refine blk_drew ?_ | refine blk_alloc ?_ _));refine blk_far ?_ NB209_224.out _;(with_reducible repeat (first | refine blk_drewN ?_ _ | refine blk_drew ?_ | refine blk_alloc ?_ _));exact BK209.out) hb);have n3_ := Aside0.mk (blk_below (g := gb224) (o := .cells #[.int .i64 t218,.int .i64 t219,.string t220,.slice Ao52 t221.length co52] 29 (0,0)) (by (with_reducible repeat (first | refine blk_drewN ?_ _ | refine blk_drew ?_ | refine blk_alloc ?_ _));refine blk_put (cs := #[.int .i64 t218,.int .i64 t219,.string t220,.slice none 0 0]) ?_ 3 _ rfl;(with_reducible repeat (first | refine blk_drewN ?_ _ | refine blk_drew ?_ | refine blk_alloc ?_ _));refine blk_put (cs := #[.int .i64 t218,.int .i64 t219,.string (⟨#[]⟩ : ByteArray),.slice none 0 0]) ?_ 2 _ rfl;(with_reducible repeat (first | refine blk_drewN ?_ _ | refine blk_drew ?_ | refine blk_alloc ?_ _));refine blk_put (cs := #[.int .i64 t218,.int .i64 0,.string (⟨#[]⟩ : ByteArray),.slice none 0 0]) ?_ 1 _ rfl;(with_reducible repeat (first | refine blk_drewN ?_ _ | refine blk_drew ?_ | refine blk_alloc ?_ _));refine blk_put (cs := #[.int .i64 0,.int .i64 0,.string (⟨#[]⟩ : ByteArray),.slice none 0 0]) ?_ 0 _ rfl;(with_reducible repeat (first | refine blk_drewN ?_ _ | refine blk_drew ?_ | refine blk_alloc ?_ _));exact BK224.out) hb);have n4_ := Aside0.mk (below_step (by repeat (first | (with_reducible first | exact HB.out | apply below_alloc | apply pw_below_drewN | apply below_drew1 | refine below_set ?_ GE209.out | refine below_set ?_ GE224.out) | exact HB.out)) hb);clear HO216;clear HO223;clear BK209;clear BK224;clear HB;have HO216 := n0_;have HO223 := n1_;have BK209 := n2_;have BK224 := n3_;have HB := n4_;clear n0_ n1_ n2_ n3_ n4_;(try clear hb);(try clear hb2);(try clear hk);(try clear hi)))
          have n0_ := Aside0.mk (Kd.R_drew HO216.out)
          have n1_ := Aside0.mk (Kd.R_drew HO223.out)
          have n2_ := Aside0.mk (blk_drew BK209.out)
          have n3_ := Aside0.mk (blk_drew BK224.out)
          have n4_ := Aside0.mk (below_drew1 HB.out)
          clear HO216
          clear HO223
          clear BK209
          clear BK224
          clear HB
          have HO216 := n0_
          have HO223 := n1_
          have BK209 := n2_
          have BK224 := n3_
          have HB := n4_
          clear n0_ n1_ n2_ n3_ n4_
          refine start_ (n := 5) (S := fun w' => w'.cell? ⟨gb224,0,none⟩ = some (.int .i64 t218) ∧ w'.cell? ⟨gb224,1,none⟩ = some (.int .i64 t219) ∧ w'.cell? ⟨gb224,2,none⟩ = some (.string t220) ∧ w'.cell? ⟨gb224,3,none⟩ = some (.slice Ao52 t221.length co52) ∧ w'.cell? ⟨gb209,0,none⟩ = some (.int .i64 a0_0) ∧ w'.cell? ⟨gb209,1,none⟩ = some (.int .i64 a0_1) ∧ w'.cell? ⟨gb209,2,none⟩ = some (.string a0_2) ∧ w'.cell? ⟨gb209,3,none⟩ = some (.slice A0_3 l0_3.length c0_3)) (ds := []) #[false,false,false,false,false] (by kernel_rfl) rfl rfl ⟨(blk_cell BK224.out 0).trans rfl,(blk_cell BK224.out 1).trans rfl,(blk_cell BK224.out 2).trans rfl,(blk_cell BK224.out 3).trans rfl,(blk_cell BK209.out 0).trans rfl,(blk_cell BK209.out 1).trans rfl,(blk_cell BK209.out 2).trans rfl,(blk_cell BK209.out 3).trans rfl⟩ (fun hHeld => ?_)
          generalize w53.drew = w54 at HO216 HO223 BK209 BK224 HB hHeld ⊢
          refine take_ (i := 0) (N := some 26) (v := ?_) (a' := ?_) #[true,false,false,false,false] rfl rfl (by kernel_rfl) (fun _ _ _ h => h) (Or.inl ⟨by rfl,?_⟩) hHeld ?_ ?_
          rotate_left
          · rintro w' ⟨s0,s1,s2,s3,s4,s5,s6,s7⟩
            go_simp
            with_reducible rfl
          rotate_left
          · simp only [Act.put,List.setIfInBounds_toArray,List.set_cons_zero,List.set_cons_succ,i64_w,i32_w]
            rfl
          refine take_ (i := 1) (N := some 27) (v := ?_) (a' := ?_) #[true,true,false,false,false] rfl rfl (by kernel_rfl) (fun _ _ _ h => h) (Or.inl ⟨by rfl,?_⟩) hHeld ?_ ?_
          rotate_left
          · rintro w' ⟨s0,s1,s2,s3,s4,s5,s6,s7⟩
            go_simp
            with_reducible rfl
          rotate_left
          · simp only [Act.put,List.setIfInBounds_toArray,List.set_cons_zero,List.set_cons_succ,i64_w,i32_w]
            rfl
          refine one_ (i := 2) (N := some 28) #[true,true,true,false,false] rfl rfl (by kernel_rfl) (by decide) (fun K hK => ?_)
          refine goes_ Try.func6 (by kernel_rfl) rfl #[.agg #[.int .i64 a0_0,.int .i64 a0_1,.string a0_2,.slice A0_3 l0_3.length c0_3]] (by rfl) rfl rfl (by (try simp only [List.map_toArray,List.map_cons,List.map_nil]);first | done | rfl | (simp only [List.length_drop,List.length_take];rfl)) ?_
          with_reducible refine (laws_toPat.calls kj3 a0_0 a0_1 a0_2 _ _ l0_3 t226 t227 t228 t229 _ ?side1 ?side2 A25.out).mono ?_
          (case side1 => repeat (first | exact (Kd.C_below HR0_3.out HB.out) | (with_reducible refine Kd.C_alloc ?_ _) | (with_reducible refine Kd.C_drewN ?_ _) | (with_reducible refine Kd.C_drew ?_)))
          (case side2 => exact HC0_3.out)
          rintro e w55 ⟨v230,rfl,ho0,hb⟩
          refine ⟨_,rfl,?_⟩
          have n0_ := Aside0.mk (Kd.R_elder' (by (with_reducible repeat (first | apply Kd.R_alloc | apply Kd.R_drewN | apply Kd.R_drew));exact HO216.out) (Kd.R_base ho0) hb)
          have n1_ := Aside0.mk (Kd.R_elder' (by (with_reducible repeat (first | apply Kd.R_alloc | apply Kd.R_drewN | apply Kd.R_drew));exact HO223.out) (Kd.R_base ho0) hb)
          have n2_ := Aside0.mk (Kd.R_lower (Kd.R_newB (Kd.R_new' (Kd.R_new' ho0 (Kd.R_lt (by (with_reducible repeat (first | apply Kd.R_alloc | apply Kd.R_drewN | apply Kd.R_drew));exact HO216.out))) (Kd.R_lt (by (with_reducible repeat (first | apply Kd.R_alloc | apply Kd.R_drewN | apply Kd.R_drew));exact HO223.out))) (g := gb224) (o := .cells #[.int .i64 t218,.int .i64 t219,.string t220,.slice Ao52 t221.length co52] 29 (0,0)) (by (with_reducible repeat (first | refine blk_drewN ?_ _ | refine blk_drew ?_ | refine blk_alloc ?_ _));exact BK224.out)) (below_size (by repeat (first | (with_reducible first | exact HB.out | apply below_alloc | apply pw_below_drewN | apply below_drew1 | refine below_set ?_ GE209.out | refine below_set ?_ GE224.out) | exact HB.out))))
          have n3_ := Aside0.mk (blk_below (g := gb209) (o := .cells #[.int .i64 a0_0,.int .i64 a0_1,.string a0_2,.slice A0_3 l0_3.length c0_3] 24 (0,0)) (by (with_reducible repeat (first | refine blk_drewN ?_ _ | refine blk_drew ?_ | refine blk_alloc ?_ _));exact BK209.out) hb)
          have n4_ := Aside0.mk (blk_below (g := gb224) (o := .cells #[.int .i64 t218,.int .i64 t219,.string t220,.slice Ao52 t221.length co52] 29 (0,0)) (by (with_reducible repeat (first | refine blk_drewN ?_ _ | refine blk_drew ?_ | refine blk_alloc ?_ _));exact BK224.out) hb)
          have n5_ := Aside0.mk (below_step (by repeat (first | (with_reducible first | exact HB.out | apply below_alloc | apply pw_below_drewN | apply below_drew1 | refine below_set ?_ GE209.out | refine below_set ?_ GE224.out) | exact HB.out)) hb)
          clear HO216
          clear HO223
          clear BK209
          clear BK224
          clear HB
          have HO216 := n0_
          have HO223 := n1_
          have HO231 := n2_
          have BK209 := n3_
          have BK224 := n4_
          have HB := n5_
          clear n0_ n1_ n2_ n3_ n4_ n5_
          (try clear hb)
          (try clear hb2)
          (try clear hk)
          (try clear hi)
          (try clear ho0)
          obtain ⟨Ao56,co56,eo56⟩ := Kd.R_slice HO231.out
          (first | subst eo56 | (injection eo56 with f1_ f2_ f3_;have f4_ := f1_.symm;have f5_ := f3_.symm;clear f1_ f2_ f3_;subst f4_;subst f5_))
          refine hK.out _ _ ⟨(blk_cell BK224.out 0).trans rfl,(blk_cell BK224.out 1).trans rfl,(blk_cell BK224.out 2).trans rfl,(blk_cell BK224.out 3).trans rfl,(blk_cell BK209.out 0).trans rfl,(blk_cell BK209.out 1).trans rfl,(blk_cell BK209.out 2).trans rfl,(blk_cell BK209.out 3).trans rfl⟩ (fun hHeld => ?_)
          clear hK K
          refine norm_ (a' := ?_) ?_ ?_
          rotate_left
          · show Act.put _ (some 28) _ = _
            simp only [Act.put,List.setIfInBounds_toArray,List.set_cons_zero,List.set_cons_succ,i64_w,i32_w]
            rfl
          refine one_ (i := 3) (N := some 29) #[true,true,true,true,false] rfl rfl (by kernel_rfl) (by decide) (fun K hK => ?_)
          refine goes_ Try.func8 (by kernel_rfl) rfl #[.agg #[.int .i64 t218,.int .i64 t219,.string t220,.slice Ao52 t221.length co52],.agg #[.int .i64 t226,.int .i64 t227,.string t228,.slice Ao56 t229.length co56]] (by rfl) rfl rfl (by (try simp only [List.map_toArray,List.map_cons,List.map_nil]);first | done | rfl | (simp only [List.length_drop,List.length_take];rfl)) ?_
          with_reducible refine (laws_eqPat.calls kj3 t218 t219 t220 _ _ t221 t226 t227 t228 _ _ t229 false _ ?side1 ?side2 ?side3 ?side4 A26.out).mono ?_
          (case side1 => repeat (first | exact (Kd.R_reads' HO223.out).2.2 | (with_reducible refine Kd.C_alloc ?_ _) | (with_reducible refine Kd.C_drewN ?_ _) | (with_reducible refine Kd.C_drew ?_)))
          (case side2 => exact (Kd.R_reads' HO223.out).2.1)
          (case side3 => repeat (first | exact (Kd.R_reads' HO231.out).2.2 | (with_reducible refine Kd.C_alloc ?_ _) | (with_reducible refine Kd.C_drewN ?_ _) | (with_reducible refine Kd.C_drew ?_)))
          (case side4 => exact (Kd.R_reads' HO231.out).2.1)
          rintro e w57 ⟨rfl,hb⟩
          refine ⟨_,rfl,?_⟩
          have n0_ := Aside0.mk (Kd.R_below (by (with_reducible repeat (first | apply Kd.R_alloc | apply Kd.R_drewN | apply Kd.R_drew));exact HO216.out) hb)
          have n1_ := Aside0.mk (Kd.R_below (by (with_reducible repeat (first | apply Kd.R_alloc | apply Kd.R_drewN | apply Kd.R_drew));exact HO223.out) hb)
          have n2_ := Aside0.mk (Kd.R_below (by (with_reducible repeat (first | apply Kd.R_alloc | apply Kd.R_drewN | apply Kd.R_drew));exact HO231.out) hb)
          have n3_ := Aside0.mk (blk_below (g := gb209) (o := .cells #[.int .i64 a0_0,.int .i64 a0_1,.string a0_2,.slice A0_3 l0_3.length c0_3] 24 (0,0)) (by (with_reducible repeat (first | refine blk_drewN ?_ _ | refine blk_drew ?_ | refine blk_alloc ?_ _));exact BK209.out) hb)
          have n4_ := Aside0.mk (blk_below (g := gb224) (o := .cells #[.int .i64 t218,.int .i64 t219,.string t220,.slice Ao52 t221.length co52] 29 (0,0)) (by (with_reducible repeat (first | refine blk_drewN ?_ _ | refine blk_drew ?_ | refine blk_alloc ?_ _));exact BK224.out) hb)
          have n5_ := Aside0.mk (below_step (by repeat (first | (with_reducible first | exact HB.out | apply below_alloc | apply pw_below_drewN | apply below_drew1 | refine below_set ?_ GE209.out | refine below_set ?_ GE224.out) | exact HB.out)) hb)
          clear HO216
          clear HO223
          clear HO231
          clear BK209
          clear BK224
          clear HB
          have HO216 := n0_
          have HO223 := n1_
          have HO231 := n2_
          have BK209 := n3_
          have BK224 := n4_
          have HB := n5_
          clear n0_ n1_ n2_ n3_ n4_ n5_
          (try clear hb)
          (try clear hb2)
          (try clear hk)
          (try clear hi)
          refine hK.out _ _ ⟨(blk_cell BK224.out 0).trans rfl,(blk_cell BK224.out 1).trans rfl,(blk_cell BK224.out 2).trans rfl,(blk_cell BK224.out 3).trans rfl,(blk_cell BK209.out 0).trans rfl,(blk_cell BK209.out 1).trans rfl,(blk_cell BK209.out 2).trans rfl,(blk_cell BK209.out 3).trans rfl⟩ (fun hHeld => ?_)
          clear hK K
          refine norm_ (a' := ?_) ?_ ?_
          rotate_left
          · show Act.put _ (some 29) _ = _
            simp only [Act.put,List.setIfInBounds_toArray,List.set_cons_zero,List.set_cons_succ,i64_w,i32_w]
            rfl
          refine pure_ (i := 4) (N := some 30) (v := ?_) (a' := ?_) #[true,true,true,true,true] rfl rfl (by kernel_rfl) (fun _ _ _ h => h) (Or.inl ⟨by rfl,?_⟩) ?_ ?_
          rotate_left
          · intro w'
            go_simp
            with_reducible rfl
          rotate_left
          · simp only [Act.put,List.setIfInBounds_toArray,List.set_cons_zero,List.set_cons_succ,i64_w,i32_w]
            rfl
          refine done_ (by kernel_rfl) ?_
          try go_wp2
          go_ret
          exact ⟨by first | rfl | (simp [errW_none,errW_some] <;> rfl) | (simp [*,errW_none,errW_some] <;> rfl) | (rw [isEmpty_ne];first | done | rfl) | (rw [isEmpty_be];first | done | rfl),by repeat (first | (with_reducible first | exact HB.out | apply below_alloc | apply pw_below_drewN | apply below_drew1 | refine below_set ?_ GE209.out | refine below_set ?_ GE224.out) | exact HB.out)⟩

/-- THE ONE PURE STATEMENT of laws_FnExactPatFits: yours. -/
def laws_FnExactPatFits.Pure : Prop := ∀ (a0_0 : Int) (a0_1 : Int) (a0_2 : ByteArray) (l0_3 : List (S24)) (a1 : Int),wf24 (⟨a0_0,a0_1,a0_2,l0_3⟩ : S24) → (Lit.int .i64 a1).wf = true → ∃ k,laws_FnExactPatFits.f k a0_0 a0_1 a0_2 l0_3 a1 = some true
theorem laws_FnExactPatFits.walk (k_ : Nat) : True := trivial

end Go.Proofs.Yteifhhbaiobioaa.QFnExactPatFits
