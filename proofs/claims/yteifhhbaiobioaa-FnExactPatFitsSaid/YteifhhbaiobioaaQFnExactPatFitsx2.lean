-- Written by a program of this workplace (print2.py) for this claim, over the print's words.
import Derived.Test.YteifhhbaiobioaaQFnExactPatFitsx0
import Derived.Test.YteifhhbaiobioaaQFnExactPatFitsx1
namespace Go.Proofs.Yteifhhbaiobioaa.QFnExactPatFits
open Go.RowKit Go.Proofs.YteifhhbaiobioaaW.PrintWords Go.Proofs.YteifhhbaiobioaaW.PrintLast Go.Proofs.YteifhhbaiobioaaW.PrintMore
attribute [local go_sem] max2_int min2_int max_two min_two max_three min_three max_four min_four   -- for this text's walks alone
set_option linter.unusedVariables false
set_option linter.unusedSimpArgs false

/-! ### spec_l9Shape: function 17 -/
def spec_l9Shape.j0 : Nat → Int → Int → Bool → Int → Int → ByteArray → List (S29) → Option (Bool)
  | 0,_,_,_,_,_,_,_ => none
  | k + 1,x5,x10,x55,x111000,x111001,x111002,x111003 => if x55 = true then (if x111002.toList = ([] : List UInt8) then (if x111001 = 0 then (some (decide (x5 ≤ 20))) else (some false)) else (some false)) else (if x10 = 6 then (if x111002.toList = ([] : List UInt8) then (if x111001 = 0 then ((spec_l1In.f x5 2 6).bind fun t114 => (some t114)) else (some false)) else (some false)) else (some false))
def spec_l9Shape.f (k : Nat) (a0_0 : Int) (a0_1 : Int) (a0_2 : ByteArray) (l0_3 : List (S29)) (a1 : Int) : Option (Bool) := if a0_0 = 1 then ((spec_l1In.f a0_1 0 1000000000000).bind fun t111 => (if t111 = true then (if a0_2.toList = ([] : List UInt8) then (some ((l0_3.length : Int) == 0)) else (some false)) else (some false))) else (if a0_0 = 2 then ((spec_l4Atom.f k a0_2).bind fun t112 => (if t112 = true then (if a0_1 = 0 then (some ((l0_3.length : Int) == 0)) else (some false)) else (some false))) else (if a0_0 = 3 then (if a0_2.toList = ([] : List UInt8) then (if (l0_3.length : Int) = 0 then ((spec_l1In.f a0_1 (-1) (wrap64 (a1 - 1))).bind fun t113 => (some t113)) else (some false)) else (some false)) else (if a0_0 = 4 then (spec_l9Shape.j0 k (l0_3.length : Int) a0_0 (a0_0 == 4) a0_0 a0_1 a0_2 l0_3) else (spec_l9Shape.j0 k (l0_3.length : Int) a0_0 (a0_0 == 5) a0_0 a0_1 a0_2 l0_3))))
theorem spec_l9Shape.mono_l : ∀ k,(∀ y0 y1 y2 y3 y4 y5 y6,LeO (spec_l9Shape.j0 k y0 y1 y2 y3 y4 y5 y6) (spec_l9Shape.j0 (k + 1) y0 y1 y2 y3 y4 y5 y6))
  | 0 => fun _ _ _ _ _ _ _ r h => by simp [spec_l9Shape.j0] at h
  | k + 1 => by
    have ih0 := spec_l9Shape.mono_l k
    · intro y0 y1 y2 y3 y4 y5 y6
      unfold spec_l9Shape.j0
      repeat' first
      | (with_reducible exact ih0 _ _ _ _ _ _ _)
      | (with_reducible exact spec_l4Atom.mono _ _)
      | (with_reducible exact LeO.refl _)
      | (with_reducible exact LeO.none _)
      | (with_reducible refine LeO.ite ?_ ?_)
      | (with_reducible refine LeO.bind ?_ (fun _ => ?_))
      | exact ih0 _ _ _ _ _ _ _
      | exact spec_l4Atom.mono _ _
      | exact LeO.none _
      | refine LeO.ite ?_ ?_
      | refine LeO.bind ?_ (fun _ => ?_)
theorem spec_l9Shape.mono : ∀ a0 a1 a2 a3 a4 k,LeO (spec_l9Shape.f k a0 a1 a2 a3 a4) (spec_l9Shape.f (k + 1) a0 a1 a2 a3 a4) := by
  intro a0 a1 a2 a3 a4 k
  have ih0 := spec_l9Shape.mono_l k
  unfold spec_l9Shape.f
  repeat' first
      | (with_reducible exact ih0 _ _ _ _ _ _ _)
      | (with_reducible exact spec_l4Atom.mono _ _)
      | (with_reducible exact LeO.refl _)
      | (with_reducible exact LeO.none _)
      | (with_reducible refine LeO.ite ?_ ?_)
      | (with_reducible refine LeO.bind ?_ (fun _ => ?_))
      | exact ih0 _ _ _ _ _ _ _
      | exact spec_l4Atom.mono _ _
      | exact LeO.none _
      | refine LeO.ite ?_ ?_
      | refine LeO.bind ?_ (fun _ => ?_)
set_option maxHeartbeats 8000000 in
set_option maxRecDepth 100000 in
theorem spec_l9Shape.calls (k : Nat) (a0_0 : Int) (a0_1 : Int) (a0_2 : ByteArray) (A0_3 : Option Addr) (c0_3 : Nat) (l0_3 : List (S29)) (a1 : Int) (r : Bool) (w : World) (hr0_3 : Kd.C k29 w A0_3 l0_3.length l0_3) (hc0_3 : l0_3.length ≤ c0_3) (h : spec_l9Shape.f k a0_0 a0_1 a0_2 l0_3 a1 = some r) :
    Calls Try.prog 17 #[.agg #[.int .i64 a0_0,.int .i64 a0_1,.string a0_2,.slice A0_3 l0_3.length c0_3],.int .i64 a1] w fun e w' => e = .returned (.bool r) ∧ Below w.heap.size w w' := by
  have hu29 := Try.underlying29
  have HR0_3 := Aside0.mk hr0_3
  have HC0_3 := Aside0.mk hc0_3
  clear hr0_3 hc0_3
  have HB := Aside0.mk (Below.refl w.heap.size w)
  have H : (if a0_0 = 1 then ((spec_l1In.f a0_1 0 1000000000000).bind fun t111 => (if t111 = true then (if a0_2.toList = ([] : List UInt8) then (some ((l0_3.length : Int) == 0)) else (some false)) else (some false))) else (if a0_0 = 2 then ((spec_l4Atom.f k a0_2).bind fun t112 => (if t112 = true then (if a0_1 = 0 then (some ((l0_3.length : Int) == 0)) else (some false)) else (some false))) else (if a0_0 = 3 then (if a0_2.toList = ([] : List UInt8) then (if (l0_3.length : Int) = 0 then ((spec_l1In.f a0_1 (-1) (wrap64 (a1 - 1))).bind fun t113 => (some t113)) else (some false)) else (some false)) else (if a0_0 = 4 then (spec_l9Shape.j0 k (l0_3.length : Int) a0_0 (a0_0 == 4) a0_0 a0_1 a0_2 l0_3) else (spec_l9Shape.j0 k (l0_3.length : Int) a0_0 (a0_0 == 5) a0_0 a0_1 a0_2 l0_3))))) = some r := h
  clear h
  by_cases c3 : a0_0 = 1
  · rw [if_pos c3] at H
    have c3b0 : (a0_0 == 1) = true := beq_iff_eq.mpr c3
    have c3b1 : (a0_0 != 1) = false := bne_eq_false_iff_eq.mpr c3
    clear c3
    replace H := Option.bind_eq_some_iff.mp H
    obtain ⟨t111,A40,H⟩ := H
    replace H : (if t111 = true then (if a0_2.toList = ([] : List UInt8) then (some ((l0_3.length : Int) == 0)) else (some false)) else (some false)) = some r := H
    have A4 := Aside0.mk A40
    clear A40
    by_cases c5 : t111 = true
    · subst c5
      have H1 : (if a0_2.toList = ([] : List UInt8) then (some ((l0_3.length : Int) == 0)) else (some false)) = some r := by rw [if_pos rfl] at H;exact H
      clear H
      have H := H1
      clear H1
      by_cases c6 : a0_2.toList = ([] : List UInt8)
      · rw [if_pos c6] at H
        have c6b0 : (a0_2.toList == ([] : List UInt8)) = true := beq_iff_eq.mpr c6
        have c6b1 : (a0_2.toList != ([] : List UInt8)) = false := bne_eq_false_iff_eq.mpr c6
        clear c6
        obtain rfl := Option.some.inj H
        go_enter Try.func17,Try.ntmps17
        go_wp2_with (first | ((with_reducible refine gate_dst (N := 2) rfl ?_);refine box_event ?hg (N := 2) ?hd (cs := #[.int .i64 a0_0,.int .i64 a0_1,.string a0_2,.slice A0_3 l0_3.length c0_3]) (t := 29) ?hr ?_;(case hd => rfl);(case hg => rfl);(case hr => first | (go_simp;done) | (go_simp;rfl));intro gb110 hg w7 hbox hb;have n0_ := Aside0.mk (below_step (by repeat (first | (with_reducible first | exact HB.out | apply below_alloc | apply pw_below_drewN | apply below_drew1) | exact HB.out)) hb);have n1_ := Aside0.mk (hbox);have n2_ := Aside0.mk ((by rw [hg];exact (below_size (by repeat (first | (with_reducible first | exact HB.out | apply below_alloc | apply pw_below_drewN | apply below_drew1) | exact HB.out))) : w.heap.size ≤ gb110));have n3_ := Aside0.mk ((by rw [hg];exact (below_size (by repeat (first | (with_reducible first | exact HB.out | apply below_alloc | apply pw_below_drewN | apply below_drew1) | exact HB.out))) : w.heap.size ≤ gb110));clear HB;have HB := n0_;have BK110 := n1_;have GW110 := n2_;have GE110 := n3_;clear n0_ n1_ n2_ n3_;clear hb hbox hg;have hcz8_0 : w7.cell? ⟨gb110,0,none⟩ = some (.int .i64 a0_0) := (blk_cell BK110.out 0).trans rfl;have hcz8_1 : w7.cell? ⟨gb110,1,none⟩ = some (.int .i64 a0_1) := (blk_cell BK110.out 1).trans rfl;have hcz8_2 : w7.cell? ⟨gb110,2,none⟩ = some (.string a0_2) := (blk_cell BK110.out 2).trans rfl;have hcz8_3 : w7.cell? ⟨gb110,3,none⟩ = some (.slice A0_3 l0_3.length c0_3) := (blk_cell BK110.out 3).trans rfl;have hfz8_0 := blk_frozen BK110.out 0;have hfz8_1 := blk_frozen BK110.out 1;have hfz8_2 := blk_frozen BK110.out 2;have hfz8_3 := blk_frozen BK110.out 3) | ((with_reducible refine gate_callee (f := 10) rfl ?_);refine goesL_ (some 15) rfl rfl Try.func10 (by kernel_rfl) rfl #[.int .i64 a0_1,.int .i64 0,.int .i64 1000000000000] rfl (by (try simp only [List.map_toArray,List.map_cons,List.map_nil]);first | done | rfl | (simp only [List.length_drop,List.length_take];rfl)) ?_;(with_reducible refine (spec_l1In.calls a0_1 0 1000000000000 true _ A4.out).mono ?_);rintro e w' ⟨rfl,⟨nd,rfl⟩⟩;refine ⟨_,rfl,?_⟩))
        go_ret
        exact ⟨by first | rfl | (simp [errW_none,errW_some] <;> rfl) | (simp [*,errW_none,errW_some] <;> rfl) | (rw [isEmpty_ne];first | done | rfl) | (rw [isEmpty_be];first | done | rfl),by repeat (first | (with_reducible first | exact HB.out | apply below_alloc | apply pw_below_drewN | apply below_drew1 | refine below_set ?_ GE110.out) | exact HB.out)⟩
      · rw [if_neg c6] at H
        have c6b0 : (a0_2.toList == ([] : List UInt8)) = false := beq_eq_false_iff_ne.mpr c6
        have c6b1 : (a0_2.toList != ([] : List UInt8)) = true := bne_iff_ne.mpr c6
        obtain rfl := Option.some.inj H
        go_enter Try.func17,Try.ntmps17
        go_wp2_with (first | ((with_reducible refine gate_dst (N := 2) rfl ?_);refine box_event ?hg (N := 2) ?hd (cs := #[.int .i64 a0_0,.int .i64 a0_1,.string a0_2,.slice A0_3 l0_3.length c0_3]) (t := 29) ?hr ?_;(case hd => rfl);(case hg => rfl);(case hr => first | (go_simp;done) | (go_simp;rfl));intro gb110 hg w9 hbox hb;have n0_ := Aside0.mk (below_step (by repeat (first | (with_reducible first | exact HB.out | apply below_alloc | apply pw_below_drewN | apply below_drew1) | exact HB.out)) hb);have n1_ := Aside0.mk (hbox);have n2_ := Aside0.mk ((by rw [hg];exact (below_size (by repeat (first | (with_reducible first | exact HB.out | apply below_alloc | apply pw_below_drewN | apply below_drew1) | exact HB.out))) : w.heap.size ≤ gb110));have n3_ := Aside0.mk ((by rw [hg];exact (below_size (by repeat (first | (with_reducible first | exact HB.out | apply below_alloc | apply pw_below_drewN | apply below_drew1) | exact HB.out))) : w.heap.size ≤ gb110));clear HB;have HB := n0_;have BK110 := n1_;have GW110 := n2_;have GE110 := n3_;clear n0_ n1_ n2_ n3_;clear hb hbox hg;have hcz10_0 : w9.cell? ⟨gb110,0,none⟩ = some (.int .i64 a0_0) := (blk_cell BK110.out 0).trans rfl;have hcz10_1 : w9.cell? ⟨gb110,1,none⟩ = some (.int .i64 a0_1) := (blk_cell BK110.out 1).trans rfl;have hcz10_2 : w9.cell? ⟨gb110,2,none⟩ = some (.string a0_2) := (blk_cell BK110.out 2).trans rfl;have hcz10_3 : w9.cell? ⟨gb110,3,none⟩ = some (.slice A0_3 l0_3.length c0_3) := (blk_cell BK110.out 3).trans rfl;have hfz10_0 := blk_frozen BK110.out 0;have hfz10_1 := blk_frozen BK110.out 1;have hfz10_2 := blk_frozen BK110.out 2;have hfz10_3 := blk_frozen BK110.out 3) | ((with_reducible refine gate_callee (f := 10) rfl ?_);refine goesL_ (some 15) rfl rfl Try.func10 (by kernel_rfl) rfl #[.int .i64 a0_1,.int .i64 0,.int .i64 1000000000000] rfl (by (try simp only [List.map_toArray,List.map_cons,List.map_nil]);first | done | rfl | (simp only [List.length_drop,List.length_take];rfl)) ?_;(with_reducible refine (spec_l1In.calls a0_1 0 1000000000000 true _ A4.out).mono ?_);rintro e w' ⟨rfl,⟨nd,rfl⟩⟩;refine ⟨_,rfl,?_⟩))
        go_ret
        exact ⟨by first | rfl | (simp [errW_none,errW_some] <;> rfl) | (simp [*,errW_none,errW_some] <;> rfl) | (rw [isEmpty_ne];first | done | rfl) | (rw [isEmpty_be];first | done | rfl),by repeat (first | (with_reducible first | exact HB.out | apply below_alloc | apply pw_below_drewN | apply below_drew1 | refine below_set ?_ GE110.out) | exact HB.out)⟩
    · replace c5 := Bool.eq_false_iff.mpr c5
      subst c5
      have H1 : (some false) = some r := by rw [if_neg (show ¬ (false = true) by decide)] at H;exact H
      clear H
      have H := H1
      clear H1
      obtain rfl := Option.some.inj H
      go_enter Try.func17,Try.ntmps17
      go_wp2_with (first | ((with_reducible refine gate_dst (N := 2) rfl ?_);refine box_event ?hg (N := 2) ?hd (cs := #[.int .i64 a0_0,.int .i64 a0_1,.string a0_2,.slice A0_3 l0_3.length c0_3]) (t := 29) ?hr ?_;(case hd => rfl);(case hg => rfl);(case hr => first | (go_simp;done) | (go_simp;rfl));intro gb110 hg w11 hbox hb;have n0_ := Aside0.mk (below_step (by repeat (first | (with_reducible first | exact HB.out | apply below_alloc | apply pw_below_drewN | apply below_drew1) | exact HB.out)) hb);have n1_ := Aside0.mk (hbox);have n2_ := Aside0.mk ((by rw [hg];exact (below_size (by repeat (first | (with_reducible first | exact HB.out | apply below_alloc | apply pw_below_drewN | apply below_drew1) | exact HB.out))) : w.heap.size ≤ gb110));have n3_ := Aside0.mk ((by rw [hg];exact (below_size (by repeat (first | (with_reducible first | exact HB.out | apply below_alloc | apply pw_below_drewN | apply below_drew1) | exact HB.out))) : w.heap.size ≤ gb110));clear HB;have HB := n0_;have BK110 := n1_;have GW110 := n2_;have GE110 := n3_;clear n0_ n1_ n2_ n3_;clear hb hbox hg;have hcz12_0 : w11.cell? ⟨gb110,0,none⟩ = some (.int .i64 a0_0) := (blk_cell BK110.out 0).trans rfl;have hcz12_1 : w11.cell? ⟨gb110,1,none⟩ = some (.int .i64 a0_1) := (blk_cell BK110.out 1).trans rfl;have hcz12_2 : w11.cell? ⟨gb110,2,none⟩ = some (.string a0_2) := (blk_cell BK110.out 2).trans rfl;have hcz12_3 : w11.cell? ⟨gb110,3,none⟩ = some (.slice A0_3 l0_3.length c0_3) := (blk_cell BK110.out 3).trans rfl;have hfz12_0 := blk_frozen BK110.out 0;have hfz12_1 := blk_frozen BK110.out 1;have hfz12_2 := blk_frozen BK110.out 2;have hfz12_3 := blk_frozen BK110.out 3) | ((with_reducible refine gate_callee (f := 10) rfl ?_);refine goesL_ (some 15) rfl rfl Try.func10 (by kernel_rfl) rfl #[.int .i64 a0_1,.int .i64 0,.int .i64 1000000000000] rfl (by (try simp only [List.map_toArray,List.map_cons,List.map_nil]);first | done | rfl | (simp only [List.length_drop,List.length_take];rfl)) ?_;(with_reducible refine (spec_l1In.calls a0_1 0 1000000000000 false _ A4.out).mono ?_);rintro e w' ⟨rfl,⟨nd,rfl⟩⟩;refine ⟨_,rfl,?_⟩))
      go_ret
      exact ⟨by first | rfl | (simp [errW_none,errW_some] <;> rfl) | (simp [*,errW_none,errW_some] <;> rfl) | (rw [isEmpty_ne];first | done | rfl) | (rw [isEmpty_be];first | done | rfl),by repeat (first | (with_reducible first | exact HB.out | apply below_alloc | apply pw_below_drewN | apply below_drew1 | refine below_set ?_ GE110.out) | exact HB.out)⟩
  · rw [if_neg c3] at H
    have c3b0 : (a0_0 == 1) = false := beq_eq_false_iff_ne.mpr c3
    have c3b1 : (a0_0 != 1) = true := bne_iff_ne.mpr c3
    by_cases c13 : a0_0 = 2
    · rw [if_pos c13] at H
      have c13b0 : (a0_0 == 2) = true := beq_iff_eq.mpr c13
      have c13b1 : (a0_0 != 2) = false := bne_eq_false_iff_eq.mpr c13
      clear c13
      replace H := Option.bind_eq_some_iff.mp H
      obtain ⟨t112,A140,H⟩ := H
      replace H : (if t112 = true then (if a0_1 = 0 then (some ((l0_3.length : Int) == 0)) else (some false)) else (some false)) = some r := H
      have A14 := Aside0.mk A140
      clear A140
      by_cases c15 : t112 = true
      · subst c15
        have H1 : (if a0_1 = 0 then (some ((l0_3.length : Int) == 0)) else (some false)) = some r := by rw [if_pos rfl] at H;exact H
        clear H
        have H := H1
        clear H1
        by_cases c16 : a0_1 = 0
        · rw [if_pos c16] at H
          have c16b0 : (a0_1 == 0) = true := beq_iff_eq.mpr c16
          have c16b1 : (a0_1 != 0) = false := bne_eq_false_iff_eq.mpr c16
          clear c16
          obtain rfl := Option.some.inj H
          go_enter Try.func17,Try.ntmps17
          go_wp2_with (first | ((with_reducible refine gate_dst (N := 2) rfl ?_);refine box_event ?hg (N := 2) ?hd (cs := #[.int .i64 a0_0,.int .i64 a0_1,.string a0_2,.slice A0_3 l0_3.length c0_3]) (t := 29) ?hr ?_;(case hd => rfl);(case hg => rfl);(case hr => first | (go_simp;done) | (go_simp;rfl));intro gb110 hg w17 hbox hb;have n0_ := Aside0.mk (below_step (by repeat (first | (with_reducible first | exact HB.out | apply below_alloc | apply pw_below_drewN | apply below_drew1) | exact HB.out)) hb);have n1_ := Aside0.mk (hbox);have n2_ := Aside0.mk ((by rw [hg];exact (below_size (by repeat (first | (with_reducible first | exact HB.out | apply below_alloc | apply pw_below_drewN | apply below_drew1) | exact HB.out))) : w.heap.size ≤ gb110));have n3_ := Aside0.mk ((by rw [hg];exact (below_size (by repeat (first | (with_reducible first | exact HB.out | apply below_alloc | apply pw_below_drewN | apply below_drew1) | exact HB.out))) : w.heap.size ≤ gb110));clear HB;have HB := n0_;have BK110 := n1_;have GW110 := n2_;have GE110 := n3_;clear n0_ n1_ n2_ n3_;clear hb hbox hg;have hcz18_0 : w17.cell? ⟨gb110,0,none⟩ = some (.int .i64 a0_0) := (blk_cell BK110.out 0).trans rfl;have hcz18_1 : w17.cell? ⟨gb110,1,none⟩ = some (.int .i64 a0_1) := (blk_cell BK110.out 1).trans rfl;have hcz18_2 : w17.cell? ⟨gb110,2,none⟩ = some (.string a0_2) := (blk_cell BK110.out 2).trans rfl;have hcz18_3 : w17.cell? ⟨gb110,3,none⟩ = some (.slice A0_3 l0_3.length c0_3) := (blk_cell BK110.out 3).trans rfl;have hfz18_0 := blk_frozen BK110.out 0;have hfz18_1 := blk_frozen BK110.out 1;have hfz18_2 := blk_frozen BK110.out 2;have hfz18_3 := blk_frozen BK110.out 3) | ((with_reducible refine gate_callee (f := 20) rfl ?_);refine goesL_ (some 29) rfl rfl Try.func20 (by kernel_rfl) rfl #[.string a0_2] rfl (by (try simp only [List.map_toArray,List.map_cons,List.map_nil]);first | done | rfl | (simp only [List.length_drop,List.length_take];rfl)) ?_;(with_reducible refine (spec_l4Atom.calls k a0_2 true _ A14.out).mono ?_);rintro e w' ⟨rfl,⟨nd,rfl⟩⟩;refine ⟨_,rfl,?_⟩))
          go_ret
          exact ⟨by first | rfl | (simp [errW_none,errW_some] <;> rfl) | (simp [*,errW_none,errW_some] <;> rfl) | (rw [isEmpty_ne];first | done | rfl) | (rw [isEmpty_be];first | done | rfl),by repeat (first | (with_reducible first | exact HB.out | apply below_alloc | apply pw_below_drewN | apply below_drew1 | refine below_set ?_ GE110.out) | exact HB.out)⟩
        · rw [if_neg c16] at H
          have c16b0 : (a0_1 == 0) = false := beq_eq_false_iff_ne.mpr c16
          have c16b1 : (a0_1 != 0) = true := bne_iff_ne.mpr c16
          obtain rfl := Option.some.inj H
          go_enter Try.func17,Try.ntmps17
          go_wp2_with (first | ((with_reducible refine gate_dst (N := 2) rfl ?_);refine box_event ?hg (N := 2) ?hd (cs := #[.int .i64 a0_0,.int .i64 a0_1,.string a0_2,.slice A0_3 l0_3.length c0_3]) (t := 29) ?hr ?_;(case hd => rfl);(case hg => rfl);(case hr => first | (go_simp;done) | (go_simp;rfl));intro gb110 hg w19 hbox hb;have n0_ := Aside0.mk (below_step (by repeat (first | (with_reducible first | exact HB.out | apply below_alloc | apply pw_below_drewN | apply below_drew1) | exact HB.out)) hb);have n1_ := Aside0.mk (hbox);have n2_ := Aside0.mk ((by rw [hg];exact (below_size (by repeat (first | (with_reducible first | exact HB.out | apply below_alloc | apply pw_below_drewN | apply below_drew1) | exact HB.out))) : w.heap.size ≤ gb110));have n3_ := Aside0.mk ((by rw [hg];exact (below_size (by repeat (first | (with_reducible first | exact HB.out | apply below_alloc | apply pw_below_drewN | apply below_drew1) | exact HB.out))) : w.heap.size ≤ gb110));clear HB;have HB := n0_;have BK110 := n1_;have GW110 := n2_;have GE110 := n3_;clear n0_ n1_ n2_ n3_;clear hb hbox hg;have hcz20_0 : w19.cell? ⟨gb110,0,none⟩ = some (.int .i64 a0_0) := (blk_cell BK110.out 0).trans rfl;have hcz20_1 : w19.cell? ⟨gb110,1,none⟩ = some (.int .i64 a0_1) := (blk_cell BK110.out 1).trans rfl;have hcz20_2 : w19.cell? ⟨gb110,2,none⟩ = some (.string a0_2) := (blk_cell BK110.out 2).trans rfl;have hcz20_3 : w19.cell? ⟨gb110,3,none⟩ = some (.slice A0_3 l0_3.length c0_3) := (blk_cell BK110.out 3).trans rfl;have hfz20_0 := blk_frozen BK110.out 0;have hfz20_1 := blk_frozen BK110.out 1;have hfz20_2 := blk_frozen BK110.out 2;have hfz20_3 := blk_frozen BK110.out 3) | ((with_reducible refine gate_callee (f := 20) rfl ?_);refine goesL_ (some 29) rfl rfl Try.func20 (by kernel_rfl) rfl #[.string a0_2] rfl (by (try simp only [List.map_toArray,List.map_cons,List.map_nil]);first | done | rfl | (simp only [List.length_drop,List.length_take];rfl)) ?_;(with_reducible refine (spec_l4Atom.calls k a0_2 true _ A14.out).mono ?_);rintro e w' ⟨rfl,⟨nd,rfl⟩⟩;refine ⟨_,rfl,?_⟩))
          go_ret
          exact ⟨by first | rfl | (simp [errW_none,errW_some] <;> rfl) | (simp [*,errW_none,errW_some] <;> rfl) | (rw [isEmpty_ne];first | done | rfl) | (rw [isEmpty_be];first | done | rfl),by repeat (first | (with_reducible first | exact HB.out | apply below_alloc | apply pw_below_drewN | apply below_drew1 | refine below_set ?_ GE110.out) | exact HB.out)⟩
      · replace c15 := Bool.eq_false_iff.mpr c15
        subst c15
        have H1 : (some false) = some r := by rw [if_neg (show ¬ (false = true) by decide)] at H;exact H
        clear H
        have H := H1
        clear H1
        obtain rfl := Option.some.inj H
        go_enter Try.func17,Try.ntmps17
        go_wp2_with (first | ((with_reducible refine gate_dst (N := 2) rfl ?_);refine box_event ?hg (N := 2) ?hd (cs := #[.int .i64 a0_0,.int .i64 a0_1,.string a0_2,.slice A0_3 l0_3.length c0_3]) (t := 29) ?hr ?_;(case hd => rfl);(case hg => rfl);(case hr => first | (go_simp;done) | (go_simp;rfl));intro gb110 hg w21 hbox hb;have n0_ := Aside0.mk (below_step (by repeat (first | (with_reducible first | exact HB.out | apply below_alloc | apply pw_below_drewN | apply below_drew1) | exact HB.out)) hb);have n1_ := Aside0.mk (hbox);have n2_ := Aside0.mk ((by rw [hg];exact (below_size (by repeat (first | (with_reducible first | exact HB.out | apply below_alloc | apply pw_below_drewN | apply below_drew1) | exact HB.out))) : w.heap.size ≤ gb110));have n3_ := Aside0.mk ((by rw [hg];exact (below_size (by repeat (first | (with_reducible first | exact HB.out | apply below_alloc | apply pw_below_drewN | apply below_drew1) | exact HB.out))) : w.heap.size ≤ gb110));clear HB;have HB := n0_;have BK110 := n1_;have GW110 := n2_;have GE110 := n3_;clear n0_ n1_ n2_ n3_;clear hb hbox hg;have hcz22_0 : w21.cell? ⟨gb110,0,none⟩ = some (.int .i64 a0_0) := (blk_cell BK110.out 0).trans rfl;have hcz22_1 : w21.cell? ⟨gb110,1,none⟩ = some (.int .i64 a0_1) := (blk_cell BK110.out 1).trans rfl;have hcz22_2 : w21.cell? ⟨gb110,2,none⟩ = some (.string a0_2) := (blk_cell BK110.out 2).trans rfl;have hcz22_3 : w21.cell? ⟨gb110,3,none⟩ = some (.slice A0_3 l0_3.length c0_3) := (blk_cell BK110.out 3).trans rfl;have hfz22_0 := blk_frozen BK110.out 0;have hfz22_1 := blk_frozen BK110.out 1;have hfz22_2 := blk_frozen BK110.out 2;have hfz22_3 := blk_frozen BK110.out 3) | ((with_reducible refine gate_callee (f := 20) rfl ?_);refine goesL_ (some 29) rfl rfl Try.func20 (by kernel_rfl) rfl #[.string a0_2] rfl (by (try simp only [List.map_toArray,List.map_cons,List.map_nil]);first | done | rfl | (simp only [List.length_drop,List.length_take];rfl)) ?_;(with_reducible refine (spec_l4Atom.calls k a0_2 false _ A14.out).mono ?_);rintro e w' ⟨rfl,⟨nd,rfl⟩⟩;refine ⟨_,rfl,?_⟩))
        go_ret
        exact ⟨by first | rfl | (simp [errW_none,errW_some] <;> rfl) | (simp [*,errW_none,errW_some] <;> rfl) | (rw [isEmpty_ne];first | done | rfl) | (rw [isEmpty_be];first | done | rfl),by repeat (first | (with_reducible first | exact HB.out | apply below_alloc | apply pw_below_drewN | apply below_drew1 | refine below_set ?_ GE110.out) | exact HB.out)⟩
    · rw [if_neg c13] at H
      have c13b0 : (a0_0 == 2) = false := beq_eq_false_iff_ne.mpr c13
      have c13b1 : (a0_0 != 2) = true := bne_iff_ne.mpr c13
      by_cases c23 : a0_0 = 3
      · rw [if_pos c23] at H
        have c23b0 : (a0_0 == 3) = true := beq_iff_eq.mpr c23
        have c23b1 : (a0_0 != 3) = false := bne_eq_false_iff_eq.mpr c23
        clear c23
        by_cases c24 : a0_2.toList = ([] : List UInt8)
        · rw [if_pos c24] at H
          have c24b0 : (a0_2.toList == ([] : List UInt8)) = true := beq_iff_eq.mpr c24
          have c24b1 : (a0_2.toList != ([] : List UInt8)) = false := bne_eq_false_iff_eq.mpr c24
          clear c24
          by_cases c25 : (l0_3.length : Int) = 0
          · rw [if_pos c25] at H
            have c25b0 : ((l0_3.length : Int) == 0) = true := beq_iff_eq.mpr c25
            have c25b1 : ((l0_3.length : Int) != 0) = false := bne_eq_false_iff_eq.mpr c25
            clear c25
            replace H := Option.bind_eq_some_iff.mp H
            obtain ⟨t113,A260,H⟩ := H
            replace H : (some t113) = some r := H
            have A26 := Aside0.mk A260
            clear A260
            obtain rfl := Option.some.inj H
            go_enter Try.func17,Try.ntmps17
            go_wp2_with (first | ((with_reducible refine gate_dst (N := 2) rfl ?_);refine box_event ?hg (N := 2) ?hd (cs := #[.int .i64 a0_0,.int .i64 a0_1,.string a0_2,.slice A0_3 l0_3.length c0_3]) (t := 29) ?hr ?_;(case hd => rfl);(case hg => rfl);(case hr => first | (go_simp;done) | (go_simp;rfl));intro gb110 hg w27 hbox hb;have n0_ := Aside0.mk (below_step (by repeat (first | (with_reducible first | exact HB.out | apply below_alloc | apply pw_below_drewN | apply below_drew1) | exact HB.out)) hb);have n1_ := Aside0.mk (hbox);have n2_ := Aside0.mk ((by rw [hg];exact (below_size (by repeat (first | (with_reducible first | exact HB.out | apply below_alloc | apply pw_below_drewN | apply below_drew1) | exact HB.out))) : w.heap.size ≤ gb110));have n3_ := Aside0.mk ((by rw [hg];exact (below_size (by repeat (first | (with_reducible first | exact HB.out | apply below_alloc | apply pw_below_drewN | apply below_drew1) | exact HB.out))) : w.heap.size ≤ gb110));clear HB;have HB := n0_;have BK110 := n1_;have GW110 := n2_;have GE110 := n3_;clear n0_ n1_ n2_ n3_;clear hb hbox hg;have hcz28_0 : w27.cell? ⟨gb110,0,none⟩ = some (.int .i64 a0_0) := (blk_cell BK110.out 0).trans rfl;have hcz28_1 : w27.cell? ⟨gb110,1,none⟩ = some (.int .i64 a0_1) := (blk_cell BK110.out 1).trans rfl;have hcz28_2 : w27.cell? ⟨gb110,2,none⟩ = some (.string a0_2) := (blk_cell BK110.out 2).trans rfl;have hcz28_3 : w27.cell? ⟨gb110,3,none⟩ = some (.slice A0_3 l0_3.length c0_3) := (blk_cell BK110.out 3).trans rfl;have hfz28_0 := blk_frozen BK110.out 0;have hfz28_1 := blk_frozen BK110.out 1;have hfz28_2 := blk_frozen BK110.out 2;have hfz28_3 := blk_frozen BK110.out 3) | (go_at_call 10;(with_reducible refine (spec_l1In.calls a0_1 (-1) (wrap64 (a1 - 1)) t113 _ A26.out).mono ?_);rintro e w' ⟨rfl,⟨nd,rfl⟩⟩))
            go_ret
            exact ⟨by first | rfl | (simp [errW_none,errW_some] <;> rfl) | (simp [*,errW_none,errW_some] <;> rfl) | (rw [isEmpty_ne];first | done | rfl) | (rw [isEmpty_be];first | done | rfl),by repeat (first | (with_reducible first | exact HB.out | apply below_alloc | apply pw_below_drewN | apply below_drew1 | refine below_set ?_ GE110.out) | exact HB.out)⟩
          · rw [if_neg c25] at H
            have c25b0 : ((l0_3.length : Int) == 0) = false := beq_eq_false_iff_ne.mpr c25
            have c25b1 : ((l0_3.length : Int) != 0) = true := bne_iff_ne.mpr c25
            have c25b2 : ¬ (l0_3 = []) := fun h_ => c25 (by rw [h_];rfl)
            obtain rfl := Option.some.inj H
            go_enter Try.func17,Try.ntmps17
            go_wp2_with (first | ((with_reducible refine gate_dst (N := 2) rfl ?_);refine box_event ?hg (N := 2) ?hd (cs := #[.int .i64 a0_0,.int .i64 a0_1,.string a0_2,.slice A0_3 l0_3.length c0_3]) (t := 29) ?hr ?_;(case hd => rfl);(case hg => rfl);(case hr => first | (go_simp;done) | (go_simp;rfl));intro gb110 hg w29 hbox hb;have n0_ := Aside0.mk (below_step (by repeat (first | (with_reducible first | exact HB.out | apply below_alloc | apply pw_below_drewN | apply below_drew1) | exact HB.out)) hb);have n1_ := Aside0.mk (hbox);have n2_ := Aside0.mk ((by rw [hg];exact (below_size (by repeat (first | (with_reducible first | exact HB.out | apply below_alloc | apply pw_below_drewN | apply below_drew1) | exact HB.out))) : w.heap.size ≤ gb110));have n3_ := Aside0.mk ((by rw [hg];exact (below_size (by repeat (first | (with_reducible first | exact HB.out | apply below_alloc | apply pw_below_drewN | apply below_drew1) | exact HB.out))) : w.heap.size ≤ gb110));clear HB;have HB := n0_;have BK110 := n1_;have GW110 := n2_;have GE110 := n3_;clear n0_ n1_ n2_ n3_;clear hb hbox hg;have hcz30_0 : w29.cell? ⟨gb110,0,none⟩ = some (.int .i64 a0_0) := (blk_cell BK110.out 0).trans rfl;have hcz30_1 : w29.cell? ⟨gb110,1,none⟩ = some (.int .i64 a0_1) := (blk_cell BK110.out 1).trans rfl;have hcz30_2 : w29.cell? ⟨gb110,2,none⟩ = some (.string a0_2) := (blk_cell BK110.out 2).trans rfl;have hcz30_3 : w29.cell? ⟨gb110,3,none⟩ = some (.slice A0_3 l0_3.length c0_3) := (blk_cell BK110.out 3).trans rfl;have hfz30_0 := blk_frozen BK110.out 0;have hfz30_1 := blk_frozen BK110.out 1;have hfz30_2 := blk_frozen BK110.out 2;have hfz30_3 := blk_frozen BK110.out 3))
            go_ret
            exact ⟨by first | rfl | (simp [errW_none,errW_some] <;> rfl) | (simp [*,errW_none,errW_some] <;> rfl) | (rw [isEmpty_ne];first | done | rfl) | (rw [isEmpty_be];first | done | rfl),by repeat (first | (with_reducible first | exact HB.out | apply below_alloc | apply pw_below_drewN | apply below_drew1 | refine below_set ?_ GE110.out) | exact HB.out)⟩
        · rw [if_neg c24] at H
          have c24b0 : (a0_2.toList == ([] : List UInt8)) = false := beq_eq_false_iff_ne.mpr c24
          have c24b1 : (a0_2.toList != ([] : List UInt8)) = true := bne_iff_ne.mpr c24
          obtain rfl := Option.some.inj H
          go_enter Try.func17,Try.ntmps17
          go_wp2_with (first | ((with_reducible refine gate_dst (N := 2) rfl ?_);refine box_event ?hg (N := 2) ?hd (cs := #[.int .i64 a0_0,.int .i64 a0_1,.string a0_2,.slice A0_3 l0_3.length c0_3]) (t := 29) ?hr ?_;(case hd => rfl);(case hg => rfl);(case hr => first | (go_simp;done) | (go_simp;rfl));intro gb110 hg w31 hbox hb;have n0_ := Aside0.mk (below_step (by repeat (first | (with_reducible first | exact HB.out | apply below_alloc | apply pw_below_drewN | apply below_drew1) | exact HB.out)) hb);have n1_ := Aside0.mk (hbox);have n2_ := Aside0.mk ((by rw [hg];exact (below_size (by repeat (first | (with_reducible first | exact HB.out | apply below_alloc | apply pw_below_drewN | apply below_drew1) | exact HB.out))) : w.heap.size ≤ gb110));have n3_ := Aside0.mk ((by rw [hg];exact (below_size (by repeat (first | (with_reducible first | exact HB.out | apply below_alloc | apply pw_below_drewN | apply below_drew1) | exact HB.out))) : w.heap.size ≤ gb110));clear HB;have HB := n0_;have BK110 := n1_;have GW110 := n2_;have GE110 := n3_;clear n0_ n1_ n2_ n3_;clear hb hbox hg;have hcz32_0 : w31.cell? ⟨gb110,0,none⟩ = some (.int .i64 a0_0) := (blk_cell BK110.out 0).trans rfl;have hcz32_1 : w31.cell? ⟨gb110,1,none⟩ = some (.int .i64 a0_1) := (blk_cell BK110.out 1).trans rfl;have hcz32_2 : w31.cell? ⟨gb110,2,none⟩ = some (.string a0_2) := (blk_cell BK110.out 2).trans rfl;have hcz32_3 : w31.cell? ⟨gb110,3,none⟩ = some (.slice A0_3 l0_3.length c0_3) := (blk_cell BK110.out 3).trans rfl;have hfz32_0 := blk_frozen BK110.out 0;have hfz32_1 := blk_frozen BK110.out 1;have hfz32_2 := blk_frozen BK110.out 2;have hfz32_3 := blk_frozen BK110.out 3))
          go_ret
          exact ⟨by first | rfl | (simp [errW_none,errW_some] <;> rfl) | (simp [*,errW_none,errW_some] <;> rfl) | (rw [isEmpty_ne];first | done | rfl) | (rw [isEmpty_be];first | done | rfl),by repeat (first | (with_reducible first | exact HB.out | apply below_alloc | apply pw_below_drewN | apply below_drew1 | refine below_set ?_ GE110.out) | exact HB.out)⟩
      · rw [if_neg c23] at H
        have c23b0 : (a0_0 == 3) = false := beq_eq_false_iff_ne.mpr c23
        have c23b1 : (a0_0 != 3) = true := bne_iff_ne.mpr c23
        have HC33 := Aside0.mk H
        clear H
        go_enter Try.func17,Try.ntmps17
        go_upto_if 55 with (first | ((with_reducible refine gate_dst (N := 2) rfl ?_);refine box_event ?hg (N := 2) ?hd (cs := #[.int .i64 a0_0,.int .i64 a0_1,.string a0_2,.slice A0_3 l0_3.length c0_3]) (t := 29) ?hr ?_;(case hd => rfl);(case hg => rfl);(case hr => first | (go_simp;done) | (go_simp;rfl));intro gb110 hg w34 hbox hb;have n0_ := Aside0.mk (below_step (by repeat (first | (with_reducible first | exact HB.out | apply below_alloc | apply pw_below_drewN | apply below_drew1) | exact HB.out)) hb);have n1_ := Aside0.mk (hbox);have n2_ := Aside0.mk ((by rw [hg];exact (below_size (by repeat (first | (with_reducible first | exact HB.out | apply below_alloc | apply pw_below_drewN | apply below_drew1) | exact HB.out))) : w.heap.size ≤ gb110));have n3_ := Aside0.mk ((by rw [hg];exact (below_size (by repeat (first | (with_reducible first | exact HB.out | apply below_alloc | apply pw_below_drewN | apply below_drew1) | exact HB.out))) : w.heap.size ≤ gb110));clear HB;have HB := n0_;have BK110 := n1_;have GW110 := n2_;have GE110 := n3_;clear n0_ n1_ n2_ n3_;clear hb hbox hg;have hcz35_0 : w34.cell? ⟨gb110,0,none⟩ = some (.int .i64 a0_0) := (blk_cell BK110.out 0).trans rfl;have hcz35_1 : w34.cell? ⟨gb110,1,none⟩ = some (.int .i64 a0_1) := (blk_cell BK110.out 1).trans rfl;have hcz35_2 : w34.cell? ⟨gb110,2,none⟩ = some (.string a0_2) := (blk_cell BK110.out 2).trans rfl;have hcz35_3 : w34.cell? ⟨gb110,3,none⟩ = some (.slice A0_3 l0_3.length c0_3) := (blk_cell BK110.out 3).trans rfl;have hfz35_0 := blk_frozen BK110.out 0;have hfz35_1 := blk_frozen BK110.out 1;have hfz35_2 := blk_frozen BK110.out 2;have hfz35_3 := blk_frozen BK110.out 3))
        (try simp only [Act.put,List.setIfInBounds_toArray,List.set_cons_zero,List.set_cons_succ])
        go_cut [55] (fun v55 wc => ∃ (kq : Nat) (x55_32 : Bool),v55 = .bool x55_32 ∧ Aside0 (spec_l9Shape.j0 kq (l0_3.length : Int) a0_0 x55_32 a0_0 a0_1 a0_2 l0_3 = some r) ∧ Aside0 (kq ≤ k) ∧ Aside0 (wc.heap[gb110]? = some (.cells #[.int .i64 a0_0,.int .i64 a0_1,.string a0_2,(.slice A0_3 l0_3.length c0_3)] 29 (0,0))) ∧ Aside0 (Below w.heap.size w wc))
        case first =>
          have H := HC33.out
          clear HC33
          by_cases c36 : a0_0 = 4
          · rw [if_pos c36] at H
            have c36b0 : (a0_0 == 4) = true := beq_iff_eq.mpr c36
            have c36b1 : (a0_0 != 4) = false := bne_eq_false_iff_eq.mpr c36
            clear c36
            (first | rw [c36b0] | (simp only [i64_w,i32_w];rw [c36b0]) | (simp only [c36b2,Bool.not_true,Bool.not_false]) | skip)
            have H' := Aside0.mk H
            clear H
            go_wp2
            go_meet
            case rel => exact ⟨_,((a0_0 == 4)),(by first | rfl | (simp;done) | (simp [*];done)),H',⟨by first | omega | exact Nat.le_refl _⟩,⟨by (with_reducible repeat (first | refine blk_drewN ?_ _ | refine blk_drew ?_ | refine blk_alloc ?_ _));exact BK110.out⟩,⟨by repeat (first | (with_reducible first | exact HB.out | apply below_alloc | apply pw_below_drewN | apply below_drew1 | refine below_set ?_ GE110.out) | exact HB.out)⟩⟩
          · rw [if_neg c36] at H
            have c36b0 : (a0_0 == 4) = false := beq_eq_false_iff_ne.mpr c36
            have c36b1 : (a0_0 != 4) = true := bne_iff_ne.mpr c36
            (first | rw [c36b0] | (simp only [i64_w,i32_w];rw [c36b0]) | (simp only [c36b2,Bool.not_true,Bool.not_false]) | skip)
            have H' := Aside0.mk H
            clear H
            go_wp2
            go_meet
            case rel => exact ⟨_,((a0_0 == 5)),(by first | rfl | (simp;done) | (simp [*];done)),H',⟨by first | omega | exact Nat.le_refl _⟩,⟨by (with_reducible repeat (first | refine blk_drewN ?_ _ | refine blk_drew ?_ | refine blk_alloc ?_ _));exact BK110.out⟩,⟨by repeat (first | (with_reducible first | exact HB.out | apply below_alloc | apply pw_below_drewN | apply below_drew1 | refine below_set ?_ GE110.out) | exact HB.out)⟩⟩
        case rest =>
          clear HC33
          try clear c1
          try clear c2
          try clear p2
          try clear c3
          try clear c3b0
          try clear c3b1
          try clear c5
          try clear c6
          try clear c6b0
          try clear c6b1
          try clear p6
          try clear c10
          try clear c13
          try clear c13b0
          try clear c13b1
          try clear c15
          try clear c16
          try clear c16b0
          try clear c16b1
          try clear c17
          try clear c20
          try clear c23
          try clear c23b0
          try clear c23b1
          try clear c24
          try clear c24b0
          try clear c24b1
          try clear c25
          try clear c25b0
          try clear c25b1
          try clear c25b2
          try clear c36
          try clear c36b0
          try clear c36b1
          try clear c36b2
          try clear hcz10_0
          try clear hcz10_1
          try clear hcz10_2
          try clear hcz10_3
          try clear hcz12_0
          try clear hcz12_1
          try clear hcz12_2
          try clear hcz12_3
          try clear hcz18_0
          try clear hcz18_1
          try clear hcz18_2
          try clear hcz18_3
          try clear hcz20_0
          try clear hcz20_1
          try clear hcz20_2
          try clear hcz20_3
          try clear hcz22_0
          try clear hcz22_1
          try clear hcz22_2
          try clear hcz22_3
          try clear hcz28_0
          try clear hcz28_1
          try clear hcz28_2
          try clear hcz28_3
          try clear hcz30_0
          try clear hcz30_1
          try clear hcz30_2
          try clear hcz30_3
          try clear hcz32_0
          try clear hcz32_1
          try clear hcz32_2
          try clear hcz32_3
          try clear hcz35_0
          try clear hcz35_1
          try clear hcz35_2
          try clear hcz35_3
          try clear hcz8_0
          try clear hcz8_1
          try clear hcz8_2
          try clear hcz8_3
          try clear hfz10_0
          try clear hfz10_1
          try clear hfz10_2
          try clear hfz10_3
          try clear hfz12_0
          try clear hfz12_1
          try clear hfz12_2
          try clear hfz12_3
          try clear hfz18_0
          try clear hfz18_1
          try clear hfz18_2
          try clear hfz18_3
          try clear hfz20_0
          try clear hfz20_1
          try clear hfz20_2
          try clear hfz20_3
          try clear hfz22_0
          try clear hfz22_1
          try clear hfz22_2
          try clear hfz22_3
          try clear hfz28_0
          try clear hfz28_1
          try clear hfz28_2
          try clear hfz28_3
          try clear hfz30_0
          try clear hfz30_1
          try clear hfz30_2
          try clear hfz30_3
          try clear hfz32_0
          try clear hfz32_1
          try clear hfz32_2
          try clear hfz32_3
          try clear hfz35_0
          try clear hfz35_1
          try clear hfz35_2
          try clear hfz35_3
          try clear hfz8_0
          try clear hfz8_1
          try clear hfz8_2
          try clear hfz8_3
          try clear BK110
          try clear HB
          obtain ⟨kq,x55_32,rfl,HA,HJ32,BK110,HB⟩ := hcut
          cases kq with
          | zero => exact absurd HA.out (by simp [spec_l9Shape.j0])
          | succ kj32 =>
            have H := HA.out
            clear HA
            simp only [spec_l9Shape.j0] at H
            by_cases c37 : x55_32 = true
            · subst c37
              have H1 : (if a0_2.toList = ([] : List UInt8) then (if a0_1 = 0 then (some (decide ((l0_3.length : Int) ≤ 20))) else (some false)) else (some false)) = some r := by rw [if_pos rfl] at H;exact H
              clear H
              have H := H1
              clear H1
              by_cases c38 : a0_2.toList = ([] : List UInt8)
              · rw [if_pos c38] at H
                have c38b0 : (a0_2.toList == ([] : List UInt8)) = true := beq_iff_eq.mpr c38
                have c38b1 : (a0_2.toList != ([] : List UInt8)) = false := bne_eq_false_iff_eq.mpr c38
                clear c38
                by_cases c39 : a0_1 = 0
                · rw [if_pos c39] at H
                  have c39b0 : (a0_1 == 0) = true := beq_iff_eq.mpr c39
                  have c39b1 : (a0_1 != 0) = false := bne_eq_false_iff_eq.mpr c39
                  clear c39
                  obtain rfl := Option.some.inj H
                  have hcz40_0 : wc.cell? ⟨gb110,0,none⟩ = some (.int .i64 a0_0) := (blk_cell BK110.out 0).trans rfl
                  have hcz40_1 : wc.cell? ⟨gb110,1,none⟩ = some (.int .i64 a0_1) := (blk_cell BK110.out 1).trans rfl
                  have hcz40_2 : wc.cell? ⟨gb110,2,none⟩ = some (.string a0_2) := (blk_cell BK110.out 2).trans rfl
                  have hcz40_3 : wc.cell? ⟨gb110,3,none⟩ = some (.slice A0_3 l0_3.length c0_3) := (blk_cell BK110.out 3).trans rfl
                  have hfz40_0 := blk_frozen BK110.out 0
                  have hfz40_1 := blk_frozen BK110.out 1
                  have hfz40_2 := blk_frozen BK110.out 2
                  have hfz40_3 := blk_frozen BK110.out 3
                  go_wp2
                  go_ret
                  exact ⟨by first | rfl | (simp [errW_none,errW_some] <;> rfl) | (simp [*,errW_none,errW_some] <;> rfl) | (rw [isEmpty_ne];first | done | rfl) | (rw [isEmpty_be];first | done | rfl),by repeat (first | (with_reducible first | exact HB.out | apply below_alloc | apply pw_below_drewN | apply below_drew1 | refine below_set ?_ GE110.out) | exact HB.out)⟩
                · rw [if_neg c39] at H
                  have c39b0 : (a0_1 == 0) = false := beq_eq_false_iff_ne.mpr c39
                  have c39b1 : (a0_1 != 0) = true := bne_iff_ne.mpr c39
                  obtain rfl := Option.some.inj H
                  have hcz41_0 : wc.cell? ⟨gb110,0,none⟩ = some (.int .i64 a0_0) := (blk_cell BK110.out 0).trans rfl
                  have hcz41_1 : wc.cell? ⟨gb110,1,none⟩ = some (.int .i64 a0_1) := (blk_cell BK110.out 1).trans rfl
                  have hcz41_2 : wc.cell? ⟨gb110,2,none⟩ = some (.string a0_2) := (blk_cell BK110.out 2).trans rfl
                  have hcz41_3 : wc.cell? ⟨gb110,3,none⟩ = some (.slice A0_3 l0_3.length c0_3) := (blk_cell BK110.out 3).trans rfl
                  have hfz41_0 := blk_frozen BK110.out 0
                  have hfz41_1 := blk_frozen BK110.out 1
                  have hfz41_2 := blk_frozen BK110.out 2
                  have hfz41_3 := blk_frozen BK110.out 3
                  go_wp2
                  go_ret
                  exact ⟨by first | rfl | (simp [errW_none,errW_some] <;> rfl) | (simp [*,errW_none,errW_some] <;> rfl) | (rw [isEmpty_ne];first | done | rfl) | (rw [isEmpty_be];first | done | rfl),by repeat (first | (with_reducible first | exact HB.out | apply below_alloc | apply pw_below_drewN | apply below_drew1 | refine below_set ?_ GE110.out) | exact HB.out)⟩
              · rw [if_neg c38] at H
                have c38b0 : (a0_2.toList == ([] : List UInt8)) = false := beq_eq_false_iff_ne.mpr c38
                have c38b1 : (a0_2.toList != ([] : List UInt8)) = true := bne_iff_ne.mpr c38
                obtain rfl := Option.some.inj H
                have hcz42_0 : wc.cell? ⟨gb110,0,none⟩ = some (.int .i64 a0_0) := (blk_cell BK110.out 0).trans rfl
                have hcz42_1 : wc.cell? ⟨gb110,1,none⟩ = some (.int .i64 a0_1) := (blk_cell BK110.out 1).trans rfl
                have hcz42_2 : wc.cell? ⟨gb110,2,none⟩ = some (.string a0_2) := (blk_cell BK110.out 2).trans rfl
                have hcz42_3 : wc.cell? ⟨gb110,3,none⟩ = some (.slice A0_3 l0_3.length c0_3) := (blk_cell BK110.out 3).trans rfl
                have hfz42_0 := blk_frozen BK110.out 0
                have hfz42_1 := blk_frozen BK110.out 1
                have hfz42_2 := blk_frozen BK110.out 2
                have hfz42_3 := blk_frozen BK110.out 3
                go_wp2
                go_ret
                exact ⟨by first | rfl | (simp [errW_none,errW_some] <;> rfl) | (simp [*,errW_none,errW_some] <;> rfl) | (rw [isEmpty_ne];first | done | rfl) | (rw [isEmpty_be];first | done | rfl),by repeat (first | (with_reducible first | exact HB.out | apply below_alloc | apply pw_below_drewN | apply below_drew1 | refine below_set ?_ GE110.out) | exact HB.out)⟩
            · replace c37 := Bool.eq_false_iff.mpr c37
              subst c37
              have H1 : (if a0_0 = 6 then (if a0_2.toList = ([] : List UInt8) then (if a0_1 = 0 then ((spec_l1In.f (l0_3.length : Int) 2 6).bind fun t114 => (some t114)) else (some false)) else (some false)) else (some false)) = some r := by rw [if_neg (show ¬ (false = true) by decide)] at H;exact H
              clear H
              have H := H1
              clear H1
              by_cases c43 : a0_0 = 6
              · rw [if_pos c43] at H
                have c43b0 : (a0_0 == 6) = true := beq_iff_eq.mpr c43
                have c43b1 : (a0_0 != 6) = false := bne_eq_false_iff_eq.mpr c43
                clear c43
                by_cases c44 : a0_2.toList = ([] : List UInt8)
                · rw [if_pos c44] at H
                  have c44b0 : (a0_2.toList == ([] : List UInt8)) = true := beq_iff_eq.mpr c44
                  have c44b1 : (a0_2.toList != ([] : List UInt8)) = false := bne_eq_false_iff_eq.mpr c44
                  clear c44
                  by_cases c45 : a0_1 = 0
                  · rw [if_pos c45] at H
                    have c45b0 : (a0_1 == 0) = true := beq_iff_eq.mpr c45
                    have c45b1 : (a0_1 != 0) = false := bne_eq_false_iff_eq.mpr c45
                    clear c45
                    replace H := Option.bind_eq_some_iff.mp H
                    obtain ⟨t114,A460,H⟩ := H
                    replace H : (some t114) = some r := H
                    have A46 := Aside0.mk A460
                    clear A460
                    obtain rfl := Option.some.inj H
                    have hcz47_0 : wc.cell? ⟨gb110,0,none⟩ = some (.int .i64 a0_0) := (blk_cell BK110.out 0).trans rfl
                    have hcz47_1 : wc.cell? ⟨gb110,1,none⟩ = some (.int .i64 a0_1) := (blk_cell BK110.out 1).trans rfl
                    have hcz47_2 : wc.cell? ⟨gb110,2,none⟩ = some (.string a0_2) := (blk_cell BK110.out 2).trans rfl
                    have hcz47_3 : wc.cell? ⟨gb110,3,none⟩ = some (.slice A0_3 l0_3.length c0_3) := (blk_cell BK110.out 3).trans rfl
                    have hfz47_0 := blk_frozen BK110.out 0
                    have hfz47_1 := blk_frozen BK110.out 1
                    have hfz47_2 := blk_frozen BK110.out 2
                    have hfz47_3 := blk_frozen BK110.out 3
                    go_wp2_with (first | (go_at_call 10;(with_reducible refine (spec_l1In.calls (l0_3.length : Int) 2 6 t114 _ A46.out).mono ?_);rintro e w' ⟨rfl,⟨nd,rfl⟩⟩))
                    go_ret
                    exact ⟨by first | rfl | (simp [errW_none,errW_some] <;> rfl) | (simp [*,errW_none,errW_some] <;> rfl) | (rw [isEmpty_ne];first | done | rfl) | (rw [isEmpty_be];first | done | rfl),by repeat (first | (with_reducible first | exact HB.out | apply below_alloc | apply pw_below_drewN | apply below_drew1 | refine below_set ?_ GE110.out) | exact HB.out)⟩
                  · rw [if_neg c45] at H
                    have c45b0 : (a0_1 == 0) = false := beq_eq_false_iff_ne.mpr c45
                    have c45b1 : (a0_1 != 0) = true := bne_iff_ne.mpr c45
                    obtain rfl := Option.some.inj H
                    have hcz48_0 : wc.cell? ⟨gb110,0,none⟩ = some (.int .i64 a0_0) := (blk_cell BK110.out 0).trans rfl
                    have hcz48_1 : wc.cell? ⟨gb110,1,none⟩ = some (.int .i64 a0_1) := (blk_cell BK110.out 1).trans rfl
                    have hcz48_2 : wc.cell? ⟨gb110,2,none⟩ = some (.string a0_2) := (blk_cell BK110.out 2).trans rfl
                    have hcz48_3 : wc.cell? ⟨gb110,3,none⟩ = some (.slice A0_3 l0_3.length c0_3) := (blk_cell BK110.out 3).trans rfl
                    have hfz48_0 := blk_frozen BK110.out 0
                    have hfz48_1 := blk_frozen BK110.out 1
                    have hfz48_2 := blk_frozen BK110.out 2
                    have hfz48_3 := blk_frozen BK110.out 3
                    go_wp2
                    go_ret
                    exact ⟨by first | rfl | (simp [errW_none,errW_some] <;> rfl) | (simp [*,errW_none,errW_some] <;> rfl) | (rw [isEmpty_ne];first | done | rfl) | (rw [isEmpty_be];first | done | rfl),by repeat (first | (with_reducible first | exact HB.out | apply below_alloc | apply pw_below_drewN | apply below_drew1 | refine below_set ?_ GE110.out) | exact HB.out)⟩
                · rw [if_neg c44] at H
                  have c44b0 : (a0_2.toList == ([] : List UInt8)) = false := beq_eq_false_iff_ne.mpr c44
                  have c44b1 : (a0_2.toList != ([] : List UInt8)) = true := bne_iff_ne.mpr c44
                  obtain rfl := Option.some.inj H
                  have hcz49_0 : wc.cell? ⟨gb110,0,none⟩ = some (.int .i64 a0_0) := (blk_cell BK110.out 0).trans rfl
                  have hcz49_1 : wc.cell? ⟨gb110,1,none⟩ = some (.int .i64 a0_1) := (blk_cell BK110.out 1).trans rfl
                  have hcz49_2 : wc.cell? ⟨gb110,2,none⟩ = some (.string a0_2) := (blk_cell BK110.out 2).trans rfl
                  have hcz49_3 : wc.cell? ⟨gb110,3,none⟩ = some (.slice A0_3 l0_3.length c0_3) := (blk_cell BK110.out 3).trans rfl
                  have hfz49_0 := blk_frozen BK110.out 0
                  have hfz49_1 := blk_frozen BK110.out 1
                  have hfz49_2 := blk_frozen BK110.out 2
                  have hfz49_3 := blk_frozen BK110.out 3
                  go_wp2
                  go_ret
                  exact ⟨by first | rfl | (simp [errW_none,errW_some] <;> rfl) | (simp [*,errW_none,errW_some] <;> rfl) | (rw [isEmpty_ne];first | done | rfl) | (rw [isEmpty_be];first | done | rfl),by repeat (first | (with_reducible first | exact HB.out | apply below_alloc | apply pw_below_drewN | apply below_drew1 | refine below_set ?_ GE110.out) | exact HB.out)⟩
              · rw [if_neg c43] at H
                have c43b0 : (a0_0 == 6) = false := beq_eq_false_iff_ne.mpr c43
                have c43b1 : (a0_0 != 6) = true := bne_iff_ne.mpr c43
                obtain rfl := Option.some.inj H
                go_wp2
                go_ret
                exact ⟨by first | rfl | (simp [errW_none,errW_some] <;> rfl) | (simp [*,errW_none,errW_some] <;> rfl) | (rw [isEmpty_ne];first | done | rfl) | (rw [isEmpty_be];first | done | rfl),by repeat (first | (with_reducible first | exact HB.out | apply below_alloc | apply pw_below_drewN | apply below_drew1 | refine below_set ?_ GE110.out) | exact HB.out)⟩

/-! ### spec_l9Look: function 11 -/
mutual
def spec_l9Look.j0 : Nat → Int → Int → Int → Bool → Int → Int → ByteArray → List (S29) → Option (Int)
  | 0,_,_,_,_,_,_,_,_ => none
  | k + 1,x1,x2,x3,x21,x116000,x116001,x116002,x116003 => if x21 = true then (some (-1)) else (spec_l9Look.l0 k x1 x2 (wrap64 (x3 - 1)) 0 x116000 x116001 x116002 x116003)
def spec_l9Look.l0 : Nat → Int → Int → Int → Int → Int → Int → ByteArray → List (S29) → Option (Int)
  | 0,_,_,_,_,_,_,_,_ => none
  | k + 1,x1,x2,x3,x9,x116000,x116001,x116002,x116003 => if x9 < (x116003.length : Int) then (if x3 ≥ 0 then (if 0 ≤ x9 then ((spec_l9Look.f k ((rd_T29 x116003 x9).f0) ((rd_T29 x116003 x9).f1) ((rd_T29 x116003 x9).f2) ((rd_T29 x116003 x9).f3) x1 (wrap64 (x2 - 1)) x3).bind fun t118 => (spec_l9Look.l0 k x1 x2 t118 (wrap64 (x9 + 1)) x116000 x116001 x116002 x116003)) else (none)) else (some x3)) else (some x3)
def spec_l9Look.f : Nat → Int → Int → ByteArray → List (S29) → Int → Int → Int → Option (Int)
  | 0,_,_,_,_,_,_,_ => none
  | k + 1,a0_0,a0_1,a0_2,l0_3,a1,a2,a3 => if a2 < 1 then (spec_l9Look.j0 k a1 a2 a3 true a0_0 a0_1 a0_2 l0_3) else (if a3 < 1 then (spec_l9Look.j0 k a1 a2 a3 true a0_0 a0_1 a0_2 l0_3) else ((spec_l9Shape.f k a0_0 a0_1 a0_2 l0_3 a1).bind fun t116 => (spec_l9Look.j0 k a1 a2 a3 (!t116) a0_0 a0_1 a0_2 l0_3)))
end
theorem spec_l9Look.mono_l : ∀ k,(∀ y0 y1 y2 y3 y4 y5 y6,LeO (spec_l9Look.f k y0 y1 y2 y3 y4 y5 y6) (spec_l9Look.f (k + 1) y0 y1 y2 y3 y4 y5 y6)) ∧ (∀ y0 y1 y2 y3 y4 y5 y6 y7,LeO (spec_l9Look.j0 k y0 y1 y2 y3 y4 y5 y6 y7) (spec_l9Look.j0 (k + 1) y0 y1 y2 y3 y4 y5 y6 y7)) ∧ (∀ y0 y1 y2 y3 y4 y5 y6 y7,LeO (spec_l9Look.l0 k y0 y1 y2 y3 y4 y5 y6 y7) (spec_l9Look.l0 (k + 1) y0 y1 y2 y3 y4 y5 y6 y7))
  | 0 => ⟨fun _ _ _ _ _ _ _ r h => by simp [spec_l9Look.f] at h,fun _ _ _ _ _ _ _ _ r h => by simp [spec_l9Look.j0] at h,fun _ _ _ _ _ _ _ _ r h => by simp [spec_l9Look.l0] at h⟩
  | k + 1 => by
    obtain ⟨ih0,ih1,ih2⟩ := spec_l9Look.mono_l k
    refine ⟨?_,?_,?_⟩
    · intro y0 y1 y2 y3 y4 y5 y6
      unfold spec_l9Look.f
      repeat' first
      | (with_reducible exact ih0 _ _ _ _ _ _ _)
      | (with_reducible exact ih1 _ _ _ _ _ _ _ _)
      | (with_reducible exact ih2 _ _ _ _ _ _ _ _)
      | (with_reducible exact spec_l9Shape.mono _ _ _ _ _ _)
      | (with_reducible exact LeO.refl _)
      | (with_reducible exact LeO.none _)
      | (with_reducible refine LeO.ite ?_ ?_)
      | (with_reducible refine LeO.bind ?_ (fun _ => ?_))
      | exact ih0 _ _ _ _ _ _ _
      | exact ih1 _ _ _ _ _ _ _ _
      | exact ih2 _ _ _ _ _ _ _ _
      | exact spec_l9Shape.mono _ _ _ _ _ _
      | exact LeO.none _
      | refine LeO.ite ?_ ?_
      | refine LeO.bind ?_ (fun _ => ?_)
    · intro y0 y1 y2 y3 y4 y5 y6 y7
      unfold spec_l9Look.j0
      repeat' first
      | (with_reducible exact ih0 _ _ _ _ _ _ _)
      | (with_reducible exact ih1 _ _ _ _ _ _ _ _)
      | (with_reducible exact ih2 _ _ _ _ _ _ _ _)
      | (with_reducible exact spec_l9Shape.mono _ _ _ _ _ _)
      | (with_reducible exact LeO.refl _)
      | (with_reducible exact LeO.none _)
      | (with_reducible refine LeO.ite ?_ ?_)
      | (with_reducible refine LeO.bind ?_ (fun _ => ?_))
      | exact ih0 _ _ _ _ _ _ _
      | exact ih1 _ _ _ _ _ _ _ _
      | exact ih2 _ _ _ _ _ _ _ _
      | exact spec_l9Shape.mono _ _ _ _ _ _
      | exact LeO.none _
      | refine LeO.ite ?_ ?_
      | refine LeO.bind ?_ (fun _ => ?_)
    · intro y0 y1 y2 y3 y4 y5 y6 y7
      unfold spec_l9Look.l0
      repeat' first
      | (with_reducible exact ih0 _ _ _ _ _ _ _)
      | (with_reducible exact ih1 _ _ _ _ _ _ _ _)
      | (with_reducible exact ih2 _ _ _ _ _ _ _ _)
      | (with_reducible exact spec_l9Shape.mono _ _ _ _ _ _)
      | (with_reducible exact LeO.refl _)
      | (with_reducible exact LeO.none _)
      | (with_reducible refine LeO.ite ?_ ?_)
      | (with_reducible refine LeO.bind ?_ (fun _ => ?_))
      | exact ih0 _ _ _ _ _ _ _
      | exact ih1 _ _ _ _ _ _ _ _
      | exact ih2 _ _ _ _ _ _ _ _
      | exact spec_l9Shape.mono _ _ _ _ _ _
      | exact LeO.none _
      | refine LeO.ite ?_ ?_
      | refine LeO.bind ?_ (fun _ => ?_)
theorem spec_l9Look.mono : ∀ a0 a1 a2 a3 a4 a5 a6 k,LeO (spec_l9Look.f k a0 a1 a2 a3 a4 a5 a6) (spec_l9Look.f (k + 1) a0 a1 a2 a3 a4 a5 a6) := by
  intro a0 a1 a2 a3 a4 a5 a6 k
  obtain ⟨ih0,ih1,ih2⟩ := spec_l9Look.mono_l k
  exact ih0 a0 a1 a2 a3 a4 a5 a6
set_option maxHeartbeats 8000000 in
set_option maxRecDepth 100000 in
theorem spec_l9Look.calls (k : Nat) : ∀ (a0_0 : Int) (a0_1 : Int) (a0_2 : ByteArray) (A0_3 : Option Addr) (c0_3 : Nat) (l0_3 : List (S29)) (a1 : Int) (a2 : Int) (a3 : Int) (r : Int) (w : World) (hr0_3 : Kd.C k29 w A0_3 l0_3.length l0_3) (hc0_3 : l0_3.length ≤ c0_3) (h : spec_l9Look.f k a0_0 a0_1 a0_2 l0_3 a1 a2 a3 = some r),
    Calls Try.prog 11 #[.agg #[.int .i64 a0_0,.int .i64 a0_1,.string a0_2,.slice A0_3 l0_3.length c0_3],.int .i64 a1,.int .i64 a2,.int .i64 a3] w fun e w' => e = .returned (.int .i64 r) ∧ Below w.heap.size w w' := by
  induction k using Nat.strongRecOn with
  | _ k ih =>
  intro a0_0 a0_1 a0_2 A0_3 c0_3 l0_3 a1 a2 a3 r w hr0_3 hc0_3 h
  cases k with
  | zero => exact absurd h (by simp [spec_l9Look.f])
  | succ k =>
  simp only [spec_l9Look.f] at h
  have hu29 := Try.underlying29
  have HR0_3 := Aside0.mk hr0_3
  have HC0_3 := Aside0.mk hc0_3
  clear hr0_3 hc0_3
  have HB := Aside0.mk (Below.refl w.heap.size w)
  have H : (if a2 < 1 then (spec_l9Look.j0 k a1 a2 a3 true a0_0 a0_1 a0_2 l0_3) else (if a3 < 1 then (spec_l9Look.j0 k a1 a2 a3 true a0_0 a0_1 a0_2 l0_3) else ((spec_l9Shape.f k a0_0 a0_1 a0_2 l0_3 a1).bind fun t116 => (spec_l9Look.j0 k a1 a2 a3 (!t116) a0_0 a0_1 a0_2 l0_3)))) = some r := h
  clear h
  have HC5 := Aside0.mk H
  clear H
  go_enter Try.func11,Try.ntmps11
  go_upto_region 1 with (first | ((with_reducible refine gate_dst (N := 4) rfl ?_);refine box_event ?hg (N := 4) ?hd (cs := #[.int .i64 a0_0,.int .i64 a0_1,.string a0_2,.slice A0_3 l0_3.length c0_3]) (t := 29) ?hr ?_;(case hd => rfl);(case hg => rfl);(case hr => first | (go_simp;done) | (go_simp;rfl));intro gb115 hg w6 hbox hb;have n0_ := Aside0.mk (below_step (by repeat (first | (with_reducible first | exact HB.out | apply below_alloc | apply pw_below_drewN | apply below_drew1) | exact HB.out)) hb);have n1_ := Aside0.mk (hbox);have n2_ := Aside0.mk ((by rw [hg];exact (below_size (by repeat (first | (with_reducible first | exact HB.out | apply below_alloc | apply pw_below_drewN | apply below_drew1) | exact HB.out))) : w.heap.size ≤ gb115));have n3_ := Aside0.mk ((by rw [hg];exact (below_size (by repeat (first | (with_reducible first | exact HB.out | apply below_alloc | apply pw_below_drewN | apply below_drew1) | exact HB.out))) : w.heap.size ≤ gb115));clear HB;have HB := n0_;have BK115 := n1_;have GW115 := n2_;have GE115 := n3_;clear n0_ n1_ n2_ n3_;clear hb hbox hg))
  (try simp only [Act.put,List.setIfInBounds_toArray,List.set_cons_zero,List.set_cons_succ])
  go_cut [21] (fun v21 wc => ∃ (kq : Nat) (x21_4 : Bool),v21 = .bool x21_4 ∧ Aside0 (spec_l9Look.j0 kq a1 a2 a3 x21_4 a0_0 a0_1 a0_2 l0_3 = some r) ∧ Aside0 (kq ≤ k) ∧ Aside0 (wc.heap[gb115]? = some (.cells #[.int .i64 a0_0,.int .i64 a0_1,.string a0_2,(.slice A0_3 l0_3.length c0_3)] 29 (0,0))) ∧ Aside0 (Below w.heap.size w wc))
  case first =>
    have H := HC5.out
    clear HC5
    by_cases c7 : a2 < 1
    · rw [if_pos c7] at H
      have c7b0 : decide (a2 < 1) = true := decide_eq_true c7
      clear c7
      (first | rw [c7b0] | (simp only [i64_w,i32_w];rw [c7b0]) | (simp only [c7b2,Bool.not_true,Bool.not_false]) | skip)
      have H' := Aside0.mk H
      clear H
      go_wp2
      go_meet
      case rel => exact ⟨_,(true),(by first | rfl | (simp;done) | (simp [*];done)),H',⟨by first | omega | exact Nat.le_refl _⟩,⟨by (with_reducible repeat (first | refine blk_drewN ?_ _ | refine blk_drew ?_ | refine blk_alloc ?_ _));exact BK115.out⟩,⟨by repeat (first | (with_reducible first | exact HB.out | apply below_alloc | apply pw_below_drewN | apply below_drew1 | refine below_set ?_ GE115.out) | exact HB.out)⟩⟩
    · rw [if_neg c7] at H
      have c7b0 : decide (a2 < 1) = false := decide_eq_false c7
      clear c7
      (first | rw [c7b0] | (simp only [i64_w,i32_w];rw [c7b0]) | (simp only [c7b2,Bool.not_true,Bool.not_false]) | skip)
      by_cases c8 : a3 < 1
      · rw [if_pos c8] at H
        have c8b0 : decide (a3 < 1) = true := decide_eq_true c8
        clear c8
        have H' := Aside0.mk H
        clear H
        go_wp2
        go_meet
        case rel => exact ⟨_,(true),(by first | rfl | (simp;done) | (simp [*];done)),H',⟨by first | omega | exact Nat.le_refl _⟩,⟨by (with_reducible repeat (first | refine blk_drewN ?_ _ | refine blk_drew ?_ | refine blk_alloc ?_ _));exact BK115.out⟩,⟨by repeat (first | (with_reducible first | exact HB.out | apply below_alloc | apply pw_below_drewN | apply below_drew1 | refine below_set ?_ GE115.out) | exact HB.out)⟩⟩
      · rw [if_neg c8] at H
        have c8b0 : decide (a3 < 1) = false := decide_eq_false c8
        clear c8
        replace H := Option.bind_eq_some_iff.mp H
        obtain ⟨t116,A90,H⟩ := H
        replace H : (spec_l9Look.j0 k a1 a2 a3 (!t116) a0_0 a0_1 a0_2 l0_3) = some r := H
        have A9 := Aside0.mk A90
        clear A90
        have H' := Aside0.mk H
        clear H
        have hcz10_0 : w6.cell? ⟨gb115,0,none⟩ = some (.int .i64 a0_0) := (blk_cell BK115.out 0).trans rfl
        have hcz10_1 : w6.cell? ⟨gb115,1,none⟩ = some (.int .i64 a0_1) := (blk_cell BK115.out 1).trans rfl
        have hcz10_2 : w6.cell? ⟨gb115,2,none⟩ = some (.string a0_2) := (blk_cell BK115.out 2).trans rfl
        have hcz10_3 : w6.cell? ⟨gb115,3,none⟩ = some (.slice A0_3 l0_3.length c0_3) := (blk_cell BK115.out 3).trans rfl
        have hfz10_0 := blk_frozen BK115.out 0
        have hfz10_1 := blk_frozen BK115.out 1
        have hfz10_2 := blk_frozen BK115.out 2
        have hfz10_3 := blk_frozen BK115.out 3
        go_wp2_with (first | (go_at_call 17;(with_reducible refine (spec_l9Shape.calls k a0_0 a0_1 a0_2 _ _ l0_3 a1 t116 _ ?side1 ?side2 A9.out).mono ?_);(case side1 => repeat (first | exact (Kd.C_below HR0_3.out HB.out) | (with_reducible refine Kd.C_alloc ?_ _) | (with_reducible refine Kd.C_drewN ?_ _) | (with_reducible refine Kd.C_drew ?_)));(case side2 => exact HC0_3.out);rintro e w11 ⟨rfl,hb⟩;have n0_ := Aside0.mk (blk_below (g := gb115) (o := .cells #[.int .i64 a0_0,.int .i64 a0_1,.string a0_2,.slice A0_3 l0_3.length c0_3] 29 (0,0)) (by (with_reducible repeat (first | refine blk_drewN ?_ _ | refine blk_drew ?_ | refine blk_alloc ?_ _));exact BK115.out) hb);have n1_ := Aside0.mk (below_step (by repeat (first | (with_reducible first | exact HB.out | apply below_alloc | apply pw_below_drewN | apply below_drew1 | refine below_set ?_ GE115.out) | exact HB.out)) hb);clear BK115;clear HB;have BK115 := n0_;have HB := n1_;clear n0_ n1_;(try clear hb);(try clear hb2);(try clear hk);(try clear hi)))
        go_meet
        case rel => exact ⟨_,(!t116),(by first | rfl | (simp;done) | (simp [*];done)),H',⟨by first | omega | exact Nat.le_refl _⟩,⟨by (with_reducible repeat (first | refine blk_drewN ?_ _ | refine blk_drew ?_ | refine blk_alloc ?_ _));exact BK115.out⟩,⟨by repeat (first | (with_reducible first | exact HB.out | apply below_alloc | apply pw_below_drewN | apply below_drew1 | refine below_set ?_ GE115.out) | exact HB.out)⟩⟩
  case rest =>
    clear HC5
    try clear c1
    try clear p2
    try clear c7
    try clear c7b0
    try clear c7b2
    try clear c8
    try clear c8b0
    try clear c11
    try clear hcz10_0
    try clear hcz10_1
    try clear hcz10_2
    try clear hcz10_3
    try clear hfz10_0
    try clear hfz10_1
    try clear hfz10_2
    try clear hfz10_3
    try clear BK115
    try clear HB
    obtain ⟨kq,x21_4,rfl,HA,HJ4,BK115,HB⟩ := hcut
    cases kq with
    | zero => exact absurd HA.out (by simp [spec_l9Look.j0])
    | succ kj4 =>
      have H := HA.out
      clear HA
      simp only [spec_l9Look.j0] at H
      by_cases c12 : x21_4 = true
      · subst c12
        have H1 : (some (-1)) = some r := by rw [if_pos rfl] at H;exact H
        clear H
        have H := H1
        clear H1
        obtain rfl := Option.some.inj H
        go_wp2
        go_ret
        exact ⟨by first | rfl | (simp [errW_none,errW_some] <;> rfl) | (simp [*,errW_none,errW_some] <;> rfl) | (rw [isEmpty_ne];first | done | rfl) | (rw [isEmpty_be];first | done | rfl),by repeat (first | (with_reducible first | exact HB.out | apply below_alloc | apply pw_below_drewN | apply below_drew1 | refine below_set ?_ GE115.out) | exact HB.out)⟩
      · replace c12 := Bool.eq_false_iff.mpr c12
        subst c12
        have H1 : (spec_l9Look.l0 kj4 a1 a2 (wrap64 (a3 - 1)) 0 a0_0 a0_1 a0_2 l0_3) = some r := by rw [if_neg (show ¬ (false = true) by decide)] at H;exact H
        clear H
        have H := H1
        clear H1
        have H' := Aside0.mk H
        clear H
        go_wp2
        go_loopg [3,9] kj4 (fun kq v3 v9 w' => ∃ (x3_2 : Int) (x9_2 : Int),v3 = .int .i64 x3_2 ∧ v9 = .int .i64 x9_2 ∧ Aside0 (spec_l9Look.l0 kq a1 a2 x3_2 x9_2 a0_0 a0_1 a0_2 l0_3 = some r) ∧ Aside0 (kq ≤ kj4) ∧ Aside0 (w'.heap[gb115]? = some (.cells #[.int .i64 a0_0,.int .i64 a0_1,.string a0_2,(.slice A0_3 l0_3.length c0_3)] 29 (0,0))) ∧ Aside0 (Below w.heap.size w w'))
        case atStart => exact ⟨(wrap64 (a3 - 1)),(0),(by first | rfl | (simp;done) | (simp [*];done)),(by first | rfl | (simp;done) | (simp [*];done)),H',⟨Nat.le_refl _⟩,⟨by (with_reducible repeat (first | refine blk_drewN ?_ _ | refine blk_drew ?_ | refine blk_alloc ?_ _));exact BK115.out⟩,⟨by repeat (first | (with_reducible first | exact HB.out | apply below_alloc | apply pw_below_drewN | apply below_drew1 | refine below_set ?_ GE115.out) | exact HB.out)⟩⟩
        case round =>
          clear H'
          try clear c1
          try clear p2
          try clear p6
          try clear c7
          try clear c7b0
          try clear c7b2
          try clear c8
          try clear c8b0
          try clear c11
          try clear c12
          try clear hcz10_0
          try clear hcz10_1
          try clear hcz10_2
          try clear hcz10_3
          try clear hfz10_0
          try clear hfz10_1
          try clear hfz10_2
          try clear hfz10_3
          try clear p2
          try clear BK115
          try clear HB
          obtain ⟨x3_2,x9_2,rfl,rfl,HA,HK2,BK115,HB⟩ := hrel
          cases gk with
          | zero => exact absurd HA.out (by simp [spec_l9Look.l0])
          | succ k2 =>
            have H := HA.out
            clear HA
            simp only [spec_l9Look.l0] at H
            by_cases c13 : x9_2 < (l0_3.length : Int)
            · rw [if_pos c13] at H
              have c13b0 : decide (x9_2 < (l0_3.length : Int)) = true := decide_eq_true c13
              clear c13
              by_cases c14 : x3_2 ≥ 0
              · rw [if_pos c14] at H
                have c14b0 : decide (0 ≤ x3_2) = true := decide_eq_true c14
                clear c14
                by_cases c15 : 0 ≤ x9_2
                · rw [if_pos c15] at H
                  have c15b0 : decide (0 ≤ x9_2) = true := decide_eq_true c15
                  clear c15
                  replace H := Option.bind_eq_some_iff.mp H
                  obtain ⟨t118,A160,H⟩ := H
                  replace H : (spec_l9Look.l0 k2 a1 a2 t118 (wrap64 (x9_2 + 1)) a0_0 a0_1 a0_2 l0_3) = some r := H
                  have A16 := Aside0.mk A160
                  clear A160
                  have H' := Aside0.mk H
                  clear H
                  have hcz17_0 : wr.cell? ⟨gb115,0,none⟩ = some (.int .i64 a0_0) := (blk_cell BK115.out 0).trans rfl
                  have hcz17_1 : wr.cell? ⟨gb115,1,none⟩ = some (.int .i64 a0_1) := (blk_cell BK115.out 1).trans rfl
                  have hcz17_2 : wr.cell? ⟨gb115,2,none⟩ = some (.string a0_2) := (blk_cell BK115.out 2).trans rfl
                  have hcz17_3 : wr.cell? ⟨gb115,3,none⟩ = some (.slice A0_3 l0_3.length c0_3) := (blk_cell BK115.out 3).trans rfl
                  have hfz17_0 := blk_frozen BK115.out 0
                  have hfz17_1 := blk_frozen BK115.out 1
                  have hfz17_2 := blk_frozen BK115.out 2
                  have hfz17_3 := blk_frozen BK115.out 3
                  have p117 : 0 ≤ (x9_2 : Int) := of_decide_eq_true (by first | (with_reducible assumption) | assumption)
                  have q117 : x9_2 < (l0_3.length : Int) := of_decide_eq_true (by first | (with_reducible assumption) | assumption)
                  obtain ⟨ad117,A117_3,c117_3,e117,hx117_0,hx117_1,hx117_2,hx117_3,hl117_3,hi117_3⟩ := at_T29 HR0_3.out x9_2 p117 q117
                  cases e117
                  replace hx117_0 := (HB.out.cell (World.block_lt_of_cell? w _ hx117_0)).trans hx117_0
                  replace hx117_1 := (HB.out.cell (World.block_lt_of_cell? w _ hx117_1)).trans hx117_1
                  replace hx117_2 := (HB.out.cell (World.block_lt_of_cell? w _ hx117_2)).trans hx117_2
                  replace hx117_3 := (HB.out.cell (World.block_lt_of_cell? w _ hx117_3)).trans hx117_3
                  have HR117_3 := Aside0.mk hi117_3
                  have HC117_3 := Aside0.mk hl117_3
                  clear hi117_3 hl117_3
                  replace p117 := eq_true p117
                  replace q117 := eq_true q117
                  go_wp2_with (first | ((with_reducible refine gate_callee (f := 11) rfl ?_);refine goesL_ (some 44) rfl rfl Try.func11 (by kernel_rfl) rfl #[.agg #[.int .i64 ((rd_T29 l0_3 x9_2).f0),.int .i64 ((rd_T29 l0_3 x9_2).f1),.string ((rd_T29 l0_3 x9_2).f2),.slice A117_3 ((rd_T29 l0_3 x9_2).f3).length c117_3],.int .i64 a1,.int .i64 (wrap64 (a2 - 1)),.int .i64 x3_2] rfl (by (try simp only [List.map_toArray,List.map_cons,List.map_nil]);first | done | rfl | (simp only [List.length_drop,List.length_take];rfl)) ?_;(with_reducible refine (ih k2 (by have := HJ4.out;have := HK2.out;omega) ((rd_T29 l0_3 x9_2).f0) ((rd_T29 l0_3 x9_2).f1) ((rd_T29 l0_3 x9_2).f2) _ _ ((rd_T29 l0_3 x9_2).f3) a1 (wrap64 (a2 - 1)) x3_2 t118 _ ?side1 ?side2 A16.out).mono ?_);(case side1 => repeat (first | exact (Kd.C_below HR117_3.out HB.out) | (with_reducible refine Kd.C_alloc ?_ _) | (with_reducible refine Kd.C_drewN ?_ _) | (with_reducible refine Kd.C_drew ?_)));(case side2 => exact HC117_3.out);rintro e w18 ⟨rfl,hb⟩;refine ⟨_,rfl,?_⟩;have n0_ := Aside0.mk (blk_below (g := gb115) (o := .cells #[.int .i64 a0_0,.int .i64 a0_1,.string a0_2,.slice (some ad117) l0_3.length c0_3] 29 (0,0)) (by (with_reducible repeat (first | refine blk_drewN ?_ _ | refine blk_drew ?_ | refine blk_alloc ?_ _));exact BK115.out) hb);have n1_ := Aside0.mk (below_step (by repeat (first | (with_reducible first | exact HB.out | apply below_alloc | apply pw_below_drewN | apply below_drew1 | refine below_set ?_ GE115.out) | exact HB.out)) hb);clear BK115;clear HB;have BK115 := n0_;have HB := n1_;clear n0_ n1_;(try clear hb);(try clear hb2);(try clear hk);(try clear hi)))
                  go_roundg k2
                  case measure => have := HJ4.out;have := HK2.out;omega
                  case rel => exact ⟨(t118),(wrap64 (x9_2 + 1)),(by first | rfl | (simp;done) | (simp [*];done)),(by first | rfl | (simp;done) | (simp [*];done)),H',⟨by have := HJ4.out;have := HK2.out;omega⟩,⟨by (with_reducible repeat (first | refine blk_drewN ?_ _ | refine blk_drew ?_ | refine blk_alloc ?_ _));exact BK115.out⟩,⟨by repeat (first | (with_reducible first | exact HB.out | apply below_alloc | apply pw_below_drewN | apply below_drew1 | refine below_set ?_ GE115.out) | exact HB.out)⟩⟩
                · rw [if_neg c15] at H
                  exact absurd H (by simp)
              · rw [if_neg c14] at H
                have c14b0 : decide (0 ≤ x3_2) = false := decide_eq_false c14
                clear c14
                obtain rfl := Option.some.inj H
                have hcz19_0 : wr.cell? ⟨gb115,0,none⟩ = some (.int .i64 a0_0) := (blk_cell BK115.out 0).trans rfl
                have hcz19_1 : wr.cell? ⟨gb115,1,none⟩ = some (.int .i64 a0_1) := (blk_cell BK115.out 1).trans rfl
                have hcz19_2 : wr.cell? ⟨gb115,2,none⟩ = some (.string a0_2) := (blk_cell BK115.out 2).trans rfl
                have hcz19_3 : wr.cell? ⟨gb115,3,none⟩ = some (.slice A0_3 l0_3.length c0_3) := (blk_cell BK115.out 3).trans rfl
                have hfz19_0 := blk_frozen BK115.out 0
                have hfz19_1 := blk_frozen BK115.out 1
                have hfz19_2 := blk_frozen BK115.out 2
                have hfz19_3 := blk_frozen BK115.out 3
                go_wp2
                go_ret
                exact ⟨by first | rfl | (simp [errW_none,errW_some] <;> rfl) | (simp [*,errW_none,errW_some] <;> rfl) | (rw [isEmpty_ne];first | done | rfl) | (rw [isEmpty_be];first | done | rfl),by repeat (first | (with_reducible first | exact HB.out | apply below_alloc | apply pw_below_drewN | apply below_drew1 | refine below_set ?_ GE115.out) | exact HB.out)⟩
            · rw [if_neg c13] at H
              have c13b0 : decide (x9_2 < (l0_3.length : Int)) = false := decide_eq_false c13
              clear c13
              obtain rfl := Option.some.inj H
              have hcz20_0 : wr.cell? ⟨gb115,0,none⟩ = some (.int .i64 a0_0) := (blk_cell BK115.out 0).trans rfl
              have hcz20_1 : wr.cell? ⟨gb115,1,none⟩ = some (.int .i64 a0_1) := (blk_cell BK115.out 1).trans rfl
              have hcz20_2 : wr.cell? ⟨gb115,2,none⟩ = some (.string a0_2) := (blk_cell BK115.out 2).trans rfl
              have hcz20_3 : wr.cell? ⟨gb115,3,none⟩ = some (.slice A0_3 l0_3.length c0_3) := (blk_cell BK115.out 3).trans rfl
              have hfz20_0 := blk_frozen BK115.out 0
              have hfz20_1 := blk_frozen BK115.out 1
              have hfz20_2 := blk_frozen BK115.out 2
              have hfz20_3 := blk_frozen BK115.out 3
              go_wp2
              go_ret
              exact ⟨by first | rfl | (simp [errW_none,errW_some] <;> rfl) | (simp [*,errW_none,errW_some] <;> rfl) | (rw [isEmpty_ne];first | done | rfl) | (rw [isEmpty_be];first | done | rfl),by repeat (first | (with_reducible first | exact HB.out | apply below_alloc | apply pw_below_drewN | apply below_drew1 | refine below_set ?_ GE115.out) | exact HB.out)⟩

end Go.Proofs.Yteifhhbaiobioaa.QFnExactPatFits
