-- Written by a program of this workplace (print2.py) for this claim, over the print's words.
import Derived.Test.YtboiagjicjgceaaQFnAtomsx0
import Derived.Test.YtboiagjicjgceaaQFnAtomsx1
import Derived.Test.YtboiagjicjgceaaQFnAtomsx2
import Derived.Test.YtboiagjicjgceaaQFnAtomsx3
import Derived.Test.YtboiagjicjgceaaQFnAtomsx5
import Derived.Test.YtboiagjicjgceaaQFnAtomsx6
namespace Go.Proofs.Ytboiagjicjgceaa.QFnAtoms
open Go.RowKit Go.Proofs.YtboiagjicjgceaaW.PrintWords Go.Proofs.YtboiagjicjgceaaW.PrintLast Go.Proofs.YtboiagjicjgceaaW.PrintMore
attribute [local go_sem] max2_int min2_int max_two min_two max_three min_three max_four min_four   -- for this text's walks alone
set_option linter.unusedVariables false
set_option linter.unusedSimpArgs false

/-! ### impl_ExprOk: function 10 -/
def impl_ExprOk.f (k : Nat) (a0_0 : Int) (a0_1 : Int) (a0_2 : ByteArray) (l0_3 : List (S37)) (l0_4 : List (S59)) : Option (Bool) := (impl_judge_expr.f k 0 ([] : List ByteArray) a0_0 a0_1 a0_2 l0_3 l0_4 1).bind fun bt209 => (some bt209.1)
theorem impl_ExprOk.mono : ∀ a0 a1 a2 a3 a4 k,LeO (impl_ExprOk.f k a0 a1 a2 a3 a4) (impl_ExprOk.f (k + 1) a0 a1 a2 a3 a4) := by
  intro a0 a1 a2 a3 a4 k
  unfold impl_ExprOk.f
  repeat' first
      | (with_reducible exact impl_judge_expr.mono _ _ _ _ _ _ _ _ _)
      | (with_reducible exact LeO.refl _)
      | (with_reducible exact LeO.none _)
      | (with_reducible refine LeO.ite ?_ ?_)
      | (with_reducible refine LeO.bind ?_ (fun _ => ?_))
      | exact impl_judge_expr.mono _ _ _ _ _ _ _ _ _
      | exact LeO.none _
      | refine LeO.ite ?_ ?_
      | refine LeO.bind ?_ (fun _ => ?_)
set_option maxHeartbeats 8000000 in
set_option maxRecDepth 100000 in
theorem impl_ExprOk.calls (k : Nat) (a0_0 : Int) (a0_1 : Int) (a0_2 : ByteArray) (A0_3 : Option Addr) (c0_3 : Nat) (l0_3 : List (S37)) (A0_4 : Option Addr) (c0_4 : Nat) (l0_4 : List (S59)) (r : Bool) (w : World) (hr0_3 : Kd.C k37 w A0_3 l0_3.length l0_3) (hc0_3 : l0_3.length ≤ c0_3) (hr0_4 : Kd.C k59 w A0_4 l0_4.length l0_4) (hc0_4 : l0_4.length ≤ c0_4) (h : impl_ExprOk.f k a0_0 a0_1 a0_2 l0_3 l0_4 = some r) :
    Calls Try.prog 10 #[.agg #[.int .i64 a0_0,.int .i64 a0_1,.string a0_2,.slice A0_3 l0_3.length c0_3,.slice A0_4 l0_4.length c0_4]] w fun e w' => e = .returned (.bool r) ∧ Below w.heap.size w w' := by
  have hu37 := Try.underlying37
  have hu47 := Try.underlying47
  have HR0_3 := Aside0.mk hr0_3
  have HC0_3 := Aside0.mk hc0_3
  clear hr0_3 hc0_3
  have HR0_4 := Aside0.mk hr0_4
  have HC0_4 := Aside0.mk hc0_4
  clear hr0_4 hc0_4
  have HB := Aside0.mk (Below.refl w.heap.size w)
  have H : ((impl_judge_expr.f k 0 ([] : List ByteArray) a0_0 a0_1 a0_2 l0_3 l0_4 1).bind fun bt209 => (some bt209.1)) = some r := h
  clear h
  replace H := Option.bind_eq_some_iff.mp H
  obtain ⟨⟨t209,t210,t213⟩,A20,H⟩ := H
  replace H : (some t209) = some r := H
  have A2 := Aside0.mk A20
  clear A20
  obtain rfl := Option.some.inj H
  go_enter Try.func10,Try.ntmps10
  go_wp2_with (first | ((with_reducible refine gate_dst (N := 1) rfl ?_);refine box_event ?hg (N := 1) ?hd (cs := #[.int .i64 a0_0,.int .i64 a0_1,.string a0_2,.slice A0_3 l0_3.length c0_3,.slice A0_4 l0_4.length c0_4]) (t := 37) ?hr ?_;(case hd => rfl);(case hg => rfl);(case hr => first | (go_simp;done) | (go_simp;rfl));intro gb207 hg w3 hbox hb;have n0_ := Aside0.mk (below_step (by repeat (first | (with_reducible first | exact HB.out | apply below_alloc | apply pw_below_drewN | apply below_drew1) | exact HB.out)) hb);have n1_ := Aside0.mk (hbox);have n2_ := Aside0.mk ((by rw [hg];exact (below_size (by repeat (first | (with_reducible first | exact HB.out | apply below_alloc | apply pw_below_drewN | apply below_drew1) | exact HB.out))) : w.heap.size ≤ gb207));have n3_ := Aside0.mk ((by rw [hg];exact (below_size (by repeat (first | (with_reducible first | exact HB.out | apply below_alloc | apply pw_below_drewN | apply below_drew1) | exact HB.out))) : w.heap.size ≤ gb207));clear HB;have HB := n0_;have BK207 := n1_;have GW207 := n2_;have GE207 := n3_;clear n0_ n1_ n2_ n3_;clear hb hbox hg) | ((with_reducible refine gate_dst (N := 3) rfl ?_);refine box_event ?hg (N := 3) ?hd (cs := #[.int .i64 0,.slice none 0 0]) (t := 47) ?hr ?_;(case hd => rfl);(case hg => rfl);(case hr => first | (go_simp;done) | (go_simp;rfl));intro gb208 hg w4 hbox hb;have n0_ := Aside0.mk (blk_below (g := gb207) (o := .cells #[.int .i64 a0_0,.int .i64 a0_1,.string a0_2,.slice A0_3 l0_3.length c0_3,.slice A0_4 l0_4.length c0_4] 37 (0,0)) (by (with_reducible repeat (first | refine blk_drewN ?_ _ | refine blk_drew ?_ | refine blk_alloc ?_ _));exact BK207.out) hb);have n1_ := Aside0.mk (below_step (by repeat (first | (with_reducible first | exact HB.out | apply below_alloc | apply pw_below_drewN | apply below_drew1 | refine below_set ?_ GE207.out) | exact HB.out)) hb);have n2_ := Aside0.mk (hbox);have n3_ := Aside0.mk ((by rw [hg];exact (below_size (by repeat (first | (with_reducible first | exact HB.out | apply below_alloc | apply pw_below_drewN | apply below_drew1 | refine below_set ?_ GE207.out) | exact HB.out))) : w.heap.size ≤ gb208));have n4_ := Aside0.mk ((by rw [hg];exact (below_size (by repeat (first | (with_reducible first | exact HB.out | apply below_alloc | apply pw_below_drewN | apply below_drew1 | refine below_set ?_ GE207.out) | exact HB.out))) : w.heap.size ≤ gb208));have n5_ := Aside0.mk ((by rw [hg];exact Nat.ne_of_lt (blk_lt (g := gb207) (o := .cells #[.int .i64 a0_0,.int .i64 a0_1,.string a0_2,.slice A0_3 l0_3.length c0_3,.slice A0_4 l0_4.length c0_4] 37 (0,0)) (by (with_reducible repeat (first | refine blk_drewN ?_ _ | refine blk_drew ?_ | refine blk_alloc ?_ _));exact BK207.out)) : gb207 ≠ gb208));have n6_ := Aside0.mk ((by rw [hg];exact Nat.ne_of_gt (blk_lt (g := gb207) (o := .cells #[.int .i64 a0_0,.int .i64 a0_1,.string a0_2,.slice A0_3 l0_3.length c0_3,.slice A0_4 l0_4.length c0_4] 37 (0,0)) (by (with_reducible repeat (first | refine blk_drewN ?_ _ | refine blk_drew ?_ | refine blk_alloc ?_ _));exact BK207.out)) : gb208 ≠ gb207));clear BK207;clear HB;have BK207 := n0_;have HB := n1_;have BK208 := n2_;have GW208 := n3_;have GE208 := n4_;have NB207_208 := n5_;have NB208_207 := n6_;clear n0_ n1_ n2_ n3_ n4_ n5_ n6_;clear hb hbox hg;have hnb5 := NB207_208.out;have hnc5 := NB208_207.out;have hcz6_0 : w4.cell? ⟨gb207,0,none⟩ = some (.int .i64 a0_0) := (blk_cell BK207.out 0).trans rfl;have hcz6_1 : w4.cell? ⟨gb207,1,none⟩ = some (.int .i64 a0_1) := (blk_cell BK207.out 1).trans rfl;have hcz6_2 : w4.cell? ⟨gb207,2,none⟩ = some (.string a0_2) := (blk_cell BK207.out 2).trans rfl;have hcz6_3 : w4.cell? ⟨gb207,3,none⟩ = some (.slice A0_3 l0_3.length c0_3) := (blk_cell BK207.out 3).trans rfl;have hcz6_4 : w4.cell? ⟨gb207,4,none⟩ = some (.slice A0_4 l0_4.length c0_4) := (blk_cell BK207.out 4).trans rfl;have hfz6_0 := blk_frozen BK207.out 0;have hfz6_1 := blk_frozen BK207.out 1;have hfz6_2 := blk_frozen BK207.out 2;have hfz6_3 := blk_frozen BK207.out 3;have hfz6_4 := blk_frozen BK207.out 4) | ((with_reducible refine gate_callee (f := 20) rfl ?_);refine goesL_ (some 5) rfl rfl Try.func20 (by kernel_rfl) rfl #[.pointer (some ⟨gb208,0,none⟩),.agg #[.int .i64 a0_0,.int .i64 a0_1,.string a0_2,.slice A0_3 l0_3.length c0_3,.slice A0_4 l0_4.length c0_4],.int .i64 1] rfl (by (try simp only [List.map_toArray,List.map_cons,List.map_nil]);first | done | rfl | (simp only [List.length_drop,List.length_take];rfl)) ?_;(with_reducible refine (impl_judge_expr.calls k gb208 0 (fun k_ => some k_ = (.slice none 0 0 : Value).ownBlock) (.slice none 0 0) ([] : List ByteArray) a0_0 a0_1 a0_2 (fun k_ => k_ < w.heap.size) _ _ l0_3 (fun k_ => k_ < w.heap.size) _ _ l0_4 1 t209 t210 t213 w _ ?side1 ?side2 ?side3 ?side4 ?side5 A2.out).mono ?_);(case side1 => exact IsS47.of_blk (by (with_reducible repeat (first | refine blk_drewN ?_ _ | refine blk_drew ?_ | refine blk_alloc ?_ _));exact BK208.out) GE208.out);(case side2 => repeat (first | (with_reducible first | exact HB.out | apply below_alloc | apply pw_below_drewN | apply below_drew1 | refine below_set ?_ GE208.out | refine below_set ?_ GE207.out) | exact HB.out));(case side3 => exact Kd.R_nil _ _ _ _ _);(case side4 => exact Kd.V_mono (Kd.V_mk HC0_3.out (Kd.F_below (Kd.C_F k37_heap HR0_3.out) (by repeat (first | (with_reducible first | exact HB.out | apply below_alloc | apply pw_below_drewN | apply below_drew1 | refine below_set ?_ GE208.out | refine below_set ?_ GE207.out) | exact HB.out)))) (fun k_ hk_ => ⟨hk_,(by simp [Value.ownBlock]),fun e_ => Nat.not_le.2 hk_ (by rw [e_];exact GW208.out)⟩));(case side5 => exact Kd.V_mono (Kd.V_mk HC0_4.out (Kd.F_below (Kd.C_F k59_heap HR0_4.out) (by repeat (first | (with_reducible first | exact HB.out | apply below_alloc | apply pw_below_drewN | apply below_drew1 | refine below_set ?_ GE208.out | refine below_set ?_ GE207.out) | exact HB.out)))) (fun k_ hk_ => ⟨hk_,(by simp [Value.ownBlock]),fun e_ => Nat.not_le.2 hk_ (by rw [e_];exact GW208.out)⟩));rintro e w7 ⟨v211,rfl,ho0,hi,hb,hkp⟩;refine ⟨_,rfl,?_⟩;have n0_ := Aside0.mk (blk_kept (by (with_reducible repeat (first | refine blk_drewN ?_ _ | refine blk_drew ?_ | refine blk_alloc ?_ _));exact BK207.out) hkp (fun hs_ => Or.elim hs_ (fun hs_ => (fun e_ => by simp [Value.ownBlock] at e_) hs_) (fun e_ => NB207_208.out e_)));have n1_ := Aside0.mk (hi);have n2_ := Aside0.mk (Kd.R_mono (ok' := fun k_ => True) ho0 (fun k_ hk_ => trivial));have n3_ := Aside0.mk (hb);clear BK207;clear HB;clear BK208;have BK207 := n0_;have HI208 := n1_;have HO212 := n2_;have HB := n3_;clear n0_ n1_ n2_ n3_;(try clear hb);(try clear hkp);(try clear ho0)))
  go_ret
  exact ⟨by first | rfl | (simp [errW_none,errW_some] <;> rfl) | (simp [*,errW_none,errW_some] <;> rfl) | (rw [isEmpty_ne];first | done | rfl) | (rw [isEmpty_be];first | done | rfl),by repeat (first | (with_reducible first | exact HB.out | apply below_alloc | apply pw_below_drewN | apply below_drew1 | refine below_set ?_ (IsS47.ge HI208.out) | refine below_set ?_ GE207.out) | exact HB.out)⟩

/-! ### laws_FnAtoms: function 3 -/
mutual
def laws_FnAtoms.j0 : Nat → List Int → Option (Bool)
  | 0,_ => none
  | k + 1,x0 => (spec_DrawAtomOk.f k x0).bind fun t215 => ((impl_AtomOk.f k t215).bind fun t216 => (if t215.toList = ([99,97,115,101] : List UInt8) then (laws_FnAtoms.j1 k t215 t216 true) else (if t215.toList = ([111,102] : List UInt8) then (laws_FnAtoms.j1 k t215 t216 true) else (laws_FnAtoms.j1 k t215 t216 (t215.toList == ([101,110,100] : List UInt8))))))
def laws_FnAtoms.j1 : Nat → ByteArray → Bool → Bool → Option (Bool)
  | 0,_,_,_ => none
  | k + 1,x3,x4,x5 => (spec_AtomOk.f k x3).bind fun t217 => (if (x4 == t217) = true then ((impl_TermOk.f k 2 0 x3 ([] : List (S29))).bind fun t218 => (if (t218 == x4) = true then ((impl_TokenOk.f k 2 0 x3).bind fun t219 => (if (t219 == x4) = true then ((impl_ExprOk.f k 2 0 x3 ([] : List (S37)) ([] : List (S59))).bind fun t220 => (if x4 = true then (some (t220 == (!x5))) else (some (t220 == false)))) else (some false))) else (some false))) else (some false))
end
def laws_FnAtoms.f (k : Nat) (l0 : List Int) : Option (Bool) := (laws_big.f l0).bind fun t214 => (if t214 = true then (some true) else (laws_FnAtoms.j0 k l0))
theorem laws_FnAtoms.mono_l : ∀ k,(∀ y0,LeO (laws_FnAtoms.j0 k y0) (laws_FnAtoms.j0 (k + 1) y0)) ∧ (∀ y0 y1 y2,LeO (laws_FnAtoms.j1 k y0 y1 y2) (laws_FnAtoms.j1 (k + 1) y0 y1 y2))
  | 0 => ⟨fun _ r h => by simp [laws_FnAtoms.j0] at h,fun _ _ _ r h => by simp [laws_FnAtoms.j1] at h⟩
  | k + 1 => by
    obtain ⟨ih0,ih1⟩ := laws_FnAtoms.mono_l k
    refine ⟨?_,?_⟩
    · intro y0
      unfold laws_FnAtoms.j0
      repeat' first
      | (with_reducible exact ih0 _)
      | (with_reducible exact ih1 _ _ _)
      | (with_reducible exact impl_AtomOk.mono _ _)
      | (with_reducible exact impl_ExprOk.mono _ _ _ _ _ _)
      | (with_reducible exact impl_TermOk.mono _ _ _ _ _)
      | (with_reducible exact impl_TokenOk.mono _ _ _ _)
      | (with_reducible exact spec_AtomOk.mono _ _)
      | (with_reducible exact spec_DrawAtomOk.mono _ _)
      | (with_reducible exact LeO.refl _)
      | (with_reducible exact LeO.none _)
      | (with_reducible refine LeO.ite ?_ ?_)
      | (with_reducible refine LeO.bind ?_ (fun _ => ?_))
      | exact ih0 _
      | exact ih1 _ _ _
      | exact impl_AtomOk.mono _ _
      | exact impl_ExprOk.mono _ _ _ _ _ _
      | exact impl_TermOk.mono _ _ _ _ _
      | exact impl_TokenOk.mono _ _ _ _
      | exact spec_AtomOk.mono _ _
      | exact spec_DrawAtomOk.mono _ _
      | exact LeO.none _
      | refine LeO.ite ?_ ?_
      | refine LeO.bind ?_ (fun _ => ?_)
    · intro y0 y1 y2
      unfold laws_FnAtoms.j1
      repeat' first
      | (with_reducible exact ih0 _)
      | (with_reducible exact ih1 _ _ _)
      | (with_reducible exact impl_AtomOk.mono _ _)
      | (with_reducible exact impl_ExprOk.mono _ _ _ _ _ _)
      | (with_reducible exact impl_TermOk.mono _ _ _ _ _)
      | (with_reducible exact impl_TokenOk.mono _ _ _ _)
      | (with_reducible exact spec_AtomOk.mono _ _)
      | (with_reducible exact spec_DrawAtomOk.mono _ _)
      | (with_reducible exact LeO.refl _)
      | (with_reducible exact LeO.none _)
      | (with_reducible refine LeO.ite ?_ ?_)
      | (with_reducible refine LeO.bind ?_ (fun _ => ?_))
      | exact ih0 _
      | exact ih1 _ _ _
      | exact impl_AtomOk.mono _ _
      | exact impl_ExprOk.mono _ _ _ _ _ _
      | exact impl_TermOk.mono _ _ _ _ _
      | exact impl_TokenOk.mono _ _ _ _
      | exact spec_AtomOk.mono _ _
      | exact spec_DrawAtomOk.mono _ _
      | exact LeO.none _
      | refine LeO.ite ?_ ?_
      | refine LeO.bind ?_ (fun _ => ?_)
theorem laws_FnAtoms.mono : ∀ a0 k,LeO (laws_FnAtoms.f k a0) (laws_FnAtoms.f (k + 1) a0) := by
  intro a0 k
  obtain ⟨ih0,ih1⟩ := laws_FnAtoms.mono_l k
  unfold laws_FnAtoms.f
  repeat' first
      | (with_reducible exact ih0 _)
      | (with_reducible exact ih1 _ _ _)
      | (with_reducible exact impl_AtomOk.mono _ _)
      | (with_reducible exact impl_ExprOk.mono _ _ _ _ _ _)
      | (with_reducible exact impl_TermOk.mono _ _ _ _ _)
      | (with_reducible exact impl_TokenOk.mono _ _ _ _)
      | (with_reducible exact spec_AtomOk.mono _ _)
      | (with_reducible exact spec_DrawAtomOk.mono _ _)
      | (with_reducible exact LeO.refl _)
      | (with_reducible exact LeO.none _)
      | (with_reducible refine LeO.ite ?_ ?_)
      | (with_reducible refine LeO.bind ?_ (fun _ => ?_))
      | exact ih0 _
      | exact ih1 _ _ _
      | exact impl_AtomOk.mono _ _
      | exact impl_ExprOk.mono _ _ _ _ _ _
      | exact impl_TermOk.mono _ _ _ _ _
      | exact impl_TokenOk.mono _ _ _ _
      | exact spec_AtomOk.mono _ _
      | exact spec_DrawAtomOk.mono _ _
      | exact LeO.none _
      | refine LeO.ite ?_ ?_
      | refine LeO.bind ?_ (fun _ => ?_)
set_option maxHeartbeats 8000000 in
set_option maxRecDepth 100000 in
theorem laws_FnAtoms.calls (k : Nat) (A0 : Option Addr) (c0 : Nat) (l0 : List Int) (r : Bool) (w : World) (hr0 : Kd.C (Kd.int .u8) w A0 l0.length l0) (hc0 : l0.length ≤ c0) (h : laws_FnAtoms.f k l0 = some r) :
    Calls Try.prog 3 #[.slice A0 l0.length c0] w fun e w' => e = .returned (.bool r) ∧ Below w.heap.size w w' := by
  have hu29 := Try.underlying29
  have hu32 := Try.underlying32
  have hu37 := Try.underlying37
  have HR0 := Aside0.mk hr0
  have HC0 := Aside0.mk hc0
  clear hr0 hc0
  have HB := Aside0.mk (Below.refl w.heap.size w)
  have H : ((laws_big.f l0).bind fun t214 => (if t214 = true then (some true) else (laws_FnAtoms.j0 k l0))) = some r := h
  clear h
  replace H := Option.bind_eq_some_iff.mp H
  obtain ⟨t214,A20,H⟩ := H
  replace H : (if t214 = true then (some true) else (laws_FnAtoms.j0 k l0)) = some r := H
  have A2 := Aside0.mk A20
  clear A20
  have HC3 := Aside0.mk H
  clear H
  go_enter Try.func3,Try.ntmps3
  go_upto_if 7 with (first | ((with_reducible refine gate_callee (f := 4) rfl ?_);refine goesL_ (some 7) rfl rfl Try.func4 (by kernel_rfl) rfl #[.slice A0 l0.length c0] rfl (by (try simp only [List.map_toArray,List.map_cons,List.map_nil]);first | done | rfl | (simp only [List.length_drop,List.length_take];rfl)) ?_;(with_reducible refine (laws_big.calls _ _ l0 t214 _ ?side1 ?side2 A2.out).mono ?_);(case side1 => repeat (first | exact HR0.out | (with_reducible refine Kd.C_alloc ?_ _) | (with_reducible refine Kd.C_drewN ?_ _) | (with_reducible refine Kd.C_drew ?_)));(case side2 => exact HC0.out);rintro e w' ⟨rfl,⟨nd,rfl⟩⟩;refine ⟨_,rfl,?_⟩))
  (try simp only [Act.put,List.setIfInBounds_toArray,List.set_cons_zero,List.set_cons_succ])
  go_cut [] (fun wc => ∃ (kq : Nat),Aside0 (laws_FnAtoms.j0 kq l0 = some r) ∧ Aside0 (kq ≤ k) ∧ Aside0 (Below w.heap.size w wc))
  case first =>
    have H := HC3.out
    clear HC3
    by_cases c4 : t214 = true
    · subst c4
      have H1 : (some true) = some r := by rw [if_pos rfl] at H;exact H
      clear H
      have H := H1
      clear H1
      obtain rfl := Option.some.inj H
      go_wp2
      go_ret
      exact ⟨by first | rfl | (simp [errW_none,errW_some] <;> rfl) | (simp [*,errW_none,errW_some] <;> rfl) | (rw [isEmpty_ne];first | done | rfl) | (rw [isEmpty_be];first | done | rfl),by repeat (first | (with_reducible first | exact HB.out | apply below_alloc | apply pw_below_drewN | apply below_drew1) | exact HB.out)⟩
    · replace c4 := Bool.eq_false_iff.mpr c4
      subst c4
      have H1 : (laws_FnAtoms.j0 k l0) = some r := by rw [if_neg (show ¬ (false = true) by decide)] at H;exact H
      clear H
      have H := H1
      clear H1
      have H' := Aside0.mk H
      clear H
      go_wp2
      go_meet
      case rel => exact ⟨_,H',⟨by first | omega | exact Nat.le_refl _⟩,⟨by repeat (first | (with_reducible first | exact HB.out | apply below_alloc | apply pw_below_drewN | apply below_drew1) | exact HB.out)⟩⟩
  case rest =>
    clear HC3
    try clear p2
    try clear c3
    try clear c4
    try clear HB
    obtain ⟨kq,HA,HJ2,HB⟩ := hcut
    cases kq with
    | zero => exact absurd HA.out (by simp [laws_FnAtoms.j0])
    | succ kj2 =>
      have H := HA.out
      clear HA
      simp only [laws_FnAtoms.j0] at H
      replace H := Option.bind_eq_some_iff.mp H
      obtain ⟨t215,A50,H⟩ := H
      replace H : ((impl_AtomOk.f kj2 t215).bind fun t216 => (if t215.toList = ([99,97,115,101] : List UInt8) then (laws_FnAtoms.j1 kj2 t215 t216 true) else (if t215.toList = ([111,102] : List UInt8) then (laws_FnAtoms.j1 kj2 t215 t216 true) else (laws_FnAtoms.j1 kj2 t215 t216 (t215.toList == ([101,110,100] : List UInt8)))))) = some r := H
      have A5 := Aside0.mk A50
      clear A50
      replace H := Option.bind_eq_some_iff.mp H
      obtain ⟨t216,A60,H⟩ := H
      replace H : (if t215.toList = ([99,97,115,101] : List UInt8) then (laws_FnAtoms.j1 kj2 t215 t216 true) else (if t215.toList = ([111,102] : List UInt8) then (laws_FnAtoms.j1 kj2 t215 t216 true) else (laws_FnAtoms.j1 kj2 t215 t216 (t215.toList == ([101,110,100] : List UInt8))))) = some r := H
      have A6 := Aside0.mk A60
      clear A60
      have HC7 := Aside0.mk H
      clear H
      go_upto_region 5 with (first | ((with_reducible refine gate_callee (f := 5) rfl ?_);refine goesL_ (some 9) rfl rfl Try.func5 (by kernel_rfl) rfl #[.slice A0 l0.length c0] rfl (by (try simp only [List.map_toArray,List.map_cons,List.map_nil]);first | done | rfl | (simp only [List.length_drop,List.length_take];rfl)) ?_;(with_reducible refine (spec_DrawAtomOk.calls kj2 _ _ l0 t215 _ ?side1 ?side2 A5.out).mono ?_);(case side1 => repeat (first | exact (Kd.C_below HR0.out HB.out) | (with_reducible refine Kd.C_alloc ?_ _) | (with_reducible refine Kd.C_drewN ?_ _) | (with_reducible refine Kd.C_drew ?_)));(case side2 => exact HC0.out);rintro e w8 ⟨rfl,hb⟩;refine ⟨_,rfl,?_⟩;have n0_ := Aside0.mk (below_step (by repeat (first | (with_reducible first | exact HB.out | apply below_alloc | apply pw_below_drewN | apply below_drew1) | exact HB.out)) hb);clear HB;have HB := n0_;clear n0_;(try clear hb);(try clear hb2);(try clear hk);(try clear hi)) | ((with_reducible refine gate_callee (f := 6) rfl ?_);refine goesL_ (some 11) rfl rfl Try.func6 (by kernel_rfl) rfl #[.string t215] rfl (by (try simp only [List.map_toArray,List.map_cons,List.map_nil]);first | done | rfl | (simp only [List.length_drop,List.length_take];rfl)) ?_;(with_reducible refine (impl_AtomOk.calls kj2 t215 t216 _ A6.out).mono ?_);rintro e w' ⟨rfl,⟨nd,rfl⟩⟩;refine ⟨_,rfl,?_⟩))
      (try simp only [Act.put,List.setIfInBounds_toArray,List.set_cons_zero,List.set_cons_succ])
      go_cut [5] (fun v5 wc => ∃ (kq : Nat) (x5_6 : Bool),v5 = .bool x5_6 ∧ Aside0 (laws_FnAtoms.j1 kq t215 t216 x5_6 = some r) ∧ Aside0 (kq ≤ kj2) ∧ Aside0 (Below w.heap.size w wc))
      case first =>
        have H := HC7.out
        clear HC7
        by_cases c9 : t215.toList = ([99,97,115,101] : List UInt8)
        · rw [if_pos c9] at H
          have c9b0 : (t215.toList == ([99,97,115,101] : List UInt8)) = true := beq_iff_eq.mpr c9
          have c9b1 : (t215.toList != ([99,97,115,101] : List UInt8)) = false := bne_eq_false_iff_eq.mpr c9
          clear c9
          (first | rw [c9b0] | (simp only [i64_w,i32_w];rw [c9b0]) | (simp only [c9b2,Bool.not_true,Bool.not_false]) | skip)
          have H' := Aside0.mk H
          clear H
          go_wp2
          go_meet
          case rel => exact ⟨_,(true),(by first | rfl | (simp;done) | (simp [*];done)),H',⟨by have := HJ2.out;first | omega | exact Nat.le_refl _⟩,⟨by repeat (first | (with_reducible first | exact HB.out | apply below_alloc | apply pw_below_drewN | apply below_drew1) | exact HB.out)⟩⟩
        · rw [if_neg c9] at H
          have c9b0 : (t215.toList == ([99,97,115,101] : List UInt8)) = false := beq_eq_false_iff_ne.mpr c9
          have c9b1 : (t215.toList != ([99,97,115,101] : List UInt8)) = true := bne_iff_ne.mpr c9
          (first | rw [c9b0] | (simp only [i64_w,i32_w];rw [c9b0]) | (simp only [c9b2,Bool.not_true,Bool.not_false]) | skip)
          by_cases c10 : t215.toList = ([111,102] : List UInt8)
          · rw [if_pos c10] at H
            have c10b0 : (t215.toList == ([111,102] : List UInt8)) = true := beq_iff_eq.mpr c10
            have c10b1 : (t215.toList != ([111,102] : List UInt8)) = false := bne_eq_false_iff_eq.mpr c10
            clear c10
            have H' := Aside0.mk H
            clear H
            go_wp2
            go_meet
            case rel => exact ⟨_,(true),(by first | rfl | (simp;done) | (simp [*];done)),H',⟨by have := HJ2.out;first | omega | exact Nat.le_refl _⟩,⟨by repeat (first | (with_reducible first | exact HB.out | apply below_alloc | apply pw_below_drewN | apply below_drew1) | exact HB.out)⟩⟩
          · rw [if_neg c10] at H
            have c10b0 : (t215.toList == ([111,102] : List UInt8)) = false := beq_eq_false_iff_ne.mpr c10
            have c10b1 : (t215.toList != ([111,102] : List UInt8)) = true := bne_iff_ne.mpr c10
            have H' := Aside0.mk H
            clear H
            go_wp2
            go_meet
            case rel => exact ⟨_,((t215.toList == ([101,110,100] : List UInt8))),(by first | rfl | (simp;done) | (simp [*];done)),H',⟨by have := HJ2.out;first | omega | exact Nat.le_refl _⟩,⟨by repeat (first | (with_reducible first | exact HB.out | apply below_alloc | apply pw_below_drewN | apply below_drew1) | exact HB.out)⟩⟩
      case rest =>
        clear HC7
        try clear c1
        try clear p2
        try clear c3
        try clear c4
        try clear c5
        try clear c6
        try clear c9
        try clear c9b0
        try clear c9b1
        try clear c9b2
        try clear c10
        try clear c10b0
        try clear c10b1
        try clear p2
        try clear HB
        obtain ⟨kq,x5_6,rfl,HA,HJ6,HB⟩ := hcut
        cases kq with
        | zero => exact absurd HA.out (by simp [laws_FnAtoms.j1])
        | succ kj6 =>
          have H := HA.out
          clear HA
          simp only [laws_FnAtoms.j1] at H
          replace H := Option.bind_eq_some_iff.mp H
          obtain ⟨t217,A110,H⟩ := H
          replace H : (if (t216 == t217) = true then ((impl_TermOk.f kj6 2 0 t215 ([] : List (S29))).bind fun t218 => (if (t218 == t216) = true then ((impl_TokenOk.f kj6 2 0 t215).bind fun t219 => (if (t219 == t216) = true then ((impl_ExprOk.f kj6 2 0 t215 ([] : List (S37)) ([] : List (S59))).bind fun t220 => (if t216 = true then (some (t220 == (!x5_6))) else (some (t220 == false)))) else (some false))) else (some false))) else (some false)) = some r := H
          have A11 := Aside0.mk A110
          clear A110
          by_cases c12 : (t216 == t217) = true
          · rw [if_pos c12] at H
            have c12b0 : (t216 == t217) = true := c12
            (try (have c12b1 : decide (t216 = t217) = true := by simpa using c12))
            (try (have c12b2 : (t216 == t217) = true := by simpa using c12))
            clear c12
            replace H := Option.bind_eq_some_iff.mp H
            obtain ⟨t218,A130,H⟩ := H
            replace H : (if (t218 == t216) = true then ((impl_TokenOk.f kj6 2 0 t215).bind fun t219 => (if (t219 == t216) = true then ((impl_ExprOk.f kj6 2 0 t215 ([] : List (S37)) ([] : List (S59))).bind fun t220 => (if t216 = true then (some (t220 == (!x5_6))) else (some (t220 == false)))) else (some false))) else (some false)) = some r := H
            have A13 := Aside0.mk A130
            clear A130
            by_cases c14 : (t218 == t216) = true
            · rw [if_pos c14] at H
              have c14b0 : (t218 == t216) = true := c14
              (try (have c14b1 : decide (t218 = t216) = true := by simpa using c14))
              (try (have c14b2 : (t218 == t216) = true := by simpa using c14))
              clear c14
              replace H := Option.bind_eq_some_iff.mp H
              obtain ⟨t219,A150,H⟩ := H
              replace H : (if (t219 == t216) = true then ((impl_ExprOk.f kj6 2 0 t215 ([] : List (S37)) ([] : List (S59))).bind fun t220 => (if t216 = true then (some (t220 == (!x5_6))) else (some (t220 == false)))) else (some false)) = some r := H
              have A15 := Aside0.mk A150
              clear A150
              by_cases c16 : (t219 == t216) = true
              · rw [if_pos c16] at H
                have c16b0 : (t219 == t216) = true := c16
                (try (have c16b1 : decide (t219 = t216) = true := by simpa using c16))
                (try (have c16b2 : (t219 == t216) = true := by simpa using c16))
                clear c16
                replace H := Option.bind_eq_some_iff.mp H
                obtain ⟨t220,A170,H⟩ := H
                replace H : (if t216 = true then (some (t220 == (!x5_6))) else (some (t220 == false))) = some r := H
                have A17 := Aside0.mk A170
                clear A170
                by_cases c18 : t216 = true
                · subst c18
                  have H1 : (some (t220 == (!x5_6))) = some r := by rw [if_pos rfl] at H;exact H
                  clear H
                  have H := H1
                  clear H1
                  obtain rfl := Option.some.inj H
                  go_wp2_with (first | ((with_reducible refine gate_callee (f := 7) rfl ?_);refine goesL_ (some 24) rfl rfl Try.func7 (by kernel_rfl) rfl #[.string t215] rfl (by (try simp only [List.map_toArray,List.map_cons,List.map_nil]);first | done | rfl | (simp only [List.length_drop,List.length_take];rfl)) ?_;(with_reducible refine (spec_AtomOk.calls kj6 t215 t217 _ A11.out).mono ?_);rintro e w' ⟨rfl,⟨nd,rfl⟩⟩;refine ⟨_,rfl,?_⟩) | (go_at_call 8;(refine (impl_TermOk.calls kj6 2 0 t215 _ _ ([] : List (S29)) t218 _ ?side1 ?side2 A13.out).mono ?_);(case side1 => exact Kd.C_nil _ _);(case side2 => exact Nat.le_refl _);rintro e w19 ⟨rfl,hb⟩;have n0_ := Aside0.mk (below_step (by repeat (first | (with_reducible first | exact HB.out | apply below_alloc | apply pw_below_drewN | apply below_drew1) | exact HB.out)) hb);clear HB;have HB := n0_;clear n0_;(try clear hb);(try clear hb2);(try clear hk);(try clear hi)) | (go_at_call 9;(with_reducible refine (impl_TokenOk.calls kj6 2 0 t215 t219 _ A15.out).mono ?_);rintro e w20 ⟨rfl,hb⟩;have n0_ := Aside0.mk (below_step (by repeat (first | (with_reducible first | exact HB.out | apply below_alloc | apply pw_below_drewN | apply below_drew1) | exact HB.out)) hb);clear HB;have HB := n0_;clear n0_;(try clear hb);(try clear hb2);(try clear hk);(try clear hi)) | (go_at_call 10;(refine (impl_ExprOk.calls kj6 2 0 t215 _ _ ([] : List (S37)) _ _ ([] : List (S59)) t220 _ ?side1 ?side2 ?side3 ?side4 A17.out).mono ?_);(case side1 => exact Kd.C_nil _ _);(case side2 => exact Nat.le_refl _);(case side3 => exact Kd.C_nil _ _);(case side4 => exact Nat.le_refl _);rintro e w21 ⟨rfl,hb⟩;have n0_ := Aside0.mk (below_step (by repeat (first | (with_reducible first | exact HB.out | apply below_alloc | apply pw_below_drewN | apply below_drew1) | exact HB.out)) hb);clear HB;have HB := n0_;clear n0_;(try clear hb);(try clear hb2);(try clear hk);(try clear hi)))
                  go_ret
                  exact ⟨by first | rfl | (simp [errW_none,errW_some] <;> rfl) | (simp [*,errW_none,errW_some] <;> rfl) | (rw [isEmpty_ne];first | done | rfl) | (rw [isEmpty_be];first | done | rfl),by repeat (first | (with_reducible first | exact HB.out | apply below_alloc | apply pw_below_drewN | apply below_drew1) | exact HB.out)⟩
                · replace c18 := Bool.eq_false_iff.mpr c18
                  subst c18
                  have H1 : (some (t220 == false)) = some r := by rw [if_neg (show ¬ (false = true) by decide)] at H;exact H
                  clear H
                  have H := H1
                  clear H1
                  obtain rfl := Option.some.inj H
                  go_wp2_with (first | ((with_reducible refine gate_callee (f := 7) rfl ?_);refine goesL_ (some 24) rfl rfl Try.func7 (by kernel_rfl) rfl #[.string t215] rfl (by (try simp only [List.map_toArray,List.map_cons,List.map_nil]);first | done | rfl | (simp only [List.length_drop,List.length_take];rfl)) ?_;(with_reducible refine (spec_AtomOk.calls kj6 t215 t217 _ A11.out).mono ?_);rintro e w' ⟨rfl,⟨nd,rfl⟩⟩;refine ⟨_,rfl,?_⟩) | (go_at_call 8;(refine (impl_TermOk.calls kj6 2 0 t215 _ _ ([] : List (S29)) t218 _ ?side1 ?side2 A13.out).mono ?_);(case side1 => exact Kd.C_nil _ _);(case side2 => exact Nat.le_refl _);rintro e w22 ⟨rfl,hb⟩;have n0_ := Aside0.mk (below_step (by repeat (first | (with_reducible first | exact HB.out | apply below_alloc | apply pw_below_drewN | apply below_drew1) | exact HB.out)) hb);clear HB;have HB := n0_;clear n0_;(try clear hb);(try clear hb2);(try clear hk);(try clear hi)) | (go_at_call 9;(with_reducible refine (impl_TokenOk.calls kj6 2 0 t215 t219 _ A15.out).mono ?_);rintro e w23 ⟨rfl,hb⟩;have n0_ := Aside0.mk (below_step (by repeat (first | (with_reducible first | exact HB.out | apply below_alloc | apply pw_below_drewN | apply below_drew1) | exact HB.out)) hb);clear HB;have HB := n0_;clear n0_;(try clear hb);(try clear hb2);(try clear hk);(try clear hi)) | (go_at_call 10;(refine (impl_ExprOk.calls kj6 2 0 t215 _ _ ([] : List (S37)) _ _ ([] : List (S59)) t220 _ ?side1 ?side2 ?side3 ?side4 A17.out).mono ?_);(case side1 => exact Kd.C_nil _ _);(case side2 => exact Nat.le_refl _);(case side3 => exact Kd.C_nil _ _);(case side4 => exact Nat.le_refl _);rintro e w24 ⟨rfl,hb⟩;have n0_ := Aside0.mk (below_step (by repeat (first | (with_reducible first | exact HB.out | apply below_alloc | apply pw_below_drewN | apply below_drew1) | exact HB.out)) hb);clear HB;have HB := n0_;clear n0_;(try clear hb);(try clear hb2);(try clear hk);(try clear hi)))
                  go_ret
                  exact ⟨by first | rfl | (simp [errW_none,errW_some] <;> rfl) | (simp [*,errW_none,errW_some] <;> rfl) | (rw [isEmpty_ne];first | done | rfl) | (rw [isEmpty_be];first | done | rfl),by repeat (first | (with_reducible first | exact HB.out | apply below_alloc | apply pw_below_drewN | apply below_drew1) | exact HB.out)⟩
              · rw [if_neg c16] at H
                have c16b0 : (t219 == t216) = false := by simpa using c16
                (try (have c16b1 : decide (t219 = t216) = false := by simpa using c16))
                (try (have c16b2 : (t219 == t216) = false := by simpa using c16))
                (try (have c16b3 : ¬ (t219 = t216) := by simpa using c16))
                clear c16
                obtain rfl := Option.some.inj H
                go_wp2_with (first | ((with_reducible refine gate_callee (f := 7) rfl ?_);refine goesL_ (some 24) rfl rfl Try.func7 (by kernel_rfl) rfl #[.string t215] rfl (by (try simp only [List.map_toArray,List.map_cons,List.map_nil]);first | done | rfl | (simp only [List.length_drop,List.length_take];rfl)) ?_;(with_reducible refine (spec_AtomOk.calls kj6 t215 t217 _ A11.out).mono ?_);rintro e w' ⟨rfl,⟨nd,rfl⟩⟩;refine ⟨_,rfl,?_⟩) | (go_at_call 8;(refine (impl_TermOk.calls kj6 2 0 t215 _ _ ([] : List (S29)) t218 _ ?side1 ?side2 A13.out).mono ?_);(case side1 => exact Kd.C_nil _ _);(case side2 => exact Nat.le_refl _);rintro e w25 ⟨rfl,hb⟩;have n0_ := Aside0.mk (below_step (by repeat (first | (with_reducible first | exact HB.out | apply below_alloc | apply pw_below_drewN | apply below_drew1) | exact HB.out)) hb);clear HB;have HB := n0_;clear n0_;(try clear hb);(try clear hb2);(try clear hk);(try clear hi)) | (go_at_call 9;(with_reducible refine (impl_TokenOk.calls kj6 2 0 t215 t219 _ A15.out).mono ?_);rintro e w26 ⟨rfl,hb⟩;have n0_ := Aside0.mk (below_step (by repeat (first | (with_reducible first | exact HB.out | apply below_alloc | apply pw_below_drewN | apply below_drew1) | exact HB.out)) hb);clear HB;have HB := n0_;clear n0_;(try clear hb);(try clear hb2);(try clear hk);(try clear hi)))
                go_ret
                exact ⟨by first | rfl | (simp [errW_none,errW_some] <;> rfl) | (simp [*,errW_none,errW_some] <;> rfl) | (rw [isEmpty_ne];first | done | rfl) | (rw [isEmpty_be];first | done | rfl),by repeat (first | (with_reducible first | exact HB.out | apply below_alloc | apply pw_below_drewN | apply below_drew1) | exact HB.out)⟩
            · rw [if_neg c14] at H
              have c14b0 : (t218 == t216) = false := by simpa using c14
              (try (have c14b1 : decide (t218 = t216) = false := by simpa using c14))
              (try (have c14b2 : (t218 == t216) = false := by simpa using c14))
              (try (have c14b3 : ¬ (t218 = t216) := by simpa using c14))
              clear c14
              obtain rfl := Option.some.inj H
              go_wp2_with (first | ((with_reducible refine gate_callee (f := 7) rfl ?_);refine goesL_ (some 24) rfl rfl Try.func7 (by kernel_rfl) rfl #[.string t215] rfl (by (try simp only [List.map_toArray,List.map_cons,List.map_nil]);first | done | rfl | (simp only [List.length_drop,List.length_take];rfl)) ?_;(with_reducible refine (spec_AtomOk.calls kj6 t215 t217 _ A11.out).mono ?_);rintro e w' ⟨rfl,⟨nd,rfl⟩⟩;refine ⟨_,rfl,?_⟩) | (go_at_call 8;(refine (impl_TermOk.calls kj6 2 0 t215 _ _ ([] : List (S29)) t218 _ ?side1 ?side2 A13.out).mono ?_);(case side1 => exact Kd.C_nil _ _);(case side2 => exact Nat.le_refl _);rintro e w27 ⟨rfl,hb⟩;have n0_ := Aside0.mk (below_step (by repeat (first | (with_reducible first | exact HB.out | apply below_alloc | apply pw_below_drewN | apply below_drew1) | exact HB.out)) hb);clear HB;have HB := n0_;clear n0_;(try clear hb);(try clear hb2);(try clear hk);(try clear hi)))
              go_ret
              exact ⟨by first | rfl | (simp [errW_none,errW_some] <;> rfl) | (simp [*,errW_none,errW_some] <;> rfl) | (rw [isEmpty_ne];first | done | rfl) | (rw [isEmpty_be];first | done | rfl),by repeat (first | (with_reducible first | exact HB.out | apply below_alloc | apply pw_below_drewN | apply below_drew1) | exact HB.out)⟩
          · rw [if_neg c12] at H
            have c12b0 : (t216 == t217) = false := by simpa using c12
            (try (have c12b1 : decide (t216 = t217) = false := by simpa using c12))
            (try (have c12b2 : (t216 == t217) = false := by simpa using c12))
            (try (have c12b3 : ¬ (t216 = t217) := by simpa using c12))
            clear c12
            obtain rfl := Option.some.inj H
            go_wp2_with (first | ((with_reducible refine gate_callee (f := 7) rfl ?_);refine goesL_ (some 24) rfl rfl Try.func7 (by kernel_rfl) rfl #[.string t215] rfl (by (try simp only [List.map_toArray,List.map_cons,List.map_nil]);first | done | rfl | (simp only [List.length_drop,List.length_take];rfl)) ?_;(with_reducible refine (spec_AtomOk.calls kj6 t215 t217 _ A11.out).mono ?_);rintro e w' ⟨rfl,⟨nd,rfl⟩⟩;refine ⟨_,rfl,?_⟩))
            go_ret
            exact ⟨by first | rfl | (simp [errW_none,errW_some] <;> rfl) | (simp [*,errW_none,errW_some] <;> rfl) | (rw [isEmpty_ne];first | done | rfl) | (rw [isEmpty_be];first | done | rfl),by repeat (first | (with_reducible first | exact HB.out | apply below_alloc | apply pw_below_drewN | apply below_drew1) | exact HB.out)⟩

/-- THE ONE PURE STATEMENT of laws_FnAtoms: yours. -/
def laws_FnAtoms.Pure : Prop := ∀ (l0 : List Int),l0.length ≤ maxLen → l0.length * 1 ≤ 140737488351232 → (∀ x ∈ l0,(Lit.int .u8 x).wf = true) → ∃ k,laws_FnAtoms.f k l0 = some true
theorem laws_FnAtoms.walk (P : laws_FnAtoms.Pure) (a0 : Option Addr) (len0 cap0 : Nat) (z0 : List Int) (w : World) (w0 : (a0 = none ∧ len0 = 0 ∧ cap0 = 0 ∧ z0 = []) ∨ ∃ x,a0 = some x ∧ len0 ≤ cap0 ∧ cap0 ≤ maxLen ∧ z0.length = cap0 ∧ (∀ i,i < z0.length → w.cell? (x.add i) = some (.int .u8 (z0.getD i 0))) ∧ ∀ n ∈ z0,(Lit.int .u8 n).wf = true) (y0 : len0 * 1 ≤ 140737488351232) :
    Calls Try.prog 3 #[.slice a0 len0 cap0] w fun e w' => e = .returned (.bool true) ∧ Below w.heap.size w w' := by
  obtain ⟨l0,rfl,hr0,hm0,hw0,hc0⟩ := ReadsInt.ofRowC w0
  obtain ⟨k,h⟩ := P l0 hm0 y0 hw0
  refine (laws_FnAtoms.calls k _ _ l0 true w (Kd.C_of_reads (d := (0 : Int)) (h1 := fun _ => rfl) hr0) hc0 h).mono ?_
  rintro e w' ⟨rfl,hd⟩
  exact ⟨rfl,hd⟩

end Go.Proofs.Ytboiagjicjgceaa.QFnAtoms
