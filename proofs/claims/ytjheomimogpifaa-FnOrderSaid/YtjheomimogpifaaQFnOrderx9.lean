-- Written by a program of this workplace (print2.py) for this claim, over the print's words.
import Derived.Test.YtjheomimogpifaaQFnOrderx0
import Derived.Test.YtjheomimogpifaaQFnOrderx1
import Derived.Test.YtjheomimogpifaaQFnOrderx5
import Derived.Test.YtjheomimogpifaaQFnOrderx6
import Derived.Test.YtjheomimogpifaaQFnOrderx8
namespace Go.Proofs.Ytjheomimogpifaa.QFnOrder
open Go.RowKit Go.Proofs.YtjheomimogpifaaW.PrintWords Go.Proofs.YtjheomimogpifaaW.PrintLast Go.Proofs.YtjheomimogpifaaW.PrintMore
attribute [local go_sem] binOp_string_gtr max2_int min2_int max_two min_two max_three min_three max_four min_four   -- for this text's walks alone
set_option linter.unusedVariables false
set_option linter.unusedSimpArgs false

/-! ### laws_FnOrder: function 3 -/
def laws_FnOrder.j0 : Nat → Bool → Bool → Int → Int → ByteArray → List (S26) → Int → Int → ByteArray → List (S26) → Int → Int → ByteArray → List (S26) → Option (Bool)
  | 0, _, _, _, _, _, _, _, _, _, _, _, _, _, _ => none
  | k + 1, x6, x42, x322000, x322001, x322002, x322003, x323000, x323001, x323002, x323003, x324000, x324001, x324002, x324003 => if x42 = true then (some false) else (if x6 = true then ((impl_LessTerm.f k x323000 x323001 x323002 x323003 x324000 x324001 x324002 x324003).bind fun t330 => (if t330 = true then ((impl_LessTerm.f k x322000 x322001 x322002 x322003 x324000 x324001 x324002 x324003).bind fun t331 => (some t331)) else (some true))) else (some true))
def laws_FnOrder.f (k : Nat) (l0 : List Int) : Option (Bool) := (laws_big.f l0).bind fun t302 => (if t302 = true then (some true) else ((spec_DrawTerms.f k l0).bind fun bt303 => ((impl_LessTerm.f k bt303.1 bt303.2.1 bt303.2.2.1 bt303.2.2.2.1 bt303.2.2.2.2.1 bt303.2.2.2.2.2.1 bt303.2.2.2.2.2.2.1 bt303.2.2.2.2.2.2.2.1).bind fun t324 => ((impl_LessTerm.f k bt303.2.2.2.2.1 bt303.2.2.2.2.2.1 bt303.2.2.2.2.2.2.1 bt303.2.2.2.2.2.2.2.1 bt303.1 bt303.2.1 bt303.2.2.1 bt303.2.2.2.1).bind fun t325 => (if t324 = true then (if t325 = true then (laws_FnOrder.j0 k t324 true bt303.1 bt303.2.1 bt303.2.2.1 bt303.2.2.2.1 bt303.2.2.2.2.1 bt303.2.2.2.2.2.1 bt303.2.2.2.2.2.2.1 bt303.2.2.2.2.2.2.2.1 bt303.2.2.2.2.2.2.2.2.1 bt303.2.2.2.2.2.2.2.2.2.1 bt303.2.2.2.2.2.2.2.2.2.2.1 bt303.2.2.2.2.2.2.2.2.2.2.2) else ((impl_SameTerm.f k bt303.1 bt303.2.1 bt303.2.2.1 bt303.2.2.2.1 bt303.2.2.2.2.1 bt303.2.2.2.2.2.1 bt303.2.2.2.2.2.2.1 bt303.2.2.2.2.2.2.2.1).bind fun t326 => (if (true == t326) = true then (laws_FnOrder.j0 k t324 true bt303.1 bt303.2.1 bt303.2.2.1 bt303.2.2.2.1 bt303.2.2.2.2.1 bt303.2.2.2.2.2.1 bt303.2.2.2.2.2.2.1 bt303.2.2.2.2.2.2.2.1 bt303.2.2.2.2.2.2.2.2.1 bt303.2.2.2.2.2.2.2.2.2.1 bt303.2.2.2.2.2.2.2.2.2.2.1 bt303.2.2.2.2.2.2.2.2.2.2.2) else ((spec_LessTerm.f k bt303.1 bt303.2.1 bt303.2.2.1 bt303.2.2.2.1 bt303.2.2.2.2.1 bt303.2.2.2.2.2.1 bt303.2.2.2.2.2.2.1 bt303.2.2.2.2.2.2.2.1).bind fun t327 => (laws_FnOrder.j0 k t324 (t324 != t327) bt303.1 bt303.2.1 bt303.2.2.1 bt303.2.2.2.1 bt303.2.2.2.2.1 bt303.2.2.2.2.2.1 bt303.2.2.2.2.2.2.1 bt303.2.2.2.2.2.2.2.1 bt303.2.2.2.2.2.2.2.2.1 bt303.2.2.2.2.2.2.2.2.2.1 bt303.2.2.2.2.2.2.2.2.2.2.1 bt303.2.2.2.2.2.2.2.2.2.2.2))))) else ((impl_SameTerm.f k bt303.1 bt303.2.1 bt303.2.2.1 bt303.2.2.2.1 bt303.2.2.2.2.1 bt303.2.2.2.2.2.1 bt303.2.2.2.2.2.2.1 bt303.2.2.2.2.2.2.2.1).bind fun t328 => (if (t325 == t328) = true then (laws_FnOrder.j0 k t324 true bt303.1 bt303.2.1 bt303.2.2.1 bt303.2.2.2.1 bt303.2.2.2.2.1 bt303.2.2.2.2.2.1 bt303.2.2.2.2.2.2.1 bt303.2.2.2.2.2.2.2.1 bt303.2.2.2.2.2.2.2.2.1 bt303.2.2.2.2.2.2.2.2.2.1 bt303.2.2.2.2.2.2.2.2.2.2.1 bt303.2.2.2.2.2.2.2.2.2.2.2) else ((spec_LessTerm.f k bt303.1 bt303.2.1 bt303.2.2.1 bt303.2.2.2.1 bt303.2.2.2.2.1 bt303.2.2.2.2.2.1 bt303.2.2.2.2.2.2.1 bt303.2.2.2.2.2.2.2.1).bind fun t329 => (laws_FnOrder.j0 k t324 (t324 != t329) bt303.1 bt303.2.1 bt303.2.2.1 bt303.2.2.2.1 bt303.2.2.2.2.1 bt303.2.2.2.2.2.1 bt303.2.2.2.2.2.2.1 bt303.2.2.2.2.2.2.2.1 bt303.2.2.2.2.2.2.2.2.1 bt303.2.2.2.2.2.2.2.2.2.1 bt303.2.2.2.2.2.2.2.2.2.2.1 bt303.2.2.2.2.2.2.2.2.2.2.2)))))))))
theorem laws_FnOrder.mono_l : ∀ k, (∀ y0 y1 y2 y3 y4 y5 y6 y7 y8 y9 y10 y11 y12 y13, LeO (laws_FnOrder.j0 k y0 y1 y2 y3 y4 y5 y6 y7 y8 y9 y10 y11 y12 y13) (laws_FnOrder.j0 (k + 1) y0 y1 y2 y3 y4 y5 y6 y7 y8 y9 y10 y11 y12 y13))
  | 0 => fun _ _ _ _ _ _ _ _ _ _ _ _ _ _ r h => by simp [laws_FnOrder.j0] at h
  | k + 1 => by
    have ih0 := laws_FnOrder.mono_l k
    · intro y0 y1 y2 y3 y4 y5 y6 y7 y8 y9 y10 y11 y12 y13
      unfold laws_FnOrder.j0
      repeat' first
      | (with_reducible exact ih0 _ _ _ _ _ _ _ _ _ _ _ _ _ _)
      | (with_reducible exact impl_LessTerm.mono _ _ _ _ _ _ _ _ _)
      | (with_reducible exact impl_SameTerm.mono _ _ _ _ _ _ _ _ _)
      | (with_reducible exact spec_DrawTerms.mono _ _)
      | (with_reducible exact spec_LessTerm.mono _ _ _ _ _ _ _ _ _)
      | (with_reducible exact LeO.refl _)
      | (with_reducible exact LeO.none _)
      | (with_reducible refine LeO.ite ?_ ?_)
      | (with_reducible refine LeO.bind ?_ (fun _ => ?_))
      | exact ih0 _ _ _ _ _ _ _ _ _ _ _ _ _ _
      | exact impl_LessTerm.mono _ _ _ _ _ _ _ _ _
      | exact impl_SameTerm.mono _ _ _ _ _ _ _ _ _
      | exact spec_DrawTerms.mono _ _
      | exact spec_LessTerm.mono _ _ _ _ _ _ _ _ _
      | exact LeO.none _
      | refine LeO.ite ?_ ?_
      | refine LeO.bind ?_ (fun _ => ?_)
theorem laws_FnOrder.mono : ∀ a0 k, LeO (laws_FnOrder.f k a0) (laws_FnOrder.f (k + 1) a0) := by
  intro a0 k
  have ih0 := laws_FnOrder.mono_l k
  unfold laws_FnOrder.f
  repeat' first
      | (with_reducible exact ih0 _ _ _ _ _ _ _ _ _ _ _ _ _ _)
      | (with_reducible exact impl_LessTerm.mono _ _ _ _ _ _ _ _ _)
      | (with_reducible exact impl_SameTerm.mono _ _ _ _ _ _ _ _ _)
      | (with_reducible exact spec_DrawTerms.mono _ _)
      | (with_reducible exact spec_LessTerm.mono _ _ _ _ _ _ _ _ _)
      | (with_reducible exact LeO.refl _)
      | (with_reducible exact LeO.none _)
      | (with_reducible refine LeO.ite ?_ ?_)
      | (with_reducible refine LeO.bind ?_ (fun _ => ?_))
      | exact ih0 _ _ _ _ _ _ _ _ _ _ _ _ _ _
      | exact impl_LessTerm.mono _ _ _ _ _ _ _ _ _
      | exact impl_SameTerm.mono _ _ _ _ _ _ _ _ _
      | exact spec_DrawTerms.mono _ _
      | exact spec_LessTerm.mono _ _ _ _ _ _ _ _ _
      | exact LeO.none _
      | refine LeO.ite ?_ ?_
      | refine LeO.bind ?_ (fun _ => ?_)
set_option maxHeartbeats 8000000 in
set_option maxRecDepth 100000 in
theorem laws_FnOrder.calls (k : Nat) (A0 : Option Addr) (c0 : Nat) (l0 : List Int) (r : Bool) (w : World) (hr0 : Kd.C (Kd.int .u8) w A0 l0.length l0) (hc0 : l0.length ≤ c0) (h : laws_FnOrder.f k l0 = some r) :
    Calls Try.prog 3 #[.slice A0 l0.length c0] w fun e w' => e = .returned (.bool r) ∧ Below w.heap.size w w' := by
  have hu26 := Try.underlying26
  have HR0 := Aside0.mk hr0
  have HC0 := Aside0.mk hc0
  clear hr0 hc0
  have HB := Aside0.mk (Below.refl w.heap.size w)
  have H : ((laws_big.f l0).bind fun t302 => (if t302 = true then (some true) else ((spec_DrawTerms.f k l0).bind fun bt303 => ((impl_LessTerm.f k bt303.1 bt303.2.1 bt303.2.2.1 bt303.2.2.2.1 bt303.2.2.2.2.1 bt303.2.2.2.2.2.1 bt303.2.2.2.2.2.2.1 bt303.2.2.2.2.2.2.2.1).bind fun t324 => ((impl_LessTerm.f k bt303.2.2.2.2.1 bt303.2.2.2.2.2.1 bt303.2.2.2.2.2.2.1 bt303.2.2.2.2.2.2.2.1 bt303.1 bt303.2.1 bt303.2.2.1 bt303.2.2.2.1).bind fun t325 => (if t324 = true then (if t325 = true then (laws_FnOrder.j0 k t324 true bt303.1 bt303.2.1 bt303.2.2.1 bt303.2.2.2.1 bt303.2.2.2.2.1 bt303.2.2.2.2.2.1 bt303.2.2.2.2.2.2.1 bt303.2.2.2.2.2.2.2.1 bt303.2.2.2.2.2.2.2.2.1 bt303.2.2.2.2.2.2.2.2.2.1 bt303.2.2.2.2.2.2.2.2.2.2.1 bt303.2.2.2.2.2.2.2.2.2.2.2) else ((impl_SameTerm.f k bt303.1 bt303.2.1 bt303.2.2.1 bt303.2.2.2.1 bt303.2.2.2.2.1 bt303.2.2.2.2.2.1 bt303.2.2.2.2.2.2.1 bt303.2.2.2.2.2.2.2.1).bind fun t326 => (if (true == t326) = true then (laws_FnOrder.j0 k t324 true bt303.1 bt303.2.1 bt303.2.2.1 bt303.2.2.2.1 bt303.2.2.2.2.1 bt303.2.2.2.2.2.1 bt303.2.2.2.2.2.2.1 bt303.2.2.2.2.2.2.2.1 bt303.2.2.2.2.2.2.2.2.1 bt303.2.2.2.2.2.2.2.2.2.1 bt303.2.2.2.2.2.2.2.2.2.2.1 bt303.2.2.2.2.2.2.2.2.2.2.2) else ((spec_LessTerm.f k bt303.1 bt303.2.1 bt303.2.2.1 bt303.2.2.2.1 bt303.2.2.2.2.1 bt303.2.2.2.2.2.1 bt303.2.2.2.2.2.2.1 bt303.2.2.2.2.2.2.2.1).bind fun t327 => (laws_FnOrder.j0 k t324 (t324 != t327) bt303.1 bt303.2.1 bt303.2.2.1 bt303.2.2.2.1 bt303.2.2.2.2.1 bt303.2.2.2.2.2.1 bt303.2.2.2.2.2.2.1 bt303.2.2.2.2.2.2.2.1 bt303.2.2.2.2.2.2.2.2.1 bt303.2.2.2.2.2.2.2.2.2.1 bt303.2.2.2.2.2.2.2.2.2.2.1 bt303.2.2.2.2.2.2.2.2.2.2.2))))) else ((impl_SameTerm.f k bt303.1 bt303.2.1 bt303.2.2.1 bt303.2.2.2.1 bt303.2.2.2.2.1 bt303.2.2.2.2.2.1 bt303.2.2.2.2.2.2.1 bt303.2.2.2.2.2.2.2.1).bind fun t328 => (if (t325 == t328) = true then (laws_FnOrder.j0 k t324 true bt303.1 bt303.2.1 bt303.2.2.1 bt303.2.2.2.1 bt303.2.2.2.2.1 bt303.2.2.2.2.2.1 bt303.2.2.2.2.2.2.1 bt303.2.2.2.2.2.2.2.1 bt303.2.2.2.2.2.2.2.2.1 bt303.2.2.2.2.2.2.2.2.2.1 bt303.2.2.2.2.2.2.2.2.2.2.1 bt303.2.2.2.2.2.2.2.2.2.2.2) else ((spec_LessTerm.f k bt303.1 bt303.2.1 bt303.2.2.1 bt303.2.2.2.1 bt303.2.2.2.2.1 bt303.2.2.2.2.2.1 bt303.2.2.2.2.2.2.1 bt303.2.2.2.2.2.2.2.1).bind fun t329 => (laws_FnOrder.j0 k t324 (t324 != t329) bt303.1 bt303.2.1 bt303.2.2.1 bt303.2.2.2.1 bt303.2.2.2.2.1 bt303.2.2.2.2.2.1 bt303.2.2.2.2.2.2.1 bt303.2.2.2.2.2.2.2.1 bt303.2.2.2.2.2.2.2.2.1 bt303.2.2.2.2.2.2.2.2.2.1 bt303.2.2.2.2.2.2.2.2.2.2.1 bt303.2.2.2.2.2.2.2.2.2.2.2)))))))))) = some r := h
  clear h
  replace H := Option.bind_eq_some_iff.mp H
  obtain ⟨t302, A20, H⟩ := H
  replace H : (if t302 = true then (some true) else ((spec_DrawTerms.f k l0).bind fun bt303 => ((impl_LessTerm.f k bt303.1 bt303.2.1 bt303.2.2.1 bt303.2.2.2.1 bt303.2.2.2.2.1 bt303.2.2.2.2.2.1 bt303.2.2.2.2.2.2.1 bt303.2.2.2.2.2.2.2.1).bind fun t324 => ((impl_LessTerm.f k bt303.2.2.2.2.1 bt303.2.2.2.2.2.1 bt303.2.2.2.2.2.2.1 bt303.2.2.2.2.2.2.2.1 bt303.1 bt303.2.1 bt303.2.2.1 bt303.2.2.2.1).bind fun t325 => (if t324 = true then (if t325 = true then (laws_FnOrder.j0 k t324 true bt303.1 bt303.2.1 bt303.2.2.1 bt303.2.2.2.1 bt303.2.2.2.2.1 bt303.2.2.2.2.2.1 bt303.2.2.2.2.2.2.1 bt303.2.2.2.2.2.2.2.1 bt303.2.2.2.2.2.2.2.2.1 bt303.2.2.2.2.2.2.2.2.2.1 bt303.2.2.2.2.2.2.2.2.2.2.1 bt303.2.2.2.2.2.2.2.2.2.2.2) else ((impl_SameTerm.f k bt303.1 bt303.2.1 bt303.2.2.1 bt303.2.2.2.1 bt303.2.2.2.2.1 bt303.2.2.2.2.2.1 bt303.2.2.2.2.2.2.1 bt303.2.2.2.2.2.2.2.1).bind fun t326 => (if (true == t326) = true then (laws_FnOrder.j0 k t324 true bt303.1 bt303.2.1 bt303.2.2.1 bt303.2.2.2.1 bt303.2.2.2.2.1 bt303.2.2.2.2.2.1 bt303.2.2.2.2.2.2.1 bt303.2.2.2.2.2.2.2.1 bt303.2.2.2.2.2.2.2.2.1 bt303.2.2.2.2.2.2.2.2.2.1 bt303.2.2.2.2.2.2.2.2.2.2.1 bt303.2.2.2.2.2.2.2.2.2.2.2) else ((spec_LessTerm.f k bt303.1 bt303.2.1 bt303.2.2.1 bt303.2.2.2.1 bt303.2.2.2.2.1 bt303.2.2.2.2.2.1 bt303.2.2.2.2.2.2.1 bt303.2.2.2.2.2.2.2.1).bind fun t327 => (laws_FnOrder.j0 k t324 (t324 != t327) bt303.1 bt303.2.1 bt303.2.2.1 bt303.2.2.2.1 bt303.2.2.2.2.1 bt303.2.2.2.2.2.1 bt303.2.2.2.2.2.2.1 bt303.2.2.2.2.2.2.2.1 bt303.2.2.2.2.2.2.2.2.1 bt303.2.2.2.2.2.2.2.2.2.1 bt303.2.2.2.2.2.2.2.2.2.2.1 bt303.2.2.2.2.2.2.2.2.2.2.2))))) else ((impl_SameTerm.f k bt303.1 bt303.2.1 bt303.2.2.1 bt303.2.2.2.1 bt303.2.2.2.2.1 bt303.2.2.2.2.2.1 bt303.2.2.2.2.2.2.1 bt303.2.2.2.2.2.2.2.1).bind fun t328 => (if (t325 == t328) = true then (laws_FnOrder.j0 k t324 true bt303.1 bt303.2.1 bt303.2.2.1 bt303.2.2.2.1 bt303.2.2.2.2.1 bt303.2.2.2.2.2.1 bt303.2.2.2.2.2.2.1 bt303.2.2.2.2.2.2.2.1 bt303.2.2.2.2.2.2.2.2.1 bt303.2.2.2.2.2.2.2.2.2.1 bt303.2.2.2.2.2.2.2.2.2.2.1 bt303.2.2.2.2.2.2.2.2.2.2.2) else ((spec_LessTerm.f k bt303.1 bt303.2.1 bt303.2.2.1 bt303.2.2.2.1 bt303.2.2.2.2.1 bt303.2.2.2.2.2.1 bt303.2.2.2.2.2.2.1 bt303.2.2.2.2.2.2.2.1).bind fun t329 => (laws_FnOrder.j0 k t324 (t324 != t329) bt303.1 bt303.2.1 bt303.2.2.1 bt303.2.2.2.1 bt303.2.2.2.2.1 bt303.2.2.2.2.2.1 bt303.2.2.2.2.2.2.1 bt303.2.2.2.2.2.2.2.1 bt303.2.2.2.2.2.2.2.2.1 bt303.2.2.2.2.2.2.2.2.2.1 bt303.2.2.2.2.2.2.2.2.2.2.1 bt303.2.2.2.2.2.2.2.2.2.2.2))))))))) = some r := H
  have A2 := Aside0.mk A20
  clear A20
  by_cases c3 : t302 = true
  · subst c3
    have H1 : (some true) = some r := by rw [if_pos rfl] at H; exact H
    clear H
    have H := H1
    clear H1
    obtain rfl := Option.some.inj H
    go_enter Try.func3, Try.ntmps3
    go_wp2_with (first | ((with_reducible refine gate_callee (f := 4) rfl ?_); refine goesL_ (some 9) rfl rfl Try.func4 (by kernel_rfl) rfl #[.slice A0 l0.length c0] rfl (by (try simp only [List.map_toArray, List.map_cons, List.map_nil]); first | done | rfl | (simp only [List.length_drop, List.length_take]; rfl)) ?_; (with_reducible refine (laws_big.calls _ _ l0 true _ ?side1 ?side2 A2.out).mono ?_); (case side1 => repeat (first | exact HR0.out | (with_reducible refine Kd.C_alloc ?_ _) | (with_reducible refine Kd.C_drewN ?_ _) | (with_reducible refine Kd.C_drew ?_))); (case side2 => exact HC0.out); rintro e w' ⟨rfl, ⟨nd, rfl⟩⟩; refine ⟨_, rfl, ?_⟩))
    go_ret
    exact ⟨by first | rfl | (simp [errW_none, errW_some] <;> rfl) | (simp [*, errW_none, errW_some] <;> rfl) | (rw [isEmpty_ne]; first | done | rfl) | (rw [isEmpty_be]; first | done | rfl), by repeat (first | (with_reducible first | exact HB.out | apply below_alloc | apply pw_below_drewN | apply below_drew1) | exact HB.out)⟩
  · replace c3 := Bool.eq_false_iff.mpr c3
    subst c3
    have H1 : ((spec_DrawTerms.f k l0).bind fun bt303 => ((impl_LessTerm.f k bt303.1 bt303.2.1 bt303.2.2.1 bt303.2.2.2.1 bt303.2.2.2.2.1 bt303.2.2.2.2.2.1 bt303.2.2.2.2.2.2.1 bt303.2.2.2.2.2.2.2.1).bind fun t324 => ((impl_LessTerm.f k bt303.2.2.2.2.1 bt303.2.2.2.2.2.1 bt303.2.2.2.2.2.2.1 bt303.2.2.2.2.2.2.2.1 bt303.1 bt303.2.1 bt303.2.2.1 bt303.2.2.2.1).bind fun t325 => (if t324 = true then (if t325 = true then (laws_FnOrder.j0 k t324 true bt303.1 bt303.2.1 bt303.2.2.1 bt303.2.2.2.1 bt303.2.2.2.2.1 bt303.2.2.2.2.2.1 bt303.2.2.2.2.2.2.1 bt303.2.2.2.2.2.2.2.1 bt303.2.2.2.2.2.2.2.2.1 bt303.2.2.2.2.2.2.2.2.2.1 bt303.2.2.2.2.2.2.2.2.2.2.1 bt303.2.2.2.2.2.2.2.2.2.2.2) else ((impl_SameTerm.f k bt303.1 bt303.2.1 bt303.2.2.1 bt303.2.2.2.1 bt303.2.2.2.2.1 bt303.2.2.2.2.2.1 bt303.2.2.2.2.2.2.1 bt303.2.2.2.2.2.2.2.1).bind fun t326 => (if (true == t326) = true then (laws_FnOrder.j0 k t324 true bt303.1 bt303.2.1 bt303.2.2.1 bt303.2.2.2.1 bt303.2.2.2.2.1 bt303.2.2.2.2.2.1 bt303.2.2.2.2.2.2.1 bt303.2.2.2.2.2.2.2.1 bt303.2.2.2.2.2.2.2.2.1 bt303.2.2.2.2.2.2.2.2.2.1 bt303.2.2.2.2.2.2.2.2.2.2.1 bt303.2.2.2.2.2.2.2.2.2.2.2) else ((spec_LessTerm.f k bt303.1 bt303.2.1 bt303.2.2.1 bt303.2.2.2.1 bt303.2.2.2.2.1 bt303.2.2.2.2.2.1 bt303.2.2.2.2.2.2.1 bt303.2.2.2.2.2.2.2.1).bind fun t327 => (laws_FnOrder.j0 k t324 (t324 != t327) bt303.1 bt303.2.1 bt303.2.2.1 bt303.2.2.2.1 bt303.2.2.2.2.1 bt303.2.2.2.2.2.1 bt303.2.2.2.2.2.2.1 bt303.2.2.2.2.2.2.2.1 bt303.2.2.2.2.2.2.2.2.1 bt303.2.2.2.2.2.2.2.2.2.1 bt303.2.2.2.2.2.2.2.2.2.2.1 bt303.2.2.2.2.2.2.2.2.2.2.2))))) else ((impl_SameTerm.f k bt303.1 bt303.2.1 bt303.2.2.1 bt303.2.2.2.1 bt303.2.2.2.2.1 bt303.2.2.2.2.2.1 bt303.2.2.2.2.2.2.1 bt303.2.2.2.2.2.2.2.1).bind fun t328 => (if (t325 == t328) = true then (laws_FnOrder.j0 k t324 true bt303.1 bt303.2.1 bt303.2.2.1 bt303.2.2.2.1 bt303.2.2.2.2.1 bt303.2.2.2.2.2.1 bt303.2.2.2.2.2.2.1 bt303.2.2.2.2.2.2.2.1 bt303.2.2.2.2.2.2.2.2.1 bt303.2.2.2.2.2.2.2.2.2.1 bt303.2.2.2.2.2.2.2.2.2.2.1 bt303.2.2.2.2.2.2.2.2.2.2.2) else ((spec_LessTerm.f k bt303.1 bt303.2.1 bt303.2.2.1 bt303.2.2.2.1 bt303.2.2.2.2.1 bt303.2.2.2.2.2.1 bt303.2.2.2.2.2.2.1 bt303.2.2.2.2.2.2.2.1).bind fun t329 => (laws_FnOrder.j0 k t324 (t324 != t329) bt303.1 bt303.2.1 bt303.2.2.1 bt303.2.2.2.1 bt303.2.2.2.2.1 bt303.2.2.2.2.2.1 bt303.2.2.2.2.2.2.1 bt303.2.2.2.2.2.2.2.1 bt303.2.2.2.2.2.2.2.2.1 bt303.2.2.2.2.2.2.2.2.2.1 bt303.2.2.2.2.2.2.2.2.2.2.1 bt303.2.2.2.2.2.2.2.2.2.2.2)))))))) = some r := by rw [if_neg (show ¬ (false = true) by decide)] at H; exact H
    clear H
    have H := H1
    clear H1
    replace H := Option.bind_eq_some_iff.mp H
    obtain ⟨⟨t303, t304, t305, t306, t309, t310, t311, t312, t315, t316, t317, t318⟩, A40, H⟩ := H
    replace H : ((impl_LessTerm.f k t303 t304 t305 t306 t309 t310 t311 t312).bind fun t324 => ((impl_LessTerm.f k t309 t310 t311 t312 t303 t304 t305 t306).bind fun t325 => (if t324 = true then (if t325 = true then (laws_FnOrder.j0 k t324 true t303 t304 t305 t306 t309 t310 t311 t312 t315 t316 t317 t318) else ((impl_SameTerm.f k t303 t304 t305 t306 t309 t310 t311 t312).bind fun t326 => (if (true == t326) = true then (laws_FnOrder.j0 k t324 true t303 t304 t305 t306 t309 t310 t311 t312 t315 t316 t317 t318) else ((spec_LessTerm.f k t303 t304 t305 t306 t309 t310 t311 t312).bind fun t327 => (laws_FnOrder.j0 k t324 (t324 != t327) t303 t304 t305 t306 t309 t310 t311 t312 t315 t316 t317 t318))))) else ((impl_SameTerm.f k t303 t304 t305 t306 t309 t310 t311 t312).bind fun t328 => (if (t325 == t328) = true then (laws_FnOrder.j0 k t324 true t303 t304 t305 t306 t309 t310 t311 t312 t315 t316 t317 t318) else ((spec_LessTerm.f k t303 t304 t305 t306 t309 t310 t311 t312).bind fun t329 => (laws_FnOrder.j0 k t324 (t324 != t329) t303 t304 t305 t306 t309 t310 t311 t312 t315 t316 t317 t318))))))) = some r := H
    have A4 := Aside0.mk A40
    clear A40
    replace H := Option.bind_eq_some_iff.mp H
    obtain ⟨t324, A50, H⟩ := H
    replace H : ((impl_LessTerm.f k t309 t310 t311 t312 t303 t304 t305 t306).bind fun t325 => (if t324 = true then (if t325 = true then (laws_FnOrder.j0 k t324 true t303 t304 t305 t306 t309 t310 t311 t312 t315 t316 t317 t318) else ((impl_SameTerm.f k t303 t304 t305 t306 t309 t310 t311 t312).bind fun t326 => (if (true == t326) = true then (laws_FnOrder.j0 k t324 true t303 t304 t305 t306 t309 t310 t311 t312 t315 t316 t317 t318) else ((spec_LessTerm.f k t303 t304 t305 t306 t309 t310 t311 t312).bind fun t327 => (laws_FnOrder.j0 k t324 (t324 != t327) t303 t304 t305 t306 t309 t310 t311 t312 t315 t316 t317 t318))))) else ((impl_SameTerm.f k t303 t304 t305 t306 t309 t310 t311 t312).bind fun t328 => (if (t325 == t328) = true then (laws_FnOrder.j0 k t324 true t303 t304 t305 t306 t309 t310 t311 t312 t315 t316 t317 t318) else ((spec_LessTerm.f k t303 t304 t305 t306 t309 t310 t311 t312).bind fun t329 => (laws_FnOrder.j0 k t324 (t324 != t329) t303 t304 t305 t306 t309 t310 t311 t312 t315 t316 t317 t318)))))) = some r := H
    have A5 := Aside0.mk A50
    clear A50
    replace H := Option.bind_eq_some_iff.mp H
    obtain ⟨t325, A60, H⟩ := H
    replace H : (if t324 = true then (if t325 = true then (laws_FnOrder.j0 k t324 true t303 t304 t305 t306 t309 t310 t311 t312 t315 t316 t317 t318) else ((impl_SameTerm.f k t303 t304 t305 t306 t309 t310 t311 t312).bind fun t326 => (if (true == t326) = true then (laws_FnOrder.j0 k t324 true t303 t304 t305 t306 t309 t310 t311 t312 t315 t316 t317 t318) else ((spec_LessTerm.f k t303 t304 t305 t306 t309 t310 t311 t312).bind fun t327 => (laws_FnOrder.j0 k t324 (t324 != t327) t303 t304 t305 t306 t309 t310 t311 t312 t315 t316 t317 t318))))) else ((impl_SameTerm.f k t303 t304 t305 t306 t309 t310 t311 t312).bind fun t328 => (if (t325 == t328) = true then (laws_FnOrder.j0 k t324 true t303 t304 t305 t306 t309 t310 t311 t312 t315 t316 t317 t318) else ((spec_LessTerm.f k t303 t304 t305 t306 t309 t310 t311 t312).bind fun t329 => (laws_FnOrder.j0 k t324 (t324 != t329) t303 t304 t305 t306 t309 t310 t311 t312 t315 t316 t317 t318))))) = some r := H
    have A6 := Aside0.mk A60
    clear A60
    have HC7 := Aside0.mk H
    clear H
    go_enter Try.func3, Try.ntmps3
    go_upto_region 6 with (first | ((with_reducible refine gate_callee (f := 4) rfl ?_); refine goesL_ (some 9) rfl rfl Try.func4 (by kernel_rfl) rfl #[.slice A0 l0.length c0] rfl (by (try simp only [List.map_toArray, List.map_cons, List.map_nil]); first | done | rfl | (simp only [List.length_drop, List.length_take]; rfl)) ?_; (with_reducible refine (laws_big.calls _ _ l0 false _ ?side1 ?side2 A2.out).mono ?_); (case side1 => repeat (first | exact HR0.out | (with_reducible refine Kd.C_alloc ?_ _) | (with_reducible refine Kd.C_drewN ?_ _) | (with_reducible refine Kd.C_drew ?_))); (case side2 => exact HC0.out); rintro e w' ⟨rfl, ⟨nd, rfl⟩⟩; refine ⟨_, rfl, ?_⟩) | ((with_reducible refine gate_callee (f := 5) rfl ?_); refine goesL_ (some 12) rfl rfl Try.func5 (by kernel_rfl) rfl #[.slice A0 l0.length c0] rfl (by (try simp only [List.map_toArray, List.map_cons, List.map_nil]); first | done | rfl | (simp only [List.length_drop, List.length_take]; rfl)) ?_; (with_reducible refine (spec_DrawTerms.calls k _ _ l0 t303 t304 t305 t306 t309 t310 t311 t312 t315 t316 t317 t318 _ ?side1 ?side2 A4.out).mono ?_); (case side1 => repeat (first | exact HR0.out | (with_reducible refine Kd.C_alloc ?_ _) | (with_reducible refine Kd.C_drewN ?_ _) | (with_reducible refine Kd.C_drew ?_))); (case side2 => exact HC0.out); rintro e w8 ⟨v307, v313, v319, rfl, ho0, ho1, ho2, hb⟩; refine ⟨_, rfl, ?_⟩; have n0_ := Aside0.mk (Kd.N_lower (Kd.N_mono (ok' := fun k_ => some k_ ≠ (v313 : Value).ownBlock ∧ some k_ ≠ (v319 : Value).ownBlock) ho0 (fun k_ hk_ => ⟨hk_.2.1, hk_.2.2⟩)) (below_size (by repeat (first | (with_reducible first | exact HB.out | apply below_alloc | apply pw_below_drewN | apply below_drew1) | exact HB.out)))); have n1_ := Aside0.mk (Kd.N_lower (Kd.N_mono (ok' := fun k_ => some k_ ≠ (v307 : Value).ownBlock ∧ some k_ ≠ (v319 : Value).ownBlock) ho1 (fun k_ hk_ => ⟨hk_.2.1, hk_.2.2⟩)) (below_size (by repeat (first | (with_reducible first | exact HB.out | apply below_alloc | apply pw_below_drewN | apply below_drew1) | exact HB.out)))); have n2_ := Aside0.mk (Kd.N_lower (Kd.N_mono (ok' := fun k_ => some k_ ≠ (v307 : Value).ownBlock ∧ some k_ ≠ (v313 : Value).ownBlock) ho2 (fun k_ hk_ => ⟨hk_.2.1, hk_.2.2⟩)) (below_size (by repeat (first | (with_reducible first | exact HB.out | apply below_alloc | apply pw_below_drewN | apply below_drew1) | exact HB.out)))); have n3_ := Aside0.mk (below_step (by repeat (first | (with_reducible first | exact HB.out | apply below_alloc | apply pw_below_drewN | apply below_drew1) | exact HB.out)) hb); clear HB; have HO308 := n0_; have HO314 := n1_; have HO320 := n2_; have HB := n3_; clear n0_ n1_ n2_ n3_; (try clear hb); (try clear hb2); (try clear hk); (try clear hi); (try clear ho0); (try clear ho1); (try clear ho2)) | ((with_reducible refine gate_dst (N := 3) rfl ?_); refine box_event ?hg (N := 3) ?hd (cs := #[.int .i64 0, .int .i64 0, .string (⟨#[]⟩ : ByteArray), .slice none 0 0]) (t := 26) ?hr ?_; (case hd => rfl); (case hg => rfl); (case hr => first | (go_simp; done) | (go_simp; rfl)); intro gb321 hg w9 hbox hb; have n0_ := Aside0.mk (Kd.N_below (Kd.N_elderB (by (with_reducible repeat (first | apply Kd.N_alloc | apply Kd.N_drewN | apply Kd.N_drew)); exact HO308.out) gb321 (Nat.le_of_eq hg.symm)) hb); have n1_ := Aside0.mk (Kd.N_below (Kd.N_elderB (by (with_reducible repeat (first | apply Kd.N_alloc | apply Kd.N_drewN | apply Kd.N_drew)); exact HO314.out) gb321 (Nat.le_of_eq hg.symm)) hb); have n2_ := Aside0.mk (Kd.N_below (Kd.N_elderB (by (with_reducible repeat (first | apply Kd.N_alloc | apply Kd.N_drewN | apply Kd.N_drew)); exact HO320.out) gb321 (Nat.le_of_eq hg.symm)) hb); have n3_ := Aside0.mk (below_step (by repeat (first | (with_reducible first | exact HB.out | apply below_alloc | apply pw_below_drewN | apply below_drew1) | exact HB.out)) hb); have n4_ := Aside0.mk (hbox); have n5_ := Aside0.mk ((by rw [hg]; exact (below_size (by repeat (first | (with_reducible first | exact HB.out | apply below_alloc | apply pw_below_drewN | apply below_drew1) | exact HB.out))) : w.heap.size ≤ gb321)); have n6_ := Aside0.mk ((by rw [hg]; exact (below_size (by repeat (first | (with_reducible first | exact HB.out | apply below_alloc | apply pw_below_drewN | apply below_drew1) | exact HB.out))) : w.heap.size ≤ gb321)); clear HO308; clear HO314; clear HO320; clear HB; have HO308 := n0_; have HO314 := n1_; have HO320 := n2_; have HB := n3_; have BK321 := n4_; have GW321 := n5_; have GE321 := n6_; clear n0_ n1_ n2_ n3_ n4_ n5_ n6_; clear hb hbox hg) | ((with_reducible refine gate_dst (N := 4) rfl ?_); refine box_event ?hg (N := 4) ?hd (cs := #[.int .i64 0, .int .i64 0, .string (⟨#[]⟩ : ByteArray), .slice none 0 0]) (t := 26) ?hr ?_; (case hd => rfl); (case hg => rfl); (case hr => first | (go_simp; done) | (go_simp; rfl)); intro gb322 hg w10 hbox hb; have n0_ := Aside0.mk (Kd.N_below (Kd.N_elderB (by (with_reducible repeat (first | apply Kd.N_alloc | apply Kd.N_drewN | apply Kd.N_drew)); exact HO308.out) gb322 (Nat.le_of_eq hg.symm)) hb); have n1_ := Aside0.mk (Kd.N_below (Kd.N_elderB (by (with_reducible repeat (first | apply Kd.N_alloc | apply Kd.N_drewN | apply Kd.N_drew)); exact HO314.out) gb322 (Nat.le_of_eq hg.symm)) hb); have n2_ := Aside0.mk (Kd.N_below (Kd.N_elderB (by (with_reducible repeat (first | apply Kd.N_alloc | apply Kd.N_drewN | apply Kd.N_drew)); exact HO320.out) gb322 (Nat.le_of_eq hg.symm)) hb); have n3_ := Aside0.mk (blk_below (g := gb321) (o := .cells #[.int .i64 0, .int .i64 0, .string (⟨#[]⟩ : ByteArray), .slice none 0 0] 26 (0, 0)) (by (with_reducible repeat (first | refine blk_drewN ?_ _ | refine blk_drew ?_ | refine blk_alloc ?_ _)); exact BK321.out) hb); have n4_ := Aside0.mk (below_step (by repeat (first | (with_reducible first | exact HB.out | apply below_alloc | apply pw_below_drewN | apply below_drew1 | refine below_set ?_ GE321.out) | exact HB.out)) hb); have n5_ := Aside0.mk (hbox); have n6_ := Aside0.mk ((by rw [hg]; exact (below_size (by repeat (first | (with_reducible first | exact HB.out | apply below_alloc | apply pw_below_drewN | apply below_drew1 | refine below_set ?_ GE321.out) | exact HB.out))) : w.heap.size ≤ gb322)); have n7_ := Aside0.mk ((by rw [hg]; exact (below_size (by repeat (first | (with_reducible first | exact HB.out | apply below_alloc | apply pw_below_drewN | apply below_drew1 | refine below_set ?_ GE321.out) | exact HB.out))) : w.heap.size ≤ gb322)); have n8_ := Aside0.mk ((by rw [hg]; exact Nat.ne_of_lt (blk_lt (g := gb321) (o := .cells #[.int .i64 0, .int .i64 0, .string (⟨#[]⟩ : ByteArray), .slice none 0 0] 26 (0, 0)) (by (with_reducible repeat (first | refine blk_drewN ?_ _ | refine blk_drew ?_ | refine blk_alloc ?_ _)); exact BK321.out)) : gb321 ≠ gb322)); have n9_ := Aside0.mk ((by rw [hg]; exact Nat.ne_of_gt (blk_lt (g := gb321) (o := .cells #[.int .i64 0, .int .i64 0, .string (⟨#[]⟩ : ByteArray), .slice none 0 0] 26 (0, 0)) (by (with_reducible repeat (first | refine blk_drewN ?_ _ | refine blk_drew ?_ | refine blk_alloc ?_ _)); exact BK321.out)) : gb322 ≠ gb321)); clear HO308; clear HO314; clear HO320; clear BK321; clear HB; have HO308 := n0_; have HO314 := n1_; have HO320 := n2_; have BK321 := n3_; have HB := n4_; have BK322 := n5_; have GW322 := n6_; have GE322 := n7_; have NB321_322 := n8_; have NB322_321 := n9_; clear n0_ n1_ n2_ n3_ n4_ n5_ n6_ n7_ n8_ n9_; clear hb hbox hg) | ((with_reducible refine gate_dst (N := 5) rfl ?_); refine box_event ?hg (N := 5) ?hd (cs := #[.int .i64 0, .int .i64 0, .string (⟨#[]⟩ : ByteArray), .slice none 0 0]) (t := 26) ?hr ?_; (case hd => rfl); (case hg => rfl); (case hr => first | (go_simp; done) | (go_simp; rfl)); intro gb323 hg w11 hbox hb; have n0_ := Aside0.mk (Kd.N_below (Kd.N_elderB (by (with_reducible repeat (first | apply Kd.N_alloc | apply Kd.N_drewN | apply Kd.N_drew)); exact HO308.out) gb323 (Nat.le_of_eq hg.symm)) hb); have n1_ := Aside0.mk (Kd.N_below (Kd.N_elderB (by (with_reducible repeat (first | apply Kd.N_alloc | apply Kd.N_drewN | apply Kd.N_drew)); exact HO314.out) gb323 (Nat.le_of_eq hg.symm)) hb); have n2_ := Aside0.mk (Kd.N_below (Kd.N_elderB (by (with_reducible repeat (first | apply Kd.N_alloc | apply Kd.N_drewN | apply Kd.N_drew)); exact HO320.out) gb323 (Nat.le_of_eq hg.symm)) hb); have n3_ := Aside0.mk (blk_below (g := gb321) (o := .cells #[.int .i64 0, .int .i64 0, .string (⟨#[]⟩ : ByteArray), .slice none 0 0] 26 (0, 0)) (by (with_reducible repeat (first | refine blk_drewN ?_ _ | refine blk_drew ?_ | refine blk_alloc ?_ _)); exact BK321.out) hb); have n4_ := Aside0.mk (blk_below (g := gb322) (o := .cells #[.int .i64 0, .int .i64 0, .string (⟨#[]⟩ : ByteArray), .slice none 0 0] 26 (0, 0)) (by (with_reducible repeat (first | refine blk_drewN ?_ _ | refine blk_drew ?_ | refine blk_alloc ?_ _)); exact BK322.out) hb); have n5_ := Aside0.mk (below_step (by repeat (first | (with_reducible first | exact HB.out | apply below_alloc | apply pw_below_drewN | apply below_drew1 | refine below_set ?_ GE321.out | refine below_set ?_ GE322.out) | exact HB.out)) hb); have n6_ := Aside0.mk (hbox); have n7_ := Aside0.mk ((by rw [hg]; exact (below_size (by repeat (first | (with_reducible first | exact HB.out | apply below_alloc | apply pw_below_drewN | apply below_drew1 | refine below_set ?_ GE321.out | refine below_set ?_ GE322.out) | exact HB.out))) : w.heap.size ≤ gb323)); have n8_ := Aside0.mk ((by rw [hg]; exact (below_size (by repeat (first | (with_reducible first | exact HB.out | apply below_alloc | apply pw_below_drewN | apply below_drew1 | refine below_set ?_ GE321.out | refine below_set ?_ GE322.out) | exact HB.out))) : w.heap.size ≤ gb323)); have n9_ := Aside0.mk ((by rw [hg]; exact Nat.ne_of_lt (blk_lt (g := gb321) (o := .cells #[.int .i64 0, .int .i64 0, .string (⟨#[]⟩ : ByteArray), .slice none 0 0] 26 (0, 0)) (by (with_reducible repeat (first | refine blk_drewN ?_ _ | refine blk_drew ?_ | refine blk_alloc ?_ _)); exact BK321.out)) : gb321 ≠ gb323)); have n10_ := Aside0.mk ((by rw [hg]; exact Nat.ne_of_gt (blk_lt (g := gb321) (o := .cells #[.int .i64 0, .int .i64 0, .string (⟨#[]⟩ : ByteArray), .slice none 0 0] 26 (0, 0)) (by (with_reducible repeat (first | refine blk_drewN ?_ _ | refine blk_drew ?_ | refine blk_alloc ?_ _)); exact BK321.out)) : gb323 ≠ gb321)); have n11_ := Aside0.mk ((by rw [hg]; exact Nat.ne_of_lt (blk_lt (g := gb322) (o := .cells #[.int .i64 0, .int .i64 0, .string (⟨#[]⟩ : ByteArray), .slice none 0 0] 26 (0, 0)) (by (with_reducible repeat (first | refine blk_drewN ?_ _ | refine blk_drew ?_ | refine blk_alloc ?_ _)); exact BK322.out)) : gb322 ≠ gb323)); have n12_ := Aside0.mk ((by rw [hg]; exact Nat.ne_of_gt (blk_lt (g := gb322) (o := .cells #[.int .i64 0, .int .i64 0, .string (⟨#[]⟩ : ByteArray), .slice none 0 0] 26 (0, 0)) (by (with_reducible repeat (first | refine blk_drewN ?_ _ | refine blk_drew ?_ | refine blk_alloc ?_ _)); exact BK322.out)) : gb323 ≠ gb322)); clear HO308; clear HO314; clear HO320; clear BK321; clear BK322; clear HB; have HO308 := n0_; have HO314 := n1_; have HO320 := n2_; have BK321 := n3_; have BK322 := n4_; have HB := n5_; have BK323 := n6_; have GW323 := n7_; have GE323 := n8_; have NB321_323 := n9_; have NB323_321 := n10_; have NB322_323 := n11_; have NB323_322 := n12_; clear n0_ n1_ n2_ n3_ n4_ n5_ n6_ n7_ n8_ n9_ n10_ n11_ n12_; clear hb hbox hg; have hnb12 := NB321_322.out; have hnc12 := NB322_321.out; have hnb13 := NB321_323.out; have hnc13 := NB323_321.out; have hcz14_0 : w11.cell? ⟨gb321, 0, none⟩ = some (.int .i64 0) := (blk_cell BK321.out 0).trans rfl; have hcz14_1 : w11.cell? ⟨gb321, 1, none⟩ = some (.int .i64 0) := (blk_cell BK321.out 1).trans rfl; have hcz14_2 : w11.cell? ⟨gb321, 2, none⟩ = some (.string (⟨#[]⟩ : ByteArray)) := (blk_cell BK321.out 2).trans rfl; have hcz14_3 : w11.cell? ⟨gb321, 3, none⟩ = some (.slice none 0 0) := (blk_cell BK321.out 3).trans rfl; have hfz14_0 := blk_frozen BK321.out 0; have hfz14_1 := blk_frozen BK321.out 1; have hfz14_2 := blk_frozen BK321.out 2; have hfz14_3 := blk_frozen BK321.out 3; obtain ⟨Ao15, co15, eo15⟩ := Kd.N_slice HO308.out; subst eo15; have hnb16 := NB322_323.out; have hnc16 := NB323_322.out; have hcz17_0 : w11.cell? ⟨gb322, 0, none⟩ = some (.int .i64 0) := (blk_cell BK322.out 0).trans rfl; have hcz17_1 : w11.cell? ⟨gb322, 1, none⟩ = some (.int .i64 0) := (blk_cell BK322.out 1).trans rfl; have hcz17_2 : w11.cell? ⟨gb322, 2, none⟩ = some (.string (⟨#[]⟩ : ByteArray)) := (blk_cell BK322.out 2).trans rfl; have hcz17_3 : w11.cell? ⟨gb322, 3, none⟩ = some (.slice none 0 0) := (blk_cell BK322.out 3).trans rfl; have hfz17_0 := blk_frozen BK322.out 0; have hfz17_1 := blk_frozen BK322.out 1; have hfz17_2 := blk_frozen BK322.out 2; have hfz17_3 := blk_frozen BK322.out 3; obtain ⟨Ao18, co18, eo18⟩ := Kd.N_slice HO314.out; subst eo18; have hcz19_0 : w11.cell? ⟨gb323, 0, none⟩ = some (.int .i64 0) := (blk_cell BK323.out 0).trans rfl; have hcz19_1 : w11.cell? ⟨gb323, 1, none⟩ = some (.int .i64 0) := (blk_cell BK323.out 1).trans rfl; have hcz19_2 : w11.cell? ⟨gb323, 2, none⟩ = some (.string (⟨#[]⟩ : ByteArray)) := (blk_cell BK323.out 2).trans rfl; have hcz19_3 : w11.cell? ⟨gb323, 3, none⟩ = some (.slice none 0 0) := (blk_cell BK323.out 3).trans rfl; have hfz19_0 := blk_frozen BK323.out 0; have hfz19_1 := blk_frozen BK323.out 1; have hfz19_2 := blk_frozen BK323.out 2; have hfz19_3 := blk_frozen BK323.out 3; obtain ⟨Ao20, co20, eo20⟩ := Kd.N_slice HO320.out; subst eo20) | ((with_reducible refine gate_callee (f := 6) rfl ?_); refine goesL_ (some 18) rfl rfl Try.func6 (by kernel_rfl) rfl #[.agg #[.int .i64 t303, .int .i64 t304, .string t305, .slice Ao15 t306.length co15], .agg #[.int .i64 t309, .int .i64 t310, .string t311, .slice Ao18 t312.length co18]] rfl (by (try simp only [List.map_toArray, List.map_cons, List.map_nil]); first | done | rfl | (simp only [List.length_drop, List.length_take]; rfl)) ?_; (with_reducible refine (impl_LessTerm.calls k t303 t304 t305 _ _ t306 t309 t310 t311 _ _ t312 t324 _ ?side1 ?side2 ?side3 ?side4 A5.out).mono ?_); (case side1 => refine (Kd.N_reads' (e := 26) (base := w.heap.size) (ok := fun k_ => ((((some k_ ≠ (.slice Ao18 t312.length co18 : Value).ownBlock ∧ some k_ ≠ (.slice Ao20 t318.length co20 : Value).ownBlock) ∧ k_ ≠ gb321) ∧ k_ ≠ gb322) ∧ k_ ≠ gb323)) (n := t306.length) (c := co15) ?_).2.2; exact (by (with_reducible repeat (first | apply Kd.N_alloc | apply Kd.N_drewN | apply Kd.N_drew)); exact (Kd.N_mono (Kd.N_mono (Kd.N_mono (Kd.N_far (p := ⟨gb323, 3, none⟩) (Kd.N_far (p := ⟨gb323, 2, none⟩) (Kd.N_far (p := ⟨gb323, 1, none⟩) (Kd.N_far (p := ⟨gb323, 0, none⟩) (Kd.N_far (p := ⟨gb322, 3, none⟩) (Kd.N_far (p := ⟨gb322, 2, none⟩) (Kd.N_far (p := ⟨gb322, 1, none⟩) (Kd.N_far (p := ⟨gb322, 0, none⟩) (Kd.N_far (p := ⟨gb321, 3, none⟩) (Kd.N_far (p := ⟨gb321, 2, none⟩) (Kd.N_far (p := ⟨gb321, 1, none⟩) (Kd.N_far (p := ⟨gb321, 0, none⟩) (Kd.N_mono (Kd.N_mono (Kd.N_mono HO308.out (fun k_ hk => (⟨hk, hk.1.1.2⟩ : _ ∧ k_ ≠ gb321))) (fun k_ hk => (⟨hk, hk.1.1.2⟩ : _ ∧ k_ ≠ gb322))) (fun k_ hk => (⟨hk, hk.1.1.2⟩ : _ ∧ k_ ≠ gb323))) (fun _ hk => hk.1.1.2) (.int .i64 t303)) (fun _ hk => hk.1.1.2) (.int .i64 t304)) (fun _ hk => hk.1.1.2) (.string t305)) (fun _ hk => hk.1.1.2) (.slice Ao15 t306.length co15)) (fun _ hk => hk.1.2) (.int .i64 t309)) (fun _ hk => hk.1.2) (.int .i64 t310)) (fun _ hk => hk.1.2) (.string t311)) (fun _ hk => hk.1.2) (.slice Ao18 t312.length co18)) (fun _ hk => hk.2) (.int .i64 t315)) (fun _ hk => hk.2) (.int .i64 t316)) (fun _ hk => hk.2) (.string t317)) (fun _ hk => hk.2) (.slice Ao20 t318.length co20)) (fun _ h_ => h_.1)) (fun _ h_ => h_.1)) (fun _ h_ => h_.1)))); (case side2 => exact (Kd.N_reads' HO308.out).2.1); (case side3 => refine (Kd.N_reads' (e := 26) (base := w.heap.size) (ok := fun k_ => ((((some k_ ≠ (.slice Ao15 t306.length co15 : Value).ownBlock ∧ some k_ ≠ (.slice Ao20 t318.length co20 : Value).ownBlock) ∧ k_ ≠ gb321) ∧ k_ ≠ gb322) ∧ k_ ≠ gb323)) (n := t312.length) (c := co18) ?_).2.2; exact (by (with_reducible repeat (first | apply Kd.N_alloc | apply Kd.N_drewN | apply Kd.N_drew)); exact (Kd.N_mono (Kd.N_mono (Kd.N_mono (Kd.N_far (p := ⟨gb323, 3, none⟩) (Kd.N_far (p := ⟨gb323, 2, none⟩) (Kd.N_far (p := ⟨gb323, 1, none⟩) (Kd.N_far (p := ⟨gb323, 0, none⟩) (Kd.N_far (p := ⟨gb322, 3, none⟩) (Kd.N_far (p := ⟨gb322, 2, none⟩) (Kd.N_far (p := ⟨gb322, 1, none⟩) (Kd.N_far (p := ⟨gb322, 0, none⟩) (Kd.N_far (p := ⟨gb321, 3, none⟩) (Kd.N_far (p := ⟨gb321, 2, none⟩) (Kd.N_far (p := ⟨gb321, 1, none⟩) (Kd.N_far (p := ⟨gb321, 0, none⟩) (Kd.N_mono (Kd.N_mono (Kd.N_mono HO314.out (fun k_ hk => (⟨hk, hk.1.1.2⟩ : _ ∧ k_ ≠ gb321))) (fun k_ hk => (⟨hk, hk.1.1.2⟩ : _ ∧ k_ ≠ gb322))) (fun k_ hk => (⟨hk, hk.1.1.2⟩ : _ ∧ k_ ≠ gb323))) (fun _ hk => hk.1.1.2) (.int .i64 t303)) (fun _ hk => hk.1.1.2) (.int .i64 t304)) (fun _ hk => hk.1.1.2) (.string t305)) (fun _ hk => hk.1.1.2) (.slice Ao15 t306.length co15)) (fun _ hk => hk.1.2) (.int .i64 t309)) (fun _ hk => hk.1.2) (.int .i64 t310)) (fun _ hk => hk.1.2) (.string t311)) (fun _ hk => hk.1.2) (.slice Ao18 t312.length co18)) (fun _ hk => hk.2) (.int .i64 t315)) (fun _ hk => hk.2) (.int .i64 t316)) (fun _ hk => hk.2) (.string t317)) (fun _ hk => hk.2) (.slice Ao20 t318.length co20)) (fun _ h_ => h_.1)) (fun _ h_ => h_.1)) (fun _ h_ => h_.1)))); (case side4 => exact (Kd.N_reads' HO314.out).2.1); rintro e w21 ⟨rfl, hb⟩; refine ⟨_, rfl, ?_⟩; have n0_ := Aside0.mk (Kd.N_below (by (with_reducible repeat (first | apply Kd.N_alloc | apply Kd.N_drewN | apply Kd.N_drew)); exact (Kd.N_mono (Kd.N_mono (Kd.N_mono (Kd.N_far (p := ⟨gb323, 3, none⟩) (Kd.N_far (p := ⟨gb323, 2, none⟩) (Kd.N_far (p := ⟨gb323, 1, none⟩) (Kd.N_far (p := ⟨gb323, 0, none⟩) (Kd.N_far (p := ⟨gb322, 3, none⟩) (Kd.N_far (p := ⟨gb322, 2, none⟩) (Kd.N_far (p := ⟨gb322, 1, none⟩) (Kd.N_far (p := ⟨gb322, 0, none⟩) (Kd.N_far (p := ⟨gb321, 3, none⟩) (Kd.N_far (p := ⟨gb321, 2, none⟩) (Kd.N_far (p := ⟨gb321, 1, none⟩) (Kd.N_far (p := ⟨gb321, 0, none⟩) (Kd.N_mono (Kd.N_mono (Kd.N_mono HO308.out (fun k_ hk => (⟨hk, hk.1.1.2⟩ : _ ∧ k_ ≠ gb321))) (fun k_ hk => (⟨hk, hk.1.1.2⟩ : _ ∧ k_ ≠ gb322))) (fun k_ hk => (⟨hk, hk.1.1.2⟩ : _ ∧ k_ ≠ gb323))) (fun _ hk => hk.1.1.2) (.int .i64 t303)) (fun _ hk => hk.1.1.2) (.int .i64 t304)) (fun _ hk => hk.1.1.2) (.string t305)) (fun _ hk => hk.1.1.2) (.slice Ao15 t306.length co15)) (fun _ hk => hk.1.2) (.int .i64 t309)) (fun _ hk => hk.1.2) (.int .i64 t310)) (fun _ hk => hk.1.2) (.string t311)) (fun _ hk => hk.1.2) (.slice Ao18 t312.length co18)) (fun _ hk => hk.2) (.int .i64 t315)) (fun _ hk => hk.2) (.int .i64 t316)) (fun _ hk => hk.2) (.string t317)) (fun _ hk => hk.2) (.slice Ao20 t318.length co20)) (fun _ h_ => h_.1)) (fun _ h_ => h_.1)) (fun _ h_ => h_.1))) hb); have n1_ := Aside0.mk (Kd.N_below (by (with_reducible repeat (first | apply Kd.N_alloc | apply Kd.N_drewN | apply Kd.N_drew)); exact (Kd.N_mono (Kd.N_mono (Kd.N_mono (Kd.N_far (p := ⟨gb323, 3, none⟩) (Kd.N_far (p := ⟨gb323, 2, none⟩) (Kd.N_far (p := ⟨gb323, 1, none⟩) (Kd.N_far (p := ⟨gb323, 0, none⟩) (Kd.N_far (p := ⟨gb322, 3, none⟩) (Kd.N_far (p := ⟨gb322, 2, none⟩) (Kd.N_far (p := ⟨gb322, 1, none⟩) (Kd.N_far (p := ⟨gb322, 0, none⟩) (Kd.N_far (p := ⟨gb321, 3, none⟩) (Kd.N_far (p := ⟨gb321, 2, none⟩) (Kd.N_far (p := ⟨gb321, 1, none⟩) (Kd.N_far (p := ⟨gb321, 0, none⟩) (Kd.N_mono (Kd.N_mono (Kd.N_mono HO314.out (fun k_ hk => (⟨hk, hk.1.1.2⟩ : _ ∧ k_ ≠ gb321))) (fun k_ hk => (⟨hk, hk.1.1.2⟩ : _ ∧ k_ ≠ gb322))) (fun k_ hk => (⟨hk, hk.1.1.2⟩ : _ ∧ k_ ≠ gb323))) (fun _ hk => hk.1.1.2) (.int .i64 t303)) (fun _ hk => hk.1.1.2) (.int .i64 t304)) (fun _ hk => hk.1.1.2) (.string t305)) (fun _ hk => hk.1.1.2) (.slice Ao15 t306.length co15)) (fun _ hk => hk.1.2) (.int .i64 t309)) (fun _ hk => hk.1.2) (.int .i64 t310)) (fun _ hk => hk.1.2) (.string t311)) (fun _ hk => hk.1.2) (.slice Ao18 t312.length co18)) (fun _ hk => hk.2) (.int .i64 t315)) (fun _ hk => hk.2) (.int .i64 t316)) (fun _ hk => hk.2) (.string t317)) (fun _ hk => hk.2) (.slice Ao20 t318.length co20)) (fun _ h_ => h_.1)) (fun _ h_ => h_.1)) (fun _ h_ => h_.1))) hb); have n2_ := Aside0.mk (Kd.N_below (by (with_reducible repeat (first | apply Kd.N_alloc | apply Kd.N_drewN | apply Kd.N_drew)); exact (Kd.N_mono (Kd.N_mono (Kd.N_mono (Kd.N_far (p := ⟨gb323, 3, none⟩) (Kd.N_far (p := ⟨gb323, 2, none⟩) (Kd.N_far (p := ⟨gb323, 1, none⟩) (Kd.N_far (p := ⟨gb323, 0, none⟩) (Kd.N_far (p := ⟨gb322, 3, none⟩) (Kd.N_far (p := ⟨gb322, 2, none⟩) (Kd.N_far (p := ⟨gb322, 1, none⟩) (Kd.N_far (p := ⟨gb322, 0, none⟩) (Kd.N_far (p := ⟨gb321, 3, none⟩) (Kd.N_far (p := ⟨gb321, 2, none⟩) (Kd.N_far (p := ⟨gb321, 1, none⟩) (Kd.N_far (p := ⟨gb321, 0, none⟩) (Kd.N_mono (Kd.N_mono (Kd.N_mono HO320.out (fun k_ hk => (⟨hk, hk.1.1.2⟩ : _ ∧ k_ ≠ gb321))) (fun k_ hk => (⟨hk, hk.1.1.2⟩ : _ ∧ k_ ≠ gb322))) (fun k_ hk => (⟨hk, hk.1.1.2⟩ : _ ∧ k_ ≠ gb323))) (fun _ hk => hk.1.1.2) (.int .i64 t303)) (fun _ hk => hk.1.1.2) (.int .i64 t304)) (fun _ hk => hk.1.1.2) (.string t305)) (fun _ hk => hk.1.1.2) (.slice Ao15 t306.length co15)) (fun _ hk => hk.1.2) (.int .i64 t309)) (fun _ hk => hk.1.2) (.int .i64 t310)) (fun _ hk => hk.1.2) (.string t311)) (fun _ hk => hk.1.2) (.slice Ao18 t312.length co18)) (fun _ hk => hk.2) (.int .i64 t315)) (fun _ hk => hk.2) (.int .i64 t316)) (fun _ hk => hk.2) (.string t317)) (fun _ hk => hk.2) (.slice Ao20 t318.length co20)) (fun _ h_ => h_.1)) (fun _ h_ => h_.1)) (fun _ h_ => h_.1))) hb); have n3_ := Aside0.mk (blk_below (g := gb321) (o := .cells #[.int .i64 t303, .int .i64 t304, .string t305, .slice Ao15 t306.length co15] 26 (0, 0)) (by (with_reducible repeat (first | refine blk_drewN ?_ _ | refine blk_drew ?_ | refine blk_alloc ?_ _)); refine blk_far ?_ NB321_323.out _; (with_reducible repeat (first | refine blk_drewN ?_ _ | refine blk_drew ?_ | refine blk_alloc ?_ _)); refine blk_far ?_ NB321_323.out _; (with_reducible repeat (first | refine blk_drewN ?_ _ | refine blk_drew ?_ | refine blk_alloc ?_ _)); refine blk_far ?_ NB321_323.out _; (with_reducible repeat (first | refine blk_drewN ?_ _ | refine blk_drew ?_ | refine blk_alloc ?_ _)); refine blk_far ?_ NB321_323.out _; (with_reducible repeat (first | refine blk_drewN ?_ _ | refine blk_drew ?_ | refine blk_alloc ?_ _)); refine blk_far ?_ NB321_322.out _; (with_reducible repeat (first | refine blk_drewN ?_ _ | refine blk_drew ?_ | refine blk_alloc ?_ _)); refine blk_far ?_ NB321_322.out _; (with_reducible repeat (first | refine blk_drewN ?_ _ | refine blk_drew ?_ | refine blk_alloc ?_ _)); refine blk_far ?_ NB321_322.out _; (with_reducible repeat (first | refine blk_drewN ?_ _ | refine blk_drew ?_ | refine blk_alloc ?_ _)); refine blk_far ?_ NB321_322.out _; (with_reducible repeat (first | refine blk_drewN ?_ _ | refine blk_drew ?_ | refine blk_alloc ?_ _)); refine blk_put (cs := #[.int .i64 t303, .int .i64 t304, .string t305, .slice none 0 0]) ?_ 3 _ rfl; (with_reducible repeat (first | refine blk_drewN ?_ _ | refine blk_drew ?_ | refine blk_alloc ?_ _)); refine blk_put (cs := #[.int .i64 t303, .int .i64 t304, .string (⟨#[]⟩ : ByteArray), .slice none 0 0]) ?_ 2 _ rfl; (with_reducible repeat (first | refine blk_drewN ?_ _ | refine blk_drew ?_ | refine blk_alloc ?_ _)); refine blk_put (cs := #[.int .i64 t303, .int .i64 0, .string (⟨#[]⟩ : ByteArray), .slice none 0 0]) ?_ 1 _ rfl; (with_reducible repeat (first | refine blk_drewN ?_ _ | refine blk_drew ?_ | refine blk_alloc ?_ _)); refine blk_put (cs := #[.int .i64 0, .int .i64 0, .string (⟨#[]⟩ : ByteArray), .slice none 0 0]) ?_ 0 _ rfl; (with_reducible repeat (first | refine blk_drewN ?_ _ | refine blk_drew ?_ | refine blk_alloc ?_ _)); exact BK321.out) hb); have n4_ := Aside0.mk (blk_below (g := gb322) (o := .cells #[.int .i64 t309, .int .i64 t310, .string t311, .slice Ao18 t312.length co18] 26 (0, 0)) (by (with_reducible repeat (first | refine blk_drewN ?_ _ | refine blk_drew ?_ | refine blk_alloc ?_ _)); refine blk_far ?_ NB322_323.out _; (with_reducible repeat (first | refine blk_drewN ?_ _ | refine blk_drew ?_ | refine blk_alloc ?_ _)); refine blk_far ?_ NB322_323.out _; (with_reducible repeat (first | refine blk_drewN ?_ _ | refine blk_drew ?_ | refine blk_alloc ?_ _)); refine blk_far ?_ NB322_323.out _; (with_reducible repeat (first | refine blk_drewN ?_ _ | refine blk_drew ?_ | refine blk_alloc ?_ _)); refine blk_far ?_ NB322_323.out _; (with_reducible repeat (first | refine blk_drewN ?_ _ | refine blk_drew ?_ | refine blk_alloc ?_ _)); refine blk_put (cs := #[.int .i64 t309, .int .i64 t310, .string t311, .slice none 0 0]) ?_ 3 _ rfl; (with_reducible repeat (first | refine blk_drewN ?_ _ | refine blk_drew ?_ | refine blk_alloc ?_ _)); refine blk_put (cs := #[.int .i64 t309, .int .i64 t310, .string (⟨#[]⟩ : ByteArray), .slice none 0 0]) ?_ 2 _ rfl; (with_reducible repeat (first | refine blk_drewN ?_ _ | refine blk_drew ?_ | refine blk_alloc ?_ _)); refine blk_put (cs := #[.int .i64 t309, .int .i64 0, .string (⟨#[]⟩ : ByteArray), .slice none 0 0]) ?_ 1 _ rfl; (with_reducible repeat (first | refine blk_drewN ?_ _ | refine blk_drew ?_ | refine blk_alloc ?_ _)); refine blk_put (cs := #[.int .i64 0, .int .i64 0, .string (⟨#[]⟩ : ByteArray), .slice none 0 0]) ?_ 0 _ rfl; (with_reducible repeat (first | refine blk_drewN ?_ _ | refine blk_drew ?_ | refine blk_alloc ?_ _)); refine blk_far ?_ NB322_321.out _; (with_reducible repeat (first | refine blk_drewN ?_ _ | refine blk_drew ?_ | refine blk_alloc ?_ _)); refine blk_far ?_ NB322_321.out _; (with_reducible repeat (first | refine blk_drewN ?_ _ | refine blk_drew ?_ | refine blk_alloc ?_ _)); refine blk_far ?_ NB322_321.out _; (with_reducible repeat (first | refine blk_drewN ?_ _ | refine blk_drew ?_ | refine blk_alloc ?_ _)); refine blk_far ?_ NB322_321.out _; (with_reducible repeat (first | refine blk_drewN ?_ _ | refine blk_drew ?_ | refine blk_alloc ?_ _)); exact BK322.out) hb); have n5_ := Aside0.mk (blk_below (g := gb323) (o := .cells #[.int .i64 t315, .int .i64 t316, .string t317, .slice Ao20 t318.length co20] 26 (0, 0)) (by (with_reducible repeat (first | refine blk_drewN ?_ _ | refine blk_drew ?_ | refine blk_alloc ?_ _)); refine blk_put (cs := #[.int .i64 t315, .int .i64 t316, .string t317, .slice none 0 0]) ?_ 3 _ rfl; (with_reducible repeat (first | refine blk_drewN ?_ _ | refine blk_drew ?_ | refine blk_alloc ?_ _)); refine blk_put (cs := #[.int .i64 t315, .int .i64 t316, .string (⟨#[]⟩ : ByteArray), .slice none 0 0]) ?_ 2 _ rfl; (with_reducible repeat (first | refine blk_drewN ?_ _ | refine blk_drew ?_ | refine blk_alloc ?_ _)); refine blk_put (cs := #[.int .i64 t315, .int .i64 0, .string (⟨#[]⟩ : ByteArray), .slice none 0 0]) ?_ 1 _ rfl; (with_reducible repeat (first | refine blk_drewN ?_ _ | refine blk_drew ?_ | refine blk_alloc ?_ _)); refine blk_put (cs := #[.int .i64 0, .int .i64 0, .string (⟨#[]⟩ : ByteArray), .slice none 0 0]) ?_ 0 _ rfl; (with_reducible repeat (first | refine blk_drewN ?_ _ | refine blk_drew ?_ | refine blk_alloc ?_ _)); refine blk_far ?_ NB323_322.out _; (with_reducible repeat (first | refine blk_drewN ?_ _ | refine blk_drew ?_ | refine blk_alloc ?_ _)); refine blk_far ?_ NB323_322.out _; (with_reducible repeat (first | refine blk_drewN ?_ _ | refine blk_drew ?_ | refine blk_alloc ?_ _)); refine blk_far ?_ NB323_322.out _; (with_reducible repeat (first | refine blk_drewN ?_ _ | refine blk_drew ?_ | refine blk_alloc ?_ _)); refine blk_far ?_ NB323_322.out _; (with_reducible repeat (first | refine blk_drewN ?_ _ | refine blk_drew ?_ | refine blk_alloc ?_ _)); refine blk_far ?_ NB323_321.out _; (with_reducible repeat (first | refine blk_drewN ?_ _ | refine blk_drew ?_ | refine blk_alloc ?_ _)); refine blk_far ?_ NB323_321.out _; (with_reducible repeat (first | refine blk_drewN ?_ _ | refine blk_drew ?_ | refine blk_alloc ?_ _)); refine blk_far ?_ NB323_321.out _; (with_reducible repeat (first | refine blk_drewN ?_ _ | refine blk_drew ?_ | refine blk_alloc ?_ _)); refine blk_far ?_ NB323_321.out _; (with_reducible repeat (first | refine blk_drewN ?_ _ | refine blk_drew ?_ | refine blk_alloc ?_ _)); exact BK323.out) hb); have n6_ := Aside0.mk (below_step (by repeat (first | (with_reducible first | exact HB.out | apply below_alloc | apply pw_below_drewN | apply below_drew1 | refine below_set ?_ GE321.out | refine below_set ?_ GE322.out | refine below_set ?_ GE323.out) | exact HB.out)) hb); clear HO308; clear HO314; clear HO320; clear BK321; clear BK322; clear BK323; clear HB; have HO308 := n0_; have HO314 := n1_; have HO320 := n2_; have BK321 := n3_; have BK322 := n4_; have BK323 := n5_; have HB := n6_; clear n0_ n1_ n2_ n3_ n4_ n5_ n6_; (try clear hb); (try clear hb2); (try clear hk); (try clear hi); have hcz22_0 : w21.cell? ⟨gb322, 0, none⟩ = some (.int .i64 t309) := (blk_cell BK322.out 0).trans rfl; have hcz22_1 : w21.cell? ⟨gb322, 1, none⟩ = some (.int .i64 t310) := (blk_cell BK322.out 1).trans rfl; have hcz22_2 : w21.cell? ⟨gb322, 2, none⟩ = some (.string t311) := (blk_cell BK322.out 2).trans rfl; have hcz22_3 : w21.cell? ⟨gb322, 3, none⟩ = some (.slice Ao18 t312.length co18) := (blk_cell BK322.out 3).trans rfl; have hfz22_0 := blk_frozen BK322.out 0; have hfz22_1 := blk_frozen BK322.out 1; have hfz22_2 := blk_frozen BK322.out 2; have hfz22_3 := blk_frozen BK322.out 3; have hcz23_0 : w21.cell? ⟨gb321, 0, none⟩ = some (.int .i64 t303) := (blk_cell BK321.out 0).trans rfl; have hcz23_1 : w21.cell? ⟨gb321, 1, none⟩ = some (.int .i64 t304) := (blk_cell BK321.out 1).trans rfl; have hcz23_2 : w21.cell? ⟨gb321, 2, none⟩ = some (.string t305) := (blk_cell BK321.out 2).trans rfl; have hcz23_3 : w21.cell? ⟨gb321, 3, none⟩ = some (.slice Ao15 t306.length co15) := (blk_cell BK321.out 3).trans rfl; have hfz23_0 := blk_frozen BK321.out 0; have hfz23_1 := blk_frozen BK321.out 1; have hfz23_2 := blk_frozen BK321.out 2; have hfz23_3 := blk_frozen BK321.out 3) | ((with_reducible refine gate_callee (f := 6) rfl ?_); refine goesL_ (some 21) rfl rfl Try.func6 (by kernel_rfl) rfl #[.agg #[.int .i64 t309, .int .i64 t310, .string t311, .slice Ao18 t312.length co18], .agg #[.int .i64 t303, .int .i64 t304, .string t305, .slice Ao15 t306.length co15]] rfl (by (try simp only [List.map_toArray, List.map_cons, List.map_nil]); first | done | rfl | (simp only [List.length_drop, List.length_take]; rfl)) ?_; (with_reducible refine (impl_LessTerm.calls k t309 t310 t311 _ _ t312 t303 t304 t305 _ _ t306 t325 _ ?side1 ?side2 ?side3 ?side4 A6.out).mono ?_); (case side1 => repeat (first | exact (Kd.N_reads' HO314.out).2.2 | (with_reducible refine Kd.C_alloc ?_ _) | (with_reducible refine Kd.C_drewN ?_ _) | (with_reducible refine Kd.C_drew ?_))); (case side2 => exact (Kd.N_reads' HO314.out).2.1); (case side3 => repeat (first | exact (Kd.N_reads' HO308.out).2.2 | (with_reducible refine Kd.C_alloc ?_ _) | (with_reducible refine Kd.C_drewN ?_ _) | (with_reducible refine Kd.C_drew ?_))); (case side4 => exact (Kd.N_reads' HO308.out).2.1); rintro e w24 ⟨rfl, hb⟩; refine ⟨_, rfl, ?_⟩; have n0_ := Aside0.mk (Kd.N_below (by (with_reducible repeat (first | apply Kd.N_alloc | apply Kd.N_drewN | apply Kd.N_drew)); exact HO308.out) hb); have n1_ := Aside0.mk (Kd.N_below (by (with_reducible repeat (first | apply Kd.N_alloc | apply Kd.N_drewN | apply Kd.N_drew)); exact HO314.out) hb); have n2_ := Aside0.mk (Kd.N_below (by (with_reducible repeat (first | apply Kd.N_alloc | apply Kd.N_drewN | apply Kd.N_drew)); exact HO320.out) hb); have n3_ := Aside0.mk (blk_below (g := gb321) (o := .cells #[.int .i64 t303, .int .i64 t304, .string t305, .slice Ao15 t306.length co15] 26 (0, 0)) (by (with_reducible repeat (first | refine blk_drewN ?_ _ | refine blk_drew ?_ | refine blk_alloc ?_ _)); exact BK321.out) hb); have n4_ := Aside0.mk (blk_below (g := gb322) (o := .cells #[.int .i64 t309, .int .i64 t310, .string t311, .slice Ao18 t312.length co18] 26 (0, 0)) (by (with_reducible repeat (first | refine blk_drewN ?_ _ | refine blk_drew ?_ | refine blk_alloc ?_ _)); exact BK322.out) hb); have n5_ := Aside0.mk (blk_below (g := gb323) (o := .cells #[.int .i64 t315, .int .i64 t316, .string t317, .slice Ao20 t318.length co20] 26 (0, 0)) (by (with_reducible repeat (first | refine blk_drewN ?_ _ | refine blk_drew ?_ | refine blk_alloc ?_ _)); exact BK323.out) hb); have n6_ := Aside0.mk (below_step (by repeat (first | (with_reducible first | exact HB.out | apply below_alloc | apply pw_below_drewN | apply below_drew1 | refine below_set ?_ GE321.out | refine below_set ?_ GE322.out | refine below_set ?_ GE323.out) | exact HB.out)) hb); clear HO308; clear HO314; clear HO320; clear BK321; clear BK322; clear BK323; clear HB; have HO308 := n0_; have HO314 := n1_; have HO320 := n2_; have BK321 := n3_; have BK322 := n4_; have BK323 := n5_; have HB := n6_; clear n0_ n1_ n2_ n3_ n4_ n5_ n6_; (try clear hb); (try clear hb2); (try clear hk); (try clear hi)))
    (try simp only [Act.put, List.setIfInBounds_toArray, List.set_cons_zero, List.set_cons_succ])
    go_cut [42] (fun v42 wc => ∃ (kq : Nat) (x42_6 : Bool), v42 = .bool x42_6 ∧ Aside0 (laws_FnOrder.j0 kq t324 x42_6 t303 t304 t305 t306 t309 t310 t311 t312 t315 t316 t317 t318 = some r) ∧ Aside0 (kq ≤ k) ∧ Aside0 (Kd.N k26 26 wc w.heap.size (fun k_ => some k_ ≠ ((.slice Ao18 t312.length co18) : Value).ownBlock ∧ some k_ ≠ ((.slice Ao20 t318.length co20) : Value).ownBlock ∧ k_ ≠ gb321 ∧ k_ ≠ gb322 ∧ k_ ≠ gb323) (.slice Ao15 t306.length co15) t306) ∧ Aside0 (Kd.N k26 26 wc w.heap.size (fun k_ => some k_ ≠ ((.slice Ao15 t306.length co15) : Value).ownBlock ∧ some k_ ≠ ((.slice Ao20 t318.length co20) : Value).ownBlock ∧ k_ ≠ gb321 ∧ k_ ≠ gb322 ∧ k_ ≠ gb323) (.slice Ao18 t312.length co18) t312) ∧ Aside0 (Kd.N k26 26 wc w.heap.size (fun k_ => some k_ ≠ ((.slice Ao15 t306.length co15) : Value).ownBlock ∧ some k_ ≠ ((.slice Ao18 t312.length co18) : Value).ownBlock ∧ k_ ≠ gb321 ∧ k_ ≠ gb322 ∧ k_ ≠ gb323) (.slice Ao20 t318.length co20) t318) ∧ Aside0 (wc.heap[gb321]? = some (.cells #[.int .i64 t303, .int .i64 t304, .string t305, (.slice Ao15 t306.length co15)] 26 (0, 0))) ∧ Aside0 (wc.heap[gb322]? = some (.cells #[.int .i64 t309, .int .i64 t310, .string t311, (.slice Ao18 t312.length co18)] 26 (0, 0))) ∧ Aside0 (wc.heap[gb323]? = some (.cells #[.int .i64 t315, .int .i64 t316, .string t317, (.slice Ao20 t318.length co20)] 26 (0, 0))) ∧ Aside0 (Below w.heap.size w wc))
    case first =>
      have H := HC7.out
      clear HC7
      by_cases c25 : t324 = true
      · subst c25
        have H1 : (if t325 = true then (laws_FnOrder.j0 k true true t303 t304 t305 t306 t309 t310 t311 t312 t315 t316 t317 t318) else ((impl_SameTerm.f k t303 t304 t305 t306 t309 t310 t311 t312).bind fun t326 => (if (true == t326) = true then (laws_FnOrder.j0 k true true t303 t304 t305 t306 t309 t310 t311 t312 t315 t316 t317 t318) else ((spec_LessTerm.f k t303 t304 t305 t306 t309 t310 t311 t312).bind fun t327 => (laws_FnOrder.j0 k true (true != t327) t303 t304 t305 t306 t309 t310 t311 t312 t315 t316 t317 t318))))) = some r := by rw [if_pos rfl] at H; exact H
        clear H
        have H := H1
        clear H1
        by_cases c26 : t325 = true
        · subst c26
          have H1 : (laws_FnOrder.j0 k true true t303 t304 t305 t306 t309 t310 t311 t312 t315 t316 t317 t318) = some r := by rw [if_pos rfl] at H; exact H
          clear H
          have H := H1
          clear H1
          have H' := Aside0.mk H
          clear H
          go_wp2
          go_meet
          case rel => exact ⟨_, (true), (by first | rfl | (simp; done) | (simp [*]; done)), H', ⟨by first | omega | exact Nat.le_refl _⟩, ⟨by (with_reducible repeat (first | apply Kd.N_alloc | apply Kd.N_drewN | apply Kd.N_drew)); exact Kd.N_mono HO308.out (fun _ hk => ⟨hk.1.1.1.1, ⟨hk.1.1.1.2, ⟨hk.1.1.2, ⟨hk.1.2, hk.2⟩⟩⟩⟩)⟩, ⟨by (with_reducible repeat (first | apply Kd.N_alloc | apply Kd.N_drewN | apply Kd.N_drew)); exact Kd.N_mono HO314.out (fun _ hk => ⟨hk.1.1.1.1, ⟨hk.1.1.1.2, ⟨hk.1.1.2, ⟨hk.1.2, hk.2⟩⟩⟩⟩)⟩, ⟨by (with_reducible repeat (first | apply Kd.N_alloc | apply Kd.N_drewN | apply Kd.N_drew)); exact Kd.N_mono HO320.out (fun _ hk => ⟨hk.1.1.1.1, ⟨hk.1.1.1.2, ⟨hk.1.1.2, ⟨hk.1.2, hk.2⟩⟩⟩⟩)⟩, ⟨by (with_reducible repeat (first | refine blk_drewN ?_ _ | refine blk_drew ?_ | refine blk_alloc ?_ _)); exact BK321.out⟩, ⟨by (with_reducible repeat (first | refine blk_drewN ?_ _ | refine blk_drew ?_ | refine blk_alloc ?_ _)); exact BK322.out⟩, ⟨by (with_reducible repeat (first | refine blk_drewN ?_ _ | refine blk_drew ?_ | refine blk_alloc ?_ _)); exact BK323.out⟩, ⟨by repeat (first | (with_reducible first | exact HB.out | apply below_alloc | apply pw_below_drewN | apply below_drew1 | refine below_set ?_ GE321.out | refine below_set ?_ GE322.out | refine below_set ?_ GE323.out) | exact HB.out)⟩⟩
        · replace c26 := Bool.eq_false_iff.mpr c26
          subst c26
          have H1 : ((impl_SameTerm.f k t303 t304 t305 t306 t309 t310 t311 t312).bind fun t326 => (if (true == t326) = true then (laws_FnOrder.j0 k true true t303 t304 t305 t306 t309 t310 t311 t312 t315 t316 t317 t318) else ((spec_LessTerm.f k t303 t304 t305 t306 t309 t310 t311 t312).bind fun t327 => (laws_FnOrder.j0 k true (true != t327) t303 t304 t305 t306 t309 t310 t311 t312 t315 t316 t317 t318)))) = some r := by rw [if_neg (show ¬ (false = true) by decide)] at H; exact H
          clear H
          have H := H1
          clear H1
          replace H := Option.bind_eq_some_iff.mp H
          obtain ⟨t326, A270, H⟩ := H
          replace H : (if (true == t326) = true then (laws_FnOrder.j0 k true true t303 t304 t305 t306 t309 t310 t311 t312 t315 t316 t317 t318) else ((spec_LessTerm.f k t303 t304 t305 t306 t309 t310 t311 t312).bind fun t327 => (laws_FnOrder.j0 k true (true != t327) t303 t304 t305 t306 t309 t310 t311 t312 t315 t316 t317 t318))) = some r := H
          have A27 := Aside0.mk A270
          clear A270
          by_cases c28 : (true == t326) = true
          · rw [if_pos c28] at H
            have c28b0 : (true == t326) = true := c28
            (try (have c28b1 : decide (true = t326) = true := by simpa using c28))
            (try (have c28b2 : (true == t326) = true := by simpa using c28))
            clear c28
            (first | rw [c28b0] | (simp only [i64_w, i32_w]; rw [c28b0]) | (simp only [c28b2, Bool.not_true, Bool.not_false]) | skip)
            have H' := Aside0.mk H
            clear H
            have hnb29 := NB321_322.out
            have hnc29 := NB322_321.out
            have hnb30 := NB321_323.out
            have hnc30 := NB323_321.out
            have hcz31_0 : w24.cell? ⟨gb321, 0, none⟩ = some (.int .i64 t303) := (blk_cell BK321.out 0).trans rfl
            have hcz31_1 : w24.cell? ⟨gb321, 1, none⟩ = some (.int .i64 t304) := (blk_cell BK321.out 1).trans rfl
            have hcz31_2 : w24.cell? ⟨gb321, 2, none⟩ = some (.string t305) := (blk_cell BK321.out 2).trans rfl
            have hcz31_3 : w24.cell? ⟨gb321, 3, none⟩ = some (.slice Ao15 t306.length co15) := (blk_cell BK321.out 3).trans rfl
            have hfz31_0 := blk_frozen BK321.out 0
            have hfz31_1 := blk_frozen BK321.out 1
            have hfz31_2 := blk_frozen BK321.out 2
            have hfz31_3 := blk_frozen BK321.out 3
            have hnb32 := NB322_323.out
            have hnc32 := NB323_322.out
            have hcz33_0 : w24.cell? ⟨gb322, 0, none⟩ = some (.int .i64 t309) := (blk_cell BK322.out 0).trans rfl
            have hcz33_1 : w24.cell? ⟨gb322, 1, none⟩ = some (.int .i64 t310) := (blk_cell BK322.out 1).trans rfl
            have hcz33_2 : w24.cell? ⟨gb322, 2, none⟩ = some (.string t311) := (blk_cell BK322.out 2).trans rfl
            have hcz33_3 : w24.cell? ⟨gb322, 3, none⟩ = some (.slice Ao18 t312.length co18) := (blk_cell BK322.out 3).trans rfl
            have hfz33_0 := blk_frozen BK322.out 0
            have hfz33_1 := blk_frozen BK322.out 1
            have hfz33_2 := blk_frozen BK322.out 2
            have hfz33_3 := blk_frozen BK322.out 3
            go_wp2_with (first | (go_at_call 7; (with_reducible refine (impl_SameTerm.calls k t303 t304 t305 _ _ t306 t309 t310 t311 _ _ t312 t326 _ ?side1 ?side2 ?side3 ?side4 A27.out).mono ?_); (case side1 => repeat (first | exact (Kd.N_reads' HO308.out).2.2 | (with_reducible refine Kd.C_alloc ?_ _) | (with_reducible refine Kd.C_drewN ?_ _) | (with_reducible refine Kd.C_drew ?_))); (case side2 => exact (Kd.N_reads' HO308.out).2.1); (case side3 => repeat (first | exact (Kd.N_reads' HO314.out).2.2 | (with_reducible refine Kd.C_alloc ?_ _) | (with_reducible refine Kd.C_drewN ?_ _) | (with_reducible refine Kd.C_drew ?_))); (case side4 => exact (Kd.N_reads' HO314.out).2.1); rintro e w34 ⟨rfl, hb⟩; have n0_ := Aside0.mk (Kd.N_below (by (with_reducible repeat (first | apply Kd.N_alloc | apply Kd.N_drewN | apply Kd.N_drew)); exact HO308.out) hb); have n1_ := Aside0.mk (Kd.N_below (by (with_reducible repeat (first | apply Kd.N_alloc | apply Kd.N_drewN | apply Kd.N_drew)); exact HO314.out) hb); have n2_ := Aside0.mk (Kd.N_below (by (with_reducible repeat (first | apply Kd.N_alloc | apply Kd.N_drewN | apply Kd.N_drew)); exact HO320.out) hb); have n3_ := Aside0.mk (blk_below (g := gb321) (o := .cells #[.int .i64 t303, .int .i64 t304, .string t305, .slice Ao15 t306.length co15] 26 (0, 0)) (by (with_reducible repeat (first | refine blk_drewN ?_ _ | refine blk_drew ?_ | refine blk_alloc ?_ _)); exact BK321.out) hb); have n4_ := Aside0.mk (blk_below (g := gb322) (o := .cells #[.int .i64 t309, .int .i64 t310, .string t311, .slice Ao18 t312.length co18] 26 (0, 0)) (by (with_reducible repeat (first | refine blk_drewN ?_ _ | refine blk_drew ?_ | refine blk_alloc ?_ _)); exact BK322.out) hb); have n5_ := Aside0.mk (blk_below (g := gb323) (o := .cells #[.int .i64 t315, .int .i64 t316, .string t317, .slice Ao20 t318.length co20] 26 (0, 0)) (by (with_reducible repeat (first | refine blk_drewN ?_ _ | refine blk_drew ?_ | refine blk_alloc ?_ _)); exact BK323.out) hb); have n6_ := Aside0.mk (below_step (by repeat (first | (with_reducible first | exact HB.out | apply below_alloc | apply pw_below_drewN | apply below_drew1 | refine below_set ?_ GE321.out | refine below_set ?_ GE322.out | refine below_set ?_ GE323.out) | exact HB.out)) hb); clear HO308; clear HO314; clear HO320; clear BK321; clear BK322; clear BK323; clear HB; have HO308 := n0_; have HO314 := n1_; have HO320 := n2_; have BK321 := n3_; have BK322 := n4_; have BK323 := n5_; have HB := n6_; clear n0_ n1_ n2_ n3_ n4_ n5_ n6_; (try clear hb); (try clear hb2); (try clear hk); (try clear hi)))
            go_meet
            case rel => exact ⟨_, (true), (by first | rfl | (simp; done) | (simp [*]; done)), H', ⟨by first | omega | exact Nat.le_refl _⟩, ⟨by (with_reducible repeat (first | apply Kd.N_alloc | apply Kd.N_drewN | apply Kd.N_drew)); exact Kd.N_mono HO308.out (fun _ hk => ⟨hk.1.1.1.1, ⟨hk.1.1.1.2, ⟨hk.1.1.2, ⟨hk.1.2, hk.2⟩⟩⟩⟩)⟩, ⟨by (with_reducible repeat (first | apply Kd.N_alloc | apply Kd.N_drewN | apply Kd.N_drew)); exact Kd.N_mono HO314.out (fun _ hk => ⟨hk.1.1.1.1, ⟨hk.1.1.1.2, ⟨hk.1.1.2, ⟨hk.1.2, hk.2⟩⟩⟩⟩)⟩, ⟨by (with_reducible repeat (first | apply Kd.N_alloc | apply Kd.N_drewN | apply Kd.N_drew)); exact Kd.N_mono HO320.out (fun _ hk => ⟨hk.1.1.1.1, ⟨hk.1.1.1.2, ⟨hk.1.1.2, ⟨hk.1.2, hk.2⟩⟩⟩⟩)⟩, ⟨by (with_reducible repeat (first | refine blk_drewN ?_ _ | refine blk_drew ?_ | refine blk_alloc ?_ _)); exact BK321.out⟩, ⟨by (with_reducible repeat (first | refine blk_drewN ?_ _ | refine blk_drew ?_ | refine blk_alloc ?_ _)); exact BK322.out⟩, ⟨by (with_reducible repeat (first | refine blk_drewN ?_ _ | refine blk_drew ?_ | refine blk_alloc ?_ _)); exact BK323.out⟩, ⟨by repeat (first | (with_reducible first | exact HB.out | apply below_alloc | apply pw_below_drewN | apply below_drew1 | refine below_set ?_ GE321.out | refine below_set ?_ GE322.out | refine below_set ?_ GE323.out) | exact HB.out)⟩⟩
          · rw [if_neg c28] at H
            have c28b0 : (true == t326) = false := by simpa using c28
            (try (have c28b1 : decide (true = t326) = false := by simpa using c28))
            (try (have c28b2 : (true == t326) = false := by simpa using c28))
            (try (have c28b3 : ¬ (true = t326) := by simpa using c28))
            clear c28
            (first | rw [c28b0] | (simp only [i64_w, i32_w]; rw [c28b0]) | (simp only [c28b2, Bool.not_true, Bool.not_false]) | skip)
            replace H := Option.bind_eq_some_iff.mp H
            obtain ⟨t327, A350, H⟩ := H
            replace H : (laws_FnOrder.j0 k true (true != t327) t303 t304 t305 t306 t309 t310 t311 t312 t315 t316 t317 t318) = some r := H
            have A35 := Aside0.mk A350
            clear A350
            have H' := Aside0.mk H
            clear H
            have hnb36 := NB321_322.out
            have hnc36 := NB322_321.out
            have hnb37 := NB321_323.out
            have hnc37 := NB323_321.out
            have hcz38_0 : w24.cell? ⟨gb321, 0, none⟩ = some (.int .i64 t303) := (blk_cell BK321.out 0).trans rfl
            have hcz38_1 : w24.cell? ⟨gb321, 1, none⟩ = some (.int .i64 t304) := (blk_cell BK321.out 1).trans rfl
            have hcz38_2 : w24.cell? ⟨gb321, 2, none⟩ = some (.string t305) := (blk_cell BK321.out 2).trans rfl
            have hcz38_3 : w24.cell? ⟨gb321, 3, none⟩ = some (.slice Ao15 t306.length co15) := (blk_cell BK321.out 3).trans rfl
            have hfz38_0 := blk_frozen BK321.out 0
            have hfz38_1 := blk_frozen BK321.out 1
            have hfz38_2 := blk_frozen BK321.out 2
            have hfz38_3 := blk_frozen BK321.out 3
            have hnb39 := NB322_323.out
            have hnc39 := NB323_322.out
            have hcz40_0 : w24.cell? ⟨gb322, 0, none⟩ = some (.int .i64 t309) := (blk_cell BK322.out 0).trans rfl
            have hcz40_1 : w24.cell? ⟨gb322, 1, none⟩ = some (.int .i64 t310) := (blk_cell BK322.out 1).trans rfl
            have hcz40_2 : w24.cell? ⟨gb322, 2, none⟩ = some (.string t311) := (blk_cell BK322.out 2).trans rfl
            have hcz40_3 : w24.cell? ⟨gb322, 3, none⟩ = some (.slice Ao18 t312.length co18) := (blk_cell BK322.out 3).trans rfl
            have hfz40_0 := blk_frozen BK322.out 0
            have hfz40_1 := blk_frozen BK322.out 1
            have hfz40_2 := blk_frozen BK322.out 2
            have hfz40_3 := blk_frozen BK322.out 3
            go_wp2_with (first | (go_at_call 7; (with_reducible refine (impl_SameTerm.calls k t303 t304 t305 _ _ t306 t309 t310 t311 _ _ t312 t326 _ ?side1 ?side2 ?side3 ?side4 A27.out).mono ?_); (case side1 => repeat (first | exact (Kd.N_reads' HO308.out).2.2 | (with_reducible refine Kd.C_alloc ?_ _) | (with_reducible refine Kd.C_drewN ?_ _) | (with_reducible refine Kd.C_drew ?_))); (case side2 => exact (Kd.N_reads' HO308.out).2.1); (case side3 => repeat (first | exact (Kd.N_reads' HO314.out).2.2 | (with_reducible refine Kd.C_alloc ?_ _) | (with_reducible refine Kd.C_drewN ?_ _) | (with_reducible refine Kd.C_drew ?_))); (case side4 => exact (Kd.N_reads' HO314.out).2.1); rintro e w41 ⟨rfl, hb⟩; have n0_ := Aside0.mk (Kd.N_below (by (with_reducible repeat (first | apply Kd.N_alloc | apply Kd.N_drewN | apply Kd.N_drew)); exact HO308.out) hb); have n1_ := Aside0.mk (Kd.N_below (by (with_reducible repeat (first | apply Kd.N_alloc | apply Kd.N_drewN | apply Kd.N_drew)); exact HO314.out) hb); have n2_ := Aside0.mk (Kd.N_below (by (with_reducible repeat (first | apply Kd.N_alloc | apply Kd.N_drewN | apply Kd.N_drew)); exact HO320.out) hb); have n3_ := Aside0.mk (blk_below (g := gb321) (o := .cells #[.int .i64 t303, .int .i64 t304, .string t305, .slice Ao15 t306.length co15] 26 (0, 0)) (by (with_reducible repeat (first | refine blk_drewN ?_ _ | refine blk_drew ?_ | refine blk_alloc ?_ _)); exact BK321.out) hb); have n4_ := Aside0.mk (blk_below (g := gb322) (o := .cells #[.int .i64 t309, .int .i64 t310, .string t311, .slice Ao18 t312.length co18] 26 (0, 0)) (by (with_reducible repeat (first | refine blk_drewN ?_ _ | refine blk_drew ?_ | refine blk_alloc ?_ _)); exact BK322.out) hb); have n5_ := Aside0.mk (blk_below (g := gb323) (o := .cells #[.int .i64 t315, .int .i64 t316, .string t317, .slice Ao20 t318.length co20] 26 (0, 0)) (by (with_reducible repeat (first | refine blk_drewN ?_ _ | refine blk_drew ?_ | refine blk_alloc ?_ _)); exact BK323.out) hb); have n6_ := Aside0.mk (below_step (by repeat (first | (with_reducible first | exact HB.out | apply below_alloc | apply pw_below_drewN | apply below_drew1 | refine below_set ?_ GE321.out | refine below_set ?_ GE322.out | refine below_set ?_ GE323.out) | exact HB.out)) hb); clear HO308; clear HO314; clear HO320; clear BK321; clear BK322; clear BK323; clear HB; have HO308 := n0_; have HO314 := n1_; have HO320 := n2_; have BK321 := n3_; have BK322 := n4_; have BK323 := n5_; have HB := n6_; clear n0_ n1_ n2_ n3_ n4_ n5_ n6_; (try clear hb); (try clear hb2); (try clear hk); (try clear hi); have hcz42_0 : w41.cell? ⟨gb321, 0, none⟩ = some (.int .i64 t303) := (blk_cell BK321.out 0).trans rfl; have hcz42_1 : w41.cell? ⟨gb321, 1, none⟩ = some (.int .i64 t304) := (blk_cell BK321.out 1).trans rfl; have hcz42_2 : w41.cell? ⟨gb321, 2, none⟩ = some (.string t305) := (blk_cell BK321.out 2).trans rfl; have hcz42_3 : w41.cell? ⟨gb321, 3, none⟩ = some (.slice Ao15 t306.length co15) := (blk_cell BK321.out 3).trans rfl; have hfz42_0 := blk_frozen BK321.out 0; have hfz42_1 := blk_frozen BK321.out 1; have hfz42_2 := blk_frozen BK321.out 2; have hfz42_3 := blk_frozen BK321.out 3; have hcz43_0 : w41.cell? ⟨gb322, 0, none⟩ = some (.int .i64 t309) := (blk_cell BK322.out 0).trans rfl; have hcz43_1 : w41.cell? ⟨gb322, 1, none⟩ = some (.int .i64 t310) := (blk_cell BK322.out 1).trans rfl; have hcz43_2 : w41.cell? ⟨gb322, 2, none⟩ = some (.string t311) := (blk_cell BK322.out 2).trans rfl; have hcz43_3 : w41.cell? ⟨gb322, 3, none⟩ = some (.slice Ao18 t312.length co18) := (blk_cell BK322.out 3).trans rfl; have hfz43_0 := blk_frozen BK322.out 0; have hfz43_1 := blk_frozen BK322.out 1; have hfz43_2 := blk_frozen BK322.out 2; have hfz43_3 := blk_frozen BK322.out 3) | (go_at_call 8; (with_reducible refine (spec_LessTerm.calls k t303 t304 t305 _ _ t306 t309 t310 t311 _ _ t312 t327 _ ?side1 ?side2 ?side3 ?side4 A35.out).mono ?_); (case side1 => repeat (first | exact (Kd.N_reads' HO308.out).2.2 | (with_reducible refine Kd.C_alloc ?_ _) | (with_reducible refine Kd.C_drewN ?_ _) | (with_reducible refine Kd.C_drew ?_))); (case side2 => exact (Kd.N_reads' HO308.out).2.1); (case side3 => repeat (first | exact (Kd.N_reads' HO314.out).2.2 | (with_reducible refine Kd.C_alloc ?_ _) | (with_reducible refine Kd.C_drewN ?_ _) | (with_reducible refine Kd.C_drew ?_))); (case side4 => exact (Kd.N_reads' HO314.out).2.1); rintro e w44 ⟨rfl, hb⟩; have n0_ := Aside0.mk (Kd.N_below (by (with_reducible repeat (first | apply Kd.N_alloc | apply Kd.N_drewN | apply Kd.N_drew)); exact HO308.out) hb); have n1_ := Aside0.mk (Kd.N_below (by (with_reducible repeat (first | apply Kd.N_alloc | apply Kd.N_drewN | apply Kd.N_drew)); exact HO314.out) hb); have n2_ := Aside0.mk (Kd.N_below (by (with_reducible repeat (first | apply Kd.N_alloc | apply Kd.N_drewN | apply Kd.N_drew)); exact HO320.out) hb); have n3_ := Aside0.mk (blk_below (g := gb321) (o := .cells #[.int .i64 t303, .int .i64 t304, .string t305, .slice Ao15 t306.length co15] 26 (0, 0)) (by (with_reducible repeat (first | refine blk_drewN ?_ _ | refine blk_drew ?_ | refine blk_alloc ?_ _)); exact BK321.out) hb); have n4_ := Aside0.mk (blk_below (g := gb322) (o := .cells #[.int .i64 t309, .int .i64 t310, .string t311, .slice Ao18 t312.length co18] 26 (0, 0)) (by (with_reducible repeat (first | refine blk_drewN ?_ _ | refine blk_drew ?_ | refine blk_alloc ?_ _)); exact BK322.out) hb); have n5_ := Aside0.mk (blk_below (g := gb323) (o := .cells #[.int .i64 t315, .int .i64 t316, .string t317, .slice Ao20 t318.length co20] 26 (0, 0)) (by (with_reducible repeat (first | refine blk_drewN ?_ _ | refine blk_drew ?_ | refine blk_alloc ?_ _)); exact BK323.out) hb); have n6_ := Aside0.mk (below_step (by repeat (first | (with_reducible first | exact HB.out | apply below_alloc | apply pw_below_drewN | apply below_drew1 | refine below_set ?_ GE321.out | refine below_set ?_ GE322.out | refine below_set ?_ GE323.out) | exact HB.out)) hb); clear HO308; clear HO314; clear HO320; clear BK321; clear BK322; clear BK323; clear HB; have HO308 := n0_; have HO314 := n1_; have HO320 := n2_; have BK321 := n3_; have BK322 := n4_; have BK323 := n5_; have HB := n6_; clear n0_ n1_ n2_ n3_ n4_ n5_ n6_; (try clear hb); (try clear hb2); (try clear hk); (try clear hi)))
            go_meet
            case rel => exact ⟨_, ((true != t327)), (by first | rfl | (simp; done) | (simp [*]; done)), H', ⟨by first | omega | exact Nat.le_refl _⟩, ⟨by (with_reducible repeat (first | apply Kd.N_alloc | apply Kd.N_drewN | apply Kd.N_drew)); exact Kd.N_mono HO308.out (fun _ hk => ⟨hk.1.1.1.1, ⟨hk.1.1.1.2, ⟨hk.1.1.2, ⟨hk.1.2, hk.2⟩⟩⟩⟩)⟩, ⟨by (with_reducible repeat (first | apply Kd.N_alloc | apply Kd.N_drewN | apply Kd.N_drew)); exact Kd.N_mono HO314.out (fun _ hk => ⟨hk.1.1.1.1, ⟨hk.1.1.1.2, ⟨hk.1.1.2, ⟨hk.1.2, hk.2⟩⟩⟩⟩)⟩, ⟨by (with_reducible repeat (first | apply Kd.N_alloc | apply Kd.N_drewN | apply Kd.N_drew)); exact Kd.N_mono HO320.out (fun _ hk => ⟨hk.1.1.1.1, ⟨hk.1.1.1.2, ⟨hk.1.1.2, ⟨hk.1.2, hk.2⟩⟩⟩⟩)⟩, ⟨by (with_reducible repeat (first | refine blk_drewN ?_ _ | refine blk_drew ?_ | refine blk_alloc ?_ _)); exact BK321.out⟩, ⟨by (with_reducible repeat (first | refine blk_drewN ?_ _ | refine blk_drew ?_ | refine blk_alloc ?_ _)); exact BK322.out⟩, ⟨by (with_reducible repeat (first | refine blk_drewN ?_ _ | refine blk_drew ?_ | refine blk_alloc ?_ _)); exact BK323.out⟩, ⟨by repeat (first | (with_reducible first | exact HB.out | apply below_alloc | apply pw_below_drewN | apply below_drew1 | refine below_set ?_ GE321.out | refine below_set ?_ GE322.out | refine below_set ?_ GE323.out) | exact HB.out)⟩⟩
      · replace c25 := Bool.eq_false_iff.mpr c25
        subst c25
        have H1 : ((impl_SameTerm.f k t303 t304 t305 t306 t309 t310 t311 t312).bind fun t328 => (if (t325 == t328) = true then (laws_FnOrder.j0 k false true t303 t304 t305 t306 t309 t310 t311 t312 t315 t316 t317 t318) else ((spec_LessTerm.f k t303 t304 t305 t306 t309 t310 t311 t312).bind fun t329 => (laws_FnOrder.j0 k false (false != t329) t303 t304 t305 t306 t309 t310 t311 t312 t315 t316 t317 t318)))) = some r := by rw [if_neg (show ¬ (false = true) by decide)] at H; exact H
        clear H
        have H := H1
        clear H1
        replace H := Option.bind_eq_some_iff.mp H
        obtain ⟨t328, A450, H⟩ := H
        replace H : (if (t325 == t328) = true then (laws_FnOrder.j0 k false true t303 t304 t305 t306 t309 t310 t311 t312 t315 t316 t317 t318) else ((spec_LessTerm.f k t303 t304 t305 t306 t309 t310 t311 t312).bind fun t329 => (laws_FnOrder.j0 k false (false != t329) t303 t304 t305 t306 t309 t310 t311 t312 t315 t316 t317 t318))) = some r := H
        have A45 := Aside0.mk A450
        clear A450
        by_cases c46 : (t325 == t328) = true
        · rw [if_pos c46] at H
          have c46b0 : (t325 == t328) = true := c46
          (try (have c46b1 : decide (t325 = t328) = true := by simpa using c46))
          (try (have c46b2 : (t325 == t328) = true := by simpa using c46))
          clear c46
          have H' := Aside0.mk H
          clear H
          have hnb47 := NB321_322.out
          have hnc47 := NB322_321.out
          have hnb48 := NB321_323.out
          have hnc48 := NB323_321.out
          have hcz49_0 : w24.cell? ⟨gb321, 0, none⟩ = some (.int .i64 t303) := (blk_cell BK321.out 0).trans rfl
          have hcz49_1 : w24.cell? ⟨gb321, 1, none⟩ = some (.int .i64 t304) := (blk_cell BK321.out 1).trans rfl
          have hcz49_2 : w24.cell? ⟨gb321, 2, none⟩ = some (.string t305) := (blk_cell BK321.out 2).trans rfl
          have hcz49_3 : w24.cell? ⟨gb321, 3, none⟩ = some (.slice Ao15 t306.length co15) := (blk_cell BK321.out 3).trans rfl
          have hfz49_0 := blk_frozen BK321.out 0
          have hfz49_1 := blk_frozen BK321.out 1
          have hfz49_2 := blk_frozen BK321.out 2
          have hfz49_3 := blk_frozen BK321.out 3
          have hnb50 := NB322_323.out
          have hnc50 := NB323_322.out
          have hcz51_0 : w24.cell? ⟨gb322, 0, none⟩ = some (.int .i64 t309) := (blk_cell BK322.out 0).trans rfl
          have hcz51_1 : w24.cell? ⟨gb322, 1, none⟩ = some (.int .i64 t310) := (blk_cell BK322.out 1).trans rfl
          have hcz51_2 : w24.cell? ⟨gb322, 2, none⟩ = some (.string t311) := (blk_cell BK322.out 2).trans rfl
          have hcz51_3 : w24.cell? ⟨gb322, 3, none⟩ = some (.slice Ao18 t312.length co18) := (blk_cell BK322.out 3).trans rfl
          have hfz51_0 := blk_frozen BK322.out 0
          have hfz51_1 := blk_frozen BK322.out 1
          have hfz51_2 := blk_frozen BK322.out 2
          have hfz51_3 := blk_frozen BK322.out 3
          go_wp2_with (first | (go_at_call 7; (with_reducible refine (impl_SameTerm.calls k t303 t304 t305 _ _ t306 t309 t310 t311 _ _ t312 t328 _ ?side1 ?side2 ?side3 ?side4 A45.out).mono ?_); (case side1 => repeat (first | exact (Kd.N_reads' HO308.out).2.2 | (with_reducible refine Kd.C_alloc ?_ _) | (with_reducible refine Kd.C_drewN ?_ _) | (with_reducible refine Kd.C_drew ?_))); (case side2 => exact (Kd.N_reads' HO308.out).2.1); (case side3 => repeat (first | exact (Kd.N_reads' HO314.out).2.2 | (with_reducible refine Kd.C_alloc ?_ _) | (with_reducible refine Kd.C_drewN ?_ _) | (with_reducible refine Kd.C_drew ?_))); (case side4 => exact (Kd.N_reads' HO314.out).2.1); rintro e w52 ⟨rfl, hb⟩; have n0_ := Aside0.mk (Kd.N_below (by (with_reducible repeat (first | apply Kd.N_alloc | apply Kd.N_drewN | apply Kd.N_drew)); exact HO308.out) hb); have n1_ := Aside0.mk (Kd.N_below (by (with_reducible repeat (first | apply Kd.N_alloc | apply Kd.N_drewN | apply Kd.N_drew)); exact HO314.out) hb); have n2_ := Aside0.mk (Kd.N_below (by (with_reducible repeat (first | apply Kd.N_alloc | apply Kd.N_drewN | apply Kd.N_drew)); exact HO320.out) hb); have n3_ := Aside0.mk (blk_below (g := gb321) (o := .cells #[.int .i64 t303, .int .i64 t304, .string t305, .slice Ao15 t306.length co15] 26 (0, 0)) (by (with_reducible repeat (first | refine blk_drewN ?_ _ | refine blk_drew ?_ | refine blk_alloc ?_ _)); exact BK321.out) hb); have n4_ := Aside0.mk (blk_below (g := gb322) (o := .cells #[.int .i64 t309, .int .i64 t310, .string t311, .slice Ao18 t312.length co18] 26 (0, 0)) (by (with_reducible repeat (first | refine blk_drewN ?_ _ | refine blk_drew ?_ | refine blk_alloc ?_ _)); exact BK322.out) hb); have n5_ := Aside0.mk (blk_below (g := gb323) (o := .cells #[.int .i64 t315, .int .i64 t316, .string t317, .slice Ao20 t318.length co20] 26 (0, 0)) (by (with_reducible repeat (first | refine blk_drewN ?_ _ | refine blk_drew ?_ | refine blk_alloc ?_ _)); exact BK323.out) hb); have n6_ := Aside0.mk (below_step (by repeat (first | (with_reducible first | exact HB.out | apply below_alloc | apply pw_below_drewN | apply below_drew1 | refine below_set ?_ GE321.out | refine below_set ?_ GE322.out | refine below_set ?_ GE323.out) | exact HB.out)) hb); clear HO308; clear HO314; clear HO320; clear BK321; clear BK322; clear BK323; clear HB; have HO308 := n0_; have HO314 := n1_; have HO320 := n2_; have BK321 := n3_; have BK322 := n4_; have BK323 := n5_; have HB := n6_; clear n0_ n1_ n2_ n3_ n4_ n5_ n6_; (try clear hb); (try clear hb2); (try clear hk); (try clear hi)))
          go_meet
          case rel => exact ⟨_, (true), (by first | rfl | (simp; done) | (simp [*]; done)), H', ⟨by first | omega | exact Nat.le_refl _⟩, ⟨by (with_reducible repeat (first | apply Kd.N_alloc | apply Kd.N_drewN | apply Kd.N_drew)); exact Kd.N_mono HO308.out (fun _ hk => ⟨hk.1.1.1.1, ⟨hk.1.1.1.2, ⟨hk.1.1.2, ⟨hk.1.2, hk.2⟩⟩⟩⟩)⟩, ⟨by (with_reducible repeat (first | apply Kd.N_alloc | apply Kd.N_drewN | apply Kd.N_drew)); exact Kd.N_mono HO314.out (fun _ hk => ⟨hk.1.1.1.1, ⟨hk.1.1.1.2, ⟨hk.1.1.2, ⟨hk.1.2, hk.2⟩⟩⟩⟩)⟩, ⟨by (with_reducible repeat (first | apply Kd.N_alloc | apply Kd.N_drewN | apply Kd.N_drew)); exact Kd.N_mono HO320.out (fun _ hk => ⟨hk.1.1.1.1, ⟨hk.1.1.1.2, ⟨hk.1.1.2, ⟨hk.1.2, hk.2⟩⟩⟩⟩)⟩, ⟨by (with_reducible repeat (first | refine blk_drewN ?_ _ | refine blk_drew ?_ | refine blk_alloc ?_ _)); exact BK321.out⟩, ⟨by (with_reducible repeat (first | refine blk_drewN ?_ _ | refine blk_drew ?_ | refine blk_alloc ?_ _)); exact BK322.out⟩, ⟨by (with_reducible repeat (first | refine blk_drewN ?_ _ | refine blk_drew ?_ | refine blk_alloc ?_ _)); exact BK323.out⟩, ⟨by repeat (first | (with_reducible first | exact HB.out | apply below_alloc | apply pw_below_drewN | apply below_drew1 | refine below_set ?_ GE321.out | refine below_set ?_ GE322.out | refine below_set ?_ GE323.out) | exact HB.out)⟩⟩
        · rw [if_neg c46] at H
          have c46b0 : (t325 == t328) = false := by simpa using c46
          (try (have c46b1 : decide (t325 = t328) = false := by simpa using c46))
          (try (have c46b2 : (t325 == t328) = false := by simpa using c46))
          (try (have c46b3 : ¬ (t325 = t328) := by simpa using c46))
          clear c46
          replace H := Option.bind_eq_some_iff.mp H
          obtain ⟨t329, A530, H⟩ := H
          replace H : (laws_FnOrder.j0 k false (false != t329) t303 t304 t305 t306 t309 t310 t311 t312 t315 t316 t317 t318) = some r := H
          have A53 := Aside0.mk A530
          clear A530
          have H' := Aside0.mk H
          clear H
          have hnb54 := NB321_322.out
          have hnc54 := NB322_321.out
          have hnb55 := NB321_323.out
          have hnc55 := NB323_321.out
          have hcz56_0 : w24.cell? ⟨gb321, 0, none⟩ = some (.int .i64 t303) := (blk_cell BK321.out 0).trans rfl
          have hcz56_1 : w24.cell? ⟨gb321, 1, none⟩ = some (.int .i64 t304) := (blk_cell BK321.out 1).trans rfl
          have hcz56_2 : w24.cell? ⟨gb321, 2, none⟩ = some (.string t305) := (blk_cell BK321.out 2).trans rfl
          have hcz56_3 : w24.cell? ⟨gb321, 3, none⟩ = some (.slice Ao15 t306.length co15) := (blk_cell BK321.out 3).trans rfl
          have hfz56_0 := blk_frozen BK321.out 0
          have hfz56_1 := blk_frozen BK321.out 1
          have hfz56_2 := blk_frozen BK321.out 2
          have hfz56_3 := blk_frozen BK321.out 3
          have hnb57 := NB322_323.out
          have hnc57 := NB323_322.out
          have hcz58_0 : w24.cell? ⟨gb322, 0, none⟩ = some (.int .i64 t309) := (blk_cell BK322.out 0).trans rfl
          have hcz58_1 : w24.cell? ⟨gb322, 1, none⟩ = some (.int .i64 t310) := (blk_cell BK322.out 1).trans rfl
          have hcz58_2 : w24.cell? ⟨gb322, 2, none⟩ = some (.string t311) := (blk_cell BK322.out 2).trans rfl
          have hcz58_3 : w24.cell? ⟨gb322, 3, none⟩ = some (.slice Ao18 t312.length co18) := (blk_cell BK322.out 3).trans rfl
          have hfz58_0 := blk_frozen BK322.out 0
          have hfz58_1 := blk_frozen BK322.out 1
          have hfz58_2 := blk_frozen BK322.out 2
          have hfz58_3 := blk_frozen BK322.out 3
          go_wp2_with (first | (go_at_call 7; (with_reducible refine (impl_SameTerm.calls k t303 t304 t305 _ _ t306 t309 t310 t311 _ _ t312 t328 _ ?side1 ?side2 ?side3 ?side4 A45.out).mono ?_); (case side1 => repeat (first | exact (Kd.N_reads' HO308.out).2.2 | (with_reducible refine Kd.C_alloc ?_ _) | (with_reducible refine Kd.C_drewN ?_ _) | (with_reducible refine Kd.C_drew ?_))); (case side2 => exact (Kd.N_reads' HO308.out).2.1); (case side3 => repeat (first | exact (Kd.N_reads' HO314.out).2.2 | (with_reducible refine Kd.C_alloc ?_ _) | (with_reducible refine Kd.C_drewN ?_ _) | (with_reducible refine Kd.C_drew ?_))); (case side4 => exact (Kd.N_reads' HO314.out).2.1); rintro e w59 ⟨rfl, hb⟩; have n0_ := Aside0.mk (Kd.N_below (by (with_reducible repeat (first | apply Kd.N_alloc | apply Kd.N_drewN | apply Kd.N_drew)); exact HO308.out) hb); have n1_ := Aside0.mk (Kd.N_below (by (with_reducible repeat (first | apply Kd.N_alloc | apply Kd.N_drewN | apply Kd.N_drew)); exact HO314.out) hb); have n2_ := Aside0.mk (Kd.N_below (by (with_reducible repeat (first | apply Kd.N_alloc | apply Kd.N_drewN | apply Kd.N_drew)); exact HO320.out) hb); have n3_ := Aside0.mk (blk_below (g := gb321) (o := .cells #[.int .i64 t303, .int .i64 t304, .string t305, .slice Ao15 t306.length co15] 26 (0, 0)) (by (with_reducible repeat (first | refine blk_drewN ?_ _ | refine blk_drew ?_ | refine blk_alloc ?_ _)); exact BK321.out) hb); have n4_ := Aside0.mk (blk_below (g := gb322) (o := .cells #[.int .i64 t309, .int .i64 t310, .string t311, .slice Ao18 t312.length co18] 26 (0, 0)) (by (with_reducible repeat (first | refine blk_drewN ?_ _ | refine blk_drew ?_ | refine blk_alloc ?_ _)); exact BK322.out) hb); have n5_ := Aside0.mk (blk_below (g := gb323) (o := .cells #[.int .i64 t315, .int .i64 t316, .string t317, .slice Ao20 t318.length co20] 26 (0, 0)) (by (with_reducible repeat (first | refine blk_drewN ?_ _ | refine blk_drew ?_ | refine blk_alloc ?_ _)); exact BK323.out) hb); have n6_ := Aside0.mk (below_step (by repeat (first | (with_reducible first | exact HB.out | apply below_alloc | apply pw_below_drewN | apply below_drew1 | refine below_set ?_ GE321.out | refine below_set ?_ GE322.out | refine below_set ?_ GE323.out) | exact HB.out)) hb); clear HO308; clear HO314; clear HO320; clear BK321; clear BK322; clear BK323; clear HB; have HO308 := n0_; have HO314 := n1_; have HO320 := n2_; have BK321 := n3_; have BK322 := n4_; have BK323 := n5_; have HB := n6_; clear n0_ n1_ n2_ n3_ n4_ n5_ n6_; (try clear hb); (try clear hb2); (try clear hk); (try clear hi); have hcz60_0 : w59.cell? ⟨gb321, 0, none⟩ = some (.int .i64 t303) := (blk_cell BK321.out 0).trans rfl; have hcz60_1 : w59.cell? ⟨gb321, 1, none⟩ = some (.int .i64 t304) := (blk_cell BK321.out 1).trans rfl; have hcz60_2 : w59.cell? ⟨gb321, 2, none⟩ = some (.string t305) := (blk_cell BK321.out 2).trans rfl; have hcz60_3 : w59.cell? ⟨gb321, 3, none⟩ = some (.slice Ao15 t306.length co15) := (blk_cell BK321.out 3).trans rfl; have hfz60_0 := blk_frozen BK321.out 0; have hfz60_1 := blk_frozen BK321.out 1; have hfz60_2 := blk_frozen BK321.out 2; have hfz60_3 := blk_frozen BK321.out 3; have hcz61_0 : w59.cell? ⟨gb322, 0, none⟩ = some (.int .i64 t309) := (blk_cell BK322.out 0).trans rfl; have hcz61_1 : w59.cell? ⟨gb322, 1, none⟩ = some (.int .i64 t310) := (blk_cell BK322.out 1).trans rfl; have hcz61_2 : w59.cell? ⟨gb322, 2, none⟩ = some (.string t311) := (blk_cell BK322.out 2).trans rfl; have hcz61_3 : w59.cell? ⟨gb322, 3, none⟩ = some (.slice Ao18 t312.length co18) := (blk_cell BK322.out 3).trans rfl; have hfz61_0 := blk_frozen BK322.out 0; have hfz61_1 := blk_frozen BK322.out 1; have hfz61_2 := blk_frozen BK322.out 2; have hfz61_3 := blk_frozen BK322.out 3) | (go_at_call 8; (with_reducible refine (spec_LessTerm.calls k t303 t304 t305 _ _ t306 t309 t310 t311 _ _ t312 t329 _ ?side1 ?side2 ?side3 ?side4 A53.out).mono ?_); (case side1 => repeat (first | exact (Kd.N_reads' HO308.out).2.2 | (with_reducible refine Kd.C_alloc ?_ _) | (with_reducible refine Kd.C_drewN ?_ _) | (with_reducible refine Kd.C_drew ?_))); (case side2 => exact (Kd.N_reads' HO308.out).2.1); (case side3 => repeat (first | exact (Kd.N_reads' HO314.out).2.2 | (with_reducible refine Kd.C_alloc ?_ _) | (with_reducible refine Kd.C_drewN ?_ _) | (with_reducible refine Kd.C_drew ?_))); (case side4 => exact (Kd.N_reads' HO314.out).2.1); rintro e w62 ⟨rfl, hb⟩; have n0_ := Aside0.mk (Kd.N_below (by (with_reducible repeat (first | apply Kd.N_alloc | apply Kd.N_drewN | apply Kd.N_drew)); exact HO308.out) hb); have n1_ := Aside0.mk (Kd.N_below (by (with_reducible repeat (first | apply Kd.N_alloc | apply Kd.N_drewN | apply Kd.N_drew)); exact HO314.out) hb); have n2_ := Aside0.mk (Kd.N_below (by (with_reducible repeat (first | apply Kd.N_alloc | apply Kd.N_drewN | apply Kd.N_drew)); exact HO320.out) hb); have n3_ := Aside0.mk (blk_below (g := gb321) (o := .cells #[.int .i64 t303, .int .i64 t304, .string t305, .slice Ao15 t306.length co15] 26 (0, 0)) (by (with_reducible repeat (first | refine blk_drewN ?_ _ | refine blk_drew ?_ | refine blk_alloc ?_ _)); exact BK321.out) hb); have n4_ := Aside0.mk (blk_below (g := gb322) (o := .cells #[.int .i64 t309, .int .i64 t310, .string t311, .slice Ao18 t312.length co18] 26 (0, 0)) (by (with_reducible repeat (first | refine blk_drewN ?_ _ | refine blk_drew ?_ | refine blk_alloc ?_ _)); exact BK322.out) hb); have n5_ := Aside0.mk (blk_below (g := gb323) (o := .cells #[.int .i64 t315, .int .i64 t316, .string t317, .slice Ao20 t318.length co20] 26 (0, 0)) (by (with_reducible repeat (first | refine blk_drewN ?_ _ | refine blk_drew ?_ | refine blk_alloc ?_ _)); exact BK323.out) hb); have n6_ := Aside0.mk (below_step (by repeat (first | (with_reducible first | exact HB.out | apply below_alloc | apply pw_below_drewN | apply below_drew1 | refine below_set ?_ GE321.out | refine below_set ?_ GE322.out | refine below_set ?_ GE323.out) | exact HB.out)) hb); clear HO308; clear HO314; clear HO320; clear BK321; clear BK322; clear BK323; clear HB; have HO308 := n0_; have HO314 := n1_; have HO320 := n2_; have BK321 := n3_; have BK322 := n4_; have BK323 := n5_; have HB := n6_; clear n0_ n1_ n2_ n3_ n4_ n5_ n6_; (try clear hb); (try clear hb2); (try clear hk); (try clear hi)))
          go_meet
          case rel => exact ⟨_, ((false != t329)), (by first | rfl | (simp; done) | (simp [*]; done)), H', ⟨by first | omega | exact Nat.le_refl _⟩, ⟨by (with_reducible repeat (first | apply Kd.N_alloc | apply Kd.N_drewN | apply Kd.N_drew)); exact Kd.N_mono HO308.out (fun _ hk => ⟨hk.1.1.1.1, ⟨hk.1.1.1.2, ⟨hk.1.1.2, ⟨hk.1.2, hk.2⟩⟩⟩⟩)⟩, ⟨by (with_reducible repeat (first | apply Kd.N_alloc | apply Kd.N_drewN | apply Kd.N_drew)); exact Kd.N_mono HO314.out (fun _ hk => ⟨hk.1.1.1.1, ⟨hk.1.1.1.2, ⟨hk.1.1.2, ⟨hk.1.2, hk.2⟩⟩⟩⟩)⟩, ⟨by (with_reducible repeat (first | apply Kd.N_alloc | apply Kd.N_drewN | apply Kd.N_drew)); exact Kd.N_mono HO320.out (fun _ hk => ⟨hk.1.1.1.1, ⟨hk.1.1.1.2, ⟨hk.1.1.2, ⟨hk.1.2, hk.2⟩⟩⟩⟩)⟩, ⟨by (with_reducible repeat (first | refine blk_drewN ?_ _ | refine blk_drew ?_ | refine blk_alloc ?_ _)); exact BK321.out⟩, ⟨by (with_reducible repeat (first | refine blk_drewN ?_ _ | refine blk_drew ?_ | refine blk_alloc ?_ _)); exact BK322.out⟩, ⟨by (with_reducible repeat (first | refine blk_drewN ?_ _ | refine blk_drew ?_ | refine blk_alloc ?_ _)); exact BK323.out⟩, ⟨by repeat (first | (with_reducible first | exact HB.out | apply below_alloc | apply pw_below_drewN | apply below_drew1 | refine below_set ?_ GE321.out | refine below_set ?_ GE322.out | refine below_set ?_ GE323.out) | exact HB.out)⟩⟩
    case rest =>
      clear HC7
      try clear c1
      try clear c2
      try clear p2
      try clear c3
      try clear c4
      try clear c5
      try clear c6
      try clear c12
      try clear c13
      try clear c16
      try clear c25
      try clear c26
      try clear c28
      try clear c28b0
      try clear c28b1
      try clear c28b2
      try clear c29
      try clear c30
      try clear c32
      try clear c36
      try clear c37
      try clear c39
      try clear c46
      try clear c46b0
      try clear c46b1
      try clear c46b2
      try clear c47
      try clear c48
      try clear c50
      try clear c54
      try clear c55
      try clear c57
      try clear hcz14_0
      try clear hcz14_1
      try clear hcz14_2
      try clear hcz14_3
      try clear hcz17_0
      try clear hcz17_1
      try clear hcz17_2
      try clear hcz17_3
      try clear hcz19_0
      try clear hcz19_1
      try clear hcz19_2
      try clear hcz19_3
      try clear hcz22_0
      try clear hcz22_1
      try clear hcz22_2
      try clear hcz22_3
      try clear hcz23_0
      try clear hcz23_1
      try clear hcz23_2
      try clear hcz23_3
      try clear hcz31_0
      try clear hcz31_1
      try clear hcz31_2
      try clear hcz31_3
      try clear hcz33_0
      try clear hcz33_1
      try clear hcz33_2
      try clear hcz33_3
      try clear hcz38_0
      try clear hcz38_1
      try clear hcz38_2
      try clear hcz38_3
      try clear hcz40_0
      try clear hcz40_1
      try clear hcz40_2
      try clear hcz40_3
      try clear hcz42_0
      try clear hcz42_1
      try clear hcz42_2
      try clear hcz42_3
      try clear hcz43_0
      try clear hcz43_1
      try clear hcz43_2
      try clear hcz43_3
      try clear hcz49_0
      try clear hcz49_1
      try clear hcz49_2
      try clear hcz49_3
      try clear hcz51_0
      try clear hcz51_1
      try clear hcz51_2
      try clear hcz51_3
      try clear hcz56_0
      try clear hcz56_1
      try clear hcz56_2
      try clear hcz56_3
      try clear hcz58_0
      try clear hcz58_1
      try clear hcz58_2
      try clear hcz58_3
      try clear hcz60_0
      try clear hcz60_1
      try clear hcz60_2
      try clear hcz60_3
      try clear hcz61_0
      try clear hcz61_1
      try clear hcz61_2
      try clear hcz61_3
      try clear hfz14_0
      try clear hfz14_1
      try clear hfz14_2
      try clear hfz14_3
      try clear hfz17_0
      try clear hfz17_1
      try clear hfz17_2
      try clear hfz17_3
      try clear hfz19_0
      try clear hfz19_1
      try clear hfz19_2
      try clear hfz19_3
      try clear hfz22_0
      try clear hfz22_1
      try clear hfz22_2
      try clear hfz22_3
      try clear hfz23_0
      try clear hfz23_1
      try clear hfz23_2
      try clear hfz23_3
      try clear hfz31_0
      try clear hfz31_1
      try clear hfz31_2
      try clear hfz31_3
      try clear hfz33_0
      try clear hfz33_1
      try clear hfz33_2
      try clear hfz33_3
      try clear hfz38_0
      try clear hfz38_1
      try clear hfz38_2
      try clear hfz38_3
      try clear hfz40_0
      try clear hfz40_1
      try clear hfz40_2
      try clear hfz40_3
      try clear hfz42_0
      try clear hfz42_1
      try clear hfz42_2
      try clear hfz42_3
      try clear hfz43_0
      try clear hfz43_1
      try clear hfz43_2
      try clear hfz43_3
      try clear hfz49_0
      try clear hfz49_1
      try clear hfz49_2
      try clear hfz49_3
      try clear hfz51_0
      try clear hfz51_1
      try clear hfz51_2
      try clear hfz51_3
      try clear hfz56_0
      try clear hfz56_1
      try clear hfz56_2
      try clear hfz56_3
      try clear hfz58_0
      try clear hfz58_1
      try clear hfz58_2
      try clear hfz58_3
      try clear hfz60_0
      try clear hfz60_1
      try clear hfz60_2
      try clear hfz60_3
      try clear hfz61_0
      try clear hfz61_1
      try clear hfz61_2
      try clear hfz61_3
      try clear HO_322003
      try clear HO_323003
      try clear HO_324003
      try clear BK321
      try clear BK322
      try clear BK323
      try clear HB
      obtain ⟨kq, x42_6, rfl, HA, HJ6, HO_322003, HO_323003, HO_324003, BK321, BK322, BK323, HB⟩ := hcut
      cases kq with
      | zero => exact absurd HA.out (by simp [laws_FnOrder.j0])
      | succ kj6 =>
        have H := HA.out
        clear HA
        simp only [laws_FnOrder.j0] at H
        by_cases c63 : x42_6 = true
        · subst c63
          have H1 : (some false) = some r := by rw [if_pos rfl] at H; exact H
          clear H
          have H := H1
          clear H1
          obtain rfl := Option.some.inj H
          go_wp2
          go_ret
          exact ⟨by first | rfl | (simp [errW_none, errW_some] <;> rfl) | (simp [*, errW_none, errW_some] <;> rfl) | (rw [isEmpty_ne]; first | done | rfl) | (rw [isEmpty_be]; first | done | rfl), by repeat (first | (with_reducible first | exact HB.out | apply below_alloc | apply pw_below_drewN | apply below_drew1 | refine below_set ?_ GE321.out | refine below_set ?_ GE322.out | refine below_set ?_ GE323.out) | exact HB.out)⟩
        · replace c63 := Bool.eq_false_iff.mpr c63
          subst c63
          have H1 : (if t324 = true then ((impl_LessTerm.f kj6 t309 t310 t311 t312 t315 t316 t317 t318).bind fun t330 => (if t330 = true then ((impl_LessTerm.f kj6 t303 t304 t305 t306 t315 t316 t317 t318).bind fun t331 => (some t331)) else (some true))) else (some true)) = some r := by rw [if_neg (show ¬ (false = true) by decide)] at H; exact H
          clear H
          have H := H1
          clear H1
          by_cases c64 : t324 = true
          · subst c64
            have H1 : ((impl_LessTerm.f kj6 t309 t310 t311 t312 t315 t316 t317 t318).bind fun t330 => (if t330 = true then ((impl_LessTerm.f kj6 t303 t304 t305 t306 t315 t316 t317 t318).bind fun t331 => (some t331)) else (some true))) = some r := by rw [if_pos rfl] at H; exact H
            clear H
            have H := H1
            clear H1
            replace H := Option.bind_eq_some_iff.mp H
            obtain ⟨t330, A650, H⟩ := H
            replace H : (if t330 = true then ((impl_LessTerm.f kj6 t303 t304 t305 t306 t315 t316 t317 t318).bind fun t331 => (some t331)) else (some true)) = some r := H
            have A65 := Aside0.mk A650
            clear A650
            by_cases c66 : t330 = true
            · subst c66
              have H1 : ((impl_LessTerm.f kj6 t303 t304 t305 t306 t315 t316 t317 t318).bind fun t331 => (some t331)) = some r := by rw [if_pos rfl] at H; exact H
              clear H
              have H := H1
              clear H1
              replace H := Option.bind_eq_some_iff.mp H
              obtain ⟨t331, A670, H⟩ := H
              replace H : (some t331) = some r := H
              have A67 := Aside0.mk A670
              clear A670
              obtain rfl := Option.some.inj H
              have hnb68 := NB322_321.out
              have hnc68 := NB321_322.out
              have hnb69 := NB322_323.out
              have hnc69 := NB323_322.out
              have hcz70_0 : wc.cell? ⟨gb322, 0, none⟩ = some (.int .i64 t309) := (blk_cell BK322.out 0).trans rfl
              have hcz70_1 : wc.cell? ⟨gb322, 1, none⟩ = some (.int .i64 t310) := (blk_cell BK322.out 1).trans rfl
              have hcz70_2 : wc.cell? ⟨gb322, 2, none⟩ = some (.string t311) := (blk_cell BK322.out 2).trans rfl
              have hcz70_3 : wc.cell? ⟨gb322, 3, none⟩ = some (.slice Ao18 t312.length co18) := (blk_cell BK322.out 3).trans rfl
              have hfz70_0 := blk_frozen BK322.out 0
              have hfz70_1 := blk_frozen BK322.out 1
              have hfz70_2 := blk_frozen BK322.out 2
              have hfz70_3 := blk_frozen BK322.out 3
              have hnb71 := NB323_321.out
              have hnc71 := NB321_323.out
              have hcz72_0 : wc.cell? ⟨gb323, 0, none⟩ = some (.int .i64 t315) := (blk_cell BK323.out 0).trans rfl
              have hcz72_1 : wc.cell? ⟨gb323, 1, none⟩ = some (.int .i64 t316) := (blk_cell BK323.out 1).trans rfl
              have hcz72_2 : wc.cell? ⟨gb323, 2, none⟩ = some (.string t317) := (blk_cell BK323.out 2).trans rfl
              have hcz72_3 : wc.cell? ⟨gb323, 3, none⟩ = some (.slice Ao20 t318.length co20) := (blk_cell BK323.out 3).trans rfl
              have hfz72_0 := blk_frozen BK323.out 0
              have hfz72_1 := blk_frozen BK323.out 1
              have hfz72_2 := blk_frozen BK323.out 2
              have hfz72_3 := blk_frozen BK323.out 3
              go_wp2_with (first | (go_at_call 6; (with_reducible refine (impl_LessTerm.calls kj6 t309 t310 t311 _ _ t312 t315 t316 t317 _ _ t318 true _ ?side1 ?side2 ?side3 ?side4 A65.out).mono ?_); (case side1 => repeat (first | exact (Kd.N_reads' HO_323003.out).2.2 | (with_reducible refine Kd.C_alloc ?_ _) | (with_reducible refine Kd.C_drewN ?_ _) | (with_reducible refine Kd.C_drew ?_))); (case side2 => exact (Kd.N_reads' HO_323003.out).2.1); (case side3 => repeat (first | exact (Kd.N_reads' HO_324003.out).2.2 | (with_reducible refine Kd.C_alloc ?_ _) | (with_reducible refine Kd.C_drewN ?_ _) | (with_reducible refine Kd.C_drew ?_))); (case side4 => exact (Kd.N_reads' HO_324003.out).2.1); rintro e w73 ⟨rfl, hb⟩; have n0_ := Aside0.mk (Kd.N_below (by (with_reducible repeat (first | apply Kd.N_alloc | apply Kd.N_drewN | apply Kd.N_drew)); exact HO_322003.out) hb); have n1_ := Aside0.mk (Kd.N_below (by (with_reducible repeat (first | apply Kd.N_alloc | apply Kd.N_drewN | apply Kd.N_drew)); exact HO_323003.out) hb); have n2_ := Aside0.mk (Kd.N_below (by (with_reducible repeat (first | apply Kd.N_alloc | apply Kd.N_drewN | apply Kd.N_drew)); exact HO_324003.out) hb); have n3_ := Aside0.mk (blk_below (g := gb321) (o := .cells #[.int .i64 t303, .int .i64 t304, .string t305, .slice Ao15 t306.length co15] 26 (0, 0)) (by (with_reducible repeat (first | refine blk_drewN ?_ _ | refine blk_drew ?_ | refine blk_alloc ?_ _)); exact BK321.out) hb); have n4_ := Aside0.mk (blk_below (g := gb322) (o := .cells #[.int .i64 t309, .int .i64 t310, .string t311, .slice Ao18 t312.length co18] 26 (0, 0)) (by (with_reducible repeat (first | refine blk_drewN ?_ _ | refine blk_drew ?_ | refine blk_alloc ?_ _)); exact BK322.out) hb); have n5_ := Aside0.mk (blk_below (g := gb323) (o := .cells #[.int .i64 t315, .int .i64 t316, .string t317, .slice Ao20 t318.length co20] 26 (0, 0)) (by (with_reducible repeat (first | refine blk_drewN ?_ _ | refine blk_drew ?_ | refine blk_alloc ?_ _)); exact BK323.out) hb); have n6_ := Aside0.mk (below_step (by repeat (first | (with_reducible first | exact HB.out | apply below_alloc | apply pw_below_drewN | apply below_drew1 | refine below_set ?_ GE321.out | refine below_set ?_ GE322.out | refine below_set ?_ GE323.out) | exact HB.out)) hb); clear HO_322003; clear HO_323003; clear HO_324003; clear BK321; clear BK322; clear BK323; clear HB; have HO_322003 := n0_; have HO_323003 := n1_; have HO_324003 := n2_; have BK321 := n3_; have BK322 := n4_; have BK323 := n5_; have HB := n6_; clear n0_ n1_ n2_ n3_ n4_ n5_ n6_; (try clear hb); (try clear hb2); (try clear hk); (try clear hi); have hcz74_0 : w73.cell? ⟨gb321, 0, none⟩ = some (.int .i64 t303) := (blk_cell BK321.out 0).trans rfl; have hcz74_1 : w73.cell? ⟨gb321, 1, none⟩ = some (.int .i64 t304) := (blk_cell BK321.out 1).trans rfl; have hcz74_2 : w73.cell? ⟨gb321, 2, none⟩ = some (.string t305) := (blk_cell BK321.out 2).trans rfl; have hcz74_3 : w73.cell? ⟨gb321, 3, none⟩ = some (.slice Ao15 t306.length co15) := (blk_cell BK321.out 3).trans rfl; have hfz74_0 := blk_frozen BK321.out 0; have hfz74_1 := blk_frozen BK321.out 1; have hfz74_2 := blk_frozen BK321.out 2; have hfz74_3 := blk_frozen BK321.out 3; have hcz75_0 : w73.cell? ⟨gb323, 0, none⟩ = some (.int .i64 t315) := (blk_cell BK323.out 0).trans rfl; have hcz75_1 : w73.cell? ⟨gb323, 1, none⟩ = some (.int .i64 t316) := (blk_cell BK323.out 1).trans rfl; have hcz75_2 : w73.cell? ⟨gb323, 2, none⟩ = some (.string t317) := (blk_cell BK323.out 2).trans rfl; have hcz75_3 : w73.cell? ⟨gb323, 3, none⟩ = some (.slice Ao20 t318.length co20) := (blk_cell BK323.out 3).trans rfl; have hfz75_0 := blk_frozen BK323.out 0; have hfz75_1 := blk_frozen BK323.out 1; have hfz75_2 := blk_frozen BK323.out 2; have hfz75_3 := blk_frozen BK323.out 3) | (go_at_call 6; (with_reducible refine (impl_LessTerm.calls kj6 t303 t304 t305 _ _ t306 t315 t316 t317 _ _ t318 t331 _ ?side1 ?side2 ?side3 ?side4 A67.out).mono ?_); (case side1 => repeat (first | exact (Kd.N_reads' HO_322003.out).2.2 | (with_reducible refine Kd.C_alloc ?_ _) | (with_reducible refine Kd.C_drewN ?_ _) | (with_reducible refine Kd.C_drew ?_))); (case side2 => exact (Kd.N_reads' HO_322003.out).2.1); (case side3 => repeat (first | exact (Kd.N_reads' HO_324003.out).2.2 | (with_reducible refine Kd.C_alloc ?_ _) | (with_reducible refine Kd.C_drewN ?_ _) | (with_reducible refine Kd.C_drew ?_))); (case side4 => exact (Kd.N_reads' HO_324003.out).2.1); rintro e w76 ⟨rfl, hb⟩; have n0_ := Aside0.mk (Kd.N_below (by (with_reducible repeat (first | apply Kd.N_alloc | apply Kd.N_drewN | apply Kd.N_drew)); exact HO_322003.out) hb); have n1_ := Aside0.mk (Kd.N_below (by (with_reducible repeat (first | apply Kd.N_alloc | apply Kd.N_drewN | apply Kd.N_drew)); exact HO_323003.out) hb); have n2_ := Aside0.mk (Kd.N_below (by (with_reducible repeat (first | apply Kd.N_alloc | apply Kd.N_drewN | apply Kd.N_drew)); exact HO_324003.out) hb); have n3_ := Aside0.mk (blk_below (g := gb321) (o := .cells #[.int .i64 t303, .int .i64 t304, .string t305, .slice Ao15 t306.length co15] 26 (0, 0)) (by (with_reducible repeat (first | refine blk_drewN ?_ _ | refine blk_drew ?_ | refine blk_alloc ?_ _)); exact BK321.out) hb); have n4_ := Aside0.mk (blk_below (g := gb322) (o := .cells #[.int .i64 t309, .int .i64 t310, .string t311, .slice Ao18 t312.length co18] 26 (0, 0)) (by (with_reducible repeat (first | refine blk_drewN ?_ _ | refine blk_drew ?_ | refine blk_alloc ?_ _)); exact BK322.out) hb); have n5_ := Aside0.mk (blk_below (g := gb323) (o := .cells #[.int .i64 t315, .int .i64 t316, .string t317, .slice Ao20 t318.length co20] 26 (0, 0)) (by (with_reducible repeat (first | refine blk_drewN ?_ _ | refine blk_drew ?_ | refine blk_alloc ?_ _)); exact BK323.out) hb); have n6_ := Aside0.mk (below_step (by repeat (first | (with_reducible first | exact HB.out | apply below_alloc | apply pw_below_drewN | apply below_drew1 | refine below_set ?_ GE321.out | refine below_set ?_ GE322.out | refine below_set ?_ GE323.out) | exact HB.out)) hb); clear HO_322003; clear HO_323003; clear HO_324003; clear BK321; clear BK322; clear BK323; clear HB; have HO_322003 := n0_; have HO_323003 := n1_; have HO_324003 := n2_; have BK321 := n3_; have BK322 := n4_; have BK323 := n5_; have HB := n6_; clear n0_ n1_ n2_ n3_ n4_ n5_ n6_; (try clear hb); (try clear hb2); (try clear hk); (try clear hi)))
              go_ret
              exact ⟨by first | rfl | (simp [errW_none, errW_some] <;> rfl) | (simp [*, errW_none, errW_some] <;> rfl) | (rw [isEmpty_ne]; first | done | rfl) | (rw [isEmpty_be]; first | done | rfl), by repeat (first | (with_reducible first | exact HB.out | apply below_alloc | apply pw_below_drewN | apply below_drew1 | refine below_set ?_ GE321.out | refine below_set ?_ GE322.out | refine below_set ?_ GE323.out) | exact HB.out)⟩
            · replace c66 := Bool.eq_false_iff.mpr c66
              subst c66
              have H1 : (some true) = some r := by rw [if_neg (show ¬ (false = true) by decide)] at H; exact H
              clear H
              have H := H1
              clear H1
              obtain rfl := Option.some.inj H
              have hnb77 := NB322_321.out
              have hnc77 := NB321_322.out
              have hnb78 := NB322_323.out
              have hnc78 := NB323_322.out
              have hcz79_0 : wc.cell? ⟨gb322, 0, none⟩ = some (.int .i64 t309) := (blk_cell BK322.out 0).trans rfl
              have hcz79_1 : wc.cell? ⟨gb322, 1, none⟩ = some (.int .i64 t310) := (blk_cell BK322.out 1).trans rfl
              have hcz79_2 : wc.cell? ⟨gb322, 2, none⟩ = some (.string t311) := (blk_cell BK322.out 2).trans rfl
              have hcz79_3 : wc.cell? ⟨gb322, 3, none⟩ = some (.slice Ao18 t312.length co18) := (blk_cell BK322.out 3).trans rfl
              have hfz79_0 := blk_frozen BK322.out 0
              have hfz79_1 := blk_frozen BK322.out 1
              have hfz79_2 := blk_frozen BK322.out 2
              have hfz79_3 := blk_frozen BK322.out 3
              have hnb80 := NB323_321.out
              have hnc80 := NB321_323.out
              have hcz81_0 : wc.cell? ⟨gb323, 0, none⟩ = some (.int .i64 t315) := (blk_cell BK323.out 0).trans rfl
              have hcz81_1 : wc.cell? ⟨gb323, 1, none⟩ = some (.int .i64 t316) := (blk_cell BK323.out 1).trans rfl
              have hcz81_2 : wc.cell? ⟨gb323, 2, none⟩ = some (.string t317) := (blk_cell BK323.out 2).trans rfl
              have hcz81_3 : wc.cell? ⟨gb323, 3, none⟩ = some (.slice Ao20 t318.length co20) := (blk_cell BK323.out 3).trans rfl
              have hfz81_0 := blk_frozen BK323.out 0
              have hfz81_1 := blk_frozen BK323.out 1
              have hfz81_2 := blk_frozen BK323.out 2
              have hfz81_3 := blk_frozen BK323.out 3
              go_wp2_with (first | (go_at_call 6; (with_reducible refine (impl_LessTerm.calls kj6 t309 t310 t311 _ _ t312 t315 t316 t317 _ _ t318 false _ ?side1 ?side2 ?side3 ?side4 A65.out).mono ?_); (case side1 => repeat (first | exact (Kd.N_reads' HO_323003.out).2.2 | (with_reducible refine Kd.C_alloc ?_ _) | (with_reducible refine Kd.C_drewN ?_ _) | (with_reducible refine Kd.C_drew ?_))); (case side2 => exact (Kd.N_reads' HO_323003.out).2.1); (case side3 => repeat (first | exact (Kd.N_reads' HO_324003.out).2.2 | (with_reducible refine Kd.C_alloc ?_ _) | (with_reducible refine Kd.C_drewN ?_ _) | (with_reducible refine Kd.C_drew ?_))); (case side4 => exact (Kd.N_reads' HO_324003.out).2.1); rintro e w82 ⟨rfl, hb⟩; have n0_ := Aside0.mk (Kd.N_below (by (with_reducible repeat (first | apply Kd.N_alloc | apply Kd.N_drewN | apply Kd.N_drew)); exact HO_322003.out) hb); have n1_ := Aside0.mk (Kd.N_below (by (with_reducible repeat (first | apply Kd.N_alloc | apply Kd.N_drewN | apply Kd.N_drew)); exact HO_323003.out) hb); have n2_ := Aside0.mk (Kd.N_below (by (with_reducible repeat (first | apply Kd.N_alloc | apply Kd.N_drewN | apply Kd.N_drew)); exact HO_324003.out) hb); have n3_ := Aside0.mk (blk_below (g := gb321) (o := .cells #[.int .i64 t303, .int .i64 t304, .string t305, .slice Ao15 t306.length co15] 26 (0, 0)) (by (with_reducible repeat (first | refine blk_drewN ?_ _ | refine blk_drew ?_ | refine blk_alloc ?_ _)); exact BK321.out) hb); have n4_ := Aside0.mk (blk_below (g := gb322) (o := .cells #[.int .i64 t309, .int .i64 t310, .string t311, .slice Ao18 t312.length co18] 26 (0, 0)) (by (with_reducible repeat (first | refine blk_drewN ?_ _ | refine blk_drew ?_ | refine blk_alloc ?_ _)); exact BK322.out) hb); have n5_ := Aside0.mk (blk_below (g := gb323) (o := .cells #[.int .i64 t315, .int .i64 t316, .string t317, .slice Ao20 t318.length co20] 26 (0, 0)) (by (with_reducible repeat (first | refine blk_drewN ?_ _ | refine blk_drew ?_ | refine blk_alloc ?_ _)); exact BK323.out) hb); have n6_ := Aside0.mk (below_step (by repeat (first | (with_reducible first | exact HB.out | apply below_alloc | apply pw_below_drewN | apply below_drew1 | refine below_set ?_ GE321.out | refine below_set ?_ GE322.out | refine below_set ?_ GE323.out) | exact HB.out)) hb); clear HO_322003; clear HO_323003; clear HO_324003; clear BK321; clear BK322; clear BK323; clear HB; have HO_322003 := n0_; have HO_323003 := n1_; have HO_324003 := n2_; have BK321 := n3_; have BK322 := n4_; have BK323 := n5_; have HB := n6_; clear n0_ n1_ n2_ n3_ n4_ n5_ n6_; (try clear hb); (try clear hb2); (try clear hk); (try clear hi)))
              go_ret
              exact ⟨by first | rfl | (simp [errW_none, errW_some] <;> rfl) | (simp [*, errW_none, errW_some] <;> rfl) | (rw [isEmpty_ne]; first | done | rfl) | (rw [isEmpty_be]; first | done | rfl), by repeat (first | (with_reducible first | exact HB.out | apply below_alloc | apply pw_below_drewN | apply below_drew1 | refine below_set ?_ GE321.out | refine below_set ?_ GE322.out | refine below_set ?_ GE323.out) | exact HB.out)⟩
          · replace c64 := Bool.eq_false_iff.mpr c64
            subst c64
            have H1 : (some true) = some r := by rw [if_neg (show ¬ (false = true) by decide)] at H; exact H
            clear H
            have H := H1
            clear H1
            obtain rfl := Option.some.inj H
            go_wp2
            go_ret
            exact ⟨by first | rfl | (simp [errW_none, errW_some] <;> rfl) | (simp [*, errW_none, errW_some] <;> rfl) | (rw [isEmpty_ne]; first | done | rfl) | (rw [isEmpty_be]; first | done | rfl), by repeat (first | (with_reducible first | exact HB.out | apply below_alloc | apply pw_below_drewN | apply below_drew1 | refine below_set ?_ GE321.out | refine below_set ?_ GE322.out | refine below_set ?_ GE323.out) | exact HB.out)⟩

/-- THE ONE PURE STATEMENT of laws_FnOrder: yours. -/
def laws_FnOrder.Pure : Prop := ∀ (l0 : List Int), l0.length ≤ maxLen → l0.length * 1 ≤ 140737488351232 → (∀ x ∈ l0, (Lit.int .u8 x).wf = true) → ∃ k, laws_FnOrder.f k l0 = some true
theorem laws_FnOrder.walk (P : laws_FnOrder.Pure) (a0 : Option Addr) (len0 cap0 : Nat) (z0 : List Int) (w : World) (w0 : (a0 = none ∧ len0 = 0 ∧ cap0 = 0 ∧ z0 = []) ∨ ∃ x, a0 = some x ∧ len0 ≤ cap0 ∧ cap0 ≤ maxLen ∧ z0.length = cap0 ∧ (∀ i, i < z0.length → w.cell? (x.add i) = some (.int .u8 (z0.getD i 0))) ∧ ∀ n ∈ z0, (Lit.int .u8 n).wf = true) (y0 : len0 * 1 ≤ 140737488351232) :
    Calls Try.prog 3 #[.slice a0 len0 cap0] w fun e w' => e = .returned (.bool true) ∧ Below w.heap.size w w' := by
  obtain ⟨l0, rfl, hr0, hm0, hw0, hc0⟩ := ReadsInt.ofRowC w0
  obtain ⟨k, h⟩ := P l0 hm0 y0 hw0
  refine (laws_FnOrder.calls k _ _ l0 true w (Kd.C_of_reads (d := (0 : Int)) (h1 := fun _ => rfl) hr0) hc0 h).mono ?_
  rintro e w' ⟨rfl, hd⟩
  exact ⟨rfl, hd⟩

end Go.Proofs.Ytjheomimogpifaa.QFnOrder
