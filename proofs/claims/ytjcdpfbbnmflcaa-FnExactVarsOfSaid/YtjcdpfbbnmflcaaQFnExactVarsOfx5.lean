-- Written by a program of this workplace (print2.py) for this claim, over the print's words.
import Derived.Test.YtjcdpfbbnmflcaaQFnExactVarsOfx0
import Derived.Test.YtjcdpfbbnmflcaaQFnExactVarsOfx4
namespace Go.Proofs.Ytjcdpfbbnmflcaa.QFnExactVarsOf
open Go.RowKit Go.Proofs.YtjcdpfbbnmflcaaW.PrintWords Go.Proofs.YtjcdpfbbnmflcaaW.PrintLast Go.Proofs.YtjcdpfbbnmflcaaW.PrintMore
attribute [local go_sem] max2_int min2_int max_two min_two max_three min_three max_four min_four   -- for this text's walks alone
set_option linter.unusedVariables false
set_option linter.unusedSimpArgs false

/-! ### laws_markClauseS, laws_markExprS: marks, told weakly -/
mutual
def laws_markClauseS.l0 : Nat → List (S55) → Int → Int → Option (Int)
  | 0, _, _, _ => none
  | k + 1, x0, x1, x5 => if x5 < (x0.length : Int) then (if 0 ≤ x5 then ((laws_markText.f k (wrap64 ((wrap64 (x1 + 1)) + 1))).bind fun t2 => ((laws_markExprS.f k ((rd_T55 x0 x5).f0.f3) (wrap64 ((wrap64 ((wrap64 (x1 + 1)) + 1)) + 1))).bind fun t3 => ((laws_markClauseS.f k ((rd_T55 x0 x5).f0.f4) t3).bind fun t4 => ((laws_markText.f k (wrap64 ((wrap64 (t4 + 1)) + 1))).bind fun t7 => ((laws_markExprS.f k ((rd_T55 x0 x5).f1.f3) (wrap64 ((wrap64 ((wrap64 (t4 + 1)) + 1)) + 1))).bind fun t8 => ((laws_markClauseS.f k ((rd_T55 x0 x5).f1.f4) t8).bind fun t9 => (laws_markClauseS.l0 k x0 t9 (wrap64 (x5 + 1))))))))) else (none)) else (some x1)
def laws_markClauseS.f : Nat → List (S55) → Int → Option (Int)
  | 0, _, _ => none
  | k + 1, l0, a1 => laws_markClauseS.l0 k l0 a1 0
def laws_markExprS.l0 : Nat → List (S37) → Int → Int → Option (Int)
  | 0, _, _, _ => none
  | k + 1, x0, x1, x5 => if x5 < (x0.length : Int) then (if 0 ≤ x5 then ((laws_markText.f k (wrap64 ((wrap64 (x1 + 1)) + 1))).bind fun t2 => ((laws_markExprS.f k ((rd_T37 x0 x5).f3) (wrap64 ((wrap64 ((wrap64 (x1 + 1)) + 1)) + 1))).bind fun t3 => ((laws_markClauseS.f k ((rd_T37 x0 x5).f4) t3).bind fun t4 => (laws_markExprS.l0 k x0 t4 (wrap64 (x5 + 1)))))) else (none)) else (some x1)
def laws_markExprS.f : Nat → List (S37) → Int → Option (Int)
  | 0, _, _ => none
  | k + 1, l0, a1 => laws_markExprS.l0 k l0 a1 0
end
theorem laws_markClauseS.mono_g : ∀ k, (∀ y0 y1 y2, LeO (laws_markClauseS.l0 k y0 y1 y2) (laws_markClauseS.l0 (k + 1) y0 y1 y2)) ∧ (∀ y0 y1, LeO (laws_markClauseS.f k y0 y1) (laws_markClauseS.f (k + 1) y0 y1)) ∧ (∀ y0 y1 y2, LeO (laws_markExprS.l0 k y0 y1 y2) (laws_markExprS.l0 (k + 1) y0 y1 y2)) ∧ (∀ y0 y1, LeO (laws_markExprS.f k y0 y1) (laws_markExprS.f (k + 1) y0 y1))
  | 0 => ⟨fun _ _ _ r h => by simp [laws_markClauseS.l0] at h, fun _ _ r h => by simp [laws_markClauseS.f] at h, fun _ _ _ r h => by simp [laws_markExprS.l0] at h, fun _ _ r h => by simp [laws_markExprS.f] at h⟩
  | k + 1 => by
    obtain ⟨ih0, ih1, ih2, ih3⟩ := laws_markClauseS.mono_g k
    refine ⟨?_, ?_, ?_, ?_⟩
    · intro y0 y1 y2
      unfold laws_markClauseS.l0
      repeat' first
      | (with_reducible exact ih0 _ _ _)
      | (with_reducible exact ih1 _ _)
      | (with_reducible exact ih2 _ _ _)
      | (with_reducible exact ih3 _ _)
      | (with_reducible exact laws_markText.mono _ _)
      | (with_reducible exact LeO.refl _)
      | (with_reducible exact LeO.none _)
      | (with_reducible refine LeO.ite ?_ ?_)
      | (with_reducible refine LeO.bind ?_ (fun _ => ?_))
      | exact ih0 _ _ _
      | exact ih1 _ _
      | exact ih2 _ _ _
      | exact ih3 _ _
      | exact laws_markText.mono _ _
      | exact LeO.none _
      | refine LeO.ite ?_ ?_
      | refine LeO.bind ?_ (fun _ => ?_)
    · intro y0 y1
      unfold laws_markClauseS.f
      repeat' first
      | (with_reducible exact ih0 _ _ _)
      | (with_reducible exact ih1 _ _)
      | (with_reducible exact ih2 _ _ _)
      | (with_reducible exact ih3 _ _)
      | (with_reducible exact laws_markText.mono _ _)
      | (with_reducible exact LeO.refl _)
      | (with_reducible exact LeO.none _)
      | (with_reducible refine LeO.ite ?_ ?_)
      | (with_reducible refine LeO.bind ?_ (fun _ => ?_))
      | exact ih0 _ _ _
      | exact ih1 _ _
      | exact ih2 _ _ _
      | exact ih3 _ _
      | exact laws_markText.mono _ _
      | exact LeO.none _
      | refine LeO.ite ?_ ?_
      | refine LeO.bind ?_ (fun _ => ?_)
    · intro y0 y1 y2
      unfold laws_markExprS.l0
      repeat' first
      | (with_reducible exact ih0 _ _ _)
      | (with_reducible exact ih1 _ _)
      | (with_reducible exact ih2 _ _ _)
      | (with_reducible exact ih3 _ _)
      | (with_reducible exact laws_markText.mono _ _)
      | (with_reducible exact LeO.refl _)
      | (with_reducible exact LeO.none _)
      | (with_reducible refine LeO.ite ?_ ?_)
      | (with_reducible refine LeO.bind ?_ (fun _ => ?_))
      | exact ih0 _ _ _
      | exact ih1 _ _
      | exact ih2 _ _ _
      | exact ih3 _ _
      | exact laws_markText.mono _ _
      | exact LeO.none _
      | refine LeO.ite ?_ ?_
      | refine LeO.bind ?_ (fun _ => ?_)
    · intro y0 y1
      unfold laws_markExprS.f
      repeat' first
      | (with_reducible exact ih0 _ _ _)
      | (with_reducible exact ih1 _ _)
      | (with_reducible exact ih2 _ _ _)
      | (with_reducible exact ih3 _ _)
      | (with_reducible exact laws_markText.mono _ _)
      | (with_reducible exact LeO.refl _)
      | (with_reducible exact LeO.none _)
      | (with_reducible refine LeO.ite ?_ ?_)
      | (with_reducible refine LeO.bind ?_ (fun _ => ?_))
      | exact ih0 _ _ _
      | exact ih1 _ _
      | exact ih2 _ _ _
      | exact ih3 _ _
      | exact laws_markText.mono _ _
      | exact LeO.none _
      | refine LeO.ite ?_ ?_
      | refine LeO.bind ?_ (fun _ => ?_)
theorem laws_markClauseS.mono : ∀ a0 a1 k, LeO (laws_markClauseS.f k a0 a1) (laws_markClauseS.f (k + 1) a0 a1) := by
  intro a0 a1 k
  obtain ⟨ih0, ih1, ih2, ih3⟩ := laws_markClauseS.mono_g k
  exact ih1 a0 a1
theorem laws_markExprS.mono : ∀ a0 a1 k, LeO (laws_markExprS.f k a0 a1) (laws_markExprS.f (k + 1) a0 a1) := by
  intro a0 a1 k
  obtain ⟨ih0, ih1, ih2, ih3⟩ := laws_markClauseS.mono_g k
  exact ih3 a0 a1
set_option maxHeartbeats 8000000 in
set_option maxRecDepth 100000 in
theorem laws_markClauseS.step (k : Nat) (ih_laws_markClauseS : ∀ k_, k_ < k → (∀ (l : List (S55)) (n r : Int), laws_markClauseS.f k_ l n = some r → ∀ (b : Nat) (ok : Nat → Prop) (v : Value) (ws w : World), b ≤ ws.heap.size → Kd.R k55 55 ws b ok v l → Soft b [37, 55] ws w → Calls Try.prog 80 #[v, .int .i64 n] w fun e w' => e = .returned (.int .i64 r) ∧ Soft b [37, 55] ws w' ∧ Kept w w' (InRows b [37, 55] ws))) (ih_laws_markExprS : ∀ k_, k_ < k → (∀ (l : List (S37)) (n r : Int), laws_markExprS.f k_ l n = some r → ∀ (b : Nat) (ok : Nat → Prop) (v : Value) (ws w : World), b ≤ ws.heap.size → Kd.R k37 37 ws b ok v l → Soft b [37, 55] ws w → Calls Try.prog 79 #[v, .int .i64 n] w fun e w' => e = .returned (.int .i64 r) ∧ Soft b [37, 55] ws w' ∧ Kept w w' (InRows b [37, 55] ws))) : ∀ (l : List (S55)) (n r : Int), laws_markClauseS.f k l n = some r → ∀ (b : Nat) (ok : Nat → Prop) (v : Value) (ws w : World), b ≤ ws.heap.size → Kd.R k55 55 ws b ok v l → Soft b [37, 55] ws w → Calls Try.prog 80 #[v, .int .i64 n] w fun e w' => e = .returned (.int .i64 r) ∧ Soft b [37, 55] ws w' ∧ Kept w w' (InRows b [37, 55] ws) := by
  intro l n r h b ok v ws w hb hR hS
  cases k with
  | zero => exact absurd h (by simp [laws_markClauseS.f])
  | succ k =>
  simp only [laws_markClauseS.f] at h
  obtain ⟨Ao, co, eo⟩ := Kd.R_slice hR
  subst eo
  have HR := Aside0.mk hR
  have HBS := Aside0.mk hb
  have HS := Aside0.mk hS
  have HK := Aside0.mk (Kept.refl w (InRows b [37, 55] ws))
  clear hR hb hS
  have H' := Aside0.mk h
  clear h
  go_enter Try.func80, Try.ntmps80
  go_wp2
  go_loopg [1, 5] k (fun kq v1 v5 w' => ∃ (x1 : Int) (x5 : Int), v1 = .int .i64 x1 ∧ v5 = .int .i64 x5 ∧ Aside0 (laws_markClauseS.l0 kq l x1 x5 = some r) ∧ Aside0 (kq ≤ k) ∧ Aside0 (Soft b [37, 55] ws w') ∧ Aside0 (Kept w w' (InRows b [37, 55] ws)))
  case atStart => exact ⟨n, 0, (by first | rfl | (simp; done) | (simp [*]; done)), (by first | rfl | (simp; done) | (simp [*]; done)), H', ⟨Nat.le_refl _⟩, HS, HK⟩
  case round =>
    clear H'
    clear HS HK
    obtain ⟨x1, x5, rfl, rfl, HA, HK1, HS, HK⟩ := hrel
    cases gk with
    | zero => exact absurd HA.out (by simp [laws_markClauseS.l0])
    | succ k1 =>
      have H := HA.out
      clear HA
      simp only [laws_markClauseS.l0] at H
      by_cases c3 : x5 < (l.length : Int)
      · rw [if_pos c3] at H
        have c3b0 : decide (x5 < (l.length : Int)) = true := decide_eq_true c3
        by_cases c4 : 0 ≤ x5
        · rw [if_pos c4] at H
          have c4b0 : decide (0 ≤ x5) = true := decide_eq_true c4
          replace H := Option.bind_eq_some_iff.mp H
          obtain ⟨t2, B2, H⟩ := H
          replace H : ((laws_markExprS.f k1 ((rd_T55 l x5).f0.f3) (wrap64 ((wrap64 ((wrap64 (x1 + 1)) + 1)) + 1))).bind fun t3 => ((laws_markClauseS.f k1 ((rd_T55 l x5).f0.f4) t3).bind fun t4 => ((laws_markText.f k1 (wrap64 ((wrap64 (t4 + 1)) + 1))).bind fun t7 => ((laws_markExprS.f k1 ((rd_T55 l x5).f1.f3) (wrap64 ((wrap64 ((wrap64 (t4 + 1)) + 1)) + 1))).bind fun t8 => ((laws_markClauseS.f k1 ((rd_T55 l x5).f1.f4) t8).bind fun t9 => (laws_markClauseS.l0 k1 l t9 (wrap64 (x5 + 1)))))))) = some r := H
          have A2 := Aside0.mk B2
          clear B2
          replace H := Option.bind_eq_some_iff.mp H
          obtain ⟨t3, B3, H⟩ := H
          replace H : ((laws_markClauseS.f k1 ((rd_T55 l x5).f0.f4) t3).bind fun t4 => ((laws_markText.f k1 (wrap64 ((wrap64 (t4 + 1)) + 1))).bind fun t7 => ((laws_markExprS.f k1 ((rd_T55 l x5).f1.f3) (wrap64 ((wrap64 ((wrap64 (t4 + 1)) + 1)) + 1))).bind fun t8 => ((laws_markClauseS.f k1 ((rd_T55 l x5).f1.f4) t8).bind fun t9 => (laws_markClauseS.l0 k1 l t9 (wrap64 (x5 + 1))))))) = some r := H
          have A3 := Aside0.mk B3
          clear B3
          replace H := Option.bind_eq_some_iff.mp H
          obtain ⟨t4, B4, H⟩ := H
          replace H : ((laws_markText.f k1 (wrap64 ((wrap64 (t4 + 1)) + 1))).bind fun t7 => ((laws_markExprS.f k1 ((rd_T55 l x5).f1.f3) (wrap64 ((wrap64 ((wrap64 (t4 + 1)) + 1)) + 1))).bind fun t8 => ((laws_markClauseS.f k1 ((rd_T55 l x5).f1.f4) t8).bind fun t9 => (laws_markClauseS.l0 k1 l t9 (wrap64 (x5 + 1)))))) = some r := H
          have A4 := Aside0.mk B4
          clear B4
          replace H := Option.bind_eq_some_iff.mp H
          obtain ⟨t7, B7, H⟩ := H
          replace H : ((laws_markExprS.f k1 ((rd_T55 l x5).f1.f3) (wrap64 ((wrap64 ((wrap64 (t4 + 1)) + 1)) + 1))).bind fun t8 => ((laws_markClauseS.f k1 ((rd_T55 l x5).f1.f4) t8).bind fun t9 => (laws_markClauseS.l0 k1 l t9 (wrap64 (x5 + 1))))) = some r := H
          have A7 := Aside0.mk B7
          clear B7
          replace H := Option.bind_eq_some_iff.mp H
          obtain ⟨t8, B8, H⟩ := H
          replace H : ((laws_markClauseS.f k1 ((rd_T55 l x5).f1.f4) t8).bind fun t9 => (laws_markClauseS.l0 k1 l t9 (wrap64 (x5 + 1)))) = some r := H
          have A8 := Aside0.mk B8
          clear B8
          replace H := Option.bind_eq_some_iff.mp H
          obtain ⟨t9, B9, H⟩ := H
          replace H : (laws_markClauseS.l0 k1 l t9 (wrap64 (x5 + 1))) = some r := H
          have A9 := Aside0.mk B9
          clear B9
          have H' := Aside0.mk H
          clear H
          obtain ⟨go5, co5, eo5, gb5, gl5, cl5, HG5⟩ := Kd.R_form HR.out (by omega)
          (first | cases eo5 | (injection eo5 with ea_ en_ ec_; (first | subst ea_ | (injection ea_ with ea_; subst ea_)); subst ec_; clear en_))
          have HG := Aside0.mk (show InRows b [37, 55] ws go5 from ⟨gb5, 55, by decide, cl5, HG5⟩)
          clear gb5 gl5 HG5
          obtain ⟨ce5, hcl5, hM5, hcc5, hfr5⟩ := Kd.R_elem HR.out z55 (x5 : Int) c4 c3
          obtain ⟨v3, v4, v8, v9, rfl, hR3, hR4, hR8, hR9⟩ := k55_openM hM5
          obtain ⟨Ai3, ci3, ei3⟩ := Kd.R_slice hR3
          subst ei3
          have HR3 := Aside0.mk hR3
          clear hR3
          obtain ⟨Ai4, ci4, ei4⟩ := Kd.R_slice hR4
          subst ei4
          have HR4 := Aside0.mk hR4
          clear hR4
          obtain ⟨Ai8, ci8, ei8⟩ := Kd.R_slice hR8
          subst ei8
          have HR8 := Aside0.mk hR8
          clear hR8
          obtain ⟨Ai9, ci9, ei9⟩ := Kd.R_slice hR9
          subst ei9
          have HR9 := Aside0.mk hR9
          clear hR9
          have HC0 := Aside0.mk (show ws.cell? ⟨go5, (x5 : Int).toNat * 10, none⟩ = some (.int .i64 ((rd_T55 l x5).f0.f0)) from hcc5 0 _ rfl)
          have HC1 := Aside0.mk (show ws.cell? ⟨go5, (x5 : Int).toNat * 10 + 1, none⟩ = some (.int .i64 ((rd_T55 l x5).f0.f1)) from hcc5 1 _ rfl)
          have HC2 := Aside0.mk (show ws.cell? ⟨go5, (x5 : Int).toNat * 10 + 2, none⟩ = some (.string ((rd_T55 l x5).f0.f2)) from hcc5 2 _ rfl)
          have HC3 := Aside0.mk (show ws.cell? ⟨go5, (x5 : Int).toNat * 10 + 3, none⟩ = some (.slice Ai3 ((rd_T55 l x5).f0.f3).length ci3) from hcc5 3 _ rfl)
          have HC4 := Aside0.mk (show ws.cell? ⟨go5, (x5 : Int).toNat * 10 + 4, none⟩ = some (.slice Ai4 ((rd_T55 l x5).f0.f4).length ci4) from hcc5 4 _ rfl)
          have HC5 := Aside0.mk (show ws.cell? ⟨go5, (x5 : Int).toNat * 10 + 5, none⟩ = some (.int .i64 ((rd_T55 l x5).f1.f0)) from hcc5 5 _ rfl)
          have HC6 := Aside0.mk (show ws.cell? ⟨go5, (x5 : Int).toNat * 10 + 6, none⟩ = some (.int .i64 ((rd_T55 l x5).f1.f1)) from hcc5 6 _ rfl)
          have HC7 := Aside0.mk (show ws.cell? ⟨go5, (x5 : Int).toNat * 10 + 7, none⟩ = some (.string ((rd_T55 l x5).f1.f2)) from hcc5 7 _ rfl)
          have HC8 := Aside0.mk (show ws.cell? ⟨go5, (x5 : Int).toNat * 10 + 8, none⟩ = some (.slice Ai8 ((rd_T55 l x5).f1.f3).length ci8) from hcc5 8 _ rfl)
          have HC9 := Aside0.mk (show ws.cell? ⟨go5, (x5 : Int).toNat * 10 + 9, none⟩ = some (.slice Ai9 ((rd_T55 l x5).f1.f4).length ci9) from hcc5 9 _ rfl)
          clear hcl5 hcc5 hfr5
          obtain ⟨y0, hx0⟩ : ∃ y, wr.cell? ⟨go5, (x5 : Int).toNat * 10, none⟩ = some (.int .i64 y) := (by obtain ⟨z_, h_, s_⟩ := HS.out.cell HG.out HC0.out; obtain ⟨y_, e_⟩ := s_.of_int; exact ⟨y_, e_ ▸ h_⟩)
          have hf0 : wr.frozen? ⟨go5, (x5 : Int).toNat * 10, none⟩ = false := HS.out.frozen HG.out _
          obtain ⟨y1, hx1⟩ : ∃ y, wr.cell? ⟨go5, (x5 : Int).toNat * 10 + 1, none⟩ = some (.int .i64 y) := (by obtain ⟨z_, h_, s_⟩ := HS.out.cell HG.out HC1.out; obtain ⟨y_, e_⟩ := s_.of_int; exact ⟨y_, e_ ▸ h_⟩)
          have hf1 : wr.frozen? ⟨go5, (x5 : Int).toNat * 10 + 1, none⟩ = false := HS.out.frozen HG.out _
          obtain ⟨y2, hx2⟩ : ∃ y, wr.cell? ⟨go5, (x5 : Int).toNat * 10 + 2, none⟩ = some (.string y) := (by obtain ⟨z_, h_, s_⟩ := HS.out.cell HG.out HC2.out; obtain ⟨y_, e_⟩ := s_.of_string; exact ⟨y_, e_ ▸ h_⟩)
          have hf2 : wr.frozen? ⟨go5, (x5 : Int).toNat * 10 + 2, none⟩ = false := HS.out.frozen HG.out _
          have hx3 : wr.cell? ⟨go5, (x5 : Int).toNat * 10 + 3, none⟩ = some (.slice Ai3 ((rd_T55 l x5).f0.f3).length ci3) := (by obtain ⟨z_, h_, s_⟩ := HS.out.cell HG.out HC3.out; exact s_.of_slice ▸ h_)
          have hf3 : wr.frozen? ⟨go5, (x5 : Int).toNat * 10 + 3, none⟩ = false := HS.out.frozen HG.out _
          have hx4 : wr.cell? ⟨go5, (x5 : Int).toNat * 10 + 4, none⟩ = some (.slice Ai4 ((rd_T55 l x5).f0.f4).length ci4) := (by obtain ⟨z_, h_, s_⟩ := HS.out.cell HG.out HC4.out; exact s_.of_slice ▸ h_)
          have hf4 : wr.frozen? ⟨go5, (x5 : Int).toNat * 10 + 4, none⟩ = false := HS.out.frozen HG.out _
          obtain ⟨y5, hx5⟩ : ∃ y, wr.cell? ⟨go5, (x5 : Int).toNat * 10 + 5, none⟩ = some (.int .i64 y) := (by obtain ⟨z_, h_, s_⟩ := HS.out.cell HG.out HC5.out; obtain ⟨y_, e_⟩ := s_.of_int; exact ⟨y_, e_ ▸ h_⟩)
          have hf5 : wr.frozen? ⟨go5, (x5 : Int).toNat * 10 + 5, none⟩ = false := HS.out.frozen HG.out _
          obtain ⟨y6, hx6⟩ : ∃ y, wr.cell? ⟨go5, (x5 : Int).toNat * 10 + 6, none⟩ = some (.int .i64 y) := (by obtain ⟨z_, h_, s_⟩ := HS.out.cell HG.out HC6.out; obtain ⟨y_, e_⟩ := s_.of_int; exact ⟨y_, e_ ▸ h_⟩)
          have hf6 : wr.frozen? ⟨go5, (x5 : Int).toNat * 10 + 6, none⟩ = false := HS.out.frozen HG.out _
          obtain ⟨y7, hx7⟩ : ∃ y, wr.cell? ⟨go5, (x5 : Int).toNat * 10 + 7, none⟩ = some (.string y) := (by obtain ⟨z_, h_, s_⟩ := HS.out.cell HG.out HC7.out; obtain ⟨y_, e_⟩ := s_.of_string; exact ⟨y_, e_ ▸ h_⟩)
          have hf7 : wr.frozen? ⟨go5, (x5 : Int).toNat * 10 + 7, none⟩ = false := HS.out.frozen HG.out _
          have hx8 : wr.cell? ⟨go5, (x5 : Int).toNat * 10 + 8, none⟩ = some (.slice Ai8 ((rd_T55 l x5).f1.f3).length ci8) := (by obtain ⟨z_, h_, s_⟩ := HS.out.cell HG.out HC8.out; exact s_.of_slice ▸ h_)
          have hf8 : wr.frozen? ⟨go5, (x5 : Int).toNat * 10 + 8, none⟩ = false := HS.out.frozen HG.out _
          have hx9 : wr.cell? ⟨go5, (x5 : Int).toNat * 10 + 9, none⟩ = some (.slice Ai9 ((rd_T55 l x5).f1.f4).length ci9) := (by obtain ⟨z_, h_, s_⟩ := HS.out.cell HG.out HC9.out; exact s_.of_slice ▸ h_)
          have hf9 : wr.frozen? ⟨go5, (x5 : Int).toNat * 10 + 9, none⟩ = false := HS.out.frozen HG.out _
          have p5 := eq_true c4
          have q5 := eq_true c3
          clear c3 c4
          go_wp2_with (first | ((with_reducible refine gate_store (t := 3) (p := 17) rfl ?_); refine store_event (t := 3) (p := 17) (v := ?vo_ws0) (w1 := (wr.setCell ⟨go5, (x5 : Int).toNat * 10, none⟩ (.int .i64 x1))) ?hg ?ho ?hn ?hr ?_; (case ho => rfl); (case hg => rfl); (case hn => rfl); (case hr => first | (go_simp; done) | (go_simp; rfl)); intro ws0 hw; have n0_ := Aside0.mk (show Soft b [37, 55] ws ws0 from by rw [hw]; exact Soft.set HS.out HG.out hx0 (SoftV.int _ _ _)); have n1_ := Aside0.mk (show Kept w ws0 (InRows b [37, 55] ws) from by rw [hw]; exact Kept.setCell HK.out (.inl HG.out) _); clear HS HK hw; have HS := n0_; have HK := n1_; clear n0_ n1_; clear hx0 hf0; obtain ⟨y0, hx0⟩ : ∃ y, ws0.cell? ⟨go5, (x5 : Int).toNat * 10, none⟩ = some (.int .i64 y) := (by obtain ⟨z_, h_, s_⟩ := HS.out.cell HG.out HC0.out; obtain ⟨y_, e_⟩ := s_.of_int; exact ⟨y_, e_ ▸ h_⟩); have hf0 : ws0.frozen? ⟨go5, (x5 : Int).toNat * 10, none⟩ = false := HS.out.frozen HG.out _; clear hx1 hf1; obtain ⟨y1, hx1⟩ : ∃ y, ws0.cell? ⟨go5, (x5 : Int).toNat * 10 + 1, none⟩ = some (.int .i64 y) := (by obtain ⟨z_, h_, s_⟩ := HS.out.cell HG.out HC1.out; obtain ⟨y_, e_⟩ := s_.of_int; exact ⟨y_, e_ ▸ h_⟩); have hf1 : ws0.frozen? ⟨go5, (x5 : Int).toNat * 10 + 1, none⟩ = false := HS.out.frozen HG.out _; clear hx2 hf2; obtain ⟨y2, hx2⟩ : ∃ y, ws0.cell? ⟨go5, (x5 : Int).toNat * 10 + 2, none⟩ = some (.string y) := (by obtain ⟨z_, h_, s_⟩ := HS.out.cell HG.out HC2.out; obtain ⟨y_, e_⟩ := s_.of_string; exact ⟨y_, e_ ▸ h_⟩); have hf2 : ws0.frozen? ⟨go5, (x5 : Int).toNat * 10 + 2, none⟩ = false := HS.out.frozen HG.out _; clear hx3 hf3; have hx3 : ws0.cell? ⟨go5, (x5 : Int).toNat * 10 + 3, none⟩ = some (.slice Ai3 ((rd_T55 l x5).f0.f3).length ci3) := (by obtain ⟨z_, h_, s_⟩ := HS.out.cell HG.out HC3.out; exact s_.of_slice ▸ h_); have hf3 : ws0.frozen? ⟨go5, (x5 : Int).toNat * 10 + 3, none⟩ = false := HS.out.frozen HG.out _; clear hx4 hf4; have hx4 : ws0.cell? ⟨go5, (x5 : Int).toNat * 10 + 4, none⟩ = some (.slice Ai4 ((rd_T55 l x5).f0.f4).length ci4) := (by obtain ⟨z_, h_, s_⟩ := HS.out.cell HG.out HC4.out; exact s_.of_slice ▸ h_); have hf4 : ws0.frozen? ⟨go5, (x5 : Int).toNat * 10 + 4, none⟩ = false := HS.out.frozen HG.out _; clear hx5 hf5; obtain ⟨y5, hx5⟩ : ∃ y, ws0.cell? ⟨go5, (x5 : Int).toNat * 10 + 5, none⟩ = some (.int .i64 y) := (by obtain ⟨z_, h_, s_⟩ := HS.out.cell HG.out HC5.out; obtain ⟨y_, e_⟩ := s_.of_int; exact ⟨y_, e_ ▸ h_⟩); have hf5 : ws0.frozen? ⟨go5, (x5 : Int).toNat * 10 + 5, none⟩ = false := HS.out.frozen HG.out _; clear hx6 hf6; obtain ⟨y6, hx6⟩ : ∃ y, ws0.cell? ⟨go5, (x5 : Int).toNat * 10 + 6, none⟩ = some (.int .i64 y) := (by obtain ⟨z_, h_, s_⟩ := HS.out.cell HG.out HC6.out; obtain ⟨y_, e_⟩ := s_.of_int; exact ⟨y_, e_ ▸ h_⟩); have hf6 : ws0.frozen? ⟨go5, (x5 : Int).toNat * 10 + 6, none⟩ = false := HS.out.frozen HG.out _; clear hx7 hf7; obtain ⟨y7, hx7⟩ : ∃ y, ws0.cell? ⟨go5, (x5 : Int).toNat * 10 + 7, none⟩ = some (.string y) := (by obtain ⟨z_, h_, s_⟩ := HS.out.cell HG.out HC7.out; obtain ⟨y_, e_⟩ := s_.of_string; exact ⟨y_, e_ ▸ h_⟩); have hf7 : ws0.frozen? ⟨go5, (x5 : Int).toNat * 10 + 7, none⟩ = false := HS.out.frozen HG.out _; clear hx8 hf8; have hx8 : ws0.cell? ⟨go5, (x5 : Int).toNat * 10 + 8, none⟩ = some (.slice Ai8 ((rd_T55 l x5).f1.f3).length ci8) := (by obtain ⟨z_, h_, s_⟩ := HS.out.cell HG.out HC8.out; exact s_.of_slice ▸ h_); have hf8 : ws0.frozen? ⟨go5, (x5 : Int).toNat * 10 + 8, none⟩ = false := HS.out.frozen HG.out _; clear hx9 hf9; have hx9 : ws0.cell? ⟨go5, (x5 : Int).toNat * 10 + 9, none⟩ = some (.slice Ai9 ((rd_T55 l x5).f1.f4).length ci9) := (by obtain ⟨z_, h_, s_⟩ := HS.out.cell HG.out HC9.out; exact s_.of_slice ▸ h_); have hf9 : ws0.frozen? ⟨go5, (x5 : Int).toNat * 10 + 9, none⟩ = false := HS.out.frozen HG.out _) | ((with_reducible refine gate_store (t := 3) (p := 25) rfl ?_); refine store_event (t := 3) (p := 25) (v := ?vo_ws1) (w1 := (ws0.setCell ⟨go5, (x5 : Int).toNat * 10 + 1, none⟩ (.int .i64 (wrap64 (x1 + 1))))) ?hg ?ho ?hn ?hr ?_; (case ho => rfl); (case hg => rfl); (case hn => rfl); (case hr => first | (go_simp; done) | (go_simp; rfl)); intro ws1 hw; have n0_ := Aside0.mk (show Soft b [37, 55] ws ws1 from by rw [hw]; exact Soft.set HS.out HG.out hx1 (SoftV.int _ _ _)); have n1_ := Aside0.mk (show Kept w ws1 (InRows b [37, 55] ws) from by rw [hw]; exact Kept.setCell HK.out (.inl HG.out) _); clear HS HK hw; have HS := n0_; have HK := n1_; clear n0_ n1_; clear hx0 hf0; obtain ⟨y0, hx0⟩ : ∃ y, ws1.cell? ⟨go5, (x5 : Int).toNat * 10, none⟩ = some (.int .i64 y) := (by obtain ⟨z_, h_, s_⟩ := HS.out.cell HG.out HC0.out; obtain ⟨y_, e_⟩ := s_.of_int; exact ⟨y_, e_ ▸ h_⟩); have hf0 : ws1.frozen? ⟨go5, (x5 : Int).toNat * 10, none⟩ = false := HS.out.frozen HG.out _; clear hx1 hf1; obtain ⟨y1, hx1⟩ : ∃ y, ws1.cell? ⟨go5, (x5 : Int).toNat * 10 + 1, none⟩ = some (.int .i64 y) := (by obtain ⟨z_, h_, s_⟩ := HS.out.cell HG.out HC1.out; obtain ⟨y_, e_⟩ := s_.of_int; exact ⟨y_, e_ ▸ h_⟩); have hf1 : ws1.frozen? ⟨go5, (x5 : Int).toNat * 10 + 1, none⟩ = false := HS.out.frozen HG.out _; clear hx2 hf2; obtain ⟨y2, hx2⟩ : ∃ y, ws1.cell? ⟨go5, (x5 : Int).toNat * 10 + 2, none⟩ = some (.string y) := (by obtain ⟨z_, h_, s_⟩ := HS.out.cell HG.out HC2.out; obtain ⟨y_, e_⟩ := s_.of_string; exact ⟨y_, e_ ▸ h_⟩); have hf2 : ws1.frozen? ⟨go5, (x5 : Int).toNat * 10 + 2, none⟩ = false := HS.out.frozen HG.out _; clear hx3 hf3; have hx3 : ws1.cell? ⟨go5, (x5 : Int).toNat * 10 + 3, none⟩ = some (.slice Ai3 ((rd_T55 l x5).f0.f3).length ci3) := (by obtain ⟨z_, h_, s_⟩ := HS.out.cell HG.out HC3.out; exact s_.of_slice ▸ h_); have hf3 : ws1.frozen? ⟨go5, (x5 : Int).toNat * 10 + 3, none⟩ = false := HS.out.frozen HG.out _; clear hx4 hf4; have hx4 : ws1.cell? ⟨go5, (x5 : Int).toNat * 10 + 4, none⟩ = some (.slice Ai4 ((rd_T55 l x5).f0.f4).length ci4) := (by obtain ⟨z_, h_, s_⟩ := HS.out.cell HG.out HC4.out; exact s_.of_slice ▸ h_); have hf4 : ws1.frozen? ⟨go5, (x5 : Int).toNat * 10 + 4, none⟩ = false := HS.out.frozen HG.out _; clear hx5 hf5; obtain ⟨y5, hx5⟩ : ∃ y, ws1.cell? ⟨go5, (x5 : Int).toNat * 10 + 5, none⟩ = some (.int .i64 y) := (by obtain ⟨z_, h_, s_⟩ := HS.out.cell HG.out HC5.out; obtain ⟨y_, e_⟩ := s_.of_int; exact ⟨y_, e_ ▸ h_⟩); have hf5 : ws1.frozen? ⟨go5, (x5 : Int).toNat * 10 + 5, none⟩ = false := HS.out.frozen HG.out _; clear hx6 hf6; obtain ⟨y6, hx6⟩ : ∃ y, ws1.cell? ⟨go5, (x5 : Int).toNat * 10 + 6, none⟩ = some (.int .i64 y) := (by obtain ⟨z_, h_, s_⟩ := HS.out.cell HG.out HC6.out; obtain ⟨y_, e_⟩ := s_.of_int; exact ⟨y_, e_ ▸ h_⟩); have hf6 : ws1.frozen? ⟨go5, (x5 : Int).toNat * 10 + 6, none⟩ = false := HS.out.frozen HG.out _; clear hx7 hf7; obtain ⟨y7, hx7⟩ : ∃ y, ws1.cell? ⟨go5, (x5 : Int).toNat * 10 + 7, none⟩ = some (.string y) := (by obtain ⟨z_, h_, s_⟩ := HS.out.cell HG.out HC7.out; obtain ⟨y_, e_⟩ := s_.of_string; exact ⟨y_, e_ ▸ h_⟩); have hf7 : ws1.frozen? ⟨go5, (x5 : Int).toNat * 10 + 7, none⟩ = false := HS.out.frozen HG.out _; clear hx8 hf8; have hx8 : ws1.cell? ⟨go5, (x5 : Int).toNat * 10 + 8, none⟩ = some (.slice Ai8 ((rd_T55 l x5).f1.f3).length ci8) := (by obtain ⟨z_, h_, s_⟩ := HS.out.cell HG.out HC8.out; exact s_.of_slice ▸ h_); have hf8 : ws1.frozen? ⟨go5, (x5 : Int).toNat * 10 + 8, none⟩ = false := HS.out.frozen HG.out _; clear hx9 hf9; have hx9 : ws1.cell? ⟨go5, (x5 : Int).toNat * 10 + 9, none⟩ = some (.slice Ai9 ((rd_T55 l x5).f1.f4).length ci9) := (by obtain ⟨z_, h_, s_⟩ := HS.out.cell HG.out HC9.out; exact s_.of_slice ▸ h_); have hf9 : ws1.frozen? ⟨go5, (x5 : Int).toNat * 10 + 9, none⟩ = false := HS.out.frozen HG.out _) | (go_at_call 81; (with_reducible refine (laws_markText.calls k1 (wrap64 ((wrap64 (x1 + 1)) + 1)) t2 _ A2.out).mono ?_); rintro e wc2 ⟨rfl, hb⟩; have n0_ := Aside0.mk (Soft.step HS.out HBS.out hb); have n1_ := Aside0.mk (Kept.below HK.out hb); clear HS HK hb; have HS := n0_; have HK := n1_; clear n0_ n1_; clear hx0 hf0; obtain ⟨y0, hx0⟩ : ∃ y, wc2.cell? ⟨go5, (x5 : Int).toNat * 10, none⟩ = some (.int .i64 y) := (by obtain ⟨z_, h_, s_⟩ := HS.out.cell HG.out HC0.out; obtain ⟨y_, e_⟩ := s_.of_int; exact ⟨y_, e_ ▸ h_⟩); have hf0 : wc2.frozen? ⟨go5, (x5 : Int).toNat * 10, none⟩ = false := HS.out.frozen HG.out _; clear hx1 hf1; obtain ⟨y1, hx1⟩ : ∃ y, wc2.cell? ⟨go5, (x5 : Int).toNat * 10 + 1, none⟩ = some (.int .i64 y) := (by obtain ⟨z_, h_, s_⟩ := HS.out.cell HG.out HC1.out; obtain ⟨y_, e_⟩ := s_.of_int; exact ⟨y_, e_ ▸ h_⟩); have hf1 : wc2.frozen? ⟨go5, (x5 : Int).toNat * 10 + 1, none⟩ = false := HS.out.frozen HG.out _; clear hx2 hf2; obtain ⟨y2, hx2⟩ : ∃ y, wc2.cell? ⟨go5, (x5 : Int).toNat * 10 + 2, none⟩ = some (.string y) := (by obtain ⟨z_, h_, s_⟩ := HS.out.cell HG.out HC2.out; obtain ⟨y_, e_⟩ := s_.of_string; exact ⟨y_, e_ ▸ h_⟩); have hf2 : wc2.frozen? ⟨go5, (x5 : Int).toNat * 10 + 2, none⟩ = false := HS.out.frozen HG.out _; clear hx3 hf3; have hx3 : wc2.cell? ⟨go5, (x5 : Int).toNat * 10 + 3, none⟩ = some (.slice Ai3 ((rd_T55 l x5).f0.f3).length ci3) := (by obtain ⟨z_, h_, s_⟩ := HS.out.cell HG.out HC3.out; exact s_.of_slice ▸ h_); have hf3 : wc2.frozen? ⟨go5, (x5 : Int).toNat * 10 + 3, none⟩ = false := HS.out.frozen HG.out _; clear hx4 hf4; have hx4 : wc2.cell? ⟨go5, (x5 : Int).toNat * 10 + 4, none⟩ = some (.slice Ai4 ((rd_T55 l x5).f0.f4).length ci4) := (by obtain ⟨z_, h_, s_⟩ := HS.out.cell HG.out HC4.out; exact s_.of_slice ▸ h_); have hf4 : wc2.frozen? ⟨go5, (x5 : Int).toNat * 10 + 4, none⟩ = false := HS.out.frozen HG.out _; clear hx5 hf5; obtain ⟨y5, hx5⟩ : ∃ y, wc2.cell? ⟨go5, (x5 : Int).toNat * 10 + 5, none⟩ = some (.int .i64 y) := (by obtain ⟨z_, h_, s_⟩ := HS.out.cell HG.out HC5.out; obtain ⟨y_, e_⟩ := s_.of_int; exact ⟨y_, e_ ▸ h_⟩); have hf5 : wc2.frozen? ⟨go5, (x5 : Int).toNat * 10 + 5, none⟩ = false := HS.out.frozen HG.out _; clear hx6 hf6; obtain ⟨y6, hx6⟩ : ∃ y, wc2.cell? ⟨go5, (x5 : Int).toNat * 10 + 6, none⟩ = some (.int .i64 y) := (by obtain ⟨z_, h_, s_⟩ := HS.out.cell HG.out HC6.out; obtain ⟨y_, e_⟩ := s_.of_int; exact ⟨y_, e_ ▸ h_⟩); have hf6 : wc2.frozen? ⟨go5, (x5 : Int).toNat * 10 + 6, none⟩ = false := HS.out.frozen HG.out _; clear hx7 hf7; obtain ⟨y7, hx7⟩ : ∃ y, wc2.cell? ⟨go5, (x5 : Int).toNat * 10 + 7, none⟩ = some (.string y) := (by obtain ⟨z_, h_, s_⟩ := HS.out.cell HG.out HC7.out; obtain ⟨y_, e_⟩ := s_.of_string; exact ⟨y_, e_ ▸ h_⟩); have hf7 : wc2.frozen? ⟨go5, (x5 : Int).toNat * 10 + 7, none⟩ = false := HS.out.frozen HG.out _; clear hx8 hf8; have hx8 : wc2.cell? ⟨go5, (x5 : Int).toNat * 10 + 8, none⟩ = some (.slice Ai8 ((rd_T55 l x5).f1.f3).length ci8) := (by obtain ⟨z_, h_, s_⟩ := HS.out.cell HG.out HC8.out; exact s_.of_slice ▸ h_); have hf8 : wc2.frozen? ⟨go5, (x5 : Int).toNat * 10 + 8, none⟩ = false := HS.out.frozen HG.out _; clear hx9 hf9; have hx9 : wc2.cell? ⟨go5, (x5 : Int).toNat * 10 + 9, none⟩ = some (.slice Ai9 ((rd_T55 l x5).f1.f4).length ci9) := (by obtain ⟨z_, h_, s_⟩ := HS.out.cell HG.out HC9.out; exact s_.of_slice ▸ h_); have hf9 : wc2.frozen? ⟨go5, (x5 : Int).toNat * 10 + 9, none⟩ = false := HS.out.frozen HG.out _) | ((with_reducible refine gate_store (t := 9) (p := 34) rfl ?_); refine store_event (t := 9) (p := 34) (v := ?vo_ws2) (w1 := (wc2.setCell ⟨go5, (x5 : Int).toNat * 10 + 2, none⟩ (.string t2))) ?hg ?ho ?hn ?hr ?_; (case ho => rfl); (case hg => rfl); (case hn => rfl); (case hr => first | (go_simp; done) | (go_simp; rfl)); intro ws2 hw; have n0_ := Aside0.mk (show Soft b [37, 55] ws ws2 from by rw [hw]; exact Soft.set HS.out HG.out hx2 (SoftV.string _ _)); have n1_ := Aside0.mk (show Kept w ws2 (InRows b [37, 55] ws) from by rw [hw]; exact Kept.setCell HK.out (.inl HG.out) _); clear HS HK hw; have HS := n0_; have HK := n1_; clear n0_ n1_; clear hx0 hf0; obtain ⟨y0, hx0⟩ : ∃ y, ws2.cell? ⟨go5, (x5 : Int).toNat * 10, none⟩ = some (.int .i64 y) := (by obtain ⟨z_, h_, s_⟩ := HS.out.cell HG.out HC0.out; obtain ⟨y_, e_⟩ := s_.of_int; exact ⟨y_, e_ ▸ h_⟩); have hf0 : ws2.frozen? ⟨go5, (x5 : Int).toNat * 10, none⟩ = false := HS.out.frozen HG.out _; clear hx1 hf1; obtain ⟨y1, hx1⟩ : ∃ y, ws2.cell? ⟨go5, (x5 : Int).toNat * 10 + 1, none⟩ = some (.int .i64 y) := (by obtain ⟨z_, h_, s_⟩ := HS.out.cell HG.out HC1.out; obtain ⟨y_, e_⟩ := s_.of_int; exact ⟨y_, e_ ▸ h_⟩); have hf1 : ws2.frozen? ⟨go5, (x5 : Int).toNat * 10 + 1, none⟩ = false := HS.out.frozen HG.out _; clear hx2 hf2; obtain ⟨y2, hx2⟩ : ∃ y, ws2.cell? ⟨go5, (x5 : Int).toNat * 10 + 2, none⟩ = some (.string y) := (by obtain ⟨z_, h_, s_⟩ := HS.out.cell HG.out HC2.out; obtain ⟨y_, e_⟩ := s_.of_string; exact ⟨y_, e_ ▸ h_⟩); have hf2 : ws2.frozen? ⟨go5, (x5 : Int).toNat * 10 + 2, none⟩ = false := HS.out.frozen HG.out _; clear hx3 hf3; have hx3 : ws2.cell? ⟨go5, (x5 : Int).toNat * 10 + 3, none⟩ = some (.slice Ai3 ((rd_T55 l x5).f0.f3).length ci3) := (by obtain ⟨z_, h_, s_⟩ := HS.out.cell HG.out HC3.out; exact s_.of_slice ▸ h_); have hf3 : ws2.frozen? ⟨go5, (x5 : Int).toNat * 10 + 3, none⟩ = false := HS.out.frozen HG.out _; clear hx4 hf4; have hx4 : ws2.cell? ⟨go5, (x5 : Int).toNat * 10 + 4, none⟩ = some (.slice Ai4 ((rd_T55 l x5).f0.f4).length ci4) := (by obtain ⟨z_, h_, s_⟩ := HS.out.cell HG.out HC4.out; exact s_.of_slice ▸ h_); have hf4 : ws2.frozen? ⟨go5, (x5 : Int).toNat * 10 + 4, none⟩ = false := HS.out.frozen HG.out _; clear hx5 hf5; obtain ⟨y5, hx5⟩ : ∃ y, ws2.cell? ⟨go5, (x5 : Int).toNat * 10 + 5, none⟩ = some (.int .i64 y) := (by obtain ⟨z_, h_, s_⟩ := HS.out.cell HG.out HC5.out; obtain ⟨y_, e_⟩ := s_.of_int; exact ⟨y_, e_ ▸ h_⟩); have hf5 : ws2.frozen? ⟨go5, (x5 : Int).toNat * 10 + 5, none⟩ = false := HS.out.frozen HG.out _; clear hx6 hf6; obtain ⟨y6, hx6⟩ : ∃ y, ws2.cell? ⟨go5, (x5 : Int).toNat * 10 + 6, none⟩ = some (.int .i64 y) := (by obtain ⟨z_, h_, s_⟩ := HS.out.cell HG.out HC6.out; obtain ⟨y_, e_⟩ := s_.of_int; exact ⟨y_, e_ ▸ h_⟩); have hf6 : ws2.frozen? ⟨go5, (x5 : Int).toNat * 10 + 6, none⟩ = false := HS.out.frozen HG.out _; clear hx7 hf7; obtain ⟨y7, hx7⟩ : ∃ y, ws2.cell? ⟨go5, (x5 : Int).toNat * 10 + 7, none⟩ = some (.string y) := (by obtain ⟨z_, h_, s_⟩ := HS.out.cell HG.out HC7.out; obtain ⟨y_, e_⟩ := s_.of_string; exact ⟨y_, e_ ▸ h_⟩); have hf7 : ws2.frozen? ⟨go5, (x5 : Int).toNat * 10 + 7, none⟩ = false := HS.out.frozen HG.out _; clear hx8 hf8; have hx8 : ws2.cell? ⟨go5, (x5 : Int).toNat * 10 + 8, none⟩ = some (.slice Ai8 ((rd_T55 l x5).f1.f3).length ci8) := (by obtain ⟨z_, h_, s_⟩ := HS.out.cell HG.out HC8.out; exact s_.of_slice ▸ h_); have hf8 : ws2.frozen? ⟨go5, (x5 : Int).toNat * 10 + 8, none⟩ = false := HS.out.frozen HG.out _; clear hx9 hf9; have hx9 : ws2.cell? ⟨go5, (x5 : Int).toNat * 10 + 9, none⟩ = some (.slice Ai9 ((rd_T55 l x5).f1.f4).length ci9) := (by obtain ⟨z_, h_, s_⟩ := HS.out.cell HG.out HC9.out; exact s_.of_slice ▸ h_); have hf9 : ws2.frozen? ⟨go5, (x5 : Int).toNat * 10 + 9, none⟩ = false := HS.out.frozen HG.out _) | (go_at_call 79; (with_reducible refine (ih_laws_markExprS k1 (by have := HK1.out; omega) _ _ t3 A3.out b _ _ ws _ HBS.out HR3.out HS.out).mono ?_); rintro e wm3 ⟨rfl, hs, hk⟩; have n0_ := Aside0.mk hs; have n1_ := Aside0.mk (Kept.then_ HK.out hk (fun _ h_ => .inl h_)); clear HS HK hs hk; have HS := n0_; have HK := n1_; clear n0_ n1_; clear hx0 hf0; obtain ⟨y0, hx0⟩ : ∃ y, wm3.cell? ⟨go5, (x5 : Int).toNat * 10, none⟩ = some (.int .i64 y) := (by obtain ⟨z_, h_, s_⟩ := HS.out.cell HG.out HC0.out; obtain ⟨y_, e_⟩ := s_.of_int; exact ⟨y_, e_ ▸ h_⟩); have hf0 : wm3.frozen? ⟨go5, (x5 : Int).toNat * 10, none⟩ = false := HS.out.frozen HG.out _; clear hx1 hf1; obtain ⟨y1, hx1⟩ : ∃ y, wm3.cell? ⟨go5, (x5 : Int).toNat * 10 + 1, none⟩ = some (.int .i64 y) := (by obtain ⟨z_, h_, s_⟩ := HS.out.cell HG.out HC1.out; obtain ⟨y_, e_⟩ := s_.of_int; exact ⟨y_, e_ ▸ h_⟩); have hf1 : wm3.frozen? ⟨go5, (x5 : Int).toNat * 10 + 1, none⟩ = false := HS.out.frozen HG.out _; clear hx2 hf2; obtain ⟨y2, hx2⟩ : ∃ y, wm3.cell? ⟨go5, (x5 : Int).toNat * 10 + 2, none⟩ = some (.string y) := (by obtain ⟨z_, h_, s_⟩ := HS.out.cell HG.out HC2.out; obtain ⟨y_, e_⟩ := s_.of_string; exact ⟨y_, e_ ▸ h_⟩); have hf2 : wm3.frozen? ⟨go5, (x5 : Int).toNat * 10 + 2, none⟩ = false := HS.out.frozen HG.out _; clear hx3 hf3; have hx3 : wm3.cell? ⟨go5, (x5 : Int).toNat * 10 + 3, none⟩ = some (.slice Ai3 ((rd_T55 l x5).f0.f3).length ci3) := (by obtain ⟨z_, h_, s_⟩ := HS.out.cell HG.out HC3.out; exact s_.of_slice ▸ h_); have hf3 : wm3.frozen? ⟨go5, (x5 : Int).toNat * 10 + 3, none⟩ = false := HS.out.frozen HG.out _; clear hx4 hf4; have hx4 : wm3.cell? ⟨go5, (x5 : Int).toNat * 10 + 4, none⟩ = some (.slice Ai4 ((rd_T55 l x5).f0.f4).length ci4) := (by obtain ⟨z_, h_, s_⟩ := HS.out.cell HG.out HC4.out; exact s_.of_slice ▸ h_); have hf4 : wm3.frozen? ⟨go5, (x5 : Int).toNat * 10 + 4, none⟩ = false := HS.out.frozen HG.out _; clear hx5 hf5; obtain ⟨y5, hx5⟩ : ∃ y, wm3.cell? ⟨go5, (x5 : Int).toNat * 10 + 5, none⟩ = some (.int .i64 y) := (by obtain ⟨z_, h_, s_⟩ := HS.out.cell HG.out HC5.out; obtain ⟨y_, e_⟩ := s_.of_int; exact ⟨y_, e_ ▸ h_⟩); have hf5 : wm3.frozen? ⟨go5, (x5 : Int).toNat * 10 + 5, none⟩ = false := HS.out.frozen HG.out _; clear hx6 hf6; obtain ⟨y6, hx6⟩ : ∃ y, wm3.cell? ⟨go5, (x5 : Int).toNat * 10 + 6, none⟩ = some (.int .i64 y) := (by obtain ⟨z_, h_, s_⟩ := HS.out.cell HG.out HC6.out; obtain ⟨y_, e_⟩ := s_.of_int; exact ⟨y_, e_ ▸ h_⟩); have hf6 : wm3.frozen? ⟨go5, (x5 : Int).toNat * 10 + 6, none⟩ = false := HS.out.frozen HG.out _; clear hx7 hf7; obtain ⟨y7, hx7⟩ : ∃ y, wm3.cell? ⟨go5, (x5 : Int).toNat * 10 + 7, none⟩ = some (.string y) := (by obtain ⟨z_, h_, s_⟩ := HS.out.cell HG.out HC7.out; obtain ⟨y_, e_⟩ := s_.of_string; exact ⟨y_, e_ ▸ h_⟩); have hf7 : wm3.frozen? ⟨go5, (x5 : Int).toNat * 10 + 7, none⟩ = false := HS.out.frozen HG.out _; clear hx8 hf8; have hx8 : wm3.cell? ⟨go5, (x5 : Int).toNat * 10 + 8, none⟩ = some (.slice Ai8 ((rd_T55 l x5).f1.f3).length ci8) := (by obtain ⟨z_, h_, s_⟩ := HS.out.cell HG.out HC8.out; exact s_.of_slice ▸ h_); have hf8 : wm3.frozen? ⟨go5, (x5 : Int).toNat * 10 + 8, none⟩ = false := HS.out.frozen HG.out _; clear hx9 hf9; have hx9 : wm3.cell? ⟨go5, (x5 : Int).toNat * 10 + 9, none⟩ = some (.slice Ai9 ((rd_T55 l x5).f1.f4).length ci9) := (by obtain ⟨z_, h_, s_⟩ := HS.out.cell HG.out HC9.out; exact s_.of_slice ▸ h_); have hf9 : wm3.frozen? ⟨go5, (x5 : Int).toNat * 10 + 9, none⟩ = false := HS.out.frozen HG.out _) | (go_at_call 80; (with_reducible refine (ih_laws_markClauseS k1 (by have := HK1.out; omega) _ _ t4 A4.out b _ _ ws _ HBS.out HR4.out HS.out).mono ?_); rintro e wm4 ⟨rfl, hs, hk⟩; have n0_ := Aside0.mk hs; have n1_ := Aside0.mk (Kept.then_ HK.out hk (fun _ h_ => .inl h_)); clear HS HK hs hk; have HS := n0_; have HK := n1_; clear n0_ n1_; clear hx0 hf0; obtain ⟨y0, hx0⟩ : ∃ y, wm4.cell? ⟨go5, (x5 : Int).toNat * 10, none⟩ = some (.int .i64 y) := (by obtain ⟨z_, h_, s_⟩ := HS.out.cell HG.out HC0.out; obtain ⟨y_, e_⟩ := s_.of_int; exact ⟨y_, e_ ▸ h_⟩); have hf0 : wm4.frozen? ⟨go5, (x5 : Int).toNat * 10, none⟩ = false := HS.out.frozen HG.out _; clear hx1 hf1; obtain ⟨y1, hx1⟩ : ∃ y, wm4.cell? ⟨go5, (x5 : Int).toNat * 10 + 1, none⟩ = some (.int .i64 y) := (by obtain ⟨z_, h_, s_⟩ := HS.out.cell HG.out HC1.out; obtain ⟨y_, e_⟩ := s_.of_int; exact ⟨y_, e_ ▸ h_⟩); have hf1 : wm4.frozen? ⟨go5, (x5 : Int).toNat * 10 + 1, none⟩ = false := HS.out.frozen HG.out _; clear hx2 hf2; obtain ⟨y2, hx2⟩ : ∃ y, wm4.cell? ⟨go5, (x5 : Int).toNat * 10 + 2, none⟩ = some (.string y) := (by obtain ⟨z_, h_, s_⟩ := HS.out.cell HG.out HC2.out; obtain ⟨y_, e_⟩ := s_.of_string; exact ⟨y_, e_ ▸ h_⟩); have hf2 : wm4.frozen? ⟨go5, (x5 : Int).toNat * 10 + 2, none⟩ = false := HS.out.frozen HG.out _; clear hx3 hf3; have hx3 : wm4.cell? ⟨go5, (x5 : Int).toNat * 10 + 3, none⟩ = some (.slice Ai3 ((rd_T55 l x5).f0.f3).length ci3) := (by obtain ⟨z_, h_, s_⟩ := HS.out.cell HG.out HC3.out; exact s_.of_slice ▸ h_); have hf3 : wm4.frozen? ⟨go5, (x5 : Int).toNat * 10 + 3, none⟩ = false := HS.out.frozen HG.out _; clear hx4 hf4; have hx4 : wm4.cell? ⟨go5, (x5 : Int).toNat * 10 + 4, none⟩ = some (.slice Ai4 ((rd_T55 l x5).f0.f4).length ci4) := (by obtain ⟨z_, h_, s_⟩ := HS.out.cell HG.out HC4.out; exact s_.of_slice ▸ h_); have hf4 : wm4.frozen? ⟨go5, (x5 : Int).toNat * 10 + 4, none⟩ = false := HS.out.frozen HG.out _; clear hx5 hf5; obtain ⟨y5, hx5⟩ : ∃ y, wm4.cell? ⟨go5, (x5 : Int).toNat * 10 + 5, none⟩ = some (.int .i64 y) := (by obtain ⟨z_, h_, s_⟩ := HS.out.cell HG.out HC5.out; obtain ⟨y_, e_⟩ := s_.of_int; exact ⟨y_, e_ ▸ h_⟩); have hf5 : wm4.frozen? ⟨go5, (x5 : Int).toNat * 10 + 5, none⟩ = false := HS.out.frozen HG.out _; clear hx6 hf6; obtain ⟨y6, hx6⟩ : ∃ y, wm4.cell? ⟨go5, (x5 : Int).toNat * 10 + 6, none⟩ = some (.int .i64 y) := (by obtain ⟨z_, h_, s_⟩ := HS.out.cell HG.out HC6.out; obtain ⟨y_, e_⟩ := s_.of_int; exact ⟨y_, e_ ▸ h_⟩); have hf6 : wm4.frozen? ⟨go5, (x5 : Int).toNat * 10 + 6, none⟩ = false := HS.out.frozen HG.out _; clear hx7 hf7; obtain ⟨y7, hx7⟩ : ∃ y, wm4.cell? ⟨go5, (x5 : Int).toNat * 10 + 7, none⟩ = some (.string y) := (by obtain ⟨z_, h_, s_⟩ := HS.out.cell HG.out HC7.out; obtain ⟨y_, e_⟩ := s_.of_string; exact ⟨y_, e_ ▸ h_⟩); have hf7 : wm4.frozen? ⟨go5, (x5 : Int).toNat * 10 + 7, none⟩ = false := HS.out.frozen HG.out _; clear hx8 hf8; have hx8 : wm4.cell? ⟨go5, (x5 : Int).toNat * 10 + 8, none⟩ = some (.slice Ai8 ((rd_T55 l x5).f1.f3).length ci8) := (by obtain ⟨z_, h_, s_⟩ := HS.out.cell HG.out HC8.out; exact s_.of_slice ▸ h_); have hf8 : wm4.frozen? ⟨go5, (x5 : Int).toNat * 10 + 8, none⟩ = false := HS.out.frozen HG.out _; clear hx9 hf9; have hx9 : wm4.cell? ⟨go5, (x5 : Int).toNat * 10 + 9, none⟩ = some (.slice Ai9 ((rd_T55 l x5).f1.f4).length ci9) := (by obtain ⟨z_, h_, s_⟩ := HS.out.cell HG.out HC9.out; exact s_.of_slice ▸ h_); have hf9 : wm4.frozen? ⟨go5, (x5 : Int).toNat * 10 + 9, none⟩ = false := HS.out.frozen HG.out _) | ((with_reducible refine gate_store (t := 3) (p := 58) rfl ?_); refine store_event (t := 3) (p := 58) (v := ?vo_ws5) (w1 := (wm4.setCell ⟨go5, (x5 : Int).toNat * 10 + 5, none⟩ (.int .i64 t4))) ?hg ?ho ?hn ?hr ?_; (case ho => rfl); (case hg => rfl); (case hn => rfl); (case hr => first | (go_simp; done) | (go_simp; rfl)); intro ws5 hw; have n0_ := Aside0.mk (show Soft b [37, 55] ws ws5 from by rw [hw]; exact Soft.set HS.out HG.out hx5 (SoftV.int _ _ _)); have n1_ := Aside0.mk (show Kept w ws5 (InRows b [37, 55] ws) from by rw [hw]; exact Kept.setCell HK.out (.inl HG.out) _); clear HS HK hw; have HS := n0_; have HK := n1_; clear n0_ n1_; clear hx0 hf0; obtain ⟨y0, hx0⟩ : ∃ y, ws5.cell? ⟨go5, (x5 : Int).toNat * 10, none⟩ = some (.int .i64 y) := (by obtain ⟨z_, h_, s_⟩ := HS.out.cell HG.out HC0.out; obtain ⟨y_, e_⟩ := s_.of_int; exact ⟨y_, e_ ▸ h_⟩); have hf0 : ws5.frozen? ⟨go5, (x5 : Int).toNat * 10, none⟩ = false := HS.out.frozen HG.out _; clear hx1 hf1; obtain ⟨y1, hx1⟩ : ∃ y, ws5.cell? ⟨go5, (x5 : Int).toNat * 10 + 1, none⟩ = some (.int .i64 y) := (by obtain ⟨z_, h_, s_⟩ := HS.out.cell HG.out HC1.out; obtain ⟨y_, e_⟩ := s_.of_int; exact ⟨y_, e_ ▸ h_⟩); have hf1 : ws5.frozen? ⟨go5, (x5 : Int).toNat * 10 + 1, none⟩ = false := HS.out.frozen HG.out _; clear hx2 hf2; obtain ⟨y2, hx2⟩ : ∃ y, ws5.cell? ⟨go5, (x5 : Int).toNat * 10 + 2, none⟩ = some (.string y) := (by obtain ⟨z_, h_, s_⟩ := HS.out.cell HG.out HC2.out; obtain ⟨y_, e_⟩ := s_.of_string; exact ⟨y_, e_ ▸ h_⟩); have hf2 : ws5.frozen? ⟨go5, (x5 : Int).toNat * 10 + 2, none⟩ = false := HS.out.frozen HG.out _; clear hx3 hf3; have hx3 : ws5.cell? ⟨go5, (x5 : Int).toNat * 10 + 3, none⟩ = some (.slice Ai3 ((rd_T55 l x5).f0.f3).length ci3) := (by obtain ⟨z_, h_, s_⟩ := HS.out.cell HG.out HC3.out; exact s_.of_slice ▸ h_); have hf3 : ws5.frozen? ⟨go5, (x5 : Int).toNat * 10 + 3, none⟩ = false := HS.out.frozen HG.out _; clear hx4 hf4; have hx4 : ws5.cell? ⟨go5, (x5 : Int).toNat * 10 + 4, none⟩ = some (.slice Ai4 ((rd_T55 l x5).f0.f4).length ci4) := (by obtain ⟨z_, h_, s_⟩ := HS.out.cell HG.out HC4.out; exact s_.of_slice ▸ h_); have hf4 : ws5.frozen? ⟨go5, (x5 : Int).toNat * 10 + 4, none⟩ = false := HS.out.frozen HG.out _; clear hx5 hf5; obtain ⟨y5, hx5⟩ : ∃ y, ws5.cell? ⟨go5, (x5 : Int).toNat * 10 + 5, none⟩ = some (.int .i64 y) := (by obtain ⟨z_, h_, s_⟩ := HS.out.cell HG.out HC5.out; obtain ⟨y_, e_⟩ := s_.of_int; exact ⟨y_, e_ ▸ h_⟩); have hf5 : ws5.frozen? ⟨go5, (x5 : Int).toNat * 10 + 5, none⟩ = false := HS.out.frozen HG.out _; clear hx6 hf6; obtain ⟨y6, hx6⟩ : ∃ y, ws5.cell? ⟨go5, (x5 : Int).toNat * 10 + 6, none⟩ = some (.int .i64 y) := (by obtain ⟨z_, h_, s_⟩ := HS.out.cell HG.out HC6.out; obtain ⟨y_, e_⟩ := s_.of_int; exact ⟨y_, e_ ▸ h_⟩); have hf6 : ws5.frozen? ⟨go5, (x5 : Int).toNat * 10 + 6, none⟩ = false := HS.out.frozen HG.out _; clear hx7 hf7; obtain ⟨y7, hx7⟩ : ∃ y, ws5.cell? ⟨go5, (x5 : Int).toNat * 10 + 7, none⟩ = some (.string y) := (by obtain ⟨z_, h_, s_⟩ := HS.out.cell HG.out HC7.out; obtain ⟨y_, e_⟩ := s_.of_string; exact ⟨y_, e_ ▸ h_⟩); have hf7 : ws5.frozen? ⟨go5, (x5 : Int).toNat * 10 + 7, none⟩ = false := HS.out.frozen HG.out _; clear hx8 hf8; have hx8 : ws5.cell? ⟨go5, (x5 : Int).toNat * 10 + 8, none⟩ = some (.slice Ai8 ((rd_T55 l x5).f1.f3).length ci8) := (by obtain ⟨z_, h_, s_⟩ := HS.out.cell HG.out HC8.out; exact s_.of_slice ▸ h_); have hf8 : ws5.frozen? ⟨go5, (x5 : Int).toNat * 10 + 8, none⟩ = false := HS.out.frozen HG.out _; clear hx9 hf9; have hx9 : ws5.cell? ⟨go5, (x5 : Int).toNat * 10 + 9, none⟩ = some (.slice Ai9 ((rd_T55 l x5).f1.f4).length ci9) := (by obtain ⟨z_, h_, s_⟩ := HS.out.cell HG.out HC9.out; exact s_.of_slice ▸ h_); have hf9 : ws5.frozen? ⟨go5, (x5 : Int).toNat * 10 + 9, none⟩ = false := HS.out.frozen HG.out _) | ((with_reducible refine gate_store (t := 3) (p := 66) rfl ?_); refine store_event (t := 3) (p := 66) (v := ?vo_ws6) (w1 := (ws5.setCell ⟨go5, (x5 : Int).toNat * 10 + 6, none⟩ (.int .i64 (wrap64 (t4 + 1))))) ?hg ?ho ?hn ?hr ?_; (case ho => rfl); (case hg => rfl); (case hn => rfl); (case hr => first | (go_simp; done) | (go_simp; rfl)); intro ws6 hw; have n0_ := Aside0.mk (show Soft b [37, 55] ws ws6 from by rw [hw]; exact Soft.set HS.out HG.out hx6 (SoftV.int _ _ _)); have n1_ := Aside0.mk (show Kept w ws6 (InRows b [37, 55] ws) from by rw [hw]; exact Kept.setCell HK.out (.inl HG.out) _); clear HS HK hw; have HS := n0_; have HK := n1_; clear n0_ n1_; clear hx0 hf0; obtain ⟨y0, hx0⟩ : ∃ y, ws6.cell? ⟨go5, (x5 : Int).toNat * 10, none⟩ = some (.int .i64 y) := (by obtain ⟨z_, h_, s_⟩ := HS.out.cell HG.out HC0.out; obtain ⟨y_, e_⟩ := s_.of_int; exact ⟨y_, e_ ▸ h_⟩); have hf0 : ws6.frozen? ⟨go5, (x5 : Int).toNat * 10, none⟩ = false := HS.out.frozen HG.out _; clear hx1 hf1; obtain ⟨y1, hx1⟩ : ∃ y, ws6.cell? ⟨go5, (x5 : Int).toNat * 10 + 1, none⟩ = some (.int .i64 y) := (by obtain ⟨z_, h_, s_⟩ := HS.out.cell HG.out HC1.out; obtain ⟨y_, e_⟩ := s_.of_int; exact ⟨y_, e_ ▸ h_⟩); have hf1 : ws6.frozen? ⟨go5, (x5 : Int).toNat * 10 + 1, none⟩ = false := HS.out.frozen HG.out _; clear hx2 hf2; obtain ⟨y2, hx2⟩ : ∃ y, ws6.cell? ⟨go5, (x5 : Int).toNat * 10 + 2, none⟩ = some (.string y) := (by obtain ⟨z_, h_, s_⟩ := HS.out.cell HG.out HC2.out; obtain ⟨y_, e_⟩ := s_.of_string; exact ⟨y_, e_ ▸ h_⟩); have hf2 : ws6.frozen? ⟨go5, (x5 : Int).toNat * 10 + 2, none⟩ = false := HS.out.frozen HG.out _; clear hx3 hf3; have hx3 : ws6.cell? ⟨go5, (x5 : Int).toNat * 10 + 3, none⟩ = some (.slice Ai3 ((rd_T55 l x5).f0.f3).length ci3) := (by obtain ⟨z_, h_, s_⟩ := HS.out.cell HG.out HC3.out; exact s_.of_slice ▸ h_); have hf3 : ws6.frozen? ⟨go5, (x5 : Int).toNat * 10 + 3, none⟩ = false := HS.out.frozen HG.out _; clear hx4 hf4; have hx4 : ws6.cell? ⟨go5, (x5 : Int).toNat * 10 + 4, none⟩ = some (.slice Ai4 ((rd_T55 l x5).f0.f4).length ci4) := (by obtain ⟨z_, h_, s_⟩ := HS.out.cell HG.out HC4.out; exact s_.of_slice ▸ h_); have hf4 : ws6.frozen? ⟨go5, (x5 : Int).toNat * 10 + 4, none⟩ = false := HS.out.frozen HG.out _; clear hx5 hf5; obtain ⟨y5, hx5⟩ : ∃ y, ws6.cell? ⟨go5, (x5 : Int).toNat * 10 + 5, none⟩ = some (.int .i64 y) := (by obtain ⟨z_, h_, s_⟩ := HS.out.cell HG.out HC5.out; obtain ⟨y_, e_⟩ := s_.of_int; exact ⟨y_, e_ ▸ h_⟩); have hf5 : ws6.frozen? ⟨go5, (x5 : Int).toNat * 10 + 5, none⟩ = false := HS.out.frozen HG.out _; clear hx6 hf6; obtain ⟨y6, hx6⟩ : ∃ y, ws6.cell? ⟨go5, (x5 : Int).toNat * 10 + 6, none⟩ = some (.int .i64 y) := (by obtain ⟨z_, h_, s_⟩ := HS.out.cell HG.out HC6.out; obtain ⟨y_, e_⟩ := s_.of_int; exact ⟨y_, e_ ▸ h_⟩); have hf6 : ws6.frozen? ⟨go5, (x5 : Int).toNat * 10 + 6, none⟩ = false := HS.out.frozen HG.out _; clear hx7 hf7; obtain ⟨y7, hx7⟩ : ∃ y, ws6.cell? ⟨go5, (x5 : Int).toNat * 10 + 7, none⟩ = some (.string y) := (by obtain ⟨z_, h_, s_⟩ := HS.out.cell HG.out HC7.out; obtain ⟨y_, e_⟩ := s_.of_string; exact ⟨y_, e_ ▸ h_⟩); have hf7 : ws6.frozen? ⟨go5, (x5 : Int).toNat * 10 + 7, none⟩ = false := HS.out.frozen HG.out _; clear hx8 hf8; have hx8 : ws6.cell? ⟨go5, (x5 : Int).toNat * 10 + 8, none⟩ = some (.slice Ai8 ((rd_T55 l x5).f1.f3).length ci8) := (by obtain ⟨z_, h_, s_⟩ := HS.out.cell HG.out HC8.out; exact s_.of_slice ▸ h_); have hf8 : ws6.frozen? ⟨go5, (x5 : Int).toNat * 10 + 8, none⟩ = false := HS.out.frozen HG.out _; clear hx9 hf9; have hx9 : ws6.cell? ⟨go5, (x5 : Int).toNat * 10 + 9, none⟩ = some (.slice Ai9 ((rd_T55 l x5).f1.f4).length ci9) := (by obtain ⟨z_, h_, s_⟩ := HS.out.cell HG.out HC9.out; exact s_.of_slice ▸ h_); have hf9 : ws6.frozen? ⟨go5, (x5 : Int).toNat * 10 + 9, none⟩ = false := HS.out.frozen HG.out _) | (go_at_call 81; (with_reducible refine (laws_markText.calls k1 (wrap64 ((wrap64 (t4 + 1)) + 1)) t7 _ A7.out).mono ?_); rintro e wc7 ⟨rfl, hb⟩; have n0_ := Aside0.mk (Soft.step HS.out HBS.out hb); have n1_ := Aside0.mk (Kept.below HK.out hb); clear HS HK hb; have HS := n0_; have HK := n1_; clear n0_ n1_; clear hx0 hf0; obtain ⟨y0, hx0⟩ : ∃ y, wc7.cell? ⟨go5, (x5 : Int).toNat * 10, none⟩ = some (.int .i64 y) := (by obtain ⟨z_, h_, s_⟩ := HS.out.cell HG.out HC0.out; obtain ⟨y_, e_⟩ := s_.of_int; exact ⟨y_, e_ ▸ h_⟩); have hf0 : wc7.frozen? ⟨go5, (x5 : Int).toNat * 10, none⟩ = false := HS.out.frozen HG.out _; clear hx1 hf1; obtain ⟨y1, hx1⟩ : ∃ y, wc7.cell? ⟨go5, (x5 : Int).toNat * 10 + 1, none⟩ = some (.int .i64 y) := (by obtain ⟨z_, h_, s_⟩ := HS.out.cell HG.out HC1.out; obtain ⟨y_, e_⟩ := s_.of_int; exact ⟨y_, e_ ▸ h_⟩); have hf1 : wc7.frozen? ⟨go5, (x5 : Int).toNat * 10 + 1, none⟩ = false := HS.out.frozen HG.out _; clear hx2 hf2; obtain ⟨y2, hx2⟩ : ∃ y, wc7.cell? ⟨go5, (x5 : Int).toNat * 10 + 2, none⟩ = some (.string y) := (by obtain ⟨z_, h_, s_⟩ := HS.out.cell HG.out HC2.out; obtain ⟨y_, e_⟩ := s_.of_string; exact ⟨y_, e_ ▸ h_⟩); have hf2 : wc7.frozen? ⟨go5, (x5 : Int).toNat * 10 + 2, none⟩ = false := HS.out.frozen HG.out _; clear hx3 hf3; have hx3 : wc7.cell? ⟨go5, (x5 : Int).toNat * 10 + 3, none⟩ = some (.slice Ai3 ((rd_T55 l x5).f0.f3).length ci3) := (by obtain ⟨z_, h_, s_⟩ := HS.out.cell HG.out HC3.out; exact s_.of_slice ▸ h_); have hf3 : wc7.frozen? ⟨go5, (x5 : Int).toNat * 10 + 3, none⟩ = false := HS.out.frozen HG.out _; clear hx4 hf4; have hx4 : wc7.cell? ⟨go5, (x5 : Int).toNat * 10 + 4, none⟩ = some (.slice Ai4 ((rd_T55 l x5).f0.f4).length ci4) := (by obtain ⟨z_, h_, s_⟩ := HS.out.cell HG.out HC4.out; exact s_.of_slice ▸ h_); have hf4 : wc7.frozen? ⟨go5, (x5 : Int).toNat * 10 + 4, none⟩ = false := HS.out.frozen HG.out _; clear hx5 hf5; obtain ⟨y5, hx5⟩ : ∃ y, wc7.cell? ⟨go5, (x5 : Int).toNat * 10 + 5, none⟩ = some (.int .i64 y) := (by obtain ⟨z_, h_, s_⟩ := HS.out.cell HG.out HC5.out; obtain ⟨y_, e_⟩ := s_.of_int; exact ⟨y_, e_ ▸ h_⟩); have hf5 : wc7.frozen? ⟨go5, (x5 : Int).toNat * 10 + 5, none⟩ = false := HS.out.frozen HG.out _; clear hx6 hf6; obtain ⟨y6, hx6⟩ : ∃ y, wc7.cell? ⟨go5, (x5 : Int).toNat * 10 + 6, none⟩ = some (.int .i64 y) := (by obtain ⟨z_, h_, s_⟩ := HS.out.cell HG.out HC6.out; obtain ⟨y_, e_⟩ := s_.of_int; exact ⟨y_, e_ ▸ h_⟩); have hf6 : wc7.frozen? ⟨go5, (x5 : Int).toNat * 10 + 6, none⟩ = false := HS.out.frozen HG.out _; clear hx7 hf7; obtain ⟨y7, hx7⟩ : ∃ y, wc7.cell? ⟨go5, (x5 : Int).toNat * 10 + 7, none⟩ = some (.string y) := (by obtain ⟨z_, h_, s_⟩ := HS.out.cell HG.out HC7.out; obtain ⟨y_, e_⟩ := s_.of_string; exact ⟨y_, e_ ▸ h_⟩); have hf7 : wc7.frozen? ⟨go5, (x5 : Int).toNat * 10 + 7, none⟩ = false := HS.out.frozen HG.out _; clear hx8 hf8; have hx8 : wc7.cell? ⟨go5, (x5 : Int).toNat * 10 + 8, none⟩ = some (.slice Ai8 ((rd_T55 l x5).f1.f3).length ci8) := (by obtain ⟨z_, h_, s_⟩ := HS.out.cell HG.out HC8.out; exact s_.of_slice ▸ h_); have hf8 : wc7.frozen? ⟨go5, (x5 : Int).toNat * 10 + 8, none⟩ = false := HS.out.frozen HG.out _; clear hx9 hf9; have hx9 : wc7.cell? ⟨go5, (x5 : Int).toNat * 10 + 9, none⟩ = some (.slice Ai9 ((rd_T55 l x5).f1.f4).length ci9) := (by obtain ⟨z_, h_, s_⟩ := HS.out.cell HG.out HC9.out; exact s_.of_slice ▸ h_); have hf9 : wc7.frozen? ⟨go5, (x5 : Int).toNat * 10 + 9, none⟩ = false := HS.out.frozen HG.out _) | ((with_reducible refine gate_store (t := 9) (p := 75) rfl ?_); refine store_event (t := 9) (p := 75) (v := ?vo_ws7) (w1 := (wc7.setCell ⟨go5, (x5 : Int).toNat * 10 + 7, none⟩ (.string t7))) ?hg ?ho ?hn ?hr ?_; (case ho => rfl); (case hg => rfl); (case hn => rfl); (case hr => first | (go_simp; done) | (go_simp; rfl)); intro ws7 hw; have n0_ := Aside0.mk (show Soft b [37, 55] ws ws7 from by rw [hw]; exact Soft.set HS.out HG.out hx7 (SoftV.string _ _)); have n1_ := Aside0.mk (show Kept w ws7 (InRows b [37, 55] ws) from by rw [hw]; exact Kept.setCell HK.out (.inl HG.out) _); clear HS HK hw; have HS := n0_; have HK := n1_; clear n0_ n1_; clear hx0 hf0; obtain ⟨y0, hx0⟩ : ∃ y, ws7.cell? ⟨go5, (x5 : Int).toNat * 10, none⟩ = some (.int .i64 y) := (by obtain ⟨z_, h_, s_⟩ := HS.out.cell HG.out HC0.out; obtain ⟨y_, e_⟩ := s_.of_int; exact ⟨y_, e_ ▸ h_⟩); have hf0 : ws7.frozen? ⟨go5, (x5 : Int).toNat * 10, none⟩ = false := HS.out.frozen HG.out _; clear hx1 hf1; obtain ⟨y1, hx1⟩ : ∃ y, ws7.cell? ⟨go5, (x5 : Int).toNat * 10 + 1, none⟩ = some (.int .i64 y) := (by obtain ⟨z_, h_, s_⟩ := HS.out.cell HG.out HC1.out; obtain ⟨y_, e_⟩ := s_.of_int; exact ⟨y_, e_ ▸ h_⟩); have hf1 : ws7.frozen? ⟨go5, (x5 : Int).toNat * 10 + 1, none⟩ = false := HS.out.frozen HG.out _; clear hx2 hf2; obtain ⟨y2, hx2⟩ : ∃ y, ws7.cell? ⟨go5, (x5 : Int).toNat * 10 + 2, none⟩ = some (.string y) := (by obtain ⟨z_, h_, s_⟩ := HS.out.cell HG.out HC2.out; obtain ⟨y_, e_⟩ := s_.of_string; exact ⟨y_, e_ ▸ h_⟩); have hf2 : ws7.frozen? ⟨go5, (x5 : Int).toNat * 10 + 2, none⟩ = false := HS.out.frozen HG.out _; clear hx3 hf3; have hx3 : ws7.cell? ⟨go5, (x5 : Int).toNat * 10 + 3, none⟩ = some (.slice Ai3 ((rd_T55 l x5).f0.f3).length ci3) := (by obtain ⟨z_, h_, s_⟩ := HS.out.cell HG.out HC3.out; exact s_.of_slice ▸ h_); have hf3 : ws7.frozen? ⟨go5, (x5 : Int).toNat * 10 + 3, none⟩ = false := HS.out.frozen HG.out _; clear hx4 hf4; have hx4 : ws7.cell? ⟨go5, (x5 : Int).toNat * 10 + 4, none⟩ = some (.slice Ai4 ((rd_T55 l x5).f0.f4).length ci4) := (by obtain ⟨z_, h_, s_⟩ := HS.out.cell HG.out HC4.out; exact s_.of_slice ▸ h_); have hf4 : ws7.frozen? ⟨go5, (x5 : Int).toNat * 10 + 4, none⟩ = false := HS.out.frozen HG.out _; clear hx5 hf5; obtain ⟨y5, hx5⟩ : ∃ y, ws7.cell? ⟨go5, (x5 : Int).toNat * 10 + 5, none⟩ = some (.int .i64 y) := (by obtain ⟨z_, h_, s_⟩ := HS.out.cell HG.out HC5.out; obtain ⟨y_, e_⟩ := s_.of_int; exact ⟨y_, e_ ▸ h_⟩); have hf5 : ws7.frozen? ⟨go5, (x5 : Int).toNat * 10 + 5, none⟩ = false := HS.out.frozen HG.out _; clear hx6 hf6; obtain ⟨y6, hx6⟩ : ∃ y, ws7.cell? ⟨go5, (x5 : Int).toNat * 10 + 6, none⟩ = some (.int .i64 y) := (by obtain ⟨z_, h_, s_⟩ := HS.out.cell HG.out HC6.out; obtain ⟨y_, e_⟩ := s_.of_int; exact ⟨y_, e_ ▸ h_⟩); have hf6 : ws7.frozen? ⟨go5, (x5 : Int).toNat * 10 + 6, none⟩ = false := HS.out.frozen HG.out _; clear hx7 hf7; obtain ⟨y7, hx7⟩ : ∃ y, ws7.cell? ⟨go5, (x5 : Int).toNat * 10 + 7, none⟩ = some (.string y) := (by obtain ⟨z_, h_, s_⟩ := HS.out.cell HG.out HC7.out; obtain ⟨y_, e_⟩ := s_.of_string; exact ⟨y_, e_ ▸ h_⟩); have hf7 : ws7.frozen? ⟨go5, (x5 : Int).toNat * 10 + 7, none⟩ = false := HS.out.frozen HG.out _; clear hx8 hf8; have hx8 : ws7.cell? ⟨go5, (x5 : Int).toNat * 10 + 8, none⟩ = some (.slice Ai8 ((rd_T55 l x5).f1.f3).length ci8) := (by obtain ⟨z_, h_, s_⟩ := HS.out.cell HG.out HC8.out; exact s_.of_slice ▸ h_); have hf8 : ws7.frozen? ⟨go5, (x5 : Int).toNat * 10 + 8, none⟩ = false := HS.out.frozen HG.out _; clear hx9 hf9; have hx9 : ws7.cell? ⟨go5, (x5 : Int).toNat * 10 + 9, none⟩ = some (.slice Ai9 ((rd_T55 l x5).f1.f4).length ci9) := (by obtain ⟨z_, h_, s_⟩ := HS.out.cell HG.out HC9.out; exact s_.of_slice ▸ h_); have hf9 : ws7.frozen? ⟨go5, (x5 : Int).toNat * 10 + 9, none⟩ = false := HS.out.frozen HG.out _) | (go_at_call 79; (with_reducible refine (ih_laws_markExprS k1 (by have := HK1.out; omega) _ _ t8 A8.out b _ _ ws _ HBS.out HR8.out HS.out).mono ?_); rintro e wm8 ⟨rfl, hs, hk⟩; have n0_ := Aside0.mk hs; have n1_ := Aside0.mk (Kept.then_ HK.out hk (fun _ h_ => .inl h_)); clear HS HK hs hk; have HS := n0_; have HK := n1_; clear n0_ n1_; clear hx0 hf0; obtain ⟨y0, hx0⟩ : ∃ y, wm8.cell? ⟨go5, (x5 : Int).toNat * 10, none⟩ = some (.int .i64 y) := (by obtain ⟨z_, h_, s_⟩ := HS.out.cell HG.out HC0.out; obtain ⟨y_, e_⟩ := s_.of_int; exact ⟨y_, e_ ▸ h_⟩); have hf0 : wm8.frozen? ⟨go5, (x5 : Int).toNat * 10, none⟩ = false := HS.out.frozen HG.out _; clear hx1 hf1; obtain ⟨y1, hx1⟩ : ∃ y, wm8.cell? ⟨go5, (x5 : Int).toNat * 10 + 1, none⟩ = some (.int .i64 y) := (by obtain ⟨z_, h_, s_⟩ := HS.out.cell HG.out HC1.out; obtain ⟨y_, e_⟩ := s_.of_int; exact ⟨y_, e_ ▸ h_⟩); have hf1 : wm8.frozen? ⟨go5, (x5 : Int).toNat * 10 + 1, none⟩ = false := HS.out.frozen HG.out _; clear hx2 hf2; obtain ⟨y2, hx2⟩ : ∃ y, wm8.cell? ⟨go5, (x5 : Int).toNat * 10 + 2, none⟩ = some (.string y) := (by obtain ⟨z_, h_, s_⟩ := HS.out.cell HG.out HC2.out; obtain ⟨y_, e_⟩ := s_.of_string; exact ⟨y_, e_ ▸ h_⟩); have hf2 : wm8.frozen? ⟨go5, (x5 : Int).toNat * 10 + 2, none⟩ = false := HS.out.frozen HG.out _; clear hx3 hf3; have hx3 : wm8.cell? ⟨go5, (x5 : Int).toNat * 10 + 3, none⟩ = some (.slice Ai3 ((rd_T55 l x5).f0.f3).length ci3) := (by obtain ⟨z_, h_, s_⟩ := HS.out.cell HG.out HC3.out; exact s_.of_slice ▸ h_); have hf3 : wm8.frozen? ⟨go5, (x5 : Int).toNat * 10 + 3, none⟩ = false := HS.out.frozen HG.out _; clear hx4 hf4; have hx4 : wm8.cell? ⟨go5, (x5 : Int).toNat * 10 + 4, none⟩ = some (.slice Ai4 ((rd_T55 l x5).f0.f4).length ci4) := (by obtain ⟨z_, h_, s_⟩ := HS.out.cell HG.out HC4.out; exact s_.of_slice ▸ h_); have hf4 : wm8.frozen? ⟨go5, (x5 : Int).toNat * 10 + 4, none⟩ = false := HS.out.frozen HG.out _; clear hx5 hf5; obtain ⟨y5, hx5⟩ : ∃ y, wm8.cell? ⟨go5, (x5 : Int).toNat * 10 + 5, none⟩ = some (.int .i64 y) := (by obtain ⟨z_, h_, s_⟩ := HS.out.cell HG.out HC5.out; obtain ⟨y_, e_⟩ := s_.of_int; exact ⟨y_, e_ ▸ h_⟩); have hf5 : wm8.frozen? ⟨go5, (x5 : Int).toNat * 10 + 5, none⟩ = false := HS.out.frozen HG.out _; clear hx6 hf6; obtain ⟨y6, hx6⟩ : ∃ y, wm8.cell? ⟨go5, (x5 : Int).toNat * 10 + 6, none⟩ = some (.int .i64 y) := (by obtain ⟨z_, h_, s_⟩ := HS.out.cell HG.out HC6.out; obtain ⟨y_, e_⟩ := s_.of_int; exact ⟨y_, e_ ▸ h_⟩); have hf6 : wm8.frozen? ⟨go5, (x5 : Int).toNat * 10 + 6, none⟩ = false := HS.out.frozen HG.out _; clear hx7 hf7; obtain ⟨y7, hx7⟩ : ∃ y, wm8.cell? ⟨go5, (x5 : Int).toNat * 10 + 7, none⟩ = some (.string y) := (by obtain ⟨z_, h_, s_⟩ := HS.out.cell HG.out HC7.out; obtain ⟨y_, e_⟩ := s_.of_string; exact ⟨y_, e_ ▸ h_⟩); have hf7 : wm8.frozen? ⟨go5, (x5 : Int).toNat * 10 + 7, none⟩ = false := HS.out.frozen HG.out _; clear hx8 hf8; have hx8 : wm8.cell? ⟨go5, (x5 : Int).toNat * 10 + 8, none⟩ = some (.slice Ai8 ((rd_T55 l x5).f1.f3).length ci8) := (by obtain ⟨z_, h_, s_⟩ := HS.out.cell HG.out HC8.out; exact s_.of_slice ▸ h_); have hf8 : wm8.frozen? ⟨go5, (x5 : Int).toNat * 10 + 8, none⟩ = false := HS.out.frozen HG.out _; clear hx9 hf9; have hx9 : wm8.cell? ⟨go5, (x5 : Int).toNat * 10 + 9, none⟩ = some (.slice Ai9 ((rd_T55 l x5).f1.f4).length ci9) := (by obtain ⟨z_, h_, s_⟩ := HS.out.cell HG.out HC9.out; exact s_.of_slice ▸ h_); have hf9 : wm8.frozen? ⟨go5, (x5 : Int).toNat * 10 + 9, none⟩ = false := HS.out.frozen HG.out _) | (go_at_call 80; (with_reducible refine (ih_laws_markClauseS k1 (by have := HK1.out; omega) _ _ t9 A9.out b _ _ ws _ HBS.out HR9.out HS.out).mono ?_); rintro e wm9 ⟨rfl, hs, hk⟩; have n0_ := Aside0.mk hs; have n1_ := Aside0.mk (Kept.then_ HK.out hk (fun _ h_ => .inl h_)); clear HS HK hs hk; have HS := n0_; have HK := n1_; clear n0_ n1_; clear hx0 hf0; obtain ⟨y0, hx0⟩ : ∃ y, wm9.cell? ⟨go5, (x5 : Int).toNat * 10, none⟩ = some (.int .i64 y) := (by obtain ⟨z_, h_, s_⟩ := HS.out.cell HG.out HC0.out; obtain ⟨y_, e_⟩ := s_.of_int; exact ⟨y_, e_ ▸ h_⟩); have hf0 : wm9.frozen? ⟨go5, (x5 : Int).toNat * 10, none⟩ = false := HS.out.frozen HG.out _; clear hx1 hf1; obtain ⟨y1, hx1⟩ : ∃ y, wm9.cell? ⟨go5, (x5 : Int).toNat * 10 + 1, none⟩ = some (.int .i64 y) := (by obtain ⟨z_, h_, s_⟩ := HS.out.cell HG.out HC1.out; obtain ⟨y_, e_⟩ := s_.of_int; exact ⟨y_, e_ ▸ h_⟩); have hf1 : wm9.frozen? ⟨go5, (x5 : Int).toNat * 10 + 1, none⟩ = false := HS.out.frozen HG.out _; clear hx2 hf2; obtain ⟨y2, hx2⟩ : ∃ y, wm9.cell? ⟨go5, (x5 : Int).toNat * 10 + 2, none⟩ = some (.string y) := (by obtain ⟨z_, h_, s_⟩ := HS.out.cell HG.out HC2.out; obtain ⟨y_, e_⟩ := s_.of_string; exact ⟨y_, e_ ▸ h_⟩); have hf2 : wm9.frozen? ⟨go5, (x5 : Int).toNat * 10 + 2, none⟩ = false := HS.out.frozen HG.out _; clear hx3 hf3; have hx3 : wm9.cell? ⟨go5, (x5 : Int).toNat * 10 + 3, none⟩ = some (.slice Ai3 ((rd_T55 l x5).f0.f3).length ci3) := (by obtain ⟨z_, h_, s_⟩ := HS.out.cell HG.out HC3.out; exact s_.of_slice ▸ h_); have hf3 : wm9.frozen? ⟨go5, (x5 : Int).toNat * 10 + 3, none⟩ = false := HS.out.frozen HG.out _; clear hx4 hf4; have hx4 : wm9.cell? ⟨go5, (x5 : Int).toNat * 10 + 4, none⟩ = some (.slice Ai4 ((rd_T55 l x5).f0.f4).length ci4) := (by obtain ⟨z_, h_, s_⟩ := HS.out.cell HG.out HC4.out; exact s_.of_slice ▸ h_); have hf4 : wm9.frozen? ⟨go5, (x5 : Int).toNat * 10 + 4, none⟩ = false := HS.out.frozen HG.out _; clear hx5 hf5; obtain ⟨y5, hx5⟩ : ∃ y, wm9.cell? ⟨go5, (x5 : Int).toNat * 10 + 5, none⟩ = some (.int .i64 y) := (by obtain ⟨z_, h_, s_⟩ := HS.out.cell HG.out HC5.out; obtain ⟨y_, e_⟩ := s_.of_int; exact ⟨y_, e_ ▸ h_⟩); have hf5 : wm9.frozen? ⟨go5, (x5 : Int).toNat * 10 + 5, none⟩ = false := HS.out.frozen HG.out _; clear hx6 hf6; obtain ⟨y6, hx6⟩ : ∃ y, wm9.cell? ⟨go5, (x5 : Int).toNat * 10 + 6, none⟩ = some (.int .i64 y) := (by obtain ⟨z_, h_, s_⟩ := HS.out.cell HG.out HC6.out; obtain ⟨y_, e_⟩ := s_.of_int; exact ⟨y_, e_ ▸ h_⟩); have hf6 : wm9.frozen? ⟨go5, (x5 : Int).toNat * 10 + 6, none⟩ = false := HS.out.frozen HG.out _; clear hx7 hf7; obtain ⟨y7, hx7⟩ : ∃ y, wm9.cell? ⟨go5, (x5 : Int).toNat * 10 + 7, none⟩ = some (.string y) := (by obtain ⟨z_, h_, s_⟩ := HS.out.cell HG.out HC7.out; obtain ⟨y_, e_⟩ := s_.of_string; exact ⟨y_, e_ ▸ h_⟩); have hf7 : wm9.frozen? ⟨go5, (x5 : Int).toNat * 10 + 7, none⟩ = false := HS.out.frozen HG.out _; clear hx8 hf8; have hx8 : wm9.cell? ⟨go5, (x5 : Int).toNat * 10 + 8, none⟩ = some (.slice Ai8 ((rd_T55 l x5).f1.f3).length ci8) := (by obtain ⟨z_, h_, s_⟩ := HS.out.cell HG.out HC8.out; exact s_.of_slice ▸ h_); have hf8 : wm9.frozen? ⟨go5, (x5 : Int).toNat * 10 + 8, none⟩ = false := HS.out.frozen HG.out _; clear hx9 hf9; have hx9 : wm9.cell? ⟨go5, (x5 : Int).toNat * 10 + 9, none⟩ = some (.slice Ai9 ((rd_T55 l x5).f1.f4).length ci9) := (by obtain ⟨z_, h_, s_⟩ := HS.out.cell HG.out HC9.out; exact s_.of_slice ▸ h_); have hf9 : wm9.frozen? ⟨go5, (x5 : Int).toNat * 10 + 9, none⟩ = false := HS.out.frozen HG.out _))
          go_roundg k1
          case measure => have := HK1.out; omega
          case rel => exact ⟨t9, wrap64 (x5 + 1), (by first | rfl | (simp; done) | (simp [*]; done)), (by first | rfl | (simp; done) | (simp [*]; done)), H', ⟨by have := HK1.out; omega⟩, HS, HK⟩
        · rw [if_neg c4] at H
          exact absurd H (by simp)
      · rw [if_neg c3] at H
        have c3b0 : decide (x5 < (l.length : Int)) = false := decide_eq_false c3
        clear c3
        simp only [Option.some.injEq] at H
        subst H
        go_wp2
        go_ret
        exact ⟨by first | rfl | (simp; done) | (simp [*]; done), HS.out, HK.out⟩
set_option maxHeartbeats 8000000 in
set_option maxRecDepth 100000 in
theorem laws_markExprS.step (k : Nat) (ih_laws_markClauseS : ∀ k_, k_ < k → (∀ (l : List (S55)) (n r : Int), laws_markClauseS.f k_ l n = some r → ∀ (b : Nat) (ok : Nat → Prop) (v : Value) (ws w : World), b ≤ ws.heap.size → Kd.R k55 55 ws b ok v l → Soft b [37, 55] ws w → Calls Try.prog 80 #[v, .int .i64 n] w fun e w' => e = .returned (.int .i64 r) ∧ Soft b [37, 55] ws w' ∧ Kept w w' (InRows b [37, 55] ws))) (ih_laws_markExprS : ∀ k_, k_ < k → (∀ (l : List (S37)) (n r : Int), laws_markExprS.f k_ l n = some r → ∀ (b : Nat) (ok : Nat → Prop) (v : Value) (ws w : World), b ≤ ws.heap.size → Kd.R k37 37 ws b ok v l → Soft b [37, 55] ws w → Calls Try.prog 79 #[v, .int .i64 n] w fun e w' => e = .returned (.int .i64 r) ∧ Soft b [37, 55] ws w' ∧ Kept w w' (InRows b [37, 55] ws))) : ∀ (l : List (S37)) (n r : Int), laws_markExprS.f k l n = some r → ∀ (b : Nat) (ok : Nat → Prop) (v : Value) (ws w : World), b ≤ ws.heap.size → Kd.R k37 37 ws b ok v l → Soft b [37, 55] ws w → Calls Try.prog 79 #[v, .int .i64 n] w fun e w' => e = .returned (.int .i64 r) ∧ Soft b [37, 55] ws w' ∧ Kept w w' (InRows b [37, 55] ws) := by
  intro l n r h b ok v ws w hb hR hS
  cases k with
  | zero => exact absurd h (by simp [laws_markExprS.f])
  | succ k =>
  simp only [laws_markExprS.f] at h
  obtain ⟨Ao, co, eo⟩ := Kd.R_slice hR
  subst eo
  have HR := Aside0.mk hR
  have HBS := Aside0.mk hb
  have HS := Aside0.mk hS
  have HK := Aside0.mk (Kept.refl w (InRows b [37, 55] ws))
  clear hR hb hS
  have H' := Aside0.mk h
  clear h
  go_enter Try.func79, Try.ntmps79
  go_wp2
  go_loopg [1, 5] k (fun kq v1 v5 w' => ∃ (x1 : Int) (x5 : Int), v1 = .int .i64 x1 ∧ v5 = .int .i64 x5 ∧ Aside0 (laws_markExprS.l0 kq l x1 x5 = some r) ∧ Aside0 (kq ≤ k) ∧ Aside0 (Soft b [37, 55] ws w') ∧ Aside0 (Kept w w' (InRows b [37, 55] ws)))
  case atStart => exact ⟨n, 0, (by first | rfl | (simp; done) | (simp [*]; done)), (by first | rfl | (simp; done) | (simp [*]; done)), H', ⟨Nat.le_refl _⟩, HS, HK⟩
  case round =>
    clear H'
    clear HS HK
    obtain ⟨x1, x5, rfl, rfl, HA, HK1, HS, HK⟩ := hrel
    cases gk with
    | zero => exact absurd HA.out (by simp [laws_markExprS.l0])
    | succ k1 =>
      have H := HA.out
      clear HA
      simp only [laws_markExprS.l0] at H
      by_cases c3 : x5 < (l.length : Int)
      · rw [if_pos c3] at H
        have c3b0 : decide (x5 < (l.length : Int)) = true := decide_eq_true c3
        by_cases c4 : 0 ≤ x5
        · rw [if_pos c4] at H
          have c4b0 : decide (0 ≤ x5) = true := decide_eq_true c4
          replace H := Option.bind_eq_some_iff.mp H
          obtain ⟨t2, B2, H⟩ := H
          replace H : ((laws_markExprS.f k1 ((rd_T37 l x5).f3) (wrap64 ((wrap64 ((wrap64 (x1 + 1)) + 1)) + 1))).bind fun t3 => ((laws_markClauseS.f k1 ((rd_T37 l x5).f4) t3).bind fun t4 => (laws_markExprS.l0 k1 l t4 (wrap64 (x5 + 1))))) = some r := H
          have A2 := Aside0.mk B2
          clear B2
          replace H := Option.bind_eq_some_iff.mp H
          obtain ⟨t3, B3, H⟩ := H
          replace H : ((laws_markClauseS.f k1 ((rd_T37 l x5).f4) t3).bind fun t4 => (laws_markExprS.l0 k1 l t4 (wrap64 (x5 + 1)))) = some r := H
          have A3 := Aside0.mk B3
          clear B3
          replace H := Option.bind_eq_some_iff.mp H
          obtain ⟨t4, B4, H⟩ := H
          replace H : (laws_markExprS.l0 k1 l t4 (wrap64 (x5 + 1))) = some r := H
          have A4 := Aside0.mk B4
          clear B4
          have H' := Aside0.mk H
          clear H
          obtain ⟨go5, co5, eo5, gb5, gl5, cl5, HG5⟩ := Kd.R_form HR.out (by omega)
          (first | cases eo5 | (injection eo5 with ea_ en_ ec_; (first | subst ea_ | (injection ea_ with ea_; subst ea_)); subst ec_; clear en_))
          have HG := Aside0.mk (show InRows b [37, 55] ws go5 from ⟨gb5, 37, by decide, cl5, HG5⟩)
          clear gb5 gl5 HG5
          obtain ⟨ce5, hcl5, hM5, hcc5, hfr5⟩ := Kd.R_elem HR.out z37 (x5 : Int) c4 c3
          obtain ⟨v3, v4, rfl, hR3, hR4⟩ := k37_openM hM5
          obtain ⟨Ai3, ci3, ei3⟩ := Kd.R_slice hR3
          subst ei3
          have HR3 := Aside0.mk hR3
          clear hR3
          obtain ⟨Ai4, ci4, ei4⟩ := Kd.R_slice hR4
          subst ei4
          have HR4 := Aside0.mk hR4
          clear hR4
          have HC0 := Aside0.mk (show ws.cell? ⟨go5, (x5 : Int).toNat * 5, none⟩ = some (.int .i64 ((rd_T37 l x5).f0)) from hcc5 0 _ rfl)
          have HC1 := Aside0.mk (show ws.cell? ⟨go5, (x5 : Int).toNat * 5 + 1, none⟩ = some (.int .i64 ((rd_T37 l x5).f1)) from hcc5 1 _ rfl)
          have HC2 := Aside0.mk (show ws.cell? ⟨go5, (x5 : Int).toNat * 5 + 2, none⟩ = some (.string ((rd_T37 l x5).f2)) from hcc5 2 _ rfl)
          have HC3 := Aside0.mk (show ws.cell? ⟨go5, (x5 : Int).toNat * 5 + 3, none⟩ = some (.slice Ai3 ((rd_T37 l x5).f3).length ci3) from hcc5 3 _ rfl)
          have HC4 := Aside0.mk (show ws.cell? ⟨go5, (x5 : Int).toNat * 5 + 4, none⟩ = some (.slice Ai4 ((rd_T37 l x5).f4).length ci4) from hcc5 4 _ rfl)
          clear hcl5 hcc5 hfr5
          obtain ⟨y0, hx0⟩ : ∃ y, wr.cell? ⟨go5, (x5 : Int).toNat * 5, none⟩ = some (.int .i64 y) := (by obtain ⟨z_, h_, s_⟩ := HS.out.cell HG.out HC0.out; obtain ⟨y_, e_⟩ := s_.of_int; exact ⟨y_, e_ ▸ h_⟩)
          have hf0 : wr.frozen? ⟨go5, (x5 : Int).toNat * 5, none⟩ = false := HS.out.frozen HG.out _
          obtain ⟨y1, hx1⟩ : ∃ y, wr.cell? ⟨go5, (x5 : Int).toNat * 5 + 1, none⟩ = some (.int .i64 y) := (by obtain ⟨z_, h_, s_⟩ := HS.out.cell HG.out HC1.out; obtain ⟨y_, e_⟩ := s_.of_int; exact ⟨y_, e_ ▸ h_⟩)
          have hf1 : wr.frozen? ⟨go5, (x5 : Int).toNat * 5 + 1, none⟩ = false := HS.out.frozen HG.out _
          obtain ⟨y2, hx2⟩ : ∃ y, wr.cell? ⟨go5, (x5 : Int).toNat * 5 + 2, none⟩ = some (.string y) := (by obtain ⟨z_, h_, s_⟩ := HS.out.cell HG.out HC2.out; obtain ⟨y_, e_⟩ := s_.of_string; exact ⟨y_, e_ ▸ h_⟩)
          have hf2 : wr.frozen? ⟨go5, (x5 : Int).toNat * 5 + 2, none⟩ = false := HS.out.frozen HG.out _
          have hx3 : wr.cell? ⟨go5, (x5 : Int).toNat * 5 + 3, none⟩ = some (.slice Ai3 ((rd_T37 l x5).f3).length ci3) := (by obtain ⟨z_, h_, s_⟩ := HS.out.cell HG.out HC3.out; exact s_.of_slice ▸ h_)
          have hf3 : wr.frozen? ⟨go5, (x5 : Int).toNat * 5 + 3, none⟩ = false := HS.out.frozen HG.out _
          have hx4 : wr.cell? ⟨go5, (x5 : Int).toNat * 5 + 4, none⟩ = some (.slice Ai4 ((rd_T37 l x5).f4).length ci4) := (by obtain ⟨z_, h_, s_⟩ := HS.out.cell HG.out HC4.out; exact s_.of_slice ▸ h_)
          have hf4 : wr.frozen? ⟨go5, (x5 : Int).toNat * 5 + 4, none⟩ = false := HS.out.frozen HG.out _
          have p5 := eq_true c4
          have q5 := eq_true c3
          clear c3 c4
          go_wp2_with (first | ((with_reducible refine gate_store (t := 3) (p := 16) rfl ?_); refine store_event (t := 3) (p := 16) (v := ?vo_ws0) (w1 := (wr.setCell ⟨go5, (x5 : Int).toNat * 5, none⟩ (.int .i64 x1))) ?hg ?ho ?hn ?hr ?_; (case ho => rfl); (case hg => rfl); (case hn => rfl); (case hr => first | (go_simp; done) | (go_simp; rfl)); intro ws0 hw; have n0_ := Aside0.mk (show Soft b [37, 55] ws ws0 from by rw [hw]; exact Soft.set HS.out HG.out hx0 (SoftV.int _ _ _)); have n1_ := Aside0.mk (show Kept w ws0 (InRows b [37, 55] ws) from by rw [hw]; exact Kept.setCell HK.out (.inl HG.out) _); clear HS HK hw; have HS := n0_; have HK := n1_; clear n0_ n1_; clear hx0 hf0; obtain ⟨y0, hx0⟩ : ∃ y, ws0.cell? ⟨go5, (x5 : Int).toNat * 5, none⟩ = some (.int .i64 y) := (by obtain ⟨z_, h_, s_⟩ := HS.out.cell HG.out HC0.out; obtain ⟨y_, e_⟩ := s_.of_int; exact ⟨y_, e_ ▸ h_⟩); have hf0 : ws0.frozen? ⟨go5, (x5 : Int).toNat * 5, none⟩ = false := HS.out.frozen HG.out _; clear hx1 hf1; obtain ⟨y1, hx1⟩ : ∃ y, ws0.cell? ⟨go5, (x5 : Int).toNat * 5 + 1, none⟩ = some (.int .i64 y) := (by obtain ⟨z_, h_, s_⟩ := HS.out.cell HG.out HC1.out; obtain ⟨y_, e_⟩ := s_.of_int; exact ⟨y_, e_ ▸ h_⟩); have hf1 : ws0.frozen? ⟨go5, (x5 : Int).toNat * 5 + 1, none⟩ = false := HS.out.frozen HG.out _; clear hx2 hf2; obtain ⟨y2, hx2⟩ : ∃ y, ws0.cell? ⟨go5, (x5 : Int).toNat * 5 + 2, none⟩ = some (.string y) := (by obtain ⟨z_, h_, s_⟩ := HS.out.cell HG.out HC2.out; obtain ⟨y_, e_⟩ := s_.of_string; exact ⟨y_, e_ ▸ h_⟩); have hf2 : ws0.frozen? ⟨go5, (x5 : Int).toNat * 5 + 2, none⟩ = false := HS.out.frozen HG.out _; clear hx3 hf3; have hx3 : ws0.cell? ⟨go5, (x5 : Int).toNat * 5 + 3, none⟩ = some (.slice Ai3 ((rd_T37 l x5).f3).length ci3) := (by obtain ⟨z_, h_, s_⟩ := HS.out.cell HG.out HC3.out; exact s_.of_slice ▸ h_); have hf3 : ws0.frozen? ⟨go5, (x5 : Int).toNat * 5 + 3, none⟩ = false := HS.out.frozen HG.out _; clear hx4 hf4; have hx4 : ws0.cell? ⟨go5, (x5 : Int).toNat * 5 + 4, none⟩ = some (.slice Ai4 ((rd_T37 l x5).f4).length ci4) := (by obtain ⟨z_, h_, s_⟩ := HS.out.cell HG.out HC4.out; exact s_.of_slice ▸ h_); have hf4 : ws0.frozen? ⟨go5, (x5 : Int).toNat * 5 + 4, none⟩ = false := HS.out.frozen HG.out _) | ((with_reducible refine gate_store (t := 3) (p := 23) rfl ?_); refine store_event (t := 3) (p := 23) (v := ?vo_ws1) (w1 := (ws0.setCell ⟨go5, (x5 : Int).toNat * 5 + 1, none⟩ (.int .i64 (wrap64 (x1 + 1))))) ?hg ?ho ?hn ?hr ?_; (case ho => rfl); (case hg => rfl); (case hn => rfl); (case hr => first | (go_simp; done) | (go_simp; rfl)); intro ws1 hw; have n0_ := Aside0.mk (show Soft b [37, 55] ws ws1 from by rw [hw]; exact Soft.set HS.out HG.out hx1 (SoftV.int _ _ _)); have n1_ := Aside0.mk (show Kept w ws1 (InRows b [37, 55] ws) from by rw [hw]; exact Kept.setCell HK.out (.inl HG.out) _); clear HS HK hw; have HS := n0_; have HK := n1_; clear n0_ n1_; clear hx0 hf0; obtain ⟨y0, hx0⟩ : ∃ y, ws1.cell? ⟨go5, (x5 : Int).toNat * 5, none⟩ = some (.int .i64 y) := (by obtain ⟨z_, h_, s_⟩ := HS.out.cell HG.out HC0.out; obtain ⟨y_, e_⟩ := s_.of_int; exact ⟨y_, e_ ▸ h_⟩); have hf0 : ws1.frozen? ⟨go5, (x5 : Int).toNat * 5, none⟩ = false := HS.out.frozen HG.out _; clear hx1 hf1; obtain ⟨y1, hx1⟩ : ∃ y, ws1.cell? ⟨go5, (x5 : Int).toNat * 5 + 1, none⟩ = some (.int .i64 y) := (by obtain ⟨z_, h_, s_⟩ := HS.out.cell HG.out HC1.out; obtain ⟨y_, e_⟩ := s_.of_int; exact ⟨y_, e_ ▸ h_⟩); have hf1 : ws1.frozen? ⟨go5, (x5 : Int).toNat * 5 + 1, none⟩ = false := HS.out.frozen HG.out _; clear hx2 hf2; obtain ⟨y2, hx2⟩ : ∃ y, ws1.cell? ⟨go5, (x5 : Int).toNat * 5 + 2, none⟩ = some (.string y) := (by obtain ⟨z_, h_, s_⟩ := HS.out.cell HG.out HC2.out; obtain ⟨y_, e_⟩ := s_.of_string; exact ⟨y_, e_ ▸ h_⟩); have hf2 : ws1.frozen? ⟨go5, (x5 : Int).toNat * 5 + 2, none⟩ = false := HS.out.frozen HG.out _; clear hx3 hf3; have hx3 : ws1.cell? ⟨go5, (x5 : Int).toNat * 5 + 3, none⟩ = some (.slice Ai3 ((rd_T37 l x5).f3).length ci3) := (by obtain ⟨z_, h_, s_⟩ := HS.out.cell HG.out HC3.out; exact s_.of_slice ▸ h_); have hf3 : ws1.frozen? ⟨go5, (x5 : Int).toNat * 5 + 3, none⟩ = false := HS.out.frozen HG.out _; clear hx4 hf4; have hx4 : ws1.cell? ⟨go5, (x5 : Int).toNat * 5 + 4, none⟩ = some (.slice Ai4 ((rd_T37 l x5).f4).length ci4) := (by obtain ⟨z_, h_, s_⟩ := HS.out.cell HG.out HC4.out; exact s_.of_slice ▸ h_); have hf4 : ws1.frozen? ⟨go5, (x5 : Int).toNat * 5 + 4, none⟩ = false := HS.out.frozen HG.out _) | (go_at_call 81; (with_reducible refine (laws_markText.calls k1 (wrap64 ((wrap64 (x1 + 1)) + 1)) t2 _ A2.out).mono ?_); rintro e wc2 ⟨rfl, hb⟩; have n0_ := Aside0.mk (Soft.step HS.out HBS.out hb); have n1_ := Aside0.mk (Kept.below HK.out hb); clear HS HK hb; have HS := n0_; have HK := n1_; clear n0_ n1_; clear hx0 hf0; obtain ⟨y0, hx0⟩ : ∃ y, wc2.cell? ⟨go5, (x5 : Int).toNat * 5, none⟩ = some (.int .i64 y) := (by obtain ⟨z_, h_, s_⟩ := HS.out.cell HG.out HC0.out; obtain ⟨y_, e_⟩ := s_.of_int; exact ⟨y_, e_ ▸ h_⟩); have hf0 : wc2.frozen? ⟨go5, (x5 : Int).toNat * 5, none⟩ = false := HS.out.frozen HG.out _; clear hx1 hf1; obtain ⟨y1, hx1⟩ : ∃ y, wc2.cell? ⟨go5, (x5 : Int).toNat * 5 + 1, none⟩ = some (.int .i64 y) := (by obtain ⟨z_, h_, s_⟩ := HS.out.cell HG.out HC1.out; obtain ⟨y_, e_⟩ := s_.of_int; exact ⟨y_, e_ ▸ h_⟩); have hf1 : wc2.frozen? ⟨go5, (x5 : Int).toNat * 5 + 1, none⟩ = false := HS.out.frozen HG.out _; clear hx2 hf2; obtain ⟨y2, hx2⟩ : ∃ y, wc2.cell? ⟨go5, (x5 : Int).toNat * 5 + 2, none⟩ = some (.string y) := (by obtain ⟨z_, h_, s_⟩ := HS.out.cell HG.out HC2.out; obtain ⟨y_, e_⟩ := s_.of_string; exact ⟨y_, e_ ▸ h_⟩); have hf2 : wc2.frozen? ⟨go5, (x5 : Int).toNat * 5 + 2, none⟩ = false := HS.out.frozen HG.out _; clear hx3 hf3; have hx3 : wc2.cell? ⟨go5, (x5 : Int).toNat * 5 + 3, none⟩ = some (.slice Ai3 ((rd_T37 l x5).f3).length ci3) := (by obtain ⟨z_, h_, s_⟩ := HS.out.cell HG.out HC3.out; exact s_.of_slice ▸ h_); have hf3 : wc2.frozen? ⟨go5, (x5 : Int).toNat * 5 + 3, none⟩ = false := HS.out.frozen HG.out _; clear hx4 hf4; have hx4 : wc2.cell? ⟨go5, (x5 : Int).toNat * 5 + 4, none⟩ = some (.slice Ai4 ((rd_T37 l x5).f4).length ci4) := (by obtain ⟨z_, h_, s_⟩ := HS.out.cell HG.out HC4.out; exact s_.of_slice ▸ h_); have hf4 : wc2.frozen? ⟨go5, (x5 : Int).toNat * 5 + 4, none⟩ = false := HS.out.frozen HG.out _) | ((with_reducible refine gate_store (t := 9) (p := 31) rfl ?_); refine store_event (t := 9) (p := 31) (v := ?vo_ws2) (w1 := (wc2.setCell ⟨go5, (x5 : Int).toNat * 5 + 2, none⟩ (.string t2))) ?hg ?ho ?hn ?hr ?_; (case ho => rfl); (case hg => rfl); (case hn => rfl); (case hr => first | (go_simp; done) | (go_simp; rfl)); intro ws2 hw; have n0_ := Aside0.mk (show Soft b [37, 55] ws ws2 from by rw [hw]; exact Soft.set HS.out HG.out hx2 (SoftV.string _ _)); have n1_ := Aside0.mk (show Kept w ws2 (InRows b [37, 55] ws) from by rw [hw]; exact Kept.setCell HK.out (.inl HG.out) _); clear HS HK hw; have HS := n0_; have HK := n1_; clear n0_ n1_; clear hx0 hf0; obtain ⟨y0, hx0⟩ : ∃ y, ws2.cell? ⟨go5, (x5 : Int).toNat * 5, none⟩ = some (.int .i64 y) := (by obtain ⟨z_, h_, s_⟩ := HS.out.cell HG.out HC0.out; obtain ⟨y_, e_⟩ := s_.of_int; exact ⟨y_, e_ ▸ h_⟩); have hf0 : ws2.frozen? ⟨go5, (x5 : Int).toNat * 5, none⟩ = false := HS.out.frozen HG.out _; clear hx1 hf1; obtain ⟨y1, hx1⟩ : ∃ y, ws2.cell? ⟨go5, (x5 : Int).toNat * 5 + 1, none⟩ = some (.int .i64 y) := (by obtain ⟨z_, h_, s_⟩ := HS.out.cell HG.out HC1.out; obtain ⟨y_, e_⟩ := s_.of_int; exact ⟨y_, e_ ▸ h_⟩); have hf1 : ws2.frozen? ⟨go5, (x5 : Int).toNat * 5 + 1, none⟩ = false := HS.out.frozen HG.out _; clear hx2 hf2; obtain ⟨y2, hx2⟩ : ∃ y, ws2.cell? ⟨go5, (x5 : Int).toNat * 5 + 2, none⟩ = some (.string y) := (by obtain ⟨z_, h_, s_⟩ := HS.out.cell HG.out HC2.out; obtain ⟨y_, e_⟩ := s_.of_string; exact ⟨y_, e_ ▸ h_⟩); have hf2 : ws2.frozen? ⟨go5, (x5 : Int).toNat * 5 + 2, none⟩ = false := HS.out.frozen HG.out _; clear hx3 hf3; have hx3 : ws2.cell? ⟨go5, (x5 : Int).toNat * 5 + 3, none⟩ = some (.slice Ai3 ((rd_T37 l x5).f3).length ci3) := (by obtain ⟨z_, h_, s_⟩ := HS.out.cell HG.out HC3.out; exact s_.of_slice ▸ h_); have hf3 : ws2.frozen? ⟨go5, (x5 : Int).toNat * 5 + 3, none⟩ = false := HS.out.frozen HG.out _; clear hx4 hf4; have hx4 : ws2.cell? ⟨go5, (x5 : Int).toNat * 5 + 4, none⟩ = some (.slice Ai4 ((rd_T37 l x5).f4).length ci4) := (by obtain ⟨z_, h_, s_⟩ := HS.out.cell HG.out HC4.out; exact s_.of_slice ▸ h_); have hf4 : ws2.frozen? ⟨go5, (x5 : Int).toNat * 5 + 4, none⟩ = false := HS.out.frozen HG.out _) | (go_at_call 79; (with_reducible refine (ih_laws_markExprS k1 (by have := HK1.out; omega) _ _ t3 A3.out b _ _ ws _ HBS.out HR3.out HS.out).mono ?_); rintro e wm3 ⟨rfl, hs, hk⟩; have n0_ := Aside0.mk hs; have n1_ := Aside0.mk (Kept.then_ HK.out hk (fun _ h_ => .inl h_)); clear HS HK hs hk; have HS := n0_; have HK := n1_; clear n0_ n1_; clear hx0 hf0; obtain ⟨y0, hx0⟩ : ∃ y, wm3.cell? ⟨go5, (x5 : Int).toNat * 5, none⟩ = some (.int .i64 y) := (by obtain ⟨z_, h_, s_⟩ := HS.out.cell HG.out HC0.out; obtain ⟨y_, e_⟩ := s_.of_int; exact ⟨y_, e_ ▸ h_⟩); have hf0 : wm3.frozen? ⟨go5, (x5 : Int).toNat * 5, none⟩ = false := HS.out.frozen HG.out _; clear hx1 hf1; obtain ⟨y1, hx1⟩ : ∃ y, wm3.cell? ⟨go5, (x5 : Int).toNat * 5 + 1, none⟩ = some (.int .i64 y) := (by obtain ⟨z_, h_, s_⟩ := HS.out.cell HG.out HC1.out; obtain ⟨y_, e_⟩ := s_.of_int; exact ⟨y_, e_ ▸ h_⟩); have hf1 : wm3.frozen? ⟨go5, (x5 : Int).toNat * 5 + 1, none⟩ = false := HS.out.frozen HG.out _; clear hx2 hf2; obtain ⟨y2, hx2⟩ : ∃ y, wm3.cell? ⟨go5, (x5 : Int).toNat * 5 + 2, none⟩ = some (.string y) := (by obtain ⟨z_, h_, s_⟩ := HS.out.cell HG.out HC2.out; obtain ⟨y_, e_⟩ := s_.of_string; exact ⟨y_, e_ ▸ h_⟩); have hf2 : wm3.frozen? ⟨go5, (x5 : Int).toNat * 5 + 2, none⟩ = false := HS.out.frozen HG.out _; clear hx3 hf3; have hx3 : wm3.cell? ⟨go5, (x5 : Int).toNat * 5 + 3, none⟩ = some (.slice Ai3 ((rd_T37 l x5).f3).length ci3) := (by obtain ⟨z_, h_, s_⟩ := HS.out.cell HG.out HC3.out; exact s_.of_slice ▸ h_); have hf3 : wm3.frozen? ⟨go5, (x5 : Int).toNat * 5 + 3, none⟩ = false := HS.out.frozen HG.out _; clear hx4 hf4; have hx4 : wm3.cell? ⟨go5, (x5 : Int).toNat * 5 + 4, none⟩ = some (.slice Ai4 ((rd_T37 l x5).f4).length ci4) := (by obtain ⟨z_, h_, s_⟩ := HS.out.cell HG.out HC4.out; exact s_.of_slice ▸ h_); have hf4 : wm3.frozen? ⟨go5, (x5 : Int).toNat * 5 + 4, none⟩ = false := HS.out.frozen HG.out _) | (go_at_call 80; (with_reducible refine (ih_laws_markClauseS k1 (by have := HK1.out; omega) _ _ t4 A4.out b _ _ ws _ HBS.out HR4.out HS.out).mono ?_); rintro e wm4 ⟨rfl, hs, hk⟩; have n0_ := Aside0.mk hs; have n1_ := Aside0.mk (Kept.then_ HK.out hk (fun _ h_ => .inl h_)); clear HS HK hs hk; have HS := n0_; have HK := n1_; clear n0_ n1_; clear hx0 hf0; obtain ⟨y0, hx0⟩ : ∃ y, wm4.cell? ⟨go5, (x5 : Int).toNat * 5, none⟩ = some (.int .i64 y) := (by obtain ⟨z_, h_, s_⟩ := HS.out.cell HG.out HC0.out; obtain ⟨y_, e_⟩ := s_.of_int; exact ⟨y_, e_ ▸ h_⟩); have hf0 : wm4.frozen? ⟨go5, (x5 : Int).toNat * 5, none⟩ = false := HS.out.frozen HG.out _; clear hx1 hf1; obtain ⟨y1, hx1⟩ : ∃ y, wm4.cell? ⟨go5, (x5 : Int).toNat * 5 + 1, none⟩ = some (.int .i64 y) := (by obtain ⟨z_, h_, s_⟩ := HS.out.cell HG.out HC1.out; obtain ⟨y_, e_⟩ := s_.of_int; exact ⟨y_, e_ ▸ h_⟩); have hf1 : wm4.frozen? ⟨go5, (x5 : Int).toNat * 5 + 1, none⟩ = false := HS.out.frozen HG.out _; clear hx2 hf2; obtain ⟨y2, hx2⟩ : ∃ y, wm4.cell? ⟨go5, (x5 : Int).toNat * 5 + 2, none⟩ = some (.string y) := (by obtain ⟨z_, h_, s_⟩ := HS.out.cell HG.out HC2.out; obtain ⟨y_, e_⟩ := s_.of_string; exact ⟨y_, e_ ▸ h_⟩); have hf2 : wm4.frozen? ⟨go5, (x5 : Int).toNat * 5 + 2, none⟩ = false := HS.out.frozen HG.out _; clear hx3 hf3; have hx3 : wm4.cell? ⟨go5, (x5 : Int).toNat * 5 + 3, none⟩ = some (.slice Ai3 ((rd_T37 l x5).f3).length ci3) := (by obtain ⟨z_, h_, s_⟩ := HS.out.cell HG.out HC3.out; exact s_.of_slice ▸ h_); have hf3 : wm4.frozen? ⟨go5, (x5 : Int).toNat * 5 + 3, none⟩ = false := HS.out.frozen HG.out _; clear hx4 hf4; have hx4 : wm4.cell? ⟨go5, (x5 : Int).toNat * 5 + 4, none⟩ = some (.slice Ai4 ((rd_T37 l x5).f4).length ci4) := (by obtain ⟨z_, h_, s_⟩ := HS.out.cell HG.out HC4.out; exact s_.of_slice ▸ h_); have hf4 : wm4.frozen? ⟨go5, (x5 : Int).toNat * 5 + 4, none⟩ = false := HS.out.frozen HG.out _))
          go_roundg k1
          case measure => have := HK1.out; omega
          case rel => exact ⟨t4, wrap64 (x5 + 1), (by first | rfl | (simp; done) | (simp [*]; done)), (by first | rfl | (simp; done) | (simp [*]; done)), H', ⟨by have := HK1.out; omega⟩, HS, HK⟩
        · rw [if_neg c4] at H
          exact absurd H (by simp)
      · rw [if_neg c3] at H
        have c3b0 : decide (x5 < (l.length : Int)) = false := decide_eq_false c3
        clear c3
        simp only [Option.some.injEq] at H
        subst H
        go_wp2
        go_ret
        exact ⟨by first | rfl | (simp; done) | (simp [*]; done), HS.out, HK.out⟩
theorem laws_markClauseS.all (k : Nat) : (∀ (l : List (S55)) (n r : Int), laws_markClauseS.f k l n = some r → ∀ (b : Nat) (ok : Nat → Prop) (v : Value) (ws w : World), b ≤ ws.heap.size → Kd.R k55 55 ws b ok v l → Soft b [37, 55] ws w → Calls Try.prog 80 #[v, .int .i64 n] w fun e w' => e = .returned (.int .i64 r) ∧ Soft b [37, 55] ws w' ∧ Kept w w' (InRows b [37, 55] ws)) ∧ (∀ (l : List (S37)) (n r : Int), laws_markExprS.f k l n = some r → ∀ (b : Nat) (ok : Nat → Prop) (v : Value) (ws w : World), b ≤ ws.heap.size → Kd.R k37 37 ws b ok v l → Soft b [37, 55] ws w → Calls Try.prog 79 #[v, .int .i64 n] w fun e w' => e = .returned (.int .i64 r) ∧ Soft b [37, 55] ws w' ∧ Kept w w' (InRows b [37, 55] ws)) := by
  induction k using Nat.strongRecOn with
  | _ k ih =>
  exact ⟨laws_markClauseS.step k (fun k_ h_ => (ih k_ h_).1) (fun k_ h_ => (ih k_ h_).2), laws_markExprS.step k (fun k_ h_ => (ih k_ h_).1) (fun k_ h_ => (ih k_ h_).2)⟩
theorem laws_markClauseS.weak (k : Nat) : ∀ (l : List (S55)) (n r : Int), laws_markClauseS.f k l n = some r → ∀ (b : Nat) (ok : Nat → Prop) (v : Value) (ws w : World), b ≤ ws.heap.size → Kd.R k55 55 ws b ok v l → Soft b [37, 55] ws w → Calls Try.prog 80 #[v, .int .i64 n] w fun e w' => e = .returned (.int .i64 r) ∧ Soft b [37, 55] ws w' ∧ Kept w w' (InRows b [37, 55] ws) := (laws_markClauseS.all k).1
theorem laws_markExprS.weak (k : Nat) : ∀ (l : List (S37)) (n r : Int), laws_markExprS.f k l n = some r → ∀ (b : Nat) (ok : Nat → Prop) (v : Value) (ws w : World), b ≤ ws.heap.size → Kd.R k37 37 ws b ok v l → Soft b [37, 55] ws w → Calls Try.prog 79 #[v, .int .i64 n] w fun e w' => e = .returned (.int .i64 r) ∧ Soft b [37, 55] ws w' ∧ Kept w w' (InRows b [37, 55] ws) := (laws_markClauseS.all k).2

/-! ### laws_markExpr: function 30: marks, told weakly -/
def laws_markExpr.f (k : Nat) (a0_0 : Int) (a0_1 : Int) (a0_2 : ByteArray) (l0_3 : List (S37)) (l0_4 : List (S55)) (a1 : Int) : Option (Int) := (laws_markExprS.f k l0_3 a1).bind fun t3 => ((laws_markClauseS.f k l0_4 t3).bind fun t4 => (some t4))
theorem laws_markExpr.mono : ∀ a0_0 a0_1 a0_2 l0_3 l0_4 a1 k, LeO (laws_markExpr.f k a0_0 a0_1 a0_2 l0_3 l0_4 a1) (laws_markExpr.f (k + 1) a0_0 a0_1 a0_2 l0_3 l0_4 a1) := by
  intro a0_0 a0_1 a0_2 l0_3 l0_4 a1 k
  unfold laws_markExpr.f
  repeat' first
      | (with_reducible exact laws_markExprS.mono _ _ _)
      | (with_reducible exact laws_markClauseS.mono _ _ _)
      | (with_reducible exact LeO.refl _)
      | (with_reducible refine LeO.bind ?_ (fun _ => ?_))
      | refine LeO.bind ?_ (fun _ => ?_)
set_option maxHeartbeats 8000000 in
set_option maxRecDepth 100000 in
theorem laws_markExpr.calls (k : Nat) (a0_0 : Int) (a0_1 : Int) (a0_2 : ByteArray) (u3 : Value) (l0_3 : List (S37)) (u4 : Value) (l0_4 : List (S55)) (a1 : Int) (r : Int) (b : Nat) (ok3 : Nat → Prop) (ok4 : Nat → Prop) (w : World) (hb : b ≤ w.heap.size) (ho3 : Kd.R k37 37 w b ok3 u3 l0_3) (ho4 : Kd.R k55 55 w b ok4 u4 l0_4) (h : laws_markExpr.f k a0_0 a0_1 a0_2 l0_3 l0_4 a1 = some r) :
    Calls Try.prog 30 #[.agg #[.int .i64 a0_0, .int .i64 a0_1, .string a0_2, u3, u4], .int .i64 a1] w fun e w' => e = .returned (.int .i64 r) ∧ Below b w w' ∧ Kept w w' (InRows b [37, 55] w) := by
  unfold laws_markExpr.f at h
  replace h := Option.bind_eq_some_iff.mp h
  obtain ⟨t3, B3, h⟩ := h
  have A3 := Aside0.mk B3
  clear B3
  replace h := Option.bind_eq_some_iff.mp h
  obtain ⟨t4, B4, h⟩ := h
  have A4 := Aside0.mk B4
  clear B4
  obtain rfl := Option.some.inj h
  obtain ⟨Ai3, ci3, ei3⟩ := Kd.R_slice ho3
  subst ei3
  have HR3 := Aside0.mk ho3
  clear ho3
  obtain ⟨Ai4, ci4, ei4⟩ := Kd.R_slice ho4
  subst ei4
  have HR4 := Aside0.mk ho4
  clear ho4
  have HBS := Aside0.mk hb
  clear hb
  go_enter Try.func30, Try.ntmps30
  go_wp2_with (first | ((with_reducible refine gate_dst (N := 2) rfl ?_); refine box_event ?hg (N := 2) ?hd (cs := #[.int .i64 a0_0, .int .i64 a0_1, .string a0_2, .slice Ai3 l0_3.length ci3, .slice Ai4 l0_4.length ci4]) (t := 37) ?hr ?_; (case hd => rfl); (case hg => rfl); (case hr => first | (go_simp; done) | (go_simp; rfl)); intro gb hg wb hbox hb; have HS := Aside0.mk (Soft.step (Soft.refl b [37, 55] w) HBS.out hb); have BK := Aside0.mk hbox; have hz3 : wb.cell? ⟨gb, 3, none⟩ = some (.slice Ai3 l0_3.length ci3) := (blk_cell BK.out 3).trans rfl; have hz4 : wb.cell? ⟨gb, 4, none⟩ = some (.slice Ai4 l0_4.length ci4) := (blk_cell BK.out 4).trans rfl; have NG := Aside0.mk hg; clear hg hbox hb) | (go_at_call 79; (with_reducible refine (laws_markExprS.weak k _ _ t3 A3.out b _ _ w _ HBS.out HR3.out HS.out).mono ?_); rintro e wm3 ⟨rfl, hs, hk⟩; have n2_ := Aside0.mk (blk_kept BK.out hk (fun z_ => by obtain ⟨_, q_, _, c_, h_⟩ := z_; have := blk_lt h_; have := NG.out; omega)); clear BK hz3 hz4; have BK := n2_; clear n2_; have hz4 : wm3.cell? ⟨gb, 4, none⟩ = some (.slice Ai4 l0_4.length ci4) := (blk_cell BK.out 4).trans rfl; have n0_ := Aside0.mk hs; clear HS hs hk; have HS := n0_; clear n0_) | (go_at_call 80; (with_reducible refine (laws_markClauseS.weak k _ _ t4 A4.out b _ _ w _ HBS.out HR4.out HS.out).mono ?_); rintro e wm4 ⟨rfl, hs, hk⟩; have n0_ := Aside0.mk hs; clear HS hs hk; have HS := n0_; clear n0_))
  go_ret
  exact ⟨by first | rfl | (simp; done) | (simp [*]; done), HS.out.below, HS.out.kept⟩

/-! ### laws_markStringS: function 31 -/
def laws_markStringS.l0 : Nat → List ByteArray → Int → Int → Option (Int × List ByteArray)
  | 0, _, _, _ => none
  | k + 1, x0, x1, x5 => if x5 < (x0.length : Int) then ((laws_markText.f k x1).bind fun t223 => (if 0 ≤ x5 then (laws_markStringS.l0 k (x0.set (x5 : Int).toNat t223) (wrap64 (x1 + 1)) (wrap64 (x5 + 1))) else (none))) else (some (x1, x0))
def laws_markStringS.f (k : Nat) (l0 : List ByteArray) (a1 : Int) : Option (Int × List ByteArray) := laws_markStringS.l0 k l0 a1 0
theorem laws_markStringS.mono_l : ∀ k, (∀ y0 y1 y2, LeO (laws_markStringS.l0 k y0 y1 y2) (laws_markStringS.l0 (k + 1) y0 y1 y2))
  | 0 => fun _ _ _ r h => by simp [laws_markStringS.l0] at h
  | k + 1 => by
    have ih0 := laws_markStringS.mono_l k
    · intro y0 y1 y2
      unfold laws_markStringS.l0
      repeat' first
      | (with_reducible exact ih0 _ _ _)
      | (with_reducible exact laws_markText.mono _ _)
      | (with_reducible exact LeO.refl _)
      | (with_reducible exact LeO.none _)
      | (with_reducible refine LeO.ite ?_ ?_)
      | (with_reducible refine LeO.bind ?_ (fun _ => ?_))
      | exact ih0 _ _ _
      | exact laws_markText.mono _ _
      | exact LeO.none _
      | refine LeO.ite ?_ ?_
      | refine LeO.bind ?_ (fun _ => ?_)
theorem laws_markStringS.mono : ∀ a0 a1 k, LeO (laws_markStringS.f k a0 a1) (laws_markStringS.f (k + 1) a0 a1) := by
  intro a0 a1 k
  have ih0 := laws_markStringS.mono_l k
  unfold laws_markStringS.f
  repeat' first
      | (with_reducible exact ih0 _ _ _)
      | (with_reducible exact laws_markText.mono _ _)
      | (with_reducible exact LeO.refl _)
      | (with_reducible exact LeO.none _)
      | (with_reducible refine LeO.ite ?_ ?_)
      | (with_reducible refine LeO.bind ?_ (fun _ => ?_))
      | exact ih0 _ _ _
      | exact laws_markText.mono _ _
      | exact LeO.none _
      | refine LeO.ite ?_ ?_
      | refine LeO.bind ?_ (fun _ => ?_)
set_option maxHeartbeats 8000000 in
set_option maxRecDepth 100000 in
theorem laws_markStringS.calls (k : Nat) (P0_ : Nat → Prop) (u9000_ : Value) (l0 : List ByteArray) (a1 : Int) (r1 : Int) (r2 : List ByteArray) (w0 w : World) (hB : Below w0.heap.size w0 w) (ho0 : Kd.R Kd.string 9 w w0.heap.size P0_ u9000_ l0) (h : laws_markStringS.f k l0 a1 = some (r1, r2)) :
    Calls Try.prog 31 #[u9000_, .int .i64 a1] w fun e w' => e = .returned (.int .i64 r1) ∧ Kd.R Kd.string 9 w' w0.heap.size (fun k_ => (P0_ k_ ∨ w.heap.size ≤ k_)) u9000_ r2 ∧ Below w0.heap.size w0 w' ∧ Kept w w' (fun k_ => P0_ k_) := by
  have HO0 := Aside0.mk (show Kd.R Kd.string 9 w w0.heap.size (fun k_ => (P0_ k_ ∨ w.heap.size ≤ k_)) u9000_ l0 from Kd.R_mono ho0 (fun k_ hk => (.inl hk)))
  have HK := Aside0.mk (Kept.refl w (fun k_ => P0_ k_))
  have HW0 := Aside0.mk hB.size
  have HB := Aside0.mk hB
  clear hB
  have H : (laws_markStringS.l0 k l0 a1 0) = some (r1, r2) := h
  clear h
  have H' := Aside0.mk H
  clear H
  go_enter Try.func31, Try.ntmps31
  go_wp2
  go_loopg [1, 5] k (fun kq v1 v5 w' => ∃ (x0_1 : List ByteArray) (x1_1 : Int) (x5_1 : Int), v1 = .int .i64 x1_1 ∧ v5 = .int .i64 x5_1 ∧ Aside0 (laws_markStringS.l0 kq x0_1 x1_1 x5_1 = some (r1, r2)) ∧ Aside0 (kq ≤ k) ∧ Aside0 (Kd.R Kd.string 9 w' w0.heap.size (fun k_ => (P0_ k_ ∨ w.heap.size ≤ k_)) u9000_ x0_1) ∧ Aside0 (Kept w w' (fun k_ => P0_ k_)) ∧ Aside0 (Below w0.heap.size w0 w'))
  case atStart => exact ⟨(l0), (a1), (0), (by first | rfl | (simp; done) | (simp [*]; done)), (by first | rfl | (simp; done) | (simp [*]; done)), H', ⟨Nat.le_refl _⟩, ⟨by (with_reducible repeat (first | apply Kd.R_alloc | apply Kd.R_drewN | apply Kd.R_drew)); exact HO0.out⟩, ⟨by repeat (first | (with_reducible first | exact HK.out | apply Kept.alloc | apply Kept.drewN | apply Kept.drew) | exact HK.out)⟩, ⟨by repeat (first | (with_reducible first | exact HB.out | apply below_alloc | apply pw_below_drewN | apply below_drew1) | exact HB.out)⟩⟩
  case round =>
    clear H'
    try clear p2
    try clear HO_0
    try clear HK
    try clear HB
    obtain ⟨x0_1, x1_1, x5_1, rfl, rfl, HA, HK1, HO_0, HK, HB⟩ := hrel
    cases gk with
    | zero => exact absurd HA.out (by simp [laws_markStringS.l0])
    | succ k1 =>
      have H := HA.out
      clear HA
      simp only [laws_markStringS.l0] at H
      by_cases c3 : x5_1 < (x0_1.length : Int)
      · rw [if_pos c3] at H
        have c3b0 : decide (x5_1 < (x0_1.length : Int)) = true := decide_eq_true c3
        clear c3
        replace H := Option.bind_eq_some_iff.mp H
        obtain ⟨t223, A40, H⟩ := H
        replace H : (if 0 ≤ x5_1 then (laws_markStringS.l0 k1 (x0_1.set (x5_1 : Int).toNat t223) (wrap64 (x1_1 + 1)) (wrap64 (x5_1 + 1))) else (none)) = some (r1, r2) := H
        have A4 := Aside0.mk A40
        clear A40
        by_cases c5 : 0 ≤ x5_1
        · rw [if_pos c5] at H
          have c5b0 : decide (0 ≤ x5_1) = true := decide_eq_true c5
          clear c5
          obtain ⟨y224, hy224⟩ : ∃ y_ : List ByteArray, y_ = (x0_1.set (x5_1 : Int).toNat t223) := ⟨_, rfl⟩
          replace H : (laws_markStringS.l0 k1 y224 (wrap64 (x1_1 + 1)) (wrap64 (x5_1 + 1))) = some (r1, r2) := by first | (rw [hy224]; with_reducible exact H) | (have H2_ := (Option.bind_some _ _).symm.trans H; rw [hy224]; with_reducible exact H2_) | (have H2_ := (Option.bind_some _ _).symm.trans H; with_reducible exact H2_) | with_reducible exact H | (rw [hy224]; exact H) | exact H
          have Ny224 := Aside0.mk hy224
          clear hy224
          have H' := Aside0.mk H
          clear H
          obtain ⟨Ao7, co7, eo7⟩ := Kd.R_slice HO_0.out
          subst eo7
          go_wp2_with (first | ((with_reducible refine gate_callee (f := 81) rfl ?_); refine goesL_ (some 15) rfl rfl Try.func81 (by kernel_rfl) rfl #[.int .i64 x1_1] rfl (by (try simp only [List.map_toArray, List.map_cons, List.map_nil]); first | done | rfl | (simp only [List.length_drop, List.length_take]; rfl)) ?_; (with_reducible refine (laws_markText.calls k1 x1_1 t223 _ A4.out).mono ?_); rintro e w8 ⟨rfl, hb⟩; refine ⟨_, rfl, ?_⟩; have n0_ := Aside0.mk (Kd.R_below (by (with_reducible repeat (first | apply Kd.R_alloc | apply Kd.R_drewN | apply Kd.R_drew)); exact HO_0.out) hb); have n1_ := Aside0.mk (Kept.below (S := (fun k_ => P0_ k_)) (by repeat (first | (with_reducible first | exact HK.out | apply Kept.alloc | apply Kept.drewN | apply Kept.drew) | exact HK.out)) hb); have n2_ := Aside0.mk (below_step (by repeat (first | (with_reducible first | exact HB.out | apply below_alloc | apply pw_below_drewN | apply below_drew1) | exact HB.out)) hb); clear HO_0; clear HK; clear HB; have HO_0 := n0_; have HK := n1_; have HB := n2_; clear n0_ n1_ n2_; (try clear hb); (try clear hb2); (try clear hk); (try clear hi); have p6 : 0 ≤ (x5_1 : Int) := of_decide_eq_true (by first | (with_reducible assumption) | assumption); have q6 : (x5_1 : Int) < ((x0_1.length : Int) : Int) := of_decide_eq_true (by first | (with_reducible assumption) | assumption); obtain ⟨go6, co6, eo6, gb6, gl6, cl6, HG6⟩ := Kd.R_form HO_0.out (by omega); (first | cases eo6 | (injection eo6 with ea_ en_ ec_; (first | subst ea_ | (injection ea_ with ea_; subst ea_)); subst ec_; clear en_)); have GB6 := Aside0.mk gb6; have GG6 := Aside0.mk HG6; clear gb6 gl6 HG6; have HMgo6 := Aside0.mk (show (P0_ go6 ∨ w.heap.size ≤ go6) from (HO_0.out.1 _ rfl)); obtain ⟨hx6_0, hf6_0⟩ := Kd.R_celln (⟨#[]⟩ : ByteArray) HO_0.out (x5_1 : Int) p6 q6; replace p6 := eq_true p6; replace q6 := eq_true q6; obtain ⟨hy9_, hz9_⟩ := Kd.R_celln (⟨#[]⟩ : ByteArray) HO_0.out (x5_1 : Int) (of_decide_eq_true (by first | (with_reducible assumption) | assumption)) (of_decide_eq_true (by first | (with_reducible assumption) | assumption)); have HP9 := Kd.R_putg HO_0.out (x5_1 : Int) t223) | ((with_reducible refine gate_store (t := 9) (p := 16) rfl ?_); refine store_event (t := 9) (p := 16) (v := ?vo_w10) (w1 := (w8.setCell ⟨go6, (x5_1 : Int).toNat, none⟩ (.string t223))) ?hg ?ho ?hn ?hr ?_; (case ho => rfl); (case hg => rfl); (case hn => rfl); (case hr => first | (go_simp; done) | (go_simp; rfl)); intro w10 hw; have hg : w8.grownBy w10 (some go6) := (by rw [hw]; exact HP9.2); have hp_ : Kd.R Kd.string 9 w10 w0.heap.size (fun k_ => (P0_ k_ ∨ w.heap.size ≤ k_)) (.slice (some ⟨go6, 0, none⟩) x0_1.length co7) y224 := (by rw [hw, Ny224.out]; exact HP9.1); clear HP9; have n0_ := Aside0.mk (hp_); have n1_ := Aside0.mk ((by rw [hw]; exact below_set (HB.out) GB6.out : Below w0.heap.size w0 w10)); have n2_ := Aside0.mk (Kept.of_grown (S := (fun k_ => P0_ k_)) hg (by repeat (first | (with_reducible first | exact HK.out | apply Kept.alloc | apply Kept.drewN | apply Kept.drew) | exact HK.out)) (fun k_ e_ => (HO_0.out.1 k_ e_))); clear HO_0; clear HB; clear HK; have HO_0 := n0_; have HB := n1_; have HK := n2_; clear n0_ n1_ n2_; clear hg hw hp_))
          go_roundg k1
          case measure => have := HK1.out; omega
          case rel => exact ⟨(y224), (wrap64 (x1_1 + 1)), (wrap64 (x5_1 + 1)), (by first | rfl | (simp; done) | (simp [*]; done)), (by first | rfl | (simp; done) | (simp [*]; done)), H', ⟨by have := HK1.out; omega⟩, ⟨by (with_reducible repeat (first | apply Kd.R_alloc | apply Kd.R_drewN | apply Kd.R_drew)); exact HO_0.out⟩, ⟨by repeat (first | (with_reducible first | exact HK.out | apply Kept.alloc | apply Kept.drewN | apply Kept.drew) | exact HK.out)⟩, ⟨by repeat (first | (with_reducible first | exact HB.out | apply below_alloc | apply pw_below_drewN | apply below_drew1) | exact HB.out)⟩⟩
        · rw [if_neg c5] at H
          exact absurd H (by simp)
      · rw [if_neg c3] at H
        have c3b0 : decide (x5_1 < (x0_1.length : Int)) = false := decide_eq_false c3
        clear c3
        simp only [Option.some.injEq, Prod.mk.injEq] at H
        obtain ⟨rfl, rfl⟩ := H
        obtain ⟨Ao11, co11, eo11⟩ := Kd.R_slice HO_0.out
        subst eo11
        go_wp2
        go_ret
        exact ⟨by first | rfl | (simp [errW_none, errW_some] <;> rfl) | (simp [*, errW_none, errW_some] <;> rfl) | (rw [isEmpty_ne]; first | done | rfl) | (rw [isEmpty_be]; first | done | rfl), by (with_reducible repeat (first | apply Kd.R_alloc | apply Kd.R_drewN | apply Kd.R_drew)); exact HO_0.out, by repeat (first | (with_reducible first | exact HB.out | apply below_alloc | apply pw_below_drewN | apply below_drew1) | exact HB.out), by repeat (first | (with_reducible first | exact HK.out | apply Kept.alloc | apply Kept.drewN | apply Kept.drew) | exact HK.out)⟩

/-! ### laws_heldStringS: function 32 -/
def laws_heldStringS.l0 : Nat → List ByteArray → Int → Int → Option (Int)
  | 0, _, _, _ => none
  | k + 1, x0, x1, x5 => if x5 < (x0.length : Int) then (if 0 ≤ x5 then ((laws_markText.f k x1).bind fun t226 => (if (rdOf ByteArray.empty x0 x5).toList = t226.toList then (laws_heldStringS.l0 k x0 (wrap64 (x1 + 1)) (wrap64 (x5 + 1))) else (some (-1)))) else (none)) else (some x1)
def laws_heldStringS.f (k : Nat) (l0 : List ByteArray) (a1 : Int) : Option (Int) := laws_heldStringS.l0 k l0 a1 0
theorem laws_heldStringS.mono_l : ∀ k, (∀ y0 y1 y2, LeO (laws_heldStringS.l0 k y0 y1 y2) (laws_heldStringS.l0 (k + 1) y0 y1 y2))
  | 0 => fun _ _ _ r h => by simp [laws_heldStringS.l0] at h
  | k + 1 => by
    have ih0 := laws_heldStringS.mono_l k
    · intro y0 y1 y2
      unfold laws_heldStringS.l0
      repeat' first
      | (with_reducible exact ih0 _ _ _)
      | (with_reducible exact laws_markText.mono _ _)
      | (with_reducible exact LeO.refl _)
      | (with_reducible exact LeO.none _)
      | (with_reducible refine LeO.ite ?_ ?_)
      | (with_reducible refine LeO.bind ?_ (fun _ => ?_))
      | exact ih0 _ _ _
      | exact laws_markText.mono _ _
      | exact LeO.none _
      | refine LeO.ite ?_ ?_
      | refine LeO.bind ?_ (fun _ => ?_)
theorem laws_heldStringS.mono : ∀ a0 a1 k, LeO (laws_heldStringS.f k a0 a1) (laws_heldStringS.f (k + 1) a0 a1) := by
  intro a0 a1 k
  have ih0 := laws_heldStringS.mono_l k
  unfold laws_heldStringS.f
  repeat' first
      | (with_reducible exact ih0 _ _ _)
      | (with_reducible exact laws_markText.mono _ _)
      | (with_reducible exact LeO.refl _)
      | (with_reducible exact LeO.none _)
      | (with_reducible refine LeO.ite ?_ ?_)
      | (with_reducible refine LeO.bind ?_ (fun _ => ?_))
      | exact ih0 _ _ _
      | exact laws_markText.mono _ _
      | exact LeO.none _
      | refine LeO.ite ?_ ?_
      | refine LeO.bind ?_ (fun _ => ?_)
set_option maxHeartbeats 8000000 in
set_option maxRecDepth 100000 in
theorem laws_heldStringS.calls (k : Nat) (A0 : Option Addr) (c0 : Nat) (l0 : List ByteArray) (a1 : Int) (r : Int) (w : World) (hr0 : Kd.C Kd.string w A0 l0.length l0) (hc0 : l0.length ≤ c0) (h : laws_heldStringS.f k l0 a1 = some r) :
    Calls Try.prog 32 #[.slice A0 l0.length c0, .int .i64 a1] w fun e w' => e = .returned (.int .i64 r) ∧ Below w.heap.size w w' := by
  have HR0 := Aside0.mk hr0
  have HC0 := Aside0.mk hc0
  clear hr0 hc0
  have HB := Aside0.mk (Below.refl w.heap.size w)
  have H : (laws_heldStringS.l0 k l0 a1 0) = some r := h
  clear h
  have H' := Aside0.mk H
  clear H
  go_enter Try.func32, Try.ntmps32
  go_wp2
  go_loopg [1, 5] k (fun kq v1 v5 w' => ∃ (x1_1 : Int) (x5_1 : Int), v1 = .int .i64 x1_1 ∧ v5 = .int .i64 x5_1 ∧ Aside0 (laws_heldStringS.l0 kq l0 x1_1 x5_1 = some r) ∧ Aside0 (kq ≤ k) ∧ Aside0 (Below w.heap.size w w'))
  case atStart => exact ⟨(a1), (0), (by first | rfl | (simp; done) | (simp [*]; done)), (by first | rfl | (simp; done) | (simp [*]; done)), H', ⟨Nat.le_refl _⟩, ⟨by repeat (first | (with_reducible first | exact HB.out | apply below_alloc | apply pw_below_drewN | apply below_drew1) | exact HB.out)⟩⟩
  case round =>
    clear H'
    try clear p2
    try clear HB
    obtain ⟨x1_1, x5_1, rfl, rfl, HA, HK1, HB⟩ := hrel
    cases gk with
    | zero => exact absurd HA.out (by simp [laws_heldStringS.l0])
    | succ k1 =>
      have H := HA.out
      clear HA
      simp only [laws_heldStringS.l0] at H
      by_cases c3 : x5_1 < (l0.length : Int)
      · rw [if_pos c3] at H
        have c3b0 : decide (x5_1 < (l0.length : Int)) = true := decide_eq_true c3
        clear c3
        by_cases c4 : 0 ≤ x5_1
        · rw [if_pos c4] at H
          have c4b0 : decide (0 ≤ x5_1) = true := decide_eq_true c4
          clear c4
          replace H := Option.bind_eq_some_iff.mp H
          obtain ⟨t226, A50, H⟩ := H
          replace H : (if (rdOf ByteArray.empty l0 x5_1).toList = t226.toList then (laws_heldStringS.l0 k1 l0 (wrap64 (x1_1 + 1)) (wrap64 (x5_1 + 1))) else (some (-1))) = some r := H
          have A5 := Aside0.mk A50
          clear A50
          by_cases c6 : (rdOf ByteArray.empty l0 x5_1).toList = t226.toList
          · rw [if_pos c6] at H
            have c6b0 : ((rdOf ByteArray.empty l0 x5_1).toList == t226.toList) = true := beq_iff_eq.mpr c6
            have c6b1 : ((rdOf ByteArray.empty l0 x5_1).toList != t226.toList) = false := bne_eq_false_iff_eq.mpr c6
            clear c6
            have H' := Aside0.mk H
            clear H
            try go_wp2
            have n0_ := Aside0.mk (below_drew1 HB.out)
            clear HB
            have HB := n0_
            clear n0_
            have p225 : 0 ≤ (x5_1 : Int) := of_decide_eq_true (by first | (with_reducible assumption) | assumption)
            have q225 : x5_1 < (l0.length : Int) := of_decide_eq_true (by first | (with_reducible assumption) | assumption)
            obtain ⟨ad225, e225, hx225_0⟩ := Kd.at_string HR0.out x5_1 p225 q225
            have hw225_0 := hx225_0
            cases e225
            replace hx225_0 := (HB.out.cell (World.block_lt_of_cell? w _ hx225_0)).trans hx225_0
            replace p225 := eq_true p225
            replace q225 := eq_true q225
            refine start_ (n := 7) (S := fun w' => w'.cell? (ad225.add (x5_1).toNat) = some (.string (rdOf ByteArray.empty l0 x5_1))) (ds := []) #[false, false, false, false, false, false, false] (by kernel_rfl) rfl rfl (((HB.out.cell (World.block_lt_of_cell? w _ hw225_0)).trans hw225_0)) (fun hHeld => ?_)
            generalize wr.drew = w7 at HB hx225_0 hHeld ⊢
            refine pure_ (i := 0) (N := some 12) (v := ?_) (a' := ?_) #[true, false, false, false, false, false, false] rfl rfl (by kernel_rfl) (fun _ _ _ h => h) (Or.inl ⟨by rfl, ?_⟩) ?_ ?_
            rotate_left
            · intro w'
              go_simp
              with_reducible rfl
            rotate_left
            · simp only [Act.put, List.setIfInBounds_toArray, List.set_cons_zero, List.set_cons_succ, i64_w, i32_w]
              rfl
            refine pure_ (i := 1) (N := some 13) (v := ?_) (a' := ?_) #[true, true, false, false, false, false, false] rfl rfl (by kernel_rfl) (fun _ _ _ h => h) (Or.inl ⟨by rfl, ?_⟩) ?_ ?_
            rotate_left
            · intro w'
              go_simp
              with_reducible rfl
            rotate_left
            · simp only [Act.put, List.setIfInBounds_toArray, List.set_cons_zero, List.set_cons_succ, i64_w, i32_w]
              rfl
            refine pure_ (i := 2) (N := some 14) (v := ?_) (a' := ?_) #[true, true, true, false, false, false, false] rfl rfl (by kernel_rfl) (fun _ _ _ h => h) (Or.inl ⟨by rfl, ?_⟩) ?_ ?_
            rotate_left
            · intro w'
              go_simp
              with_reducible rfl
            rotate_left
            · simp only [Act.put, List.setIfInBounds_toArray, List.set_cons_zero, List.set_cons_succ, i64_w, i32_w]
              rfl
            refine pure_ (i := 4) (N := some 16) (v := ?_) (a' := ?_) #[true, true, true, false, true, false, false] rfl rfl (by kernel_rfl) (fun _ _ _ h => h) (Or.inl ⟨by rfl, ?_⟩) ?_ ?_
            rotate_left
            · intro w'
              go_simp
              with_reducible rfl
            rotate_left
            · simp only [Act.put, List.setIfInBounds_toArray, List.set_cons_zero, List.set_cons_succ, i64_w, i32_w]
              rfl
            refine take_ (i := 3) (N := some 15) (v := ?_) (a' := ?_) #[true, true, true, true, true, false, false] rfl rfl (by kernel_rfl) (fun _ _ _ h => h) (Or.inl ⟨by rfl, ?_⟩) hHeld ?_ ?_
            rotate_left
            · intro w' s0
              go_simp
              with_reducible rfl
            rotate_left
            · simp only [Act.put, List.setIfInBounds_toArray, List.set_cons_zero, List.set_cons_succ, i64_w, i32_w]
              rfl
            refine one_ (i := 5) (N := some 17) #[true, true, true, true, true, true, false] rfl rfl (by kernel_rfl) (by decide) (fun K hK => ?_)
            refine goes_ Try.func81 (by kernel_rfl) rfl #[.int .i64 x1_1] (by rfl) rfl rfl (by (try simp only [List.map_toArray, List.map_cons, List.map_nil]); first | done | rfl | (simp only [List.length_drop, List.length_take]; rfl)) ?_
            with_reducible refine (laws_markText.calls k1 x1_1 t226 _ A5.out).mono ?_
            rintro e w8 ⟨rfl, hb⟩
            refine ⟨_, rfl, ?_⟩
            have n0_ := Aside0.mk (below_step (by repeat (first | (with_reducible first | exact HB.out | apply below_alloc | apply pw_below_drewN | apply below_drew1) | exact HB.out)) hb)
            clear HB
            have HB := n0_
            clear n0_
            (try clear hb)
            (try clear hb2)
            (try clear hk)
            (try clear hi)
            refine hK.out _ _ (((HB.out.cell (World.block_lt_of_cell? w _ hw225_0)).trans hw225_0)) (fun hHeld => ?_)
            clear hK K
            refine norm_ (a' := ?_) ?_ ?_
            rotate_left
            · show Act.put _ (some 17) _ = _
              simp only [Act.put, List.setIfInBounds_toArray, List.set_cons_zero, List.set_cons_succ, i64_w, i32_w]
              rfl
            refine pure_ (i := 6) (N := some 18) (v := ?_) (a' := ?_) #[true, true, true, true, true, true, true] rfl rfl (by kernel_rfl) (fun _ _ _ h => h) (Or.inl ⟨by rfl, ?_⟩) ?_ ?_
            rotate_left
            · intro w'
              go_simp
              with_reducible rfl
            rotate_left
            · simp only [Act.put, List.setIfInBounds_toArray, List.set_cons_zero, List.set_cons_succ, i64_w, i32_w]
              rfl
            refine done_ (by kernel_rfl) ?_
            try go_wp2
            go_roundg k1
            case measure => have := HK1.out; omega
            case rel => exact ⟨(wrap64 (x1_1 + 1)), (wrap64 (x5_1 + 1)), (by first | rfl | (simp; done) | (simp [*]; done)), (by first | rfl | (simp; done) | (simp [*]; done)), H', ⟨by have := HK1.out; omega⟩, ⟨by repeat (first | (with_reducible first | exact HB.out | apply below_alloc | apply pw_below_drewN | apply below_drew1) | exact HB.out)⟩⟩
          · rw [if_neg c6] at H
            have c6b0 : ((rdOf ByteArray.empty l0 x5_1).toList == t226.toList) = false := beq_eq_false_iff_ne.mpr c6
            have c6b1 : ((rdOf ByteArray.empty l0 x5_1).toList != t226.toList) = true := bne_iff_ne.mpr c6
            obtain rfl := Option.some.inj H
            try go_wp2
            have n0_ := Aside0.mk (below_drew1 HB.out)
            clear HB
            have HB := n0_
            clear n0_
            have p225 : 0 ≤ (x5_1 : Int) := of_decide_eq_true (by first | (with_reducible assumption) | assumption)
            have q225 : x5_1 < (l0.length : Int) := of_decide_eq_true (by first | (with_reducible assumption) | assumption)
            obtain ⟨ad225, e225, hx225_0⟩ := Kd.at_string HR0.out x5_1 p225 q225
            have hw225_0 := hx225_0
            cases e225
            replace hx225_0 := (HB.out.cell (World.block_lt_of_cell? w _ hx225_0)).trans hx225_0
            replace p225 := eq_true p225
            replace q225 := eq_true q225
            refine start_ (n := 7) (S := fun w' => w'.cell? (ad225.add (x5_1).toNat) = some (.string (rdOf ByteArray.empty l0 x5_1))) (ds := []) #[false, false, false, false, false, false, false] (by kernel_rfl) rfl rfl (((HB.out.cell (World.block_lt_of_cell? w _ hw225_0)).trans hw225_0)) (fun hHeld => ?_)
            generalize wr.drew = w9 at HB hx225_0 hHeld ⊢
            refine pure_ (i := 0) (N := some 12) (v := ?_) (a' := ?_) #[true, false, false, false, false, false, false] rfl rfl (by kernel_rfl) (fun _ _ _ h => h) (Or.inl ⟨by rfl, ?_⟩) ?_ ?_
            rotate_left
            · intro w'
              go_simp
              with_reducible rfl
            rotate_left
            · simp only [Act.put, List.setIfInBounds_toArray, List.set_cons_zero, List.set_cons_succ, i64_w, i32_w]
              rfl
            refine pure_ (i := 1) (N := some 13) (v := ?_) (a' := ?_) #[true, true, false, false, false, false, false] rfl rfl (by kernel_rfl) (fun _ _ _ h => h) (Or.inl ⟨by rfl, ?_⟩) ?_ ?_
            rotate_left
            · intro w'
              go_simp
              with_reducible rfl
            rotate_left
            · simp only [Act.put, List.setIfInBounds_toArray, List.set_cons_zero, List.set_cons_succ, i64_w, i32_w]
              rfl
            refine pure_ (i := 2) (N := some 14) (v := ?_) (a' := ?_) #[true, true, true, false, false, false, false] rfl rfl (by kernel_rfl) (fun _ _ _ h => h) (Or.inl ⟨by rfl, ?_⟩) ?_ ?_
            rotate_left
            · intro w'
              go_simp
              with_reducible rfl
            rotate_left
            · simp only [Act.put, List.setIfInBounds_toArray, List.set_cons_zero, List.set_cons_succ, i64_w, i32_w]
              rfl
            refine pure_ (i := 4) (N := some 16) (v := ?_) (a' := ?_) #[true, true, true, false, true, false, false] rfl rfl (by kernel_rfl) (fun _ _ _ h => h) (Or.inl ⟨by rfl, ?_⟩) ?_ ?_
            rotate_left
            · intro w'
              go_simp
              with_reducible rfl
            rotate_left
            · simp only [Act.put, List.setIfInBounds_toArray, List.set_cons_zero, List.set_cons_succ, i64_w, i32_w]
              rfl
            refine take_ (i := 3) (N := some 15) (v := ?_) (a' := ?_) #[true, true, true, true, true, false, false] rfl rfl (by kernel_rfl) (fun _ _ _ h => h) (Or.inl ⟨by rfl, ?_⟩) hHeld ?_ ?_
            rotate_left
            · intro w' s0
              go_simp
              with_reducible rfl
            rotate_left
            · simp only [Act.put, List.setIfInBounds_toArray, List.set_cons_zero, List.set_cons_succ, i64_w, i32_w]
              rfl
            refine one_ (i := 5) (N := some 17) #[true, true, true, true, true, true, false] rfl rfl (by kernel_rfl) (by decide) (fun K hK => ?_)
            refine goes_ Try.func81 (by kernel_rfl) rfl #[.int .i64 x1_1] (by rfl) rfl rfl (by (try simp only [List.map_toArray, List.map_cons, List.map_nil]); first | done | rfl | (simp only [List.length_drop, List.length_take]; rfl)) ?_
            with_reducible refine (laws_markText.calls k1 x1_1 t226 _ A5.out).mono ?_
            rintro e w10 ⟨rfl, hb⟩
            refine ⟨_, rfl, ?_⟩
            have n0_ := Aside0.mk (below_step (by repeat (first | (with_reducible first | exact HB.out | apply below_alloc | apply pw_below_drewN | apply below_drew1) | exact HB.out)) hb)
            clear HB
            have HB := n0_
            clear n0_
            (try clear hb)
            (try clear hb2)
            (try clear hk)
            (try clear hi)
            refine hK.out _ _ (((HB.out.cell (World.block_lt_of_cell? w _ hw225_0)).trans hw225_0)) (fun hHeld => ?_)
            clear hK K
            refine norm_ (a' := ?_) ?_ ?_
            rotate_left
            · show Act.put _ (some 17) _ = _
              simp only [Act.put, List.setIfInBounds_toArray, List.set_cons_zero, List.set_cons_succ, i64_w, i32_w]
              rfl
            refine pure_ (i := 6) (N := some 18) (v := ?_) (a' := ?_) #[true, true, true, true, true, true, true] rfl rfl (by kernel_rfl) (fun _ _ _ h => h) (Or.inl ⟨by rfl, ?_⟩) ?_ ?_
            rotate_left
            · intro w'
              go_simp
              with_reducible rfl
            rotate_left
            · simp only [Act.put, List.setIfInBounds_toArray, List.set_cons_zero, List.set_cons_succ, i64_w, i32_w]
              rfl
            refine done_ (by kernel_rfl) ?_
            try go_wp2
            go_ret
            exact ⟨by first | rfl | (simp [errW_none, errW_some] <;> rfl) | (simp [*, errW_none, errW_some] <;> rfl) | (rw [isEmpty_ne]; first | done | rfl) | (rw [isEmpty_be]; first | done | rfl), by repeat (first | (with_reducible first | exact HB.out | apply below_alloc | apply pw_below_drewN | apply below_drew1) | exact HB.out)⟩
        · rw [if_neg c4] at H
          exact absurd H (by simp)
      · rw [if_neg c3] at H
        have c3b0 : decide (x5_1 < (l0.length : Int)) = false := decide_eq_false c3
        clear c3
        obtain rfl := Option.some.inj H
        go_wp2
        go_ret
        exact ⟨by first | rfl | (simp [errW_none, errW_some] <;> rfl) | (simp [*, errW_none, errW_some] <;> rfl) | (rw [isEmpty_ne]; first | done | rfl) | (rw [isEmpty_be]; first | done | rfl), by repeat (first | (with_reducible first | exact HB.out | apply below_alloc | apply pw_below_drewN | apply below_drew1) | exact HB.out)⟩

end Go.Proofs.Ytjcdpfbbnmflcaa.QFnExactVarsOf
