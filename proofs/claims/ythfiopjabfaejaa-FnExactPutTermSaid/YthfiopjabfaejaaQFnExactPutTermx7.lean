-- Written by a program of this workplace (print2.py) for this claim, over the print's words.
import Derived.Test.YthfiopjabfaejaaQFnExactPutTermx0
import Derived.Test.YthfiopjabfaejaaQFnExactPutTermx6
namespace Go.Proofs.Ythfiopjabfaejaa.QFnExactPutTerm
open Go.RowKit Go.Proofs.YthfiopjabfaejaaW.PrintWords Go.Proofs.YthfiopjabfaejaaW.PrintLast Go.Proofs.YthfiopjabfaejaaW.PrintMore
attribute [local go_sem] max2_int min2_int max_two min_two max_three min_three max_four min_four   -- for this text's walks alone
set_option linter.unusedVariables false
set_option linter.unusedSimpArgs false

/-! ### laws_markTermS: marks, told weakly -/
mutual
def laws_markTermS.l0 : Nat → List (S46) → Int → Int → Option (Int)
  | 0, _, _, _ => none
  | k + 1, x0, x1, x5 => if x5 < (x0.length : Int) then (if 0 ≤ x5 then ((laws_markText.f k (wrap64 ((wrap64 (x1 + 1)) + 1))).bind fun t2 => ((laws_markTermS.f k ((rd_T46 x0 x5).f3) (wrap64 ((wrap64 ((wrap64 (x1 + 1)) + 1)) + 1))).bind fun t3 => (laws_markTermS.l0 k x0 t3 (wrap64 (x5 + 1))))) else (none)) else (some x1)
def laws_markTermS.f : Nat → List (S46) → Int → Option (Int)
  | 0, _, _ => none
  | k + 1, l0, a1 => laws_markTermS.l0 k l0 a1 0
end
theorem laws_markTermS.mono_g : ∀ k, (∀ y0 y1 y2, LeO (laws_markTermS.l0 k y0 y1 y2) (laws_markTermS.l0 (k + 1) y0 y1 y2)) ∧ (∀ y0 y1, LeO (laws_markTermS.f k y0 y1) (laws_markTermS.f (k + 1) y0 y1))
  | 0 => ⟨fun _ _ _ r h => by simp [laws_markTermS.l0] at h, fun _ _ r h => by simp [laws_markTermS.f] at h⟩
  | k + 1 => by
    obtain ⟨ih0, ih1⟩ := laws_markTermS.mono_g k
    refine ⟨?_, ?_⟩
    · intro y0 y1 y2
      unfold laws_markTermS.l0
      repeat' first
      | (with_reducible exact ih0 _ _ _)
      | (with_reducible exact ih1 _ _)
      | (with_reducible exact laws_markText.mono _ _)
      | (with_reducible exact LeO.refl _)
      | (with_reducible exact LeO.none _)
      | (with_reducible refine LeO.ite ?_ ?_)
      | (with_reducible refine LeO.bind ?_ (fun _ => ?_))
      | exact ih0 _ _ _
      | exact ih1 _ _
      | exact laws_markText.mono _ _
      | exact LeO.none _
      | refine LeO.ite ?_ ?_
      | refine LeO.bind ?_ (fun _ => ?_)
    · intro y0 y1
      unfold laws_markTermS.f
      repeat' first
      | (with_reducible exact ih0 _ _ _)
      | (with_reducible exact ih1 _ _)
      | (with_reducible exact laws_markText.mono _ _)
      | (with_reducible exact LeO.refl _)
      | (with_reducible exact LeO.none _)
      | (with_reducible refine LeO.ite ?_ ?_)
      | (with_reducible refine LeO.bind ?_ (fun _ => ?_))
      | exact ih0 _ _ _
      | exact ih1 _ _
      | exact laws_markText.mono _ _
      | exact LeO.none _
      | refine LeO.ite ?_ ?_
      | refine LeO.bind ?_ (fun _ => ?_)
theorem laws_markTermS.mono : ∀ a0 a1 k, LeO (laws_markTermS.f k a0 a1) (laws_markTermS.f (k + 1) a0 a1) := by
  intro a0 a1 k
  obtain ⟨ih0, ih1⟩ := laws_markTermS.mono_g k
  exact ih1 a0 a1
set_option maxHeartbeats 8000000 in
set_option maxRecDepth 100000 in
theorem laws_markTermS.step (k : Nat) (ih_laws_markTermS : ∀ k_, k_ < k → (∀ (l : List (S46)) (n r : Int), laws_markTermS.f k_ l n = some r → ∀ (b : Nat) (ok : Nat → Prop) (v : Value) (ws w : World), b ≤ ws.heap.size → Kd.R k46 46 ws b ok v l → Soft b [46] ws w → Calls Try.prog 70 #[v, .int .i64 n] w fun e w' => e = .returned (.int .i64 r) ∧ Soft b [46] ws w' ∧ Kept w w' (InRows b [46] ws))) : ∀ (l : List (S46)) (n r : Int), laws_markTermS.f k l n = some r → ∀ (b : Nat) (ok : Nat → Prop) (v : Value) (ws w : World), b ≤ ws.heap.size → Kd.R k46 46 ws b ok v l → Soft b [46] ws w → Calls Try.prog 70 #[v, .int .i64 n] w fun e w' => e = .returned (.int .i64 r) ∧ Soft b [46] ws w' ∧ Kept w w' (InRows b [46] ws) := by
  intro l n r h b ok v ws w hb hR hS
  cases k with
  | zero => exact absurd h (by simp [laws_markTermS.f])
  | succ k =>
  simp only [laws_markTermS.f] at h
  obtain ⟨Ao, co, eo⟩ := Kd.R_slice hR
  subst eo
  have HR := Aside0.mk hR
  have HBS := Aside0.mk hb
  have HS := Aside0.mk hS
  have HK := Aside0.mk (Kept.refl w (InRows b [46] ws))
  clear hR hb hS
  have H' := Aside0.mk h
  clear h
  go_enter Try.func70, Try.ntmps70
  go_wp2
  go_loopg [1, 5] k (fun kq v1 v5 w' => ∃ (x1 : Int) (x5 : Int), v1 = .int .i64 x1 ∧ v5 = .int .i64 x5 ∧ Aside0 (laws_markTermS.l0 kq l x1 x5 = some r) ∧ Aside0 (kq ≤ k) ∧ Aside0 (Soft b [46] ws w') ∧ Aside0 (Kept w w' (InRows b [46] ws)))
  case atStart => exact ⟨n, 0, (by first | rfl | (simp; done) | (simp [*]; done)), (by first | rfl | (simp; done) | (simp [*]; done)), H', ⟨Nat.le_refl _⟩, HS, HK⟩
  case round =>
    clear H'
    clear HS HK
    obtain ⟨x1, x5, rfl, rfl, HA, HK1, HS, HK⟩ := hrel
    cases gk with
    | zero => exact absurd HA.out (by simp [laws_markTermS.l0])
    | succ k1 =>
      have H := HA.out
      clear HA
      simp only [laws_markTermS.l0] at H
      by_cases c3 : x5 < (l.length : Int)
      · rw [if_pos c3] at H
        have c3b0 : decide (x5 < (l.length : Int)) = true := decide_eq_true c3
        by_cases c4 : 0 ≤ x5
        · rw [if_pos c4] at H
          have c4b0 : decide (0 ≤ x5) = true := decide_eq_true c4
          replace H := Option.bind_eq_some_iff.mp H
          obtain ⟨t2, B2, H⟩ := H
          replace H : ((laws_markTermS.f k1 ((rd_T46 l x5).f3) (wrap64 ((wrap64 ((wrap64 (x1 + 1)) + 1)) + 1))).bind fun t3 => (laws_markTermS.l0 k1 l t3 (wrap64 (x5 + 1)))) = some r := H
          have A2 := Aside0.mk B2
          clear B2
          replace H := Option.bind_eq_some_iff.mp H
          obtain ⟨t3, B3, H⟩ := H
          replace H : (laws_markTermS.l0 k1 l t3 (wrap64 (x5 + 1))) = some r := H
          have A3 := Aside0.mk B3
          clear B3
          have H' := Aside0.mk H
          clear H
          obtain ⟨go5, co5, eo5, gb5, gl5, cl5, HG5⟩ := Kd.R_form HR.out (by omega)
          (first | cases eo5 | (injection eo5 with ea_ en_ ec_; (first | subst ea_ | (injection ea_ with ea_; subst ea_)); subst ec_; clear en_))
          have HG := Aside0.mk (show InRows b [46] ws go5 from ⟨gb5, 46, by decide, cl5, HG5⟩)
          clear gb5 gl5 HG5
          obtain ⟨ce5, hcl5, hM5, hcc5, hfr5⟩ := Kd.R_elem HR.out z46 (x5 : Int) c4 c3
          obtain ⟨v3, rfl, hR3⟩ := k46_openM hM5
          obtain ⟨Ai3, ci3, ei3⟩ := Kd.R_slice hR3
          subst ei3
          have HR3 := Aside0.mk hR3
          clear hR3
          have HC0 := Aside0.mk (show ws.cell? ⟨go5, (x5 : Int).toNat * 4, none⟩ = some (.int .i64 ((rd_T46 l x5).f0)) from hcc5 0 _ rfl)
          have HC1 := Aside0.mk (show ws.cell? ⟨go5, (x5 : Int).toNat * 4 + 1, none⟩ = some (.int .i64 ((rd_T46 l x5).f1)) from hcc5 1 _ rfl)
          have HC2 := Aside0.mk (show ws.cell? ⟨go5, (x5 : Int).toNat * 4 + 2, none⟩ = some (.string ((rd_T46 l x5).f2)) from hcc5 2 _ rfl)
          have HC3 := Aside0.mk (show ws.cell? ⟨go5, (x5 : Int).toNat * 4 + 3, none⟩ = some (.slice Ai3 ((rd_T46 l x5).f3).length ci3) from hcc5 3 _ rfl)
          clear hcl5 hcc5 hfr5
          obtain ⟨y0, hx0⟩ : ∃ y, wr.cell? ⟨go5, (x5 : Int).toNat * 4, none⟩ = some (.int .i64 y) := (by obtain ⟨z_, h_, s_⟩ := HS.out.cell HG.out HC0.out; obtain ⟨y_, e_⟩ := s_.of_int; exact ⟨y_, e_ ▸ h_⟩)
          have hf0 : wr.frozen? ⟨go5, (x5 : Int).toNat * 4, none⟩ = false := HS.out.frozen HG.out _
          obtain ⟨y1, hx1⟩ : ∃ y, wr.cell? ⟨go5, (x5 : Int).toNat * 4 + 1, none⟩ = some (.int .i64 y) := (by obtain ⟨z_, h_, s_⟩ := HS.out.cell HG.out HC1.out; obtain ⟨y_, e_⟩ := s_.of_int; exact ⟨y_, e_ ▸ h_⟩)
          have hf1 : wr.frozen? ⟨go5, (x5 : Int).toNat * 4 + 1, none⟩ = false := HS.out.frozen HG.out _
          obtain ⟨y2, hx2⟩ : ∃ y, wr.cell? ⟨go5, (x5 : Int).toNat * 4 + 2, none⟩ = some (.string y) := (by obtain ⟨z_, h_, s_⟩ := HS.out.cell HG.out HC2.out; obtain ⟨y_, e_⟩ := s_.of_string; exact ⟨y_, e_ ▸ h_⟩)
          have hf2 : wr.frozen? ⟨go5, (x5 : Int).toNat * 4 + 2, none⟩ = false := HS.out.frozen HG.out _
          have hx3 : wr.cell? ⟨go5, (x5 : Int).toNat * 4 + 3, none⟩ = some (.slice Ai3 ((rd_T46 l x5).f3).length ci3) := (by obtain ⟨z_, h_, s_⟩ := HS.out.cell HG.out HC3.out; exact s_.of_slice ▸ h_)
          have hf3 : wr.frozen? ⟨go5, (x5 : Int).toNat * 4 + 3, none⟩ = false := HS.out.frozen HG.out _
          have p5 := eq_true c4
          have q5 := eq_true c3
          clear c3 c4
          go_wp2_with (first | ((with_reducible refine gate_store (t := 3) (p := 16) rfl ?_); refine store_event (t := 3) (p := 16) (v := ?vo_ws0) (w1 := (wr.setCell ⟨go5, (x5 : Int).toNat * 4, none⟩ (.int .i64 x1))) ?hg ?ho ?hn ?hr ?_; (case ho => rfl); (case hg => rfl); (case hn => rfl); (case hr => first | (go_simp; done) | (go_simp; rfl)); intro ws0 hw; have n0_ := Aside0.mk (show Soft b [46] ws ws0 from by rw [hw]; exact Soft.set HS.out HG.out hx0 (SoftV.int _ _ _)); have n1_ := Aside0.mk (show Kept w ws0 (InRows b [46] ws) from by rw [hw]; exact Kept.setCell HK.out (.inl HG.out) _); clear HS HK hw; have HS := n0_; have HK := n1_; clear n0_ n1_; clear hx0 hf0; obtain ⟨y0, hx0⟩ : ∃ y, ws0.cell? ⟨go5, (x5 : Int).toNat * 4, none⟩ = some (.int .i64 y) := (by obtain ⟨z_, h_, s_⟩ := HS.out.cell HG.out HC0.out; obtain ⟨y_, e_⟩ := s_.of_int; exact ⟨y_, e_ ▸ h_⟩); have hf0 : ws0.frozen? ⟨go5, (x5 : Int).toNat * 4, none⟩ = false := HS.out.frozen HG.out _; clear hx1 hf1; obtain ⟨y1, hx1⟩ : ∃ y, ws0.cell? ⟨go5, (x5 : Int).toNat * 4 + 1, none⟩ = some (.int .i64 y) := (by obtain ⟨z_, h_, s_⟩ := HS.out.cell HG.out HC1.out; obtain ⟨y_, e_⟩ := s_.of_int; exact ⟨y_, e_ ▸ h_⟩); have hf1 : ws0.frozen? ⟨go5, (x5 : Int).toNat * 4 + 1, none⟩ = false := HS.out.frozen HG.out _; clear hx2 hf2; obtain ⟨y2, hx2⟩ : ∃ y, ws0.cell? ⟨go5, (x5 : Int).toNat * 4 + 2, none⟩ = some (.string y) := (by obtain ⟨z_, h_, s_⟩ := HS.out.cell HG.out HC2.out; obtain ⟨y_, e_⟩ := s_.of_string; exact ⟨y_, e_ ▸ h_⟩); have hf2 : ws0.frozen? ⟨go5, (x5 : Int).toNat * 4 + 2, none⟩ = false := HS.out.frozen HG.out _; clear hx3 hf3; have hx3 : ws0.cell? ⟨go5, (x5 : Int).toNat * 4 + 3, none⟩ = some (.slice Ai3 ((rd_T46 l x5).f3).length ci3) := (by obtain ⟨z_, h_, s_⟩ := HS.out.cell HG.out HC3.out; exact s_.of_slice ▸ h_); have hf3 : ws0.frozen? ⟨go5, (x5 : Int).toNat * 4 + 3, none⟩ = false := HS.out.frozen HG.out _) | ((with_reducible refine gate_store (t := 3) (p := 23) rfl ?_); refine store_event (t := 3) (p := 23) (v := ?vo_ws1) (w1 := (ws0.setCell ⟨go5, (x5 : Int).toNat * 4 + 1, none⟩ (.int .i64 (wrap64 (x1 + 1))))) ?hg ?ho ?hn ?hr ?_; (case ho => rfl); (case hg => rfl); (case hn => rfl); (case hr => first | (go_simp; done) | (go_simp; rfl)); intro ws1 hw; have n0_ := Aside0.mk (show Soft b [46] ws ws1 from by rw [hw]; exact Soft.set HS.out HG.out hx1 (SoftV.int _ _ _)); have n1_ := Aside0.mk (show Kept w ws1 (InRows b [46] ws) from by rw [hw]; exact Kept.setCell HK.out (.inl HG.out) _); clear HS HK hw; have HS := n0_; have HK := n1_; clear n0_ n1_; clear hx0 hf0; obtain ⟨y0, hx0⟩ : ∃ y, ws1.cell? ⟨go5, (x5 : Int).toNat * 4, none⟩ = some (.int .i64 y) := (by obtain ⟨z_, h_, s_⟩ := HS.out.cell HG.out HC0.out; obtain ⟨y_, e_⟩ := s_.of_int; exact ⟨y_, e_ ▸ h_⟩); have hf0 : ws1.frozen? ⟨go5, (x5 : Int).toNat * 4, none⟩ = false := HS.out.frozen HG.out _; clear hx1 hf1; obtain ⟨y1, hx1⟩ : ∃ y, ws1.cell? ⟨go5, (x5 : Int).toNat * 4 + 1, none⟩ = some (.int .i64 y) := (by obtain ⟨z_, h_, s_⟩ := HS.out.cell HG.out HC1.out; obtain ⟨y_, e_⟩ := s_.of_int; exact ⟨y_, e_ ▸ h_⟩); have hf1 : ws1.frozen? ⟨go5, (x5 : Int).toNat * 4 + 1, none⟩ = false := HS.out.frozen HG.out _; clear hx2 hf2; obtain ⟨y2, hx2⟩ : ∃ y, ws1.cell? ⟨go5, (x5 : Int).toNat * 4 + 2, none⟩ = some (.string y) := (by obtain ⟨z_, h_, s_⟩ := HS.out.cell HG.out HC2.out; obtain ⟨y_, e_⟩ := s_.of_string; exact ⟨y_, e_ ▸ h_⟩); have hf2 : ws1.frozen? ⟨go5, (x5 : Int).toNat * 4 + 2, none⟩ = false := HS.out.frozen HG.out _; clear hx3 hf3; have hx3 : ws1.cell? ⟨go5, (x5 : Int).toNat * 4 + 3, none⟩ = some (.slice Ai3 ((rd_T46 l x5).f3).length ci3) := (by obtain ⟨z_, h_, s_⟩ := HS.out.cell HG.out HC3.out; exact s_.of_slice ▸ h_); have hf3 : ws1.frozen? ⟨go5, (x5 : Int).toNat * 4 + 3, none⟩ = false := HS.out.frozen HG.out _) | (go_at_call 86; (with_reducible refine (laws_markText.calls k1 (wrap64 ((wrap64 (x1 + 1)) + 1)) t2 _ A2.out).mono ?_); rintro e wc2 ⟨rfl, hb⟩; have n0_ := Aside0.mk (Soft.step HS.out HBS.out hb); have n1_ := Aside0.mk (Kept.below HK.out hb); clear HS HK hb; have HS := n0_; have HK := n1_; clear n0_ n1_; clear hx0 hf0; obtain ⟨y0, hx0⟩ : ∃ y, wc2.cell? ⟨go5, (x5 : Int).toNat * 4, none⟩ = some (.int .i64 y) := (by obtain ⟨z_, h_, s_⟩ := HS.out.cell HG.out HC0.out; obtain ⟨y_, e_⟩ := s_.of_int; exact ⟨y_, e_ ▸ h_⟩); have hf0 : wc2.frozen? ⟨go5, (x5 : Int).toNat * 4, none⟩ = false := HS.out.frozen HG.out _; clear hx1 hf1; obtain ⟨y1, hx1⟩ : ∃ y, wc2.cell? ⟨go5, (x5 : Int).toNat * 4 + 1, none⟩ = some (.int .i64 y) := (by obtain ⟨z_, h_, s_⟩ := HS.out.cell HG.out HC1.out; obtain ⟨y_, e_⟩ := s_.of_int; exact ⟨y_, e_ ▸ h_⟩); have hf1 : wc2.frozen? ⟨go5, (x5 : Int).toNat * 4 + 1, none⟩ = false := HS.out.frozen HG.out _; clear hx2 hf2; obtain ⟨y2, hx2⟩ : ∃ y, wc2.cell? ⟨go5, (x5 : Int).toNat * 4 + 2, none⟩ = some (.string y) := (by obtain ⟨z_, h_, s_⟩ := HS.out.cell HG.out HC2.out; obtain ⟨y_, e_⟩ := s_.of_string; exact ⟨y_, e_ ▸ h_⟩); have hf2 : wc2.frozen? ⟨go5, (x5 : Int).toNat * 4 + 2, none⟩ = false := HS.out.frozen HG.out _; clear hx3 hf3; have hx3 : wc2.cell? ⟨go5, (x5 : Int).toNat * 4 + 3, none⟩ = some (.slice Ai3 ((rd_T46 l x5).f3).length ci3) := (by obtain ⟨z_, h_, s_⟩ := HS.out.cell HG.out HC3.out; exact s_.of_slice ▸ h_); have hf3 : wc2.frozen? ⟨go5, (x5 : Int).toNat * 4 + 3, none⟩ = false := HS.out.frozen HG.out _) | ((with_reducible refine gate_store (t := 9) (p := 31) rfl ?_); refine store_event (t := 9) (p := 31) (v := ?vo_ws2) (w1 := (wc2.setCell ⟨go5, (x5 : Int).toNat * 4 + 2, none⟩ (.string t2))) ?hg ?ho ?hn ?hr ?_; (case ho => rfl); (case hg => rfl); (case hn => rfl); (case hr => first | (go_simp; done) | (go_simp; rfl)); intro ws2 hw; have n0_ := Aside0.mk (show Soft b [46] ws ws2 from by rw [hw]; exact Soft.set HS.out HG.out hx2 (SoftV.string _ _)); have n1_ := Aside0.mk (show Kept w ws2 (InRows b [46] ws) from by rw [hw]; exact Kept.setCell HK.out (.inl HG.out) _); clear HS HK hw; have HS := n0_; have HK := n1_; clear n0_ n1_; clear hx0 hf0; obtain ⟨y0, hx0⟩ : ∃ y, ws2.cell? ⟨go5, (x5 : Int).toNat * 4, none⟩ = some (.int .i64 y) := (by obtain ⟨z_, h_, s_⟩ := HS.out.cell HG.out HC0.out; obtain ⟨y_, e_⟩ := s_.of_int; exact ⟨y_, e_ ▸ h_⟩); have hf0 : ws2.frozen? ⟨go5, (x5 : Int).toNat * 4, none⟩ = false := HS.out.frozen HG.out _; clear hx1 hf1; obtain ⟨y1, hx1⟩ : ∃ y, ws2.cell? ⟨go5, (x5 : Int).toNat * 4 + 1, none⟩ = some (.int .i64 y) := (by obtain ⟨z_, h_, s_⟩ := HS.out.cell HG.out HC1.out; obtain ⟨y_, e_⟩ := s_.of_int; exact ⟨y_, e_ ▸ h_⟩); have hf1 : ws2.frozen? ⟨go5, (x5 : Int).toNat * 4 + 1, none⟩ = false := HS.out.frozen HG.out _; clear hx2 hf2; obtain ⟨y2, hx2⟩ : ∃ y, ws2.cell? ⟨go5, (x5 : Int).toNat * 4 + 2, none⟩ = some (.string y) := (by obtain ⟨z_, h_, s_⟩ := HS.out.cell HG.out HC2.out; obtain ⟨y_, e_⟩ := s_.of_string; exact ⟨y_, e_ ▸ h_⟩); have hf2 : ws2.frozen? ⟨go5, (x5 : Int).toNat * 4 + 2, none⟩ = false := HS.out.frozen HG.out _; clear hx3 hf3; have hx3 : ws2.cell? ⟨go5, (x5 : Int).toNat * 4 + 3, none⟩ = some (.slice Ai3 ((rd_T46 l x5).f3).length ci3) := (by obtain ⟨z_, h_, s_⟩ := HS.out.cell HG.out HC3.out; exact s_.of_slice ▸ h_); have hf3 : ws2.frozen? ⟨go5, (x5 : Int).toNat * 4 + 3, none⟩ = false := HS.out.frozen HG.out _) | (go_at_call 70; (with_reducible refine (ih_laws_markTermS k1 (by have := HK1.out; omega) _ _ t3 A3.out b _ _ ws _ HBS.out HR3.out HS.out).mono ?_); rintro e wm3 ⟨rfl, hs, hk⟩; have n0_ := Aside0.mk hs; have n1_ := Aside0.mk (Kept.then_ HK.out hk (fun _ h_ => .inl h_)); clear HS HK hs hk; have HS := n0_; have HK := n1_; clear n0_ n1_; clear hx0 hf0; obtain ⟨y0, hx0⟩ : ∃ y, wm3.cell? ⟨go5, (x5 : Int).toNat * 4, none⟩ = some (.int .i64 y) := (by obtain ⟨z_, h_, s_⟩ := HS.out.cell HG.out HC0.out; obtain ⟨y_, e_⟩ := s_.of_int; exact ⟨y_, e_ ▸ h_⟩); have hf0 : wm3.frozen? ⟨go5, (x5 : Int).toNat * 4, none⟩ = false := HS.out.frozen HG.out _; clear hx1 hf1; obtain ⟨y1, hx1⟩ : ∃ y, wm3.cell? ⟨go5, (x5 : Int).toNat * 4 + 1, none⟩ = some (.int .i64 y) := (by obtain ⟨z_, h_, s_⟩ := HS.out.cell HG.out HC1.out; obtain ⟨y_, e_⟩ := s_.of_int; exact ⟨y_, e_ ▸ h_⟩); have hf1 : wm3.frozen? ⟨go5, (x5 : Int).toNat * 4 + 1, none⟩ = false := HS.out.frozen HG.out _; clear hx2 hf2; obtain ⟨y2, hx2⟩ : ∃ y, wm3.cell? ⟨go5, (x5 : Int).toNat * 4 + 2, none⟩ = some (.string y) := (by obtain ⟨z_, h_, s_⟩ := HS.out.cell HG.out HC2.out; obtain ⟨y_, e_⟩ := s_.of_string; exact ⟨y_, e_ ▸ h_⟩); have hf2 : wm3.frozen? ⟨go5, (x5 : Int).toNat * 4 + 2, none⟩ = false := HS.out.frozen HG.out _; clear hx3 hf3; have hx3 : wm3.cell? ⟨go5, (x5 : Int).toNat * 4 + 3, none⟩ = some (.slice Ai3 ((rd_T46 l x5).f3).length ci3) := (by obtain ⟨z_, h_, s_⟩ := HS.out.cell HG.out HC3.out; exact s_.of_slice ▸ h_); have hf3 : wm3.frozen? ⟨go5, (x5 : Int).toNat * 4 + 3, none⟩ = false := HS.out.frozen HG.out _))
          go_roundg k1
          case measure => have := HK1.out; omega
          case rel => exact ⟨t3, wrap64 (x5 + 1), (by first | rfl | (simp; done) | (simp [*]; done)), (by first | rfl | (simp; done) | (simp [*]; done)), H', ⟨by have := HK1.out; omega⟩, HS, HK⟩
        · rw [if_neg c4] at H
          exact absurd H (by simp)
      · rw [if_neg c3] at H
        have c3b0 : decide (x5 < (l.length : Int)) = false := decide_eq_false c3
        clear c3
        simp only [Option.some.injEq] at H
        subst H
        go_wp2
        go_ret
        exact ⟨by first | rfl | (simp; done) | (simp [*]; done), HS.out, HK.out⟩
theorem laws_markTermS.all (k : Nat) : ∀ (l : List (S46)) (n r : Int), laws_markTermS.f k l n = some r → ∀ (b : Nat) (ok : Nat → Prop) (v : Value) (ws w : World), b ≤ ws.heap.size → Kd.R k46 46 ws b ok v l → Soft b [46] ws w → Calls Try.prog 70 #[v, .int .i64 n] w fun e w' => e = .returned (.int .i64 r) ∧ Soft b [46] ws w' ∧ Kept w w' (InRows b [46] ws) := by
  induction k using Nat.strongRecOn with
  | _ k ih =>
  exact laws_markTermS.step k (fun k_ h_ => ih k_ h_)
theorem laws_markTermS.weak (k : Nat) : ∀ (l : List (S46)) (n r : Int), laws_markTermS.f k l n = some r → ∀ (b : Nat) (ok : Nat → Prop) (v : Value) (ws w : World), b ≤ ws.heap.size → Kd.R k46 46 ws b ok v l → Soft b [46] ws w → Calls Try.prog 70 #[v, .int .i64 n] w fun e w' => e = .returned (.int .i64 r) ∧ Soft b [46] ws w' ∧ Kept w w' (InRows b [46] ws) := (laws_markTermS.all k)

/-! ### laws_markTerm: function 45: marks, told weakly -/
def laws_markTerm.f (k : Nat) (a0_0 : Int) (a0_1 : Int) (a0_2 : ByteArray) (l0_3 : List (S46)) (a1 : Int) : Option (Int) := (laws_markTermS.f k l0_3 a1).bind fun t3 => (some t3)
theorem laws_markTerm.mono : ∀ a0_0 a0_1 a0_2 l0_3 a1 k, LeO (laws_markTerm.f k a0_0 a0_1 a0_2 l0_3 a1) (laws_markTerm.f (k + 1) a0_0 a0_1 a0_2 l0_3 a1) := by
  intro a0_0 a0_1 a0_2 l0_3 a1 k
  unfold laws_markTerm.f
  repeat' first
      | (with_reducible exact laws_markTermS.mono _ _ _)
      | (with_reducible exact LeO.refl _)
      | (with_reducible refine LeO.bind ?_ (fun _ => ?_))
      | refine LeO.bind ?_ (fun _ => ?_)
set_option maxHeartbeats 8000000 in
set_option maxRecDepth 100000 in
theorem laws_markTerm.calls (k : Nat) (a0_0 : Int) (a0_1 : Int) (a0_2 : ByteArray) (u3 : Value) (l0_3 : List (S46)) (a1 : Int) (r : Int) (b : Nat) (ok3 : Nat → Prop) (w : World) (hb : b ≤ w.heap.size) (ho3 : Kd.R k46 46 w b ok3 u3 l0_3) (h : laws_markTerm.f k a0_0 a0_1 a0_2 l0_3 a1 = some r) :
    Calls Try.prog 45 #[.agg #[.int .i64 a0_0, .int .i64 a0_1, .string a0_2, u3], .int .i64 a1] w fun e w' => e = .returned (.int .i64 r) ∧ Below b w w' ∧ Kept w w' (InRows b [46] w) := by
  unfold laws_markTerm.f at h
  replace h := Option.bind_eq_some_iff.mp h
  obtain ⟨t3, B3, h⟩ := h
  have A3 := Aside0.mk B3
  clear B3
  obtain rfl := Option.some.inj h
  obtain ⟨Ai3, ci3, ei3⟩ := Kd.R_slice ho3
  subst ei3
  have HR3 := Aside0.mk ho3
  clear ho3
  have HBS := Aside0.mk hb
  clear hb
  go_enter Try.func45, Try.ntmps45
  go_wp2_with (first | ((with_reducible refine gate_dst (N := 2) rfl ?_); refine box_event ?hg (N := 2) ?hd (cs := #[.int .i64 a0_0, .int .i64 a0_1, .string a0_2, .slice Ai3 l0_3.length ci3]) (t := 46) ?hr ?_; (case hd => rfl); (case hg => rfl); (case hr => first | (go_simp; done) | (go_simp; rfl)); intro gb hg wb hbox hb; have HS := Aside0.mk (Soft.step (Soft.refl b [46] w) HBS.out hb); have BK := Aside0.mk hbox; have hz3 : wb.cell? ⟨gb, 3, none⟩ = some (.slice Ai3 l0_3.length ci3) := (blk_cell BK.out 3).trans rfl; have NG := Aside0.mk hg; clear hg hbox hb) | (go_at_call 70; (with_reducible refine (laws_markTermS.weak k _ _ t3 A3.out b _ _ w _ HBS.out HR3.out HS.out).mono ?_); rintro e wm3 ⟨rfl, hs, hk⟩; have n0_ := Aside0.mk hs; clear HS hs hk; have HS := n0_; clear n0_))
  go_ret
  exact ⟨by first | rfl | (simp; done) | (simp [*]; done), HS.out.below, HS.out.kept⟩

end Go.Proofs.Ythfiopjabfaejaa.QFnExactPutTerm
