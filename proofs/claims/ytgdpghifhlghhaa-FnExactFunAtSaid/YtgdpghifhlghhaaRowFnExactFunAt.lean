-- Written by a program of this workplace (print2.py) for this claim, over the print's words.
import Derived.Test.YtgdpghifhlghhaaRows
import Derived.Test.YtgdpghifhlghhaaQFnExactFunAtx7
import Derived.Test.YtgdpghifhlghhaaPureFnExactFunAt
import Derived.WalkKit
import Derived.ProofKit
import Derived.OpenShut
import Derived.ShutString
import Derived.ChangeOld
import Derived.Below
import Derived.SizedLaws
import Derived.ChangeSlices
import Derived.DataReads
import Derived.DataElems
import Derived.Carry
import Derived.Test.YtgdpghifhlghhaaWSized
namespace Go.Proofs.Ytgdpghifhlghhaa.fnExactFunAt
open Go.ChangeShapes Go.WideShapes Go.ChangeAt Go.RowKit Go.Proofs.Ytgdpghifhlghhaa.QFnExactFunAt Go.Proofs.YtgdpghifhlghhaaW.PrintWords Go.Proofs.YtgdpghifhlghhaaW.PrintLast Go.Proofs.YtgdpghifhlghhaaW.PrintMore
open Go.ChangeMaps (open_string shut_string)
set_option linter.unusedVariables false
set_option linter.unusedSimpArgs false
theorem list_of {α : Type} {Q : Nat → α → Prop} : ∀ n : Nat, (∀ i, i < n → ∃ x, Q i x) → ∃ xs : List α, xs.length = n ∧ ∀ i x, xs[i]? = some x → Q i x
  | 0, _ => ⟨[], rfl, fun i x h => by simp at h⟩
  | n + 1, h => by
    obtain ⟨xs, hl, hq⟩ := list_of n (fun i hi => h i (by omega))
    obtain ⟨x, hx⟩ := h n (by omega)
    refine ⟨xs ++ [x], by simp [hl], fun i y hy => ?_⟩
    by_cases hi : i < xs.length
    · rw [List.getElem?_append_left hi] at hy
      exact hq i y hy
    · rw [List.getElem?_append_right (by omega)] at hy
      have he : i - xs.length = 0 := by
        have := (List.getElem?_eq_some_iff.1 hy).1
        simp at this
        omega
      rw [he] at hy
      simp at hy
      subst hy
      have : i = n := by omega
      subst this
      exact hx
theorem opn_slice {α : Type} {H : Type} {enc : TypeId × Value → H} {P : Program} {W : World} {spare : Nat → Bool} {held : Bool} (d : Kd α) {t e : TypeId} (ht : P.underlying t = some (.slice e)) (hc : P.cellsOf e = d.sz) {wf : α → Prop} {fuel : Nat} {cs : List Value} {r : DataW H × List MemPlace}
    (h : DataW.trod enc P W 0 spare held fuel t cs = some r) (ih : ∀ n, n < fuel → ∀ cs r, DataW.trod enc P W 0 spare held n e cs = some r → ∃ x, d.K W x cs ∧ wf x) :
    ∃ (xs : List α) (A : Option Addr) (c : Nat), cs = [.slice A xs.length c] ∧ xs.length ≤ c ∧ xs.length ≤ maxLen ∧ d.C W A xs.length xs ∧ ∀ x ∈ xs, wf x := by
  rcases DataW.trod_slice ht h with ⟨rfl, _⟩ | ⟨a, len, cap, elems, rest, n, rfl, rfl, _, _, hl, hm, hlen, hel, _, _⟩
  · exact ⟨[], none, 0, rfl, Nat.le_refl _, by simp, Kd.C_nil d W, fun x hx => by cases hx⟩
  · obtain ⟨xs, hxl, hxq⟩ := list_of (Q := fun i x => ∃ c, c.length = d.sz ∧ d.K W x c ∧ wf x ∧ ∀ j u, c[j]? = some u → W.cell? (a.add (i * d.sz + j)) = some u) len (fun i hi => by
      have h1 := hel i hi
      rw [List.getElem?_eq_getElem (by omega)] at h1
      obtain ⟨c, h2, h3⟩ := Option.bind_eq_some_iff.1 h1
      obtain ⟨x, hK, hw⟩ := ih n (by omega) _ _ h3
      obtain ⟨_, h5, h6⟩ := World.cells?_some h2
      refine ⟨x, c, by rw [h5, hc], hK, hw, fun j u hu => ?_⟩
      have hj : j < P.cellsOf e := by rw [← h5]; exact (List.getElem?_eq_some_iff.1 hu).1
      rw [← Addr.add_add, ← hc, h6 j hj, hu])
    subst hxl
    refine ⟨xs, some a, cap, rfl, hl, by omega, ⟨rfl, by unfold maxLen at hm; omega, fun _ => ⟨a, rfl, fun j p hj => ?_⟩⟩, fun x hx => ?_⟩
    · obtain ⟨c, h1, h2, _, h4⟩ := hxq j p hj
      exact ⟨c, h1, h2, h4⟩
    · obtain ⟨i, hi, rfl⟩ := List.getElem_of_mem hx
      obtain ⟨_, _, _, h3, _⟩ := hxq i _ (List.getElem?_eq_getElem hi)
      exact h3

set_option maxRecDepth 100000 in
theorem opnh68 {H : Type} {enc : TypeId × Value → H} {W : World} (spare : Nat → Bool) (held : Bool) (fuel : Nat) (ih : ∀ m, m < fuel → ∀ (cs : List Value) (r : DataW H × List MemPlace), DataW.trod enc Try.prog W 0 spare held m 49 cs = some r → ∃ x : S49, k49.K W x cs ∧ wf49 x) : ∀ (cs : List Value) (r : DataW H × List MemPlace), DataW.trod enc Try.prog W 0 spare held fuel 68 cs = some r → ∃ x : S68, k68.K W x cs ∧ wf68 x := by
  intro cs r h
  obtain ⟨ys, n, rfl, _, hl, hlen, hf⟩ := DataW.trod_struct Try.underlying68 h
  rw [show Try.prog.cellsOf 68 = 10 from by kernel_rfl] at hl
  obtain ⟨c0, c1, c2, c3, c4, c5, c6, c7, c8, c9, rfl⟩ : ∃ c0 c1 c2 c3 c4 c5 c6 c7 c8 c9, cs = [c0, c1, c2, c3, c4, c5, c6, c7, c8, c9] := by
    match cs, hl with
    | [c0, c1, c2, c3, c4, c5, c6, c7, c8, c9], _ => exact ⟨c0, c1, c2, c3, c4, c5, c6, c7, c8, c9, rfl⟩
  obtain ⟨y0, y1, rfl⟩ : ∃ y0 y1, ys = [y0, y1] := by
    match ys, hlen with
    | [y0, y1], _ => exact ⟨y0, y1, rfl⟩
  have e0 : DataW.trod enc Try.prog W 0 spare held n 49 [c0, c1, c2, c3, c4] = some y0 := by
    have q_ := hf 0 _ rfl
    simpa [show Try.prog.cellsOf 49 = 5 from by kernel_rfl] using q_
  obtain ⟨v0, K0, w0⟩ := ih n (by omega) _ _ e0
  obtain ⟨A0_3, cp0_3, A0_4, cp0_4, hc0, l0_3, g0_3, l0_4, g0_4⟩ := k49_open K0
  simp only [List.cons.injEq, and_true] at hc0
  obtain ⟨rfl, rfl, rfl, rfl, rfl⟩ := hc0
  have e1 : DataW.trod enc Try.prog W 0 spare held n 49 [c5, c6, c7, c8, c9] = some y1 := by
    have q_ := hf 1 _ rfl
    simpa [show Try.prog.cellsOf 49 = 5 from by kernel_rfl] using q_
  obtain ⟨v1, K1, w1⟩ := ih n (by omega) _ _ e1
  obtain ⟨A1_3, cp1_3, A1_4, cp1_4, hc1, l1_3, g1_3, l1_4, g1_4⟩ := k49_open K1
  simp only [List.cons.injEq, and_true] at hc1
  obtain ⟨rfl, rfl, rfl, rfl, rfl⟩ := hc1
  exact ⟨⟨v0, v1⟩, k68_mk W (⟨v0, v1⟩ : S68) l0_3 g0_3 l0_4 g0_4 l1_3 g1_3 l1_4 g1_4, by unfold wf68; exact ⟨w0, w1⟩⟩
set_option maxRecDepth 100000 in
theorem opn49 {H : Type} {enc : TypeId × Value → H} {W : World} (spare : Nat → Bool) (held : Bool) : ∀ (fuel : Nat) (cs : List Value) (r : DataW H × List MemPlace), DataW.trod enc Try.prog W 0 spare held fuel 49 cs = some r → ∃ x : S49, k49.K W x cs ∧ wf49 x := by
  intro fuel
  induction fuel using Nat.strongRecOn with
  | _ fuel ih =>
  intro cs r h
  obtain ⟨ys, n, rfl, _, hl, hlen, hf⟩ := DataW.trod_struct Try.underlying49 h
  rw [show Try.prog.cellsOf 49 = 5 from by kernel_rfl] at hl
  obtain ⟨c0, c1, c2, c3, c4, rfl⟩ : ∃ c0 c1 c2 c3 c4, cs = [c0, c1, c2, c3, c4] := by
    match cs, hl with
    | [c0, c1, c2, c3, c4], _ => exact ⟨c0, c1, c2, c3, c4, rfl⟩
  obtain ⟨y0, y1, y2, y3, y4, rfl⟩ : ∃ y0 y1 y2 y3 y4, ys = [y0, y1, y2, y3, y4] := by
    match ys, hlen with
    | [y0, y1, y2, y3, y4], _ => exact ⟨y0, y1, y2, y3, y4, rfl⟩
  have e0 : DataW.trod enc Try.prog W 0 spare held n 3 [c0] = some y0 := by
    have q_ := hf 0 _ rfl
    simpa [show Try.prog.cellsOf 3 = 1 from by kernel_rfl] using q_
  obtain ⟨v0, hc0, _, w0⟩ := DataW.trod_int Try.underlying3 e0
  simp only [List.cons.injEq, and_true] at hc0
  obtain rfl := hc0
  have e1 : DataW.trod enc Try.prog W 0 spare held n 3 [c1] = some y1 := by
    have q_ := hf 1 _ rfl
    simpa [show Try.prog.cellsOf 3 = 1 from by kernel_rfl] using q_
  obtain ⟨v1, hc1, _, w1⟩ := DataW.trod_int Try.underlying3 e1
  simp only [List.cons.injEq, and_true] at hc1
  obtain rfl := hc1
  have e2 : DataW.trod enc Try.prog W 0 spare held n 9 [c2] = some y2 := by
    have q_ := hf 2 _ rfl
    simpa [show Try.prog.cellsOf 9 = 1 from by kernel_rfl] using q_
  obtain ⟨v2, hc2, _, w2⟩ := DataW.trod_string Try.underlying9 e2
  simp only [List.cons.injEq, and_true] at hc2
  obtain rfl := hc2
  have e3 : DataW.trod enc Try.prog W 0 spare held n 46 [c3] = some y3 := by
    have q_ := hf 3 _ rfl
    simpa [show Try.prog.cellsOf 46 = 1 from by kernel_rfl] using q_
  obtain ⟨v3, A3, cp3, hc3, l3, m3, g3, w3⟩ := opn_slice (wf := wf49) k49 Try.underlying46 (by kernel_rfl) e3 (fun m hm => ih m (by omega))
  simp only [List.cons.injEq, and_true] at hc3
  obtain rfl := hc3
  have e4 : DataW.trod enc Try.prog W 0 spare held n 47 [c4] = some y4 := by
    have q_ := hf 4 _ rfl
    simpa [show Try.prog.cellsOf 47 = 1 from by kernel_rfl] using q_
  obtain ⟨v4, A4, cp4, hc4, l4, m4, g4, w4⟩ := opn_slice (wf := wf68) k68 Try.underlying47 (by kernel_rfl) e4 (fun m hm => opnh68 spare held m (fun m2 hm2 => ih m2 (by omega)))
  simp only [List.cons.injEq, and_true] at hc4
  obtain rfl := hc4
  exact ⟨⟨v0, v1, v2, v3, v4⟩, k49_mk W (⟨v0, v1, v2, v3, v4⟩ : S49) l3 g3 l4 g4, by unfold wf49; exact ⟨w0, w1, w2, ⟨m3, (wfl49_iff _).2 w3⟩, ⟨m4, (wfl68_iff _).2 w4⟩⟩⟩
set_option maxRecDepth 100000 in
theorem opn51 {H : Type} {enc : TypeId × Value → H} {W : World} (spare : Nat → Bool) (held : Bool) : ∀ (fuel : Nat) (cs : List Value) (r : DataW H × List MemPlace), DataW.trod enc Try.prog W 0 spare held fuel 51 cs = some r → ∃ x : S51, k51.K W x cs ∧ wf51 x := by
  intro fuel
  induction fuel using Nat.strongRecOn with
  | _ fuel ih =>
  intro cs r h
  obtain ⟨ys, n, rfl, _, hl, hlen, hf⟩ := DataW.trod_struct Try.underlying51 h
  rw [show Try.prog.cellsOf 51 = 7 from by kernel_rfl] at hl
  obtain ⟨c0, c1, c2, c3, c4, c5, c6, rfl⟩ : ∃ c0 c1 c2 c3 c4 c5 c6, cs = [c0, c1, c2, c3, c4, c5, c6] := by
    match cs, hl with
    | [c0, c1, c2, c3, c4, c5, c6], _ => exact ⟨c0, c1, c2, c3, c4, c5, c6, rfl⟩
  obtain ⟨y0, y1, y2, rfl⟩ : ∃ y0 y1 y2, ys = [y0, y1, y2] := by
    match ys, hlen with
    | [y0, y1, y2], _ => exact ⟨y0, y1, y2, rfl⟩
  have e0 : DataW.trod enc Try.prog W 0 spare held n 9 [c0] = some y0 := by
    have q_ := hf 0 _ rfl
    simpa [show Try.prog.cellsOf 9 = 1 from by kernel_rfl] using q_
  obtain ⟨v0, hc0, _, w0⟩ := DataW.trod_string Try.underlying9 e0
  simp only [List.cons.injEq, and_true] at hc0
  obtain rfl := hc0
  have e1 : DataW.trod enc Try.prog W 0 spare held n 34 [c1] = some y1 := by
    have q_ := hf 1 _ rfl
    simpa [show Try.prog.cellsOf 34 = 1 from by kernel_rfl] using q_
  obtain ⟨v1, A1, cp1, hc1, l1, m1, g1, w1⟩ := opn_slice (wf := fun x_ => x_.size ≤ maxLen) Kd.string Try.underlying34 (by kernel_rfl) e1 (fun m _ cs r h => by obtain ⟨s, rfl, _, hs⟩ := DataW.trod_string Try.underlying9 h; exact ⟨s, rfl, hs⟩)
  simp only [List.cons.injEq, and_true] at hc1
  obtain rfl := hc1
  have e2 : DataW.trod enc Try.prog W 0 spare held n 49 [c2, c3, c4, c5, c6] = some y2 := by
    have q_ := hf 2 _ rfl
    simpa [show Try.prog.cellsOf 49 = 5 from by kernel_rfl] using q_
  obtain ⟨v2, K2, w2⟩ := opn49 spare held n _ _ e2
  obtain ⟨A2_3, cp2_3, A2_4, cp2_4, hc2, l2_3, g2_3, l2_4, g2_4⟩ := k49_open K2
  simp only [List.cons.injEq, and_true] at hc2
  obtain ⟨rfl, rfl, rfl, rfl, rfl⟩ := hc2
  exact ⟨⟨v0, v1, v2⟩, k51_mk W (⟨v0, v1, v2⟩ : S51) l1 g1 l2_3 g2_3 l2_4 g2_4, by unfold wf51; exact ⟨w0, ⟨m1, w1⟩, w2⟩⟩
set_option maxRecDepth 100000 in
theorem opn24 {H : Type} {enc : TypeId × Value → H} {W : World} (spare : Nat → Bool) (held : Bool) : ∀ (fuel : Nat) (cs : List Value) (r : DataW H × List MemPlace), DataW.trod enc Try.prog W 0 spare held fuel 24 cs = some r → ∃ x : S24, k24.K W x cs ∧ wf24 x := by
  intro fuel
  induction fuel using Nat.strongRecOn with
  | _ fuel ih =>
  intro cs r h
  obtain ⟨ys, n, rfl, _, hl, hlen, hf⟩ := DataW.trod_struct Try.underlying24 h
  rw [show Try.prog.cellsOf 24 = 1 from by kernel_rfl] at hl
  obtain ⟨c0, rfl⟩ : ∃ c0, cs = [c0] := by
    match cs, hl with
    | [c0], _ => exact ⟨c0, rfl⟩
  obtain ⟨y0, rfl⟩ : ∃ y0, ys = [y0] := by
    match ys, hlen with
    | [y0], _ => exact ⟨y0, rfl⟩
  have e0 : DataW.trod enc Try.prog W 0 spare held n 22 [c0] = some y0 := by
    have q_ := hf 0 _ rfl
    simpa [show Try.prog.cellsOf 22 = 1 from by kernel_rfl] using q_
  obtain ⟨v0, A0, cp0, hc0, l0, m0, g0, w0⟩ := opn_slice (wf := wf51) k51 Try.underlying22 (by kernel_rfl) e0 (fun m _ => opn51 spare held m)
  simp only [List.cons.injEq, and_true] at hc0
  obtain rfl := hc0
  exact ⟨⟨v0⟩, k24_mk W (⟨v0⟩ : S24) l0 g0, by unfold wf24; exact ⟨m0, w0⟩⟩
theorem own : ownKnob Try.prog.godebug = none := by kernel_rfl
theorem laidOut : laidOutB Try.prog = true := by kernel_rfl
set_option maxRecDepth 100000 in
theorem lifted (os : Os) (started : os.Started) (H : Type) (enc : TypeId × Value → H) :
    ReturnsInHanded {} Try.checked os 3 .any (Rows.fnExactFunAtSpec.pre6 enc Try.prog Try.f3 Rows.fnExactFunAtRow.domain false) (Rows.fnExactFunAtSpec.post enc Try.prog Try.f3 false true false false) := by
  refine returnsInHanded_of_change_sized (C := Try.checked) own started (by kernel_rfl) Try.func3
    (ChangeSpec.witness6 (enc := enc) (C := Try.checked) false ⟨#[], #[.agg #[.slice none 0 0], .string ByteArray.empty], []⟩ 8 (by kernel_rfl) (by kernel_rfl) (by kernel_rfl) (by kernel_rfl)) ?_
  intro W base args ds gs before hval0 hW hcnd hsz0 _
  have hsz : (DataW.weightsEach Try.prog (Try.f3.params.toList ++ Rows.fnExactFunAtSpec.plain.varTypes Try.prog) (ds ++ gs)).all (· ≤ reachBytes) = true := hsz0
  have hval : ∀ (j : Nat) t v, Try.f3.params[j]? = some t → args[j]? = some v → Value.okWide Try.prog W .any base t v := hval0
  have hW' := hW
  obtain ⟨p, q, hA0, hV, rfl, hfz, hnd⟩ := hW
  have hA : DataW.TrodAll enc Try.prog W 0 (fun _ => true) true Try.f3.params.toList args.toList ds p := hA0
  rw [Try.params3] at hA hval hsz
  obtain ⟨v0, vs0, d0, ds0, p0, q0, hargs, rfl, rfl, h0, r0⟩ := trodAll_cons hA
  obtain ⟨v1, vs1, d1, ds1, p1, q1, rfl, rfl, rfl, h1, r1⟩ := trodAll_cons r0
  obtain ⟨rfl, rfl, rfl⟩ := trodAll_nil r1
  obtain rfl : args = #[v0, v1] := by cases args; simp_all
  obtain ⟨rfl, rfl⟩ := trodVars_none hV
  obtain ⟨cs0, rfl, _⟩ := okWide_struct Try.underlying24 (hval 0 24 v0 rfl rfl)
  have k0 := h0
  have lt0 : ∀ x ∈ p0, x.block < W.heap.size := by obtain ⟨m, hm⟩ := k0; exact DataW.trod_lt m _ _ _ hm
  obtain ⟨fu0, hf0⟩ := h0
  obtain ⟨x0, K0, wf0_⟩ := opn24 _ _ fu0 _ _ hf0
  obtain ⟨A0_0, c0_0, hc0, l0_0, g0_0⟩ := k24_open K0
  obtain rfl : cs0 = #[.slice A0_0 x0.f0.length c0_0] := by
    apply Array.ext'
    simpa [Value.cells] using hc0
  obtain ⟨a1, rfl, rfl, rfl, y1⟩ := open_string Try.underlying9 (hval 1 9 v1 rfl rfl) h1
  have w1 : a1.size ≤ 140737488351232 := by
    have z := sized_string hsz (j := 1) (t := 9) rfl rfl
    rw [Array.length_toList] at z
    exact z
  clear hA0 hval0 hsz0 hsz
  obtain ⟨k_, hk_⟩ := Pure.FnExactFunAt x0.f0 a1 (by rw [eta24 x0]; exact wf0_) w1
  refine (QFnExactFunAt.laws_FnExactFunAt.calls k_ _ _ x0.f0 a1 true W g0_0 l0_0 hk_).mono fun e W' hpost => ?_
  obtain ⟨he, bel0⟩ := hpost
  have bel : Below W.heap.size W W' := bel0
  subst he
  exact ⟨_, rfl, _, _, _, [], _, [], hW', trodAll_mk1 (shut_bool Try.underlying4 _), (trodAll_cons_mk (Below.trod laidOut (by kernel_rfl) (of_decide_eq_true (by kernel_rfl)) k0 bel lt0) (trodAll_cons_mk (shut_string Try.underlying9 y1) trodAll_mk0)), rfl, bel.frame _, fun h => by cases h⟩
theorem over : Rows.fnExactFunAtRow.holds Try.pinned (OpenSpec.ofChange Rows.fnExactFunAtSpec) :=
  OpenClaim.holds_of_wide 3 Try.f3 rfl rfl rfl rfl rfl rfl rfl ⟨rfl, rfl, rfl, rfl, rfl⟩ rfl rfl rfl rfl rfl (by kernel_rfl) Try.func3 (by kernel_rfl)
    (of_decide_eq_true (by kernel_rfl)) (by unfold Func.isWrapper; first | (rw [if_pos (by decide +kernel)]; kernel_rfl) | (rw [if_neg (by decide +kernel)]; exact ⟨rfl, rfl⟩))
    (fun os started H enc _ => lifted os started H enc)
theorem proved : Rows.FnExactFunAtSaid := over
#print axioms proved
end Go.Proofs.Ytgdpghifhlghhaa.fnExactFunAt
namespace Go.Proofs.Ytgdpghifhlghhaa
/-- The row, under a short name, for the claim. -/
theorem fnExactFunAt_holds : Rows.FnExactFunAtSaid := fnExactFunAt.proved
end Go.Proofs.Ytgdpghifhlghhaa
