-- Written by a program of this workplace (print2.py) for this claim, over the print's words.
import Derived.Test.YtogeameinakelaaRows
import Derived.Test.YtogeameinakelaaQFnExactCallsOfx7
import Derived.Test.YtogeameinakelaaPureFnExactCallsOf
import Derived.WalkKit
import Derived.ProofKit
import Derived.OpenShut
import Derived.ShutString
import Derived.ChangeOld
import Derived.Below
import Derived.SizedLaws
import Derived.ChangeSlices
import Derived.DataReads
import Derived.DataElems
import Derived.Carry
namespace Go.Proofs.Ytogeameinakelaa.fnExactCallsOf
open Go.ChangeShapes Go.WideShapes Go.ChangeAt Go.RowKit Go.Proofs.Ytogeameinakelaa.QFnExactCallsOf Go.Proofs.YtogeameinakelaaW.PrintWords Go.Proofs.YtogeameinakelaaW.PrintLast Go.Proofs.YtogeameinakelaaW.PrintMore
open Go.ChangeMaps (open_string shut_string)
set_option linter.unusedVariables false
set_option linter.unusedSimpArgs false
theorem list_of {α : Type} {Q : Nat → α → Prop} : ∀ n : Nat, (∀ i, i < n → ∃ x, Q i x) → ∃ xs : List α, xs.length = n ∧ ∀ i x, xs[i]? = some x → Q i x
  | 0, _ => ⟨[], rfl, fun i x h => by simp at h⟩
  | n + 1, h => by
    obtain ⟨xs, hl, hq⟩ := list_of n (fun i hi => h i (by omega))
    obtain ⟨x, hx⟩ := h n (by omega)
    refine ⟨xs ++ [x], by simp [hl], fun i y hy => ?_⟩
    by_cases hi : i < xs.length
    · rw [List.getElem?_append_left hi] at hy
      exact hq i y hy
    · rw [List.getElem?_append_right (by omega)] at hy
      have he : i - xs.length = 0 := by
        have := (List.getElem?_eq_some_iff.1 hy).1
        simp at this
        omega
      rw [he] at hy
      simp at hy
      subst hy
      have : i = n := by omega
      subst this
      exact hx
theorem opn_slice {α : Type} {H : Type} {enc : TypeId × Value → H} {P : Program} {W : World} {spare : Nat → Bool} {held : Bool} (d : Kd α) {t e : TypeId} (ht : P.underlying t = some (.slice e)) (hc : P.cellsOf e = d.sz) {wf : α → Prop} {fuel : Nat} {cs : List Value} {r : DataW H × List MemPlace}
    (h : DataW.trod enc P W 0 spare held fuel t cs = some r) (ih : ∀ n, n < fuel → ∀ cs r, DataW.trod enc P W 0 spare held n e cs = some r → ∃ x, d.K W x cs ∧ wf x) :
    ∃ (xs : List α) (A : Option Addr) (c : Nat), cs = [.slice A xs.length c] ∧ xs.length ≤ c ∧ xs.length ≤ maxLen ∧ d.C W A xs.length xs ∧ ∀ x ∈ xs, wf x := by
  rcases DataW.trod_slice ht h with ⟨rfl, _⟩ | ⟨a, len, cap, elems, rest, n, rfl, rfl, _, _, hl, hm, hlen, hel, _, _⟩
  · exact ⟨[], none, 0, rfl, Nat.le_refl _, by simp, Kd.C_nil d W, fun x hx => by cases hx⟩
  · obtain ⟨xs, hxl, hxq⟩ := list_of (Q := fun i x => ∃ c, c.length = d.sz ∧ d.K W x c ∧ wf x ∧ ∀ j u, c[j]? = some u → W.cell? (a.add (i * d.sz + j)) = some u) len (fun i hi => by
      have h1 := hel i hi
      rw [List.getElem?_eq_getElem (by omega)] at h1
      obtain ⟨c, h2, h3⟩ := Option.bind_eq_some_iff.1 h1
      obtain ⟨x, hK, hw⟩ := ih n (by omega) _ _ h3
      obtain ⟨_, h5, h6⟩ := World.cells?_some h2
      refine ⟨x, c, by rw [h5, hc], hK, hw, fun j u hu => ?_⟩
      have hj : j < P.cellsOf e := by rw [← h5]; exact (List.getElem?_eq_some_iff.1 hu).1
      rw [← Addr.add_add, ← hc, h6 j hj, hu])
    subst hxl
    refine ⟨xs, some a, cap, rfl, hl, by omega, ⟨rfl, by unfold maxLen at hm; omega, fun _ => ⟨a, rfl, fun j p hj => ?_⟩⟩, fun x hx => ?_⟩
    · obtain ⟨c, h1, h2, _, h4⟩ := hxq j p hj
      exact ⟨c, h1, h2, h4⟩
    · obtain ⟨i, hi, rfl⟩ := List.getElem_of_mem hx
      obtain ⟨_, _, _, h3, _⟩ := hxq i _ (List.getElem?_eq_getElem hi)
      exact h3

set_option maxRecDepth 100000 in
theorem opnh54 {H : Type} {enc : TypeId × Value → H} {W : World} (spare : Nat → Bool) (held : Bool) (fuel : Nat) (ih : ∀ m, m < fuel → ∀ (cs : List Value) (r : DataW H × List MemPlace), DataW.trod enc Try.prog W 0 spare held m 25 cs = some r → ∃ x : S25, k25.K W x cs ∧ wf25 x) : ∀ (cs : List Value) (r : DataW H × List MemPlace), DataW.trod enc Try.prog W 0 spare held fuel 54 cs = some r → ∃ x : S54, k54.K W x cs ∧ wf54 x := by
  intro cs r h
  obtain ⟨ys, n, rfl, _, hl, hlen, hf⟩ := DataW.trod_struct Try.underlying54 h
  rw [show Try.prog.cellsOf 54 = 10 from by kernel_rfl] at hl
  obtain ⟨c0, c1, c2, c3, c4, c5, c6, c7, c8, c9, rfl⟩ : ∃ c0 c1 c2 c3 c4 c5 c6 c7 c8 c9, cs = [c0, c1, c2, c3, c4, c5, c6, c7, c8, c9] := by
    match cs, hl with
    | [c0, c1, c2, c3, c4, c5, c6, c7, c8, c9], _ => exact ⟨c0, c1, c2, c3, c4, c5, c6, c7, c8, c9, rfl⟩
  obtain ⟨y0, y1, rfl⟩ : ∃ y0 y1, ys = [y0, y1] := by
    match ys, hlen with
    | [y0, y1], _ => exact ⟨y0, y1, rfl⟩
  have e0 : DataW.trod enc Try.prog W 0 spare held n 25 [c0, c1, c2, c3, c4] = some y0 := by
    have q_ := hf 0 _ rfl
    simpa [show Try.prog.cellsOf 25 = 5 from by kernel_rfl] using q_
  obtain ⟨v0, K0, w0⟩ := ih n (by omega) _ _ e0
  obtain ⟨A0_3, cp0_3, A0_4, cp0_4, hc0, l0_3, g0_3, l0_4, g0_4⟩ := k25_open K0
  simp only [List.cons.injEq, and_true] at hc0
  obtain ⟨rfl, rfl, rfl, rfl, rfl⟩ := hc0
  have e1 : DataW.trod enc Try.prog W 0 spare held n 25 [c5, c6, c7, c8, c9] = some y1 := by
    have q_ := hf 1 _ rfl
    simpa [show Try.prog.cellsOf 25 = 5 from by kernel_rfl] using q_
  obtain ⟨v1, K1, w1⟩ := ih n (by omega) _ _ e1
  obtain ⟨A1_3, cp1_3, A1_4, cp1_4, hc1, l1_3, g1_3, l1_4, g1_4⟩ := k25_open K1
  simp only [List.cons.injEq, and_true] at hc1
  obtain ⟨rfl, rfl, rfl, rfl, rfl⟩ := hc1
  exact ⟨⟨v0, v1⟩, k54_mk W (⟨v0, v1⟩ : S54) l0_3 g0_3 l0_4 g0_4 l1_3 g1_3 l1_4 g1_4, by unfold wf54; exact ⟨w0, w1⟩⟩
set_option maxRecDepth 100000 in
theorem opn25 {H : Type} {enc : TypeId × Value → H} {W : World} (spare : Nat → Bool) (held : Bool) : ∀ (fuel : Nat) (cs : List Value) (r : DataW H × List MemPlace), DataW.trod enc Try.prog W 0 spare held fuel 25 cs = some r → ∃ x : S25, k25.K W x cs ∧ wf25 x := by
  intro fuel
  induction fuel using Nat.strongRecOn with
  | _ fuel ih =>
  intro cs r h
  obtain ⟨ys, n, rfl, _, hl, hlen, hf⟩ := DataW.trod_struct Try.underlying25 h
  rw [show Try.prog.cellsOf 25 = 5 from by kernel_rfl] at hl
  obtain ⟨c0, c1, c2, c3, c4, rfl⟩ : ∃ c0 c1 c2 c3 c4, cs = [c0, c1, c2, c3, c4] := by
    match cs, hl with
    | [c0, c1, c2, c3, c4], _ => exact ⟨c0, c1, c2, c3, c4, rfl⟩
  obtain ⟨y0, y1, y2, y3, y4, rfl⟩ : ∃ y0 y1 y2 y3 y4, ys = [y0, y1, y2, y3, y4] := by
    match ys, hlen with
    | [y0, y1, y2, y3, y4], _ => exact ⟨y0, y1, y2, y3, y4, rfl⟩
  have e0 : DataW.trod enc Try.prog W 0 spare held n 3 [c0] = some y0 := by
    have q_ := hf 0 _ rfl
    simpa [show Try.prog.cellsOf 3 = 1 from by kernel_rfl] using q_
  obtain ⟨v0, hc0, _, w0⟩ := DataW.trod_int Try.underlying3 e0
  simp only [List.cons.injEq, and_true] at hc0
  obtain rfl := hc0
  have e1 : DataW.trod enc Try.prog W 0 spare held n 3 [c1] = some y1 := by
    have q_ := hf 1 _ rfl
    simpa [show Try.prog.cellsOf 3 = 1 from by kernel_rfl] using q_
  obtain ⟨v1, hc1, _, w1⟩ := DataW.trod_int Try.underlying3 e1
  simp only [List.cons.injEq, and_true] at hc1
  obtain rfl := hc1
  have e2 : DataW.trod enc Try.prog W 0 spare held n 9 [c2] = some y2 := by
    have q_ := hf 2 _ rfl
    simpa [show Try.prog.cellsOf 9 = 1 from by kernel_rfl] using q_
  obtain ⟨v2, hc2, _, w2⟩ := DataW.trod_string Try.underlying9 e2
  simp only [List.cons.injEq, and_true] at hc2
  obtain rfl := hc2
  have e3 : DataW.trod enc Try.prog W 0 spare held n 22 [c3] = some y3 := by
    have q_ := hf 3 _ rfl
    simpa [show Try.prog.cellsOf 22 = 1 from by kernel_rfl] using q_
  obtain ⟨v3, A3, cp3, hc3, l3, m3, g3, w3⟩ := opn_slice (wf := wf25) k25 Try.underlying22 (by kernel_rfl) e3 (fun m hm => ih m (by omega))
  simp only [List.cons.injEq, and_true] at hc3
  obtain rfl := hc3
  have e4 : DataW.trod enc Try.prog W 0 spare held n 23 [c4] = some y4 := by
    have q_ := hf 4 _ rfl
    simpa [show Try.prog.cellsOf 23 = 1 from by kernel_rfl] using q_
  obtain ⟨v4, A4, cp4, hc4, l4, m4, g4, w4⟩ := opn_slice (wf := wf54) k54 Try.underlying23 (by kernel_rfl) e4 (fun m hm => opnh54 spare held m (fun m2 hm2 => ih m2 (by omega)))
  simp only [List.cons.injEq, and_true] at hc4
  obtain rfl := hc4
  exact ⟨⟨v0, v1, v2, v3, v4⟩, k25_mk W (⟨v0, v1, v2, v3, v4⟩ : S25) l3 g3 l4 g4, by unfold wf25; exact ⟨w0, w1, w2, ⟨m3, (wfl25_iff _).2 w3⟩, ⟨m4, (wfl54_iff _).2 w4⟩⟩⟩
theorem own : ownKnob Try.prog.godebug = none := by kernel_rfl
theorem laidOut : laidOutB Try.prog = true := by kernel_rfl
set_option maxRecDepth 100000 in
theorem lifted (os : Os) (started : os.Started) (H : Type) (enc : TypeId × Value → H) :
    ReturnsInHanded {} Try.checked os 3 .any (Rows.fnExactCallsOfSpec.pre6 enc Try.prog Try.f3 Rows.fnExactCallsOfRow.domain false) (Rows.fnExactCallsOfSpec.post enc Try.prog Try.f3 false true false false) := by
  refine returnsInHanded_of_change_sized (C := Try.checked) own started (by kernel_rfl) Try.func3
    (ChangeSpec.witness6 (enc := enc) (C := Try.checked) false ⟨#[], #[.agg #[.int .i64 0, .int .i64 0, .string ByteArray.empty, .slice none 0 0, .slice none 0 0]], []⟩ 8 (by kernel_rfl) (by kernel_rfl) (by kernel_rfl) (by kernel_rfl)) ?_
  intro W base args ds gs before hval0 hW hcnd hsz0 _
  have hsz : (DataW.weightsEach Try.prog (Try.f3.params.toList ++ Rows.fnExactCallsOfSpec.plain.varTypes Try.prog) (ds ++ gs)).all (· ≤ reachBytes) = true := hsz0
  have hval : ∀ (j : Nat) t v, Try.f3.params[j]? = some t → args[j]? = some v → Value.okWide Try.prog W .any base t v := hval0
  have hW' := hW
  obtain ⟨p, q, hA0, hV, rfl, hfz, hnd⟩ := hW
  have hA : DataW.TrodAll enc Try.prog W 0 (fun _ => true) true Try.f3.params.toList args.toList ds p := hA0
  rw [Try.params3] at hA hval hsz
  obtain ⟨v0, vs0, d0, ds0, p0, q0, hargs, rfl, rfl, h0, r0⟩ := trodAll_cons hA
  obtain ⟨rfl, rfl, rfl⟩ := trodAll_nil r0
  obtain rfl : args = #[v0] := by cases args; simp_all
  obtain ⟨rfl, rfl⟩ := trodVars_none hV
  obtain ⟨cs0, rfl, _⟩ := okWide_struct Try.underlying25 (hval 0 25 v0 rfl rfl)
  have k0 := h0
  have lt0 : ∀ x ∈ p0, x.block < W.heap.size := by obtain ⟨m, hm⟩ := k0; exact DataW.trod_lt m _ _ _ hm
  obtain ⟨fu0, hf0⟩ := h0
  obtain ⟨x0, K0, wf0_⟩ := opn25 _ _ fu0 _ _ hf0
  obtain ⟨A0_3, c0_3, A0_4, c0_4, hc0, l0_3, g0_3, l0_4, g0_4⟩ := k25_open K0
  obtain rfl : cs0 = #[.int .i64 x0.f0, .int .i64 x0.f1, .string x0.f2, .slice A0_3 x0.f3.length c0_3, .slice A0_4 x0.f4.length c0_4] := by
    apply Array.ext'
    simpa [Value.cells] using hc0
  clear hA0 hval0 hsz0 hsz
  obtain ⟨k_, hk_⟩ := Pure.FnExactCallsOf x0.f0 x0.f1 x0.f2 x0.f3 x0.f4 (by rw [eta25 x0]; exact wf0_)
  refine (QFnExactCallsOf.laws_FnExactCallsOf.calls k_ x0.f0 x0.f1 x0.f2 _ _ x0.f3 _ _ x0.f4 true W g0_3 l0_3 g0_4 l0_4 hk_).mono fun e W' hpost => ?_
  obtain ⟨he, bel0⟩ := hpost
  have bel : Below W.heap.size W W' := bel0
  subst he
  exact ⟨_, rfl, _, _, _, [], _, [], hW', trodAll_mk1 (shut_bool Try.underlying4 _), (trodAll_cons_mk (Below.trod laidOut (by kernel_rfl) (of_decide_eq_true (by kernel_rfl)) k0 bel lt0) trodAll_mk0), rfl, bel.frame _, fun h => by cases h⟩
theorem over : Rows.fnExactCallsOfRow.holds Try.pinned (OpenSpec.ofChange Rows.fnExactCallsOfSpec) :=
  OpenClaim.holds_of_wide 3 Try.f3 rfl rfl rfl rfl rfl rfl rfl ⟨rfl, rfl, rfl, rfl, rfl⟩ rfl rfl rfl rfl rfl (by kernel_rfl) Try.func3 (by kernel_rfl)
    (of_decide_eq_true (by kernel_rfl)) (by unfold Func.isWrapper; first | (rw [if_pos (by decide +kernel)]; kernel_rfl) | (rw [if_neg (by decide +kernel)]; exact ⟨rfl, rfl⟩))
    (fun os started H enc _ => lifted os started H enc)
theorem proved : Rows.FnExactCallsOfSaid := over
#print axioms proved
end Go.Proofs.Ytogeameinakelaa.fnExactCallsOf
namespace Go.Proofs.Ytogeameinakelaa
/-- The row, under a short name, for the claim. -/
theorem fnExactCallsOf_holds : Rows.FnExactCallsOfSaid := fnExactCallsOf.proved
end Go.Proofs.Ytogeameinakelaa
