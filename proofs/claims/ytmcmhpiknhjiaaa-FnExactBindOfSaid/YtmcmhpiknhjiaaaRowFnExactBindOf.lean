-- Written by a program of this workplace (print2.py) for this claim, over the print's words.
import Derived.Test.YtmcmhpiknhjiaaaRows
import Derived.Test.YtmcmhpiknhjiaaaQFnExactBindOfx7
import Derived.Test.YtmcmhpiknhjiaaaPureFnExactBindOf
import Derived.WalkKit
import Derived.ProofKit
import Derived.OpenShut
import Derived.ShutString
import Derived.ChangeOld
import Derived.Below
import Derived.SizedLaws
import Derived.ChangeSlices
import Derived.DataReads
import Derived.DataElems
import Derived.Carry
import Derived.Test.YtmcmhpiknhjiaaaWSized
namespace Go.Proofs.Ytmcmhpiknhjiaaa.fnExactBindOf
open Go.ChangeShapes Go.WideShapes Go.ChangeAt Go.RowKit Go.Proofs.Ytmcmhpiknhjiaaa.QFnExactBindOf Go.Proofs.YtmcmhpiknhjiaaaW.PrintWords Go.Proofs.YtmcmhpiknhjiaaaW.PrintLast Go.Proofs.YtmcmhpiknhjiaaaW.PrintMore
open Go.ChangeMaps (open_string shut_string)
set_option linter.unusedVariables false
set_option linter.unusedSimpArgs false
theorem list_of {α : Type} {Q : Nat → α → Prop} : ∀ n : Nat, (∀ i, i < n → ∃ x, Q i x) → ∃ xs : List α, xs.length = n ∧ ∀ i x, xs[i]? = some x → Q i x
  | 0, _ => ⟨[], rfl, fun i x h => by simp at h⟩
  | n + 1, h => by
    obtain ⟨xs, hl, hq⟩ := list_of n (fun i hi => h i (by omega))
    obtain ⟨x, hx⟩ := h n (by omega)
    refine ⟨xs ++ [x], by simp [hl], fun i y hy => ?_⟩
    by_cases hi : i < xs.length
    · rw [List.getElem?_append_left hi] at hy
      exact hq i y hy
    · rw [List.getElem?_append_right (by omega)] at hy
      have he : i - xs.length = 0 := by
        have := (List.getElem?_eq_some_iff.1 hy).1
        simp at this
        omega
      rw [he] at hy
      simp at hy
      subst hy
      have : i = n := by omega
      subst this
      exact hx
theorem opn_slice {α : Type} {H : Type} {enc : TypeId × Value → H} {P : Program} {W : World} {spare : Nat → Bool} {held : Bool} (d : Kd α) {t e : TypeId} (ht : P.underlying t = some (.slice e)) (hc : P.cellsOf e = d.sz) {wf : α → Prop} {fuel : Nat} {cs : List Value} {r : DataW H × List MemPlace}
    (h : DataW.trod enc P W 0 spare held fuel t cs = some r) (ih : ∀ n, n < fuel → ∀ cs r, DataW.trod enc P W 0 spare held n e cs = some r → ∃ x, d.K W x cs ∧ wf x) :
    ∃ (xs : List α) (A : Option Addr) (c : Nat), cs = [.slice A xs.length c] ∧ xs.length ≤ c ∧ xs.length ≤ maxLen ∧ d.C W A xs.length xs ∧ ∀ x ∈ xs, wf x := by
  rcases DataW.trod_slice ht h with ⟨rfl, _⟩ | ⟨a, len, cap, elems, rest, n, rfl, rfl, _, _, hl, hm, hlen, hel, _, _⟩
  · exact ⟨[], none, 0, rfl, Nat.le_refl _, by simp, Kd.C_nil d W, fun x hx => by cases hx⟩
  · obtain ⟨xs, hxl, hxq⟩ := list_of (Q := fun i x => ∃ c, c.length = d.sz ∧ d.K W x c ∧ wf x ∧ ∀ j u, c[j]? = some u → W.cell? (a.add (i * d.sz + j)) = some u) len (fun i hi => by
      have h1 := hel i hi
      rw [List.getElem?_eq_getElem (by omega)] at h1
      obtain ⟨c, h2, h3⟩ := Option.bind_eq_some_iff.1 h1
      obtain ⟨x, hK, hw⟩ := ih n (by omega) _ _ h3
      obtain ⟨_, h5, h6⟩ := World.cells?_some h2
      refine ⟨x, c, by rw [h5, hc], hK, hw, fun j u hu => ?_⟩
      have hj : j < P.cellsOf e := by rw [← h5]; exact (List.getElem?_eq_some_iff.1 hu).1
      rw [← Addr.add_add, ← hc, h6 j hj, hu])
    subst hxl
    refine ⟨xs, some a, cap, rfl, hl, by omega, ⟨rfl, by unfold maxLen at hm; omega, fun _ => ⟨a, rfl, fun j p hj => ?_⟩⟩, fun x hx => ?_⟩
    · obtain ⟨c, h1, h2, _, h4⟩ := hxq j p hj
      exact ⟨c, h1, h2, h4⟩
    · obtain ⟨i, hi, rfl⟩ := List.getElem_of_mem hx
      obtain ⟨_, _, _, h3, _⟩ := hxq i _ (List.getElem?_eq_getElem hi)
      exact h3

set_option maxRecDepth 100000 in
theorem opn39 {H : Type} {enc : TypeId × Value → H} {W : World} (spare : Nat → Bool) (held : Bool) : ∀ (fuel : Nat) (cs : List Value) (r : DataW H × List MemPlace), DataW.trod enc Try.prog W 0 spare held fuel 39 cs = some r → ∃ x : S39, k39.K W x cs ∧ wf39 x := by
  intro fuel
  induction fuel using Nat.strongRecOn with
  | _ fuel ih =>
  intro cs r h
  obtain ⟨ys, n, rfl, _, hl, hlen, hf⟩ := DataW.trod_struct Try.underlying39 h
  rw [show Try.prog.cellsOf 39 = 4 from by kernel_rfl] at hl
  obtain ⟨c0, c1, c2, c3, rfl⟩ : ∃ c0 c1 c2 c3, cs = [c0, c1, c2, c3] := by
    match cs, hl with
    | [c0, c1, c2, c3], _ => exact ⟨c0, c1, c2, c3, rfl⟩
  obtain ⟨y0, y1, y2, y3, rfl⟩ : ∃ y0 y1 y2 y3, ys = [y0, y1, y2, y3] := by
    match ys, hlen with
    | [y0, y1, y2, y3], _ => exact ⟨y0, y1, y2, y3, rfl⟩
  have e0 : DataW.trod enc Try.prog W 0 spare held n 3 [c0] = some y0 := by
    have q_ := hf 0 _ rfl
    simpa [show Try.prog.cellsOf 3 = 1 from by kernel_rfl] using q_
  obtain ⟨v0, hc0, _, w0⟩ := DataW.trod_int Try.underlying3 e0
  simp only [List.cons.injEq, and_true] at hc0
  obtain rfl := hc0
  have e1 : DataW.trod enc Try.prog W 0 spare held n 3 [c1] = some y1 := by
    have q_ := hf 1 _ rfl
    simpa [show Try.prog.cellsOf 3 = 1 from by kernel_rfl] using q_
  obtain ⟨v1, hc1, _, w1⟩ := DataW.trod_int Try.underlying3 e1
  simp only [List.cons.injEq, and_true] at hc1
  obtain rfl := hc1
  have e2 : DataW.trod enc Try.prog W 0 spare held n 9 [c2] = some y2 := by
    have q_ := hf 2 _ rfl
    simpa [show Try.prog.cellsOf 9 = 1 from by kernel_rfl] using q_
  obtain ⟨v2, hc2, _, w2⟩ := DataW.trod_string Try.underlying9 e2
  simp only [List.cons.injEq, and_true] at hc2
  obtain rfl := hc2
  have e3 : DataW.trod enc Try.prog W 0 spare held n 37 [c3] = some y3 := by
    have q_ := hf 3 _ rfl
    simpa [show Try.prog.cellsOf 37 = 1 from by kernel_rfl] using q_
  obtain ⟨v3, A3, cp3, hc3, l3, m3, g3, w3⟩ := opn_slice (wf := wf39) k39 Try.underlying37 (by kernel_rfl) e3 (fun m hm => ih m (by omega))
  simp only [List.cons.injEq, and_true] at hc3
  obtain rfl := hc3
  exact ⟨⟨v0, v1, v2, v3⟩, k39_mk W (⟨v0, v1, v2, v3⟩ : S39) l3 g3, by unfold wf39; exact ⟨w0, w1, w2, ⟨m3, (wfl39_iff _).2 w3⟩⟩⟩
set_option maxRecDepth 100000 in
theorem opn41 {H : Type} {enc : TypeId × Value → H} {W : World} (spare : Nat → Bool) (held : Bool) : ∀ (fuel : Nat) (cs : List Value) (r : DataW H × List MemPlace), DataW.trod enc Try.prog W 0 spare held fuel 41 cs = some r → ∃ x : S41, k41.K W x cs ∧ wf41 x := by
  intro fuel
  induction fuel using Nat.strongRecOn with
  | _ fuel ih =>
  intro cs r h
  obtain ⟨ys, n, rfl, _, hl, hlen, hf⟩ := DataW.trod_struct Try.underlying41 h
  rw [show Try.prog.cellsOf 41 = 5 from by kernel_rfl] at hl
  obtain ⟨c0, c1, c2, c3, c4, rfl⟩ : ∃ c0 c1 c2 c3 c4, cs = [c0, c1, c2, c3, c4] := by
    match cs, hl with
    | [c0, c1, c2, c3, c4], _ => exact ⟨c0, c1, c2, c3, c4, rfl⟩
  obtain ⟨y0, y1, rfl⟩ : ∃ y0 y1, ys = [y0, y1] := by
    match ys, hlen with
    | [y0, y1], _ => exact ⟨y0, y1, rfl⟩
  have e0 : DataW.trod enc Try.prog W 0 spare held n 9 [c0] = some y0 := by
    have q_ := hf 0 _ rfl
    simpa [show Try.prog.cellsOf 9 = 1 from by kernel_rfl] using q_
  obtain ⟨v0, hc0, _, w0⟩ := DataW.trod_string Try.underlying9 e0
  simp only [List.cons.injEq, and_true] at hc0
  obtain rfl := hc0
  have e1 : DataW.trod enc Try.prog W 0 spare held n 39 [c1, c2, c3, c4] = some y1 := by
    have q_ := hf 1 _ rfl
    simpa [show Try.prog.cellsOf 39 = 4 from by kernel_rfl] using q_
  obtain ⟨v1, K1, w1⟩ := opn39 spare held n _ _ e1
  obtain ⟨A1_3, cp1_3, hc1, l1_3, g1_3⟩ := k39_open K1
  simp only [List.cons.injEq, and_true] at hc1
  obtain ⟨rfl, rfl, rfl, rfl⟩ := hc1
  exact ⟨⟨v0, v1⟩, k41_mk W (⟨v0, v1⟩ : S41) l1_3 g1_3, by unfold wf41; exact ⟨w0, w1⟩⟩
theorem own : ownKnob Try.prog.godebug = none := by kernel_rfl
theorem laidOut : laidOutB Try.prog = true := by kernel_rfl
set_option maxRecDepth 100000 in
theorem lifted (os : Os) (started : os.Started) (H : Type) (enc : TypeId × Value → H) :
    ReturnsInHanded {} Try.checked os 3 .any (Rows.fnExactBindOfSpec.pre6 enc Try.prog Try.f3 Rows.fnExactBindOfRow.domain false) (Rows.fnExactBindOfSpec.post enc Try.prog Try.f3 false true false false) := by
  refine returnsInHanded_of_change_sized (C := Try.checked) own started (by kernel_rfl) Try.func3
    (ChangeSpec.witness6 (enc := enc) (C := Try.checked) false ⟨#[], #[.slice none 0 0, .string ByteArray.empty], []⟩ 8 (by kernel_rfl) (by kernel_rfl) (by kernel_rfl) (by kernel_rfl)) ?_
  intro W base args ds gs before hval0 hW hcnd hsz0 _
  have hsz : (DataW.weightsEach Try.prog (Try.f3.params.toList ++ Rows.fnExactBindOfSpec.plain.varTypes Try.prog) (ds ++ gs)).all (· ≤ reachBytes) = true := hsz0
  have hval : ∀ (j : Nat) t v, Try.f3.params[j]? = some t → args[j]? = some v → Value.okWide Try.prog W .any base t v := hval0
  have hW' := hW
  obtain ⟨p, q, hA0, hV, rfl, hfz, hnd⟩ := hW
  have hA : DataW.TrodAll enc Try.prog W 0 (fun _ => true) true Try.f3.params.toList args.toList ds p := hA0
  rw [Try.params3] at hA hval hsz
  obtain ⟨v0, vs0, d0, ds0, p0, q0, hargs, rfl, rfl, h0, r0⟩ := trodAll_cons hA
  obtain ⟨v1, vs1, d1, ds1, p1, q1, rfl, rfl, rfl, h1, r1⟩ := trodAll_cons r0
  obtain ⟨rfl, rfl, rfl⟩ := trodAll_nil r1
  obtain rfl : args = #[v0, v1] := by cases args; simp_all
  obtain ⟨rfl, rfl⟩ := trodVars_none hV
  obtain ⟨a0, len0, cap0, rfl⟩ := okWide_slice Try.underlying22 (hval 0 22 v0 rfl rfl)
  have k0 := h0
  have lt0 : ∀ x ∈ p0, x.block < W.heap.size := by obtain ⟨m, hm⟩ := k0; exact DataW.trod_lt m _ _ _ hm
  obtain ⟨fu0, hf0⟩ := h0
  obtain ⟨x0, A0, c0, hc0, l0_, m0_, g0_, wf0_⟩ := opn_slice (wf := wf41) k41 Try.underlying22 (by kernel_rfl) hf0 (fun m _ => opn41 _ _ m)
  simp [Value.cells] at hc0
  obtain ⟨rfl, rfl, rfl⟩ := hc0
  obtain ⟨a1, rfl, rfl, rfl, y1⟩ := open_string Try.underlying9 (hval 1 9 v1 rfl rfl) h1
  have w1 : a1.size ≤ 140737488351232 := by
    have z := sized_string hsz (j := 1) (t := 9) rfl rfl
    rw [Array.length_toList] at z
    exact z
  clear hA0 hval0 hsz0 hsz
  obtain ⟨k_, hk_⟩ := Pure.FnExactBindOf x0 a1 m0_ wf0_ w1
  refine (QFnExactBindOf.laws_FnExactBindOf.calls k_ _ _ x0 a1 true W g0_ l0_ hk_).mono fun e W' hpost => ?_
  obtain ⟨he, bel0⟩ := hpost
  have bel : Below W.heap.size W W' := bel0
  subst he
  exact ⟨_, rfl, _, _, _, [], _, [], hW', trodAll_mk1 (shut_bool Try.underlying4 _), (trodAll_cons_mk (Below.trod laidOut (by kernel_rfl) (of_decide_eq_true (by kernel_rfl)) k0 bel lt0) (trodAll_cons_mk (shut_string Try.underlying9 y1) trodAll_mk0)), rfl, bel.frame _, fun h => by cases h⟩
theorem over : Rows.fnExactBindOfRow.holds Try.pinned (OpenSpec.ofChange Rows.fnExactBindOfSpec) :=
  OpenClaim.holds_of_wide 3 Try.f3 rfl rfl rfl rfl rfl rfl rfl ⟨rfl, rfl, rfl, rfl, rfl⟩ rfl rfl rfl rfl rfl (by kernel_rfl) Try.func3 (by kernel_rfl)
    (of_decide_eq_true (by kernel_rfl)) (by unfold Func.isWrapper; first | (rw [if_pos (by decide +kernel)]; kernel_rfl) | (rw [if_neg (by decide +kernel)]; exact ⟨rfl, rfl⟩))
    (fun os started H enc _ => lifted os started H enc)
theorem proved : Rows.FnExactBindOfSaid := over
#print axioms proved
end Go.Proofs.Ytmcmhpiknhjiaaa.fnExactBindOf
namespace Go.Proofs.Ytmcmhpiknhjiaaa
/-- The row, under a short name, for the claim. -/
theorem fnExactBindOf_holds : Rows.FnExactBindOfSaid := fnExactBindOf.proved
end Go.Proofs.Ytmcmhpiknhjiaaa
