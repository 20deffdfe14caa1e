-- Written by a program of this workplace (print2.py) for this claim, over the print's words.
import Derived.Test.YtiooogcjoobjnaaRows
import Derived.Test.YtiooogcjoobjnaaQFnExactOperatex13
import Derived.Test.YtiooogcjoobjnaaPureFnExactOperate
import Derived.WalkKit
import Derived.ProofKit
import Derived.OpenShut
import Derived.ShutString
import Derived.ChangeOld
import Derived.Below
import Derived.SizedLaws
import Derived.ChangeSlices
import Derived.DataReads
import Derived.DataElems
import Derived.Carry
namespace Go.Proofs.Ytiooogcjoobjnaa.fnExactOperate
open Go.ChangeShapes Go.WideShapes Go.ChangeAt Go.RowKit Go.Proofs.Ytiooogcjoobjnaa.QFnExactOperate Go.Proofs.YtiooogcjoobjnaaW.PrintWords Go.Proofs.YtiooogcjoobjnaaW.PrintLast Go.Proofs.YtiooogcjoobjnaaW.PrintMore
open Go.ChangeMaps (open_string shut_string)
set_option linter.unusedVariables false
set_option linter.unusedSimpArgs false
theorem list_of {α : Type} {Q : Nat → α → Prop} : ∀ n : Nat, (∀ i, i < n → ∃ x, Q i x) → ∃ xs : List α, xs.length = n ∧ ∀ i x, xs[i]? = some x → Q i x
  | 0, _ => ⟨[], rfl, fun i x h => by simp at h⟩
  | n + 1, h => by
    obtain ⟨xs, hl, hq⟩ := list_of n (fun i hi => h i (by omega))
    obtain ⟨x, hx⟩ := h n (by omega)
    refine ⟨xs ++ [x], by simp [hl], fun i y hy => ?_⟩
    by_cases hi : i < xs.length
    · rw [List.getElem?_append_left hi] at hy
      exact hq i y hy
    · rw [List.getElem?_append_right (by omega)] at hy
      have he : i - xs.length = 0 := by
        have := (List.getElem?_eq_some_iff.1 hy).1
        simp at this
        omega
      rw [he] at hy
      simp at hy
      subst hy
      have : i = n := by omega
      subst this
      exact hx
theorem opn_slice {α : Type} {H : Type} {enc : TypeId × Value → H} {P : Program} {W : World} {spare : Nat → Bool} {held : Bool} (d : Kd α) {t e : TypeId} (ht : P.underlying t = some (.slice e)) (hc : P.cellsOf e = d.sz) {wf : α → Prop} {fuel : Nat} {cs : List Value} {r : DataW H × List MemPlace}
    (h : DataW.trod enc P W 0 spare held fuel t cs = some r) (ih : ∀ n, n < fuel → ∀ cs r, DataW.trod enc P W 0 spare held n e cs = some r → ∃ x, d.K W x cs ∧ wf x) :
    ∃ (xs : List α) (A : Option Addr) (c : Nat), cs = [.slice A xs.length c] ∧ xs.length ≤ c ∧ xs.length ≤ maxLen ∧ d.C W A xs.length xs ∧ ∀ x ∈ xs, wf x := by
  rcases DataW.trod_slice ht h with ⟨rfl, _⟩ | ⟨a, len, cap, elems, rest, n, rfl, rfl, _, _, hl, hm, hlen, hel, _, _⟩
  · exact ⟨[], none, 0, rfl, Nat.le_refl _, by simp, Kd.C_nil d W, fun x hx => by cases hx⟩
  · obtain ⟨xs, hxl, hxq⟩ := list_of (Q := fun i x => ∃ c, c.length = d.sz ∧ d.K W x c ∧ wf x ∧ ∀ j u, c[j]? = some u → W.cell? (a.add (i * d.sz + j)) = some u) len (fun i hi => by
      have h1 := hel i hi
      rw [List.getElem?_eq_getElem (by omega)] at h1
      obtain ⟨c, h2, h3⟩ := Option.bind_eq_some_iff.1 h1
      obtain ⟨x, hK, hw⟩ := ih n (by omega) _ _ h3
      obtain ⟨_, h5, h6⟩ := World.cells?_some h2
      refine ⟨x, c, by rw [h5, hc], hK, hw, fun j u hu => ?_⟩
      have hj : j < P.cellsOf e := by rw [← h5]; exact (List.getElem?_eq_some_iff.1 hu).1
      rw [← Addr.add_add, ← hc, h6 j hj, hu])
    subst hxl
    refine ⟨xs, some a, cap, rfl, hl, by omega, ⟨rfl, by unfold maxLen at hm; omega, fun _ => ⟨a, rfl, fun j p hj => ?_⟩⟩, fun x hx => ?_⟩
    · obtain ⟨c, h1, h2, _, h4⟩ := hxq j p hj
      exact ⟨c, h1, h2, h4⟩
    · obtain ⟨i, hi, rfl⟩ := List.getElem_of_mem hx
      obtain ⟨_, _, _, h3, _⟩ := hxq i _ (List.getElem?_eq_getElem hi)
      exact h3

set_option maxRecDepth 100000 in
theorem opn24 {H : Type} {enc : TypeId × Value → H} {W : World} (spare : Nat → Bool) (held : Bool) : ∀ (fuel : Nat) (cs : List Value) (r : DataW H × List MemPlace), DataW.trod enc Try.prog W 0 spare held fuel 24 cs = some r → ∃ x : S24, k24.K W x cs ∧ wf24 x := by
  intro fuel
  induction fuel using Nat.strongRecOn with
  | _ fuel ih =>
  intro cs r h
  obtain ⟨ys, n, rfl, _, hl, hlen, hf⟩ := DataW.trod_struct Try.underlying24 h
  rw [show Try.prog.cellsOf 24 = 4 from by kernel_rfl] at hl
  obtain ⟨c0, c1, c2, c3, rfl⟩ : ∃ c0 c1 c2 c3, cs = [c0, c1, c2, c3] := by
    match cs, hl with
    | [c0, c1, c2, c3], _ => exact ⟨c0, c1, c2, c3, rfl⟩
  obtain ⟨y0, y1, y2, y3, rfl⟩ : ∃ y0 y1 y2 y3, ys = [y0, y1, y2, y3] := by
    match ys, hlen with
    | [y0, y1, y2, y3], _ => exact ⟨y0, y1, y2, y3, rfl⟩
  have e0 : DataW.trod enc Try.prog W 0 spare held n 3 [c0] = some y0 := by
    have q_ := hf 0 _ rfl
    simpa [show Try.prog.cellsOf 3 = 1 from by kernel_rfl] using q_
  obtain ⟨v0, hc0, _, w0⟩ := DataW.trod_int Try.underlying3 e0
  simp only [List.cons.injEq, and_true] at hc0
  obtain rfl := hc0
  have e1 : DataW.trod enc Try.prog W 0 spare held n 3 [c1] = some y1 := by
    have q_ := hf 1 _ rfl
    simpa [show Try.prog.cellsOf 3 = 1 from by kernel_rfl] using q_
  obtain ⟨v1, hc1, _, w1⟩ := DataW.trod_int Try.underlying3 e1
  simp only [List.cons.injEq, and_true] at hc1
  obtain rfl := hc1
  have e2 : DataW.trod enc Try.prog W 0 spare held n 9 [c2] = some y2 := by
    have q_ := hf 2 _ rfl
    simpa [show Try.prog.cellsOf 9 = 1 from by kernel_rfl] using q_
  obtain ⟨v2, hc2, _, w2⟩ := DataW.trod_string Try.underlying9 e2
  simp only [List.cons.injEq, and_true] at hc2
  obtain rfl := hc2
  have e3 : DataW.trod enc Try.prog W 0 spare held n 22 [c3] = some y3 := by
    have q_ := hf 3 _ rfl
    simpa [show Try.prog.cellsOf 22 = 1 from by kernel_rfl] using q_
  obtain ⟨v3, A3, cp3, hc3, l3, m3, g3, w3⟩ := opn_slice (wf := wf24) k24 Try.underlying22 (by kernel_rfl) e3 (fun m hm => ih m (by omega))
  simp only [List.cons.injEq, and_true] at hc3
  obtain rfl := hc3
  exact ⟨⟨v0, v1, v2, v3⟩, k24_mk W (⟨v0, v1, v2, v3⟩ : S24) l3 g3, by unfold wf24; exact ⟨w0, w1, w2, ⟨m3, (wfl24_iff _).2 w3⟩⟩⟩
theorem own : ownKnob Try.prog.godebug = none := by kernel_rfl
theorem laidOut : laidOutB Try.prog = true := by kernel_rfl
set_option maxRecDepth 100000 in
theorem lifted (os : Os) (started : os.Started) (H : Type) (enc : TypeId × Value → H) :
    ReturnsInHanded {} Try.checked os 3 .any (Rows.fnExactOperateSpec.pre6 enc Try.prog Try.f3 Rows.fnExactOperateRow.domain false) (Rows.fnExactOperateSpec.post enc Try.prog Try.f3 false true false false) := by
  refine returnsInHanded_of_change_sized (C := Try.checked) own started (by kernel_rfl) Try.func3
    (ChangeSpec.witness6 (enc := enc) (C := Try.checked) false ⟨#[], #[.string ByteArray.empty, .agg #[.int .i64 0, .int .i64 0, .string ByteArray.empty, .slice none 0 0], .agg #[.int .i64 0, .int .i64 0, .string ByteArray.empty, .slice none 0 0]], []⟩ 8 (by kernel_rfl) (by kernel_rfl) (by kernel_rfl) (by kernel_rfl)) ?_
  intro W base args ds gs before hval0 hW hcnd hsz0 _
  have hsz : (DataW.weightsEach Try.prog (Try.f3.params.toList ++ Rows.fnExactOperateSpec.plain.varTypes Try.prog) (ds ++ gs)).all (· ≤ reachBytes) = true := hsz0
  have hval : ∀ (j : Nat) t v, Try.f3.params[j]? = some t → args[j]? = some v → Value.okWide Try.prog W .any base t v := hval0
  have hW' := hW
  obtain ⟨p, q, hA0, hV, rfl, hfz, hnd⟩ := hW
  have hA : DataW.TrodAll enc Try.prog W 0 (fun _ => true) true Try.f3.params.toList args.toList ds p := hA0
  rw [Try.params3] at hA hval hsz
  obtain ⟨v0, vs0, d0, ds0, p0, q0, hargs, rfl, rfl, h0, r0⟩ := trodAll_cons hA
  obtain ⟨v1, vs1, d1, ds1, p1, q1, rfl, rfl, rfl, h1, r1⟩ := trodAll_cons r0
  obtain ⟨v2, vs2, d2, ds2, p2, q2, rfl, rfl, rfl, h2, r2⟩ := trodAll_cons r1
  obtain ⟨rfl, rfl, rfl⟩ := trodAll_nil r2
  obtain rfl : args = #[v0, v1, v2] := by cases args; simp_all
  obtain ⟨rfl, rfl⟩ := trodVars_none hV
  obtain ⟨a0, rfl, rfl, rfl, y0⟩ := open_string Try.underlying9 (hval 0 9 v0 rfl rfl) h0
  have w0 : a0.size ≤ 140737488351232 := by
    have z := sized_string hsz (j := 0) (t := 9) rfl rfl
    rw [Array.length_toList] at z
    exact z
  obtain ⟨cs1, rfl, _⟩ := okWide_struct Try.underlying24 (hval 1 24 v1 rfl rfl)
  have k1 := h1
  have lt1 : ∀ x ∈ p1, x.block < W.heap.size := by obtain ⟨m, hm⟩ := k1; exact DataW.trod_lt m _ _ _ hm
  obtain ⟨fu1, hf1⟩ := h1
  obtain ⟨x1, K1, wf1_⟩ := opn24 _ _ fu1 _ _ hf1
  obtain ⟨A1_3, c1_3, hc1, l1_3, g1_3⟩ := k24_open K1
  obtain rfl : cs1 = #[.int .i64 x1.f0, .int .i64 x1.f1, .string x1.f2, .slice A1_3 x1.f3.length c1_3] := by
    apply Array.ext'
    simpa [Value.cells] using hc1
  obtain ⟨cs2, rfl, _⟩ := okWide_struct Try.underlying24 (hval 2 24 v2 rfl rfl)
  have k2 := h2
  have lt2 : ∀ x ∈ p2, x.block < W.heap.size := by obtain ⟨m, hm⟩ := k2; exact DataW.trod_lt m _ _ _ hm
  obtain ⟨fu2, hf2⟩ := h2
  obtain ⟨x2, K2, wf2_⟩ := opn24 _ _ fu2 _ _ hf2
  obtain ⟨A2_3, c2_3, hc2, l2_3, g2_3⟩ := k24_open K2
  obtain rfl : cs2 = #[.int .i64 x2.f0, .int .i64 x2.f1, .string x2.f2, .slice A2_3 x2.f3.length c2_3] := by
    apply Array.ext'
    simpa [Value.cells] using hc2
  clear hA0 hval0 hsz0 hsz
  obtain ⟨k_, hk_⟩ := Pure.FnExactOperate a0 x1.f0 x1.f1 x1.f2 x1.f3 x2.f0 x2.f1 x2.f2 x2.f3 w0 (by rw [eta24 x1]; exact wf1_) (by rw [eta24 x2]; exact wf2_)
  refine (QFnExactOperate.laws_FnExactOperate.calls k_ a0 x1.f0 x1.f1 x1.f2 _ _ x1.f3 x2.f0 x2.f1 x2.f2 _ _ x2.f3 true W g1_3 l1_3 g2_3 l2_3 hk_).mono fun e W' hpost => ?_
  obtain ⟨he, bel0⟩ := hpost
  have bel : Below W.heap.size W W' := bel0
  subst he
  exact ⟨_, rfl, _, _, _, [], _, [], hW', trodAll_mk1 (shut_bool Try.underlying4 _), (trodAll_cons_mk (shut_string Try.underlying9 y0) (trodAll_cons_mk (Below.trod laidOut (by kernel_rfl) (of_decide_eq_true (by kernel_rfl)) k1 bel lt1) (trodAll_cons_mk (Below.trod laidOut (by kernel_rfl) (of_decide_eq_true (by kernel_rfl)) k2 bel lt2) trodAll_mk0))), rfl, bel.frame _, fun h => by cases h⟩
theorem over : Rows.fnExactOperateRow.holds Try.pinned (OpenSpec.ofChange Rows.fnExactOperateSpec) :=
  OpenClaim.holds_of_wide 3 Try.f3 rfl rfl rfl rfl rfl rfl rfl ⟨rfl, rfl, rfl, rfl, rfl⟩ rfl rfl rfl rfl rfl (by kernel_rfl) Try.func3 (by kernel_rfl)
    (of_decide_eq_true (by kernel_rfl)) (by unfold Func.isWrapper; first | (rw [if_pos (by decide +kernel)]; kernel_rfl) | (rw [if_neg (by decide +kernel)]; exact ⟨rfl, rfl⟩))
    (fun os started H enc _ => lifted os started H enc)
theorem proved : Rows.FnExactOperateSaid := over
#print axioms proved
end Go.Proofs.Ytiooogcjoobjnaa.fnExactOperate
namespace Go.Proofs.Ytiooogcjoobjnaa
/-- The row, under a short name, for the claim. -/
theorem fnExactOperate_holds : Rows.FnExactOperateSaid := fnExactOperate.proved
end Go.Proofs.Ytiooogcjoobjnaa
