/- What the law FnExactGetText of this seat says holds for every input that its row speaks of; no further condition. -/
import Derived.Test.YtgofhofcicgibaaQFnExactGetTextx2
set_option linter.unusedVariables false
set_option linter.unusedSimpArgs false
namespace Go.Proofs.Ytgofhofcicgibaa.Pure
open Go.RowKit Go.Proofs.Ytgofhofcicgibaa.QFnExactGetText Go.Proofs.YtgofhofcicgibaaW.PrintWords Go.Proofs.YtgofhofcicgibaaW.PrintLast Go.Proofs.YtgofhofcicgibaaW.PrintMore

theorem ev_pos {α : Type} {c : Prop} [Decidable c] {A B : Nat → Option α} {r : α} (h : c) (e : Ev A r) : Ev (fun k => if c then A k else B k) r := by
  obtain ⟨K, hK⟩ := e
  exact ⟨K, fun k hk => by simp only [if_pos h]; exact hK k hk⟩
theorem ev_neg {α : Type} {c : Prop} [Decidable c] {A B : Nat → Option α} {r : α} (h : ¬ c) (e : Ev B r) : Ev (fun k => if c then A k else B k) r := by
  obtain ⟨K, hK⟩ := e
  exact ⟨K, fun k hk => by simp only [if_neg h]; exact hK k hk⟩
theorem ev_of {α : Type} {o : Option α} {r : α} (h : o = some r) : Ev (fun _ => o) r := ⟨0, fun _ _ => h⟩
theorem ev_cast {α : Type} {g : Nat → Option α} {r r' : α} (h : r = r') (e : Ev g r) : Ev g r' := h ▸ e
theorem ev_uniq {α : Type} {g : Nat → Option α} {r r' : α} (h : Ev g r) (h' : Ev g r') : r = r' := by
  obtain ⟨K, hK⟩ := h
  obtain ⟨K', hK'⟩ := h'
  have a := hK (max K K') (Nat.le_max_left _ _)
  have b := hK' (max K K') (Nat.le_max_right _ _)
  rw [a] at b
  exact Option.some.inj b
theorem w64 (n : Int) (h0 : -9223372036854775808 ≤ n) (h1 : n ≤ 9223372036854775807) : wrap64 n = n := by unfold wrap64; omega
theorem dec_and (p q : Prop) [Decidable p] [Decidable q] : decide (p ∧ q) = (decide p && decide q) := by
  by_cases hp : p <;> by_cases hq : q <;> simp [hp, hq]
theorem wf_u8 {x : Int} (h : (Lit.int .u8 x).wf = true) : 0 ≤ x ∧ x < 256 := by
  simp [Lit.wf, IntKind.min, IntKind.max, IntKind.bits, IntKind.signed] at h
  omega
theorem wf_i64 {x : Int} (h : (Lit.int .i64 x).wf = true) : -9223372036854775808 ≤ x ∧ x ≤ 9223372036854775807 := by
  simp [Lit.wf, IntKind.min, IntKind.max, IntKind.bits, IntKind.signed] at h
  omega
def BytesB (l : List Int) : Prop := ∀ x ∈ l, 0 ≤ x ∧ x < 256
theorem BytesB.at_ {l : List Int} (h : BytesB l) (i : Int) : 0 ≤ rd l i ∧ rd l i < 256 := by
  unfold rd
  rw [List.getD_eq_getElem?_getD]
  by_cases hi : i.toNat < l.length
  · rw [List.getElem?_eq_getElem hi]; exact h _ (List.getElem_mem hi)
  · rw [List.getElem?_eq_none (by omega)]; decide
theorem drop_rd (l : List Int) (p : Nat) (h : p < l.length) : l.drop p = rd l p :: l.drop (p + 1) := by
  rw [List.drop_eq_getElem_cons h]
  unfold rd
  simp [List.getElem?_eq_getElem h]
theorem hk63 (n : Int) (h0 : 0 ≤ n) (h1 : n < 2 ^ 63) : IntKind.i64.wrap n = n := by
  rw [IntKind.wrap_i64]; omega
theorem or_comm64 (a b : Int) : Go.bits .or .i64 a b = Go.bits .or .i64 b a := by
  unfold Go.bits
  simp only [BitVec.or_comm]
theorem and127 (c : Int) (h0 : 0 ≤ c) (h1 : c < 256) : Go.bits .and .i64 c 127 = c % 128 := by
  have := bits_mask .i64 63 (by decide) hk63 7 (by decide) c h0 (by omega)
  simpa using this
theorem wrapU7 (i : Nat) (hi : i < 6) : IntKind.u64.wrap (wrap64 (7 * (i : Int))) = 7 * (i : Int) := by
  rw [w64 _ (by omega) (by omega)]
  simp [IntKind.wrap, IntKind.bits, IntKind.signed]
  omega
theorem p7 (i : Nat) (hi : i < 6) : (1 : Int) ≤ 2 ^ (7 * i) ∧ (2 : Int) ^ (7 * i) ≤ 34359738368 ∧ (2 : Int) ^ (7 * (i + 1)) = 128 * 2 ^ (7 * i) := by
  have : i = 0 ∨ i = 1 ∨ i = 2 ∨ i = 3 ∨ i = 4 ∨ i = 5 := by omega
  rcases this with rfl | rfl | rfl | rfl | rfl | rfl <;> decide
theorem grp (x c : Int) (i : Nat) (hi : i < 6) (hx0 : 0 ≤ x) (hx : x < 2 ^ (7 * i)) (hc0 : 0 ≤ c) (hc : c < 256) :
    Go.bits .or .i64 x (shl .i64 (Go.bits .and .i64 c 127) (IntKind.u64.wrap (wrap64 (7 * (i : Int))))) = x + (c % 128) * 2 ^ (7 * i) := by
  obtain ⟨hp1, hp2, _⟩ := p7 i hi
  rw [and127 c hc0 hc, wrapU7 i hi]
  unfold shl
  have hm : min (7 * (i : Int)).toNat (IntKind.i64.bits) = 7 * i := by show min _ 64 = _; omega
  have hb : 0 ≤ c % 128 ∧ c % 128 ≤ 127 := by omega
  have hq0 : 0 ≤ c % 128 * 2 ^ (7 * i) := Int.mul_nonneg hb.1 (by omega)
  have hq1 : c % 128 * 2 ^ (7 * i) ≤ 127 * 34359738368 := Int.mul_le_mul hb.2 hp2 (by omega) (by decide)
  rw [hm, hk63 _ hq0 (by omega), or_comm64]
  rw [bits_join .i64 63 (by decide) hk63 (7 * i) _ x hq0 (Int.mul_emod_left _ _) (by omega) hx0 hx (by omega)]
  omega
/-- What stands at a place: groups of seven bits; the number, and how many bytes. -/
def numM : Nat → Nat → Int → List Int → Option (Int × Nat)
  | 0, _, _, _ => none
  | _ + 1, _, _, [] => none
  | n + 1, i, x, c :: r => if c > 127 then numM n (i + 1) (x + (c % 128) * 2 ^ (7 * i)) r else if c = 0 ∧ 0 < i then none else some (x + (c % 128) * 2 ^ (7 * i), i + 1)
def zag (m : Int) : Int := if m % 2 = 1 then -(m / 2) - 1 else m / 2
def numFin (a : Int) : Option (Int × Nat) → Int × Int × Bool
  | none => (0, 0, false)
  | some (m, c) => if -1000000000000 ≤ zag m ∧ zag m ≤ 1000000000000 then (zag m, a + c, true) else (0, 0, false)
def getNumM (l : List Int) (a : Int) : Int × Int × Bool := if 0 ≤ a ∧ a < l.length then numFin a (numM 6 0 0 (l.drop a.toNat)) else (0, 0, false)
theorem numM_len : ∀ (n i : Nat) (x : Int) (t : List Int) (m : Int) (c : Nat), numM n i x t = some (m, c) → i < c ∧ c ≤ i + t.length := by
  intro n
  induction n with
  | zero => intro i x t m c h; simp [numM] at h
  | succ n ih =>
    intro i x t m c h
    cases t with
    | nil => simp [numM] at h
    | cons b r =>
      simp only [numM] at h
      split at h
      · have := ih _ _ _ _ _ h
        simp only [List.length_cons]; omega
      · split at h
        · cases h
        · simp only [Option.some.injEq, Prod.mk.injEq] at h
          simp only [List.length_cons]; omega
theorem getNumM_ok (l : List Int) (a : Int) (h : (getNumM l a).2.2 = true) : 0 ≤ a ∧ a < (getNumM l a).2.1 ∧ (getNumM l a).2.1 ≤ l.length ∧ -1000000000000 ≤ (getNumM l a).1 ∧ (getNumM l a).1 ≤ 1000000000000 := by
  unfold getNumM at h ⊢
  split at h
  · rename_i ha
    rw [if_pos ha]
    cases hn : numM 6 0 0 (l.drop a.toNat) with
    | none => rw [hn] at h; cases h
    | some p =>
      obtain ⟨m, c⟩ := p
      rw [hn] at h
      have hc := numM_len _ _ _ _ _ _ hn
      rw [List.length_drop] at hc
      simp only [numFin] at h ⊢
      split at h
      · rename_i hr
        rw [if_pos hr]
        refine ⟨ha.1, ?_, ?_, hr.1, hr.2⟩ <;> simp only [] <;> omega
      · cases h
  · cases h
theorem getNumM_no (l : List Int) (a : Int) (h : (getNumM l a).2.2 = false) : getNumM l a = (0, 0, false) := by
  unfold getNumM at h ⊢
  split at h
  · rename_i ha
    rw [if_pos ha]
    cases hn : numM 6 0 0 (l.drop a.toNat) with
    | none => rfl
    | some p =>
      obtain ⟨m, c⟩ := p
      rw [hn] at h
      simp only [numFin] at h ⊢
      split at h
      · cases h
      · rename_i hr
        rw [if_neg hr]
  · rename_i ha
    rw [if_neg ha]
def getTextM (l : List Int) (a : Int) : ByteArray × Int × Bool :=
  let r := getNumM l a
  if r.2.2 = true ∧ 0 ≤ r.1 ∧ r.1 ≤ l.length - r.2.1 then (strOfNums ((l.take (r.2.1 + r.1).toNat).drop r.2.1.toNat), r.2.1 + r.1, true) else ((⟨#[]⟩ : ByteArray), 0, false)
theorem spec_l1In_eq (a b c : Int) : spec_l1In.f a b c = some (decide (b ≤ a) && decide (a ≤ c)) := by
  unfold spec_l1In.f
  by_cases h : b ≤ a <;> simp [h]
theorem spec_GetNum_l (l : List Int) (hb : BytesB l) (hl : (l.length : Int) ≤ 1048576) (a : Int) (ha : 0 ≤ a) (hal : a < l.length) (n : Nat) :
    ∀ (i : Nat) (x : Int), i + n = 6 → 0 ≤ x → x < 2 ^ (7 * i) → Ev (fun k => spec_GetNum.l0 k l a x i) (numFin a (numM n i x (l.drop (a.toNat + i)))) := by
  induction n with
  | zero =>
    intro i x hi hx0 hx
    refine Ev.step (f := fun k => spec_GetNum.j1 k l a x i false) (fun k => ?_) (Ev.step (f := fun _ => some (0, 0, false)) (fun k => ?_) (Ev.now _))
    · simp only [spec_GetNum.l0]; rw [if_neg (by omega)]
    · simp [spec_GetNum.j1]
  | succ n ih =>
    intro i x hi hx0 hx
    have e1 : wrap64 (a + i) = a + i := w64 _ (by omega) (by omega)
    by_cases hlt : a + i < l.length
    · refine Ev.step (f := fun k => spec_GetNum.j1 k l a x i true) (fun k => ?_) ?_
      · simp only [spec_GetNum.l0]; rw [if_pos (by omega), if_pos ha, if_pos hal, e1]; simp [hlt]
      have hr := hb.at_ (a + i)
      have e2 : wrap64 (rd l (a + i)) = rd l (a + i) := w64 _ (by omega) (by omega)
      have e3 := grp x (rd l (a + i)) i (by omega) hx0 hx hr.1 hr.2
      have e4 : 0 ≤ IntKind.u64.wrap (wrap64 (7 * (i : Int))) := by rw [wrapU7 i (by omega)]; omega
      obtain ⟨hp1, hp2, hp3⟩ := p7 i (by omega)
      have hd : l.drop (a.toNat + i) = rd l (a + i) :: l.drop (a.toNat + (i + 1)) := by
        rw [drop_rd l _ (by omega), show ((a.toNat + i : Nat) : Int) = a + i from by omega]; rfl
      have hb' : 0 ≤ rd l (a + i) % 128 ∧ rd l (a + i) % 128 ≤ 127 := by omega
      have hq0 : 0 ≤ rd l (a + i) % 128 * 2 ^ (7 * i) := Int.mul_nonneg hb'.1 (by omega)
      have hq1 : rd l (a + i) % 128 * 2 ^ (7 * i) ≤ 127 * 2 ^ (7 * i) := Int.mul_le_mul_of_nonneg_right hb'.2 (by omega)
      rw [hd]
      generalize hc : rd l (a + i) = c at *
      generalize hX : x + c % 128 * 2 ^ (7 * i) = X at *
      have hX0 : 0 ≤ X := by omega
      have hX1 : X < 128 * 2 ^ (7 * i) := by omega
      by_cases h1 : c > 127
      · have := ih (i + 1) X (by omega) hX0 (by rw [hp3]; exact hX1)
        refine Ev.step (fun k => ?_) (ev_cast ?_ this)
        · simp only [spec_GetNum.j1]
          rw [e1, hc, e2, e3, if_pos trivial, if_pos (by omega), if_pos hlt, if_pos e4, if_pos h1, w64 _ (by omega) (by omega)]
          rfl
        · simp [numM, h1, hX]
      · have eand : Go.bits .and .i64 X 1 = X % 2 := by
          have := bits_mask .i64 63 (by decide) hk63 1 (by decide) X hX0 (by omega)
          simpa using this
        by_cases h2 : c = 0 ∧ 0 < i
        · refine Ev.step (f := fun _ => some (0, 0, false)) (fun k => ?_) (ev_cast ?_ (Ev.now _))
          · simp only [spec_GetNum.j1]
            rw [e1, hc, e2, e3, if_pos trivial, if_pos (by omega), if_pos hlt, if_pos e4, if_neg h1]
            have h2' : (i : Int) > 0 := by omega
            simp only [if_pos h2', if_pos h2.1, ite_self]
          · simp [numM, h1, h2, numFin]
        · have hz : zag X = if X % 2 = 1 then wrap64 (wrap64 (-(X / 2)) - 1) else X / 2 := by
            unfold zag
            rw [w64 (-(X / 2)) (by omega) (by omega), w64 _ (by omega) (by omega)]
          have e5 : wrap64 (a + (i : Int) + 1) = a + ((i + 1 : Nat) : Int) := by rw [w64 _ (by omega) (by omega)]; omega
          refine Ev.step (f := fun _ => some (numFin a (some (X, i + 1)))) (fun k => ?_) (ev_cast ?_ (Ev.now _))
          · simp only [spec_GetNum.j1]
            rw [e1, hc, e2, e3, if_pos trivial, if_pos (by omega), if_pos hlt, if_pos e4, if_neg h1, eand, e5]
            simp only [spec_l1In_eq, Option.bind_some, numFin]
            by_cases h3 : X % 2 = 1
            · rw [if_pos h3] at hz
              rw [if_pos h3, ← hz]
              by_cases h4 : (i : Int) > 0
              · rw [if_pos h4, if_neg (by omega)]
                simp only [Bool.and_eq_true, decide_eq_true_eq]
                split <;> rfl
              · rw [if_neg h4]
                simp only [Bool.and_eq_true, decide_eq_true_eq]
                split <;> rfl
            · rw [if_neg h3] at hz
              rw [if_neg h3, ← hz]
              by_cases h4 : (i : Int) > 0
              · rw [if_pos h4, if_neg (by omega)]
                simp only [Bool.and_eq_true, decide_eq_true_eq]
                split <;> rfl
              · rw [if_neg h4]
                simp only [Bool.and_eq_true, decide_eq_true_eq]
                split <;> rfl
          · simp only [numM]
            rw [if_neg h1, if_neg h2, hX]
    · refine Ev.step (f := fun k => spec_GetNum.j1 k l a x i false) (fun k => ?_) (Ev.step (f := fun _ => some (0, 0, false)) (fun k => ?_) (ev_cast ?_ (Ev.now _)))
      · simp only [spec_GetNum.l0]; rw [if_pos (by omega), if_pos ha, if_pos hal, e1]; simp [hlt]
      · simp [spec_GetNum.j1]
      · rw [List.drop_eq_nil_of_le (by omega)]; rfl
theorem spec_GetNum_ev (l : List Int) (hb : BytesB l) (hl : (l.length : Int) ≤ 1048576) (a : Int) : Ev (fun k => spec_GetNum.f k l a) (getNumM l a) := by
  unfold spec_GetNum.f getNumM
  by_cases h : 0 ≤ a ∧ a < l.length
  · rw [if_pos h]
    exact spec_GetNum_l l hb hl a h.1 h.2 6 0 0 rfl (by decide) (by decide)
  · rw [if_neg h]
    refine Ev.step (f := fun k => spec_GetNum.j1 k l a 0 0 false) (fun k => ?_) (Ev.step (f := fun _ => some (0, 0, false)) (fun k => ?_) (Ev.now _))
    · simp only [spec_GetNum.l0]
      rw [if_pos (by omega)]
      by_cases h1 : a ≥ 0
      · rw [if_pos h1, if_neg (by omega)]
      · rw [if_neg h1]
    · simp [spec_GetNum.j1]
theorem spec_GetText_ev (l : List Int) (hb : BytesB l) (hl : (l.length : Int) ≤ 1048576) (a : Int) : Ev (fun k => spec_GetText.f k l a) (getTextM l a) := by
  unfold spec_GetText.f
  refine Ev.bind (spec_GetNum_ev l hb hl a) ?_
  unfold getTextM
  cases hok : (getNumM l a).2.2 with
  | false => exact ev_neg (by decide) (ev_cast (by rw [if_neg (by rw [hok]; simp)]) (Ev.now _))
  | true =>
    obtain ⟨h0, h1, h2, h3, h4⟩ := getNumM_ok l a hok
    generalize getNumM l a = r at *
    obtain ⟨n, p, ok⟩ := r
    simp only at h0 h1 h2 h3 h4 hok ⊢
    subst hok
    refine ev_pos trivial ?_
    rw [w64 _ (by omega) (by omega), w64 (p + n) (by omega) (by omega)]
    by_cases h5 : n < 0
    · exact ev_pos h5 (ev_cast (by rw [if_neg (by omega)]) (Ev.now _))
    · refine ev_neg h5 ?_
      by_cases h6 : n > (l.length : Int) - p
      · exact ev_pos h6 (ev_cast (by rw [if_neg (by omega)]) (Ev.now _))
      · refine ev_neg h6 (ev_pos (by omega) (ev_pos (by omega) (ev_pos (by omega) (ev_cast ?_ (Ev.now _)))))
        rw [if_pos ⟨rfl, by omega, by omega⟩]
theorem impl_inRange_eq (a b c : Int) : impl_inRange.f a b c = some (decide (b ≤ a) && decide (a ≤ c)) := by
  unfold impl_inRange.f
  by_cases h : b ≤ a <;> simp [h]
theorem impl_GetNum_l (l : List Int) (hb : BytesB l) (hl : (l.length : Int) ≤ 1048576) (a : Int) (ha : 0 ≤ a) (hal : a < l.length) (n : Nat) :
    ∀ (i : Nat) (x : Int), i + n = 6 → 0 ≤ x → x < 2 ^ (7 * i) → Ev (fun k => impl_GetNum.l0 k l (a + i) x i) (numFin a (numM n i x (l.drop (a.toNat + i)))) := by
  induction n with
  | zero =>
    intro i x hi hx0 hx
    refine Ev.step (f := fun k => impl_GetNum.j1 k l (a + i) x i false) (fun k => ?_) (Ev.step (f := fun _ => some (0, 0, false)) (fun k => ?_) (Ev.now _))
    · simp only [impl_GetNum.l0]; rw [if_neg (by omega)]
    · simp [impl_GetNum.j1]
  | succ n ih =>
    intro i x hi hx0 hx
    by_cases hlt : a + i < l.length
    · refine Ev.step (f := fun k => impl_GetNum.j1 k l (a + i) x i true) (fun k => ?_) ?_
      · simp only [impl_GetNum.l0]; rw [if_pos (by omega)]; simp [hlt]
      have hr := hb.at_ (a + i)
      have e2 : wrap64 (rd l (a + i)) = rd l (a + i) := w64 _ (by omega) (by omega)
      have e3 := grp x (rd l (a + i)) i (by omega) hx0 hx hr.1 hr.2
      have e4 : 0 ≤ IntKind.u64.wrap (wrap64 (7 * (i : Int))) := by rw [wrapU7 i (by omega)]; omega
      obtain ⟨hp1, hp2, hp3⟩ := p7 i (by omega)
      have hd : l.drop (a.toNat + i) = rd l (a + i) :: l.drop (a.toNat + (i + 1)) := by
        rw [drop_rd l _ (by omega), show ((a.toNat + i : Nat) : Int) = a + i from by omega]; rfl
      have hb' : 0 ≤ rd l (a + i) % 128 ∧ rd l (a + i) % 128 ≤ 127 := by omega
      have hq0 : 0 ≤ rd l (a + i) % 128 * 2 ^ (7 * i) := Int.mul_nonneg hb'.1 (by omega)
      have hq1 : rd l (a + i) % 128 * 2 ^ (7 * i) ≤ 127 * 2 ^ (7 * i) := Int.mul_le_mul_of_nonneg_right hb'.2 (by omega)
      have e5 : wrap64 (a + (i : Int) + 1) = a + ((i + 1 : Nat) : Int) := by rw [w64 _ (by omega) (by omega)]; omega
      rw [hd]
      generalize hc : rd l (a + i) = c at *
      generalize hX : x + c % 128 * 2 ^ (7 * i) = X at *
      have hX0 : 0 ≤ X := by omega
      have hX1 : X < 128 * 2 ^ (7 * i) := by omega
      by_cases h1 : c > 127
      · have := ih (i + 1) X (by omega) hX0 (by rw [hp3]; exact hX1)
        refine Ev.step (fun k => ?_) (ev_cast ?_ this)
        · simp only [impl_GetNum.j1]
          rw [hc, e2, e3, if_pos trivial, if_pos (by omega), if_pos hlt, if_pos e4, if_pos (by omega), e5, w64 ((i : Int) + 1) (by omega) (by omega)]
          rfl
        · simp [numM, h1, hX]
      · have em : Int.tmod X 2 = X % 2 := Int.tmod_eq_emod_of_nonneg hX0
        have ed : wrap64 (Int.tdiv X 2) = X / 2 := by rw [Int.tdiv_eq_ediv_of_nonneg hX0, w64 _ (by omega) (by omega)]
        have en : X % 2 = 1 → wrap64 (Int.tdiv (wrap64 (-(wrap64 (X + 1)))) 2) = -(X / 2) - 1 := by
          intro ho
          rw [w64 (X + 1) (by omega) (by omega), w64 (-(X + 1)) (by omega) (by omega), Int.neg_tdiv, Int.tdiv_eq_ediv_of_nonneg (by omega), w64 _ (by omega) (by omega)]
          omega
        by_cases h2 : c = 0 ∧ 0 < i
        · refine Ev.step (f := fun _ => some (0, 0, false)) (fun k => ?_) (ev_cast ?_ (Ev.now _))
          · simp only [impl_GetNum.j1]
            rw [hc, e2, e3, if_pos trivial, if_pos (by omega), if_pos hlt, if_pos e4, if_neg (by omega)]
            have h2' : (i : Int) > 0 := by omega
            simp only [if_pos h2', if_pos h2.1, ite_self]
          · simp [numM, h1, h2, numFin]
        · refine Ev.step (f := fun _ => some (numFin a (some (X, i + 1)))) (fun k => ?_) (ev_cast ?_ (Ev.now _))
          · simp only [impl_GetNum.j1]
            rw [hc, e2, e3, if_pos trivial, if_pos (by omega), if_pos hlt, if_pos e4, if_neg (by omega), em, e5, ed]
            simp only [impl_inRange_eq, Option.bind_some, numFin]
            by_cases h3 : X % 2 = 1
            · have hz : -(X / 2) - 1 = zag X := by unfold zag; rw [if_pos h3]
              rw [if_pos h3, en h3, hz]
              by_cases h4 : c = 0
              · rw [if_pos h4, if_neg (by omega)]
                simp only [Bool.and_eq_true, decide_eq_true_eq]
                split <;> rfl
              · rw [if_neg h4]
                simp only [Bool.and_eq_true, decide_eq_true_eq]
                split <;> rfl
            · have hz : X / 2 = zag X := by unfold zag; rw [if_neg h3]
              rw [if_neg h3, hz]
              by_cases h4 : c = 0
              · rw [if_pos h4, if_neg (by omega)]
                simp only [Bool.and_eq_true, decide_eq_true_eq]
                split <;> rfl
              · rw [if_neg h4]
                simp only [Bool.and_eq_true, decide_eq_true_eq]
                split <;> rfl
          · simp only [numM]
            rw [if_neg h1, if_neg h2, hX]
    · refine Ev.step (f := fun k => impl_GetNum.j1 k l (a + i) x i false) (fun k => ?_) (Ev.step (f := fun _ => some (0, 0, false)) (fun k => ?_) (ev_cast ?_ (Ev.now _)))
      · simp only [impl_GetNum.l0]; rw [if_pos (by omega)]; simp [hlt]
      · simp [impl_GetNum.j1]
      · rw [List.drop_eq_nil_of_le (by omega)]; rfl
theorem impl_GetNum_ev (l : List Int) (hb : BytesB l) (hl : (l.length : Int) ≤ 1048576) (a : Int) : Ev (fun k => impl_GetNum.f k l a) (getNumM l a) := by
  unfold impl_GetNum.f getNumM
  rw [impl_inRange_eq, w64 _ (by omega) (by omega)]
  simp only [Option.bind_some]
  by_cases h : 0 ≤ a ∧ a < l.length
  · rw [if_pos h]
    refine ev_pos (by simp; omega) ?_
    have := impl_GetNum_l l hb hl a h.1 h.2 6 0 0 rfl (by decide) (by decide)
    simpa using this
  · rw [if_neg h]
    exact ev_neg (by simp; omega) (Ev.now _)
theorem impl_GetText_ev (l : List Int) (hb : BytesB l) (hl : (l.length : Int) ≤ 1048576) (a : Int) : Ev (fun k => impl_GetText.f k l a) (getTextM l a) := by
  unfold impl_GetText.f
  refine Ev.bind (impl_GetNum_ev l hb hl a) ?_
  unfold getTextM
  cases hok : (getNumM l a).2.2 with
  | false => exact ev_neg (by decide) (ev_cast (by rw [if_neg (by rw [hok]; simp)]) (Ev.now _))
  | true =>
    obtain ⟨h0, h1, h2, h3, h4⟩ := getNumM_ok l a hok
    generalize getNumM l a = r at *
    obtain ⟨n, p, ok⟩ := r
    simp only at h0 h1 h2 h3 h4 hok ⊢
    subst hok
    refine ev_pos trivial ?_
    rw [w64 _ (by omega) (by omega), w64 (p + n) (by omega) (by omega)]
    by_cases h5 : n < 0
    · exact ev_pos h5 (ev_cast (by rw [if_neg (by omega)]) (Ev.now _))
    · refine ev_neg h5 ?_
      by_cases h6 : n > (l.length : Int) - p
      · exact ev_pos h6 (ev_cast (by rw [if_neg (by omega)]) (Ev.now _))
      · refine ev_neg h6 (ev_pos (by omega) (ev_pos (by omega) (ev_pos (by omega) (ev_cast ?_ (Ev.now _)))))
        rw [if_pos ⟨rfl, by omega, by omega⟩]
theorem rd_set_eq (l : List Int) (i : Nat) (v : Int) (h : i < l.length) : rd (l.set i v) (i : Int) = v := by
  unfold rd
  simp [List.getD_eq_getElem?_getD, h]
theorem set_take (l : List Int) (i : Nat) (v : Int) (h : i < l.length) : (l.set i v).take (i + 1) = l.take i ++ [v] := by
  rw [List.take_succ_eq_append_getElem (by simpa using h)]
  simp [List.take_set]
  rw [List.set_eq_of_length_le (by simp; omega)]
theorem laws_toByteS_l (x : List Int) (hl : (x.length : Int) ≤ 1048576) (d : Nat) : ∀ (i : Nat) (y : List Int), i + d = x.length → y.length = x.length → y.take i = x.take i → Ev (fun k => laws_toByteS.l0 k x y i) x := by
  induction d with
  | zero =>
    intro i y hi hy ht
    refine Ev.step (f := fun _ => some y) (fun k => ?_) (ev_cast ?_ (Ev.now _))
    · simp only [laws_toByteS.l0]; rw [if_neg (by omega)]
    · rwa [List.take_of_length_le (by omega), List.take_of_length_le (by omega)] at ht
  | succ d ih =>
    intro i y hi hy ht
    have := ih (i + 1) (y.set i (rd x i)) (by omega) (by simpa using hy) (by
      rw [set_take _ _ _ (by omega), ht, List.take_succ_eq_append_getElem (by omega)]
      unfold rd
      simp [List.getElem?_eq_getElem (show i < x.length by omega)])
    refine Ev.step (fun k => ?_) this
    simp only [laws_toByteS.l0]
    rw [if_pos (by omega), if_pos (by omega), if_pos (by omega), w64 _ (by omega) (by omega)]
    rfl
theorem laws_toByteS_ev (x : List Int) (hl : (x.length : Int) ≤ 1048576) : Ev (fun k => laws_toByteS.f k x) x := by
  unfold laws_toByteS.f
  exact ev_pos (by omega) (ev_pos (by omega) (laws_toByteS_l x hl x.length 0 _ (by omega) (by simp) (by simp)))
theorem laws_eqByteS_l (x : List Int) (hl : (x.length : Int) ≤ 281474976710656) (d : Nat) : ∀ (i : Nat), i + d = x.length → Ev (fun k => laws_eqByteS.l0 k x x i) true := by
  induction d with
  | zero =>
    intro i hi
    refine Ev.step (f := fun _ => some true) (fun k => ?_) (Ev.now _)
    simp only [laws_eqByteS.l0]; rw [if_neg (by omega)]
  | succ d ih =>
    intro i hi
    refine Ev.step (fun k => ?_) (ih (i + 1) (by omega))
    simp only [laws_eqByteS.l0]
    rw [if_pos (by omega), if_pos (by omega), if_pos (by omega), if_pos trivial, w64 _ (by omega) (by omega)]
    rfl
theorem laws_eqByteS_ev (x : List Int) (hl : (x.length : Int) ≤ 281474976710656) : Ev (fun k => laws_eqByteS.f k x x) true := by
  unfold laws_eqByteS.f
  exact ev_pos rfl (laws_eqByteS_l x hl x.length 0 (by omega))
theorem FnExactGetText : laws_FnExactGetText.Pure := by
  intro l a _ _ hb0 _
  have hb : BytesB l := fun x hx => wf_u8 (hb0 x hx)
  refine Ev.rounds (g := fun k => laws_FnExactGetText.f k l a) ?_
  unfold laws_FnExactGetText.f
  by_cases h : (l.length : Int) > 1048576
  · exact ev_pos h (Ev.now _)
  · have hl : (l.length : Int) ≤ 1048576 := by omega
    refine ev_neg h (Ev.bind (laws_toByteS_ev l hl) (Ev.bind (spec_GetText_ev l hb hl a) (Ev.bind (laws_toByteS_ev l hl) (Ev.bind (impl_GetText_ev l hb hl a) ?_))))
    refine ev_pos rfl (ev_pos rfl ?_)
    rw [bne_self_eq_false]
    refine Ev.step (f := fun k => (laws_toByteS.f k l).bind fun t => (laws_eqByteS.f k l t).bind fun u => if u = true then some true else some false) (fun k => ?_) (Ev.bind (laws_toByteS_ev l hl) (Ev.bind (laws_eqByteS_ev l (by omega)) (ev_pos rfl (Ev.now _))))
    simp only [laws_FnExactGetText.j0]
    rw [if_neg (by decide)]

end Go.Proofs.Ytgofhofcicgibaa.Pure
