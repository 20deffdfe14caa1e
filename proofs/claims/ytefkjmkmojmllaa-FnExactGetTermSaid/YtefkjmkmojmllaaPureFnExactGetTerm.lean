/- What the law FnExactGetTerm of this seat says holds for every input that its row speaks of; no further condition. -/
import Derived.Test.YtefkjmkmojmllaaQFnExactGetTermx12
import Derived.Lib.Strings
set_option linter.unusedVariables false
set_option linter.unusedSimpArgs false
namespace Go.Proofs.Ytefkjmkmojmllaa.Pure
open Go.RowKit Go.Proofs.Ytefkjmkmojmllaa.QFnExactGetTerm Go.Proofs.YtefkjmkmojmllaaW.PrintWords Go.Proofs.YtefkjmkmojmllaaW.PrintLast Go.Proofs.YtefkjmkmojmllaaW.PrintMore

theorem ev_pos {α : Type} {c : Prop} [Decidable c] {A B : Nat → Option α} {r : α} (h : c) (e : Ev A r) : Ev (fun k => if c then A k else B k) r := by
  obtain ⟨K, hK⟩ := e
  exact ⟨K, fun k hk => by simp only [if_pos h]; exact hK k hk⟩
theorem ev_neg {α : Type} {c : Prop} [Decidable c] {A B : Nat → Option α} {r : α} (h : ¬ c) (e : Ev B r) : Ev (fun k => if c then A k else B k) r := by
  obtain ⟨K, hK⟩ := e
  exact ⟨K, fun k hk => by simp only [if_neg h]; exact hK k hk⟩
theorem ev_of {α : Type} {o : Option α} {r : α} (h : o = some r) : Ev (fun _ => o) r := ⟨0, fun _ _ => h⟩
theorem ev_cast {α : Type} {g : Nat → Option α} {r r' : α} (h : r = r') (e : Ev g r) : Ev g r' := h ▸ e
theorem ev_uniq {α : Type} {g : Nat → Option α} {r r' : α} (h : Ev g r) (h' : Ev g r') : r = r' := by
  obtain ⟨K, hK⟩ := h
  obtain ⟨K', hK'⟩ := h'
  have a := hK (max K K') (Nat.le_max_left _ _)
  have b := hK' (max K K') (Nat.le_max_right _ _)
  rw [a] at b
  exact Option.some.inj b
theorem w64 (n : Int) (h0 : -9223372036854775808 ≤ n) (h1 : n ≤ 9223372036854775807) : wrap64 n = n := by unfold wrap64; omega
theorem dec_and (p q : Prop) [Decidable p] [Decidable q] : decide (p ∧ q) = (decide p && decide q) := by
  by_cases hp : p <;> by_cases hq : q <;> simp [hp, hq]
theorem wf_u8 {x : Int} (h : (Lit.int .u8 x).wf = true) : 0 ≤ x ∧ x < 256 := by
  simp [Lit.wf, IntKind.min, IntKind.max, IntKind.bits, IntKind.signed] at h
  omega
def BytesB (l : List Int) : Prop := ∀ x ∈ l, 0 ≤ x ∧ x < 256
theorem BytesB.at_ {l : List Int} (h : BytesB l) (i : Int) : 0 ≤ rd l i ∧ rd l i < 256 := by
  unfold rd
  rw [List.getD_eq_getElem?_getD]
  by_cases hi : i.toNat < l.length
  · rw [List.getElem?_eq_getElem hi]; exact h _ (List.getElem_mem hi)
  · rw [List.getElem?_eq_none (by omega)]; decide
theorem drop_rd (l : List Int) (p : Nat) (h : p < l.length) : l.drop p = rd l p :: l.drop (p + 1) := by
  rw [List.drop_eq_getElem_cons h]
  unfold rd
  simp [List.getElem?_eq_getElem h]
theorem hk63 (n : Int) (h0 : 0 ≤ n) (h1 : n < 2 ^ 63) : IntKind.i64.wrap n = n := by
  rw [IntKind.wrap_i64]; omega
theorem or_comm64 (a b : Int) : Go.bits .or .i64 a b = Go.bits .or .i64 b a := by
  unfold Go.bits
  simp only [BitVec.or_comm]
theorem and127 (c : Int) (h0 : 0 ≤ c) (h1 : c < 256) : Go.bits .and .i64 c 127 = c % 128 := by
  have := bits_mask .i64 63 (by decide) hk63 7 (by decide) c h0 (by omega)
  simpa using this
theorem wrapU7 (i : Nat) (hi : i < 6) : IntKind.u64.wrap (wrap64 (7 * (i : Int))) = 7 * (i : Int) := by
  rw [w64 _ (by omega) (by omega)]
  simp [IntKind.wrap, IntKind.bits, IntKind.signed]
  omega
theorem p7 (i : Nat) (hi : i < 6) : (1 : Int) ≤ 2 ^ (7 * i) ∧ (2 : Int) ^ (7 * i) ≤ 34359738368 ∧ (2 : Int) ^ (7 * (i + 1)) = 128 * 2 ^ (7 * i) := by
  have : i = 0 ∨ i = 1 ∨ i = 2 ∨ i = 3 ∨ i = 4 ∨ i = 5 := by omega
  rcases this with rfl | rfl | rfl | rfl | rfl | rfl <;> decide
theorem grp (x c : Int) (i : Nat) (hi : i < 6) (hx0 : 0 ≤ x) (hx : x < 2 ^ (7 * i)) (hc0 : 0 ≤ c) (hc : c < 256) :
    Go.bits .or .i64 x (shl .i64 (Go.bits .and .i64 c 127) (IntKind.u64.wrap (wrap64 (7 * (i : Int))))) = x + (c % 128) * 2 ^ (7 * i) := by
  obtain ⟨hp1, hp2, _⟩ := p7 i hi
  rw [and127 c hc0 hc, wrapU7 i hi]
  unfold shl
  have hm : min (7 * (i : Int)).toNat (IntKind.i64.bits) = 7 * i := by show min _ 64 = _; omega
  have hb : 0 ≤ c % 128 ∧ c % 128 ≤ 127 := by omega
  have hq0 : 0 ≤ c % 128 * 2 ^ (7 * i) := Int.mul_nonneg hb.1 (by omega)
  have hq1 : c % 128 * 2 ^ (7 * i) ≤ 127 * 34359738368 := Int.mul_le_mul hb.2 hp2 (by omega) (by decide)
  rw [hm, hk63 _ hq0 (by omega), or_comm64]
  rw [bits_join .i64 63 (by decide) hk63 (7 * i) _ x hq0 (Int.mul_emod_left _ _) (by omega) hx0 hx (by omega)]
  omega
/-- What stands at a place: groups of seven bits; the number, and how many bytes. -/
def numM : Nat → Nat → Int → List Int → Option (Int × Nat)
  | 0, _, _, _ => none
  | _ + 1, _, _, [] => none
  | n + 1, i, x, c :: r => if c > 127 then numM n (i + 1) (x + (c % 128) * 2 ^ (7 * i)) r else if c = 0 ∧ 0 < i then none else some (x + (c % 128) * 2 ^ (7 * i), i + 1)
def zag (m : Int) : Int := if m % 2 = 1 then -(m / 2) - 1 else m / 2
def numFin (a : Int) : Option (Int × Nat) → Int × Int × Bool
  | none => (0, 0, false)
  | some (m, c) => if -1000000000000 ≤ zag m ∧ zag m ≤ 1000000000000 then (zag m, a + c, true) else (0, 0, false)
def getNumM (l : List Int) (a : Int) : Int × Int × Bool := if 0 ≤ a ∧ a < l.length then numFin a (numM 6 0 0 (l.drop a.toNat)) else (0, 0, false)
theorem impl_inRange_eq (a b c : Int) : impl_inRange.f a b c = some (decide (b ≤ a) && decide (a ≤ c)) := by
  unfold impl_inRange.f
  by_cases h : b ≤ a <;> simp [h]
theorem impl_GetNum_l (l : List Int) (hb : BytesB l) (hl : (l.length : Int) ≤ 1048576) (a : Int) (ha : 0 ≤ a) (hal : a < l.length) (n : Nat) :
    ∀ (i : Nat) (x : Int), i + n = 6 → 0 ≤ x → x < 2 ^ (7 * i) → Ev (fun k => impl_GetNum.l0 k l (a + i) x i) (numFin a (numM n i x (l.drop (a.toNat + i)))) := by
  induction n with
  | zero =>
    intro i x hi hx0 hx
    refine Ev.step (f := fun k => impl_GetNum.j1 k l (a + i) x i false) (fun k => ?_) (Ev.step (f := fun _ => some (0, 0, false)) (fun k => ?_) (Ev.now _))
    · simp only [impl_GetNum.l0]; rw [if_neg (by omega)]
    · simp [impl_GetNum.j1]
  | succ n ih =>
    intro i x hi hx0 hx
    by_cases hlt : a + i < l.length
    · refine Ev.step (f := fun k => impl_GetNum.j1 k l (a + i) x i true) (fun k => ?_) ?_
      · simp only [impl_GetNum.l0]; rw [if_pos (by omega)]; simp [hlt]
      have hr := hb.at_ (a + i)
      have e2 : wrap64 (rd l (a + i)) = rd l (a + i) := w64 _ (by omega) (by omega)
      have e3 := grp x (rd l (a + i)) i (by omega) hx0 hx hr.1 hr.2
      have e4 : 0 ≤ IntKind.u64.wrap (wrap64 (7 * (i : Int))) := by rw [wrapU7 i (by omega)]; omega
      obtain ⟨hp1, hp2, hp3⟩ := p7 i (by omega)
      have hd : l.drop (a.toNat + i) = rd l (a + i) :: l.drop (a.toNat + (i + 1)) := by
        rw [drop_rd l _ (by omega), show ((a.toNat + i : Nat) : Int) = a + i from by omega]; rfl
      have hb' : 0 ≤ rd l (a + i) % 128 ∧ rd l (a + i) % 128 ≤ 127 := by omega
      have hq0 : 0 ≤ rd l (a + i) % 128 * 2 ^ (7 * i) := Int.mul_nonneg hb'.1 (by omega)
      have hq1 : rd l (a + i) % 128 * 2 ^ (7 * i) ≤ 127 * 2 ^ (7 * i) := Int.mul_le_mul_of_nonneg_right hb'.2 (by omega)
      have e5 : wrap64 (a + (i : Int) + 1) = a + ((i + 1 : Nat) : Int) := by rw [w64 _ (by omega) (by omega)]; omega
      rw [hd]
      generalize hc : rd l (a + i) = c at *
      generalize hX : x + c % 128 * 2 ^ (7 * i) = X at *
      have hX0 : 0 ≤ X := by omega
      have hX1 : X < 128 * 2 ^ (7 * i) := by omega
      by_cases h1 : c > 127
      · have := ih (i + 1) X (by omega) hX0 (by rw [hp3]; exact hX1)
        refine Ev.step (fun k => ?_) (ev_cast ?_ this)
        · simp only [impl_GetNum.j1]
          rw [hc, e2, e3, if_pos trivial, if_pos (by omega), if_pos hlt, if_pos e4, if_pos (by omega), e5, w64 ((i : Int) + 1) (by omega) (by omega)]
          rfl
        · simp [numM, h1, hX]
      · have em : Int.tmod X 2 = X % 2 := Int.tmod_eq_emod_of_nonneg hX0
        have ed : wrap64 (Int.tdiv X 2) = X / 2 := by rw [Int.tdiv_eq_ediv_of_nonneg hX0, w64 _ (by omega) (by omega)]
        have en : X % 2 = 1 → wrap64 (Int.tdiv (wrap64 (-(wrap64 (X + 1)))) 2) = -(X / 2) - 1 := by
          intro ho
          rw [w64 (X + 1) (by omega) (by omega), w64 (-(X + 1)) (by omega) (by omega), Int.neg_tdiv, Int.tdiv_eq_ediv_of_nonneg (by omega), w64 _ (by omega) (by omega)]
          omega
        by_cases h2 : c = 0 ∧ 0 < i
        · refine Ev.step (f := fun _ => some (0, 0, false)) (fun k => ?_) (ev_cast ?_ (Ev.now _))
          · simp only [impl_GetNum.j1]
            rw [hc, e2, e3, if_pos trivial, if_pos (by omega), if_pos hlt, if_pos e4, if_neg (by omega)]
            have h2' : (i : Int) > 0 := by omega
            simp only [if_pos h2', if_pos h2.1, ite_self]
          · simp [numM, h1, h2, numFin]
        · refine Ev.step (f := fun _ => some (numFin a (some (X, i + 1)))) (fun k => ?_) (ev_cast ?_ (Ev.now _))
          · simp only [impl_GetNum.j1]
            rw [hc, e2, e3, if_pos trivial, if_pos (by omega), if_pos hlt, if_pos e4, if_neg (by omega), em, e5, ed]
            simp only [impl_inRange_eq, Option.bind_some, numFin]
            by_cases h3 : X % 2 = 1
            · have hz : -(X / 2) - 1 = zag X := by unfold zag; rw [if_pos h3]
              rw [if_pos h3, en h3, hz]
              by_cases h4 : c = 0
              · rw [if_pos h4, if_neg (by omega)]
                simp only [Bool.and_eq_true, decide_eq_true_eq]
                split <;> rfl
              · rw [if_neg h4]
                simp only [Bool.and_eq_true, decide_eq_true_eq]
                split <;> rfl
            · have hz : X / 2 = zag X := by unfold zag; rw [if_neg h3]
              rw [if_neg h3, hz]
              by_cases h4 : c = 0
              · rw [if_pos h4, if_neg (by omega)]
                simp only [Bool.and_eq_true, decide_eq_true_eq]
                split <;> rfl
              · rw [if_neg h4]
                simp only [Bool.and_eq_true, decide_eq_true_eq]
                split <;> rfl
          · simp only [numM]
            rw [if_neg h1, if_neg h2, hX]
    · refine Ev.step (f := fun k => impl_GetNum.j1 k l (a + i) x i false) (fun k => ?_) (Ev.step (f := fun _ => some (0, 0, false)) (fun k => ?_) (ev_cast ?_ (Ev.now _)))
      · simp only [impl_GetNum.l0]; rw [if_pos (by omega)]; simp [hlt]
      · simp [impl_GetNum.j1]
      · rw [List.drop_eq_nil_of_le (by omega)]; rfl
theorem impl_GetNum_ev (l : List Int) (hb : BytesB l) (hl : (l.length : Int) ≤ 1048576) (a : Int) : Ev (fun k => impl_GetNum.f k l a) (getNumM l a) := by
  unfold impl_GetNum.f getNumM
  rw [impl_inRange_eq, w64 _ (by omega) (by omega)]
  simp only [Option.bind_some]
  by_cases h : 0 ≤ a ∧ a < l.length
  · rw [if_pos h]
    refine ev_pos (by simp; omega) ?_
    have := impl_GetNum_l l hb hl a h.1 h.2 6 0 0 rfl (by decide) (by decide)
    simpa using this
  · rw [if_neg h]
    exact ev_neg (by simp; omega) (Ev.now _)
theorem numM_len : ∀ (n i : Nat) (x : Int) (t : List Int) (m : Int) (c : Nat), numM n i x t = some (m, c) → i < c ∧ c ≤ i + t.length := by
  intro n
  induction n with
  | zero => intro i x t m c h; simp [numM] at h
  | succ n ih =>
    intro i x t m c h
    cases t with
    | nil => simp [numM] at h
    | cons b r =>
      simp only [numM] at h
      split at h
      · have := ih _ _ _ _ _ h
        simp only [List.length_cons]; omega
      · split at h
        · cases h
        · simp only [Option.some.injEq, Prod.mk.injEq] at h
          simp only [List.length_cons]; omega
theorem getNumM_ok (l : List Int) (a : Int) (h : (getNumM l a).2.2 = true) : 0 ≤ a ∧ a < (getNumM l a).2.1 ∧ (getNumM l a).2.1 ≤ l.length ∧ -1000000000000 ≤ (getNumM l a).1 ∧ (getNumM l a).1 ≤ 1000000000000 := by
  unfold getNumM at h ⊢
  split at h
  · rename_i ha
    rw [if_pos ha]
    cases hn : numM 6 0 0 (l.drop a.toNat) with
    | none => rw [hn] at h; cases h
    | some p =>
      obtain ⟨m, c⟩ := p
      rw [hn] at h
      have hc := numM_len _ _ _ _ _ _ hn
      rw [List.length_drop] at hc
      simp only [numFin] at h ⊢
      split at h
      · rename_i hr
        rw [if_pos hr]
        refine ⟨ha.1, ?_, ?_, hr.1, hr.2⟩ <;> simp only [] <;> omega
      · cases h
  · cases h
def getTextM (l : List Int) (a : Int) : ByteArray × Int × Bool :=
  let r := getNumM l a
  if r.2.2 = true ∧ 0 ≤ r.1 ∧ r.1 ≤ l.length - r.2.1 then (strOfNums ((l.take (r.2.1 + r.1).toNat).drop r.2.1.toNat), r.2.1 + r.1, true) else ((⟨#[]⟩ : ByteArray), 0, false)
theorem impl_GetText_ev (l : List Int) (hb : BytesB l) (hl : (l.length : Int) ≤ 1048576) (a : Int) : Ev (fun k => impl_GetText.f k l a) (getTextM l a) := by
  unfold impl_GetText.f
  refine Ev.bind (impl_GetNum_ev l hb hl a) ?_
  unfold getTextM
  cases hok : (getNumM l a).2.2 with
  | false => exact ev_neg (by decide) (ev_cast (by rw [if_neg (by rw [hok]; simp)]) (Ev.now _))
  | true =>
    obtain ⟨h0, h1, h2, h3, h4⟩ := getNumM_ok l a hok
    generalize getNumM l a = r at *
    obtain ⟨n, p, ok⟩ := r
    simp only at h0 h1 h2 h3 h4 hok ⊢
    subst hok
    refine ev_pos trivial ?_
    rw [w64 _ (by omega) (by omega), w64 (p + n) (by omega) (by omega)]
    by_cases h5 : n < 0
    · exact ev_pos h5 (ev_cast (by rw [if_neg (by omega)]) (Ev.now _))
    · refine ev_neg h5 ?_
      by_cases h6 : n > (l.length : Int) - p
      · exact ev_pos h6 (ev_cast (by rw [if_neg (by omega)]) (Ev.now _))
      · refine ev_neg h6 (ev_pos (by omega) (ev_pos (by omega) (ev_pos (by omega) (ev_cast ?_ (Ev.now _)))))
        rw [if_pos ⟨rfl, by omega, by omega⟩]
def grp7 : Nat → Int → List Int
  | 0, x => [x]
  | n + 1, x => if x > 127 then (x % 128 + 128) :: grp7 n (x / 128) else [x]
def clampM (n : Int) : Int := if n < -1000000000000 then -1000000000000 else if n > 1000000000000 then 1000000000000 else n
def zigM (c : Int) : Int := if c < 0 then -2 * c - 1 else 2 * c
def putNumM (n : Int) : List Int := grp7 5 (zigM (clampM n))
theorem grp7_len (n : Nat) : ∀ x, (grp7 n x).length ≤ n + 1 := by
  induction n with
  | zero => intro x; simp [grp7]
  | succ n ih =>
    intro x
    unfold grp7
    split
    · have := ih (x / 128); simp only [List.length_cons]; omega
    · simp
theorem grp7_bytes (n : Nat) : ∀ x, 0 ≤ x → x < 2 ^ (7 * (n + 1)) → BytesB (grp7 n x) := by
  induction n with
  | zero =>
    intro x h0 h1
    intro y hy
    simp [grp7] at hy
    subst hy
    have : (2 : Int) ^ (7 * (0 + 1)) = 128 := by decide
    omega
  | succ n ih =>
    intro x h0 h1
    have hp : (2 : Int) ^ (7 * (n + 1 + 1)) = 2 ^ (7 * (n + 1)) * 128 := by
      rw [show 7 * (n + 1 + 1) = 7 * (n + 1) + 7 from by omega, Int.pow_add]
      rfl
    unfold grp7
    split
    · rename_i h
      intro y hy
      rcases List.mem_cons.1 hy with rfl | hy
      · omega
      · exact ih (x / 128) (by omega) (by rw [hp] at h1; omega) y hy
    · intro y hy
      simp at hy
      subst hy
      omega
theorem zig_range (n : Int) : 0 ≤ zigM (clampM n) ∧ zigM (clampM n) ≤ 2000000000000 := by
  unfold zigM clampM
  split <;> split <;> (try split) <;> omega
theorem putNumM_len (n : Int) : (putNumM n).length ≤ 6 := grp7_len 5 _
theorem putNumM_bytes (n : Int) : BytesB (putNumM n) := by
  have := zig_range n
  exact grp7_bytes 5 _ this.1 (by have h : (2 : Int) ^ (7 * (5 + 1)) = 4398046511104 := (by decide); omega)
theorem and127_64 (x : Int) (h0 : 0 ≤ x) (h1 : x < 9223372036854775808) : Go.bits .and .i64 x 127 = x % 128 := by
  have := bits_mask .i64 63 (by decide) hk63 7 (by decide) x h0 (by omega)
  simpa using this
theorem or128 (y : Int) (h0 : 0 ≤ y) (h1 : y < 128) : Go.bits .or .i64 128 y = 128 + y := by
  exact bits_join .i64 63 (by decide) hk63 7 128 y (by decide) (by decide) (by decide) h0 (by omega) (by omega)
def putTextM (s : ByteArray) : List Int := putNumM s.size ++ bytesOf s
theorem putTextM_len (s : ByteArray) : (putTextM s).length ≤ 6 + s.size := by
  unfold putTextM
  have := putNumM_len s.size
  rw [List.length_append, bytesOf_length]; omega
theorem zag_zig (c : Int) : zag (zigM c) = c := by
  unfold zag zigM
  by_cases h : c < 0
  · rw [if_pos h, if_pos (by omega)]; omega
  · rw [if_neg h, if_neg (by omega)]; omega
theorem numM_grp7 (n : Nat) : ∀ (i : Nat) (acc x : Int) (rest : List Int), 0 ≤ x → x < 2 ^ (7 * (n + 1)) → (i = 0 ∨ 0 < x) →
    numM (n + 1) i acc (grp7 n x ++ rest) = some (acc + x * 2 ^ (7 * i), i + (grp7 n x).length) := by
  induction n with
  | zero =>
    intro i acc x rest h0 h1 hi
    have h2 : (2 : Int) ^ (7 * (0 + 1)) = 128 := by decide
    simp only [grp7, List.cons_append, List.nil_append, numM]
    rw [if_neg (by omega), if_neg (by omega), show x % 128 = x from by omega]
    simp
  | succ n ih =>
    intro i acc x rest h0 h1 hi
    have hp : (2 : Int) ^ (7 * (n + 1 + 1)) = 2 ^ (7 * (n + 1)) * 128 := by
      rw [show 7 * (n + 1 + 1) = 7 * (n + 1) + 7 from by omega, Int.pow_add]
      rfl
    unfold grp7
    by_cases h : x > 127
    · rw [if_pos h]
      simp only [List.cons_append]
      rw [numM, if_pos (by omega), ih (i + 1) _ (x / 128) rest (by omega) (by rw [hp] at h1; omega) (by omega)]
      have hq : (2 : Int) ^ (7 * (i + 1)) = 128 * 2 ^ (7 * i) := by
        rw [show 7 * (i + 1) = 7 * i + 7 from by omega, Int.pow_add, Int.mul_comm]
        rfl
      rw [hq, List.length_cons, show (x % 128 + 128) % 128 = x % 128 from by omega]
      have hx : x = x % 128 + 128 * (x / 128) := by omega
      have hm : x * 2 ^ (7 * i) = x % 128 * 2 ^ (7 * i) + x / 128 * (128 * 2 ^ (7 * i)) := by
        conv => lhs; rw [hx]
        rw [Int.add_mul, Int.mul_comm 128 (x / 128), Int.mul_assoc]
      congr 1
      rw [Prod.mk.injEq]
      exact ⟨by omega, by omega⟩
    · rw [if_neg h]
      simp only [List.cons_append, List.nil_append, numM]
      rw [if_neg (by omega), if_neg (by omega), show x % 128 = x from by omega]
      simp
theorem clamp_range (n : Int) : -1000000000000 ≤ clampM n ∧ clampM n ≤ 1000000000000 := by
  unfold clampM
  split
  · omega
  · split <;> omega
theorem drop_append_len (b t : List Int) : (b ++ t).drop ((b.length : Int)).toNat = t := by
  rw [Int.toNat_natCast, List.drop_left]
theorem putNumM_pos (n : Int) : 0 < (putNumM n).length := by
  unfold putNumM grp7
  split <;> simp
theorem get_put (b : List Int) (n : Int) (rest : List Int) : getNumM (b ++ putNumM n ++ rest) b.length = (clampM n, ((b ++ putNumM n).length : Int), true) := by
  have hz := zig_range n
  have hc := clamp_range n
  have h5 : (2 : Int) ^ (7 * (5 + 1)) = 4398046511104 := by decide
  have hpos := putNumM_pos n
  have hlen : ((b ++ putNumM n ++ rest).length : Int) = b.length + (putNumM n).length + rest.length := by simp only [List.length_append]; omega
  unfold getNumM
  rw [if_pos ⟨by omega, by omega⟩, List.append_assoc, drop_append_len]
  have := numM_grp7 5 0 0 (zigM (clampM n)) rest hz.1 (by omega) (.inl rfl)
  rw [show putNumM n = grp7 5 (zigM (clampM n)) from rfl, this]
  simp only [numFin]
  have hx : (0 : Int) + zigM (clampM n) * 2 ^ (7 * 0) = zigM (clampM n) := by simp
  rw [hx, zag_zig, if_pos hc]
  simp only [List.length_append, Nat.zero_add]
  congr 2
theorem str_bytes (s : ByteArray) : strOfNums (bytesOf s) = s := by
  unfold strOfNums bytesOf
  congr 1
  apply Array.ext'
  simp [Function.comp_def]
theorem indI {P : S25 → Prop} (h : ∀ a b s l, (∀ y ∈ l, P y) → P ⟨a, b, s, l⟩) : ∀ x, P x := by
  intro x
  refine S25.rec (motive_1 := P) (motive_2 := fun l => ∀ y ∈ l, P y) ?_ ?_ ?_ x
  · intro a b s l hl
    exact h a b s l hl
  · intro y hy; cases hy
  · intro x r hx hr y hy
    rcases List.mem_cons.1 hy with rfl | hy
    · exact hx
    · exact hr y hy
mutual
def budI : S25 → Nat
  | ⟨_, _, s, l⟩ => s.size + budIL l
def budIL : List S25 → Nat
  | [] => 0
  | x :: r => 1 + budI x + budIL r
end
theorem budI_mk (a b : Int) (s : ByteArray) (l : List S25) : budI ⟨a, b, s, l⟩ = s.size + budIL l := by rw [budI]
theorem budIL_len : ∀ l : List S25, l.length ≤ budIL l
  | [] => by simp [budIL]
  | x :: r => by
    have := budIL_len r
    rw [budIL, List.length_cons]; omega
theorem rdI_mem (l : List S25) (i : Nat) (h : i < l.length) : rd_T25 l i ∈ l := by
  unfold rd_T25
  simp [List.getD_eq_getElem?_getD, List.getElem?_eq_getElem h]
theorem dropI (l : List S25) (i : Nat) (h : i < l.length) : l.drop i = rd_T25 l i :: l.drop (i + 1) := by
  rw [List.drop_eq_getElem_cons h]
  unfold rd_T25
  simp [List.getElem?_eq_getElem h]
theorem budI_mem : ∀ (l : List S25) (x : S25), x ∈ l → budI x + 1 ≤ budIL l
  | [], x, h => by cases h
  | y :: r, x, h => by
    rw [budIL]
    rcases List.mem_cons.1 h with rfl | h
    · omega
    · have := budI_mem r x h; omega
theorem etaI (x : S25) : (⟨x.f0, x.f1, x.f2, x.f3⟩ : S25) = x := by cases x; rfl
def lowB (c : Int) : Bool := decide (97 ≤ c) && decide (c ≤ 122)
def digB (c : Int) : Bool := decide (48 ≤ c) && decide (c ≤ 57)
def atomFrom (s : ByteArray) (i : Nat) : Bool := (List.range' i (s.size - i)).all fun j => lowB (bt s j) || (!decide (j = 0) && (digB (bt s j) || decide (bt s j = 95)))
def atomOkM (s : ByteArray) : Bool := atomFrom s 0 && (decide (1 ≤ (s.size : Int)) && decide ((s.size : Int) ≤ 20))
theorem atomFrom_end (s : ByteArray) (i : Nat) (h : s.size ≤ i) : atomFrom s i = true := by
  unfold atomFrom
  rw [Nat.sub_eq_zero_of_le h]; rfl
theorem atomFrom_step (s : ByteArray) (i : Nat) (h : i < s.size) : atomFrom s i = ((lowB (bt s i) || (!decide (i = 0) && (digB (bt s i) || decide (bt s i = 95)))) && atomFrom s (i + 1)) := by
  unfold atomFrom
  obtain ⟨n, hn⟩ : ∃ n, s.size - i = n + 1 := ⟨s.size - i - 1, by omega⟩
  rw [hn, show s.size - (i + 1) = n from by omega, List.range'_succ]
  simp [List.all_cons]
theorem wbt (s : ByteArray) (i : Int) : wrap64 (bt s i) = bt s i := by
  have := bt_range s i
  exact w64 _ (by omega) (by omega)
mutual
def countM : S25 → Nat
  | ⟨_, _, _, l⟩ => 1 + countML l
def countML : List S25 → Nat
  | [] => 0
  | x :: r => countM x + countML r
end
mutual
theorem count_bud : ∀ x, countM x ≤ 1 + budI x
  | ⟨a, b, s, l⟩ => by rw [countM, budI]; have := countL_bud l; omega
theorem countL_bud : ∀ l, countML l ≤ budIL l
  | [] => by rw [countML]; omega
  | x :: r => by rw [countML, budIL]; have := count_bud x; have := countL_bud r; omega
end
def noText (s : ByteArray) : Bool := decide (s.toList = ([] : List UInt8))
def shapeM (a b : Int) (s : ByteArray) (l : List S25) : Bool :=
  if a = 1 then (decide (-1000000000000 ≤ b) && decide (b ≤ 1000000000000)) && (noText s && ((l.length : Int) == 0))
  else if a = 2 then atomOkM s && (decide (b = 0) && ((l.length : Int) == 0))
  else if a = 3 then (decide (0 ≤ b) && decide (b ≤ 1000000)) && (noText s && ((l.length : Int) == 0))
  else if a = 4 then decide (b = 0) && (noText s && decide ((l.length : Int) ≤ 20))
  else if a = 5 then decide (b = 0) && (noText s && decide ((l.length : Int) ≤ 60))
  else false
mutual
def goodM : S25 → Nat → Bool
  | ⟨a, b, s, l⟩, n => match n with
    | 0 => false
    | n + 1 => shapeM a b s l && goodML l n
def goodML : List S25 → Nat → Bool
  | [], _ => true
  | x :: r, n => goodM x n && goodML r n
end
def termOkM (x : S25) : Bool := goodM x 8 && decide (countM x ≤ 300)
theorem count_pos (x : S25) : 1 ≤ countM x := by
  cases x; rw [countM]; omega
theorem getDG {α : Type} (z : α) (l : List α) (i : Nat) (h : i < l.length) : l.getD ((i : Int)).toNat z = l[i] := by
  simp [List.getD_eq_getElem?_getD, List.getElem?_eq_getElem h]
theorem rdIx2 (l : List S25) (i : Nat) (h : i < l.length) : rd_T25 l (i : Int) = l[i] := getDG _ l i h
mutual
def encT : S25 → List Int
  | ⟨a, b, s, l⟩ => putNumM a ++ (if a = 1 ∨ a = 3 then putNumM b else if a = 2 then putTextM s else putNumM (l.length : Int) ++ encTL l)
def encTL : List S25 → List Int
  | [] => []
  | x :: r => encT x ++ encTL r
end
theorem encTL_drop (l : List S25) (i : Nat) (h : i < l.length) : encTL (l.drop i) = encT l[i] ++ encTL (l.drop (i + 1)) := by
  rw [List.drop_eq_getElem_cons h, encTL]
theorem good_mk {a b : Int} {s : ByteArray} {l : List S25} {n : Nat} (h : goodM ⟨a, b, s, l⟩ n = true) : ∃ m, n = m + 1 ∧ shapeM a b s l = true ∧ goodML l m = true := by
  cases n with
  | zero => rw [goodM] at h; cases h
  | succ m =>
    rw [goodM, Bool.and_eq_true] at h
    exact ⟨m, rfl, h.1, h.2⟩
theorem goodL_mem : ∀ (l : List S25) (n : Nat), goodML l n = true → ∀ y ∈ l, goodM y n = true
  | [], _, _, y, hy => by cases hy
  | x :: r, n, h, y, hy => by
    rw [goodML, Bool.and_eq_true] at h
    rcases List.mem_cons.1 hy with rfl | hy
    · exact h.1
    · exact goodL_mem r n h.2 y hy
theorem noText_eq {s : ByteArray} (h : noText s = true) : s = ⟨#[]⟩ := by
  unfold noText at h
  rw [decide_eq_true_eq, Go.Lib.toList_data] at h
  apply ByteArray.ext
  exact Array.toList_inj.1 h
theorem len0_eq {l : List S25} (h : ((l.length : Int) == 0) = true) : l = [] := by
  rw [beq_iff_eq] at h
  exact List.eq_nil_of_length_eq_zero (by omega)
/-- What a right term of a kind is. -/
theorem shape_cases {a b : Int} {s : ByteArray} {l : List S25} (h : shapeM a b s l = true) :
    (a = 1 ∧ -1000000000000 ≤ b ∧ b ≤ 1000000000000 ∧ s = ⟨#[]⟩ ∧ l = []) ∨ (a = 2 ∧ b = 0 ∧ atomOkM s = true ∧ l = []) ∨ (a = 3 ∧ 0 ≤ b ∧ b ≤ 1000000 ∧ s = ⟨#[]⟩ ∧ l = []) ∨ ((a = 4 ∨ a = 5) ∧ b = 0 ∧ s = ⟨#[]⟩ ∧ l.length ≤ 60) := by
  unfold shapeM at h
  by_cases h1 : a = 1
  · rw [if_pos h1] at h
    simp only [Bool.and_eq_true, decide_eq_true_eq] at h
    exact .inl ⟨h1, h.1.1, h.1.2, noText_eq h.2.1, len0_eq h.2.2⟩
  rw [if_neg h1] at h
  by_cases h2 : a = 2
  · rw [if_pos h2] at h
    simp only [Bool.and_eq_true, decide_eq_true_eq] at h
    exact .inr (.inl ⟨h2, h.2.1, h.1, len0_eq h.2.2⟩)
  rw [if_neg h2] at h
  by_cases h3 : a = 3
  · rw [if_pos h3] at h
    simp only [Bool.and_eq_true, decide_eq_true_eq] at h
    exact .inr (.inr (.inl ⟨h3, h.1.1, h.1.2, noText_eq h.2.1, len0_eq h.2.2⟩))
  rw [if_neg h3] at h
  by_cases h4 : a = 4
  · rw [if_pos h4] at h
    simp only [Bool.and_eq_true, decide_eq_true_eq] at h
    exact .inr (.inr (.inr ⟨.inl h4, h.1, noText_eq h.2.1, by omega⟩))
  rw [if_neg h4] at h
  by_cases h5 : a = 5
  · rw [if_pos h5] at h
    simp only [Bool.and_eq_true, decide_eq_true_eq] at h
    exact .inr (.inr (.inr ⟨.inr h5, h.1, noText_eq h.2.1, by omega⟩))
  rw [if_neg h5] at h
  cases h
theorem atom_size {s : ByteArray} (h : atomOkM s = true) : s.size ≤ 20 := by
  unfold atomOkM at h
  simp only [Bool.and_eq_true, decide_eq_true_eq] at h
  omega
theorem enc_len : ∀ x, ∀ n, goodM x n = true → (encT x).length ≤ 32 * countM x := by
  refine indI (fun a b s l ih n hg => ?_)
  obtain ⟨m, rfl, hs, hl⟩ := good_mk hg
  rw [encT, countM, List.length_append]
  have h1 := putNumM_len a
  have h2 := putNumM_len b
  have h3 := putNumM_len (l.length : Int)
  have hL : ∀ (l : List S25), (∀ y ∈ l, (encT y).length ≤ 32 * countM y) → (encTL l).length ≤ 32 * countML l := by
    intro l
    induction l with
    | nil => intro _; rw [encTL, countML]; simp
    | cons x r ihr =>
      intro h
      have q1 := h x List.mem_cons_self
      have q2 := ihr (fun y hy => h y (List.mem_cons_of_mem _ hy))
      rw [encTL, countML, List.length_append]
      omega
  have h4 := hL l (fun y hy => ih y hy m (goodL_mem l m hl y hy))
  by_cases c1 : a = 1 ∨ a = 3
  · rw [if_pos c1]; omega
  rw [if_neg c1]
  by_cases c2 : a = 2
  · rw [if_pos c2]
    rcases shape_cases hs with h | h | h | h
    · omega
    · have := putTextM_len s
      have := atom_size h.2.2.1
      omega
    · omega
    · omega
  · rw [if_neg c2, List.length_append]
    omega
mutual
theorem enc_bytes : ∀ x, BytesB (encT x)
  | ⟨a, b, s, l⟩ => by
    rw [encT]
    intro y hy
    rcases List.mem_append.1 hy with hy | hy
    · exact putNumM_bytes a y hy
    · split at hy
      · exact putNumM_bytes b y hy
      · split at hy
        · unfold putTextM at hy
          rcases List.mem_append.1 hy with hy | hy
          · exact putNumM_bytes _ y hy
          · unfold bytesOf at hy
            obtain ⟨c, _, rfl⟩ := List.mem_map.1 hy
            have := c.toNat_lt
            omega
        · rcases List.mem_append.1 hy with hy | hy
          · exact putNumM_bytes _ y hy
          · exact encL_bytes l y hy
theorem encL_bytes : ∀ l, BytesB (encTL l)
  | [] => by intro y hy; rw [encTL] at hy; cases hy
  | x :: r => by
    intro y hy
    rw [encTL] at hy
    rcases List.mem_append.1 hy with hy | hy
    · exact enc_bytes x y hy
    · exact encL_bytes r y hy
end
theorem get_puttext2 (b : List Int) (s : ByteArray) (R : List Int) (hs : (s.size : Int) ≤ 1000000000000) : getTextM (b ++ putTextM s ++ R) b.length = (s, ((b ++ putTextM s).length : Int), true) := by
  have hc : clampM (s.size : Int) = s.size := by unfold clampM; rw [if_neg (by omega), if_neg (by omega)]
  have hg := get_put b (s.size : Int) (bytesOf s ++ R)
  rw [hc] at hg
  have e1 : b ++ putTextM s ++ R = b ++ putNumM (s.size : Int) ++ (bytesOf s ++ R) := by unfold putTextM; simp
  have hl : (((b ++ putNumM (s.size : Int) ++ (bytesOf s ++ R)).length : Nat) : Int) = ((b ++ putNumM (s.size : Int)).length : Int) + s.size + R.length := by
    simp only [List.length_append, bytesOf_length]; omega
  have hl2 : (((b ++ putTextM s).length : Nat) : Int) = ((b ++ putNumM (s.size : Int)).length : Int) + s.size := by
    unfold putTextM
    simp only [List.length_append, bytesOf_length]; omega
  unfold getTextM
  rw [e1, hg]
  simp only []
  rw [if_pos ⟨trivial, by omega, by omega⟩, hl2]
  have e2 : (((b ++ putNumM (s.size : Int) ++ (bytesOf s ++ R)).take ((((b ++ putNumM (s.size : Int)).length : Int) + s.size)).toNat).drop (((b ++ putNumM (s.size : Int)).length : Int)).toNat) = bytesOf s := by
    rw [Int.toNat_natCast]
    have e3 : ((((b ++ putNumM (s.size : Int)).length : Int) + s.size)).toNat = (b ++ putNumM (s.size : Int)).length + s.size := by omega
    rw [e3, List.drop_take, List.drop_left, Nat.add_sub_cancel_left, List.take_append_of_le_length (by rw [bytesOf_length]; omega), List.take_of_length_le (by rw [bytesOf_length]; omega)]
  rw [e2, str_bytes]
theorem getter_num_put (P : List Int) (n : Int) (R : List Int) (hn : -1000000000000 ≤ n ∧ n ≤ 1000000000000) (hb : BytesB (P ++ putNumM n ++ R)) (hl : ((P ++ putNumM n ++ R).length : Int) ≤ 1048576) :
    Ev (fun k => impl_getter_num.f k (P ++ putNumM n ++ R) (P.length : Int) false) (n, ((P ++ putNumM n).length : Int), false) := by
  have hc : clampM n = n := by unfold clampM; rw [if_neg (by omega), if_neg (by omega)]
  have e := impl_GetNum_ev (P ++ putNumM n ++ R) hb hl (P.length : Int)
  rw [get_put P n R, hc] at e
  unfold impl_getter_num.f
  exact Ev.bind e (ev_neg (by decide) (ev_pos rfl (Ev.now _)))
theorem getter_text_put (P : List Int) (s : ByteArray) (R : List Int) (hs : (s.size : Int) ≤ 1000000) (hb : BytesB (P ++ putTextM s ++ R)) (hl : ((P ++ putTextM s ++ R).length : Int) ≤ 1048576) :
    Ev (fun k => impl_getter_text.f k (P ++ putTextM s ++ R) (P.length : Int) false) (s, ((P ++ putTextM s).length : Int), false) := by
  have e := impl_GetText_ev (P ++ putTextM s ++ R) hb hl (P.length : Int)
  rw [get_puttext2 P s R (by omega)] at e
  unfold impl_getter_text.f
  exact Ev.bind e (ev_neg (by decide) (ev_pos rfl (Ev.now _)))
theorem getter_count_put (P : List Int) (n : Nat) (R : List Int) (hn : n ≤ 60) (hb : BytesB (P ++ putNumM (n : Int) ++ R)) (hl : ((P ++ putNumM (n : Int) ++ R).length : Int) ≤ 1048576) :
    Ev (fun k => impl_getter_count.f k (P ++ putNumM (n : Int) ++ R) (P.length : Int) false 60) ((n : Int), ((P ++ putNumM (n : Int)).length : Int), false) := by
  unfold impl_getter_count.f
  refine Ev.bind (getter_num_put P n R (by omega) hb hl) (Ev.bind (ev_of (impl_inRange_eq _ _ _)) ?_)
  refine ev_pos ?_ (Ev.now _)
  simp only [Bool.and_eq_true, decide_eq_true_eq]
  omega
theorem spec_l1In_eq (a b c : Int) : spec_l1In.f a b c = some (decide (b ≤ a) && decide (a ≤ c)) := by
  unfold spec_l1In.f
  by_cases h : b ≤ a <;> simp [h]
theorem spec_GetNum_l (l : List Int) (hb : BytesB l) (hl : (l.length : Int) ≤ 1048576) (a : Int) (ha : 0 ≤ a) (hal : a < l.length) (n : Nat) :
    ∀ (i : Nat) (x : Int), i + n = 6 → 0 ≤ x → x < 2 ^ (7 * i) → Ev (fun k => spec_GetNum.l0 k l a x i) (numFin a (numM n i x (l.drop (a.toNat + i)))) := by
  induction n with
  | zero =>
    intro i x hi hx0 hx
    refine Ev.step (f := fun k => spec_GetNum.j1 k l a x i false) (fun k => ?_) (Ev.step (f := fun _ => some (0, 0, false)) (fun k => ?_) (Ev.now _))
    · simp only [spec_GetNum.l0]; rw [if_neg (by omega)]
    · simp [spec_GetNum.j1]
  | succ n ih =>
    intro i x hi hx0 hx
    have e1 : wrap64 (a + i) = a + i := w64 _ (by omega) (by omega)
    by_cases hlt : a + i < l.length
    · refine Ev.step (f := fun k => spec_GetNum.j1 k l a x i true) (fun k => ?_) ?_
      · simp only [spec_GetNum.l0]; rw [if_pos (by omega), if_pos ha, if_pos hal, e1]; simp [hlt]
      have hr := hb.at_ (a + i)
      have e2 : wrap64 (rd l (a + i)) = rd l (a + i) := w64 _ (by omega) (by omega)
      have e3 := grp x (rd l (a + i)) i (by omega) hx0 hx hr.1 hr.2
      have e4 : 0 ≤ IntKind.u64.wrap (wrap64 (7 * (i : Int))) := by rw [wrapU7 i (by omega)]; omega
      obtain ⟨hp1, hp2, hp3⟩ := p7 i (by omega)
      have hd : l.drop (a.toNat + i) = rd l (a + i) :: l.drop (a.toNat + (i + 1)) := by
        rw [drop_rd l _ (by omega), show ((a.toNat + i : Nat) : Int) = a + i from by omega]; rfl
      have hb' : 0 ≤ rd l (a + i) % 128 ∧ rd l (a + i) % 128 ≤ 127 := by omega
      have hq0 : 0 ≤ rd l (a + i) % 128 * 2 ^ (7 * i) := Int.mul_nonneg hb'.1 (by omega)
      have hq1 : rd l (a + i) % 128 * 2 ^ (7 * i) ≤ 127 * 2 ^ (7 * i) := Int.mul_le_mul_of_nonneg_right hb'.2 (by omega)
      rw [hd]
      generalize hc : rd l (a + i) = c at *
      generalize hX : x + c % 128 * 2 ^ (7 * i) = X at *
      have hX0 : 0 ≤ X := by omega
      have hX1 : X < 128 * 2 ^ (7 * i) := by omega
      by_cases h1 : c > 127
      · have := ih (i + 1) X (by omega) hX0 (by rw [hp3]; exact hX1)
        refine Ev.step (fun k => ?_) (ev_cast ?_ this)
        · simp only [spec_GetNum.j1]
          rw [e1, hc, e2, e3, if_pos trivial, if_pos (by omega), if_pos hlt, if_pos e4, if_pos h1, w64 _ (by omega) (by omega)]
          rfl
        · simp [numM, h1, hX]
      · have eand : Go.bits .and .i64 X 1 = X % 2 := by
          have := bits_mask .i64 63 (by decide) hk63 1 (by decide) X hX0 (by omega)
          simpa using this
        by_cases h2 : c = 0 ∧ 0 < i
        · refine Ev.step (f := fun _ => some (0, 0, false)) (fun k => ?_) (ev_cast ?_ (Ev.now _))
          · simp only [spec_GetNum.j1]
            rw [e1, hc, e2, e3, if_pos trivial, if_pos (by omega), if_pos hlt, if_pos e4, if_neg h1]
            have h2' : (i : Int) > 0 := by omega
            simp only [if_pos h2', if_pos h2.1, ite_self]
          · simp [numM, h1, h2, numFin]
        · have hz : zag X = if X % 2 = 1 then wrap64 (wrap64 (-(X / 2)) - 1) else X / 2 := by
            unfold zag
            rw [w64 (-(X / 2)) (by omega) (by omega), w64 _ (by omega) (by omega)]
          have e5 : wrap64 (a + (i : Int) + 1) = a + ((i + 1 : Nat) : Int) := by rw [w64 _ (by omega) (by omega)]; omega
          refine Ev.step (f := fun _ => some (numFin a (some (X, i + 1)))) (fun k => ?_) (ev_cast ?_ (Ev.now _))
          · simp only [spec_GetNum.j1]
            rw [e1, hc, e2, e3, if_pos trivial, if_pos (by omega), if_pos hlt, if_pos e4, if_neg h1, eand, e5]
            simp only [spec_l1In_eq, Option.bind_some, numFin]
            by_cases h3 : X % 2 = 1
            · rw [if_pos h3] at hz
              rw [if_pos h3, ← hz]
              by_cases h4 : (i : Int) > 0
              · rw [if_pos h4, if_neg (by omega)]
                simp only [Bool.and_eq_true, decide_eq_true_eq]
                split <;> rfl
              · rw [if_neg h4]
                simp only [Bool.and_eq_true, decide_eq_true_eq]
                split <;> rfl
            · rw [if_neg h3] at hz
              rw [if_neg h3, ← hz]
              by_cases h4 : (i : Int) > 0
              · rw [if_pos h4, if_neg (by omega)]
                simp only [Bool.and_eq_true, decide_eq_true_eq]
                split <;> rfl
              · rw [if_neg h4]
                simp only [Bool.and_eq_true, decide_eq_true_eq]
                split <;> rfl
          · simp only [numM]
            rw [if_neg h1, if_neg h2, hX]
    · refine Ev.step (f := fun k => spec_GetNum.j1 k l a x i false) (fun k => ?_) (Ev.step (f := fun _ => some (0, 0, false)) (fun k => ?_) (ev_cast ?_ (Ev.now _)))
      · simp only [spec_GetNum.l0]; rw [if_pos (by omega), if_pos ha, if_pos hal, e1]; simp [hlt]
      · simp [spec_GetNum.j1]
      · rw [List.drop_eq_nil_of_le (by omega)]; rfl
theorem spec_GetNum_ev (l : List Int) (hb : BytesB l) (hl : (l.length : Int) ≤ 1048576) (a : Int) : Ev (fun k => spec_GetNum.f k l a) (getNumM l a) := by
  unfold spec_GetNum.f getNumM
  by_cases h : 0 ≤ a ∧ a < l.length
  · rw [if_pos h]
    exact spec_GetNum_l l hb hl a h.1 h.2 6 0 0 rfl (by decide) (by decide)
  · rw [if_neg h]
    refine Ev.step (f := fun k => spec_GetNum.j1 k l a 0 0 false) (fun k => ?_) (Ev.step (f := fun _ => some (0, 0, false)) (fun k => ?_) (Ev.now _))
    · simp only [spec_GetNum.l0]
      rw [if_pos (by omega)]
      by_cases h1 : a ≥ 0
      · rw [if_pos h1, if_neg (by omega)]
      · rw [if_neg h1]
    · simp [spec_GetNum.j1]
theorem spec_GetText_ev (l : List Int) (hb : BytesB l) (hl : (l.length : Int) ≤ 1048576) (a : Int) : Ev (fun k => spec_GetText.f k l a) (getTextM l a) := by
  unfold spec_GetText.f
  refine Ev.bind (spec_GetNum_ev l hb hl a) ?_
  unfold getTextM
  cases hok : (getNumM l a).2.2 with
  | false => exact ev_neg (by decide) (ev_cast (by rw [if_neg (by rw [hok]; simp)]) (Ev.now _))
  | true =>
    obtain ⟨h0, h1, h2, h3, h4⟩ := getNumM_ok l a hok
    generalize getNumM l a = r at *
    obtain ⟨n, p, ok⟩ := r
    simp only at h0 h1 h2 h3 h4 hok ⊢
    subst hok
    refine ev_pos trivial ?_
    rw [w64 _ (by omega) (by omega), w64 (p + n) (by omega) (by omega)]
    by_cases h5 : n < 0
    · exact ev_pos h5 (ev_cast (by rw [if_neg (by omega)]) (Ev.now _))
    · refine ev_neg h5 ?_
      by_cases h6 : n > (l.length : Int) - p
      · exact ev_pos h6 (ev_cast (by rw [if_neg (by omega)]) (Ev.now _))
      · refine ev_neg h6 (ev_pos (by omega) (ev_pos (by omega) (ev_pos (by omega) (ev_cast ?_ (Ev.now _)))))
        rw [if_pos ⟨rfl, by omega, by omega⟩]
theorem sget_num_put (P : List Int) (n : Int) (R : List Int) (hn : -1000000000000 ≤ n ∧ n ≤ 1000000000000) (hb : BytesB (P ++ putNumM n ++ R)) (hl : ((P ++ putNumM n ++ R).length : Int) ≤ 1048576) :
    Ev (fun k => spec_GetNum.f k (P ++ putNumM n ++ R) (P.length : Int)) (n, ((P ++ putNumM n).length : Int), true) := by
  have hc : clampM n = n := by unfold clampM; rw [if_neg (by omega), if_neg (by omega)]
  have e := spec_GetNum_ev (P ++ putNumM n ++ R) hb hl (P.length : Int)
  rw [get_put P n R, hc] at e
  exact e
theorem sget_text_put (P : List Int) (s : ByteArray) (R : List Int) (hs : (s.size : Int) ≤ 1000000) (hb : BytesB (P ++ putTextM s ++ R)) (hl : ((P ++ putTextM s ++ R).length : Int) ≤ 1048576) :
    Ev (fun k => spec_GetText.f k (P ++ putTextM s ++ R) (P.length : Int)) (s, ((P ++ putTextM s).length : Int), true) := by
  have e := spec_GetText_ev (P ++ putTextM s ++ R) hb hl (P.length : Int)
  rw [get_puttext2 P s R (by omega)] at e
  exact e
theorem sget_loop (B post : List Int) (hb : BytesB B) (hl : (B.length : Int) ≤ 1048576) (dp a b : Int) (s : ByteArray) (hdp : 1 ≤ dp ∧ dp ≤ 8) (l : List S25) (hll : l.length ≤ 60)
    (h : ∀ y ∈ l, ∀ P R : List Int, B = P ++ encT y ++ R → Ev (fun k => spec_l2Get.f k B (P.length : Int) (dp - 1)) (y.f0, y.f1, y.f2, y.f3, ((P ++ encT y).length : Int), true)) (d : Nat) :
    ∀ (i : Nat) (P : List Int), i + d = l.length → B = P ++ encTL (l.drop i) ++ post → Ev (fun k => spec_l2Get.l0 k B dp (l.length : Int) (P.length : Int) i a b s (l.take i)) (a, b, s, l, ((P ++ encTL (l.drop i)).length : Int), true) := by
  induction d with
  | zero =>
    intro i P hi hB
    refine Ev.step (f := fun _ => some (a, b, s, l, (P.length : Int), true)) (fun k => ?_) (ev_cast ?_ (Ev.now _))
    · simp only [spec_l2Get.l0]; rw [if_neg (by omega), List.take_of_length_le (by omega)]
    · rw [List.drop_eq_nil_of_le (by omega), encTL, List.append_nil]
  | succ d ih =>
    intro i P hi hB
    have hlt : i < l.length := by omega
    have hB2 : B = P ++ encT l[i] ++ (encTL (l.drop (i + 1)) ++ post) := by rw [hB, encTL_drop l i hlt]; simp
    have hB3 : B = (P ++ encT l[i]) ++ encTL (l.drop (i + 1)) ++ post := by rw [hB2]; simp
    refine Ev.step (f := fun k => (spec_l2Get.f k B (P.length : Int) (dp - 1)).bind fun bt400 => (if bt400.2.2.2.2.2 = true then (if (l.take i).length < 2513169434916 then (spec_l2Get.l0 k B dp (l.length : Int) bt400.2.2.2.2.1 ((i + 1 : Nat) : Int) a b s (l.take i ++ [(⟨bt400.1, bt400.2.1, bt400.2.2.1, bt400.2.2.2.1⟩ : S25)])) else (none)) else (some (a, b, s, (l.take i), 0, false)))) (fun k => ?_) ?_
    · simp only [spec_l2Get.l0]
      have e1 : (i : Int) + 1 = ((i + 1 : Nat) : Int) := by omega
      rw [if_pos (by omega), w64 (dp - 1) (by omega) (by omega), w64 ((i : Int) + 1) (by omega) (by omega), e1]
    · refine Ev.bind (h l[i] (List.getElem_mem hlt) P _ hB2) (ev_pos rfl (ev_pos (by rw [List.length_take]; omega) ?_))
      have q := ih (i + 1) (P ++ encT l[i]) (by omega) hB3
      rw [encTL_drop l i hlt, ← List.append_assoc]
      refine Ev.congr (fun k => ?_) q
      have e2 : (⟨l[i].f0, l[i].f1, l[i].f2, l[i].f3⟩ : S25) = l[i] := etaI _
      rw [List.take_succ_eq_append_getElem hlt, ← e2]
theorem sget_all : ∀ x, ∀ (n : Nat), goodM x n = true → n ≤ 8 → ∀ B P R : List Int, BytesB B → (B.length : Int) ≤ 1048576 → B = P ++ encT x ++ R →
    Ev (fun k => spec_l2Get.f k B (P.length : Int) (n : Int)) (x.f0, x.f1, x.f2, x.f3, ((P ++ encT x).length : Int), true) := by
  refine indI (fun a b s l ih n hg hn8 B P R hb hl hB => ?_)
  obtain ⟨m, rfl, hs, hgl⟩ := good_mk hg
  show Ev (fun k => spec_l2Get.f k B (P.length : Int) ((m + 1 : Nat) : Int)) (a, b, s, l, ((P ++ encT ⟨a, b, s, l⟩).length : Int), true)
  rw [encT] at hB ⊢
  have har : -1000000000000 ≤ a ∧ a ≤ 1000000000000 := by rcases shape_cases hs with h | h | h | h <;> omega
  generalize hrest : (if a = 1 ∨ a = 3 then putNumM b else if a = 2 then putTextM s else putNumM (l.length : Int) ++ encTL l) = rest at hB ⊢
  have hB1 : B = P ++ putNumM a ++ (rest ++ R) := by rw [hB]; simp
  have e0 := sget_num_put P a (rest ++ R) har (hB1 ▸ hb) (hB1 ▸ hl)
  rw [← hB1] at e0
  have hB2 : B = (P ++ putNumM a) ++ rest ++ R := by rw [hB]; simp
  have key : ∀ q : Bool, (q = true ↔ (a = 1 ∨ a = 3)) → Ev (fun k => spec_l2Get.j1 k B ((m + 1 : Nat) : Int) ((P ++ putNumM a).length : Int) a q a 0 (⟨#[]⟩ : ByteArray)) (a, b, s, l, ((P ++ putNumM a ++ rest).length : Int), true) := by
    intro q hq
    by_cases c1 : a = 1 ∨ a = 3
    · rw [if_pos c1] at hrest
      subst hrest
      have hx : s = ⟨#[]⟩ ∧ l = [] ∧ -1000000000000 ≤ b ∧ b ≤ 1000000000000 := by
        rcases shape_cases hs with h | h | h | h
        · exact ⟨h.2.2.2.1, h.2.2.2.2, by omega, by omega⟩
        · omega
        · exact ⟨h.2.2.2.1, h.2.2.2.2, by omega, by omega⟩
        · omega
      obtain ⟨rfl, rfl, hb1⟩ := hx
      have e1 := sget_num_put (P ++ putNumM a) b R hb1 (hB2 ▸ hb) (hB2 ▸ hl)
      rw [← hB2] at e1
      refine Ev.step (f := fun k => (spec_GetNum.f k B ((P ++ putNumM a).length : Int)).bind fun bt390 => (some (a, bt390.1, (⟨#[]⟩ : ByteArray), ([] : List S25), bt390.2.1, bt390.2.2))) (fun k => ?_) (Ev.bind e1 (Ev.now _))
      simp only [spec_l2Get.j1]; rw [if_pos (hq.2 c1)]
    · have hq2 : ¬ q = true := fun e => c1 (hq.1 e)
      rw [if_neg c1] at hrest
      by_cases c2 : a = 2
      · rw [if_pos c2] at hrest
        subst hrest
        have hx : b = 0 ∧ atomOkM s = true ∧ l = [] := by
          rcases shape_cases hs with h | h | h | h
          · omega
          · exact ⟨h.2.1, h.2.2.1, h.2.2.2⟩
          · omega
          · omega
        obtain ⟨rfl, ha, rfl⟩ := hx
        have hsz := atom_size ha
        have e1 := sget_text_put (P ++ putNumM a) s R (by omega) (hB2 ▸ hb) (hB2 ▸ hl)
        rw [← hB2] at e1
        refine Ev.step (f := fun k => (spec_GetText.f k B ((P ++ putNumM a).length : Int)).bind fun bt393 => (some (a, 0, bt393.1, ([] : List S25), bt393.2.1, bt393.2.2))) (fun k => ?_) (Ev.bind e1 (Ev.now _))
        simp only [spec_l2Get.j1]; rw [if_neg hq2, if_pos c2]
      · rw [if_neg c2] at hrest
        subst hrest
        have hx : b = 0 ∧ s = ⟨#[]⟩ ∧ l.length ≤ 60 := by
          rcases shape_cases hs with h | h | h | h
          · omega
          · omega
          · omega
          · exact h.2
        obtain ⟨rfl, rfl, hll⟩ := hx
        have hB3 : B = (P ++ putNumM a) ++ putNumM (l.length : Int) ++ (encTL l ++ R) := by rw [hB2]; simp
        have hB4 : B = ((P ++ putNumM a) ++ putNumM (l.length : Int)) ++ encTL (l.drop 0) ++ R := by rw [hB2, List.drop_zero]; simp
        have e1 := sget_num_put (P ++ putNumM a) l.length (encTL l ++ R) (by omega) (hB3 ▸ hb) (hB3 ▸ hl)
        rw [← hB3] at e1
        have e2 := sget_loop B R hb hl ((m + 1 : Nat) : Int) a 0 ⟨#[]⟩ ⟨by omega, by omega⟩ l hll (fun y hy P2 R2 h2 => by
          have hm : ((m + 1 : Nat) : Int) - 1 = (m : Int) := by omega
          rw [hm]
          exact ih y hy m (goodL_mem l m hgl y hy) (by omega) B P2 R2 hb hl h2) l.length 0 ((P ++ putNumM a) ++ putNumM (l.length : Int)) (by omega) hB4
        rw [List.drop_zero, List.append_assoc (P ++ putNumM a)] at e2
        refine Ev.step (f := fun k => (spec_GetNum.f k B ((P ++ putNumM a).length : Int)).bind fun bt396 => (if bt396.2.2 = true then ((spec_l1In.f bt396.1 0 60).bind fun t399 => (spec_l2Get.j2 k B ((m + 1 : Nat) : Int) bt396.1 bt396.2.1 (!t399) a 0 (⟨#[]⟩ : ByteArray))) else (spec_l2Get.j2 k B ((m + 1 : Nat) : Int) bt396.1 bt396.2.1 true a 0 (⟨#[]⟩ : ByteArray)))) (fun k => ?_) (Ev.bind e1 (ev_pos rfl ?_))
        · simp only [spec_l2Get.j1]; rw [if_neg hq2, if_neg c2]
        · have hin : spec_l1In.f (l.length : Int) 0 60 = some true := by rw [spec_l1In_eq]; simp; omega
          refine Ev.bind (ev_of hin) (Ev.step (fun k => ?_) e2)
          simp only [spec_l2Get.j2]
          rw [if_neg (by decide)]
          rfl
  refine Ev.step (f := fun k => (spec_GetNum.f k B (P.length : Int)).bind fun bt386 => (if bt386.2.2 = true then (spec_l2Get.j0 k B ((m + 1 : Nat) : Int) bt386.1 bt386.2.1 (decide (((m + 1 : Nat) : Int) < 1)) bt386.1 0 (⟨#[]⟩ : ByteArray)) else (spec_l2Get.j0 k B ((m + 1 : Nat) : Int) bt386.1 bt386.2.1 true bt386.1 0 (⟨#[]⟩ : ByteArray)))) (fun k => ?_) (Ev.bind e0 (ev_pos rfl ?_))
  · simp only [spec_l2Get.f]
  · have hdec : decide (((m + 1 : Nat) : Int) < 1) = false := decide_eq_false (by omega)
    rw [hdec, ← List.append_assoc]
    by_cases c1 : a = 1
    · refine Ev.step (f := fun k => spec_l2Get.j1 k B ((m + 1 : Nat) : Int) ((P ++ putNumM a).length : Int) a (a == 1) a 0 (⟨#[]⟩ : ByteArray)) (fun k => ?_) (key _ (by rw [beq_iff_eq]; omega))
      simp only [spec_l2Get.j0]
      rw [if_neg (by decide), if_pos c1]
    · refine Ev.step (f := fun k => spec_l2Get.j1 k B ((m + 1 : Nat) : Int) ((P ++ putNumM a).length : Int) a (a == 3) a 0 (⟨#[]⟩ : ByteArray)) (fun k => ?_) (key _ (by rw [beq_iff_eq]; omega))
      simp only [spec_l2Get.j0]
      rw [if_neg (by decide), if_neg c1]
theorem numM_strict (n : Nat) : ∀ (i : Nat) (acc : Int) (L : List Int) (m : Int) (c : Nat), BytesB L → numM n i acc L = some (m, c) → ∃ (y : Int) (p R : List Int) (q : Nat), n = q + 1 ∧ L = p ++ R ∧ c = i + p.length ∧ m = acc + y * 2 ^ (7 * i) ∧ 0 ≤ y ∧ (0 < i → 0 < y) ∧ p = grp7 q y := by
  induction n with
  | zero => intro i acc L m c _ h; cases L <;> simp [numM] at h
  | succ n ih =>
    intro i acc L m c hb h
    cases L with
    | nil => simp [numM] at h
    | cons c0 r =>
      have hc0 := hb c0 List.mem_cons_self
      rw [numM] at h
      by_cases h1 : c0 > 127
      · rw [if_pos h1] at h
        obtain ⟨y, p, R, q, rfl, hr, hc, hm, hy, hpos, hp⟩ := ih (i + 1) _ r m c (fun x hx => hb x (List.mem_cons_of_mem _ hx)) h
        have hy1 := hpos (by omega)
        refine ⟨c0 % 128 + 128 * y, c0 :: p, R, q + 1, rfl, by rw [hr]; rfl, by rw [List.length_cons]; omega, ?_, by omega, fun _ => by omega, ?_⟩
        · rw [hm]
          have e : (2 : Int) ^ (7 * (i + 1)) = 2 ^ (7 * i) * 128 := by
            have e1 : 7 * (i + 1) = 7 * i + 7 := by omega
            rw [e1, Int.pow_add]
            rfl
          rw [e, Int.add_mul, Int.add_assoc]
          congr 2
          rw [Int.mul_comm (2 ^ (7 * i)) 128, ← Int.mul_assoc, Int.mul_comm y 128]
        · rw [grp7, if_pos (by omega), hp]
          have e1 : (c0 % 128 + 128 * y) / 128 = y := by omega
          have e2 : (c0 % 128 + 128 * y) % 128 + 128 = c0 := by omega
          rw [e1, e2]
      · rw [if_neg h1] at h
        by_cases h2 : c0 = 0 ∧ 0 < i
        · rw [if_pos h2] at h; cases h
        · rw [if_neg h2] at h
          injection h with h
          injection h with h3 h4
          refine ⟨c0, [c0], r, n, rfl, rfl, by simp; omega, ?_, hc0.1, fun hi => by omega, ?_⟩
          · have e : c0 % 128 = c0 := by omega
            rw [← h3, e]
          · cases n with
            | zero => rfl
            | succ q => rw [grp7, if_neg h1]
theorem zig_zag (m : Int) (h : 0 ≤ m) : zigM (zag m) = m := by
  unfold zigM zag
  split <;> split <;> omega
/-- What the strict reader takes for a number is that number's own code. -/
theorem getNum_strict (B : List Int) (i n j : Int) (hb : BytesB B) (h : getNumM B i = (n, j, true)) : ∃ R, 0 ≤ i ∧ B.drop i.toNat = putNumM n ++ R ∧ j = i + (putNumM n).length ∧ -1000000000000 ≤ n ∧ n ≤ 1000000000000 := by
  unfold getNumM at h
  by_cases hi : 0 ≤ i ∧ i < B.length
  · rw [if_pos hi] at h
    cases hn : numM 6 0 0 (B.drop i.toNat) with
    | none => rw [hn] at h; simp [numFin] at h
    | some q =>
      obtain ⟨m, c⟩ := q
      obtain ⟨y, p, R, q, hq, hL, hc, hm, hy, _, hp⟩ := numM_strict 6 0 0 _ m c (fun x hx => hb x (List.mem_of_mem_drop hx)) hn
      obtain rfl : q = 5 := by omega
      rw [hn] at h
      unfold numFin at h
      simp only at h
      by_cases hz : -1000000000000 ≤ zag m ∧ zag m ≤ 1000000000000
      · rw [if_pos hz] at h
        simp only [Prod.mk.injEq, and_true] at h
        obtain ⟨rfl, rfl⟩ := h
        have hmy : m = y := by rw [hm]; simp
        subst hmy
        have hcl : clampM (zag m) = zag m := by unfold clampM; rw [if_neg (by omega), if_neg (by omega)]
        have hpn : putNumM (zag m) = p := by
          unfold putNumM
          rw [hcl, zig_zag m hy, hp]
        rw [hpn]
        exact ⟨R, hi.1, hL, by omega, hz.1, hz.2⟩
      · rw [if_neg hz] at h
        simp at h
  · rw [if_neg hi] at h
    simp at h
theorem bytes_str (l : List Int) (hb : BytesB l) : bytesOf (strOfNums l) = l := by
  unfold bytesOf strOfNums
  simp only [List.map_map]
  have : ∀ x ∈ l, ((fun c : UInt8 => (c.toNat : Int)) ∘ fun n : Int => n.toNat.toUInt8) x = x := by
    intro x hx
    have h := hb x hx
    simp only [Function.comp]
    have e : x.toNat.toUInt8.toNat = x.toNat := by
      show (UInt8.ofNat x.toNat).toNat = x.toNat
      rw [UInt8.toNat_ofNat']
      exact Nat.mod_eq_of_lt (by omega)
    rw [e]; omega
  rw [List.map_congr_left this, List.map_id']
theorem getText_strict (B : List Int) (i : Int) (s : ByteArray) (j : Int) (hb : BytesB B) (h : getTextM B i = (s, j, true)) : ∃ R, 0 ≤ i ∧ B.drop i.toNat = putTextM s ++ R ∧ j = i + (putTextM s).length := by
  unfold getTextM at h
  simp only at h
  cases hg : getNumM B i with
  | mk n q =>
    obtain ⟨p, ok⟩ := q
    rw [hg] at h
    simp only at h
    by_cases hc : ok = true ∧ 0 ≤ n ∧ n ≤ B.length - p
    · rw [if_pos hc] at h
      obtain ⟨rfl, h0, h1⟩ := hc
      simp only [Prod.mk.injEq, and_true] at h
      obtain ⟨hs, rfl⟩ := h
      obtain ⟨R, hi, hR, hp, _, _⟩ := getNum_strict B i n p hb hg
      have hpn : p.toNat = i.toNat + (putNumM n).length := by omega
      have hBp : B.drop p.toNat = R := by
        rw [hpn, ← List.drop_drop, hR, List.drop_left]
      have hcut : (B.take (p + n).toNat).drop p.toNat = R.take n.toNat := by
        rw [List.drop_take, hBp]
        congr 1
        omega
      rw [hcut] at hs
      have hRl : R.length = B.length - p.toNat := by rw [← hBp, List.length_drop]
      have hRb : BytesB (R.take n.toNat) := fun x hx => hb x (by
        have := List.mem_of_mem_take hx
        rw [← hBp] at this
        exact List.mem_of_mem_drop this)
      have hbs : bytesOf s = R.take n.toNat := by rw [← hs]; exact bytes_str _ hRb
      have hsz : (s.size : Int) = n := by
        have := congrArg List.length hbs
        rw [bytesOf_length, List.length_take] at this
        omega
      refine ⟨R.drop n.toNat, hi, ?_, ?_⟩
      · unfold putTextM
        rw [hsz, hbs, List.append_assoc, List.take_append_drop, hR]
      · unfold putTextM
        rw [hsz, List.length_append, bytesOf_length]
        omega
    · rw [if_neg hc] at h
      simp at h
def SGot (B : List Int) (i : Int) (x : S25) (j : Int) : Prop := 0 ≤ i ∧ (∃ R, B.drop i.toNat = encT x ++ R) ∧ j = i + (encT x).length ∧ budI x + 1 ≤ (encT x).length
theorem sloop_total (B : List Int) (dp a b : Int) (s : ByteArray) (cnt : Nat) (hcnt : cnt ≤ 60) (hdp : 1 ≤ dp ∧ dp ≤ 8)
    (h : ∀ i : Int, ∃ (x : S25) (j : Int) (ok : Bool), Ev (fun k => spec_l2Get.f k B i (dp - 1)) (x.f0, x.f1, x.f2, x.f3, j, ok) ∧ (ok = true → SGot B i x j)) (d : Nat) :
    ∀ (ix : Nat) (pos : Int) (acc : List S25), ix + d = cnt → acc.length = ix → 0 ≤ pos → ∃ (l2 : List S25) (j : Int) (ok : Bool), Ev (fun k => spec_l2Get.l0 k B dp (cnt : Int) pos ix a b s acc) (a, b, s, l2, j, ok) ∧ (ok = true → ∃ M, l2 = acc ++ M ∧ M.length = d ∧ (∃ R, B.drop pos.toNat = encTL M ++ R) ∧ j = pos + (encTL M).length ∧ budIL M ≤ (encTL M).length) := by
  induction d with
  | zero =>
    intro ix pos acc hi ha hp
    refine ⟨acc, pos, true, Ev.step (f := fun _ => some (a, b, s, acc, pos, true)) (fun k => by simp only [spec_l2Get.l0]; rw [if_neg (by omega)]) (Ev.now _), fun _ => ⟨[], by simp, rfl, ⟨B.drop pos.toNat, by rw [encTL]; rfl⟩, by rw [encTL]; simp, by rw [budIL]; omega⟩⟩
  | succ d ih =>
    intro ix pos acc hi ha hp
    obtain ⟨x, j, ok, e, hg⟩ := h pos
    have st : ∀ r, Ev (fun k => if ok = true then (if acc.length < 2513169434916 then (spec_l2Get.l0 k B dp (cnt : Int) j ((ix + 1 : Nat) : Int) a b s (acc ++ [x])) else none) else (some (a, b, s, acc, 0, false))) r → Ev (fun k => spec_l2Get.l0 k B dp (cnt : Int) pos ix a b s acc) r := by
      intro r er
      refine Ev.step (f := fun k => (spec_l2Get.f k B pos (dp - 1)).bind fun bt400 => (if bt400.2.2.2.2.2 = true then (if acc.length < 2513169434916 then (spec_l2Get.l0 k B dp (cnt : Int) bt400.2.2.2.2.1 ((ix + 1 : Nat) : Int) a b s (acc ++ [(⟨bt400.1, bt400.2.1, bt400.2.2.1, bt400.2.2.2.1⟩ : S25)])) else (none)) else (some (a, b, s, acc, 0, false)))) (fun k => ?_) (Ev.bind e ?_)
      · simp only [spec_l2Get.l0]
        have e1 : (ix : Int) + 1 = ((ix + 1 : Nat) : Int) := by omega
        rw [if_pos (by omega), w64 (dp - 1) (by omega) (by omega), w64 ((ix : Int) + 1) (by omega) (by omega), e1]
      · have e2 : (⟨x.f0, x.f1, x.f2, x.f3⟩ : S25) = x := etaI _
        simp only [e2]
        exact er
    by_cases hok : ok = true
    · obtain ⟨g0, ⟨R, g1⟩, g2, g3⟩ := hg hok
      obtain ⟨l2, j2, ok2, e2, hg2⟩ := ih (ix + 1) j (acc ++ [x]) (by omega) (by rw [List.length_append, List.length_singleton, ha]) (by omega)
      refine ⟨l2, j2, ok2, st _ (ev_pos hok (ev_pos (by omega) e2)), fun hok2 => ?_⟩
      obtain ⟨M, m1, m2, ⟨R2, m3⟩, m4, m5⟩ := hg2 hok2
      have hj : j.toNat = pos.toNat + (encT x).length := by omega
      have hR : R = encTL M ++ R2 := by
        rw [hj, ← List.drop_drop, g1, List.drop_left] at m3
        exact m3
      refine ⟨x :: M, by rw [m1, List.append_assoc]; rfl, by rw [List.length_cons, m2], ⟨R2, by rw [g1, encTL, hR, List.append_assoc]⟩, ?_, ?_⟩
      · rw [encTL, List.length_append]; omega
      · rw [encTL, List.length_append, budIL]; omega
    · exact ⟨acc, 0, false, st _ (ev_neg hok (Ev.now _)), fun h => by cases h⟩
theorem sget_total (B : List Int) (hb : BytesB B) (hl : (B.length : Int) ≤ 1048576) : ∀ (n : Nat), n ≤ 8 → ∀ i : Int, ∃ (x : S25) (j : Int) (ok : Bool), Ev (fun k => spec_l2Get.f k B i (n : Int)) (x.f0, x.f1, x.f2, x.f3, j, ok) ∧ (ok = true → SGot B i x j) := by
  intro n
  induction n with
  | zero =>
    intro hn i
    have e0 := spec_GetNum_ev B hb hl i
    generalize getNumM B i = q at e0
    have e1 : Ev (fun k => spec_l2Get.j0 k B ((0 : Nat) : Int) q.1 q.2.1 true q.1 0 (⟨#[]⟩ : ByteArray)) (q.1, 0, (⟨#[]⟩ : ByteArray), [], 0, false) := Ev.step (f := fun _ => some (q.1, 0, (⟨#[]⟩ : ByteArray), [], 0, false)) (fun k => by simp only [spec_l2Get.j0]; rw [if_pos trivial]) (Ev.now _)
    refine ⟨⟨q.1, 0, ⟨#[]⟩, []⟩, 0, false, Ev.step (f := fun k => (spec_GetNum.f k B i).bind fun bt386 => (if bt386.2.2 = true then (spec_l2Get.j0 k B ((0 : Nat) : Int) bt386.1 bt386.2.1 true bt386.1 0 (⟨#[]⟩ : ByteArray)) else (spec_l2Get.j0 k B ((0 : Nat) : Int) bt386.1 bt386.2.1 true bt386.1 0 (⟨#[]⟩ : ByteArray)))) (fun k => ?_) (Ev.bind e0 ?_), fun h => by cases h⟩
    · simp only [spec_l2Get.f]
      have hdec : decide (((0 : Nat) : Int) < 1) = true := by decide
      rw [hdec]
    · by_cases hq : q.2.2 = true
      · exact ev_pos hq e1
      · exact ev_neg hq e1
  | succ n ih =>
    intro hn i
    have e0 := spec_GetNum_ev B hb hl i
    have hstrict := fun v j (h : getNumM B i = (v, j, true)) => getNum_strict B i v j hb h
    cases hg : getNumM B i with
    | mk v q =>
    obtain ⟨p, ok0⟩ := q
    rw [hg] at e0
    have hdec : decide (((n + 1 : Nat) : Int) < 1) = false := decide_eq_false (by omega)
    have top : ∀ r, Ev (fun k => if ok0 = true then (spec_l2Get.j0 k B ((n + 1 : Nat) : Int) v p false v 0 (⟨#[]⟩ : ByteArray)) else (spec_l2Get.j0 k B ((n + 1 : Nat) : Int) v p true v 0 (⟨#[]⟩ : ByteArray))) r → Ev (fun k => spec_l2Get.f k B i ((n + 1 : Nat) : Int)) r := by
      intro r er
      refine Ev.step (f := fun k => (spec_GetNum.f k B i).bind fun bt386 => (if bt386.2.2 = true then (spec_l2Get.j0 k B ((n + 1 : Nat) : Int) bt386.1 bt386.2.1 false bt386.1 0 (⟨#[]⟩ : ByteArray)) else (spec_l2Get.j0 k B ((n + 1 : Nat) : Int) bt386.1 bt386.2.1 true bt386.1 0 (⟨#[]⟩ : ByteArray)))) (fun k => ?_) (Ev.bind e0 er)
      simp only [spec_l2Get.f]
      rw [hdec]
    by_cases hok0 : ok0 = true
    · subst hok0
      obtain ⟨R, hi, hR, hp, hv0, hv1⟩ := hstrict v p hg
      have hpn : p.toNat = i.toNat + (putNumM v).length := by omega
      have hBp : B.drop p.toNat = R := by rw [hpn, ← List.drop_drop, hR, List.drop_left]
      have hpos := putNumM_pos v
      have j0 : ∀ r, (∀ q : Bool, (q = true ↔ (v = 1 ∨ v = 3)) → Ev (fun k => spec_l2Get.j1 k B ((n + 1 : Nat) : Int) p v q v 0 (⟨#[]⟩ : ByteArray)) r) → Ev (fun k => spec_l2Get.f k B i ((n + 1 : Nat) : Int)) r := by
        intro r hr
        refine top r (ev_pos rfl ?_)
        by_cases c1 : v = 1
        · refine Ev.step (f := fun k => spec_l2Get.j1 k B ((n + 1 : Nat) : Int) p v (v == 1) v 0 (⟨#[]⟩ : ByteArray)) (fun k => ?_) (hr _ (by rw [beq_iff_eq]; omega))
          simp only [spec_l2Get.j0]
          rw [if_neg (by decide), if_pos c1]
        · refine Ev.step (f := fun k => spec_l2Get.j1 k B ((n + 1 : Nat) : Int) p v (v == 3) v 0 (⟨#[]⟩ : ByteArray)) (fun k => ?_) (hr _ (by rw [beq_iff_eq]; omega))
          simp only [spec_l2Get.j0]
          rw [if_neg (by decide), if_neg c1]
      by_cases c1 : v = 1 ∨ v = 3
      · have e1 := spec_GetNum_ev B hb hl p
        have hs1 := fun w j (h : getNumM B p = (w, j, true)) => getNum_strict B p w j hb h
        cases hg1 : getNumM B p with
        | mk w q1 =>
        obtain ⟨p1, ok1⟩ := q1
        rw [hg1] at e1
        refine ⟨⟨v, w, ⟨#[]⟩, []⟩, p1, ok1, j0 _ (fun q hq => ?_), fun hok => ?_⟩
        · refine Ev.step (f := fun k => (spec_GetNum.f k B p).bind fun bt390 => (some (v, bt390.1, (⟨#[]⟩ : ByteArray), ([] : List S25), bt390.2.1, bt390.2.2))) (fun k => ?_) (Ev.bind e1 (Ev.now _))
          simp only [spec_l2Get.j1]; rw [if_pos (hq.2 c1)]
        · subst hok
          obtain ⟨R1, _, hR1, hp1, _, _⟩ := hs1 w p1 hg1
          rw [hBp] at hR1
          have hw := putNumM_pos w
          refine ⟨hi, ⟨R1, ?_⟩, ?_, ?_⟩
          · rw [hR, hR1, encT, if_pos c1, List.append_assoc]
          · rw [encT, if_pos c1, List.length_append]; omega
          · rw [encT, if_pos c1, List.length_append, budI_mk, budIL]
            show 0 + 0 + 1 ≤ _
            omega
      · by_cases c2 : v = 2
        · have e1 := spec_GetText_ev B hb hl p
          have hs1 := fun w j (h : getTextM B p = (w, j, true)) => getText_strict B p w j hb h
          cases hg1 : getTextM B p with
          | mk w q1 =>
          obtain ⟨p1, ok1⟩ := q1
          rw [hg1] at e1
          refine ⟨⟨v, 0, w, []⟩, p1, ok1, j0 _ (fun q hq => ?_), fun hok => ?_⟩
          · have hq2 : ¬ q = true := fun e => c1 (hq.1 e)
            refine Ev.step (f := fun k => (spec_GetText.f k B p).bind fun bt393 => (some (v, 0, bt393.1, ([] : List S25), bt393.2.1, bt393.2.2))) (fun k => ?_) (Ev.bind e1 (Ev.now _))
            simp only [spec_l2Get.j1]; rw [if_neg hq2, if_pos c2]
          · subst hok
            obtain ⟨R1, _, hR1, hp1⟩ := hs1 w p1 hg1
            rw [hBp] at hR1
            have hw := putNumM_pos (w.size : Int)
            have hwl : (putTextM w).length = (putNumM (w.size : Int)).length + w.size := by unfold putTextM; rw [List.length_append, bytesOf_length]
            refine ⟨hi, ⟨R1, ?_⟩, ?_, ?_⟩
            · rw [hR, hR1, encT, if_neg c1, if_pos c2, List.append_assoc]
            · rw [encT, if_neg c1, if_pos c2, List.length_append]; omega
            · rw [encT, if_neg c1, if_pos c2, List.length_append, budI_mk, budIL]
              omega
        · have e1 := spec_GetNum_ev B hb hl p
          have hs1 := fun w j (h : getNumM B p = (w, j, true)) => getNum_strict B p w j hb h
          cases hg1 : getNumM B p with
          | mk w q1 =>
          obtain ⟨p1, ok1⟩ := q1
          rw [hg1] at e1
          have j1 : ∀ (q : Bool), (q = true ↔ (v = 1 ∨ v = 3)) → ∀ r, Ev (fun k => if ok1 = true then ((spec_l1In.f w 0 60).bind fun t399 => (spec_l2Get.j2 k B ((n + 1 : Nat) : Int) w p1 (!t399) v 0 (⟨#[]⟩ : ByteArray))) else (spec_l2Get.j2 k B ((n + 1 : Nat) : Int) w p1 true v 0 (⟨#[]⟩ : ByteArray))) r → Ev (fun k => spec_l2Get.j1 k B ((n + 1 : Nat) : Int) p v q v 0 (⟨#[]⟩ : ByteArray)) r := by
            intro q hq r er
            have hq2 : ¬ q = true := fun e => c1 (hq.1 e)
            refine Ev.step (f := fun k => (spec_GetNum.f k B p).bind fun bt396 => (if bt396.2.2 = true then ((spec_l1In.f bt396.1 0 60).bind fun t399 => (spec_l2Get.j2 k B ((n + 1 : Nat) : Int) bt396.1 bt396.2.1 (!t399) v 0 (⟨#[]⟩ : ByteArray))) else (spec_l2Get.j2 k B ((n + 1 : Nat) : Int) bt396.1 bt396.2.1 true v 0 (⟨#[]⟩ : ByteArray)))) (fun k => ?_) (Ev.bind e1 er)
            simp only [spec_l2Get.j1]; rw [if_neg hq2, if_neg c2]
          have bad : Ev (fun k => spec_l2Get.j2 k B ((n + 1 : Nat) : Int) w p1 true v 0 (⟨#[]⟩ : ByteArray)) (v, 0, (⟨#[]⟩ : ByteArray), [], 0, false) := Ev.step (f := fun _ => some (v, 0, (⟨#[]⟩ : ByteArray), [], 0, false)) (fun k => by simp only [spec_l2Get.j2]; rw [if_pos trivial]) (Ev.now _)
          have no : ∃ (x : S25) (j : Int) (ok : Bool), (∀ r, r = (v, (0 : Int), (⟨#[]⟩ : ByteArray), ([] : List S25), (0 : Int), false) → (x.f0, x.f1, x.f2, x.f3, j, ok) = r) ∧ ok = false := ⟨⟨v, 0, ⟨#[]⟩, []⟩, 0, false, fun r h => h.symm, rfl⟩
          by_cases hok1 : ok1 = true
          · subst hok1
            obtain ⟨R1, _, hR1, hp1, _, _⟩ := hs1 w p1 hg1
            rw [hBp] at hR1
            by_cases hin : 0 ≤ w ∧ w ≤ 60
            · have hine : spec_l1In.f w 0 60 = some true := by rw [spec_l1In_eq]; simp; omega
              obtain ⟨c, rfl⟩ : ∃ c : Nat, w = (c : Int) := ⟨w.toNat, by omega⟩
              have hsub : ((n + 1 : Nat) : Int) - 1 = (n : Int) := by omega
              obtain ⟨l2, j, ok, el, hl2⟩ := sloop_total B ((n + 1 : Nat) : Int) v 0 ⟨#[]⟩ c (by omega) ⟨by omega, by omega⟩ (fun i2 => by rw [hsub]; exact ih (by omega) i2) c 0 p1 [] (by omega) rfl (by omega)
              refine ⟨⟨v, 0, ⟨#[]⟩, l2⟩, j, ok, j0 _ (fun q hq => j1 q hq _ (ev_pos rfl (Ev.bind (ev_of hine) ?_))), fun hok => ?_⟩
              · refine Ev.step (fun k => ?_) el
                simp only [spec_l2Get.j2]
                rw [if_neg (by decide)]
                rfl
              · obtain ⟨M, m1, m2, ⟨R2, m3⟩, m4, m5⟩ := hl2 hok
                rw [List.nil_append] at m1
                subst m1
                have hp1n : p1.toNat = p.toNat + (putNumM (c : Int)).length := by omega
                have hR1' : R1 = encTL l2 ++ R2 := by
                  rw [hp1n, ← List.drop_drop, hBp, hR1, List.drop_left] at m3
                  exact m3
                have hw := putNumM_pos (c : Int)
                refine ⟨hi, ⟨R2, ?_⟩, ?_, ?_⟩
                · rw [hR, hR1, encT, if_neg c1, if_neg c2, m2, hR1']
                  simp
                · rw [encT, if_neg c1, if_neg c2, m2, List.length_append, List.length_append]; omega
                · rw [encT, if_neg c1, if_neg c2, m2, List.length_append, List.length_append, budI_mk]
                  show 0 + budIL l2 + 1 ≤ _
                  omega
            · have hine : spec_l1In.f w 0 60 = some false := by
                rw [spec_l1In_eq]
                have : (decide (0 ≤ w) && decide (w ≤ 60)) = false := by
                  rw [← dec_and]
                  exact decide_eq_false hin
                rw [this]
              exact ⟨⟨v, 0, ⟨#[]⟩, []⟩, 0, false, j0 _ (fun q hq => j1 q hq _ (ev_pos rfl (Ev.bind (ev_of hine) bad))), fun h => by cases h⟩
          · exact ⟨⟨v, 0, ⟨#[]⟩, []⟩, 0, false, j0 _ (fun q hq => j1 q hq _ (ev_neg hok1 bad)), fun h => by cases h⟩
    · refine ⟨⟨v, 0, ⟨#[]⟩, []⟩, 0, false, top _ (ev_neg hok0 (Ev.step (f := fun _ => some (v, 0, (⟨#[]⟩ : ByteArray), [], 0, false)) (fun k => by simp only [spec_l2Get.j0]; rw [if_pos trivial]) (Ev.now _))), fun h => by cases h⟩
theorem getter_loop (B post : List Int) (hb : BytesB B) (hl : (B.length : Int) ≤ 1048576) (dp a b : Int) (s : ByteArray) (hdp : 1 ≤ dp ∧ dp ≤ 8) (l : List S25) (hll : l.length ≤ 60)
    (h : ∀ y ∈ l, ∀ P R : List Int, B = P ++ encT y ++ R → Ev (fun k => impl_getter_term.f k B (P.length : Int) false (dp + 1)) (y.f0, y.f1, y.f2, y.f3, ((P ++ encT y).length : Int), false)) (d : Nat) :
    ∀ (i : Nat) (P : List Int), i + d = l.length → B = P ++ encTL (l.drop i) ++ post → Ev (fun k => impl_getter_term.l0 k dp (l.length : Int) i B (P.length : Int) false a b s (l.take i)) (a, b, s, l, ((P ++ encTL (l.drop i)).length : Int), false) := by
  induction d with
  | zero =>
    intro i P hi hB
    refine Ev.step (f := fun _ => some (a, b, s, l, (P.length : Int), false)) (fun k => ?_) (ev_cast ?_ (Ev.now _))
    · simp only [impl_getter_term.l0]; rw [if_neg (by omega), List.take_of_length_le (by omega)]
    · rw [List.drop_eq_nil_of_le (by omega), encTL, List.append_nil]
  | succ d ih =>
    intro i P hi hB
    have hlt : i < l.length := by omega
    have hB2 : B = P ++ encT l[i] ++ (encTL (l.drop (i + 1)) ++ post) := by rw [hB, encTL_drop l i hlt]; simp
    have hB3 : B = (P ++ encT l[i]) ++ encTL (l.drop (i + 1)) ++ post := by rw [hB2]; simp
    refine Ev.step (f := fun k => (impl_getter_term.f k B (P.length : Int) false (wrap64 (dp + 1))).bind fun bt360 => (if (l.take i).length < 2513169434916 then (impl_getter_term.l0 k dp (l.length : Int) (wrap64 ((i : Int) + 1)) B bt360.2.2.2.2.1 bt360.2.2.2.2.2 a b s (l.take i ++ [(⟨bt360.1, bt360.2.1, bt360.2.2.1, bt360.2.2.2.1⟩ : S25)])) else (none))) (fun k => ?_) ?_
    · simp only [impl_getter_term.l0]
      rw [if_pos (by omega), if_neg (by decide)]
    · rw [w64 (dp + 1) (by omega) (by omega), w64 ((i : Int) + 1) (by omega) (by omega)]
      refine Ev.bind (h l[i] (List.getElem_mem hlt) P _ hB2) (ev_pos (by rw [List.length_take]; omega) ?_)
      have q := ih (i + 1) (P ++ encT l[i]) (by omega) hB3
      rw [encTL_drop l i hlt, ← List.append_assoc]
      refine Ev.congr (fun k => ?_) q
      have e1 : (i : Int) + 1 = ((i + 1 : Nat) : Int) := by omega
      have e2 : (⟨l[i].f0, l[i].f1, l[i].f2, l[i].f3⟩ : S25) = l[i] := etaI _
      rw [List.take_succ_eq_append_getElem hlt, e1, ← e2]
theorem getter_all : ∀ x, ∀ (n : Nat) (dp : Int), goodM x n = true → dp + n = 9 → 1 ≤ dp → ∀ B P R : List Int, BytesB B → (B.length : Int) ≤ 1048576 → B = P ++ encT x ++ R →
    Ev (fun k => impl_getter_term.f k B (P.length : Int) false dp) (x.f0, x.f1, x.f2, x.f3, ((P ++ encT x).length : Int), false) := by
  refine indI (fun a b s l ih n dp hg hdp hd1 B P R hb hl hB => ?_)
  obtain ⟨m, rfl, hs, hgl⟩ := good_mk hg
  show Ev (fun k => impl_getter_term.f k B (P.length : Int) false dp) (a, b, s, l, ((P ++ encT ⟨a, b, s, l⟩).length : Int), false)
  rw [encT] at hB ⊢
  have har : -1000000000000 ≤ a ∧ a ≤ 1000000000000 := by rcases shape_cases hs with h | h | h | h <;> omega
  generalize hrest : (if a = 1 ∨ a = 3 then putNumM b else if a = 2 then putTextM s else putNumM (l.length : Int) ++ encTL l) = rest at hB ⊢
  have hB1 : B = P ++ putNumM a ++ (rest ++ R) := by rw [hB]; simp
  have e0 := getter_num_put P a (rest ++ R) har (hB1 ▸ hb) (hB1 ▸ hl)
  rw [← hB1] at e0
  have hB2 : B = (P ++ putNumM a) ++ rest ++ R := by rw [hB]; simp
  have key : ∀ q : Bool, (q = true ↔ (a = 1 ∨ a = 3)) → Ev (fun k => impl_getter_term.j0 k dp a q B ((P ++ putNumM a).length : Int) false a 0 (⟨#[]⟩ : ByteArray)) (a, b, s, l, ((P ++ putNumM a ++ rest).length : Int), false) := by
    intro q hq
    by_cases c1 : a = 1 ∨ a = 3
    · rw [if_pos c1] at hrest
      subst hrest
      have hx : s = ⟨#[]⟩ ∧ l = [] ∧ -1000000000000 ≤ b ∧ b ≤ 1000000000000 := by
        rcases shape_cases hs with h | h | h | h
        · exact ⟨h.2.2.2.1, h.2.2.2.2, by omega, by omega⟩
        · omega
        · exact ⟨h.2.2.2.1, h.2.2.2.2, by omega, by omega⟩
        · omega
      obtain ⟨rfl, rfl, hb1⟩ := hx
      have e1 := getter_num_put (P ++ putNumM a) b R hb1 (hB2 ▸ hb) (hB2 ▸ hl)
      rw [← hB2] at e1
      refine Ev.step (f := fun k => (impl_getter_num.f k B ((P ++ putNumM a).length : Int) false).bind fun bt351 => (some (a, bt351.1, (⟨#[]⟩ : ByteArray), ([] : List S25), bt351.2.1, bt351.2.2))) (fun k => ?_) (Ev.bind e1 (Ev.now _))
      simp only [impl_getter_term.j0]; rw [if_pos (hq.2 c1)]
    · have hq2 : ¬ q = true := fun e => c1 (hq.1 e)
      rw [if_neg c1] at hrest
      by_cases c2 : a = 2
      · rw [if_pos c2] at hrest
        subst hrest
        have hx : b = 0 ∧ atomOkM s = true ∧ l = [] := by
          rcases shape_cases hs with h | h | h | h
          · omega
          · exact ⟨h.2.1, h.2.2.1, h.2.2.2⟩
          · omega
          · omega
        obtain ⟨rfl, ha, rfl⟩ := hx
        have hsz := atom_size ha
        have e1 := getter_text_put (P ++ putNumM a) s R (by omega) (hB2 ▸ hb) (hB2 ▸ hl)
        rw [← hB2] at e1
        refine Ev.step (f := fun k => (impl_getter_text.f k B ((P ++ putNumM a).length : Int) false).bind fun bt354 => (some (a, 0, bt354.1, ([] : List S25), bt354.2.1, bt354.2.2))) (fun k => ?_) (Ev.bind e1 (Ev.now _))
        simp only [impl_getter_term.j0]; rw [if_neg hq2, if_pos c2]
      · rw [if_neg c2] at hrest
        subst hrest
        have hx : b = 0 ∧ s = ⟨#[]⟩ ∧ l.length ≤ 60 := by
          rcases shape_cases hs with h | h | h | h
          · omega
          · omega
          · omega
          · exact h.2
        obtain ⟨rfl, rfl, hll⟩ := hx
        have hB3 : B = (P ++ putNumM a) ++ putNumM (l.length : Int) ++ (encTL l ++ R) := by rw [hB2]; simp
        have hB4 : B = ((P ++ putNumM a) ++ putNumM (l.length : Int)) ++ encTL (l.drop 0) ++ R := by rw [hB2, List.drop_zero]; simp
        have e1 := getter_count_put (P ++ putNumM a) l.length (encTL l ++ R) hll (hB3 ▸ hb) (hB3 ▸ hl)
        rw [← hB3] at e1
        have e2 := getter_loop B R hb hl dp a 0 ⟨#[]⟩ ⟨hd1, by omega⟩ l hll (fun y hy P2 R2 h2 => ih y hy m (dp + 1) (goodL_mem l m hgl y hy) (by omega) (by omega) B P2 R2 hb hl h2) l.length 0 ((P ++ putNumM a) ++ putNumM (l.length : Int)) (by omega) hB4
        rw [List.drop_zero, List.append_assoc (P ++ putNumM a)] at e2
        refine Ev.step (f := fun k => impl_getter_term.j1 k dp B ((P ++ putNumM a).length : Int) false a 0 (⟨#[]⟩ : ByteArray)) (fun k => ?_) (Ev.step (f := fun k => (impl_getter_count.f k B ((P ++ putNumM a).length : Int) false 60).bind fun bt357 => (impl_getter_term.l0 k dp bt357.1 0 B bt357.2.1 bt357.2.2 a 0 (⟨#[]⟩ : ByteArray) ([] : List S25))) (fun k => ?_) (Ev.bind e1 e2))
        · simp only [impl_getter_term.j0]; rw [if_neg hq2, if_neg c2, if_neg (by omega)]
        · simp only [impl_getter_term.j1]
  refine Ev.step (f := fun k => (impl_getter_num.f k B (P.length : Int) false).bind fun bt347 => (if bt347.1 = 1 then (impl_getter_term.j0 k dp bt347.1 (bt347.1 == 1) B bt347.2.1 bt347.2.2 bt347.1 0 (⟨#[]⟩ : ByteArray)) else (impl_getter_term.j0 k dp bt347.1 (bt347.1 == 3) B bt347.2.1 bt347.2.2 bt347.1 0 (⟨#[]⟩ : ByteArray)))) (fun k => ?_) (Ev.bind e0 ?_)
  · simp only [impl_getter_term.f]
  · rw [← List.append_assoc]
    by_cases c1 : a = 1
    · refine ev_pos c1 (key _ ?_)
      rw [beq_iff_eq]; omega
    · refine ev_neg c1 (key _ ?_)
      rw [beq_iff_eq]; omega
theorem inum_ev (B : List Int) (hb : BytesB B) (hl : (B.length : Int) ≤ 1048576) (i : Int) : Ev (fun k => impl_getter_num.f k B i false) (if (getNumM B i).2.2 = true then ((getNumM B i).1, (getNumM B i).2.1, false) else (0, i, true)) := by
  have e := impl_GetNum_ev B hb hl i
  unfold impl_getter_num.f
  refine Ev.bind e (ev_neg (by decide) ?_)
  by_cases h : (getNumM B i).2.2 = true
  · exact ev_cast (if_pos h).symm (ev_pos h (Ev.now _))
  · exact ev_cast (if_neg h).symm (ev_neg h (Ev.now _))
theorem ibad_j1 (B : List Int) (hb : BytesB B) (hl : (B.length : Int) ≤ 1048576) (dp v i : Int) : Ev (fun k => impl_getter_term.j1 k dp B i true v 0 (⟨#[]⟩ : ByteArray)) (v, 0, (⟨#[]⟩ : ByteArray), [], i, true) := by
  have e := impl_GetNum_ev B hb hl i
  have en : Ev (fun k => impl_getter_num.f k B i true) (0, i, true) := by
    unfold impl_getter_num.f
    exact Ev.bind e (ev_pos rfl (Ev.now _))
  have ec : Ev (fun k => impl_getter_count.f k B i true 60) (0, i, true) := by
    unfold impl_getter_count.f
    exact Ev.bind en (Ev.bind (ev_of (impl_inRange_eq _ _ _)) (ev_pos rfl (Ev.now _)))
  refine Ev.step (f := fun k => (impl_getter_count.f k B i true 60).bind fun bt312 => (impl_getter_term.l0 k dp bt312.1 0 B bt312.2.1 bt312.2.2 v 0 (⟨#[]⟩ : ByteArray) ([] : List S25))) (fun k => by simp only [impl_getter_term.j1]) (Ev.bind ec ?_)
  refine Ev.step (f := fun _ => some (v, 0, (⟨#[]⟩ : ByteArray), [], i, true)) (fun k => ?_) (Ev.now _)
  simp only [impl_getter_term.l0]
  rw [if_neg (by omega)]
theorem iloop_total (B : List Int) (dp a b : Int) (s : ByteArray) (cnt : Nat) (hcnt : cnt ≤ 60) (hdp : 1 ≤ dp ∧ dp ≤ 8)
    (h : ∀ i : Int, ∃ (x : S25) (j : Int) (bad : Bool), Ev (fun k => impl_getter_term.f k B i false (dp + 1)) (x.f0, x.f1, x.f2, x.f3, j, bad) ∧ (bad = false → SGot B i x j)) (d : Nat) :
    ∀ (ix : Nat) (pos : Int) (acc : List S25), ix + d = cnt → acc.length = ix → 0 ≤ pos → ∃ (l2 : List S25) (j : Int) (bad : Bool), Ev (fun k => impl_getter_term.l0 k dp (cnt : Int) ix B pos false a b s acc) (a, b, s, l2, j, bad) ∧ (bad = false → ∃ M, l2 = acc ++ M ∧ M.length = d ∧ (∃ R, B.drop pos.toNat = encTL M ++ R) ∧ j = pos + (encTL M).length ∧ budIL M ≤ (encTL M).length) := by
  induction d with
  | zero =>
    intro ix pos acc hi ha hp
    refine ⟨acc, pos, false, Ev.step (f := fun _ => some (a, b, s, acc, pos, false)) (fun k => by simp only [impl_getter_term.l0]; rw [if_neg (by omega)]) (Ev.now _), fun _ => ⟨[], by simp, rfl, ⟨B.drop pos.toNat, by rw [encTL]; rfl⟩, by rw [encTL]; simp, by rw [budIL]; omega⟩⟩
  | succ d ih =>
    intro ix pos acc hi ha hp
    obtain ⟨x, j, bad, e, hg⟩ := h pos
    have st : ∀ r, Ev (fun k => impl_getter_term.l0 k dp (cnt : Int) ((ix + 1 : Nat) : Int) B j bad a b s (acc ++ [x])) r → Ev (fun k => impl_getter_term.l0 k dp (cnt : Int) ix B pos false a b s acc) r := by
      intro r er
      refine Ev.step (f := fun k => (impl_getter_term.f k B pos false (dp + 1)).bind fun bt315 => (if acc.length < 2513169434916 then (impl_getter_term.l0 k dp (cnt : Int) ((ix + 1 : Nat) : Int) B bt315.2.2.2.2.1 bt315.2.2.2.2.2 a b s (acc ++ [(⟨bt315.1, bt315.2.1, bt315.2.2.1, bt315.2.2.2.1⟩ : S25)])) else (none))) (fun k => ?_) (Ev.bind e (ev_pos (by omega) ?_))
      · simp only [impl_getter_term.l0]
        have e1 : (ix : Int) + 1 = ((ix + 1 : Nat) : Int) := by omega
        rw [if_pos (by omega), if_neg (by decide), w64 (dp + 1) (by omega) (by omega), w64 ((ix : Int) + 1) (by omega) (by omega), e1]
      · have e2 : (⟨x.f0, x.f1, x.f2, x.f3⟩ : S25) = x := etaI _
        simp only [e2]
        exact er
    by_cases hbad : bad = false
    · subst hbad
      obtain ⟨g0, ⟨R, g1⟩, g2, g3⟩ := hg rfl
      obtain ⟨l2, j2, bad2, e2, hg2⟩ := ih (ix + 1) j (acc ++ [x]) (by omega) (by rw [List.length_append, List.length_singleton, ha]) (by omega)
      refine ⟨l2, j2, bad2, st _ e2, fun hok2 => ?_⟩
      obtain ⟨M, m1, m2, ⟨R2, m3⟩, m4, m5⟩ := hg2 hok2
      have hj : j.toNat = pos.toNat + (encT x).length := by omega
      have hR : R = encTL M ++ R2 := by
        rw [hj, ← List.drop_drop, g1, List.drop_left] at m3
        exact m3
      refine ⟨x :: M, by rw [m1, List.append_assoc]; rfl, by rw [List.length_cons, m2], ⟨R2, by rw [g1, encTL, hR, List.append_assoc]⟩, ?_, ?_⟩
      · rw [encTL, List.length_append]; omega
      · rw [encTL, List.length_append, budIL]; omega
    · have hb1 : bad = true := by simpa using hbad
      subst hb1
      refine ⟨acc ++ [x], j, true, st _ (Ev.step (f := fun _ => some (a, b, s, acc ++ [x], j, true)) (fun k => ?_) (Ev.now _)), fun h => by cases h⟩
      simp only [impl_getter_term.l0]
      by_cases hx : ((ix + 1 : Nat) : Int) < (cnt : Int)
      · rw [if_pos hx, if_pos trivial]
      · rw [if_neg hx]
theorem itext_ev (B : List Int) (hb : BytesB B) (hl : (B.length : Int) ≤ 1048576) (i : Int) : Ev (fun k => impl_getter_text.f k B i false) (if (getTextM B i).2.2 = true then ((getTextM B i).1, (getTextM B i).2.1, false) else ((⟨#[]⟩ : ByteArray), i, true)) := by
  have e := impl_GetText_ev B hb hl i
  unfold impl_getter_text.f
  refine Ev.bind e (ev_neg (by decide) ?_)
  by_cases h : (getTextM B i).2.2 = true
  · exact ev_cast (if_pos h).symm (ev_pos h (Ev.now _))
  · exact ev_cast (if_neg h).symm (ev_neg h (Ev.now _))
theorem iget_step (B : List Int) (hb : BytesB B) (hl : (B.length : Int) ≤ 1048576) (dp : Int) (hd1 : 1 ≤ dp) (hd9 : dp ≤ 9)
    (ih : dp ≤ 8 → ∀ i : Int, ∃ (x : S25) (j : Int) (bad : Bool), Ev (fun k => impl_getter_term.f k B i false (dp + 1)) (x.f0, x.f1, x.f2, x.f3, j, bad) ∧ (bad = false → SGot B i x j)) (i : Int) :
    ∃ (x : S25) (j : Int) (bad : Bool), Ev (fun k => impl_getter_term.f k B i false dp) (x.f0, x.f1, x.f2, x.f3, j, bad) ∧ (bad = false → SGot B i x j) := by
  have e0 := inum_ev B hb hl i
  have top : ∀ (v p : Int) (bad : Bool) r, Ev (fun k => impl_getter_num.f k B i false) (v, p, bad) → (∀ q : Bool, (q = true ↔ (v = 1 ∨ v = 3)) → Ev (fun k => impl_getter_term.j0 k dp v q B p bad v 0 (⟨#[]⟩ : ByteArray)) r) → Ev (fun k => impl_getter_term.f k B i false dp) r := by
    intro v p bad r e hr
    refine Ev.step (f := fun k => (impl_getter_num.f k B i false).bind fun bt302 => (if bt302.1 = 1 then (impl_getter_term.j0 k dp bt302.1 (bt302.1 == 1) B bt302.2.1 bt302.2.2 bt302.1 0 (⟨#[]⟩ : ByteArray)) else (impl_getter_term.j0 k dp bt302.1 (bt302.1 == 3) B bt302.2.1 bt302.2.2 bt302.1 0 (⟨#[]⟩ : ByteArray)))) (fun k => by simp only [impl_getter_term.f]) (Ev.bind e ?_)
    by_cases c1 : v = 1
    · exact ev_pos c1 (hr _ (by rw [beq_iff_eq]; omega))
    · exact ev_neg c1 (hr _ (by rw [beq_iff_eq]; omega))
  cases hg : getNumM B i with
  | mk v q =>
  obtain ⟨p, ok0⟩ := q
  rw [hg] at e0
  by_cases hok0 : ok0 = true
  · subst hok0
    replace e0 := ev_cast (if_pos rfl) e0
    obtain ⟨R, hi, hR, hp, hv0, hv1⟩ := getNum_strict B i v p hb hg
    have hpn : p.toNat = i.toNat + (putNumM v).length := by omega
    have hBp : B.drop p.toNat = R := by rw [hpn, ← List.drop_drop, hR, List.drop_left]
    have hpos := putNumM_pos v
    by_cases c1 : v = 1 ∨ v = 3
    · have e1 := inum_ev B hb hl p
      cases hg1 : getNumM B p with
      | mk w q1 =>
      obtain ⟨p1, ok1⟩ := q1
      rw [hg1] at e1
      have go : ∀ (w' p' : Int) (bad' : Bool), Ev (fun k => impl_getter_num.f k B p false) (w', p', bad') → Ev (fun k => impl_getter_term.f k B i false dp) (v, w', (⟨#[]⟩ : ByteArray), [], p', bad') := by
        intro w' p' bad' e
        refine top v p false _ e0 (fun q hq => ?_)
        refine Ev.step (f := fun k => (impl_getter_num.f k B p false).bind fun bt306 => (some (v, bt306.1, (⟨#[]⟩ : ByteArray), ([] : List S25), bt306.2.1, bt306.2.2))) (fun k => ?_) (Ev.bind e (Ev.now _))
        simp only [impl_getter_term.j0]; rw [if_pos (hq.2 c1)]
      by_cases hok1 : ok1 = true
      · subst hok1
        replace e1 := ev_cast (if_pos rfl) e1
        refine ⟨⟨v, w, ⟨#[]⟩, []⟩, p1, false, go w p1 false e1, fun _ => ?_⟩
        obtain ⟨R1, _, hR1, hp1, _, _⟩ := getNum_strict B p w p1 hb hg1
        rw [hBp] at hR1
        have hw := putNumM_pos w
        refine ⟨hi, ⟨R1, ?_⟩, ?_, ?_⟩
        · rw [hR, hR1, encT, if_pos c1, List.append_assoc]
        · rw [encT, if_pos c1, List.length_append]; omega
        · rw [encT, if_pos c1, List.length_append, budI_mk, budIL]
          show 0 + 0 + 1 ≤ _
          omega
      · replace e1 := ev_cast (if_neg hok1) e1
        exact ⟨⟨v, 0, ⟨#[]⟩, []⟩, p, true, go 0 p true e1, fun h => by cases h⟩
    · by_cases c2 : v = 2
      · have e1 := itext_ev B hb hl p
        cases hg1 : getTextM B p with
        | mk w q1 =>
        obtain ⟨p1, ok1⟩ := q1
        rw [hg1] at e1
        have go : ∀ (w' : ByteArray) (p' : Int) (bad' : Bool), Ev (fun k => impl_getter_text.f k B p false) (w', p', bad') → Ev (fun k => impl_getter_term.f k B i false dp) (v, 0, w', [], p', bad') := by
          intro w' p' bad' e
          refine top v p false _ e0 (fun q hq => ?_)
          have hq2 : ¬ q = true := fun e => c1 (hq.1 e)
          refine Ev.step (f := fun k => (impl_getter_text.f k B p false).bind fun bt309 => (some (v, 0, bt309.1, ([] : List S25), bt309.2.1, bt309.2.2))) (fun k => ?_) (Ev.bind e (Ev.now _))
          simp only [impl_getter_term.j0]; rw [if_neg hq2, if_pos c2]
        by_cases hok1 : ok1 = true
        · subst hok1
          replace e1 := ev_cast (if_pos rfl) e1
          refine ⟨⟨v, 0, w, []⟩, p1, false, go w p1 false e1, fun _ => ?_⟩
          obtain ⟨R1, _, hR1, hp1⟩ := getText_strict B p w p1 hb hg1
          rw [hBp] at hR1
          have hw := putNumM_pos (w.size : Int)
          have hwl : (putTextM w).length = (putNumM (w.size : Int)).length + w.size := by unfold putTextM; rw [List.length_append, bytesOf_length]
          refine ⟨hi, ⟨R1, ?_⟩, ?_, ?_⟩
          · rw [hR, hR1, encT, if_neg c1, if_pos c2, List.append_assoc]
          · rw [encT, if_neg c1, if_pos c2, List.length_append]; omega
          · rw [encT, if_neg c1, if_pos c2, List.length_append, budI_mk, budIL]
            omega
        · replace e1 := ev_cast (if_neg hok1) e1
          exact ⟨⟨v, 0, ⟨#[]⟩, []⟩, p, true, go ⟨#[]⟩ p true e1, fun h => by cases h⟩
      · have lst : ∀ r, Ev (fun k => impl_getter_term.j1 k dp B p (decide (dp > 8)) v 0 (⟨#[]⟩ : ByteArray)) r → Ev (fun k => impl_getter_term.f k B i false dp) r := by
          intro r er
          refine top v p false _ e0 (fun q hq => ?_)
          have hq2 : ¬ q = true := fun e => c1 (hq.1 e)
          refine Ev.step (fun k => ?_) er
          simp only [impl_getter_term.j0]
          rw [if_neg hq2, if_neg c2]
          by_cases h8 : dp > 8
          · rw [if_pos h8, decide_eq_true h8]
          · rw [if_neg h8, decide_eq_false h8]
        by_cases h8 : dp > 8
        · rw [decide_eq_true h8] at lst
          exact ⟨⟨v, 0, ⟨#[]⟩, []⟩, p, true, lst _ (ibad_j1 B hb hl dp v p), fun h => by cases h⟩
        · rw [decide_eq_false h8] at lst
          have e1 := inum_ev B hb hl p
          cases hg1 : getNumM B p with
          | mk w q1 =>
          obtain ⟨p1, ok1⟩ := q1
          rw [hg1] at e1
          have j1 : ∀ (c p' : Int) (bad' : Bool) r, Ev (fun k => impl_getter_count.f k B p false 60) (c, p', bad') → Ev (fun k => impl_getter_term.l0 k dp c 0 B p' bad' v 0 (⟨#[]⟩ : ByteArray) ([] : List S25)) r → Ev (fun k => impl_getter_term.f k B i false dp) r := by
            intro c p' bad' r ec er
            refine lst r (Ev.step (f := fun k => (impl_getter_count.f k B p false 60).bind fun bt312 => (impl_getter_term.l0 k dp bt312.1 0 B bt312.2.1 bt312.2.2 v 0 (⟨#[]⟩ : ByteArray) ([] : List S25))) (fun k => by simp only [impl_getter_term.j1]) (Ev.bind ec er))
          have empty : ∀ (p' : Int), Ev (fun k => impl_getter_term.l0 k dp 0 0 B p' true v 0 (⟨#[]⟩ : ByteArray) ([] : List S25)) (v, 0, (⟨#[]⟩ : ByteArray), [], p', true) := fun p' => Ev.step (f := fun _ => some (v, 0, (⟨#[]⟩ : ByteArray), [], p', true)) (fun k => by simp only [impl_getter_term.l0]; rw [if_neg (by omega)]) (Ev.now _)
          by_cases hok1 : ok1 = true
          · subst hok1
            replace e1 := ev_cast (if_pos rfl) e1
            by_cases hin : 0 ≤ w ∧ w ≤ 60
            · obtain ⟨c, rfl⟩ : ∃ c : Nat, w = (c : Int) := ⟨w.toNat, by omega⟩
              have ec : Ev (fun k => impl_getter_count.f k B p false 60) ((c : Int), p1, false) := by
                unfold impl_getter_count.f
                exact Ev.bind e1 (Ev.bind (ev_of (impl_inRange_eq _ _ _)) (ev_pos (by simp; omega) (Ev.now _)))
              obtain ⟨R1, _, hR1, hp1, _, _⟩ := getNum_strict B p (c : Int) p1 hb hg1
              rw [hBp] at hR1
              obtain ⟨l2, j, bad, el, hl2⟩ := iloop_total B dp v 0 ⟨#[]⟩ c (by omega) ⟨hd1, by omega⟩ (ih (by omega)) c 0 p1 [] (by omega) rfl (by omega)
              refine ⟨⟨v, 0, ⟨#[]⟩, l2⟩, j, bad, j1 _ _ _ _ ec el, fun hok => ?_⟩
              obtain ⟨M, m1, m2, ⟨R2, m3⟩, m4, m5⟩ := hl2 hok
              rw [List.nil_append] at m1
              subst m1
              have hp1n : p1.toNat = p.toNat + (putNumM (c : Int)).length := by omega
              have hR1' : R1 = encTL l2 ++ R2 := by
                rw [hp1n, ← List.drop_drop, hBp, hR1, List.drop_left] at m3
                exact m3
              have hw := putNumM_pos (c : Int)
              refine ⟨hi, ⟨R2, ?_⟩, ?_, ?_⟩
              · rw [hR, hR1, encT, if_neg c1, if_neg c2, m2, hR1']
                simp
              · rw [encT, if_neg c1, if_neg c2, m2, List.length_append, List.length_append]; omega
              · rw [encT, if_neg c1, if_neg c2, m2, List.length_append, List.length_append, budI_mk]
                show 0 + budIL l2 + 1 ≤ _
                omega
            · have ec : Ev (fun k => impl_getter_count.f k B p false 60) (0, p1, true) := by
                unfold impl_getter_count.f
                refine Ev.bind e1 (Ev.bind (ev_of (impl_inRange_eq _ _ _)) (ev_neg ?_ (Ev.now _)))
                simp only [Bool.and_eq_true, decide_eq_true_eq]
                exact hin
              exact ⟨⟨v, 0, ⟨#[]⟩, []⟩, p1, true, j1 _ _ _ _ ec (empty p1), fun h => by cases h⟩
          · replace e1 := ev_cast (if_neg hok1) e1
            have ec : Ev (fun k => impl_getter_count.f k B p false 60) (0, p, true) := by
              unfold impl_getter_count.f
              exact Ev.bind e1 (Ev.bind (ev_of (impl_inRange_eq _ _ _)) (ev_pos rfl (Ev.now _)))
            exact ⟨⟨v, 0, ⟨#[]⟩, []⟩, p, true, j1 _ _ _ _ ec (empty p), fun h => by cases h⟩
  · replace e0 := ev_cast (if_neg hok0) e0
    refine ⟨⟨0, 0, ⟨#[]⟩, []⟩, i, true, top 0 i true _ e0 (fun q hq => ?_), fun h => by cases h⟩
    have hq2 : ¬ q = true := fun e => by have := hq.1 e; omega
    refine Ev.step (f := fun k => impl_getter_term.j1 k dp B i true 0 0 (⟨#[]⟩ : ByteArray)) (fun k => ?_) (ibad_j1 B hb hl dp 0 i)
    simp only [impl_getter_term.j0]
    rw [if_neg hq2, if_neg (by omega)]
    split <;> rfl
theorem iget_total (B : List Int) (hb : BytesB B) (hl : (B.length : Int) ≤ 1048576) : ∀ (n : Nat) (dp : Int), dp + n = 9 → 1 ≤ dp → ∀ i : Int, ∃ (x : S25) (j : Int) (bad : Bool), Ev (fun k => impl_getter_term.f k B i false dp) (x.f0, x.f1, x.f2, x.f3, j, bad) ∧ (bad = false → SGot B i x j) := by
  intro n
  induction n with
  | zero =>
    intro dp hdp h1 i
    exact iget_step B hb hl dp h1 (by omega) (fun h => absurd h (by omega)) i
  | succ n ih =>
    intro dp hdp h1 i
    exact iget_step B hb hl dp h1 (by omega) (fun _ i2 => ih (dp + 1) (by omega) (by omega) i2) i
theorem impl_putNum_l0 (n : Nat) : ∀ (l : List Int) (x : Int), (l.length : Int) + n ≤ 4194304 → 0 ≤ x → x < 2 ^ (7 * (n + 1)) → n ≤ 5 → Ev (fun k => impl_putNum.l0 k l x) (l ++ grp7 n x) := by
  induction n with
  | zero =>
    intro l x hl h0 h1 _
    have h2 : (2 : Int) ^ (7 * (0 + 1)) = 128 := by decide
    refine Ev.step (f := fun _ => some (l ++ [x])) (fun k => ?_) (Ev.now _)
    simp only [impl_putNum.l0]
    rw [if_neg (by omega), if_pos (by omega), show x % 256 = x from by omega]
  | succ n ih =>
    intro l x hl h0 h1 hn
    have hp : (2 : Int) ^ (7 * (n + 1 + 1)) = 2 ^ (7 * (n + 1)) * 128 := by
      rw [show 7 * (n + 1 + 1) = 7 * (n + 1) + 7 from by omega, Int.pow_add]
      rfl
    have hq : (2 : Int) ^ (7 * (n + 1 + 1)) ≤ 4398046511104 := by
      have : n = 0 ∨ n = 1 ∨ n = 2 ∨ n = 3 ∨ n = 4 := by omega
      rcases this with rfl | rfl | rfl | rfl | rfl <;> decide
    by_cases h : x > 127
    · have := ih (l ++ [x % 128 + 128]) (x / 128) (by simp; omega) (by omega) (by rw [hp] at h1; omega) (by omega)
      refine Ev.step (fun k => ?_) (ev_cast ?_ this)
      · simp only [impl_putNum.l0]
        rw [if_pos h, if_pos (by omega), and127_64 x h0 (by omega), or128 _ (by omega) (by omega), show (128 + x % 128) % 256 = x % 128 + 128 from by omega]
      · simp [grp7, h]
    · refine Ev.step (f := fun _ => some (l ++ [x])) (fun k => ?_) (ev_cast ?_ (Ev.now _))
      · simp only [impl_putNum.l0]
        rw [if_neg h, if_pos (by omega), show x % 256 = x from by omega]
      · simp [grp7, h]
theorem mx_clamp (n : Int) : mx (-1000000000000) (mn n 1000000000000) = clampM n := by
  unfold mx mn clampM
  split <;> split <;> (try split) <;> (try split) <;> omega
theorem impl_putNum_ev (l : List Int) (hl : (l.length : Int) ≤ 4194200) (n : Int) : Ev (fun k => impl_putNum.f k l n) (l ++ putNumM n) := by
  have hz := zig_range n
  have h5 : (2 : Int) ^ (7 * (5 + 1)) = 4398046511104 := by decide
  have e := impl_putNum_l0 5 l (zigM (clampM n)) (by omega) hz.1 (by omega) (by omega)
  have e2 : Ev (fun k => impl_putNum.j0 k l (zigM (clampM n))) (l ++ putNumM n) := Ev.step (fun k => by simp only [impl_putNum.j0]) e
  unfold impl_putNum.f
  rw [mx_clamp]
  generalize clampM n = c at *
  unfold zigM at e2
  by_cases hn : c < 0
  · rw [if_pos hn] at e2
    exact ev_pos hn e2
  · rw [if_neg hn] at e2
    exact ev_neg hn e2
theorem impl_putText_ev (l : List Int) (s : ByteArray) (hl : (l.length : Int) ≤ 2097152) (hs : (s.size : Int) ≤ 1048576) : Ev (fun k => impl_putText.f k l s) (l ++ putTextM s) := by
  unfold impl_putText.f
  have hp := putNumM_len s.size
  refine Ev.bind (impl_putNum_ev l (by omega) _) (ev_pos (by rw [List.length_append]; omega) (ev_cast ?_ (Ev.now _)))
  unfold putTextM
  rw [List.append_assoc]
theorem impl_putTerm_loop (l : List S25) (hl : (l.length : Int) ≤ 4194304) (n : Nat) (h : ∀ y ∈ l, ∀ l0 : List Int, l0.length + 32 * countM y ≤ 2000000 → Ev (fun k => impl_putTerm.f k l0 y.f0 y.f1 y.f2 y.f3) (l0 ++ encT y)) (hlen : ∀ y ∈ l, (encT y).length ≤ 32 * countM y) (d : Nat) :
    ∀ (i : Nat) (l0 : List Int), i + d = l.length → l0.length + 32 * countML (l.drop i) ≤ 2000000 → Ev (fun k => impl_putTerm.l0 k l0 l (l.length : Int) i) (l0 ++ encTL (l.drop i)) := by
  induction d with
  | zero =>
    intro i l0 hi hb
    refine Ev.step (f := fun _ => some l0) (fun k => ?_) (ev_cast ?_ (Ev.now _))
    · simp only [impl_putTerm.l0]; rw [if_neg (by omega)]
    · rw [List.drop_eq_nil_of_le (by omega), encTL, List.append_nil]
  | succ d ih =>
    intro i l0 hi hb
    have hlt : i < l.length := by omega
    rw [List.drop_eq_getElem_cons hlt, countML] at hb
    have hz := hlen l[i] (List.getElem_mem hlt)
    refine Ev.step (f := fun k => (impl_putTerm.f k l0 l[i].f0 l[i].f1 l[i].f2 l[i].f3).bind fun t163 => (impl_putTerm.l0 k t163 l (l.length : Int) (wrap64 ((i : Int) + 1)))) (fun k => ?_) (Ev.bind (h l[i] (List.getElem_mem hlt) l0 (by omega)) ?_)
    · simp only [impl_putTerm.l0]
      rw [if_pos (by omega), if_pos (by omega), if_pos (by omega), rdIx2 l i hlt]
    · rw [w64 _ (by omega) (by omega)]
      refine ev_cast ?_ (ih (i + 1) (l0 ++ encT l[i]) (by omega) (by rw [List.length_append]; omega))
      rw [encTL_drop l i hlt, List.append_assoc]
theorem impl_putTerm_all : ∀ x, ∀ n, goodM x n = true → (budI x : Int) ≤ 4194304 → ∀ l0 : List Int, l0.length + 32 * countM x ≤ 2000000 → Ev (fun k => impl_putTerm.f k l0 x.f0 x.f1 x.f2 x.f3) (l0 ++ encT x) := by
  refine indI (fun a b s l ih n hg hbud l0 hb => ?_)
  obtain ⟨m, rfl, hs, hl⟩ := good_mk hg
  rw [budI_mk] at hbud
  have hll := budIL_len l
  have hna := putNumM_len a
  rw [countM] at hb
  show Ev (fun k => impl_putTerm.f k l0 a b s l) _
  rw [encT, ← List.append_assoc]
  have e0 := impl_putNum_ev l0 (by omega) a
  have key : ∀ q : Bool, (q = true ↔ (a = 1 ∨ a = 3)) → Ev (fun k => impl_putTerm.j0 k (l0 ++ putNumM a) a q a b s l) (l0 ++ putNumM a ++ (if a = 1 ∨ a = 3 then putNumM b else if a = 2 then putTextM s else putNumM (l.length : Int) ++ encTL l)) := by
    intro q hq
    have hx : (l0 ++ putNumM a).length ≤ l0.length + 6 := by rw [List.length_append]; omega
    by_cases c1 : a = 1 ∨ a = 3
    · rw [if_pos c1]
      refine Ev.step (f := fun k => (impl_putNum.f k (l0 ++ putNumM a) b).bind fun t152 => (some t152)) (fun k => ?_) (Ev.bind (impl_putNum_ev _ (by omega) b) (Ev.now _))
      simp only [impl_putTerm.j0]; rw [if_pos (hq.2 c1)]
    · have hq2 : ¬ q = true := fun e => c1 (hq.1 e)
      rw [if_neg c1]
      by_cases c2 : a = 2
      · rw [if_pos c2]
        have hsz : s.size ≤ 20 := by
          rcases shape_cases hs with h | h | h | h
          · omega
          · exact atom_size h.2.2.1
          · omega
          · omega
        refine Ev.step (f := fun k => (impl_putText.f k (l0 ++ putNumM a) s).bind fun t155 => (some t155)) (fun k => ?_) (Ev.bind (impl_putText_ev _ s (by omega) (by omega)) (Ev.now _))
        simp only [impl_putTerm.j0]; rw [if_neg hq2, if_pos c2]
      · rw [if_neg c2]
        have hln := putNumM_len (l.length : Int)
        have hy : (l0 ++ putNumM a ++ putNumM (l.length : Int)).length ≤ l0.length + 12 := by rw [List.length_append]; omega
        refine Ev.step (f := fun k => (impl_putNum.f k (l0 ++ putNumM a) (l.length : Int)).bind fun t158 => (impl_putTerm.l0 k t158 l (l.length : Int) 0)) (fun k => ?_) (Ev.bind (impl_putNum_ev _ (by omega) _) ?_)
        · simp only [impl_putTerm.j0]; rw [if_neg hq2, if_neg c2]
        · rw [← List.append_assoc]
          exact impl_putTerm_loop l (by omega) m (fun y hy l1 h1 => ih y hy m (goodL_mem l m hl y hy) (by have := budI_mem l y hy; omega) l1 h1) (fun y hy => enc_len y m (goodL_mem l m hl y hy)) l.length 0 _ (by omega) (by rw [List.drop_zero]; omega)
  refine Ev.step (f := fun k => (impl_putNum.f k l0 a).bind fun t149 => (if a = 1 then (impl_putTerm.j0 k t149 a (a == 1) a b s l) else (impl_putTerm.j0 k t149 a (a == 3) a b s l))) (fun k => ?_) (Ev.bind e0 ?_)
  · simp only [impl_putTerm.f]
  · by_cases c1 : a = 1
    · refine ev_pos c1 (key _ ?_)
      rw [beq_iff_eq]; omega
    · refine ev_neg c1 (key _ ?_)
      rw [beq_iff_eq]; omega
theorem termOk_parts {x : S25} (h : termOkM x = true) : goodM x 8 = true ∧ countM x ≤ 300 := by
  unfold termOkM at h
  rw [Bool.and_eq_true, decide_eq_true_eq] at h
  exact h
theorem impl_isSmall_eq (c : Int) : impl_isSmall.f c = some (lowB c) := by
  unfold impl_isSmall.f lowB
  by_cases h : 97 ≤ c <;> simp [h]
theorem impl_isFigure_eq (c : Int) : impl_isFigure.f c = some (digB c) := by
  unfold impl_isFigure.f digB
  by_cases h : 48 ≤ c <;> simp [h]
theorem impl_AtomOk_l (s : ByteArray) (hs : s.size ≤ 140737488351232) (d : Nat) : ∀ i : Nat, i + d = s.size → Ev (fun k => impl_AtomOk.l0 k s i) (atomFrom s i && (decide (1 ≤ (s.size : Int)) && decide ((s.size : Int) ≤ 20))) := by
  induction d with
  | zero =>
    intro i hi
    refine Ev.step (f := fun _ => some (decide (1 ≤ (s.size : Int)) && decide ((s.size : Int) ≤ 20))) (fun k => ?_) (ev_cast ?_ (Ev.now _))
    · simp only [impl_AtomOk.l0]
      rw [if_neg (by omega), impl_inRange_eq]; rfl
    · rw [atomFrom_end s i (by omega)]; rfl
  | succ d ih =>
    intro i hi
    have hlt : i < s.size := by omega
    have hn := ih (i + 1) (by omega)
    rw [atomFrom_step s i hlt]
    by_cases h1 : lowB (bt s i) = true
    · refine Ev.step (fun k => ?_) (ev_cast ?_ hn)
      · simp only [impl_AtomOk.l0]
        rw [if_pos (by omega), if_pos (by omega), impl_isSmall_eq]
        simp only [Option.bind_some]
        rw [if_pos h1, w64 _ (by omega) (by omega)]
        rfl
      · rw [h1]; rfl
    · have h1' : lowB (bt s i) = false := by simpa using h1
      by_cases h0 : i = 0
      · refine Ev.step (f := fun _ => some false) (fun k => ?_) (ev_cast ?_ (Ev.now _))
        · simp only [impl_AtomOk.l0]
          rw [if_pos (by omega), if_pos (by omega), impl_isSmall_eq]
          simp only [Option.bind_some]
          rw [if_neg h1, if_pos (by omega)]
        · rw [h1']; simp [h0]
      · by_cases h2 : digB (bt s i) = true
        · refine Ev.step (fun k => ?_) (ev_cast ?_ hn)
          · simp only [impl_AtomOk.l0]
            rw [if_pos (by omega), if_pos (by omega), impl_isSmall_eq]
            simp only [Option.bind_some]
            rw [if_neg h1, if_neg (by omega), impl_isFigure_eq]
            simp only [Option.bind_some]
            rw [if_pos h2, w64 _ (by omega) (by omega)]
            rfl
          · rw [h2]; simp [h0]
        · have h2' : digB (bt s i) = false := by simpa using h2
          by_cases h3 : bt s i = 95
          · refine Ev.step (fun k => ?_) (ev_cast ?_ hn)
            · simp only [impl_AtomOk.l0]
              rw [if_pos (by omega), if_pos (by omega), impl_isSmall_eq]
              simp only [Option.bind_some]
              rw [if_neg h1, if_neg (by omega), impl_isFigure_eq]
              simp only [Option.bind_some]
              rw [if_neg h2, if_pos h3, w64 _ (by omega) (by omega)]
              rfl
            · simp [h0, h3]
          · refine Ev.step (f := fun _ => some false) (fun k => ?_) (ev_cast ?_ (Ev.now _))
            · simp only [impl_AtomOk.l0]
              rw [if_pos (by omega), if_pos (by omega), impl_isSmall_eq]
              simp only [Option.bind_some]
              rw [if_neg h1, if_neg (by omega), impl_isFigure_eq]
              simp only [Option.bind_some]
              rw [if_neg h2, if_neg h3]
            · rw [h1', h2']; simp [h3]
theorem impl_AtomOk_ev (s : ByteArray) (hs : s.size ≤ 140737488351232) : Ev (fun k => impl_AtomOk.f k s) (atomOkM s) := impl_AtomOk_l s hs s.size 0 (by omega)
theorem impl_plainOk_ev (a b : Int) (s : ByteArray) (l : List S25) (hs : s.size ≤ 140737488351232) : Ev (fun k => impl_Term_plainOk.f k a b s l) (shapeM a b s l) := by
  unfold impl_Term_plainOk.f shapeM noText
  by_cases h1 : a = 1
  · rw [if_pos h1]
    refine ev_pos h1 (ev_of ?_)
    rw [impl_inRange_eq]
    simp only [Option.bind_some]
    by_cases p : (decide (-1000000000000 ≤ b) && decide (b ≤ 1000000000000)) = true
    · by_cases q : s.toList = ([] : List UInt8)
      · rw [if_pos p, if_pos q, p, decide_eq_true q]; rfl
      · rw [if_pos p, if_neg q, p, decide_eq_false q]; rfl
    · rw [if_neg p, Bool.eq_false_iff.mpr p]; rfl
  rw [if_neg h1]
  refine ev_neg h1 ?_
  by_cases h2 : a = 2
  · rw [if_pos h2]
    refine ev_pos h2 ?_
    by_cases q : b = 0
    · refine ev_pos q (Ev.bind (impl_AtomOk_ev s hs) ?_)
      cases hA : atomOkM s with
      | true => exact ev_pos rfl (ev_cast (by rw [decide_eq_true q]; rfl) (Ev.now _))
      | false => exact ev_neg (by decide) (Ev.now _)
    · exact ev_neg q (ev_cast (by rw [decide_eq_false q]; simp) (Ev.now _))
  rw [if_neg h2]
  refine ev_neg h2 (ev_of ?_)
  by_cases h3 : a = 3
  · rw [if_pos h3, if_pos h3, impl_inRange_eq]
    simp only [Option.bind_some]
    by_cases p : (decide (0 ≤ b) && decide (b ≤ 1000000)) = true
    · by_cases q : s.toList = ([] : List UInt8)
      · rw [if_pos p, if_pos q, p, decide_eq_true q]; rfl
      · rw [if_pos p, if_neg q, p, decide_eq_false q]; rfl
    · rw [if_neg p, Bool.eq_false_iff.mpr p]; rfl
  rw [if_neg h3, if_neg h3]
  by_cases h4 : a = 4
  · rw [if_pos h4, if_pos h4]
    by_cases p : b = 0
    · by_cases q : s.toList = ([] : List UInt8)
      · rw [if_pos p, if_pos q, decide_eq_true p, decide_eq_true q]; rfl
      · rw [if_pos p, if_neg q, decide_eq_true p, decide_eq_false q]; rfl
    · rw [if_neg p, decide_eq_false p]; rfl
  rw [if_neg h4, if_neg h4]
  by_cases h5 : a = 5
  · rw [if_pos h5, if_pos h5]
    by_cases p : b = 0
    · by_cases q : s.toList = ([] : List UInt8)
      · rw [if_pos p, if_pos q, decide_eq_true p, decide_eq_true q]; rfl
      · rw [if_pos p, if_neg q, decide_eq_true p, decide_eq_false q]; rfl
    · rw [if_neg p, decide_eq_false p]; rfl
  · rw [if_neg h5, if_neg h5]
def measRes (n0 : Nat) (g : Bool) (c : Nat) : Int := if g = true ∧ n0 + c ≤ 300 then ((n0 + c : Nat) : Int) else 301
theorem impl_measure_loop (l : List S25) (hl : (budIL l : Int) ≤ 4194304) (n : Nat) (dp : Int) (hd : dp + n = 8) (hd1 : 1 ≤ dp)
    (h : ∀ y ∈ l, Ev (fun k => impl_Term_measure.f k y.f0 y.f1 y.f2 y.f3 (dp + 1)) (measRes 0 (goodM y n) (countM y))) (d : Nat) :
    ∀ (i : Nat) (m : Nat), i + d = l.length → m ≤ 300 → Ev (fun k => impl_Term_measure.l0 k dp m l (l.length : Int) i) (measRes m (goodML (l.drop i) n) (countML (l.drop i))) := by
  have hlen := budIL_len l
  induction d with
  | zero =>
    intro i m hi hm
    refine Ev.step (f := fun _ => some (m : Int)) (fun k => ?_) (ev_cast ?_ (Ev.now _))
    · simp only [impl_Term_measure.l0]; rw [if_neg (by omega)]
    · rw [List.drop_eq_nil_of_le (by omega), goodML, countML]
      unfold measRes; rw [if_pos ⟨rfl, by omega⟩]; rfl
  | succ d ih =>
    intro i m hi hm
    have hlt : i < l.length := by omega
    have e := h _ (rdI_mem l i hlt)
    rw [dropI l i hlt, goodML, countML]
    generalize hy : rd_T25 l i = y at *
    refine Ev.step (f := fun k => (impl_Term_measure.f k y.f0 y.f1 y.f2 y.f3 (dp + 1)).bind fun t => (if (wrap64 ((m : Int) + t)) > 300 then (some 301) else (impl_Term_measure.l0 k dp (wrap64 ((m : Int) + t)) l (l.length : Int) (wrap64 ((i : Int) + 1))))) (fun k => ?_) (Ev.bind e ?_)
    · simp only [impl_Term_measure.l0]; rw [if_pos (by omega), if_pos (by omega), if_pos (by omega), hy, w64 (dp + 1) (by omega) (by omega)]
    · have hr : 0 ≤ measRes 0 (goodM y n) (countM y) ∧ measRes 0 (goodM y n) (countM y) ≤ 301 := by
        unfold measRes; split <;> omega
      rw [w64 _ (by omega) (by omega), w64 _ (by omega) (by omega)]
      cases hg : goodM y n with
      | false =>
        refine ev_pos (by unfold measRes; simp; omega) (ev_cast ?_ (Ev.now _))
        unfold measRes; simp
      | true =>
        by_cases hq : countM y ≤ 300
        · have hv : measRes 0 true (countM y) = countM y := by unfold measRes; rw [if_pos ⟨rfl, by omega⟩]; omega
          rw [hv]
          by_cases hq2 : (m : Int) + countM y > 300
          · refine ev_pos hq2 (ev_cast ?_ (Ev.now _))
            unfold measRes; rw [if_neg (by omega)]
          · refine ev_neg hq2 ?_
            have := ih (i + 1) (m + countM y) (by omega) (by omega)
            rw [show ((m + countM y : Nat) : Int) = (m : Int) + countM y from by omega] at this
            refine ev_cast ?_ this
            unfold measRes
            rw [Bool.true_and]
            cases goodML (l.drop (i + 1)) n with
            | false => simp
            | true =>
              by_cases hq3 : m + countM y + countML (l.drop (i + 1)) ≤ 300
              · rw [if_pos ⟨rfl, hq3⟩, if_pos ⟨rfl, by omega⟩]; omega
              · rw [if_neg (by omega), if_neg (by omega)]
        · have hv : measRes 0 true (countM y) = 301 := by unfold measRes; rw [if_neg (by omega)]
          rw [hv]
          refine ev_pos (by omega) (ev_cast ?_ (Ev.now _))
          unfold measRes; rw [if_neg (by omega)]
theorem impl_measure_all : ∀ x, (budI x : Int) ≤ 4194304 → ∀ (n : Nat) (dp : Int), dp + n = 9 → 1 ≤ dp → Ev (fun k => impl_Term_measure.f k x.f0 x.f1 x.f2 x.f3 dp) (measRes 0 (goodM x n) (countM x)) := by
  refine indI ?_
  intro a b s l ih hb n dp hd h1
  rw [budI] at hb
  simp only []
  have no : Ev (fun k => impl_Term_measure.j0 k dp true a b s l) 301 := Ev.step (f := fun _ => some 301) (fun k => by simp [impl_Term_measure.j0]) (Ev.now _)
  cases n with
  | zero =>
    refine Ev.step (fun k => ?_) (ev_cast ?_ no)
    · simp only [impl_Term_measure.f]; rw [if_pos (by omega)]
    · rw [goodM]; unfold measRes; simp
  | succ n =>
    rw [goodM, countM]
    refine Ev.step (f := fun k => (impl_Term_plainOk.f k a b s l).bind fun t => (impl_Term_measure.j0 k dp (!t) a b s l)) (fun k => ?_) (Ev.bind (impl_plainOk_ev a b s l (by omega)) ?_)
    · simp only [impl_Term_measure.f]; rw [if_neg (by omega)]
    cases hsh : shapeM a b s l with
    | false => exact ev_cast (by unfold measRes; simp) no
    | true =>
      have e := impl_measure_loop l (by omega) n dp (by omega) h1 (fun y hy => ih y hy (by have := budI_mem l y hy; omega) n (dp + 1) (by omega) (by omega)) l.length 0 1 (by omega) (by omega)
      refine Ev.step (fun k => ?_) (ev_cast ?_ e)
      · simp only [impl_Term_measure.j0]; rw [if_neg (by decide)]; rfl
      · rw [List.drop_zero, Bool.true_and]
        unfold measRes
        rw [Nat.zero_add]
theorem impl_TermOk_ev (x : S25) (hb : (budI x : Int) ≤ 4194304) : Ev (fun k => impl_TermOk.f k x.f0 x.f1 x.f2 x.f3) (termOkM x) := by
  unfold impl_TermOk.f
  refine Ev.bind (impl_measure_all x hb 8 1 (by omega) (by omega)) (ev_cast ?_ (Ev.now _))
  unfold termOkM measRes
  cases goodM x 8 with
  | false => simp
  | true =>
    by_cases hq : countM x ≤ 300
    · rw [if_pos ⟨rfl, by omega⟩, decide_eq_true hq]; simp; omega
    · rw [if_neg (by omega), decide_eq_false hq]; rfl
theorem impl_GetTerm_put (x : S25) (hb : (budI x : Int) ≤ 4194304) (hok : termOkM x = true) : Ev (fun k => impl_GetTerm.f k (encT x)) (x.f0, x.f1, x.f2, x.f3, true) := by
  obtain ⟨h1, h2⟩ := termOk_parts hok
  have hlen := enc_len x 8 h1
  have e := getter_all x 8 1 h1 (by omega) (by omega) (encT x) [] [] (enc_bytes x) (by omega) (by simp)
  have e2 := impl_putTerm_all x 8 h1 hb [] (by simp; omega)
  unfold impl_GetTerm.f
  refine Ev.bind e (ev_neg (by simp) (Ev.bind (impl_TermOk_ev x hb) (ev_pos hok (Ev.bind e2 ?_))))
  unfold bytes_Equal.f
  exact Ev.bind (Ev.now _) (ev_pos (by simp) (Ev.now _))
def Right (B : List Int) : Prop := ∃ x, termOkM x = true ∧ B = encT x
theorem iget_not (B : List Int) (hb : BytesB B) (hl : (B.length : Int) ≤ 1048576) (hn : ¬ Right B) : Ev (fun k => impl_GetTerm.f k B) (0, 0, (⟨#[]⟩ : ByteArray), [], false) := by
  obtain ⟨x, j, bad, e, hg⟩ := iget_total B hb hl 8 1 (by omega) (by omega) 0
  unfold impl_GetTerm.f
  refine Ev.bind e ?_
  by_cases hbad : bad = false
  · obtain ⟨_, ⟨R, hR⟩, hj, hbud⟩ := hg hbad
    have hlen := congrArg List.length hR
    rw [show (0 : Int).toNat = 0 from rfl, List.drop_zero, List.length_append] at hlen
    refine ev_neg (by rw [hbad]; exact Bool.false_ne_true) (Ev.bind (impl_TermOk_ev x (by omega)) ?_)
    by_cases hok : termOkM x = true
    · obtain ⟨h1, h2⟩ := termOk_parts hok
      refine ev_pos hok (Ev.bind (impl_putTerm_all x 8 h1 (by omega) [] (by simp; omega)) ?_)
      unfold bytes_Equal.f
      refine Ev.bind (Ev.now _) (ev_neg (fun h => hn ⟨x, hok, ?_⟩) (Ev.now _))
      rw [List.nil_append, beq_iff_eq, Go.Lib.toList_data, Go.Lib.toList_data] at h
      have e2 : strOfNums (encT x) = strOfNums B := ByteArray.ext (Array.toList_inj.1 h)
      rw [← bytes_str B hb, ← e2, bytes_str _ (enc_bytes x)]
    · exact ev_neg hok (Ev.now _)
  · exact ev_pos (by simpa using hbad) (Ev.now _)
theorem spec_AtomOk_l (s : ByteArray) (hs : s.size ≤ 140737488351232) (d : Nat) : ∀ i : Nat, i + d = s.size → Ev (fun k => spec_AtomOk.l0 k s i) (atomFrom s i && (decide (1 ≤ (s.size : Int)) && decide ((s.size : Int) ≤ 20))) := by
  induction d with
  | zero =>
    intro i hi
    refine Ev.step (f := fun _ => some (decide (1 ≤ (s.size : Int)) && decide ((s.size : Int) ≤ 20))) (fun k => ?_) (ev_cast ?_ (Ev.now _))
    · simp only [spec_AtomOk.l0]
      rw [if_neg (by omega), spec_l1In_eq]; rfl
    · rw [atomFrom_end s i (by omega)]; rfl
  | succ d ih =>
    intro i hi
    have hlt : i < s.size := by omega
    have hn := ih (i + 1) (by omega)
    rw [atomFrom_step s i hlt]
    by_cases h1 : lowB (bt s i) = true
    · refine Ev.step (fun k => ?_) (ev_cast ?_ hn)
      · simp only [spec_AtomOk.l0]
        rw [if_pos (by omega), if_pos (by omega), wbt, spec_l1In_eq]
        simp only [Option.bind_some]
        unfold lowB at h1
        rw [if_pos h1, w64 _ (by omega) (by omega)]
        rfl
      · rw [h1]; rfl
    · have h1' : lowB (bt s i) = false := by simpa using h1
      by_cases h0 : i = 0
      · refine Ev.step (f := fun _ => some false) (fun k => ?_) (ev_cast ?_ (Ev.now _))
        · simp only [spec_AtomOk.l0]
          rw [if_pos (by omega), if_pos (by omega), wbt, spec_l1In_eq]
          simp only [Option.bind_some]
          unfold lowB at h1
          rw [if_neg h1, if_pos (by omega)]
        · rw [h1']; simp [h0]
      · by_cases h2 : digB (bt s i) = true
        · refine Ev.step (fun k => ?_) (ev_cast ?_ hn)
          · simp only [spec_AtomOk.l0]
            rw [if_pos (by omega), if_pos (by omega), wbt, spec_l1In_eq]
            simp only [Option.bind_some]
            unfold lowB at h1; unfold digB at h2
            rw [if_neg h1, if_neg (by omega), spec_l1In_eq]
            simp only [Option.bind_some]
            rw [if_pos h2, w64 _ (by omega) (by omega)]
            rfl
          · rw [h2]; simp [h0]
        · have h2' : digB (bt s i) = false := by simpa using h2
          by_cases h3 : bt s i = 95
          · refine Ev.step (fun k => ?_) (ev_cast ?_ hn)
            · simp only [spec_AtomOk.l0]
              rw [if_pos (by omega), if_pos (by omega), wbt, spec_l1In_eq]
              simp only [Option.bind_some]
              unfold lowB at h1; unfold digB at h2
              rw [if_neg h1, if_neg (by omega), spec_l1In_eq]
              simp only [Option.bind_some]
              rw [if_neg h2, if_pos h3, w64 _ (by omega) (by omega)]
              rfl
            · simp [h0, h3]
          · refine Ev.step (f := fun _ => some false) (fun k => ?_) (ev_cast ?_ (Ev.now _))
            · simp only [spec_AtomOk.l0]
              rw [if_pos (by omega), if_pos (by omega), wbt, spec_l1In_eq]
              simp only [Option.bind_some]
              unfold lowB at h1; unfold digB at h2
              rw [if_neg h1, if_neg (by omega), spec_l1In_eq]
              simp only [Option.bind_some]
              rw [if_neg h2, if_neg h3]
            · rw [h1', h2']; simp [h3]
theorem spec_AtomOk_ev (s : ByteArray) (hs : s.size ≤ 140737488351232) : Ev (fun k => spec_AtomOk.f k s) (atomOkM s) := spec_AtomOk_l s hs s.size 0 (by omega)
theorem spec_l2Shape_ev (a b : Int) (s : ByteArray) (l : List S25) (hs : s.size ≤ 140737488351232) : Ev (fun k => spec_l2Shape.f k a b s l) (shapeM a b s l) := by
  unfold spec_l2Shape.f shapeM noText
  by_cases h1 : a = 1
  · rw [if_pos h1]
    refine ev_pos h1 (ev_of ?_)
    rw [spec_l1In_eq]
    simp only [Option.bind_some]
    by_cases p : (decide (-1000000000000 ≤ b) && decide (b ≤ 1000000000000)) = true
    · by_cases q : s.toList = ([] : List UInt8)
      · rw [if_pos p, if_pos q, p, decide_eq_true q]; rfl
      · rw [if_pos p, if_neg q, p, decide_eq_false q]; rfl
    · rw [if_neg p, Bool.eq_false_iff.mpr p]; rfl
  rw [if_neg h1]
  refine ev_neg h1 ?_
  by_cases h2 : a = 2
  · rw [if_pos h2]
    refine ev_pos h2 (Ev.bind (spec_AtomOk_ev s hs) ?_)
    cases hA : atomOkM s with
    | true =>
      by_cases q : b = 0
      · exact ev_pos rfl (ev_pos q (ev_cast (by rw [decide_eq_true q]; rfl) (Ev.now _)))
      · exact ev_pos rfl (ev_neg q (ev_cast (by rw [decide_eq_false q]; rfl) (Ev.now _)))
    | false => exact ev_neg (by decide) (Ev.now _)
  rw [if_neg h2]
  refine ev_neg h2 (ev_of ?_)
  by_cases h3 : a = 3
  · rw [if_pos h3, if_pos h3, spec_l1In_eq]
    simp only [Option.bind_some]
    by_cases p : (decide (0 ≤ b) && decide (b ≤ 1000000)) = true
    · by_cases q : s.toList = ([] : List UInt8)
      · rw [if_pos p, if_pos q, p, decide_eq_true q]; rfl
      · rw [if_pos p, if_neg q, p, decide_eq_false q]; rfl
    · rw [if_neg p, Bool.eq_false_iff.mpr p]; rfl
  rw [if_neg h3, if_neg h3]
  by_cases h4 : a = 4
  · rw [if_pos h4, if_pos h4]
    by_cases p : b = 0
    · by_cases q : s.toList = ([] : List UInt8)
      · rw [if_pos p, if_pos q, decide_eq_true p, decide_eq_true q]; rfl
      · rw [if_pos p, if_neg q, decide_eq_true p, decide_eq_false q]; rfl
    · rw [if_neg p, decide_eq_false p]; rfl
  rw [if_neg h4, if_neg h4]
  by_cases h5 : a = 5
  · rw [if_pos h5, if_pos h5]
    by_cases p : b = 0
    · by_cases q : s.toList = ([] : List UInt8)
      · rw [if_pos p, if_pos q, decide_eq_true p, decide_eq_true q]; rfl
      · rw [if_pos p, if_neg q, decide_eq_true p, decide_eq_false q]; rfl
    · rw [if_neg p, decide_eq_false p]; rfl
  · rw [if_neg h5, if_neg h5]
def lookRes (left : Int) (g : Bool) (c : Nat) : Int := if g = true ∧ (c : Int) ≤ left then left - c else -1
theorem spec_l2Look_loop (a b : Int) (s : ByteArray) (l : List S25) (hl : (budIL l : Int) ≤ 4194304) (n : Nat) (hn : n ≤ 8)
    (h : ∀ y ∈ l, ∀ left : Int, -1 ≤ left → left ≤ 300 → Ev (fun k => spec_l2Look.f k y.f0 y.f1 y.f2 y.f3 n left) (lookRes left (goodM y n) (countM y))) (d : Nat) :
    ∀ (i : Nat) (left : Int), i + d = l.length → -1 ≤ left → left ≤ 300 → Ev (fun k => spec_l2Look.l0 k (n + 1 : Int) left i a b s l) (if left = -1 then -1 else lookRes left (goodML (l.drop i) n) (countML (l.drop i))) := by
  have hlen := budIL_len l
  induction d with
  | zero =>
    intro i left hi h0 h1
    refine Ev.step (f := fun _ => some left) (fun k => ?_) (ev_cast ?_ (Ev.now _))
    · simp only [spec_l2Look.l0]; rw [if_neg (by omega)]
    · rw [List.drop_eq_nil_of_le (by omega), goodML, countML]
      by_cases hm : left = -1
      · rw [if_pos hm]; exact hm
      · rw [if_neg hm]; unfold lookRes; rw [if_pos ⟨rfl, by omega⟩]; omega
  | succ d ih =>
    intro i left hi h0 h1
    have hlt : i < l.length := by omega
    by_cases hm : left = -1
    · refine Ev.step (f := fun _ => some left) (fun k => ?_) (ev_cast ?_ (Ev.now _))
      · simp only [spec_l2Look.l0]; rw [if_pos (by omega), if_neg (by omega)]
      · rw [if_pos hm]; exact hm
    rw [if_neg hm]
    have e := h _ (rdI_mem l i hlt) left h0 h1
    rw [dropI l i hlt, goodML, countML]
    generalize hy : rd_T25 l i = y at *
    refine Ev.step (f := fun k => (spec_l2Look.f k y.f0 y.f1 y.f2 y.f3 n left).bind fun t => (spec_l2Look.l0 k (n + 1 : Int) t (wrap64 ((i : Int) + 1)) a b s l)) (fun k => ?_) (Ev.bind e ?_)
    · simp only [spec_l2Look.l0]; rw [if_pos (by omega), if_pos (by omega), if_pos (by omega), hy, w64 ((n : Int) + 1 - 1) (by omega) (by omega), show (n : Int) + 1 - 1 = n from by omega]
    · rw [w64 _ (by omega) (by omega)]
      have hr : -1 ≤ lookRes left (goodM y n) (countM y) ∧ lookRes left (goodM y n) (countM y) ≤ 300 := by
        unfold lookRes; split <;> omega
      refine ev_cast ?_ (ih (i + 1) _ (by omega) hr.1 hr.2)
      have hc := count_pos y
      cases hg : goodM y n with
      | false =>
        have hv : lookRes left false (countM y) = -1 := by unfold lookRes; simp
        rw [hv, if_pos rfl]
        unfold lookRes; simp
      | true =>
        by_cases hq : (countM y : Int) ≤ left
        · have hv : lookRes left true (countM y) = left - countM y := by unfold lookRes; rw [if_pos ⟨rfl, hq⟩]
          rw [hv, if_neg (by omega), Bool.true_and]
          unfold lookRes
          cases hg2 : goodML (l.drop (i + 1)) n with
          | false => simp
          | true =>
            by_cases hq2 : (countML (l.drop (i + 1)) : Int) ≤ left - countM y
            · rw [if_pos ⟨rfl, hq2⟩, if_pos ⟨rfl, by omega⟩]; omega
            · rw [if_neg (by omega), if_neg (by omega)]
        · have hv : lookRes left true (countM y) = -1 := by unfold lookRes; rw [if_neg (by omega)]
          rw [hv, if_pos rfl]
          unfold lookRes
          rw [if_neg (by omega)]
theorem spec_l2Look_all : ∀ x, (budI x : Int) ≤ 4194304 → ∀ (n : Nat), n ≤ 8 → ∀ left : Int, -1 ≤ left → left ≤ 300 → Ev (fun k => spec_l2Look.f k x.f0 x.f1 x.f2 x.f3 n left) (lookRes left (goodM x n) (countM x)) := by
  refine indI ?_
  intro a b s l ih hb n hn left h0 h1
  rw [budI] at hb
  simp only []
  have no : Ev (fun k => spec_l2Look.j0 k (n : Int) left true a b s l) (-1) := Ev.step (f := fun _ => some (-1)) (fun k => by simp [spec_l2Look.j0]) (Ev.now _)
  cases n with
  | zero =>
    refine Ev.step (fun k => ?_) (ev_cast ?_ no)
    · simp only [spec_l2Look.f]; rw [if_pos (by omega)]
    · rw [goodM]; unfold lookRes; simp
  | succ n =>
    rw [goodM, countM]
    by_cases hl1 : left < 1
    · refine Ev.step (fun k => ?_) (ev_cast ?_ no)
      · simp only [spec_l2Look.f]; rw [if_neg (by omega), if_pos hl1]
      · unfold lookRes; rw [if_neg (by omega)]
    refine Ev.step (f := fun k => (spec_l2Shape.f k a b s l).bind fun t => (spec_l2Look.j0 k ((n + 1 : Nat) : Int) left (!t) a b s l)) (fun k => ?_) (Ev.bind (spec_l2Shape_ev a b s l (by omega)) ?_)
    · simp only [spec_l2Look.f]; rw [if_neg (by omega), if_neg hl1]
    cases hsh : shapeM a b s l with
    | false => exact ev_cast (by unfold lookRes; simp) no
    | true =>
      have e := spec_l2Look_loop a b s l (by omega) n (by omega) (fun y hy left h0 h1 => ih y hy (by have := budI_mem l y hy; omega) n (by omega) left h0 h1) l.length 0 (left - 1) (by omega) (by omega) (by omega)
      refine Ev.step (fun k => ?_) (ev_cast ?_ e)
      · simp only [spec_l2Look.j0]; rw [if_neg (by decide), w64 _ (by omega) (by omega)]; rfl
      · rw [if_neg (by omega), List.drop_zero, Bool.true_and]
        unfold lookRes
        cases goodML l n with
        | false => simp
        | true =>
          by_cases hq : (countML l : Int) ≤ left - 1
          · rw [if_pos ⟨rfl, hq⟩, if_pos ⟨rfl, by omega⟩]; omega
          · rw [if_neg (by omega), if_neg (by omega)]
theorem spec_TermOk_ev (x : S25) (hb : (budI x : Int) ≤ 4194304) : Ev (fun k => spec_TermOk.f k x.f0 x.f1 x.f2 x.f3) (termOkM x) := by
  unfold spec_TermOk.f
  refine Ev.bind (spec_l2Look_all x hb 8 (by omega) 300 (by omega) (by omega)) (ev_cast ?_ (Ev.now _))
  unfold termOkM lookRes
  cases goodM x 8 with
  | false => simp
  | true =>
    by_cases hq : countM x ≤ 300
    · rw [if_pos ⟨rfl, by omega⟩, decide_eq_true hq]; simp; omega
    · rw [if_neg (by omega), decide_eq_false hq]; rfl
theorem sgetT_put (x : S25) (hb : (budI x : Int) ≤ 4194304) (hok : termOkM x = true) : Ev (fun k => spec_GetTerm.f k (encT x)) (x.f0, x.f1, x.f2, x.f3, true) := by
  obtain ⟨h1, h2⟩ := termOk_parts hok
  have hlen := enc_len x 8 h1
  have e := sget_all x 8 h1 (by omega) (encT x) [] [] (enc_bytes x) (by omega) (by simp)
  unfold spec_GetTerm.f
  exact Ev.bind e (ev_pos rfl (ev_pos (by simp) (Ev.bind (spec_TermOk_ev x hb) (ev_pos hok (Ev.now _)))))
theorem sgetT_not (B : List Int) (hb : BytesB B) (hl : (B.length : Int) ≤ 1048576) (hn : ¬ Right B) : Ev (fun k => spec_GetTerm.f k B) (0, 0, (⟨#[]⟩ : ByteArray), [], false) := by
  obtain ⟨x, j, ok, e, hg⟩ := sget_total B hb hl 8 (by omega) 0
  unfold spec_GetTerm.f
  refine Ev.bind e ?_
  by_cases hok : ok = true
  · obtain ⟨_, ⟨R, hR⟩, hj, hbud⟩ := hg hok
    rw [show (0 : Int).toNat = 0 from rfl, List.drop_zero] at hR
    have hlen := congrArg List.length hR
    rw [List.length_append] at hlen
    refine ev_pos hok ?_
    by_cases hp : j = (B.length : Int)
    · refine ev_pos hp (Ev.bind (spec_TermOk_ev x (by omega)) ?_)
      refine ev_neg (fun h => hn ⟨x, h, ?_⟩) (Ev.now _)
      have : R = [] := List.eq_nil_of_length_eq_zero (by omega)
      rw [hR, this, List.append_nil]
    · exact ev_neg hp (Ev.now _)
  · exact ev_neg hok (Ev.now _)
theorem set_take (l : List Int) (i : Nat) (v : Int) (h : i < l.length) : (l.set i v).take (i + 1) = l.take i ++ [v] := by
  rw [List.take_succ_eq_append_getElem (by simpa using h)]
  simp [List.take_set]
  rw [List.set_eq_of_length_le (by simp; omega)]
theorem laws_toByteS_l (x : List Int) (hl : (x.length : Int) ≤ 1048576) (d : Nat) : ∀ (i : Nat) (y : List Int), i + d = x.length → y.length = x.length → y.take i = x.take i → Ev (fun k => laws_toByteS.l0 k x y i) x := by
  induction d with
  | zero =>
    intro i y hi hy ht
    refine Ev.step (f := fun _ => some y) (fun k => ?_) (ev_cast ?_ (Ev.now _))
    · simp only [laws_toByteS.l0]; rw [if_neg (by omega)]
    · rwa [List.take_of_length_le (by omega), List.take_of_length_le (by omega)] at ht
  | succ d ih =>
    intro i y hi hy ht
    have := ih (i + 1) (y.set i (rd x i)) (by omega) (by simpa using hy) (by
      rw [set_take _ _ _ (by omega), ht, List.take_succ_eq_append_getElem (by omega)]
      unfold rd
      simp [List.getElem?_eq_getElem (show i < x.length by omega)])
    refine Ev.step (fun k => ?_) this
    simp only [laws_toByteS.l0]
    rw [if_pos (by omega), if_pos (by omega), if_pos (by omega), w64 _ (by omega) (by omega)]
    rfl
theorem laws_toByteS_ev (x : List Int) (hl : (x.length : Int) ≤ 1048576) : Ev (fun k => laws_toByteS.f k x) x := by
  unfold laws_toByteS.f
  exact ev_pos (by omega) (ev_pos (by omega) (laws_toByteS_l x hl x.length 0 _ (by omega) (by simp) (by simp)))
theorem laws_eqByteS_l (x : List Int) (hl : (x.length : Int) ≤ 281474976710656) (d : Nat) : ∀ (i : Nat), i + d = x.length → Ev (fun k => laws_eqByteS.l0 k x x i) true := by
  induction d with
  | zero =>
    intro i hi
    refine Ev.step (f := fun _ => some true) (fun k => ?_) (Ev.now _)
    simp only [laws_eqByteS.l0]; rw [if_neg (by omega)]
  | succ d ih =>
    intro i hi
    refine Ev.step (fun k => ?_) (ih (i + 1) (by omega))
    simp only [laws_eqByteS.l0]
    rw [if_pos (by omega), if_pos (by omega), if_pos (by omega), if_pos trivial, w64 _ (by omega) (by omega)]
    rfl
theorem laws_eqByteS_ev (x : List Int) (hl : (x.length : Int) ≤ 281474976710656) : Ev (fun k => laws_eqByteS.f k x x) true := by
  unfold laws_eqByteS.f
  exact ev_pos rfl (laws_eqByteS_l x hl x.length 0 (by omega))
def markB (n : Nat) (k : Int) : List Int := (List.range n).map fun (i : Nat) => (k + (i : Int)) % 256
theorem markB_len (n : Nat) (k : Int) : (markB n k).length = n := by simp [markB]
theorem laws_markByteS_l (n : Nat) (k0 : Int) (hn : (n : Int) ≤ 8388608) (hk0 : 0 ≤ k0) (hk : k0 ≤ 8388608) (d : Nat) : ∀ (i : Nat) (y : List Int), i + d = n → y.length = n → y.take i = (markB n k0).take i → Ev (fun k => laws_markByteS.l0 k y (k0 + (i : Int)) i) (k0 + (n : Int), markB n k0) := by
  induction d with
  | zero =>
    intro i y hi hy ht
    refine Ev.step (f := fun _ => some (k0 + (i : Int), y)) (fun k => ?_) (ev_cast ?_ (Ev.now _))
    · simp only [laws_markByteS.l0]; rw [if_neg (by omega)]
    · rw [List.take_of_length_le (by omega), List.take_of_length_le (by rw [markB_len]; omega)] at ht
      rw [ht]; simp; omega
  | succ d ih =>
    intro i y hi hy ht
    have := ih (i + 1) (y.set i ((k0 + (i : Int)) % 256)) (by omega) (by simpa using hy) (by
      rw [set_take _ _ _ (by omega), ht, List.take_succ_eq_append_getElem (by rw [markB_len]; omega)]
      simp [markB])
    refine Ev.step (fun k => ?_) this
    simp only [laws_markByteS.l0]
    rw [if_pos (by omega), if_pos (by omega), w64 _ (by omega) (by omega), w64 _ (by omega) (by omega)]
    have e : k0 + (i : Int) + 1 = k0 + ((i + 1 : Nat) : Int) := by omega
    rw [e]
    rfl
theorem laws_markByteS_ev (l : List Int) (hl : (l.length : Int) ≤ 8388608) : Ev (fun k => laws_markByteS.f k l 1) (1 + (l.length : Int), markB l.length 1) := by
  have := laws_markByteS_l l.length 1 hl (by omega) (by omega) l.length 0 l (by omega) rfl (by simp)
  simpa [laws_markByteS.f] using this
theorem eq_loop (l : List S25) (hl : (l.length : Int) ≤ 4194304)
    (h : ∀ y ∈ l, Ev (fun k => laws_eqTerm.f k y.f0 y.f1 y.f2 y.f3 y.f0 y.f1 y.f2 y.f3) true) (d : Nat) : ∀ (i : Nat), i + d = l.length → Ev (fun k => laws_eqTermS.l0 k l l i) true := by
  induction d with
  | zero =>
    intro i hi
    refine Ev.step (f := fun _ => some true) (fun k => ?_) (Ev.now _)
    simp only [laws_eqTermS.l0]; rw [if_neg (by omega)]
  | succ d ih =>
    intro i hi
    have hlt : i < l.length := by omega
    have e := h _ (rdI_mem l i hlt)
    have hn := ih (i + 1) (by omega)
    generalize hy : rd_T25 l i = y at *
    refine Ev.step (f := fun k => (laws_eqTerm.f k y.f0 y.f1 y.f2 y.f3 y.f0 y.f1 y.f2 y.f3).bind fun t131 => (if t131 = true then (laws_eqTermS.l0 k l l (wrap64 ((i : Int) + 1))) else (some false))) (fun k => ?_) (Ev.bind e (ev_pos rfl ?_))
    · simp only [laws_eqTermS.l0]; rw [if_pos (by omega), if_pos (by omega), if_pos (by omega), hy]
    · rw [w64 _ (by omega) (by omega)]; exact hn
theorem eqS_of (l : List S25) (hl : (l.length : Int) ≤ 4194304) (h : ∀ y ∈ l, Ev (fun k => laws_eqTerm.f k y.f0 y.f1 y.f2 y.f3 y.f0 y.f1 y.f2 y.f3) true) : Ev (fun k => laws_eqTermS.f k l l) true := by
  refine Ev.step (fun k => ?_) (eq_loop l hl h l.length 0 (by omega))
  simp only [laws_eqTermS.f]; rw [if_pos trivial]; rfl
theorem eq_all : ∀ x, (budI x : Int) ≤ 4194304 → Ev (fun k => laws_eqTerm.f k x.f0 x.f1 x.f2 x.f3 x.f0 x.f1 x.f2 x.f3) true := by
  refine indI ?_
  intro a b s l ih hb
  rw [budI] at hb
  have hl := budIL_len l
  refine Ev.step (f := fun k => (laws_eqTermS.f k l l).bind fun t134 => (if t134 = true then (some true) else (some false))) (fun k => ?_) (Ev.bind (eqS_of l (by omega) (fun y hy => ih y hy (by have := budI_mem l y hy; omega))) (ev_pos rfl (Ev.now _)))
  simp only [laws_eqTerm.f]
  simp
theorem eqTerm_ev (a b : Int) (s : ByteArray) (l : List S25) (hb : (budI ⟨a, b, s, l⟩ : Int) ≤ 4194304) : Ev (fun k => laws_eqTerm.f k a b s l a b s l) true := eq_all _ hb
theorem str_one (x : Int) : (strOfNums [x]).size = 1 := by unfold strOfNums; rfl
theorem laws_markText_l0 (m : Nat) : ∀ (n : Nat) (x3 : ByteArray), n ≤ m → n ≤ 4000000000 → x3.size + n ≤ 5000000000 → ∃ r, Ev (fun k => laws_markText.l0 k (n : Int) x3) r := by
  have z : ∀ x3 : ByteArray, x3.size ≤ 5000000000 → ∃ r, Ev (fun k => laws_markText.l0 k ((0 : Nat) : Int) x3) r := fun x3 hs =>
    ⟨_, Ev.step (f := fun _ => (if 1 + x3.size ≤ 9223372036854775807 then (some ((⟨#[109]⟩ : ByteArray) ++ x3)) else none)) (fun k => by simp only [laws_markText.l0]; rw [if_neg (by omega)]) (ev_pos (by omega) (Ev.now _))⟩
  induction m with
  | zero =>
    intro n x3 hm h1 h2
    obtain rfl : n = 0 := by omega
    exact z x3 (by omega)
  | succ m ih =>
    intro n x3 hm h1 h2
    by_cases h0 : n = 0
    · subst h0; exact z x3 (by omega)
    · have ht : wrap64 (Int.tdiv (n : Int) 10) = ((n / 10 : Nat) : Int) := by
        rw [Int.tdiv_eq_ediv_of_nonneg (by omega), w64 _ (by omega) (by omega)]; omega
      obtain ⟨r, e⟩ := ih (n / 10) (strOfNums [(wrap64 (48 + (Int.tmod (n : Int) 10))) % 256] ++ x3) (by omega) (by omega) (by rw [ByteArray.size_append, str_one]; omega)
      refine ⟨r, Ev.step (f := fun k => (some (([(wrap64 (48 + (Int.tmod (n : Int) 10))) % 256] : List Int) : List Int)).bind fun y => (if (strOfNums y).size + x3.size ≤ 9223372036854775807 then (laws_markText.l0 k (wrap64 (Int.tdiv (n : Int) 10)) ((strOfNums y) ++ x3)) else (none))) (fun k => ?_) (Ev.bind (Ev.now _) (ev_pos ?_ ?_))⟩
      · simp only [laws_markText.l0]; rw [if_pos (by omega)]
      · rw [str_one]; omega
      · rw [ht]; exact e
theorem laws_markText_ev (n : Int) (h0 : 0 ≤ n) (h1 : n ≤ 4000000000) : ∃ r, Ev (fun k => laws_markText.f k n) r := by
  unfold laws_markText.f
  by_cases h : n ≤ 0
  · exact ⟨_, ev_pos h (Ev.now _)⟩
  · obtain ⟨m, rfl⟩ : ∃ m : Nat, n = (m : Int) := ⟨n.toNat, by omega⟩
    obtain ⟨r, e⟩ := laws_markText_l0 m m ⟨#[]⟩ (by omega) (by omega) (by show 0 + m ≤ _; omega)
    exact ⟨r, ev_neg h e⟩
noncomputable def mtx (n : Int) : ByteArray := if h : 0 ≤ n ∧ n ≤ 4000000000 then Classical.choose (laws_markText_ev n h.1 h.2) else ByteArray.empty
theorem mtx_ev (n : Int) (h0 : 0 ≤ n) (h1 : n ≤ 4000000000) : Ev (fun k => laws_markText.f k n) (mtx n) := by
  unfold mtx
  rw [dif_pos ⟨h0, h1⟩]
  exact Classical.choose_spec (laws_markText_ev n h0 h1)
mutual
noncomputable def mkT : S25 → Int → S25
  | ⟨_, _, _, l⟩, n => ⟨n, n + 1, mtx (n + 1 + 1), mkL l (n + 1 + 1 + 1)⟩
noncomputable def mkL : List S25 → Int → List S25
  | [], _ => []
  | x :: r, n => mkT x n :: mkL r (n + 3 * countM x)
end
theorem mkT_eq (x : S25) (n : Int) : mkT x n = ⟨n, n + 1, mtx (n + 1 + 1), mkL x.f3 (n + 1 + 1 + 1)⟩ := by obtain ⟨a, b, s, l⟩ := x; rw [mkT]
theorem countM_f3 (x : S25) : countM x = 1 + countML x.f3 := by obtain ⟨a, b, s, l⟩ := x; rw [countM]
theorem countML_cons (x : S25) (r : List S25) : (countML (x :: r) : Int) = 1 + countML x.f3 + countML r := by
  have := countM_f3 x
  rw [countML]; omega
theorem countML_len : ∀ l : List S25, l.length ≤ countML l
  | [] => by simp [countML]
  | x :: r => by
    have := countML_len r
    have := countM_f3 x
    rw [countML, List.length_cons]; omega
theorem rd_mid (p r : List S25) (x : S25) : rd_T25 (p ++ x :: r) (p.length : Int) = x := by
  have h : p.length < (p ++ x :: r).length := by simp
  rw [rdIx2 _ _ h]
  simp
theorem set_mid (p r : List S25) (x y : S25) : (p ++ x :: r).set p.length y = (p ++ [y]) ++ r := by
  rw [List.set_append_right _ _ (Nat.le_refl _)]
  simp
theorem mkv_loop (r : List S25) : ∀ (p : List S25) (x1 : Int), (∀ y ∈ r, ∀ n : Int, 0 ≤ n → n + 3 * countML y.f3 ≤ 100000000 → Ev (fun k => mkv.f k y.f3 n) (n + 3 * countML y.f3, mkL y.f3 n)) → p.length + r.length ≤ 100000000 → 0 ≤ x1 → x1 + 3 * countML r ≤ 100000000 →
    Ev (fun k => mkv.l0 k (p ++ r) x1 p.length) (x1 + 3 * countML r, p ++ mkL r x1) := by
  induction r with
  | nil =>
    intro p x1 _ _ h0 h1
    refine Ev.step (f := fun _ => some (x1, p ++ [])) (fun k => ?_) (ev_cast ?_ (Ev.now _))
    · simp only [mkv.l0]; rw [if_neg (by simp)]
    · rw [countML, mkL]; simp
  | cons x r ih =>
    intro p x1 h hl h0 h1
    have hc := countML_cons x r
    have hl2 : p.length + (r.length + 1) ≤ 100000000 := by simpa using hl
    refine Ev.step (f := fun k => (laws_markText.f k (x1 + 1 + 1)).bind fun t2 => ((mkv.f k x.f3 (x1 + 1 + 1 + 1)).bind fun t3 => (mkv.l0 k ((p ++ x :: r).set (p.length : Int).toNat ⟨x1, wrap64 (x1 + 1), t2, t3.2⟩) t3.1 (wrap64 ((p.length : Int) + 1))))) (fun k => ?_)
      (Ev.bind (mtx_ev _ (by omega) (by omega)) (Ev.bind (h x (List.mem_cons_self ..) (x1 + 1 + 1 + 1) (by omega) (by omega)) ?_))
    · simp only [mkv.l0]
      rw [if_pos (by rw [List.length_append, List.length_cons]; omega), if_pos (by omega), rd_mid, w64 (x1 + 1) (by omega) (by omega), w64 (x1 + 1 + 1) (by omega) (by omega), w64 (x1 + 1 + 1 + 1) (by omega) (by omega)]
    · rw [w64 (x1 + 1) (by omega) (by omega), w64 ((p.length : Int) + 1) (by omega) (by omega), Int.toNat_natCast, set_mid]
      have e := ih (p ++ [(⟨x1, x1 + 1, mtx (x1 + 1 + 1), mkL x.f3 (x1 + 1 + 1 + 1)⟩ : S25)]) (x1 + 1 + 1 + 1 + 3 * countML x.f3) (fun y hy => h y (List.mem_cons_of_mem _ hy)) (by rw [List.length_append]; simp; omega) (by omega) (by omega)
      rw [List.length_append] at e
      refine ev_cast ?_ e
      have e1 : x1 + 1 + 1 + 1 + 3 * (countML x.f3 : Int) = x1 + 3 * countM x := by have := countM_f3 x; omega
      rw [mkL, mkT_eq, e1, List.append_assoc]
      have e2 : x1 + 3 * (countM x : Int) + 3 * (countML r : Int) = x1 + 3 * countML (x :: r) := by have := countM_f3 x; omega
      rw [e2]; rfl
theorem mkv_all : ∀ x : S25, ∀ n : Int, 0 ≤ n → n + 3 * countML x.f3 ≤ 100000000 → Ev (fun k => mkv.f k x.f3 n) (n + 3 * countML x.f3, mkL x.f3 n) := by
  refine indI (fun a b s l ih n h0 h1 => ?_)
  have hl := countML_len l
  have h1' : n + 3 * (countML l : Int) ≤ 100000000 := h1
  have e := mkv_loop l [] n (fun y hy => ih y hy) (by simp; omega) h0 h1
  exact Ev.step (fun k => by simp only [mkv.f]; rfl) e
theorem held_loop (r : List S25) : ∀ (p : List S25) (x1 : Int), (∀ y ∈ r, ∀ n : Int, 0 ≤ n → n + 3 * countML y.f3 ≤ 100000000 → Ev (fun k => laws_heldTermS.f k (mkL y.f3 n) n) (n + 3 * countML y.f3)) → p.length + r.length ≤ 100000000 → 0 ≤ x1 → x1 + 3 * countML r ≤ 100000000 →
    Ev (fun k => laws_heldTermS.l0 k (p ++ mkL r x1) x1 p.length) (x1 + 3 * countML r) := by
  induction r with
  | nil =>
    intro p x1 _ _ h0 h1
    refine Ev.step (f := fun _ => some x1) (fun k => ?_) (ev_cast ?_ (Ev.now _))
    · rw [mkL]; simp only [laws_heldTermS.l0]; rw [if_neg (by simp)]
    · rw [countML]; simp
  | cons x r ih =>
    intro p x1 h hl h0 h1
    have hc := countML_cons x r
    have hl2 : p.length + (r.length + 1) ≤ 100000000 := by simpa using hl
    rw [mkL, mkT_eq]
    have e1 : x1 + 3 * (countM x : Int) = x1 + 1 + 1 + 1 + 3 * countML x.f3 := by have := countM_f3 x; omega
    rw [e1]
    refine Ev.step (f := fun k => (laws_markText.f k (x1 + 1 + 1)).bind fun t => (if (mtx (x1 + 1 + 1)).toList = t.toList then ((laws_heldTermS.f k (mkL x.f3 (x1 + 1 + 1 + 1)) (x1 + 1 + 1 + 1)).bind fun t217 => (if t217 < 0 then (some (-1)) else (laws_heldTermS.l0 k (p ++ (⟨x1, x1 + 1, mtx (x1 + 1 + 1), mkL x.f3 (x1 + 1 + 1 + 1)⟩ : S25) :: mkL r (x1 + 1 + 1 + 1 + 3 * countML x.f3)) t217 (wrap64 ((p.length : Int) + 1))))) else (some (-1)))) (fun k => ?_)
      (Ev.bind (mtx_ev _ (by omega) (by omega)) (ev_pos rfl (Ev.bind (h x (List.mem_cons_self ..) (x1 + 1 + 1 + 1) (by omega) (by omega)) (ev_neg (by omega) ?_))))
    · simp only [laws_heldTermS.l0]
      rw [if_pos (by rw [List.length_append, List.length_cons]; omega), if_pos (by omega), rd_mid, if_pos rfl, w64 (x1 + 1) (by omega) (by omega), if_pos rfl, w64 (x1 + 1 + 1) (by omega) (by omega), w64 (x1 + 1 + 1 + 1) (by omega) (by omega)]
    · rw [w64 ((p.length : Int) + 1) (by omega) (by omega)]
      have e := ih (p ++ [(⟨x1, x1 + 1, mtx (x1 + 1 + 1), mkL x.f3 (x1 + 1 + 1 + 1)⟩ : S25)]) (x1 + 1 + 1 + 1 + 3 * countML x.f3) (fun y hy => h y (List.mem_cons_of_mem _ hy)) (by rw [List.length_append]; simp; omega) (by omega) (by omega)
      rw [List.length_append, List.append_assoc] at e
      exact ev_cast (by omega) e
theorem held_all : ∀ x : S25, ∀ n : Int, 0 ≤ n → n + 3 * countML x.f3 ≤ 100000000 → Ev (fun k => laws_heldTermS.f k (mkL x.f3 n) n) (n + 3 * countML x.f3) := by
  refine indI (fun a b s l ih n h0 h1 => ?_)
  have hl := countML_len l
  have h1' : n + 3 * (countML l : Int) ≤ 100000000 := h1
  have e := held_loop l [] n (fun y hy => ih y hy) (by simp; omega) h0 h1
  exact Ev.step (fun k => by simp only [laws_heldTermS.f]; rfl) e
theorem heldMk_ev (a b : Int) (s : ByteArray) (l : List S25) (h : (countML l : Int) ≤ 10000000) (a2 b2 : Int) (s2 : ByteArray) : Ev (fun k => laws_heldTerm.f k a2 b2 s2 (mkL l 1) 1) (1 + 3 * countML l) := by
  unfold laws_heldTerm.f
  exact Ev.bind (held_all ⟨a, b, s, l⟩ 1 (by omega) (by show 1 + 3 * (countML l : Int) ≤ _; omega)) (ev_neg (by show ¬ (1 + 3 * (countML l : Int) < 0); omega) (Ev.now _))
theorem mkvMk_ev (a b : Int) (s : ByteArray) (l : List S25) (h : (countML l : Int) ≤ 10000000) : Ev (fun k => mkv.f k l 1) (1 + 3 * countML l, mkL l 1) := mkv_all ⟨a, b, s, l⟩ 1 (by omega) (by show 1 + 3 * (countML l : Int) ≤ _; omega)
theorem getT_both (B : List Int) (hb : BytesB B) (hl : (B.length : Int) ≤ 1048576) : ∃ (x : S25) (q : Bool), (budI x : Int) ≤ 4194304 ∧ Ev (fun k => impl_GetTerm.f k B) (x.f0, x.f1, x.f2, x.f3, q) ∧ Ev (fun k => spec_GetTerm.f k B) (x.f0, x.f1, x.f2, x.f3, q) := by
  by_cases hr : Right B
  · obtain ⟨x, hok, rfl⟩ := hr
    have hb2 : (budI x : Int) ≤ 4194304 := by
      have e := sget_total (encT x) hb hl 8 (by omega) 0
      obtain ⟨h1, h2⟩ := termOk_parts hok
      obtain ⟨y, j, ok, e1, hg⟩ := e
      have e2 := sget_all x 8 h1 (by omega) (encT x) [] [] hb hl (by simp)
      have q := ev_uniq e1 e2
      simp only [Prod.mk.injEq] at q
      obtain ⟨q0, q1, q2, q3, q4, q5⟩ := q
      have hg1 := (hg q5).2.2.2
      have hy : y = x := by
        cases x; cases y
        simp only at q0 q1 q2 q3
        rw [q0, q1, q2, q3]
      rw [hy] at hg1
      omega
    exact ⟨x, true, hb2, impl_GetTerm_put x hb2 hok, sgetT_put x hb2 hok⟩
  · exact ⟨⟨0, 0, ⟨#[]⟩, []⟩, false, by rw [budI, budIL]; decide, iget_not B hb hl hr, sgetT_not B hb hl hr⟩
theorem FnExactGetTerm : laws_FnExactGetTerm.Pure := by
  intro l hl0 hl1 hb0
  have hb : BytesB l := fun x hx => wf_u8 (hb0 x hx)
  refine Ev.rounds (g := fun k => laws_FnExactGetTerm.f k l) ?_
  unfold laws_FnExactGetTerm.f
  by_cases h : (l.length : Int) > 1048576
  · exact ev_pos h (Ev.now _)
  have hl : (l.length : Int) ≤ 1048576 := by omega
  refine ev_neg h ?_
  have et := laws_toByteS_ev l hl
  have eb := laws_eqByteS_ev l (by omega)
  obtain ⟨x, q, hB, ei, es⟩ := getT_both l hb hl
  obtain ⟨t0, t1, t2, t3⟩ := x
  simp only [] at es ei
  have eq := eqTerm_ev t0 t1 t2 t3 hB
  have hcl := countL_bud t3
  rw [budI_mk] at hB
  have hcl2 : (countML t3 : Int) ≤ 10000000 := by omega
  have ek := mkvMk_ev t0 t1 t2 t3 hcl2
  have eh := heldMk_ev t0 t1 t2 t3 hcl2 t0 t1 t2
  have eq' : Ev (fun k => laws_deepEqTerm.f k t0 t1 t2 t3 t0 t1 t2 t3) true := eq
  have ei' : Ev (fun k => impl_deepGetTerm.f k l) (t0, t1, t2, t3, q) := ei
  have ek' : Ev (fun k => laws_deepMarkTerm.f k t0 t1 t2 t3 1) (1 + 3 * (countML t3 : Int), mkL t3 1) := ek
  have eh' : Ev (fun k => laws_deepHeldTerm.f k t0 t1 t2 (mkL t3 1) 1) (1 + 3 * (countML t3 : Int)) := eh
  have em := laws_markByteS_ev l (by omega)
  have hq : (q != q) = false := by cases q <;> rfl
  refine Ev.step (fun k => by simp only [laws_FnExactGetTerm.j0]; rfl) ?_
  refine Ev.bind et (Ev.bind es (Ev.bind et (Ev.bind ei' (Ev.bind eq' (ev_pos rfl ?_)))))
  refine Ev.step (f := fun k => laws_FnExactGetTerm.j2 k l q l q t0 t1 t2 t3 t0 t1 t2 t3) (fun k => by simp only [laws_FnExactGetTerm.j1, hq]; rw [if_neg (by decide)]) ?_
  refine Ev.step (fun k => by simp only [laws_FnExactGetTerm.j2]; rfl) ?_
  refine Ev.bind et (Ev.bind eb (ev_pos rfl ?_))
  refine Ev.step (fun k => by simp only [laws_FnExactGetTerm.j3]; rfl) ?_
  refine Ev.bind em (ev_neg (by simp only []; omega) (Ev.bind eq' (ev_pos rfl ?_)))
  refine Ev.step (f := fun k => laws_FnExactGetTerm.j5 k l q t0 t1 t2 t3 t0 t1 t2 t3) (fun k => by simp only [laws_FnExactGetTerm.j4, hq]; rw [if_neg (by decide)]) ?_
  refine Ev.step (fun k => by simp only [laws_FnExactGetTerm.j5]; rfl) ?_
  refine Ev.bind ek' (Ev.bind eh' (ev_neg (by omega) ?_))
  refine Ev.step (f := fun k => laws_FnExactGetTerm.j7 k l q (1 + 3 * (countML t3 : Int)) t0 t1 t2 t3 t0 t1 t2 (mkL t3 1)) (fun k => by simp only [laws_FnExactGetTerm.j6]; rw [if_pos trivial]) ?_
  refine Ev.step (fun k => by simp only [laws_FnExactGetTerm.j7]; rfl) ?_
  refine Ev.bind et (Ev.bind ei (Ev.bind eq (ev_pos rfl ?_)))
  refine Ev.step (f := fun k => laws_FnExactGetTerm.j9 k (1 + 3 * (countML t3 : Int)) t0 t1 t2 (mkL t3 1)) (fun k => by simp only [laws_FnExactGetTerm.j8, hq]; rw [if_neg (by decide)]) ?_
  refine Ev.step (fun k => by simp only [laws_FnExactGetTerm.j9]; rfl) ?_
  exact Ev.bind eh' (ev_neg (by omega) (ev_pos rfl (Ev.now _)))

end Go.Proofs.Ytefkjmkmojmllaa.Pure
