/- What the law FnExactSameCode of this seat says holds for every input that its row speaks of; no further condition. -/
import Derived.Test.YtiogbffgjogmoaaQFnExactSameCodex10
set_option linter.unusedVariables false
set_option linter.unusedSimpArgs false
namespace Go.Proofs.Ytiogbffgjogmoaa.Pure
open Go.RowKit Go.Proofs.Ytiogbffgjogmoaa.QFnExactSameCode Go.Proofs.YtiogbffgjogmoaaW.PrintWords Go.Proofs.YtiogbffgjogmoaaW.PrintLast Go.Proofs.YtiogbffgjogmoaaW.PrintMore

theorem ev_pos {α : Type} {c : Prop} [Decidable c] {A B : Nat → Option α} {r : α} (h : c) (e : Ev A r) : Ev (fun k => if c then A k else B k) r := by
  obtain ⟨K, hK⟩ := e
  exact ⟨K, fun k hk => by simp only [if_pos h]; exact hK k hk⟩
theorem ev_neg {α : Type} {c : Prop} [Decidable c] {A B : Nat → Option α} {r : α} (h : ¬ c) (e : Ev B r) : Ev (fun k => if c then A k else B k) r := by
  obtain ⟨K, hK⟩ := e
  exact ⟨K, fun k hk => by simp only [if_neg h]; exact hK k hk⟩
theorem ev_of {α : Type} {o : Option α} {r : α} (h : o = some r) : Ev (fun _ => o) r := ⟨0, fun _ _ => h⟩
theorem ev_cast {α : Type} {g : Nat → Option α} {r r' : α} (h : r = r') (e : Ev g r) : Ev g r' := h ▸ e
theorem ev_uniq {α : Type} {g : Nat → Option α} {r r' : α} (h : Ev g r) (h' : Ev g r') : r = r' := by
  obtain ⟨K, hK⟩ := h
  obtain ⟨K', hK'⟩ := h'
  have a := hK (max K K') (Nat.le_max_left _ _)
  have b := hK' (max K K') (Nat.le_max_right _ _)
  rw [a] at b
  exact Option.some.inj b
theorem w64 (n : Int) (h0 : -9223372036854775808 ≤ n) (h1 : n ≤ 9223372036854775807) : wrap64 n = n := by unfold wrap64; omega
theorem dec_and (p q : Prop) [Decidable p] [Decidable q] : decide (p ∧ q) = (decide p && decide q) := by
  by_cases hp : p <;> by_cases hq : q <;> simp [hp, hq]
def szRes (left : Int) (b : Nat) : Int := if (b : Int) ≤ left then left - b else -1
theorem getDG {α : Type} (z : α) (l : List α) (i : Nat) (h : i < l.length) : l.getD ((i : Int)).toNat z = l[i] := by
  simp [List.getD_eq_getElem?_getD, List.getElem?_eq_getElem h]
theorem map_loop {α β : Type} (L : Nat → List β → Int → Option (List β)) (f : α → β) (l : List α)
    (hstep : ∀ (i : Nat) (h : i < l.length) (x : List β) (r : List β), x.length = l.length → Ev (fun k => L k (x.set i (f l[i])) ((i + 1 : Nat) : Int)) r → Ev (fun k => L k x (i : Int)) r)
    (hend : ∀ x : List β, x.length = l.length → Ev (fun k => L k x (l.length : Int)) x) (d : Nat) :
    ∀ (i : Nat) (x : List β), i + d = l.length → x.length = l.length → x.take i = (l.map f).take i → Ev (fun k => L k x (i : Int)) (l.map f) := by
  induction d with
  | zero =>
    intro i x hi hx ht
    have e : i = l.length := by omega
    subst e
    refine ev_cast ?_ (hend x hx)
    rwa [List.take_of_length_le (by omega), List.take_of_length_le (by rw [List.length_map]; omega)] at ht
  | succ d ih =>
    intro i x hi hx ht
    have hlt : i < l.length := by omega
    refine hstep i hlt x _ hx (ih (i + 1) _ (by omega) (by simpa using hx) ?_)
    rw [List.take_succ_eq_append_getElem (by simpa using (by omega : i < x.length)), List.take_set_of_le (Nat.le_refl i), ht, List.take_succ_eq_append_getElem (by simpa using hlt)]
    simp
theorem map_loop0 {α β : Type} (L : Nat → List β → Int → Option (List β)) (f : α → β) (l : List α) (z : β)
    (hstep : ∀ (i : Nat) (h : i < l.length) (x : List β) (r : List β), x.length = l.length → Ev (fun k => L k (x.set i (f l[i])) ((i + 1 : Nat) : Int)) r → Ev (fun k => L k x (i : Int)) r)
    (hend : ∀ x : List β, x.length = l.length → Ev (fun k => L k x (l.length : Int)) x) : Ev (fun k => L k (List.replicate l.length z) 0) (l.map f) :=
  map_loop L f l hstep hend l.length 0 (List.replicate l.length z) (by omega) (by simp) (by simp)
def sumB {α : Type} (bud : α → Nat) : List α → Nat
  | [] => 0
  | x :: r => bud x + sumB bud r
theorem sumB_drop {α : Type} (bud : α → Nat) (l : List α) (i : Nat) (h : i < l.length) : sumB bud (l.drop i) = bud l[i] + sumB bud (l.drop (i + 1)) := by
  rw [List.drop_eq_getElem_cons h, sumB]
theorem sumB_mem {α : Type} (bud : α → Nat) : ∀ (l : List α) (x : α), x ∈ l → bud x ≤ sumB bud l
  | [], x, h => by cases h
  | y :: r, x, h => by
    rw [sumB]
    rcases List.mem_cons.1 h with rfl | h
    · omega
    · have := sumB_mem bud r x h; omega
theorem sz_loopG {α : Type} (L : Nat → Int → Int → Option Int) (bud : α → Nat) (l : List α)
    (hstep : ∀ (i : Nat) (h : i < l.length) (left r : Int), 0 ≤ left → left ≤ 1048576 → ((bud l[i] : Int) ≤ left → Ev (fun k => L k (left - bud l[i]) ((i + 1 : Nat) : Int)) r) → (¬ (bud l[i] : Int) ≤ left → r = -1) → Ev (fun k => L k left (i : Int)) r)
    (hend : ∀ left : Int, Ev (fun k => L k left (l.length : Int)) left) (d : Nat) :
    ∀ (i : Nat) (left : Int), i + d = l.length → 0 ≤ left → left ≤ 1048576 → Ev (fun k => L k left (i : Int)) (szRes left (sumB bud (l.drop i))) := by
  induction d with
  | zero =>
    intro i left hi h0 h1
    have e : i = l.length := by omega
    subst e
    refine ev_cast ?_ (hend left)
    rw [List.drop_eq_nil_of_le (by omega), sumB]; unfold szRes; rw [if_pos (by omega)]; omega
  | succ d ih =>
    intro i left hi h0 h1
    have hlt : i < l.length := by omega
    rw [sumB_drop bud l i hlt]
    refine hstep i hlt left _ h0 h1 (fun hb => ?_) (fun hb => ?_)
    · refine ev_cast ?_ (ih (i + 1) (left - bud l[i]) (by omega) (by omega) (by omega))
      unfold szRes
      by_cases hc : (sumB bud (l.drop (i + 1)) : Int) ≤ left - bud l[i]
      · rw [if_pos hc, if_pos (by omega)]; omega
      · rw [if_neg hc, if_neg (by omega)]
    · unfold szRes; rw [if_neg (by omega)]
def allFrom (p : Nat → Bool) (i d : Nat) : Bool := (List.range' i d).all p
theorem all_loop (L : Nat → Int → Option Bool) (p : Nat → Bool) (n : Nat)
    (hstep : ∀ (i : Nat), i < n → ∀ r, (p i = true → Ev (fun k => L k ((i + 1 : Nat) : Int)) r) → (p i = false → r = false) → Ev (fun k => L k (i : Int)) r)
    (hend : Ev (fun k => L k (n : Int)) true) (d : Nat) : ∀ i : Nat, i + d = n → Ev (fun k => L k (i : Int)) (allFrom p i d) := by
  induction d with
  | zero =>
    intro i hi
    have e : i = n := by omega
    subst e
    exact hend
  | succ d ih =>
    intro i hi
    refine hstep i (by omega) _ (fun hp => ?_) (fun hp => ?_)
    · refine ev_cast ?_ (ih (i + 1) (by omega))
      unfold allFrom
      rw [List.range'_succ, List.all_cons, hp, Bool.true_and]
    · unfold allFrom
      rw [List.range'_succ, List.all_cons, hp, Bool.false_and]
theorem P_indI {P : S53 → Prop} (h : ∀ a b s l, (∀ y ∈ l, P y) → P ⟨a, b, s, l⟩) : ∀ x, P x := by
  intro x
  refine S53.rec (motive_1 := P) (motive_2 := fun l => ∀ y ∈ l, P y) ?_ ?_ ?_ x
  · intro a b s l hl
    exact h a b s l hl
  · intro y hy; cases hy
  · intro x r hx hr y hy
    rcases List.mem_cons.1 hy with rfl | hy
    · exact hx
    · exact hr y hy
mutual
def P_budI : S53 → Nat
  | ⟨_, _, s, l⟩ => s.size + P_budIL l
def P_budIL : List S53 → Nat
  | [] => 0
  | x :: r => 1 + P_budI x + P_budIL r
end
theorem P_budI_mk (a b : Int) (s : ByteArray) (l : List S53) : P_budI ⟨a, b, s, l⟩ = s.size + P_budIL l := by rw [P_budI]
theorem P_budIL_len : ∀ l : List S53, l.length ≤ P_budIL l
  | [] => by simp [P_budIL]
  | x :: r => by
    have := P_budIL_len r
    rw [P_budIL, List.length_cons]; omega
theorem P_rdI_mem (l : List S53) (i : Nat) (h : i < l.length) : rd_T53 l i ∈ l := by
  unfold rd_T53
  simp [List.getD_eq_getElem?_getD, List.getElem?_eq_getElem h]
theorem P_dropI (l : List S53) (i : Nat) (h : i < l.length) : l.drop i = rd_T53 l i :: l.drop (i + 1) := by
  rw [List.drop_eq_getElem_cons h]
  unfold rd_T53
  simp [List.getElem?_eq_getElem h]
theorem P_budI_mem : ∀ (l : List S53) (x : S53), x ∈ l → P_budI x + 1 ≤ P_budIL l
  | [], x, h => by cases h
  | y :: r, x, h => by
    rw [P_budIL]
    rcases List.mem_cons.1 h with rfl | h
    · omega
    · have := P_budI_mem r x h; omega
theorem P_etaI (x : S53) : (⟨x.f0, x.f1, x.f2, x.f3⟩ : S53) = x := by cases x; rfl
theorem P_indL {P : S49 → Prop} (h : ∀ a b s l, (∀ y ∈ l, P y) → P ⟨a, b, s, l⟩) : ∀ x, P x := by
  intro x
  refine S49.rec (motive_1 := P) (motive_2 := fun l => ∀ y ∈ l, P y) ?_ ?_ ?_ x
  · intro a b s l hl
    exact h a b s l hl
  · intro y hy; cases hy
  · intro x r hx hr y hy
    rcases List.mem_cons.1 hy with rfl | hy
    · exact hx
    · exact hr y hy
mutual
def P_budL : S49 → Nat
  | ⟨_, _, s, l⟩ => s.size + (l.length + P_budLE l)
def P_budLE : List S49 → Nat
  | [] => 0
  | x :: r => P_budL x + P_budLE r
end
mutual
def P_cv : S49 → S53
  | ⟨a, b, s, l⟩ => ⟨a, b, s, P_cvL l⟩
def P_cvL : List S49 → List S53
  | [] => []
  | x :: r => P_cv x :: P_cvL r
end
theorem P_cvL_len : ∀ l, (P_cvL l).length = l.length
  | [] => rfl
  | x :: r => by rw [P_cvL, List.length_cons, List.length_cons, P_cvL_len r]
theorem P_cvL_map : ∀ l, P_cvL l = l.map P_cv
  | [] => rfl
  | x :: r => by rw [P_cvL, List.map_cons, P_cvL_map r]
mutual
theorem P_bud_cv : ∀ x, P_budI (P_cv x) = P_budL x
  | ⟨a, b, s, l⟩ => by rw [P_cv, P_budI, P_budL, P_bud_cvL l]
theorem P_bud_cvL : ∀ l, P_budIL (P_cvL l) = l.length + P_budLE l
  | [] => by rw [P_cvL, P_budIL, P_budLE]; rfl
  | x :: r => by rw [P_cvL, P_budIL, P_budLE, P_bud_cv x, P_bud_cvL r, List.length_cons]; omega
end
theorem P_rdL_mem (l : List S49) (i : Nat) (h : i < l.length) : rd_T49 l i ∈ l := by
  unfold rd_T49
  simp [List.getD_eq_getElem?_getD, List.getElem?_eq_getElem h]
theorem P_dropL (l : List S49) (i : Nat) (h : i < l.length) : l.drop i = rd_T49 l i :: l.drop (i + 1) := by
  rw [List.drop_eq_getElem_cons h]
  unfold rd_T49
  simp [List.getElem?_eq_getElem h]
theorem P_wfL_mem (l : List S49) (h : wfl49 l) : ∀ x ∈ l, wf49 x := (wfl49_iff l).1 h
theorem P_wfL_mk {a b : Int} {s : ByteArray} {l : List S49} (h : wf49 ⟨a, b, s, l⟩) : (Lit.int .i64 a).wf = true ∧ (Lit.int .i64 b).wf = true ∧ (s.size : Int) ≤ 9223372036854775807 ∧ (l.length : Int) ≤ 9223372036854775807 ∧ ∀ x ∈ l, wf49 x := by
  unfold wf49 at h
  obtain ⟨h0, h1, h2, h3, h4⟩ := h
  unfold maxLen at h2 h3
  exact ⟨h0, h1, by omega, by omega, P_wfL_mem l h4⟩
theorem rd_li (l : List S158) (i : Nat) (h : i < l.length) : rd_T158 l (i : Int) = l[i] := getDG _ l i h
theorem rd_ii (l : List S103) (i : Nat) (h : i < l.length) : rd_T103 l (i : Int) = l[i] := getDG _ l i h
theorem rd_lf (l : List S119) (i : Nat) (h : i < l.length) : rd_T119 l (i : Int) = l[i] := getDG _ l i h
theorem rd_if (l : List S75) (i : Nat) (h : i < l.length) : rd_T75 l (i : Int) = l[i] := getDG _ l i h
theorem rd_ip (l : List S53) (i : Nat) (h : i < l.length) : rd_T53 l (i : Int) = l[i] := getDG _ l i h
def budIns (x : S158) : Nat := x.f2.size
def budFn (x : S119) : Nat := x.f0.size + (x.f3.length + sumB budIns x.f3)
def budFns (l : List S119) : Nat := l.length + sumB budFn l
def budPats (l : List S49) : Nat := l.length + P_budLE l
def budCode (x : S25) : Nat := budFns x.f0 + budPats x.f1
def cvIns (x : S158) : S103 := ⟨x.f0, x.f1, x.f2, x.f3⟩
def cvFn (x : S119) : S75 := ⟨x.f0, x.f1, x.f2, x.f3.map cvIns⟩
theorem wfIns_mk {x : S158} (h : wf158 x) : (x.f2.size : Int) ≤ 9223372036854775807 := by
  obtain ⟨a, b, s, c⟩ := x
  unfold wf158 at h
  obtain ⟨_, _, h, _⟩ := h
  unfold maxLen at h
  show (s.size : Int) ≤ _
  omega
theorem wfFn_mk {x : S119} (h : wf119 x) : (x.f0.size : Int) ≤ 9223372036854775807 ∧ (x.f3.length : Int) ≤ 9223372036854775807 ∧ ∀ y ∈ x.f3, wf158 y := by
  obtain ⟨s, b, c, l⟩ := x
  unfold wf119 at h
  obtain ⟨h, _, _, h2, h3⟩ := h
  unfold maxLen at h h2
  exact ⟨by show (s.size : Int) ≤ _; omega, by show (l.length : Int) ≤ _; omega, h3⟩
theorem wfCode_mk {a : List S119} {b : List S49} (h : wf25 ⟨a, b⟩) : (a.length : Int) ≤ 9223372036854775807 ∧ (∀ y ∈ a, wf119 y) ∧ (b.length : Int) ≤ 9223372036854775807 ∧ ∀ y ∈ b, wf49 y := by
  unfold wf25 at h
  obtain ⟨⟨h, h1⟩, h2, h3⟩ := h
  unfold maxLen at h h2
  exact ⟨by omega, h1, by omega, h3⟩
theorem wf_u8 {x : Int} (h : (Lit.int .u8 x).wf = true) : 0 ≤ x ∧ x < 256 := by
  simp [Lit.wf, IntKind.min, IntKind.max, IntKind.bits, IntKind.signed] at h
  omega
theorem wf_i64 {x : Int} (h : (Lit.int .i64 x).wf = true) : -9223372036854775808 ≤ x ∧ x ≤ 9223372036854775807 := by
  simp [Lit.wf, IntKind.min, IntKind.max, IntKind.bits, IntKind.signed] at h
  omega
def BytesB (l : List Int) : Prop := ∀ x ∈ l, 0 ≤ x ∧ x < 256
theorem BytesB.at_ {l : List Int} (h : BytesB l) (i : Int) : 0 ≤ rd l i ∧ rd l i < 256 := by
  unfold rd
  rw [List.getD_eq_getElem?_getD]
  by_cases hi : i.toNat < l.length
  · rw [List.getElem?_eq_getElem hi]; exact h _ (List.getElem_mem hi)
  · rw [List.getElem?_eq_none (by omega)]; decide
theorem drop_rd (l : List Int) (p : Nat) (h : p < l.length) : l.drop p = rd l p :: l.drop (p + 1) := by
  rw [List.drop_eq_getElem_cons h]
  unfold rd
  simp [List.getElem?_eq_getElem h]
theorem hk63 (n : Int) (h0 : 0 ≤ n) (h1 : n < 2 ^ 63) : IntKind.i64.wrap n = n := by
  rw [IntKind.wrap_i64]; omega
theorem or_comm64 (a b : Int) : Go.bits .or .i64 a b = Go.bits .or .i64 b a := by
  unfold Go.bits
  simp only [BitVec.or_comm]
theorem and127 (c : Int) (h0 : 0 ≤ c) (h1 : c < 256) : Go.bits .and .i64 c 127 = c % 128 := by
  have := bits_mask .i64 63 (by decide) hk63 7 (by decide) c h0 (by omega)
  simpa using this
theorem wrapU7 (i : Nat) (hi : i < 6) : IntKind.u64.wrap (wrap64 (7 * (i : Int))) = 7 * (i : Int) := by
  rw [w64 _ (by omega) (by omega)]
  simp [IntKind.wrap, IntKind.bits, IntKind.signed]
  omega
theorem p7 (i : Nat) (hi : i < 6) : (1 : Int) ≤ 2 ^ (7 * i) ∧ (2 : Int) ^ (7 * i) ≤ 34359738368 ∧ (2 : Int) ^ (7 * (i + 1)) = 128 * 2 ^ (7 * i) := by
  have : i = 0 ∨ i = 1 ∨ i = 2 ∨ i = 3 ∨ i = 4 ∨ i = 5 := by omega
  rcases this with rfl | rfl | rfl | rfl | rfl | rfl <;> decide
theorem grp (x c : Int) (i : Nat) (hi : i < 6) (hx0 : 0 ≤ x) (hx : x < 2 ^ (7 * i)) (hc0 : 0 ≤ c) (hc : c < 256) :
    Go.bits .or .i64 x (shl .i64 (Go.bits .and .i64 c 127) (IntKind.u64.wrap (wrap64 (7 * (i : Int))))) = x + (c % 128) * 2 ^ (7 * i) := by
  obtain ⟨hp1, hp2, _⟩ := p7 i hi
  rw [and127 c hc0 hc, wrapU7 i hi]
  unfold shl
  have hm : min (7 * (i : Int)).toNat (IntKind.i64.bits) = 7 * i := by show min _ 64 = _; omega
  have hb : 0 ≤ c % 128 ∧ c % 128 ≤ 127 := by omega
  have hq0 : 0 ≤ c % 128 * 2 ^ (7 * i) := Int.mul_nonneg hb.1 (by omega)
  have hq1 : c % 128 * 2 ^ (7 * i) ≤ 127 * 34359738368 := Int.mul_le_mul hb.2 hp2 (by omega) (by decide)
  rw [hm, hk63 _ hq0 (by omega), or_comm64]
  rw [bits_join .i64 63 (by decide) hk63 (7 * i) _ x hq0 (Int.mul_emod_left _ _) (by omega) hx0 hx (by omega)]
  omega
/-- What stands at a place: groups of seven bits; the number, and how many bytes. -/
def numM : Nat → Nat → Int → List Int → Option (Int × Nat)
  | 0, _, _, _ => none
  | _ + 1, _, _, [] => none
  | n + 1, i, x, c :: r => if c > 127 then numM n (i + 1) (x + (c % 128) * 2 ^ (7 * i)) r else if c = 0 ∧ 0 < i then none else some (x + (c % 128) * 2 ^ (7 * i), i + 1)
def zag (m : Int) : Int := if m % 2 = 1 then -(m / 2) - 1 else m / 2
def numFin (a : Int) : Option (Int × Nat) → Int × Int × Bool
  | none => (0, 0, false)
  | some (m, c) => if -1000000000000 ≤ zag m ∧ zag m ≤ 1000000000000 then (zag m, a + c, true) else (0, 0, false)
def getNumM (l : List Int) (a : Int) : Int × Int × Bool := if 0 ≤ a ∧ a < l.length then numFin a (numM 6 0 0 (l.drop a.toNat)) else (0, 0, false)
theorem P_sz_loop (l : List S49) (hl : (l.length : Int) ≤ 9223372036854775807)
    (h : ∀ y ∈ l, ∀ left : Int, 0 ≤ left → left ≤ 1048576 → Ev (fun k => laws_szPat.f k y.f0 y.f1 y.f2 y.f3 left) (szRes left (P_budL y))) (d : Nat) :
    ∀ (i : Nat) (left : Int), i + d = l.length → 0 ≤ left → left ≤ 1048576 → Ev (fun k => laws_szPatS.l0 k l left i) (szRes left (P_budLE (l.drop i))) := by
  induction d with
  | zero =>
    intro i left hi h0 h1
    refine Ev.step (f := fun _ => some left) (fun k => ?_) (ev_cast ?_ (Ev.now _))
    · simp only [laws_szPatS.l0]; rw [if_neg (by omega)]
    · rw [List.drop_eq_nil_of_le (by omega), P_budLE]; unfold szRes; rw [if_pos (by omega)]; omega
  | succ d ih =>
    intro i left hi h0 h1
    have hlt : i < l.length := by omega
    have e := h _ (P_rdL_mem l i hlt) left h0 h1
    rw [P_dropL l i hlt, P_budLE]
    generalize hy : rd_T49 l i = y at *
    refine Ev.step (f := fun k => (laws_szPat.f k y.f0 y.f1 y.f2 y.f3 left).bind fun t102 => (if t102 < 0 then (some (-1)) else (laws_szPatS.l0 k l t102 (wrap64 ((i : Int) + 1))))) (fun k => ?_) (Ev.bind e ?_)
    · simp only [laws_szPatS.l0]; rw [if_pos (by omega), if_pos (by omega), hy]
    · unfold szRes
      by_cases hb : (P_budL y : Int) ≤ left
      · rw [if_pos hb]
        refine ev_neg (by omega) ?_
        rw [w64 _ (by omega) (by omega)]
        refine ev_cast ?_ (ih (i + 1) (left - P_budL y) (by omega) (by omega) (by omega))
        unfold szRes
        by_cases hc : (P_budLE (l.drop (i + 1)) : Int) ≤ left - P_budL y
        · rw [if_pos hc, if_pos (by omega)]; omega
        · rw [if_neg hc, if_neg (by omega)]
      · rw [if_neg hb, if_neg (by omega)]
        exact ev_pos (by omega) (Ev.now _)
theorem P_szS_of (l : List S49) (hl : (l.length : Int) ≤ 9223372036854775807)
    (h : ∀ y ∈ l, ∀ left : Int, 0 ≤ left → left ≤ 1048576 → Ev (fun k => laws_szPat.f k y.f0 y.f1 y.f2 y.f3 left) (szRes left (P_budL y))) (left : Int) (h0 : 0 ≤ left) (h1 : left ≤ 1048576) :
    Ev (fun k => laws_szPatS.f k l left) (szRes left (l.length + P_budLE l)) := by
  by_cases hc : left - (l.length : Int) < 0
  · refine Ev.step (f := fun _ => some (-1)) (fun k => ?_) (ev_cast ?_ (Ev.now _))
    · simp only [laws_szPatS.f]; rw [w64 _ (by omega) (by omega), if_pos hc]
    · unfold szRes; rw [if_neg (by omega)]
  · refine Ev.step (fun k => ?_) (ev_cast ?_ (P_sz_loop l hl h l.length 0 (left - l.length) (by omega) (by omega) (by omega)))
    · simp only [laws_szPatS.f]; rw [w64 _ (by omega) (by omega), if_neg hc]; rfl
    · rw [List.drop_zero]
      unfold szRes
      by_cases hb : (P_budLE l : Int) ≤ left - l.length
      · rw [if_pos hb, if_pos (by omega)]; omega
      · rw [if_neg hb, if_neg (by omega)]
theorem P_sz_all : ∀ x, wf49 x → ∀ left : Int, 0 ≤ left → left ≤ 1048576 → Ev (fun k => laws_szPat.f k x.f0 x.f1 x.f2 x.f3 left) (szRes left (P_budL x)) := by
  refine P_indL ?_
  intro a b s l ih hw left h0 h1
  obtain ⟨_, _, hs, hl, hm⟩ := P_wfL_mk hw
  simp only []
  by_cases hc : left - (s.size : Int) < 0
  · refine Ev.step (f := fun _ => some (-1)) (fun k => ?_) (ev_cast ?_ (Ev.now _))
    · simp only [laws_szPat.f]; rw [w64 _ (by omega) (by omega), if_pos hc]
    · rw [P_budL]; unfold szRes; rw [if_neg (by omega)]
  · have e := P_szS_of l hl (fun y hy => ih y hy (hm y hy)) (left - s.size) (by omega) (by omega)
    refine Ev.step (f := fun k => (laws_szPatS.f k l (left - (s.size : Int))).bind fun t104 => (if t104 < 0 then (some (-1)) else (some t104))) (fun k => ?_) (Ev.bind e ?_)
    · simp only [laws_szPat.f]; rw [w64 _ (by omega) (by omega), if_neg hc]
    · rw [P_budL]
      unfold szRes
      by_cases hb : ((l.length + P_budLE l : Nat) : Int) ≤ left - s.size
      · have hb2 : ((s.size + (l.length + P_budLE l) : Nat) : Int) ≤ left := by omega
        rw [if_pos hb, if_pos hb2]
        exact ev_neg (by omega) (ev_cast (by omega) (Ev.now _))
      · have hb2 : ¬ ((s.size + (l.length + P_budLE l) : Nat) : Int) ≤ left := by omega
        rw [if_neg hb, if_neg hb2]
        exact ev_pos (by omega) (Ev.now _)
theorem P_szTerm_ev (a b : Int) (s : ByteArray) (l : List S49) (hw : wf49 ⟨a, b, s, l⟩) (left : Int) (h0 : 0 ≤ left) (h1 : left ≤ 1048576) : Ev (fun k => laws_szPat.f k a b s l left) (szRes left (P_budL ⟨a, b, s, l⟩)) := P_sz_all _ hw left h0 h1
theorem szIns_eq (x : S158) (hw : wf158 x) (left : Int) (h0 : 0 ≤ left) (h1 : left ≤ 1048576) : laws_szIns.f x.f0 x.f1 x.f2 x.f3 left = some (szRes left (budIns x)) := by
  have := wfIns_mk hw
  unfold laws_szIns.f szRes budIns
  rw [w64 _ (by omega) (by omega)]
  by_cases hc : left - (x.f2.size : Int) < 0
  · rw [if_pos hc, if_neg (by omega)]
  · rw [if_neg hc, if_pos (by omega)]
theorem szInsS_ev (l : List S158) (hl : (l.length : Int) ≤ 9223372036854775807) (hw : ∀ y ∈ l, wf158 y) (left : Int) (h0 : 0 ≤ left) (h1 : left ≤ 1048576) :
    Ev (fun k => laws_szInsS.f k l left) (szRes left (l.length + sumB budIns l)) := by
  unfold laws_szInsS.f
  rw [w64 _ (by omega) (by omega)]
  by_cases hc : left - (l.length : Int) < 0
  · refine ev_pos hc (ev_cast ?_ (Ev.now _))
    unfold szRes; rw [if_neg (by omega)]
  · refine ev_neg hc (ev_cast ?_ (sz_loopG (fun k left i => laws_szInsS.l0 k l left i) budIns l ?_ ?_ l.length 0 (left - l.length) (by omega) (by omega) (by omega)))
    · rw [List.drop_zero]
      unfold szRes
      by_cases hb : (sumB budIns l : Int) ≤ left - l.length
      · rw [if_pos hb, if_pos (by omega)]; omega
      · rw [if_neg hb, if_neg (by omega)]
    · intro i h left r q0 q1 hr hn
      have e := szIns_eq l[i] (hw _ (List.getElem_mem h)) left q0 q1
      by_cases hb : (budIns l[i] : Int) ≤ left
      · refine Ev.step (fun k => ?_) (hr hb)
        simp only [laws_szInsS.l0]
        rw [if_pos (by omega), if_pos (by omega), rd_li l i h, e]
        simp only [Option.bind_some]
        unfold szRes
        rw [if_pos hb, if_neg (by omega), w64 _ (by omega) (by omega)]
        rfl
      · refine Ev.step (f := fun _ => some (-1)) (fun k => ?_) (ev_cast (hn hb).symm (Ev.now _))
        simp only [laws_szInsS.l0]
        rw [if_pos (by omega), if_pos (by omega), rd_li l i h, e]
        simp only [Option.bind_some]
        unfold szRes
        rw [if_neg hb, if_pos (by omega)]
    · intro left
      refine Ev.step (f := fun _ => some left) (fun k => ?_) (Ev.now _)
      simp only [laws_szInsS.l0]; rw [if_neg (by omega)]
theorem szFn_ev (x : S119) (hw : wf119 x) (left : Int) (h0 : 0 ≤ left) (h1 : left ≤ 1048576) : Ev (fun k => laws_szFn.f k x.f0 x.f1 x.f2 x.f3 left) (szRes left (budFn x)) := by
  obtain ⟨w1, w2, w3⟩ := wfFn_mk hw
  unfold laws_szFn.f budFn
  rw [w64 _ (by omega) (by omega)]
  by_cases hc : left - (x.f0.size : Int) < 0
  · refine ev_pos hc (ev_cast ?_ (Ev.now _))
    unfold szRes; rw [if_neg (by omega)]
  · refine ev_neg hc (Ev.bind (szInsS_ev x.f3 w2 w3 (left - x.f0.size) (by omega) (by omega)) ?_)
    unfold szRes
    by_cases hb : ((x.f3.length + sumB budIns x.f3 : Nat) : Int) ≤ left - x.f0.size
    · rw [if_pos hb]
      refine ev_neg (by omega) (ev_cast ?_ (Ev.now _))
      rw [if_pos (by omega)]; omega
    · rw [if_neg hb]
      refine ev_pos (by omega) (ev_cast ?_ (Ev.now _))
      rw [if_neg (by omega)]
theorem szFnS_ev (l : List S119) (hl : (l.length : Int) ≤ 9223372036854775807) (hw : ∀ y ∈ l, wf119 y) (left : Int) (h0 : 0 ≤ left) (h1 : left ≤ 1048576) :
    Ev (fun k => laws_szFnS.f k l left) (szRes left (budFns l)) := by
  unfold laws_szFnS.f budFns
  rw [w64 _ (by omega) (by omega)]
  by_cases hc : left - (l.length : Int) < 0
  · refine ev_pos hc (ev_cast ?_ (Ev.now _))
    unfold szRes; rw [if_neg (by omega)]
  · refine ev_neg hc (ev_cast ?_ (sz_loopG (fun k left i => laws_szFnS.l0 k l left i) budFn l ?_ ?_ l.length 0 (left - l.length) (by omega) (by omega) (by omega)))
    · rw [List.drop_zero]
      unfold szRes
      by_cases hb : (sumB budFn l : Int) ≤ left - l.length
      · rw [if_pos hb, if_pos (by omega)]; omega
      · rw [if_neg hb, if_neg (by omega)]
    · intro i h left r q0 q1 hr hn
      have e := szFn_ev l[i] (hw _ (List.getElem_mem h)) left q0 q1
      refine Ev.step (f := fun k => (laws_szFn.f k l[i].f0 l[i].f1 l[i].f2 l[i].f3 left).bind fun t107 => (if t107 < 0 then (some (-1)) else (laws_szFnS.l0 k l t107 (wrap64 ((i : Int) + 1))))) (fun k => ?_) (Ev.bind e ?_)
      · simp only [laws_szFnS.l0]
        rw [if_pos (by omega), if_pos (by omega), rd_lf l i h]
      · rw [w64 _ (by omega) (by omega)]
        unfold szRes
        by_cases hb : (budFn l[i] : Int) ≤ left
        · rw [if_pos hb]; exact ev_neg (by omega) (hr hb)
        · rw [if_neg hb]; exact ev_pos (by omega) (ev_cast (hn hb).symm (Ev.now _))
    · intro left
      refine Ev.step (f := fun _ => some left) (fun k => ?_) (Ev.now _)
      simp only [laws_szFnS.l0]; rw [if_neg (by omega)]
theorem szCode_ev (a : List S119) (b : List S49) (hw : wf25 ⟨a, b⟩) (left : Int) (h0 : 0 ≤ left) (h1 : left ≤ 1048576) :
    Ev (fun k => laws_szCode.f k a b left) (szRes left (budCode ⟨a, b⟩)) := by
  obtain ⟨w1, w2, w3, w4⟩ := wfCode_mk hw
  unfold laws_szCode.f budCode
  refine Ev.bind (szFnS_ev a w1 w2 left h0 h1) ?_
  unfold szRes
  by_cases hb : (budFns a : Int) ≤ left
  · rw [if_pos hb]
    refine ev_neg (by omega) (Ev.bind (P_szS_of b w3 (fun y hy => P_sz_all y (w4 y hy)) (left - budFns a) (by omega) (by omega)) ?_)
    unfold szRes
    have hbp : budPats b = b.length + P_budLE b := rfl
    by_cases hb2 : ((b.length + P_budLE b : Nat) : Int) ≤ left - budFns a
    · rw [if_pos hb2]
      refine ev_neg (by omega) (ev_cast ?_ (Ev.now _))
      rw [if_pos (by show ((budFns a + budPats b : Nat) : Int) ≤ left; omega)]
      show _ = left - ((budFns a + budPats b : Nat) : Int)
      omega
    · rw [if_neg hb2]
      refine ev_pos (by omega) (ev_cast ?_ (Ev.now _))
      rw [if_neg (by show ¬ ((budFns a + budPats b : Nat) : Int) ≤ left; omega)]
  · rw [if_neg hb]
    refine ev_pos (by omega) (ev_cast ?_ (Ev.now _))
    rw [if_neg (by show ¬ ((budFns a + budPats b : Nat) : Int) ≤ left; omega)]
theorem P_set_takeI (l : List S53) (i : Nat) (v : S53) (h : i < l.length) : (l.set i v).take (i + 1) = l.take i ++ [v] := by
  rw [List.take_succ_eq_append_getElem (by simpa using h)]
  simp [List.take_set]
  rw [List.set_eq_of_length_le (by simp; omega)]
theorem P_to_loop (l : List S49) (hl : (l.length : Int) ≤ 1048576)
    (h : ∀ y ∈ l, Ev (fun k => laws_toPat.f k y.f0 y.f1 y.f2 y.f3) (y.f0, y.f1, y.f2, P_cvL y.f3)) (d : Nat) :
    ∀ (i : Nat) (x : List S53), i + d = l.length → x.length = l.length → x.take i = (P_cvL l).take i → Ev (fun k => laws_toPatS.l0 k l x i) (P_cvL l) := by
  induction d with
  | zero =>
    intro i x hi hx ht
    refine Ev.step (f := fun _ => some x) (fun k => ?_) (ev_cast ?_ (Ev.now _))
    · simp only [laws_toPatS.l0]; rw [if_neg (by omega)]
    · rwa [List.take_of_length_le (by omega), List.take_of_length_le (by rw [P_cvL_len]; omega)] at ht
  | succ d ih =>
    intro i x hi hx ht
    have hlt : i < l.length := by omega
    have e := h _ (P_rdL_mem l i hlt)
    have hn := ih (i + 1) (x.set i (P_cv (rd_T49 l i))) (by omega) (by simpa using hx) (by
      rw [P_set_takeI _ _ _ (by omega), ht, List.take_succ_eq_append_getElem (by rw [P_cvL_len]; omega)]
      congr 1
      simp only [P_cvL_map, List.getElem_map]
      unfold rd_T49
      simp [List.getElem?_eq_getElem hlt])
    generalize hy : rd_T49 l i = y at *
    refine Ev.step (f := fun k => (laws_toPat.f k y.f0 y.f1 y.f2 y.f3).bind fun bt112 => (laws_toPatS.l0 k l (x.set i (⟨bt112.1, bt112.2.1, bt112.2.2.1, bt112.2.2.2⟩ : S53)) (wrap64 ((i : Int) + 1)))) (fun k => ?_) (Ev.bind e ?_)
    · simp only [laws_toPatS.l0]; rw [if_pos (by omega), if_pos (by omega), hy]
      congr 1
      funext bt
      rw [if_pos (by omega)]
      rfl
    · rw [w64 _ (by omega) (by omega)]
      have ec : (⟨y.f0, y.f1, y.f2, P_cvL y.f3⟩ : S53) = P_cv y := by cases y; rw [P_cv]
      simp only [ec]
      exact hn
theorem P_toS_of (l : List S49) (hl : (l.length : Int) ≤ 1048576)
    (h : ∀ y ∈ l, Ev (fun k => laws_toPat.f k y.f0 y.f1 y.f2 y.f3) (y.f0, y.f1, y.f2, P_cvL y.f3)) : Ev (fun k => laws_toPatS.f k l) (P_cvL l) := by
  refine Ev.step (fun k => ?_) (P_to_loop l hl h l.length 0 (List.replicate l.length z53) (by omega) (by simp) (by simp))
  simp only [laws_toPatS.f]; rw [if_pos (by omega), if_pos (by omega)]
  simp
theorem P_budL_mem : ∀ (l : List S49) (x : S49), x ∈ l → P_budL x ≤ P_budLE l
  | [], x, h => by cases h
  | y :: r, x, h => by
    rw [P_budLE]
    rcases List.mem_cons.1 h with rfl | h
    · omega
    · have := P_budL_mem r x h; omega
theorem P_to_all : ∀ x, (P_budL x : Int) ≤ 1048576 → Ev (fun k => laws_toPat.f k x.f0 x.f1 x.f2 x.f3) (x.f0, x.f1, x.f2, P_cvL x.f3) := by
  refine P_indL ?_
  intro a b s l ih hb
  rw [P_budL] at hb
  refine Ev.step (f := fun k => (laws_toPatS.f k l).bind fun t122 => (some (a, b, s, t122))) (fun k => ?_) (Ev.bind (P_toS_of l (by omega) (fun y hy => ih y hy (by have := P_budL_mem l y hy; omega))) (Ev.now _))
  simp only [laws_toPat.f]
theorem P_toTerm_ev (a b : Int) (s : ByteArray) (l : List S49) (hb : (P_budL ⟨a, b, s, l⟩ : Int) ≤ 1048576) : Ev (fun k => laws_toPat.f k a b s l) (a, b, s, P_cvL l) := P_to_all _ hb
theorem toIns_eq (x : S158) : laws_toIns.f x.f0 x.f1 x.f2 x.f3 = some (x.f0, x.f1, x.f2, x.f3) := rfl
theorem toInsS_ev (l : List S158) (hl : (l.length : Int) ≤ 1048576) : Ev (fun k => laws_toInsS.f k l) (l.map cvIns) := by
  unfold laws_toInsS.f
  refine ev_pos (by omega) (ev_pos (by omega) ?_)
  rw [Int.toNat_natCast]
  refine map_loop0 (fun k x i => laws_toInsS.l0 k l x i) cvIns l _ ?_ ?_
  · intro i h x r hx e
    refine Ev.step (fun k => ?_) e
    simp only [laws_toInsS.l0]
    rw [if_pos (by omega), if_pos (by omega), rd_li l i h, toIns_eq]
    simp only [Option.bind_some]
    rw [if_pos (by omega), w64 _ (by omega) (by omega), Int.toNat_natCast]
    rfl
  · intro x hx
    refine Ev.step (f := fun _ => some x) (fun k => ?_) (Ev.now _)
    simp only [laws_toInsS.l0]; rw [if_neg (by omega)]
theorem toFn_ev (x : S119) (hl : (x.f3.length : Int) ≤ 1048576) : Ev (fun k => laws_toFn.f k x.f0 x.f1 x.f2 x.f3) (x.f0, x.f1, x.f2, x.f3.map cvIns) := by
  unfold laws_toFn.f
  exact Ev.bind (toInsS_ev x.f3 hl) (Ev.now _)
theorem toFnS_ev (l : List S119) (hl : (budFns l : Int) ≤ 1048576) : Ev (fun k => laws_toFnS.f k l) (l.map cvFn) := by
  unfold budFns at hl
  unfold laws_toFnS.f
  refine ev_pos (by omega) (ev_pos (by omega) ?_)
  rw [Int.toNat_natCast]
  refine map_loop0 (fun k x i => laws_toFnS.l0 k l x i) cvFn l _ ?_ ?_
  · intro i h x r hx e
    have hm := sumB_mem budFn l _ (List.getElem_mem h)
    have hb : budFn l[i] = l[i].f0.size + (l[i].f3.length + sumB budIns l[i].f3) := rfl
    refine Ev.step (f := fun k => (laws_toFn.f k l[i].f0 l[i].f1 l[i].f2 l[i].f3).bind fun bt137 => (if (i : Int) < (x.length : Int) then (laws_toFnS.l0 k l (x.set ((i : Int)).toNat (⟨bt137.1, bt137.2.1, bt137.2.2.1, bt137.2.2.2⟩ : S75)) (wrap64 ((i : Int) + 1))) else none)) (fun k => ?_) (Ev.bind (toFn_ev l[i] (by omega)) (ev_pos (by omega) ?_))
    · simp only [laws_toFnS.l0]
      rw [if_pos (by omega), if_pos (by omega), rd_lf l i h]
    · rw [w64 _ (by omega) (by omega), Int.toNat_natCast]
      exact e
  · intro x hx
    refine Ev.step (f := fun _ => some x) (fun k => ?_) (Ev.now _)
    simp only [laws_toFnS.l0]; rw [if_neg (by omega)]
theorem toCode_ev (a : List S119) (b : List S49) (hb : (budCode ⟨a, b⟩ : Int) ≤ 1048576) : Ev (fun k => laws_toCode.f k a b) (a.map cvFn, P_cvL b) := by
  unfold budCode budPats at hb
  simp only [] at hb
  unfold laws_toCode.f
  exact Ev.bind (toFnS_ev a (by omega)) (Ev.bind (P_toS_of b (by omega) (fun y hy => P_to_all y (by have := P_budL_mem b y hy; omega))) (Ev.now _))
theorem P_eq_loop (l : List S53) (hl : (l.length : Int) ≤ 4194304)
    (h : ∀ y ∈ l, Ev (fun k => laws_eqPat.f k y.f0 y.f1 y.f2 y.f3 y.f0 y.f1 y.f2 y.f3) true) (d : Nat) : ∀ (i : Nat), i + d = l.length → Ev (fun k => laws_eqPatS.l0 k l l i) true := by
  induction d with
  | zero =>
    intro i hi
    refine Ev.step (f := fun _ => some true) (fun k => ?_) (Ev.now _)
    simp only [laws_eqPatS.l0]; rw [if_neg (by omega)]
  | succ d ih =>
    intro i hi
    have hlt : i < l.length := by omega
    have e := h _ (P_rdI_mem l i hlt)
    have hn := ih (i + 1) (by omega)
    generalize hy : rd_T53 l i = y at *
    refine Ev.step (f := fun k => (laws_eqPat.f k y.f0 y.f1 y.f2 y.f3 y.f0 y.f1 y.f2 y.f3).bind fun t131 => (if t131 = true then (laws_eqPatS.l0 k l l (wrap64 ((i : Int) + 1))) else (some false))) (fun k => ?_) (Ev.bind e (ev_pos rfl ?_))
    · simp only [laws_eqPatS.l0]; rw [if_pos (by omega), if_pos (by omega), if_pos (by omega), hy]
    · rw [w64 _ (by omega) (by omega)]; exact hn
theorem P_eqS_of (l : List S53) (hl : (l.length : Int) ≤ 4194304) (h : ∀ y ∈ l, Ev (fun k => laws_eqPat.f k y.f0 y.f1 y.f2 y.f3 y.f0 y.f1 y.f2 y.f3) true) : Ev (fun k => laws_eqPatS.f k l l) true := by
  refine Ev.step (fun k => ?_) (P_eq_loop l hl h l.length 0 (by omega))
  simp only [laws_eqPatS.f]; rw [if_pos trivial]; rfl
theorem P_eq_all : ∀ x, (P_budI x : Int) ≤ 4194304 → Ev (fun k => laws_eqPat.f k x.f0 x.f1 x.f2 x.f3 x.f0 x.f1 x.f2 x.f3) true := by
  refine P_indI ?_
  intro a b s l ih hb
  rw [P_budI] at hb
  have hl := P_budIL_len l
  refine Ev.step (f := fun k => (laws_eqPatS.f k l l).bind fun t134 => (if t134 = true then (some true) else (some false))) (fun k => ?_) (Ev.bind (P_eqS_of l (by omega) (fun y hy => ih y hy (by have := P_budI_mem l y hy; omega))) (ev_pos rfl (Ev.now _)))
  simp only [laws_eqPat.f]
  simp
theorem P_eqTerm_ev (a b : Int) (s : ByteArray) (l : List S53) (hb : (P_budI ⟨a, b, s, l⟩ : Int) ≤ 4194304) : Ev (fun k => laws_eqPat.f k a b s l a b s l) true := P_eq_all _ hb
theorem P_eqTermS_ev (l : List S53) (hb : (P_budIL l : Int) ≤ 4194304) : Ev (fun k => laws_eqPatS.f k l l) true := by
  have hl := P_budIL_len l
  exact P_eqS_of l (by omega) (fun y hy => P_eq_all y (by have := P_budI_mem l y hy; omega))
theorem eqIns_eq (x : S103) : laws_eqIns.f x.f0 x.f1 x.f2 x.f3 x.f0 x.f1 x.f2 x.f3 = some true := by
  unfold laws_eqIns.f; simp
theorem eqInsS_ev (l : List S103) (hl : (l.length : Int) ≤ 4194304) : Ev (fun k => laws_eqInsS.f k l l) true := by
  unfold laws_eqInsS.f
  refine ev_pos rfl (ev_cast ?_ (all_loop (fun k i => laws_eqInsS.l0 k l l i) (fun _ => true) l.length ?_ ?_ l.length 0 (by omega)))
  · unfold allFrom; simp
  · intro i h r hr _
    refine Ev.step (fun k => ?_) (hr rfl)
    simp only [laws_eqInsS.l0]
    rw [if_pos (by omega), if_pos (by omega), if_pos (by omega), rd_ii l i h, eqIns_eq, w64 _ (by omega) (by omega)]
    rfl
  · refine Ev.step (f := fun _ => some true) (fun k => ?_) (Ev.now _)
    simp only [laws_eqInsS.l0]; rw [if_neg (by omega)]
theorem eqFn_ev (x : S75) (hl : (x.f3.length : Int) ≤ 4194304) : Ev (fun k => laws_eqFn.f k x.f0 x.f1 x.f2 x.f3 x.f0 x.f1 x.f2 x.f3) true := by
  unfold laws_eqFn.f
  exact ev_pos rfl (ev_pos rfl (ev_pos rfl (Ev.bind (eqInsS_ev x.f3 hl) (ev_pos rfl (Ev.now _)))))
theorem eqFnS_ev (l : List S75) (hl : (l.length : Int) ≤ 4194304) (hm : ∀ y ∈ l, (y.f3.length : Int) ≤ 4194304) : Ev (fun k => laws_eqFnS.f k l l) true := by
  unfold laws_eqFnS.f
  refine ev_pos rfl (ev_cast ?_ (all_loop (fun k i => laws_eqFnS.l0 k l l i) (fun _ => true) l.length ?_ ?_ l.length 0 (by omega)))
  · unfold allFrom; simp
  · intro i h r hr _
    refine Ev.step (f := fun k => (laws_eqFn.f k l[i].f0 l[i].f1 l[i].f2 l[i].f3 l[i].f0 l[i].f1 l[i].f2 l[i].f3).bind fun t180 => (if t180 = true then (laws_eqFnS.l0 k l l (wrap64 ((i : Int) + 1))) else (some false))) (fun k => ?_) (Ev.bind (eqFn_ev l[i] (hm _ (List.getElem_mem h))) (ev_pos rfl ?_))
    · simp only [laws_eqFnS.l0]
      rw [if_pos (by omega), if_pos (by omega), if_pos (by omega), rd_if l i h]
    · rw [w64 _ (by omega) (by omega)]; exact hr rfl
  · refine Ev.step (f := fun _ => some true) (fun k => ?_) (Ev.now _)
    simp only [laws_eqFnS.l0]; rw [if_neg (by omega)]
theorem eqCode_ev (a : List S75) (b : List S53) (h0 : (a.length : Int) ≤ 4194304) (h1 : ∀ y ∈ a, (y.f3.length : Int) ≤ 4194304) (h2 : (P_budIL b : Int) ≤ 4194304) : Ev (fun k => laws_eqCode.f k a b a b) true := by
  unfold laws_eqCode.f
  exact Ev.bind (eqFnS_ev a h0 h1) (ev_pos rfl (Ev.bind (P_eqTermS_ev b h2) (ev_pos rfl (Ev.now _))))
theorem code_bounds (a : List S119) (b : List S49) (hb : (budCode ⟨a, b⟩ : Int) ≤ 1048576) : ((a.map cvFn).length : Int) ≤ 1048576 ∧ (∀ y ∈ a.map cvFn, (y.f3.length : Int) ≤ 1048576) ∧ (P_budIL (P_cvL b) : Int) ≤ 1048576 := by
  unfold budCode budPats budFns at hb
  simp only [] at hb
  refine ⟨by rw [List.length_map]; omega, ?_, by rw [P_bud_cvL]; omega⟩
  intro y hy
  obtain ⟨x, hx, rfl⟩ := List.mem_map.1 hy
  have := sumB_mem budFn a x hx
  have hq : budFn x = x.f0.size + (x.f3.length + sumB budIns x.f3) := rfl
  unfold cvFn
  simp only [List.length_map]
  omega
mutual
def P_sameM : S53 → S53 → Bool
  | ⟨a, b, s, l⟩, y => decide (a = y.f0) && (decide (b = y.f1) && (decide (s.toList = y.f2.toList) && P_sameML l y.f3))
def P_sameML : List S53 → List S53 → Bool
  | [], l => l.isEmpty
  | x :: r, l => match l with
    | [] => false
    | y :: r2 => P_sameM x y && P_sameML r r2
end
theorem P_sameML_len : ∀ l m, P_sameML l m = true → l.length = m.length
  | [], m, h => by rw [P_sameML] at h; cases m <;> simp_all
  | x :: r, [], h => by rw [P_sameML] at h; cases h
  | x :: r, y :: r2, h => by
    rw [P_sameML, Bool.and_eq_true] at h
    rw [List.length_cons, List.length_cons, P_sameML_len r r2 h.2]
theorem P_spec_Same_loop (a b : Int) (s : ByteArray) (l : List S53) (a2 b2 : Int) (s2 : ByteArray) (m : List S53) (hl : (P_budIL l : Int) ≤ 4194304) (hm : l.length = m.length)
    (h : ∀ y ∈ l, ∀ z, Ev (fun k => spec_l11SamePat.f k y.f0 y.f1 y.f2 y.f3 z.f0 z.f1 z.f2 z.f3) (P_sameM y z)) (d : Nat) : ∀ (i : Nat), i + d = l.length → Ev (fun k => spec_l11SamePat.l0 k i a b s l a2 b2 s2 m) (P_sameML (l.drop i) (m.drop i)) := by
  have hlen := P_budIL_len l
  induction d with
  | zero =>
    intro i hi
    refine Ev.step (f := fun _ => some true) (fun k => ?_) (ev_cast ?_ (Ev.now _))
    · simp only [spec_l11SamePat.l0]; rw [if_neg (by omega)]
    · rw [List.drop_eq_nil_of_le (by omega), List.drop_eq_nil_of_le (by omega)]; rfl
  | succ d ih =>
    intro i hi
    have hlt : i < l.length := by omega
    have e := h _ (P_rdI_mem l i hlt) (rd_T53 m i)
    have hn := ih (i + 1) (by omega)
    rw [P_dropI l i hlt, P_dropI m i (by omega), P_sameML]
    generalize hy : rd_T53 l i = y at *
    generalize hz : rd_T53 m i = z at *
    refine Ev.step (f := fun k => (spec_l11SamePat.f k y.f0 y.f1 y.f2 y.f3 z.f0 z.f1 z.f2 z.f3).bind fun t => (if t = true then (spec_l11SamePat.l0 k (wrap64 ((i : Int) + 1)) a b s l a2 b2 s2 m) else (some false))) (fun k => ?_) (Ev.bind e ?_)
    · simp only [spec_l11SamePat.l0]; rw [if_pos (by omega), if_pos (by omega), if_pos (by omega), hy, hz]
    · rw [w64 _ (by omega) (by omega)]
      cases hs : P_sameM y z with
      | true => exact ev_pos rfl hn
      | false => exact ev_neg (by decide) (Ev.now _)
theorem P_spec_Same_all : ∀ x, (P_budI x : Int) ≤ 4194304 → ∀ z, Ev (fun k => spec_l11SamePat.f k x.f0 x.f1 x.f2 x.f3 z.f0 z.f1 z.f2 z.f3) (P_sameM x z) := by
  refine P_indI ?_
  intro a b s l ih hb z
  rw [P_budI] at hb
  obtain ⟨a2, b2, s2, m⟩ := z
  have no : Ev (fun k => spec_l11SamePat.j0 k true a b s l a2 b2 s2 m) false := Ev.step (f := fun _ => some false) (fun k => by simp [spec_l11SamePat.j0]) (Ev.now _)
  rw [P_sameM]
  simp only []
  by_cases h1 : a = a2
  · by_cases h2 : b = b2
    · by_cases h3 : s.toList = s2.toList
      · by_cases h4 : l.length = m.length
        · have e := P_spec_Same_loop a b s l a2 b2 s2 m (by omega) h4 (fun y hy z => ih y hy (by have := P_budI_mem l y hy; omega) z) l.length 0 (by omega)
          refine Ev.step (f := fun k => spec_l11SamePat.j0 k false a b s l a2 b2 s2 m) (fun k => ?_) (Ev.step (fun k => ?_) (ev_cast ?_ e))
          · simp only [spec_l11SamePat.f]; rw [if_pos h1, if_pos h2, if_pos h3, h4]; simp
          · simp only [spec_l11SamePat.j0]; rw [if_neg (by decide)]; rfl
          · simp [h1, h2, h3]
        · refine Ev.step (fun k => ?_) (ev_cast ?_ no)
          · simp only [spec_l11SamePat.f]; rw [if_pos h1, if_pos h2, if_pos h3]
            congr 1
            simp; omega
          · cases hs : P_sameML l m with
            | true => exact absurd (P_sameML_len l m hs) h4
            | false => simp
      · refine Ev.step (fun k => ?_) (ev_cast ?_ no)
        · simp only [spec_l11SamePat.f]; rw [if_pos h1, if_pos h2, if_neg h3]
        · simp [h3]
    · refine Ev.step (fun k => ?_) (ev_cast ?_ no)
      · simp only [spec_l11SamePat.f]; rw [if_pos h1, if_neg h2]
      · simp [h2]
  · refine Ev.step (fun k => ?_) (ev_cast ?_ no)
    · simp only [spec_l11SamePat.f]; rw [if_neg h1]
    · simp [h1]
theorem P_impl_Same_loop (l m : List S53) (hl : (P_budIL l : Int) ≤ 4194304) (hm : l.length = m.length)
    (h : ∀ y ∈ l, ∀ z, Ev (fun k => impl_samePat.f k y.f0 y.f1 y.f2 y.f3 z.f0 z.f1 z.f2 z.f3) (P_sameM y z)) (d : Nat) : ∀ (i : Nat), i + d = l.length → Ev (fun k => slices_EqualFunc_of_impl_samePat.l0 k m l (l.length : Int) i) (P_sameML (l.drop i) (m.drop i)) := by
  have hlen := P_budIL_len l
  induction d with
  | zero =>
    intro i hi
    refine Ev.step (f := fun _ => some true) (fun k => ?_) (ev_cast ?_ (Ev.now _))
    · simp only [slices_EqualFunc_of_impl_samePat.l0]; rw [if_neg (by omega)]
    · rw [List.drop_eq_nil_of_le (by omega), List.drop_eq_nil_of_le (by omega)]; rfl
  | succ d ih =>
    intro i hi
    have hlt : i < l.length := by omega
    have e := h _ (P_rdI_mem l i hlt) (rd_T53 m i)
    have hn := ih (i + 1) (by omega)
    rw [P_dropI l i hlt, P_dropI m i (by omega), P_sameML]
    generalize hy : rd_T53 l i = y at *
    generalize hz : rd_T53 m i = z at *
    refine Ev.step (f := fun k => (impl_samePat.f k y.f0 y.f1 y.f2 y.f3 z.f0 z.f1 z.f2 z.f3).bind fun t => (if t = true then (slices_EqualFunc_of_impl_samePat.l0 k m l (l.length : Int) (wrap64 ((i : Int) + 1))) else (some false))) (fun k => ?_) (Ev.bind e ?_)
    · simp only [slices_EqualFunc_of_impl_samePat.l0]; rw [if_pos (by omega), if_pos (by omega), if_pos (by omega), if_pos (by omega), hy, hz]
    · rw [w64 _ (by omega) (by omega)]
      cases hs : P_sameM y z with
      | true => exact ev_pos rfl hn
      | false => exact ev_neg (by decide) (Ev.now _)
theorem P_impl_EqualFunc_of (l m : List S53) (hl : (P_budIL l : Int) ≤ 4194304)
    (h : ∀ y ∈ l, ∀ z, Ev (fun k => impl_samePat.f k y.f0 y.f1 y.f2 y.f3 z.f0 z.f1 z.f2 z.f3) (P_sameM y z)) : Ev (fun k => slices_EqualFunc_of_impl_samePat.f k l m) (P_sameML l m) := by
  by_cases h4 : l.length = m.length
  · refine Ev.step (fun k => ?_) (P_impl_Same_loop l m hl h4 h l.length 0 (by omega))
    simp only [slices_EqualFunc_of_impl_samePat.f]; rw [if_pos (by omega)]; rfl
  · refine Ev.step (f := fun _ => some false) (fun k => ?_) (ev_cast ?_ (Ev.now _))
    · simp only [slices_EqualFunc_of_impl_samePat.f]; rw [if_neg (by omega)]
    · cases hs : P_sameML l m with
      | true => exact absurd (P_sameML_len l m hs) h4
      | false => rfl
theorem P_impl_Same_all : ∀ x, (P_budI x : Int) ≤ 4194304 → ∀ z, Ev (fun k => impl_samePat.f k x.f0 x.f1 x.f2 x.f3 z.f0 z.f1 z.f2 z.f3) (P_sameM x z) := by
  refine P_indI ?_
  intro a b s l ih hb z
  rw [P_budI] at hb
  obtain ⟨a2, b2, s2, m⟩ := z
  have e := P_impl_EqualFunc_of l m (by omega) (fun y hy z => ih y hy (by have := P_budI_mem l y hy; omega) z)
  rw [P_sameM]
  simp only []
  by_cases h1 : a = a2
  · by_cases h2 : b = b2
    · by_cases h3 : s.toList = s2.toList
      · refine Ev.step (f := fun k => (slices_EqualFunc_of_impl_samePat.f k l m).bind fun t => some t) (fun k => ?_) (Ev.bind e (ev_cast ?_ (Ev.now _)))
        · simp only [impl_samePat.f]; rw [if_pos h1, if_pos h2, if_pos h3]
        · simp [h1, h2, h3]
      · refine Ev.step (f := fun _ => some false) (fun k => ?_) (ev_cast ?_ (Ev.now _))
        · simp only [impl_samePat.f]; rw [if_pos h1, if_pos h2, if_neg h3]
        · simp [h3]
    · refine Ev.step (f := fun _ => some false) (fun k => ?_) (ev_cast ?_ (Ev.now _))
      · simp only [impl_samePat.f]; rw [if_pos h1, if_neg h2]
      · simp [h2]
  · refine Ev.step (f := fun _ => some false) (fun k => ?_) (ev_cast ?_ (Ev.now _))
    · simp only [impl_samePat.f]; rw [if_neg h1]
    · simp [h1]
def insNe (x y : S103) : Bool := (!(x.f0 == y.f0)) || ((!(x.f1 == y.f1)) || ((!(x.f2.toList == y.f2.toList)) || (!(x.f3 == y.f3))))
def insAll (l m : List S103) : Bool := allFrom (fun i => !insNe (rd_T103 l i) (rd_T103 m i)) 0 l.length
def fnEqM (x y : S75) : Bool := decide (x.f0.toList = y.f0.toList) && (decide (x.f1 = y.f1) && (decide (x.f2 = y.f2) && (decide (x.f3.length = y.f3.length) && insAll x.f3 y.f3)))
def fnsAll (l m : List S75) : Bool := allFrom (fun i => fnEqM (rd_T75 l i) (rd_T75 m i)) 0 l.length
def sameCodeM (a : List S75) (b : List S53) (a2 : List S75) (b2 : List S53) : Bool := decide (a.length = a2.length) && (fnsAll a a2 && P_sameML b b2)
theorem spec_SameFn_l (a : ByteArray) (b c : Int) (l : List S103) (a2 : ByteArray) (b2 c2 : Int) (m : List S103) (hl : (l.length : Int) ≤ 4194304) (hm : l.length = m.length) :
    Ev (fun k => spec_l11SameFn.l0 k 0 a b c l a2 b2 c2 m) (insAll l m) := by
  refine all_loop (fun k i => spec_l11SameFn.l0 k i a b c l a2 b2 c2 m) (fun i => !insNe (rd_T103 l i) (rd_T103 m i)) l.length ?_ ?_ l.length 0 (by omega)
  · intro i h r hr hn
    cases hq : insNe (rd_T103 l i) (rd_T103 m i) with
    | true =>
      refine Ev.step (f := fun _ => some false) (fun k => ?_) (ev_cast (hn (by rw [hq]; rfl)).symm (Ev.now _))
      unfold insNe at hq
      simp only [spec_l11SameFn.l0]
      rw [if_pos (by omega), if_pos (by omega), if_pos (by omega), if_pos hq]
    | false =>
      refine Ev.step (fun k => ?_) (hr (by rw [hq]; rfl))
      unfold insNe at hq
      simp only [spec_l11SameFn.l0]
      rw [if_pos (by omega), if_pos (by omega), if_pos (by omega), if_neg (by rw [hq]; decide), w64 _ (by omega) (by omega)]
      rfl
  · refine Ev.step (f := fun _ => some true) (fun k => ?_) (Ev.now _)
    simp only [spec_l11SameFn.l0]; rw [if_neg (by omega)]
theorem spec_SameFn_ev (x y : S75) (hl : (x.f3.length : Int) ≤ 4194304) : Ev (fun k => spec_l11SameFn.f k x.f0 x.f1 x.f2 x.f3 y.f0 y.f1 y.f2 y.f3) (fnEqM x y) := by
  have no : Ev (fun k => spec_l11SameFn.j0 k true x.f0 x.f1 x.f2 x.f3 y.f0 y.f1 y.f2 y.f3) false := Ev.step (f := fun _ => some false) (fun k => by simp [spec_l11SameFn.j0]) (Ev.now _)
  unfold spec_l11SameFn.f fnEqM
  by_cases h1 : x.f0.toList = y.f0.toList
  · refine ev_pos h1 ?_
    by_cases h2 : x.f1 = y.f1
    · refine ev_pos h2 ?_
      by_cases h3 : x.f2 = y.f2
      · refine ev_pos h3 ?_
        by_cases h4 : x.f3.length = y.f3.length
        · have e := spec_SameFn_l x.f0 x.f1 x.f2 x.f3 y.f0 y.f1 y.f2 y.f3 hl h4
          refine Ev.step (f := fun k => spec_l11SameFn.l0 k 0 x.f0 x.f1 x.f2 x.f3 y.f0 y.f1 y.f2 y.f3) (fun k => ?_) (ev_cast ?_ e)
          · simp only [spec_l11SameFn.j0]; rw [if_neg (by rw [h4]; simp)]
          · simp [h1, h2, h3, h4]
        · refine ev_cast ?_ (Ev.step (f := fun _ => some false) (fun k => ?_) (Ev.now _))
          · simp [h4]
          · simp only [spec_l11SameFn.j0]; rw [if_pos (by simp; omega)]
      · exact ev_neg h3 (ev_cast (by simp [h3]) no)
    · exact ev_neg h2 (ev_cast (by simp [h2]) no)
  · exact ev_neg h1 (ev_cast (by simp [h1]) no)
theorem spec_SameCode_l1 (a : List S75) (b : List S53) (a2 : List S75) (b2 : List S53) (hb : (P_budIL b : Int) ≤ 4194304) (hm : b.length = b2.length) (d : Nat) :
    ∀ i : Nat, i + d = b.length → Ev (fun k => spec_SameCode.l1 k i a b a2 b2) (P_sameML (b.drop i) (b2.drop i)) := by
  have hlen := P_budIL_len b
  induction d with
  | zero =>
    intro i hi
    refine Ev.step (f := fun _ => some true) (fun k => ?_) (ev_cast ?_ (Ev.now _))
    · simp only [spec_SameCode.l1]; rw [if_neg (by omega)]
    · rw [List.drop_eq_nil_of_le (by omega), List.drop_eq_nil_of_le (by omega)]; rfl
  | succ d ih =>
    intro i hi
    have hlt : i < b.length := by omega
    have hbm := P_budI_mem b _ (P_rdI_mem b i hlt)
    have e := P_spec_Same_all (rd_T53 b i) (by omega) (rd_T53 b2 i)
    have hn := ih (i + 1) (by omega)
    rw [P_dropI b i hlt, P_dropI b2 i (by omega), P_sameML]
    generalize hy : rd_T53 b i = y at *
    generalize hz : rd_T53 b2 i = z at *
    refine Ev.step (f := fun k => (spec_l11SamePat.f k y.f0 y.f1 y.f2 y.f3 z.f0 z.f1 z.f2 z.f3).bind fun t => (if t = true then (spec_SameCode.l1 k (wrap64 ((i : Int) + 1)) a b a2 b2) else (some false))) (fun k => ?_) (Ev.bind e ?_)
    · simp only [spec_SameCode.l1]; rw [if_pos (by omega), if_pos (by omega), if_pos (by omega), hy, hz]
    · rw [w64 _ (by omega) (by omega)]
      cases hs : P_sameM y z with
      | true => exact ev_pos rfl hn
      | false => exact ev_neg (by decide) (Ev.now _)
theorem spec_SameCode_ev (a : List S75) (b : List S53) (a2 : List S75) (b2 : List S53) (h0 : (a.length : Int) ≤ 4194304) (h1 : ∀ y ∈ a, (y.f3.length : Int) ≤ 4194304) (h2 : (P_budIL b : Int) ≤ 4194304) :
    Ev (fun k => spec_SameCode.f k a b a2 b2) (sameCodeM a b a2 b2) := by
  have no : Ev (fun k => spec_SameCode.j0 k true a b a2 b2) false := Ev.step (f := fun _ => some false) (fun k => by simp [spec_SameCode.j0]) (Ev.now _)
  unfold spec_SameCode.f sameCodeM
  by_cases ha : a.length = a2.length
  · refine ev_pos (by omega) ?_
    by_cases hb : b.length = b2.length
    · have e1 : Ev (fun k => spec_SameCode.l1 k 0 a b a2 b2) (P_sameML b b2) := spec_SameCode_l1 a b a2 b2 h2 hb b.length 0 (by omega)
      refine Ev.step (f := fun k => spec_SameCode.l0 k 0 a b a2 b2) (fun k => ?_) ?_
      · simp only [spec_SameCode.j0]; rw [if_neg (by rw [hb]; simp)]
      · have key : ∀ (d i : Nat), i + d = a.length → Ev (fun k => spec_SameCode.l0 k i a b a2 b2) (allFrom (fun i => fnEqM (rd_T75 a i) (rd_T75 a2 i)) i d && P_sameML b b2) := by
          intro d
          induction d with
          | zero =>
            intro i hi
            refine Ev.step (f := fun k => spec_SameCode.l1 k 0 a b a2 b2) (fun k => ?_) (ev_cast ?_ e1)
            · simp only [spec_SameCode.l0]; rw [if_neg (by omega)]
            · unfold allFrom; simp
          | succ d ih =>
            intro i hi
            have hlt : i < a.length := by omega
            have e := spec_SameFn_ev (rd_T75 a i) (rd_T75 a2 i) (h1 _ (by rw [rd_if a i hlt]; exact List.getElem_mem hlt))
            have hn := ih (i + 1) (by omega)
            have hu : allFrom (fun i => fnEqM (rd_T75 a i) (rd_T75 a2 i)) i (d + 1) = (fnEqM (rd_T75 a i) (rd_T75 a2 i) && allFrom (fun i => fnEqM (rd_T75 a i) (rd_T75 a2 i)) (i + 1) d) := by
              unfold allFrom; rw [List.range'_succ, List.all_cons]
            rw [hu]
            generalize hy : rd_T75 a i = y at *
            generalize hz : rd_T75 a2 i = z at *
            refine Ev.step (f := fun k => (spec_l11SameFn.f k y.f0 y.f1 y.f2 y.f3 z.f0 z.f1 z.f2 z.f3).bind fun t => (if t = true then (spec_SameCode.l0 k (wrap64 ((i : Int) + 1)) a b a2 b2) else (some false))) (fun k => ?_) (Ev.bind e ?_)
            · simp only [spec_SameCode.l0]; rw [if_pos (by omega), if_pos (by omega), if_pos (by omega), hy, hz]
            · rw [w64 _ (by omega) (by omega)]
              cases hs : fnEqM y z with
              | true => exact ev_pos rfl (ev_cast (by simp) hn)
              | false => exact ev_neg (by decide) (ev_cast (by simp) (Ev.now _))
        refine ev_cast ?_ (key a.length 0 (by omega))
        unfold fnsAll
        simp [ha]
    · refine ev_cast ?_ (Ev.step (f := fun _ => some false) (fun k => ?_) (Ev.now _))
      · cases hs : P_sameML b b2 with
        | true => exact absurd (P_sameML_len b b2 hs) hb
        | false => simp
      · simp only [spec_SameCode.j0]; rw [if_pos (by simp; omega)]
  · exact ev_neg (by omega) (ev_cast (by simp [ha]) no)
theorem impl_Ins_ev (l m : List S103) (hl : (l.length : Int) ≤ 4194304) : Ev (fun k => impl_Ins.f k l m) (decide (l.length = m.length) && insAll l m) := by
  unfold impl_Ins.f
  by_cases hm : l.length = m.length
  · refine ev_pos (by omega) (ev_cast (by rw [decide_eq_true hm, Bool.true_and]; rfl) (all_loop (fun k i => impl_Ins.l0 k l m (l.length : Int) i) (fun i => !insNe (rd_T103 l i) (rd_T103 m i)) l.length ?_ ?_ l.length 0 (by omega)))
    · intro i h r hr hn
      cases hq : insNe (rd_T103 l i) (rd_T103 m i) with
      | true =>
        refine Ev.step (f := fun _ => some false) (fun k => ?_) (ev_cast (hn (by rw [hq]; rfl)).symm (Ev.now _))
        unfold insNe at hq
        simp only [impl_Ins.l0]
        rw [if_pos (by omega), if_pos (by omega), if_pos (by omega), if_pos (by omega), if_pos hq]
      | false =>
        refine Ev.step (fun k => ?_) (hr (by rw [hq]; rfl))
        unfold insNe at hq
        simp only [impl_Ins.l0]
        rw [if_pos (by omega), if_pos (by omega), if_pos (by omega), if_pos (by omega), if_neg (by rw [hq]; decide), w64 _ (by omega) (by omega)]
        rfl
    · refine Ev.step (f := fun _ => some true) (fun k => ?_) (Ev.now _)
      simp only [impl_Ins.l0]; rw [if_neg (by omega)]
  · exact ev_neg (by omega) (ev_cast (by simp [hm]) (Ev.now _))
theorem impl_SameFn_ev (x y : S75) (hl : (x.f3.length : Int) ≤ 4194304) : Ev (fun k => impl_SameCode_1.f k x.f0 x.f1 x.f2 x.f3 y.f0 y.f1 y.f2 y.f3) (fnEqM x y) := by
  unfold impl_SameCode_1.f fnEqM
  by_cases h1 : x.f0.toList = y.f0.toList
  · refine ev_pos h1 ?_
    by_cases h2 : x.f1 = y.f1
    · refine ev_pos h2 ?_
      by_cases h3 : x.f2 = y.f2
      · exact ev_pos h3 (Ev.bind (impl_Ins_ev x.f3 y.f3 hl) (ev_cast (by simp [h1, h2, h3]) (Ev.now _)))
      · exact ev_neg h3 (ev_cast (by simp [h3]) (Ev.now _))
    · exact ev_neg h2 (ev_cast (by simp [h2]) (Ev.now _))
  · exact ev_neg h1 (ev_cast (by simp [h1]) (Ev.now _))
theorem impl_SameFns_ev (l m : List S75) (hl : (l.length : Int) ≤ 4194304) (h1 : ∀ y ∈ l, (y.f3.length : Int) ≤ 4194304) : Ev (fun k => slices_EqualFunc_of_impl_SameCode_1.f k l m) (decide (l.length = m.length) && fnsAll l m) := by
  unfold slices_EqualFunc_of_impl_SameCode_1.f
  by_cases hm : l.length = m.length
  · refine ev_pos (by omega) (ev_cast (by rw [decide_eq_true hm, Bool.true_and]; rfl) (all_loop (fun k i => slices_EqualFunc_of_impl_SameCode_1.l0 k m l (l.length : Int) i) (fun i => fnEqM (rd_T75 l i) (rd_T75 m i)) l.length ?_ ?_ l.length 0 (by omega)))
    · intro i h r hr hn
      have e := impl_SameFn_ev (rd_T75 l i) (rd_T75 m i) (h1 _ (by rw [rd_if l i h]; exact List.getElem_mem h))
      generalize hy : rd_T75 l i = y at *
      generalize hz : rd_T75 m i = z at *
      refine Ev.step (f := fun k => (impl_SameCode_1.f k y.f0 y.f1 y.f2 y.f3 z.f0 z.f1 z.f2 z.f3).bind fun t => (if t = true then (slices_EqualFunc_of_impl_SameCode_1.l0 k m l (l.length : Int) (wrap64 ((i : Int) + 1))) else (some false))) (fun k => ?_) (Ev.bind e ?_)
      · simp only [slices_EqualFunc_of_impl_SameCode_1.l0]; rw [if_pos (by omega), if_pos (by omega), if_pos (by omega), if_pos (by omega), hy, hz]
      · rw [w64 _ (by omega) (by omega)]
        cases hs : fnEqM y z with
        | true => exact ev_pos rfl (hr hs)
        | false => exact ev_neg (by decide) (ev_cast (hn hs).symm (Ev.now _))
    · refine Ev.step (f := fun _ => some true) (fun k => ?_) (Ev.now _)
      simp only [slices_EqualFunc_of_impl_SameCode_1.l0]; rw [if_neg (by omega)]
  · exact ev_neg (by omega) (ev_cast (by simp [hm]) (Ev.now _))
theorem impl_SameCode_ev (a : List S75) (b : List S53) (a2 : List S75) (b2 : List S53) (h0 : (a.length : Int) ≤ 4194304) (h1 : ∀ y ∈ a, (y.f3.length : Int) ≤ 4194304) (h2 : (P_budIL b : Int) ≤ 4194304) :
    Ev (fun k => impl_SameCode.f k a b a2 b2) (sameCodeM a b a2 b2) := by
  unfold impl_SameCode.f sameCodeM
  refine Ev.bind (impl_SameFns_ev a a2 h0 h1) ?_
  cases hs : (decide (a.length = a2.length) && fnsAll a a2) with
  | true =>
    rw [Bool.and_eq_true] at hs
    exact ev_pos rfl (Ev.bind (P_impl_EqualFunc_of b b2 h2 (fun y hy => P_impl_Same_all y (by have := P_budI_mem b y hy; omega))) (ev_cast (by simp only [hs.1, hs.2, Bool.true_and]) (Ev.now _)))
  | false => exact ev_neg (by decide) (ev_cast (by rw [← Bool.and_assoc, hs, Bool.false_and]) (Ev.now _))
theorem FnExactSameCode : laws_FnExactSameCode.Pure := by
  intro a b a2 b2 hw hw2
  refine Ev.rounds (g := fun k => laws_FnExactSameCode.f k a b a2 b2) ?_
  unfold laws_FnExactSameCode.f
  refine Ev.bind (szCode_ev a b hw 1048576 (by omega) (by omega)) ?_
  unfold szRes
  by_cases hb : (budCode ⟨a, b⟩ : Int) ≤ 1048576
  · rw [if_pos hb]
    refine ev_neg (by omega) ?_
    have ht := toCode_ev a b hb
    obtain ⟨q0, q1, q2⟩ := code_bounds a b hb
    generalize hx : (1048576 : Int) - (budCode ⟨a, b⟩ : Int) = x5
    refine Ev.step (f := fun k => (laws_szCode.f k a2 b2 x5).bind fun t233 => (if t233 < 0 then (some true) else (laws_FnExactSameCode.j1 k a b a2 b2))) (fun k => rfl) (Ev.bind (szCode_ev a2 b2 hw2 x5 (by omega) (by omega)) ?_)
    unfold szRes
    by_cases hb2 : (budCode ⟨a2, b2⟩ : Int) ≤ x5
    · rw [if_pos hb2]
      refine ev_neg (by omega) ?_
      have ht2 := toCode_ev a2 b2 (by omega)
      obtain ⟨u0, u1, u2⟩ := code_bounds a2 b2 (by omega)
      refine Ev.step (f := fun k => (laws_toCode.f k a b).bind fun bt234 => ((laws_toCode.f k a2 b2).bind fun bt240 => ((spec_SameCode.f k bt234.1 bt234.2 bt240.1 bt240.2).bind fun t246 => ((laws_toCode.f k a b).bind fun bt247 => ((laws_toCode.f k a2 b2).bind fun bt254 => ((impl_SameCode.f k bt247.1 bt247.2 bt254.1 bt254.2).bind fun t261 => (if (t261 != t246) = true then (some false) else (laws_FnExactSameCode.j2 k a b a2 b2 bt247.1 bt247.2 bt254.1 bt254.2)))))))) (fun k => rfl)
        (Ev.bind ht (Ev.bind ht2 (Ev.bind (spec_SameCode_ev (a.map cvFn) (P_cvL b) (a2.map cvFn) (P_cvL b2) (by omega) (fun y hy => by have := q1 y hy; omega) (by omega)) (Ev.bind ht (Ev.bind ht2 (Ev.bind (impl_SameCode_ev (a.map cvFn) (P_cvL b) (a2.map cvFn) (P_cvL b2) (by omega) (fun y hy => by have := q1 y hy; omega) (by omega)) (ev_neg (by simp) ?_)))))))
      exact Ev.step (f := fun k => (laws_toCode.f k a b).bind fun bt262 => ((laws_eqCode.f k (a.map cvFn) (P_cvL b) bt262.1 bt262.2).bind fun t268 => (if t268 = true then ((laws_toCode.f k a2 b2).bind fun bt269 => ((laws_eqCode.f k (a2.map cvFn) (P_cvL b2) bt269.1 bt269.2).bind fun t275 => (if t275 = true then (some true) else (some false)))) else (some false)))) (fun k => rfl)
        (Ev.bind ht (Ev.bind (eqCode_ev (a.map cvFn) (P_cvL b) (by omega) (fun y hy => by have := q1 y hy; omega) (by omega)) (ev_pos rfl (Ev.bind ht2 (Ev.bind (eqCode_ev (a2.map cvFn) (P_cvL b2) (by omega) (fun y hy => by have := u1 y hy; omega) (by omega)) (ev_pos rfl (Ev.now _)))))))
    · rw [if_neg hb2]
      exact ev_pos (by omega) (Ev.now _)
  · rw [if_neg hb]
    exact ev_pos (by omega) (Ev.now _)

end Go.Proofs.Ytiogbffgjogmoaa.Pure
