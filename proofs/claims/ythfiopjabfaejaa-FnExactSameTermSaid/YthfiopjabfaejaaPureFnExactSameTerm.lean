/- What the law FnExactSameTerm of this seat says holds for every input that its row speaks of; no further condition. -/
import Derived.Test.YthfiopjabfaejaaQFnExactSameTermx5
set_option linter.unusedVariables false
set_option linter.unusedSimpArgs false
namespace Go.Proofs.Ythfiopjabfaejaa.Pure
open Go.RowKit Go.Proofs.Ythfiopjabfaejaa.QFnExactSameTerm Go.Proofs.YthfiopjabfaejaaW.PrintWords Go.Proofs.YthfiopjabfaejaaW.PrintLast Go.Proofs.YthfiopjabfaejaaW.PrintMore

theorem ev_pos {α : Type} {c : Prop} [Decidable c] {A B : Nat → Option α} {r : α} (h : c) (e : Ev A r) : Ev (fun k => if c then A k else B k) r := by
  obtain ⟨K, hK⟩ := e
  exact ⟨K, fun k hk => by simp only [if_pos h]; exact hK k hk⟩
theorem ev_neg {α : Type} {c : Prop} [Decidable c] {A B : Nat → Option α} {r : α} (h : ¬ c) (e : Ev B r) : Ev (fun k => if c then A k else B k) r := by
  obtain ⟨K, hK⟩ := e
  exact ⟨K, fun k hk => by simp only [if_neg h]; exact hK k hk⟩
theorem ev_of {α : Type} {o : Option α} {r : α} (h : o = some r) : Ev (fun _ => o) r := ⟨0, fun _ _ => h⟩
theorem ev_cast {α : Type} {g : Nat → Option α} {r r' : α} (h : r = r') (e : Ev g r) : Ev g r' := h ▸ e
theorem ev_uniq {α : Type} {g : Nat → Option α} {r r' : α} (h : Ev g r) (h' : Ev g r') : r = r' := by
  obtain ⟨K, hK⟩ := h
  obtain ⟨K', hK'⟩ := h'
  have a := hK (max K K') (Nat.le_max_left _ _)
  have b := hK' (max K K') (Nat.le_max_right _ _)
  rw [a] at b
  exact Option.some.inj b
theorem w64 (n : Int) (h0 : -9223372036854775808 ≤ n) (h1 : n ≤ 9223372036854775807) : wrap64 n = n := by unfold wrap64; omega
theorem dec_and (p q : Prop) [Decidable p] [Decidable q] : decide (p ∧ q) = (decide p && decide q) := by
  by_cases hp : p <;> by_cases hq : q <;> simp [hp, hq]
theorem indI {P : S46 → Prop} (h : ∀ a b s l, (∀ y ∈ l, P y) → P ⟨a, b, s, l⟩) : ∀ x, P x := by
  intro x
  refine S46.rec (motive_1 := P) (motive_2 := fun l => ∀ y ∈ l, P y) ?_ ?_ ?_ x
  · intro a b s l hl
    exact h a b s l hl
  · intro y hy; cases hy
  · intro x r hx hr y hy
    rcases List.mem_cons.1 hy with rfl | hy
    · exact hx
    · exact hr y hy
mutual
def budI : S46 → Nat
  | ⟨_, _, s, l⟩ => s.size + budIL l
def budIL : List S46 → Nat
  | [] => 0
  | x :: r => 1 + budI x + budIL r
end
theorem budI_mk (a b : Int) (s : ByteArray) (l : List S46) : budI ⟨a, b, s, l⟩ = s.size + budIL l := by rw [budI]
theorem budIL_len : ∀ l : List S46, l.length ≤ budIL l
  | [] => by simp [budIL]
  | x :: r => by
    have := budIL_len r
    rw [budIL, List.length_cons]; omega
theorem rdI_mem (l : List S46) (i : Nat) (h : i < l.length) : rd_T46 l i ∈ l := by
  unfold rd_T46
  simp [List.getD_eq_getElem?_getD, List.getElem?_eq_getElem h]
theorem dropI (l : List S46) (i : Nat) (h : i < l.length) : l.drop i = rd_T46 l i :: l.drop (i + 1) := by
  rw [List.drop_eq_getElem_cons h]
  unfold rd_T46
  simp [List.getElem?_eq_getElem h]
theorem budI_mem : ∀ (l : List S46) (x : S46), x ∈ l → budI x + 1 ≤ budIL l
  | [], x, h => by cases h
  | y :: r, x, h => by
    rw [budIL]
    rcases List.mem_cons.1 h with rfl | h
    · omega
    · have := budI_mem r x h; omega
theorem etaI (x : S46) : (⟨x.f0, x.f1, x.f2, x.f3⟩ : S46) = x := by cases x; rfl
theorem indL {P : S41 → Prop} (h : ∀ a b s l, (∀ y ∈ l, P y) → P ⟨a, b, s, l⟩) : ∀ x, P x := by
  intro x
  refine S41.rec (motive_1 := P) (motive_2 := fun l => ∀ y ∈ l, P y) ?_ ?_ ?_ x
  · intro a b s l hl
    exact h a b s l hl
  · intro y hy; cases hy
  · intro x r hx hr y hy
    rcases List.mem_cons.1 hy with rfl | hy
    · exact hx
    · exact hr y hy
mutual
def budL : S41 → Nat
  | ⟨_, _, s, l⟩ => s.size + (l.length + budLE l)
def budLE : List S41 → Nat
  | [] => 0
  | x :: r => budL x + budLE r
end
mutual
def cv : S41 → S46
  | ⟨a, b, s, l⟩ => ⟨a, b, s, cvL l⟩
def cvL : List S41 → List S46
  | [] => []
  | x :: r => cv x :: cvL r
end
theorem cvL_len : ∀ l, (cvL l).length = l.length
  | [] => rfl
  | x :: r => by rw [cvL, List.length_cons, List.length_cons, cvL_len r]
theorem cvL_map : ∀ l, cvL l = l.map cv
  | [] => rfl
  | x :: r => by rw [cvL, List.map_cons, cvL_map r]
mutual
theorem bud_cv : ∀ x, budI (cv x) = budL x
  | ⟨a, b, s, l⟩ => by rw [cv, budI, budL, bud_cvL l]
theorem bud_cvL : ∀ l, budIL (cvL l) = l.length + budLE l
  | [] => by rw [cvL, budIL, budLE]; rfl
  | x :: r => by rw [cvL, budIL, budLE, bud_cv x, bud_cvL r, List.length_cons]; omega
end
theorem rdL_mem (l : List S41) (i : Nat) (h : i < l.length) : rd_T41 l i ∈ l := by
  unfold rd_T41
  simp [List.getD_eq_getElem?_getD, List.getElem?_eq_getElem h]
theorem dropL (l : List S41) (i : Nat) (h : i < l.length) : l.drop i = rd_T41 l i :: l.drop (i + 1) := by
  rw [List.drop_eq_getElem_cons h]
  unfold rd_T41
  simp [List.getElem?_eq_getElem h]
theorem wfL_mem (l : List S41) (h : wfl41 l) : ∀ x ∈ l, wf41 x := (wfl41_iff l).1 h
theorem wfL_mk {a b : Int} {s : ByteArray} {l : List S41} (h : wf41 ⟨a, b, s, l⟩) : (Lit.int .i64 a).wf = true ∧ (Lit.int .i64 b).wf = true ∧ (s.size : Int) ≤ 9223372036854775807 ∧ (l.length : Int) ≤ 9223372036854775807 ∧ ∀ x ∈ l, wf41 x := by
  unfold wf41 at h
  obtain ⟨h0, h1, h2, h3, h4⟩ := h
  unfold maxLen at h2 h3
  exact ⟨h0, h1, by omega, by omega, wfL_mem l h4⟩
theorem wf_u8 {x : Int} (h : (Lit.int .u8 x).wf = true) : 0 ≤ x ∧ x < 256 := by
  simp [Lit.wf, IntKind.min, IntKind.max, IntKind.bits, IntKind.signed] at h
  omega
theorem wf_i64 {x : Int} (h : (Lit.int .i64 x).wf = true) : -9223372036854775808 ≤ x ∧ x ≤ 9223372036854775807 := by
  simp [Lit.wf, IntKind.min, IntKind.max, IntKind.bits, IntKind.signed] at h
  omega
def BytesB (l : List Int) : Prop := ∀ x ∈ l, 0 ≤ x ∧ x < 256
theorem BytesB.at_ {l : List Int} (h : BytesB l) (i : Int) : 0 ≤ rd l i ∧ rd l i < 256 := by
  unfold rd
  rw [List.getD_eq_getElem?_getD]
  by_cases hi : i.toNat < l.length
  · rw [List.getElem?_eq_getElem hi]; exact h _ (List.getElem_mem hi)
  · rw [List.getElem?_eq_none (by omega)]; decide
theorem drop_rd (l : List Int) (p : Nat) (h : p < l.length) : l.drop p = rd l p :: l.drop (p + 1) := by
  rw [List.drop_eq_getElem_cons h]
  unfold rd
  simp [List.getElem?_eq_getElem h]
theorem hk63 (n : Int) (h0 : 0 ≤ n) (h1 : n < 2 ^ 63) : IntKind.i64.wrap n = n := by
  rw [IntKind.wrap_i64]; omega
theorem or_comm64 (a b : Int) : Go.bits .or .i64 a b = Go.bits .or .i64 b a := by
  unfold Go.bits
  simp only [BitVec.or_comm]
theorem and127 (c : Int) (h0 : 0 ≤ c) (h1 : c < 256) : Go.bits .and .i64 c 127 = c % 128 := by
  have := bits_mask .i64 63 (by decide) hk63 7 (by decide) c h0 (by omega)
  simpa using this
theorem wrapU7 (i : Nat) (hi : i < 6) : IntKind.u64.wrap (wrap64 (7 * (i : Int))) = 7 * (i : Int) := by
  rw [w64 _ (by omega) (by omega)]
  simp [IntKind.wrap, IntKind.bits, IntKind.signed]
  omega
theorem p7 (i : Nat) (hi : i < 6) : (1 : Int) ≤ 2 ^ (7 * i) ∧ (2 : Int) ^ (7 * i) ≤ 34359738368 ∧ (2 : Int) ^ (7 * (i + 1)) = 128 * 2 ^ (7 * i) := by
  have : i = 0 ∨ i = 1 ∨ i = 2 ∨ i = 3 ∨ i = 4 ∨ i = 5 := by omega
  rcases this with rfl | rfl | rfl | rfl | rfl | rfl <;> decide
theorem grp (x c : Int) (i : Nat) (hi : i < 6) (hx0 : 0 ≤ x) (hx : x < 2 ^ (7 * i)) (hc0 : 0 ≤ c) (hc : c < 256) :
    Go.bits .or .i64 x (shl .i64 (Go.bits .and .i64 c 127) (IntKind.u64.wrap (wrap64 (7 * (i : Int))))) = x + (c % 128) * 2 ^ (7 * i) := by
  obtain ⟨hp1, hp2, _⟩ := p7 i hi
  rw [and127 c hc0 hc, wrapU7 i hi]
  unfold shl
  have hm : min (7 * (i : Int)).toNat (IntKind.i64.bits) = 7 * i := by show min _ 64 = _; omega
  have hb : 0 ≤ c % 128 ∧ c % 128 ≤ 127 := by omega
  have hq0 : 0 ≤ c % 128 * 2 ^ (7 * i) := Int.mul_nonneg hb.1 (by omega)
  have hq1 : c % 128 * 2 ^ (7 * i) ≤ 127 * 34359738368 := Int.mul_le_mul hb.2 hp2 (by omega) (by decide)
  rw [hm, hk63 _ hq0 (by omega), or_comm64]
  rw [bits_join .i64 63 (by decide) hk63 (7 * i) _ x hq0 (Int.mul_emod_left _ _) (by omega) hx0 hx (by omega)]
  omega
/-- What stands at a place: groups of seven bits; the number, and how many bytes. -/
def numM : Nat → Nat → Int → List Int → Option (Int × Nat)
  | 0, _, _, _ => none
  | _ + 1, _, _, [] => none
  | n + 1, i, x, c :: r => if c > 127 then numM n (i + 1) (x + (c % 128) * 2 ^ (7 * i)) r else if c = 0 ∧ 0 < i then none else some (x + (c % 128) * 2 ^ (7 * i), i + 1)
def zag (m : Int) : Int := if m % 2 = 1 then -(m / 2) - 1 else m / 2
def numFin (a : Int) : Option (Int × Nat) → Int × Int × Bool
  | none => (0, 0, false)
  | some (m, c) => if -1000000000000 ≤ zag m ∧ zag m ≤ 1000000000000 then (zag m, a + c, true) else (0, 0, false)
def getNumM (l : List Int) (a : Int) : Int × Int × Bool := if 0 ≤ a ∧ a < l.length then numFin a (numM 6 0 0 (l.drop a.toNat)) else (0, 0, false)
def szRes (left : Int) (b : Nat) : Int := if (b : Int) ≤ left then left - b else -1
theorem sz_loop (l : List S41) (hl : (l.length : Int) ≤ 9223372036854775807)
    (h : ∀ y ∈ l, ∀ left : Int, 0 ≤ left → left ≤ 1048576 → Ev (fun k => laws_szTerm.f k y.f0 y.f1 y.f2 y.f3 left) (szRes left (budL y))) (d : Nat) :
    ∀ (i : Nat) (left : Int), i + d = l.length → 0 ≤ left → left ≤ 1048576 → Ev (fun k => laws_szTermS.l0 k l left i) (szRes left (budLE (l.drop i))) := by
  induction d with
  | zero =>
    intro i left hi h0 h1
    refine Ev.step (f := fun _ => some left) (fun k => ?_) (ev_cast ?_ (Ev.now _))
    · simp only [laws_szTermS.l0]; rw [if_neg (by omega)]
    · rw [List.drop_eq_nil_of_le (by omega), budLE]; unfold szRes; rw [if_pos (by omega)]; omega
  | succ d ih =>
    intro i left hi h0 h1
    have hlt : i < l.length := by omega
    have e := h _ (rdL_mem l i hlt) left h0 h1
    rw [dropL l i hlt, budLE]
    generalize hy : rd_T41 l i = y at *
    refine Ev.step (f := fun k => (laws_szTerm.f k y.f0 y.f1 y.f2 y.f3 left).bind fun t102 => (if t102 < 0 then (some (-1)) else (laws_szTermS.l0 k l t102 (wrap64 ((i : Int) + 1))))) (fun k => ?_) (Ev.bind e ?_)
    · simp only [laws_szTermS.l0]; rw [if_pos (by omega), if_pos (by omega), hy]
    · unfold szRes
      by_cases hb : (budL y : Int) ≤ left
      · rw [if_pos hb]
        refine ev_neg (by omega) ?_
        rw [w64 _ (by omega) (by omega)]
        refine ev_cast ?_ (ih (i + 1) (left - budL y) (by omega) (by omega) (by omega))
        unfold szRes
        by_cases hc : (budLE (l.drop (i + 1)) : Int) ≤ left - budL y
        · rw [if_pos hc, if_pos (by omega)]; omega
        · rw [if_neg hc, if_neg (by omega)]
      · rw [if_neg hb, if_neg (by omega)]
        exact ev_pos (by omega) (Ev.now _)
theorem szS_of (l : List S41) (hl : (l.length : Int) ≤ 9223372036854775807)
    (h : ∀ y ∈ l, ∀ left : Int, 0 ≤ left → left ≤ 1048576 → Ev (fun k => laws_szTerm.f k y.f0 y.f1 y.f2 y.f3 left) (szRes left (budL y))) (left : Int) (h0 : 0 ≤ left) (h1 : left ≤ 1048576) :
    Ev (fun k => laws_szTermS.f k l left) (szRes left (l.length + budLE l)) := by
  by_cases hc : left - (l.length : Int) < 0
  · refine Ev.step (f := fun _ => some (-1)) (fun k => ?_) (ev_cast ?_ (Ev.now _))
    · simp only [laws_szTermS.f]; rw [w64 _ (by omega) (by omega), if_pos hc]
    · unfold szRes; rw [if_neg (by omega)]
  · refine Ev.step (fun k => ?_) (ev_cast ?_ (sz_loop l hl h l.length 0 (left - l.length) (by omega) (by omega) (by omega)))
    · simp only [laws_szTermS.f]; rw [w64 _ (by omega) (by omega), if_neg hc]; rfl
    · rw [List.drop_zero]
      unfold szRes
      by_cases hb : (budLE l : Int) ≤ left - l.length
      · rw [if_pos hb, if_pos (by omega)]; omega
      · rw [if_neg hb, if_neg (by omega)]
theorem sz_all : ∀ x, wf41 x → ∀ left : Int, 0 ≤ left → left ≤ 1048576 → Ev (fun k => laws_szTerm.f k x.f0 x.f1 x.f2 x.f3 left) (szRes left (budL x)) := by
  refine indL ?_
  intro a b s l ih hw left h0 h1
  obtain ⟨_, _, hs, hl, hm⟩ := wfL_mk hw
  simp only []
  by_cases hc : left - (s.size : Int) < 0
  · refine Ev.step (f := fun _ => some (-1)) (fun k => ?_) (ev_cast ?_ (Ev.now _))
    · simp only [laws_szTerm.f]; rw [w64 _ (by omega) (by omega), if_pos hc]
    · rw [budL]; unfold szRes; rw [if_neg (by omega)]
  · have e := szS_of l hl (fun y hy => ih y hy (hm y hy)) (left - s.size) (by omega) (by omega)
    refine Ev.step (f := fun k => (laws_szTermS.f k l (left - (s.size : Int))).bind fun t104 => (if t104 < 0 then (some (-1)) else (some t104))) (fun k => ?_) (Ev.bind e ?_)
    · simp only [laws_szTerm.f]; rw [w64 _ (by omega) (by omega), if_neg hc]
    · rw [budL]
      unfold szRes
      by_cases hb : ((l.length + budLE l : Nat) : Int) ≤ left - s.size
      · have hb2 : ((s.size + (l.length + budLE l) : Nat) : Int) ≤ left := by omega
        rw [if_pos hb, if_pos hb2]
        exact ev_neg (by omega) (ev_cast (by omega) (Ev.now _))
      · have hb2 : ¬ ((s.size + (l.length + budLE l) : Nat) : Int) ≤ left := by omega
        rw [if_neg hb, if_neg hb2]
        exact ev_pos (by omega) (Ev.now _)
theorem szTerm_ev (a b : Int) (s : ByteArray) (l : List S41) (hw : wf41 ⟨a, b, s, l⟩) (left : Int) (h0 : 0 ≤ left) (h1 : left ≤ 1048576) : Ev (fun k => laws_szTerm.f k a b s l left) (szRes left (budL ⟨a, b, s, l⟩)) := sz_all _ hw left h0 h1
theorem set_takeI (l : List S46) (i : Nat) (v : S46) (h : i < l.length) : (l.set i v).take (i + 1) = l.take i ++ [v] := by
  rw [List.take_succ_eq_append_getElem (by simpa using h)]
  simp [List.take_set]
  rw [List.set_eq_of_length_le (by simp; omega)]
theorem to_loop (l : List S41) (hl : (l.length : Int) ≤ 1048576)
    (h : ∀ y ∈ l, Ev (fun k => laws_toTerm.f k y.f0 y.f1 y.f2 y.f3) (y.f0, y.f1, y.f2, cvL y.f3)) (d : Nat) :
    ∀ (i : Nat) (x : List S46), i + d = l.length → x.length = l.length → x.take i = (cvL l).take i → Ev (fun k => laws_toTermS.l0 k l x i) (cvL l) := by
  induction d with
  | zero =>
    intro i x hi hx ht
    refine Ev.step (f := fun _ => some x) (fun k => ?_) (ev_cast ?_ (Ev.now _))
    · simp only [laws_toTermS.l0]; rw [if_neg (by omega)]
    · rwa [List.take_of_length_le (by omega), List.take_of_length_le (by rw [cvL_len]; omega)] at ht
  | succ d ih =>
    intro i x hi hx ht
    have hlt : i < l.length := by omega
    have e := h _ (rdL_mem l i hlt)
    have hn := ih (i + 1) (x.set i (cv (rd_T41 l i))) (by omega) (by simpa using hx) (by
      rw [set_takeI _ _ _ (by omega), ht, List.take_succ_eq_append_getElem (by rw [cvL_len]; omega)]
      congr 1
      simp only [cvL_map, List.getElem_map]
      unfold rd_T41
      simp [List.getElem?_eq_getElem hlt])
    generalize hy : rd_T41 l i = y at *
    refine Ev.step (f := fun k => (laws_toTerm.f k y.f0 y.f1 y.f2 y.f3).bind fun bt112 => (laws_toTermS.l0 k l (x.set i (⟨bt112.1, bt112.2.1, bt112.2.2.1, bt112.2.2.2⟩ : S46)) (wrap64 ((i : Int) + 1)))) (fun k => ?_) (Ev.bind e ?_)
    · simp only [laws_toTermS.l0]; rw [if_pos (by omega), if_pos (by omega), hy]
      congr 1
      funext bt
      rw [if_pos (by omega)]
      rfl
    · rw [w64 _ (by omega) (by omega)]
      have ec : (⟨y.f0, y.f1, y.f2, cvL y.f3⟩ : S46) = cv y := by cases y; rw [cv]
      simp only [ec]
      exact hn
theorem toS_of (l : List S41) (hl : (l.length : Int) ≤ 1048576)
    (h : ∀ y ∈ l, Ev (fun k => laws_toTerm.f k y.f0 y.f1 y.f2 y.f3) (y.f0, y.f1, y.f2, cvL y.f3)) : Ev (fun k => laws_toTermS.f k l) (cvL l) := by
  refine Ev.step (fun k => ?_) (to_loop l hl h l.length 0 (List.replicate l.length z46) (by omega) (by simp) (by simp))
  simp only [laws_toTermS.f]; rw [if_pos (by omega), if_pos (by omega)]
  simp
theorem budL_mem : ∀ (l : List S41) (x : S41), x ∈ l → budL x ≤ budLE l
  | [], x, h => by cases h
  | y :: r, x, h => by
    rw [budLE]
    rcases List.mem_cons.1 h with rfl | h
    · omega
    · have := budL_mem r x h; omega
theorem to_all : ∀ x, (budL x : Int) ≤ 1048576 → Ev (fun k => laws_toTerm.f k x.f0 x.f1 x.f2 x.f3) (x.f0, x.f1, x.f2, cvL x.f3) := by
  refine indL ?_
  intro a b s l ih hb
  rw [budL] at hb
  refine Ev.step (f := fun k => (laws_toTermS.f k l).bind fun t122 => (some (a, b, s, t122))) (fun k => ?_) (Ev.bind (toS_of l (by omega) (fun y hy => ih y hy (by have := budL_mem l y hy; omega))) (Ev.now _))
  simp only [laws_toTerm.f]
theorem toTerm_ev (a b : Int) (s : ByteArray) (l : List S41) (hb : (budL ⟨a, b, s, l⟩ : Int) ≤ 1048576) : Ev (fun k => laws_toTerm.f k a b s l) (a, b, s, cvL l) := to_all _ hb
theorem eq_loop (l : List S46) (hl : (l.length : Int) ≤ 4194304)
    (h : ∀ y ∈ l, Ev (fun k => laws_eqTerm.f k y.f0 y.f1 y.f2 y.f3 y.f0 y.f1 y.f2 y.f3) true) (d : Nat) : ∀ (i : Nat), i + d = l.length → Ev (fun k => laws_eqTermS.l0 k l l i) true := by
  induction d with
  | zero =>
    intro i hi
    refine Ev.step (f := fun _ => some true) (fun k => ?_) (Ev.now _)
    simp only [laws_eqTermS.l0]; rw [if_neg (by omega)]
  | succ d ih =>
    intro i hi
    have hlt : i < l.length := by omega
    have e := h _ (rdI_mem l i hlt)
    have hn := ih (i + 1) (by omega)
    generalize hy : rd_T46 l i = y at *
    refine Ev.step (f := fun k => (laws_eqTerm.f k y.f0 y.f1 y.f2 y.f3 y.f0 y.f1 y.f2 y.f3).bind fun t131 => (if t131 = true then (laws_eqTermS.l0 k l l (wrap64 ((i : Int) + 1))) else (some false))) (fun k => ?_) (Ev.bind e (ev_pos rfl ?_))
    · simp only [laws_eqTermS.l0]; rw [if_pos (by omega), if_pos (by omega), if_pos (by omega), hy]
    · rw [w64 _ (by omega) (by omega)]; exact hn
theorem eqS_of (l : List S46) (hl : (l.length : Int) ≤ 4194304) (h : ∀ y ∈ l, Ev (fun k => laws_eqTerm.f k y.f0 y.f1 y.f2 y.f3 y.f0 y.f1 y.f2 y.f3) true) : Ev (fun k => laws_eqTermS.f k l l) true := by
  refine Ev.step (fun k => ?_) (eq_loop l hl h l.length 0 (by omega))
  simp only [laws_eqTermS.f]; rw [if_pos trivial]; rfl
theorem eq_all : ∀ x, (budI x : Int) ≤ 4194304 → Ev (fun k => laws_eqTerm.f k x.f0 x.f1 x.f2 x.f3 x.f0 x.f1 x.f2 x.f3) true := by
  refine indI ?_
  intro a b s l ih hb
  rw [budI] at hb
  have hl := budIL_len l
  refine Ev.step (f := fun k => (laws_eqTermS.f k l l).bind fun t134 => (if t134 = true then (some true) else (some false))) (fun k => ?_) (Ev.bind (eqS_of l (by omega) (fun y hy => ih y hy (by have := budI_mem l y hy; omega))) (ev_pos rfl (Ev.now _)))
  simp only [laws_eqTerm.f]
  simp
theorem eqTerm_ev (a b : Int) (s : ByteArray) (l : List S46) (hb : (budI ⟨a, b, s, l⟩ : Int) ≤ 4194304) : Ev (fun k => laws_eqTerm.f k a b s l a b s l) true := eq_all _ hb
theorem eqTermS_ev (l : List S46) (hb : (budIL l : Int) ≤ 4194304) : Ev (fun k => laws_eqTermS.f k l l) true := by
  have hl := budIL_len l
  exact eqS_of l (by omega) (fun y hy => eq_all y (by have := budI_mem l y hy; omega))
mutual
def sameM : S46 → S46 → Bool
  | ⟨a, b, s, l⟩, y => decide (a = y.f0) && (decide (b = y.f1) && (decide (s.toList = y.f2.toList) && sameML l y.f3))
def sameML : List S46 → List S46 → Bool
  | [], l => l.isEmpty
  | x :: r, l => match l with
    | [] => false
    | y :: r2 => sameM x y && sameML r r2
end
theorem sameML_len : ∀ l m, sameML l m = true → l.length = m.length
  | [], m, h => by rw [sameML] at h; cases m <;> simp_all
  | x :: r, [], h => by rw [sameML] at h; cases h
  | x :: r, y :: r2, h => by
    rw [sameML, Bool.and_eq_true] at h
    rw [List.length_cons, List.length_cons, sameML_len r r2 h.2]
theorem spec_Same_loop (a b : Int) (s : ByteArray) (l : List S46) (a2 b2 : Int) (s2 : ByteArray) (m : List S46) (hl : (budIL l : Int) ≤ 4194304) (hm : l.length = m.length)
    (h : ∀ y ∈ l, ∀ z, Ev (fun k => spec_SameTerm.f k y.f0 y.f1 y.f2 y.f3 z.f0 z.f1 z.f2 z.f3) (sameM y z)) (d : Nat) : ∀ (i : Nat), i + d = l.length → Ev (fun k => spec_SameTerm.l0 k i a b s l a2 b2 s2 m) (sameML (l.drop i) (m.drop i)) := by
  have hlen := budIL_len l
  induction d with
  | zero =>
    intro i hi
    refine Ev.step (f := fun _ => some true) (fun k => ?_) (ev_cast ?_ (Ev.now _))
    · simp only [spec_SameTerm.l0]; rw [if_neg (by omega)]
    · rw [List.drop_eq_nil_of_le (by omega), List.drop_eq_nil_of_le (by omega)]; rfl
  | succ d ih =>
    intro i hi
    have hlt : i < l.length := by omega
    have e := h _ (rdI_mem l i hlt) (rd_T46 m i)
    have hn := ih (i + 1) (by omega)
    rw [dropI l i hlt, dropI m i (by omega), sameML]
    generalize hy : rd_T46 l i = y at *
    generalize hz : rd_T46 m i = z at *
    refine Ev.step (f := fun k => (spec_SameTerm.f k y.f0 y.f1 y.f2 y.f3 z.f0 z.f1 z.f2 z.f3).bind fun t => (if t = true then (spec_SameTerm.l0 k (wrap64 ((i : Int) + 1)) a b s l a2 b2 s2 m) else (some false))) (fun k => ?_) (Ev.bind e ?_)
    · simp only [spec_SameTerm.l0]; rw [if_pos (by omega), if_pos (by omega), if_pos (by omega), hy, hz]
    · rw [w64 _ (by omega) (by omega)]
      cases hs : sameM y z with
      | true => exact ev_pos rfl hn
      | false => exact ev_neg (by decide) (Ev.now _)
theorem spec_Same_all : ∀ x, (budI x : Int) ≤ 4194304 → ∀ z, Ev (fun k => spec_SameTerm.f k x.f0 x.f1 x.f2 x.f3 z.f0 z.f1 z.f2 z.f3) (sameM x z) := by
  refine indI ?_
  intro a b s l ih hb z
  rw [budI] at hb
  obtain ⟨a2, b2, s2, m⟩ := z
  have no : Ev (fun k => spec_SameTerm.j0 k true a b s l a2 b2 s2 m) false := Ev.step (f := fun _ => some false) (fun k => by simp [spec_SameTerm.j0]) (Ev.now _)
  rw [sameM]
  simp only []
  by_cases h1 : a = a2
  · by_cases h2 : b = b2
    · by_cases h3 : s.toList = s2.toList
      · by_cases h4 : l.length = m.length
        · have e := spec_Same_loop a b s l a2 b2 s2 m (by omega) h4 (fun y hy z => ih y hy (by have := budI_mem l y hy; omega) z) l.length 0 (by omega)
          refine Ev.step (f := fun k => spec_SameTerm.j0 k false a b s l a2 b2 s2 m) (fun k => ?_) (Ev.step (fun k => ?_) (ev_cast ?_ e))
          · simp only [spec_SameTerm.f]; rw [if_pos h1, if_pos h2, if_pos h3, h4]; simp
          · simp only [spec_SameTerm.j0]; rw [if_neg (by decide)]; rfl
          · simp [h1, h2, h3]
        · refine Ev.step (fun k => ?_) (ev_cast ?_ no)
          · simp only [spec_SameTerm.f]; rw [if_pos h1, if_pos h2, if_pos h3]
            congr 1
            simp; omega
          · cases hs : sameML l m with
            | true => exact absurd (sameML_len l m hs) h4
            | false => simp
      · refine Ev.step (fun k => ?_) (ev_cast ?_ no)
        · simp only [spec_SameTerm.f]; rw [if_pos h1, if_pos h2, if_neg h3]
        · simp [h3]
    · refine Ev.step (fun k => ?_) (ev_cast ?_ no)
      · simp only [spec_SameTerm.f]; rw [if_pos h1, if_neg h2]
      · simp [h2]
  · refine Ev.step (fun k => ?_) (ev_cast ?_ no)
    · simp only [spec_SameTerm.f]; rw [if_neg h1]
    · simp [h1]
theorem impl_Same_loop (l m : List S46) (hl : (budIL l : Int) ≤ 4194304) (hm : l.length = m.length)
    (h : ∀ y ∈ l, ∀ z, Ev (fun k => impl_SameTerm.f k y.f0 y.f1 y.f2 y.f3 z.f0 z.f1 z.f2 z.f3) (sameM y z)) (d : Nat) : ∀ (i : Nat), i + d = l.length → Ev (fun k => slices_EqualFunc_of_impl_SameTerm.l0 k m l (l.length : Int) i) (sameML (l.drop i) (m.drop i)) := by
  have hlen := budIL_len l
  induction d with
  | zero =>
    intro i hi
    refine Ev.step (f := fun _ => some true) (fun k => ?_) (ev_cast ?_ (Ev.now _))
    · simp only [slices_EqualFunc_of_impl_SameTerm.l0]; rw [if_neg (by omega)]
    · rw [List.drop_eq_nil_of_le (by omega), List.drop_eq_nil_of_le (by omega)]; rfl
  | succ d ih =>
    intro i hi
    have hlt : i < l.length := by omega
    have e := h _ (rdI_mem l i hlt) (rd_T46 m i)
    have hn := ih (i + 1) (by omega)
    rw [dropI l i hlt, dropI m i (by omega), sameML]
    generalize hy : rd_T46 l i = y at *
    generalize hz : rd_T46 m i = z at *
    refine Ev.step (f := fun k => (impl_SameTerm.f k y.f0 y.f1 y.f2 y.f3 z.f0 z.f1 z.f2 z.f3).bind fun t => (if t = true then (slices_EqualFunc_of_impl_SameTerm.l0 k m l (l.length : Int) (wrap64 ((i : Int) + 1))) else (some false))) (fun k => ?_) (Ev.bind e ?_)
    · simp only [slices_EqualFunc_of_impl_SameTerm.l0]; rw [if_pos (by omega), if_pos (by omega), if_pos (by omega), if_pos (by omega), hy, hz]
    · rw [w64 _ (by omega) (by omega)]
      cases hs : sameM y z with
      | true => exact ev_pos rfl hn
      | false => exact ev_neg (by decide) (Ev.now _)
theorem impl_EqualFunc_of (l m : List S46) (hl : (budIL l : Int) ≤ 4194304)
    (h : ∀ y ∈ l, ∀ z, Ev (fun k => impl_SameTerm.f k y.f0 y.f1 y.f2 y.f3 z.f0 z.f1 z.f2 z.f3) (sameM y z)) : Ev (fun k => slices_EqualFunc_of_impl_SameTerm.f k l m) (sameML l m) := by
  by_cases h4 : l.length = m.length
  · refine Ev.step (fun k => ?_) (impl_Same_loop l m hl h4 h l.length 0 (by omega))
    simp only [slices_EqualFunc_of_impl_SameTerm.f]; rw [if_pos (by omega)]; rfl
  · refine Ev.step (f := fun _ => some false) (fun k => ?_) (ev_cast ?_ (Ev.now _))
    · simp only [slices_EqualFunc_of_impl_SameTerm.f]; rw [if_neg (by omega)]
    · cases hs : sameML l m with
      | true => exact absurd (sameML_len l m hs) h4
      | false => rfl
theorem impl_Same_all : ∀ x, (budI x : Int) ≤ 4194304 → ∀ z, Ev (fun k => impl_SameTerm.f k x.f0 x.f1 x.f2 x.f3 z.f0 z.f1 z.f2 z.f3) (sameM x z) := by
  refine indI ?_
  intro a b s l ih hb z
  rw [budI] at hb
  obtain ⟨a2, b2, s2, m⟩ := z
  have e := impl_EqualFunc_of l m (by omega) (fun y hy z => ih y hy (by have := budI_mem l y hy; omega) z)
  rw [sameM]
  simp only []
  by_cases h1 : a = a2
  · by_cases h2 : b = b2
    · by_cases h3 : s.toList = s2.toList
      · refine Ev.step (f := fun k => (slices_EqualFunc_of_impl_SameTerm.f k l m).bind fun t => some t) (fun k => ?_) (Ev.bind e (ev_cast ?_ (Ev.now _)))
        · simp only [impl_SameTerm.f]; rw [if_pos h1, if_pos h2, if_pos h3]
        · simp [h1, h2, h3]
      · refine Ev.step (f := fun _ => some false) (fun k => ?_) (ev_cast ?_ (Ev.now _))
        · simp only [impl_SameTerm.f]; rw [if_pos h1, if_pos h2, if_neg h3]
        · simp [h3]
    · refine Ev.step (f := fun _ => some false) (fun k => ?_) (ev_cast ?_ (Ev.now _))
      · simp only [impl_SameTerm.f]; rw [if_pos h1, if_neg h2]
      · simp [h2]
  · refine Ev.step (f := fun _ => some false) (fun k => ?_) (ev_cast ?_ (Ev.now _))
    · simp only [impl_SameTerm.f]; rw [if_neg h1]
    · simp [h1]
theorem FnExactSameTerm : laws_FnExactSameTerm.Pure := by
  intro a b s l a2 b2 s2 m hw hw2
  refine Ev.rounds (g := fun k => laws_FnExactSameTerm.f k a b s l a2 b2 s2 m) ?_
  unfold laws_FnExactSameTerm.f
  refine Ev.bind (szTerm_ev a b s l hw 1048576 (by omega) (by omega)) ?_
  unfold szRes
  by_cases hb : (budL ⟨a, b, s, l⟩ : Int) ≤ 1048576
  · rw [if_pos hb]
    refine ev_neg (by omega) ?_
    have hi : (budI (cv ⟨a, b, s, l⟩) : Int) ≤ 1048576 := by rw [bud_cv]; exact hb
    rw [cv] at hi
    have ht := toTerm_ev a b s l hb
    generalize hx : (1048576 : Int) - (budL ⟨a, b, s, l⟩ : Int) = x5
    refine Ev.step (f := fun k => (laws_szTerm.f k a2 b2 s2 m x5).bind fun t144 => (if t144 < 0 then (some true) else (laws_FnExactSameTerm.j1 k a b s l a2 b2 s2 m))) (fun k => rfl) (Ev.bind (szTerm_ev a2 b2 s2 m hw2 x5 (by omega) (by omega)) ?_)
    unfold szRes
    by_cases hb2 : (budL ⟨a2, b2, s2, m⟩ : Int) ≤ x5
    · rw [if_pos hb2]
      refine ev_neg (by omega) ?_
      have hi2 : (budI (cv ⟨a2, b2, s2, m⟩) : Int) ≤ 1048576 := by rw [bud_cv]; omega
      rw [cv] at hi2
      have ht2 := toTerm_ev a2 b2 s2 m (by omega)
      refine Ev.step (f := fun k => (laws_toTerm.f k a b s l).bind fun bt145 => ((laws_toTerm.f k a2 b2 s2 m).bind fun bt151 => ((spec_SameTerm.f k bt145.1 bt145.2.1 bt145.2.2.1 bt145.2.2.2 bt151.1 bt151.2.1 bt151.2.2.1 bt151.2.2.2).bind fun t157 => ((laws_toTerm.f k a b s l).bind fun bt158 => ((laws_toTerm.f k a2 b2 s2 m).bind fun bt165 => ((impl_SameTerm.f k bt158.1 bt158.2.1 bt158.2.2.1 bt158.2.2.2 bt165.1 bt165.2.1 bt165.2.2.1 bt165.2.2.2).bind fun t172 => (if (t172 != t157) = true then (some false) else (laws_FnExactSameTerm.j2 k a b s l a2 b2 s2 m bt158.1 bt158.2.1 bt158.2.2.1 bt158.2.2.2 bt165.1 bt165.2.1 bt165.2.2.1 bt165.2.2.2)))))))) (fun k => rfl) (Ev.bind ht (Ev.bind ht2 (Ev.bind (spec_Same_all ⟨a, b, s, cvL l⟩ (by omega) ⟨a2, b2, s2, cvL m⟩) (Ev.bind ht (Ev.bind ht2 (Ev.bind (impl_Same_all ⟨a, b, s, cvL l⟩ (by omega) ⟨a2, b2, s2, cvL m⟩) (ev_neg (by simp) ?_)))))))
      exact Ev.step (f := fun k => (laws_toTerm.f k a b s l).bind fun bt173 => ((laws_eqTerm.f k a b s (cvL l) bt173.1 bt173.2.1 bt173.2.2.1 bt173.2.2.2).bind fun t179 => (if t179 = true then ((laws_toTerm.f k a2 b2 s2 m).bind fun bt180 => ((laws_eqTerm.f k a2 b2 s2 (cvL m) bt180.1 bt180.2.1 bt180.2.2.1 bt180.2.2.2).bind fun t186 => (if t186 = true then (some true) else (some false)))) else (some false)))) (fun k => rfl) (Ev.bind ht (Ev.bind (eqTerm_ev a b s (cvL l) (by omega)) (ev_pos rfl (Ev.bind ht2 (Ev.bind (eqTerm_ev a2 b2 s2 (cvL m) (by omega)) (ev_pos rfl (Ev.now _)))))))
    · rw [if_neg hb2]
      exact ev_pos (by omega) (Ev.now _)
  · rw [if_neg hb]
    exact ev_pos (by omega) (Ev.now _)

end Go.Proofs.Ythfiopjabfaejaa.Pure
