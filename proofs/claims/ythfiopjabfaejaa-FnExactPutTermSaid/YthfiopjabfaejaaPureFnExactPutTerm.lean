/- What the law FnExactPutTerm of this seat says holds for every input that its row speaks of; no further condition. -/
import Derived.Test.YthfiopjabfaejaaQFnExactPutTermx8
import Derived.Lib.Strings
set_option linter.unusedVariables false
set_option linter.unusedSimpArgs false
namespace Go.Proofs.Ythfiopjabfaejaa.Pure
open Go.RowKit Go.Proofs.Ythfiopjabfaejaa.QFnExactPutTerm Go.Proofs.YthfiopjabfaejaaW.PrintWords Go.Proofs.YthfiopjabfaejaaW.PrintLast Go.Proofs.YthfiopjabfaejaaW.PrintMore

theorem ev_pos {α : Type} {c : Prop} [Decidable c] {A B : Nat → Option α} {r : α} (h : c) (e : Ev A r) : Ev (fun k => if c then A k else B k) r := by
  obtain ⟨K, hK⟩ := e
  exact ⟨K, fun k hk => by simp only [if_pos h]; exact hK k hk⟩
theorem ev_neg {α : Type} {c : Prop} [Decidable c] {A B : Nat → Option α} {r : α} (h : ¬ c) (e : Ev B r) : Ev (fun k => if c then A k else B k) r := by
  obtain ⟨K, hK⟩ := e
  exact ⟨K, fun k hk => by simp only [if_neg h]; exact hK k hk⟩
theorem ev_of {α : Type} {o : Option α} {r : α} (h : o = some r) : Ev (fun _ => o) r := ⟨0, fun _ _ => h⟩
theorem ev_cast {α : Type} {g : Nat → Option α} {r r' : α} (h : r = r') (e : Ev g r) : Ev g r' := h ▸ e
theorem ev_uniq {α : Type} {g : Nat → Option α} {r r' : α} (h : Ev g r) (h' : Ev g r') : r = r' := by
  obtain ⟨K, hK⟩ := h
  obtain ⟨K', hK'⟩ := h'
  have a := hK (max K K') (Nat.le_max_left _ _)
  have b := hK' (max K K') (Nat.le_max_right _ _)
  rw [a] at b
  exact Option.some.inj b
theorem w64 (n : Int) (h0 : -9223372036854775808 ≤ n) (h1 : n ≤ 9223372036854775807) : wrap64 n = n := by unfold wrap64; omega
theorem dec_and (p q : Prop) [Decidable p] [Decidable q] : decide (p ∧ q) = (decide p && decide q) := by
  by_cases hp : p <;> by_cases hq : q <;> simp [hp, hq]
theorem indI {P : S46 → Prop} (h : ∀ a b s l, (∀ y ∈ l, P y) → P ⟨a, b, s, l⟩) : ∀ x, P x := by
  intro x
  refine S46.rec (motive_1 := P) (motive_2 := fun l => ∀ y ∈ l, P y) ?_ ?_ ?_ x
  · intro a b s l hl
    exact h a b s l hl
  · intro y hy; cases hy
  · intro x r hx hr y hy
    rcases List.mem_cons.1 hy with rfl | hy
    · exact hx
    · exact hr y hy
mutual
def budI : S46 → Nat
  | ⟨_, _, s, l⟩ => s.size + budIL l
def budIL : List S46 → Nat
  | [] => 0
  | x :: r => 1 + budI x + budIL r
end
theorem budI_mk (a b : Int) (s : ByteArray) (l : List S46) : budI ⟨a, b, s, l⟩ = s.size + budIL l := by rw [budI]
theorem budIL_len : ∀ l : List S46, l.length ≤ budIL l
  | [] => by simp [budIL]
  | x :: r => by
    have := budIL_len r
    rw [budIL, List.length_cons]; omega
theorem rdI_mem (l : List S46) (i : Nat) (h : i < l.length) : rd_T46 l i ∈ l := by
  unfold rd_T46
  simp [List.getD_eq_getElem?_getD, List.getElem?_eq_getElem h]
theorem dropI (l : List S46) (i : Nat) (h : i < l.length) : l.drop i = rd_T46 l i :: l.drop (i + 1) := by
  rw [List.drop_eq_getElem_cons h]
  unfold rd_T46
  simp [List.getElem?_eq_getElem h]
theorem budI_mem : ∀ (l : List S46) (x : S46), x ∈ l → budI x + 1 ≤ budIL l
  | [], x, h => by cases h
  | y :: r, x, h => by
    rw [budIL]
    rcases List.mem_cons.1 h with rfl | h
    · omega
    · have := budI_mem r x h; omega
theorem etaI (x : S46) : (⟨x.f0, x.f1, x.f2, x.f3⟩ : S46) = x := by cases x; rfl
theorem indL {P : S41 → Prop} (h : ∀ a b s l, (∀ y ∈ l, P y) → P ⟨a, b, s, l⟩) : ∀ x, P x := by
  intro x
  refine S41.rec (motive_1 := P) (motive_2 := fun l => ∀ y ∈ l, P y) ?_ ?_ ?_ x
  · intro a b s l hl
    exact h a b s l hl
  · intro y hy; cases hy
  · intro x r hx hr y hy
    rcases List.mem_cons.1 hy with rfl | hy
    · exact hx
    · exact hr y hy
mutual
def budL : S41 → Nat
  | ⟨_, _, s, l⟩ => s.size + (l.length + budLE l)
def budLE : List S41 → Nat
  | [] => 0
  | x :: r => budL x + budLE r
end
mutual
def cv : S41 → S46
  | ⟨a, b, s, l⟩ => ⟨a, b, s, cvL l⟩
def cvL : List S41 → List S46
  | [] => []
  | x :: r => cv x :: cvL r
end
theorem cvL_len : ∀ l, (cvL l).length = l.length
  | [] => rfl
  | x :: r => by rw [cvL, List.length_cons, List.length_cons, cvL_len r]
theorem cvL_map : ∀ l, cvL l = l.map cv
  | [] => rfl
  | x :: r => by rw [cvL, List.map_cons, cvL_map r]
mutual
theorem bud_cv : ∀ x, budI (cv x) = budL x
  | ⟨a, b, s, l⟩ => by rw [cv, budI, budL, bud_cvL l]
theorem bud_cvL : ∀ l, budIL (cvL l) = l.length + budLE l
  | [] => by rw [cvL, budIL, budLE]; rfl
  | x :: r => by rw [cvL, budIL, budLE, bud_cv x, bud_cvL r, List.length_cons]; omega
end
theorem rdL_mem (l : List S41) (i : Nat) (h : i < l.length) : rd_T41 l i ∈ l := by
  unfold rd_T41
  simp [List.getD_eq_getElem?_getD, List.getElem?_eq_getElem h]
theorem dropL (l : List S41) (i : Nat) (h : i < l.length) : l.drop i = rd_T41 l i :: l.drop (i + 1) := by
  rw [List.drop_eq_getElem_cons h]
  unfold rd_T41
  simp [List.getElem?_eq_getElem h]
theorem wfL_mem (l : List S41) (h : wfl41 l) : ∀ x ∈ l, wf41 x := (wfl41_iff l).1 h
theorem wfL_mk {a b : Int} {s : ByteArray} {l : List S41} (h : wf41 ⟨a, b, s, l⟩) : (Lit.int .i64 a).wf = true ∧ (Lit.int .i64 b).wf = true ∧ (s.size : Int) ≤ 9223372036854775807 ∧ (l.length : Int) ≤ 9223372036854775807 ∧ ∀ x ∈ l, wf41 x := by
  unfold wf41 at h
  obtain ⟨h0, h1, h2, h3, h4⟩ := h
  unfold maxLen at h2 h3
  exact ⟨h0, h1, by omega, by omega, wfL_mem l h4⟩
theorem wf_u8 {x : Int} (h : (Lit.int .u8 x).wf = true) : 0 ≤ x ∧ x < 256 := by
  simp [Lit.wf, IntKind.min, IntKind.max, IntKind.bits, IntKind.signed] at h
  omega
theorem wf_i64 {x : Int} (h : (Lit.int .i64 x).wf = true) : -9223372036854775808 ≤ x ∧ x ≤ 9223372036854775807 := by
  simp [Lit.wf, IntKind.min, IntKind.max, IntKind.bits, IntKind.signed] at h
  omega
def BytesB (l : List Int) : Prop := ∀ x ∈ l, 0 ≤ x ∧ x < 256
theorem BytesB.at_ {l : List Int} (h : BytesB l) (i : Int) : 0 ≤ rd l i ∧ rd l i < 256 := by
  unfold rd
  rw [List.getD_eq_getElem?_getD]
  by_cases hi : i.toNat < l.length
  · rw [List.getElem?_eq_getElem hi]; exact h _ (List.getElem_mem hi)
  · rw [List.getElem?_eq_none (by omega)]; decide
theorem drop_rd (l : List Int) (p : Nat) (h : p < l.length) : l.drop p = rd l p :: l.drop (p + 1) := by
  rw [List.drop_eq_getElem_cons h]
  unfold rd
  simp [List.getElem?_eq_getElem h]
theorem hk63 (n : Int) (h0 : 0 ≤ n) (h1 : n < 2 ^ 63) : IntKind.i64.wrap n = n := by
  rw [IntKind.wrap_i64]; omega
theorem or_comm64 (a b : Int) : Go.bits .or .i64 a b = Go.bits .or .i64 b a := by
  unfold Go.bits
  simp only [BitVec.or_comm]
theorem and127 (c : Int) (h0 : 0 ≤ c) (h1 : c < 256) : Go.bits .and .i64 c 127 = c % 128 := by
  have := bits_mask .i64 63 (by decide) hk63 7 (by decide) c h0 (by omega)
  simpa using this
theorem wrapU7 (i : Nat) (hi : i < 6) : IntKind.u64.wrap (wrap64 (7 * (i : Int))) = 7 * (i : Int) := by
  rw [w64 _ (by omega) (by omega)]
  simp [IntKind.wrap, IntKind.bits, IntKind.signed]
  omega
theorem p7 (i : Nat) (hi : i < 6) : (1 : Int) ≤ 2 ^ (7 * i) ∧ (2 : Int) ^ (7 * i) ≤ 34359738368 ∧ (2 : Int) ^ (7 * (i + 1)) = 128 * 2 ^ (7 * i) := by
  have : i = 0 ∨ i = 1 ∨ i = 2 ∨ i = 3 ∨ i = 4 ∨ i = 5 := by omega
  rcases this with rfl | rfl | rfl | rfl | rfl | rfl <;> decide
theorem grp (x c : Int) (i : Nat) (hi : i < 6) (hx0 : 0 ≤ x) (hx : x < 2 ^ (7 * i)) (hc0 : 0 ≤ c) (hc : c < 256) :
    Go.bits .or .i64 x (shl .i64 (Go.bits .and .i64 c 127) (IntKind.u64.wrap (wrap64 (7 * (i : Int))))) = x + (c % 128) * 2 ^ (7 * i) := by
  obtain ⟨hp1, hp2, _⟩ := p7 i hi
  rw [and127 c hc0 hc, wrapU7 i hi]
  unfold shl
  have hm : min (7 * (i : Int)).toNat (IntKind.i64.bits) = 7 * i := by show min _ 64 = _; omega
  have hb : 0 ≤ c % 128 ∧ c % 128 ≤ 127 := by omega
  have hq0 : 0 ≤ c % 128 * 2 ^ (7 * i) := Int.mul_nonneg hb.1 (by omega)
  have hq1 : c % 128 * 2 ^ (7 * i) ≤ 127 * 34359738368 := Int.mul_le_mul hb.2 hp2 (by omega) (by decide)
  rw [hm, hk63 _ hq0 (by omega), or_comm64]
  rw [bits_join .i64 63 (by decide) hk63 (7 * i) _ x hq0 (Int.mul_emod_left _ _) (by omega) hx0 hx (by omega)]
  omega
/-- What stands at a place: groups of seven bits; the number, and how many bytes. -/
def numM : Nat → Nat → Int → List Int → Option (Int × Nat)
  | 0, _, _, _ => none
  | _ + 1, _, _, [] => none
  | n + 1, i, x, c :: r => if c > 127 then numM n (i + 1) (x + (c % 128) * 2 ^ (7 * i)) r else if c = 0 ∧ 0 < i then none else some (x + (c % 128) * 2 ^ (7 * i), i + 1)
def zag (m : Int) : Int := if m % 2 = 1 then -(m / 2) - 1 else m / 2
def numFin (a : Int) : Option (Int × Nat) → Int × Int × Bool
  | none => (0, 0, false)
  | some (m, c) => if -1000000000000 ≤ zag m ∧ zag m ≤ 1000000000000 then (zag m, a + c, true) else (0, 0, false)
def getNumM (l : List Int) (a : Int) : Int × Int × Bool := if 0 ≤ a ∧ a < l.length then numFin a (numM 6 0 0 (l.drop a.toNat)) else (0, 0, false)
def szRes (left : Int) (b : Nat) : Int := if (b : Int) ≤ left then left - b else -1
theorem sz_loop (l : List S41) (hl : (l.length : Int) ≤ 9223372036854775807)
    (h : ∀ y ∈ l, ∀ left : Int, 0 ≤ left → left ≤ 1048576 → Ev (fun k => laws_szTerm.f k y.f0 y.f1 y.f2 y.f3 left) (szRes left (budL y))) (d : Nat) :
    ∀ (i : Nat) (left : Int), i + d = l.length → 0 ≤ left → left ≤ 1048576 → Ev (fun k => laws_szTermS.l0 k l left i) (szRes left (budLE (l.drop i))) := by
  induction d with
  | zero =>
    intro i left hi h0 h1
    refine Ev.step (f := fun _ => some left) (fun k => ?_) (ev_cast ?_ (Ev.now _))
    · simp only [laws_szTermS.l0]; rw [if_neg (by omega)]
    · rw [List.drop_eq_nil_of_le (by omega), budLE]; unfold szRes; rw [if_pos (by omega)]; omega
  | succ d ih =>
    intro i left hi h0 h1
    have hlt : i < l.length := by omega
    have e := h _ (rdL_mem l i hlt) left h0 h1
    rw [dropL l i hlt, budLE]
    generalize hy : rd_T41 l i = y at *
    refine Ev.step (f := fun k => (laws_szTerm.f k y.f0 y.f1 y.f2 y.f3 left).bind fun t102 => (if t102 < 0 then (some (-1)) else (laws_szTermS.l0 k l t102 (wrap64 ((i : Int) + 1))))) (fun k => ?_) (Ev.bind e ?_)
    · simp only [laws_szTermS.l0]; rw [if_pos (by omega), if_pos (by omega), hy]
    · unfold szRes
      by_cases hb : (budL y : Int) ≤ left
      · rw [if_pos hb]
        refine ev_neg (by omega) ?_
        rw [w64 _ (by omega) (by omega)]
        refine ev_cast ?_ (ih (i + 1) (left - budL y) (by omega) (by omega) (by omega))
        unfold szRes
        by_cases hc : (budLE (l.drop (i + 1)) : Int) ≤ left - budL y
        · rw [if_pos hc, if_pos (by omega)]; omega
        · rw [if_neg hc, if_neg (by omega)]
      · rw [if_neg hb, if_neg (by omega)]
        exact ev_pos (by omega) (Ev.now _)
theorem szS_of (l : List S41) (hl : (l.length : Int) ≤ 9223372036854775807)
    (h : ∀ y ∈ l, ∀ left : Int, 0 ≤ left → left ≤ 1048576 → Ev (fun k => laws_szTerm.f k y.f0 y.f1 y.f2 y.f3 left) (szRes left (budL y))) (left : Int) (h0 : 0 ≤ left) (h1 : left ≤ 1048576) :
    Ev (fun k => laws_szTermS.f k l left) (szRes left (l.length + budLE l)) := by
  by_cases hc : left - (l.length : Int) < 0
  · refine Ev.step (f := fun _ => some (-1)) (fun k => ?_) (ev_cast ?_ (Ev.now _))
    · simp only [laws_szTermS.f]; rw [w64 _ (by omega) (by omega), if_pos hc]
    · unfold szRes; rw [if_neg (by omega)]
  · refine Ev.step (fun k => ?_) (ev_cast ?_ (sz_loop l hl h l.length 0 (left - l.length) (by omega) (by omega) (by omega)))
    · simp only [laws_szTermS.f]; rw [w64 _ (by omega) (by omega), if_neg hc]; rfl
    · rw [List.drop_zero]
      unfold szRes
      by_cases hb : (budLE l : Int) ≤ left - l.length
      · rw [if_pos hb, if_pos (by omega)]; omega
      · rw [if_neg hb, if_neg (by omega)]
theorem sz_all : ∀ x, wf41 x → ∀ left : Int, 0 ≤ left → left ≤ 1048576 → Ev (fun k => laws_szTerm.f k x.f0 x.f1 x.f2 x.f3 left) (szRes left (budL x)) := by
  refine indL ?_
  intro a b s l ih hw left h0 h1
  obtain ⟨_, _, hs, hl, hm⟩ := wfL_mk hw
  simp only []
  by_cases hc : left - (s.size : Int) < 0
  · refine Ev.step (f := fun _ => some (-1)) (fun k => ?_) (ev_cast ?_ (Ev.now _))
    · simp only [laws_szTerm.f]; rw [w64 _ (by omega) (by omega), if_pos hc]
    · rw [budL]; unfold szRes; rw [if_neg (by omega)]
  · have e := szS_of l hl (fun y hy => ih y hy (hm y hy)) (left - s.size) (by omega) (by omega)
    refine Ev.step (f := fun k => (laws_szTermS.f k l (left - (s.size : Int))).bind fun t104 => (if t104 < 0 then (some (-1)) else (some t104))) (fun k => ?_) (Ev.bind e ?_)
    · simp only [laws_szTerm.f]; rw [w64 _ (by omega) (by omega), if_neg hc]
    · rw [budL]
      unfold szRes
      by_cases hb : ((l.length + budLE l : Nat) : Int) ≤ left - s.size
      · have hb2 : ((s.size + (l.length + budLE l) : Nat) : Int) ≤ left := by omega
        rw [if_pos hb, if_pos hb2]
        exact ev_neg (by omega) (ev_cast (by omega) (Ev.now _))
      · have hb2 : ¬ ((s.size + (l.length + budLE l) : Nat) : Int) ≤ left := by omega
        rw [if_neg hb, if_neg hb2]
        exact ev_pos (by omega) (Ev.now _)
theorem szTerm_ev (a b : Int) (s : ByteArray) (l : List S41) (hw : wf41 ⟨a, b, s, l⟩) (left : Int) (h0 : 0 ≤ left) (h1 : left ≤ 1048576) : Ev (fun k => laws_szTerm.f k a b s l left) (szRes left (budL ⟨a, b, s, l⟩)) := sz_all _ hw left h0 h1
theorem set_takeI (l : List S46) (i : Nat) (v : S46) (h : i < l.length) : (l.set i v).take (i + 1) = l.take i ++ [v] := by
  rw [List.take_succ_eq_append_getElem (by simpa using h)]
  simp [List.take_set]
  rw [List.set_eq_of_length_le (by simp; omega)]
theorem to_loop (l : List S41) (hl : (l.length : Int) ≤ 1048576)
    (h : ∀ y ∈ l, Ev (fun k => laws_toTerm.f k y.f0 y.f1 y.f2 y.f3) (y.f0, y.f1, y.f2, cvL y.f3)) (d : Nat) :
    ∀ (i : Nat) (x : List S46), i + d = l.length → x.length = l.length → x.take i = (cvL l).take i → Ev (fun k => laws_toTermS.l0 k l x i) (cvL l) := by
  induction d with
  | zero =>
    intro i x hi hx ht
    refine Ev.step (f := fun _ => some x) (fun k => ?_) (ev_cast ?_ (Ev.now _))
    · simp only [laws_toTermS.l0]; rw [if_neg (by omega)]
    · rwa [List.take_of_length_le (by omega), List.take_of_length_le (by rw [cvL_len]; omega)] at ht
  | succ d ih =>
    intro i x hi hx ht
    have hlt : i < l.length := by omega
    have e := h _ (rdL_mem l i hlt)
    have hn := ih (i + 1) (x.set i (cv (rd_T41 l i))) (by omega) (by simpa using hx) (by
      rw [set_takeI _ _ _ (by omega), ht, List.take_succ_eq_append_getElem (by rw [cvL_len]; omega)]
      congr 1
      simp only [cvL_map, List.getElem_map]
      unfold rd_T41
      simp [List.getElem?_eq_getElem hlt])
    generalize hy : rd_T41 l i = y at *
    refine Ev.step (f := fun k => (laws_toTerm.f k y.f0 y.f1 y.f2 y.f3).bind fun bt112 => (laws_toTermS.l0 k l (x.set i (⟨bt112.1, bt112.2.1, bt112.2.2.1, bt112.2.2.2⟩ : S46)) (wrap64 ((i : Int) + 1)))) (fun k => ?_) (Ev.bind e ?_)
    · simp only [laws_toTermS.l0]; rw [if_pos (by omega), if_pos (by omega), hy]
      congr 1
      funext bt
      rw [if_pos (by omega)]
      rfl
    · rw [w64 _ (by omega) (by omega)]
      have ec : (⟨y.f0, y.f1, y.f2, cvL y.f3⟩ : S46) = cv y := by cases y; rw [cv]
      simp only [ec]
      exact hn
theorem toS_of (l : List S41) (hl : (l.length : Int) ≤ 1048576)
    (h : ∀ y ∈ l, Ev (fun k => laws_toTerm.f k y.f0 y.f1 y.f2 y.f3) (y.f0, y.f1, y.f2, cvL y.f3)) : Ev (fun k => laws_toTermS.f k l) (cvL l) := by
  refine Ev.step (fun k => ?_) (to_loop l hl h l.length 0 (List.replicate l.length z46) (by omega) (by simp) (by simp))
  simp only [laws_toTermS.f]; rw [if_pos (by omega), if_pos (by omega)]
  simp
theorem budL_mem : ∀ (l : List S41) (x : S41), x ∈ l → budL x ≤ budLE l
  | [], x, h => by cases h
  | y :: r, x, h => by
    rw [budLE]
    rcases List.mem_cons.1 h with rfl | h
    · omega
    · have := budL_mem r x h; omega
theorem to_all : ∀ x, (budL x : Int) ≤ 1048576 → Ev (fun k => laws_toTerm.f k x.f0 x.f1 x.f2 x.f3) (x.f0, x.f1, x.f2, cvL x.f3) := by
  refine indL ?_
  intro a b s l ih hb
  rw [budL] at hb
  refine Ev.step (f := fun k => (laws_toTermS.f k l).bind fun t122 => (some (a, b, s, t122))) (fun k => ?_) (Ev.bind (toS_of l (by omega) (fun y hy => ih y hy (by have := budL_mem l y hy; omega))) (Ev.now _))
  simp only [laws_toTerm.f]
theorem toTerm_ev (a b : Int) (s : ByteArray) (l : List S41) (hb : (budL ⟨a, b, s, l⟩ : Int) ≤ 1048576) : Ev (fun k => laws_toTerm.f k a b s l) (a, b, s, cvL l) := to_all _ hb
theorem eq_loop (l : List S46) (hl : (l.length : Int) ≤ 4194304)
    (h : ∀ y ∈ l, Ev (fun k => laws_eqTerm.f k y.f0 y.f1 y.f2 y.f3 y.f0 y.f1 y.f2 y.f3) true) (d : Nat) : ∀ (i : Nat), i + d = l.length → Ev (fun k => laws_eqTermS.l0 k l l i) true := by
  induction d with
  | zero =>
    intro i hi
    refine Ev.step (f := fun _ => some true) (fun k => ?_) (Ev.now _)
    simp only [laws_eqTermS.l0]; rw [if_neg (by omega)]
  | succ d ih =>
    intro i hi
    have hlt : i < l.length := by omega
    have e := h _ (rdI_mem l i hlt)
    have hn := ih (i + 1) (by omega)
    generalize hy : rd_T46 l i = y at *
    refine Ev.step (f := fun k => (laws_eqTerm.f k y.f0 y.f1 y.f2 y.f3 y.f0 y.f1 y.f2 y.f3).bind fun t131 => (if t131 = true then (laws_eqTermS.l0 k l l (wrap64 ((i : Int) + 1))) else (some false))) (fun k => ?_) (Ev.bind e (ev_pos rfl ?_))
    · simp only [laws_eqTermS.l0]; rw [if_pos (by omega), if_pos (by omega), if_pos (by omega), hy]
    · rw [w64 _ (by omega) (by omega)]; exact hn
theorem eqS_of (l : List S46) (hl : (l.length : Int) ≤ 4194304) (h : ∀ y ∈ l, Ev (fun k => laws_eqTerm.f k y.f0 y.f1 y.f2 y.f3 y.f0 y.f1 y.f2 y.f3) true) : Ev (fun k => laws_eqTermS.f k l l) true := by
  refine Ev.step (fun k => ?_) (eq_loop l hl h l.length 0 (by omega))
  simp only [laws_eqTermS.f]; rw [if_pos trivial]; rfl
theorem eq_all : ∀ x, (budI x : Int) ≤ 4194304 → Ev (fun k => laws_eqTerm.f k x.f0 x.f1 x.f2 x.f3 x.f0 x.f1 x.f2 x.f3) true := by
  refine indI ?_
  intro a b s l ih hb
  rw [budI] at hb
  have hl := budIL_len l
  refine Ev.step (f := fun k => (laws_eqTermS.f k l l).bind fun t134 => (if t134 = true then (some true) else (some false))) (fun k => ?_) (Ev.bind (eqS_of l (by omega) (fun y hy => ih y hy (by have := budI_mem l y hy; omega))) (ev_pos rfl (Ev.now _)))
  simp only [laws_eqTerm.f]
  simp
theorem eqTerm_ev (a b : Int) (s : ByteArray) (l : List S46) (hb : (budI ⟨a, b, s, l⟩ : Int) ≤ 4194304) : Ev (fun k => laws_eqTerm.f k a b s l a b s l) true := eq_all _ hb
theorem eqTermS_ev (l : List S46) (hb : (budIL l : Int) ≤ 4194304) : Ev (fun k => laws_eqTermS.f k l l) true := by
  have hl := budIL_len l
  exact eqS_of l (by omega) (fun y hy => eq_all y (by have := budI_mem l y hy; omega))
def lowB (c : Int) : Bool := decide (97 ≤ c) && decide (c ≤ 122)
def digB (c : Int) : Bool := decide (48 ≤ c) && decide (c ≤ 57)
def atomB (c : Int) : Bool := lowB c || (digB c || decide (c = 95))
def atomFrom (s : ByteArray) (i : Nat) : Bool := (List.range' i (s.size - i)).all fun j => lowB (bt s j) || (!decide (j = 0) && (digB (bt s j) || decide (bt s j = 95)))
def atomOkM (s : ByteArray) : Bool := atomFrom s 0 && (decide (1 ≤ (s.size : Int)) && decide ((s.size : Int) ≤ 20))
theorem atomFrom_end (s : ByteArray) (i : Nat) (h : s.size ≤ i) : atomFrom s i = true := by
  unfold atomFrom
  rw [Nat.sub_eq_zero_of_le h]; rfl
theorem atomFrom_step (s : ByteArray) (i : Nat) (h : i < s.size) : atomFrom s i = ((lowB (bt s i) || (!decide (i = 0) && (digB (bt s i) || decide (bt s i = 95)))) && atomFrom s (i + 1)) := by
  unfold atomFrom
  obtain ⟨n, hn⟩ : ∃ n, s.size - i = n + 1 := ⟨s.size - i - 1, by omega⟩
  rw [hn, show s.size - (i + 1) = n from by omega, List.range'_succ]
  simp [List.all_cons]
theorem wbt (s : ByteArray) (i : Int) : wrap64 (bt s i) = bt s i := by
  have := bt_range s i
  exact w64 _ (by omega) (by omega)
mutual
def countM : S46 → Nat
  | ⟨_, _, _, l⟩ => 1 + countML l
def countML : List S46 → Nat
  | [] => 0
  | x :: r => countM x + countML r
end
mutual
theorem count_bud : ∀ x, countM x ≤ 1 + budI x
  | ⟨a, b, s, l⟩ => by rw [countM, budI]; have := countL_bud l; omega
theorem countL_bud : ∀ l, countML l ≤ budIL l
  | [] => by rw [countML]; omega
  | x :: r => by rw [countML, budIL]; have := count_bud x; have := countL_bud r; omega
end
def noText (s : ByteArray) : Bool := decide (s.toList = ([] : List UInt8))
def shapeM (a b : Int) (s : ByteArray) (l : List S46) : Bool :=
  if a = 1 then (decide (-1000000000000 ≤ b) && decide (b ≤ 1000000000000)) && (noText s && ((l.length : Int) == 0))
  else if a = 2 then atomOkM s && (decide (b = 0) && ((l.length : Int) == 0))
  else if a = 3 then (decide (0 ≤ b) && decide (b ≤ 1000000)) && (noText s && ((l.length : Int) == 0))
  else if a = 4 then decide (b = 0) && (noText s && decide ((l.length : Int) ≤ 20))
  else if a = 5 then decide (b = 0) && (noText s && decide ((l.length : Int) ≤ 60))
  else false
mutual
def goodM : S46 → Nat → Bool
  | ⟨a, b, s, l⟩, n => match n with
    | 0 => false
    | n + 1 => shapeM a b s l && goodML l n
def goodML : List S46 → Nat → Bool
  | [], _ => true
  | x :: r, n => goodM x n && goodML r n
end
def termOkM (x : S46) : Bool := goodM x 8 && decide (countM x ≤ 300)
theorem count_pos (x : S46) : 1 ≤ countM x := by
  cases x; rw [countM]; omega
def grp7 : Nat → Int → List Int
  | 0, x => [x]
  | n + 1, x => if x > 127 then (x % 128 + 128) :: grp7 n (x / 128) else [x]
def clampM (n : Int) : Int := if n < -1000000000000 then -1000000000000 else if n > 1000000000000 then 1000000000000 else n
def zigM (c : Int) : Int := if c < 0 then -2 * c - 1 else 2 * c
def putNumM (n : Int) : List Int := grp7 5 (zigM (clampM n))
theorem grp7_len (n : Nat) : ∀ x, (grp7 n x).length ≤ n + 1 := by
  induction n with
  | zero => intro x; simp [grp7]
  | succ n ih =>
    intro x
    unfold grp7
    split
    · have := ih (x / 128); simp only [List.length_cons]; omega
    · simp
theorem grp7_bytes (n : Nat) : ∀ x, 0 ≤ x → x < 2 ^ (7 * (n + 1)) → BytesB (grp7 n x) := by
  induction n with
  | zero =>
    intro x h0 h1
    intro y hy
    simp [grp7] at hy
    subst hy
    have : (2 : Int) ^ (7 * (0 + 1)) = 128 := by decide
    omega
  | succ n ih =>
    intro x h0 h1
    have hp : (2 : Int) ^ (7 * (n + 1 + 1)) = 2 ^ (7 * (n + 1)) * 128 := by
      rw [show 7 * (n + 1 + 1) = 7 * (n + 1) + 7 from by omega, Int.pow_add]
      rfl
    unfold grp7
    split
    · rename_i h
      intro y hy
      rcases List.mem_cons.1 hy with rfl | hy
      · omega
      · exact ih (x / 128) (by omega) (by rw [hp] at h1; omega) y hy
    · intro y hy
      simp at hy
      subst hy
      omega
theorem zig_range (n : Int) : 0 ≤ zigM (clampM n) ∧ zigM (clampM n) ≤ 2000000000000 := by
  unfold zigM clampM
  split <;> split <;> (try split) <;> omega
theorem putNumM_len (n : Int) : (putNumM n).length ≤ 6 := grp7_len 5 _
theorem putNumM_bytes (n : Int) : BytesB (putNumM n) := by
  have := zig_range n
  exact grp7_bytes 5 _ this.1 (by have h : (2 : Int) ^ (7 * (5 + 1)) = 4398046511104 := by decide
                                  omega)
theorem and127_64 (x : Int) (h0 : 0 ≤ x) (h1 : x < 9223372036854775808) : Go.bits .and .i64 x 127 = x % 128 := by
  have := bits_mask .i64 63 (by decide) hk63 7 (by decide) x h0 (by omega)
  simpa using this
theorem or128 (y : Int) (h0 : 0 ≤ y) (h1 : y < 128) : Go.bits .or .i64 128 y = 128 + y := by
  exact bits_join .i64 63 (by decide) hk63 7 128 y (by decide) (by decide) (by decide) h0 (by omega) (by omega)
def putTextM (s : ByteArray) : List Int := putNumM s.size ++ bytesOf s
theorem putTextM_len (s : ByteArray) : (putTextM s).length ≤ 6 + s.size := by
  unfold putTextM
  have := putNumM_len s.size
  rw [List.length_append, bytesOf_length]; omega
theorem getDG {α : Type} (z : α) (l : List α) (i : Nat) (h : i < l.length) : l.getD ((i : Int)).toNat z = l[i] := by
  simp [List.getD_eq_getElem?_getD, List.getElem?_eq_getElem h]
theorem map_loop {α β : Type} (L : Nat → List β → Int → Option (List β)) (f : α → β) (l : List α)
    (hstep : ∀ (i : Nat) (h : i < l.length) (x : List β) (r : List β), x.length = l.length → Ev (fun k => L k (x.set i (f l[i])) ((i + 1 : Nat) : Int)) r → Ev (fun k => L k x (i : Int)) r)
    (hend : ∀ x : List β, x.length = l.length → Ev (fun k => L k x (l.length : Int)) x) (d : Nat) :
    ∀ (i : Nat) (x : List β), i + d = l.length → x.length = l.length → x.take i = (l.map f).take i → Ev (fun k => L k x (i : Int)) (l.map f) := by
  induction d with
  | zero =>
    intro i x hi hx ht
    have e : i = l.length := by omega
    subst e
    refine ev_cast ?_ (hend x hx)
    rwa [List.take_of_length_le (by omega), List.take_of_length_le (by rw [List.length_map]; omega)] at ht
  | succ d ih =>
    intro i x hi hx ht
    have hlt : i < l.length := by omega
    refine hstep i hlt x _ hx (ih (i + 1) _ (by omega) (by simpa using hx) ?_)
    rw [List.take_succ_eq_append_getElem (by simpa using (by omega : i < x.length)), List.take_set_of_le (Nat.le_refl i), ht, List.take_succ_eq_append_getElem (by simpa using hlt)]
    simp
theorem map_loop0 {α β : Type} (L : Nat → List β → Int → Option (List β)) (f : α → β) (l : List α) (z : β)
    (hstep : ∀ (i : Nat) (h : i < l.length) (x : List β) (r : List β), x.length = l.length → Ev (fun k => L k (x.set i (f l[i])) ((i + 1 : Nat) : Int)) r → Ev (fun k => L k x (i : Int)) r)
    (hend : ∀ x : List β, x.length = l.length → Ev (fun k => L k x (l.length : Int)) x) : Ev (fun k => L k (List.replicate l.length z) 0) (l.map f) :=
  map_loop L f l hstep hend l.length 0 (List.replicate l.length z) (by omega) (by simp) (by simp)
def sumB {α : Type} (bud : α → Nat) : List α → Nat
  | [] => 0
  | x :: r => bud x + sumB bud r
theorem sumB_drop {α : Type} (bud : α → Nat) (l : List α) (i : Nat) (h : i < l.length) : sumB bud (l.drop i) = bud l[i] + sumB bud (l.drop (i + 1)) := by
  rw [List.drop_eq_getElem_cons h, sumB]
theorem sumB_mem {α : Type} (bud : α → Nat) : ∀ (l : List α) (x : α), x ∈ l → bud x ≤ sumB bud l
  | [], x, h => by cases h
  | y :: r, x, h => by
    rw [sumB]
    rcases List.mem_cons.1 h with rfl | h
    · omega
    · have := sumB_mem bud r x h; omega
theorem sz_loopG {α : Type} (L : Nat → Int → Int → Option Int) (bud : α → Nat) (l : List α)
    (hstep : ∀ (i : Nat) (h : i < l.length) (left r : Int), 0 ≤ left → left ≤ 1048576 → ((bud l[i] : Int) ≤ left → Ev (fun k => L k (left - bud l[i]) ((i + 1 : Nat) : Int)) r) → (¬ (bud l[i] : Int) ≤ left → r = -1) → Ev (fun k => L k left (i : Int)) r)
    (hend : ∀ left : Int, Ev (fun k => L k left (l.length : Int)) left) (d : Nat) :
    ∀ (i : Nat) (left : Int), i + d = l.length → 0 ≤ left → left ≤ 1048576 → Ev (fun k => L k left (i : Int)) (szRes left (sumB bud (l.drop i))) := by
  induction d with
  | zero =>
    intro i left hi h0 h1
    have e : i = l.length := by omega
    subst e
    refine ev_cast ?_ (hend left)
    rw [List.drop_eq_nil_of_le (by omega), sumB]; unfold szRes; rw [if_pos (by omega)]; omega
  | succ d ih =>
    intro i left hi h0 h1
    have hlt : i < l.length := by omega
    rw [sumB_drop bud l i hlt]
    refine hstep i hlt left _ h0 h1 (fun hb => ?_) (fun hb => ?_)
    · refine ev_cast ?_ (ih (i + 1) (left - bud l[i]) (by omega) (by omega) (by omega))
      unfold szRes
      by_cases hc : (sumB bud (l.drop (i + 1)) : Int) ≤ left - bud l[i]
      · rw [if_pos hc, if_pos (by omega)]; omega
      · rw [if_neg hc, if_neg (by omega)]
    · unfold szRes; rw [if_neg (by omega)]
def allFrom (p : Nat → Bool) (i d : Nat) : Bool := (List.range' i d).all p
theorem all_loop (L : Nat → Int → Option Bool) (p : Nat → Bool) (n : Nat)
    (hstep : ∀ (i : Nat), i < n → ∀ r, (p i = true → Ev (fun k => L k ((i + 1 : Nat) : Int)) r) → (p i = false → r = false) → Ev (fun k => L k (i : Int)) r)
    (hend : Ev (fun k => L k (n : Int)) true) (d : Nat) : ∀ i : Nat, i + d = n → Ev (fun k => L k (i : Int)) (allFrom p i d) := by
  induction d with
  | zero =>
    intro i hi
    have e : i = n := by omega
    subst e
    exact hend
  | succ d ih =>
    intro i hi
    refine hstep i (by omega) _ (fun hp => ?_) (fun hp => ?_)
    · refine ev_cast ?_ (ih (i + 1) (by omega))
      unfold allFrom
      rw [List.range'_succ, List.all_cons, hp, Bool.true_and]
    · unfold allFrom
      rw [List.range'_succ, List.all_cons, hp, Bool.false_and]
theorem rdIx2 (l : List S46) (i : Nat) (h : i < l.length) : rd_T46 l (i : Int) = l[i] := getDG _ l i h
mutual
def encT : S46 → List Int
  | ⟨a, b, s, l⟩ => putNumM a ++ (if a = 1 ∨ a = 3 then putNumM b else if a = 2 then putTextM s else putNumM (l.length : Int) ++ encTL l)
def encTL : List S46 → List Int
  | [] => []
  | x :: r => encT x ++ encTL r
end
theorem encTL_drop (l : List S46) (i : Nat) (h : i < l.length) : encTL (l.drop i) = encT l[i] ++ encTL (l.drop (i + 1)) := by
  rw [List.drop_eq_getElem_cons h, encTL]
theorem good_mk {a b : Int} {s : ByteArray} {l : List S46} {n : Nat} (h : goodM ⟨a, b, s, l⟩ n = true) : ∃ m, n = m + 1 ∧ shapeM a b s l = true ∧ goodML l m = true := by
  cases n with
  | zero => rw [goodM] at h; cases h
  | succ m =>
    rw [goodM, Bool.and_eq_true] at h
    exact ⟨m, rfl, h.1, h.2⟩
theorem goodL_mem : ∀ (l : List S46) (n : Nat), goodML l n = true → ∀ y ∈ l, goodM y n = true
  | [], _, _, y, hy => by cases hy
  | x :: r, n, h, y, hy => by
    rw [goodML, Bool.and_eq_true] at h
    rcases List.mem_cons.1 hy with rfl | hy
    · exact h.1
    · exact goodL_mem r n h.2 y hy
theorem noText_eq {s : ByteArray} (h : noText s = true) : s = ⟨#[]⟩ := by
  unfold noText at h
  rw [decide_eq_true_eq, Go.Lib.toList_data] at h
  apply ByteArray.ext
  exact Array.toList_inj.1 h
theorem len0_eq {l : List S46} (h : ((l.length : Int) == 0) = true) : l = [] := by
  rw [beq_iff_eq] at h
  exact List.eq_nil_of_length_eq_zero (by omega)
/-- What a right term of a kind is. -/
theorem shape_cases {a b : Int} {s : ByteArray} {l : List S46} (h : shapeM a b s l = true) :
    (a = 1 ∧ -1000000000000 ≤ b ∧ b ≤ 1000000000000 ∧ s = ⟨#[]⟩ ∧ l = []) ∨ (a = 2 ∧ b = 0 ∧ atomOkM s = true ∧ l = []) ∨ (a = 3 ∧ 0 ≤ b ∧ b ≤ 1000000 ∧ s = ⟨#[]⟩ ∧ l = []) ∨ ((a = 4 ∨ a = 5) ∧ b = 0 ∧ s = ⟨#[]⟩ ∧ l.length ≤ 60) := by
  unfold shapeM at h
  by_cases h1 : a = 1
  · rw [if_pos h1] at h
    simp only [Bool.and_eq_true, decide_eq_true_eq] at h
    exact .inl ⟨h1, h.1.1, h.1.2, noText_eq h.2.1, len0_eq h.2.2⟩
  rw [if_neg h1] at h
  by_cases h2 : a = 2
  · rw [if_pos h2] at h
    simp only [Bool.and_eq_true, decide_eq_true_eq] at h
    exact .inr (.inl ⟨h2, h.2.1, h.1, len0_eq h.2.2⟩)
  rw [if_neg h2] at h
  by_cases h3 : a = 3
  · rw [if_pos h3] at h
    simp only [Bool.and_eq_true, decide_eq_true_eq] at h
    exact .inr (.inr (.inl ⟨h3, h.1.1, h.1.2, noText_eq h.2.1, len0_eq h.2.2⟩))
  rw [if_neg h3] at h
  by_cases h4 : a = 4
  · rw [if_pos h4] at h
    simp only [Bool.and_eq_true, decide_eq_true_eq] at h
    exact .inr (.inr (.inr ⟨.inl h4, h.1, noText_eq h.2.1, by omega⟩))
  rw [if_neg h4] at h
  by_cases h5 : a = 5
  · rw [if_pos h5] at h
    simp only [Bool.and_eq_true, decide_eq_true_eq] at h
    exact .inr (.inr (.inr ⟨.inr h5, h.1, noText_eq h.2.1, by omega⟩))
  rw [if_neg h5] at h
  cases h
theorem atom_size {s : ByteArray} (h : atomOkM s = true) : s.size ≤ 20 := by
  unfold atomOkM at h
  simp only [Bool.and_eq_true, decide_eq_true_eq] at h
  omega
theorem enc_len : ∀ x, ∀ n, goodM x n = true → (encT x).length ≤ 32 * countM x := by
  refine indI (fun a b s l ih n hg => ?_)
  obtain ⟨m, rfl, hs, hl⟩ := good_mk hg
  rw [encT, countM, List.length_append]
  have h1 := putNumM_len a
  have h2 := putNumM_len b
  have h3 := putNumM_len (l.length : Int)
  have hL : ∀ (l : List S46), (∀ y ∈ l, (encT y).length ≤ 32 * countM y) → (encTL l).length ≤ 32 * countML l := by
    intro l
    induction l with
    | nil => intro _; rw [encTL, countML]; simp
    | cons x r ihr =>
      intro h
      have q1 := h x List.mem_cons_self
      have q2 := ihr (fun y hy => h y (List.mem_cons_of_mem _ hy))
      rw [encTL, countML, List.length_append]
      omega
  have h4 := hL l (fun y hy => ih y hy m (goodL_mem l m hl y hy))
  by_cases c1 : a = 1 ∨ a = 3
  · rw [if_pos c1]; omega
  rw [if_neg c1]
  by_cases c2 : a = 2
  · rw [if_pos c2]
    rcases shape_cases hs with h | h | h | h
    · omega
    · have := putTextM_len s
      have := atom_size h.2.2.1
      omega
    · omega
    · omega
  · rw [if_neg c2, List.length_append]
    omega
mutual
theorem enc_bytes : ∀ x, BytesB (encT x)
  | ⟨a, b, s, l⟩ => by
    rw [encT]
    intro y hy
    rcases List.mem_append.1 hy with hy | hy
    · exact putNumM_bytes a y hy
    · split at hy
      · exact putNumM_bytes b y hy
      · split at hy
        · unfold putTextM at hy
          rcases List.mem_append.1 hy with hy | hy
          · exact putNumM_bytes _ y hy
          · unfold bytesOf at hy
            obtain ⟨c, _, rfl⟩ := List.mem_map.1 hy
            have := c.toNat_lt
            omega
        · rcases List.mem_append.1 hy with hy | hy
          · exact putNumM_bytes _ y hy
          · exact encL_bytes l y hy
theorem encL_bytes : ∀ l, BytesB (encTL l)
  | [] => by intro y hy; rw [encTL] at hy; cases hy
  | x :: r => by
    intro y hy
    rw [encTL] at hy
    rcases List.mem_append.1 hy with hy | hy
    · exact enc_bytes x y hy
    · exact encL_bytes r y hy
end
theorem spec_PutNum_l0 (n : Nat) : ∀ (l : List Int) (x : Int), (l.length : Int) + n ≤ 4194304 → 0 ≤ x → x < 2 ^ (7 * (n + 1)) → n ≤ 5 → Ev (fun k => spec_PutNum.l0 k l x) (l ++ grp7 n x) := by
  induction n with
  | zero =>
    intro l x hl h0 h1 _
    have h2 : (2 : Int) ^ (7 * (0 + 1)) = 128 := by decide
    refine Ev.step (f := fun _ => some (l ++ [x])) (fun k => ?_) (Ev.now _)
    simp only [spec_PutNum.l0]
    rw [if_neg (by omega), if_pos (by omega), show x % 256 = x from by omega]
  | succ n ih =>
    intro l x hl h0 h1 hn
    have hp : (2 : Int) ^ (7 * (n + 1 + 1)) = 2 ^ (7 * (n + 1)) * 128 := by
      rw [show 7 * (n + 1 + 1) = 7 * (n + 1) + 7 from by omega, Int.pow_add]
      rfl
    have hq : (2 : Int) ^ (7 * (n + 1 + 1)) ≤ 4398046511104 := by
      have : n = 0 ∨ n = 1 ∨ n = 2 ∨ n = 3 ∨ n = 4 := by omega
      rcases this with rfl | rfl | rfl | rfl | rfl <;> decide
    by_cases h : x > 127
    · have := ih (l ++ [x % 128 + 128]) (x / 128) (by simp; omega) (by omega) (by rw [hp] at h1; omega) (by omega)
      refine Ev.step (fun k => ?_) (ev_cast ?_ this)
      · simp only [spec_PutNum.l0]
        rw [if_pos h, if_pos (by omega), and127_64 x h0 (by omega), or_comm64, or128 _ (by omega) (by omega), show (128 + x % 128) % 256 = x % 128 + 128 from by omega]
      · simp [grp7, h]
    · refine Ev.step (f := fun _ => some (l ++ [x])) (fun k => ?_) (ev_cast ?_ (Ev.now _))
      · simp only [spec_PutNum.l0]
        rw [if_neg h, if_pos (by omega), show x % 256 = x from by omega]
      · simp [grp7, h]
theorem spec_PutNum_ev (l : List Int) (hl : (l.length : Int) ≤ 4194200) (n : Int) : Ev (fun k => spec_PutNum.f k l n) (l ++ putNumM n) := by
  have hz := zig_range n
  have h5 : (2 : Int) ^ (7 * (5 + 1)) = 4398046511104 := by decide
  have fin : ∀ c : Int, -1000000000000 ≤ c → c ≤ 1000000000000 → zigM c = zigM (clampM n) → Ev (fun k => spec_PutNum.j1 k c l) (l ++ putNumM n) := by
    intro c h0 h1 hc
    have e := spec_PutNum_l0 5 l (zigM (clampM n)) (by omega) hz.1 (by omega) (by omega)
    refine Ev.step (f := fun k => spec_PutNum.j2 k l (zigM (clampM n))) (fun k => ?_) (Ev.step (fun k => ?_) e)
    · simp only [spec_PutNum.j1]
      rw [← hc]
      unfold zigM
      by_cases hn : c < 0
      · rw [if_pos hn, if_pos hn, w64 ((-2) * c) (by omega) (by omega), w64 _ (by omega) (by omega)]
      · rw [if_neg hn, if_neg hn, w64 _ (by omega) (by omega)]
    · simp only [spec_PutNum.j2]
  unfold spec_PutNum.f
  refine Ev.bind (Ev.now _) (ev_pos (by simp; omega) (Ev.bind (Ev.now _) ?_))
  rw [List.nil_append]
  by_cases h1 : n > 1000000000000
  · refine ev_pos h1 (Ev.step (fun k => ?_) (fin 1000000000000 (by omega) (by omega) (by unfold clampM; rw [if_neg (by omega), if_pos h1])))
    simp only [spec_PutNum.j0]; rw [if_neg (by omega)]
  · refine ev_neg h1 ?_
    by_cases h2 : n < -1000000000000
    · refine Ev.step (fun k => ?_) (fin (-1000000000000) (by omega) (by omega) (by unfold clampM; rw [if_pos h2]))
      simp only [spec_PutNum.j0]; rw [if_pos h2]
    · refine Ev.step (fun k => ?_) (fin n (by omega) (by omega) (by unfold clampM; rw [if_neg h2, if_neg h1]))
      simp only [spec_PutNum.j0]; rw [if_neg h2]
theorem spec_PutText_ev (l : List Int) (s : ByteArray) (hl : (l.length : Int) ≤ 1048576) (hs : (s.size : Int) ≤ 1048576) : Ev (fun k => spec_PutText.f k l s) (l ++ putTextM s) := by
  unfold spec_PutText.f
  have hp := putNumM_len s.size
  refine Ev.bind (spec_PutNum_ev l (by omega) _) (ev_pos (by rw [List.length_append]; omega) (ev_cast ?_ (Ev.now _)))
  unfold putTextM
  rw [List.append_assoc]
theorem spec_l2Put_loop (a b : Int) (s : ByteArray) (l : List S46) (hl : (l.length : Int) ≤ 4194304) (n : Nat) (h : ∀ y ∈ l, ∀ l0 : List Int, l0.length + 32 * countM y ≤ 1000000 → Ev (fun k => spec_l2Put.f k l0 y.f0 y.f1 y.f2 y.f3) (l0 ++ encT y)) (hlen : ∀ y ∈ l, (encT y).length ≤ 32 * countM y) (d : Nat) :
    ∀ (i : Nat) (l0 : List Int), i + d = l.length → l0.length + 32 * countML (l.drop i) ≤ 1000000 → Ev (fun k => spec_l2Put.l0 k l0 i a b s l) (l0 ++ encTL (l.drop i)) := by
  induction d with
  | zero =>
    intro i l0 hi hb
    refine Ev.step (f := fun _ => some l0) (fun k => ?_) (ev_cast ?_ (Ev.now _))
    · simp only [spec_l2Put.l0]; rw [if_neg (by omega)]
    · rw [List.drop_eq_nil_of_le (by omega), encTL, List.append_nil]
  | succ d ih =>
    intro i l0 hi hb
    have hlt : i < l.length := by omega
    rw [List.drop_eq_getElem_cons hlt, countML] at hb
    have hz := hlen l[i] (List.getElem_mem hlt)
    refine Ev.step (f := fun k => (spec_l2Put.f k l0 l[i].f0 l[i].f1 l[i].f2 l[i].f3).bind fun t163 => (spec_l2Put.l0 k t163 (wrap64 ((i : Int) + 1)) a b s l)) (fun k => ?_) (Ev.bind (h l[i] (List.getElem_mem hlt) l0 (by omega)) ?_)
    · simp only [spec_l2Put.l0]
      rw [if_pos (by omega), if_pos (by omega), rdIx2 l i hlt]
    · rw [w64 _ (by omega) (by omega)]
      refine ev_cast ?_ (ih (i + 1) (l0 ++ encT l[i]) (by omega) (by rw [List.length_append]; omega))
      rw [encTL_drop l i hlt, List.append_assoc]
theorem spec_l2Put_all : ∀ x, ∀ n, goodM x n = true → (budI x : Int) ≤ 4194304 → ∀ l0 : List Int, l0.length + 32 * countM x ≤ 1000000 → Ev (fun k => spec_l2Put.f k l0 x.f0 x.f1 x.f2 x.f3) (l0 ++ encT x) := by
  refine indI (fun a b s l ih n hg hbud l0 hb => ?_)
  obtain ⟨m, rfl, hs, hl⟩ := good_mk hg
  rw [budI_mk] at hbud
  have hll := budIL_len l
  have hna := putNumM_len a
  rw [countM] at hb
  show Ev (fun k => spec_l2Put.f k l0 a b s l) _
  rw [encT, ← List.append_assoc]
  have e0 := spec_PutNum_ev l0 (by omega) a
  have key : ∀ q : Bool, (q = true ↔ (a = 1 ∨ a = 3)) → Ev (fun k => spec_l2Put.j0 k (l0 ++ putNumM a) a q a b s l) (l0 ++ putNumM a ++ (if a = 1 ∨ a = 3 then putNumM b else if a = 2 then putTextM s else putNumM (l.length : Int) ++ encTL l)) := by
    intro q hq
    have hx : (l0 ++ putNumM a).length ≤ l0.length + 6 := by rw [List.length_append]; omega
    by_cases c1 : a = 1 ∨ a = 3
    · rw [if_pos c1]
      refine Ev.step (f := fun k => (spec_PutNum.f k (l0 ++ putNumM a) b).bind fun t152 => (some t152)) (fun k => ?_) (Ev.bind (spec_PutNum_ev _ (by omega) b) (Ev.now _))
      simp only [spec_l2Put.j0]; rw [if_pos (hq.2 c1)]
    · have hq2 : ¬ q = true := fun e => c1 (hq.1 e)
      rw [if_neg c1]
      by_cases c2 : a = 2
      · rw [if_pos c2]
        have hsz : s.size ≤ 20 := by
          rcases shape_cases hs with h | h | h | h
          · omega
          · exact atom_size h.2.2.1
          · omega
          · omega
        refine Ev.step (f := fun k => (spec_PutText.f k (l0 ++ putNumM a) s).bind fun t155 => (some t155)) (fun k => ?_) (Ev.bind (spec_PutText_ev _ s (by omega) (by omega)) (Ev.now _))
        simp only [spec_l2Put.j0]; rw [if_neg hq2, if_pos c2]
      · rw [if_neg c2]
        have hln := putNumM_len (l.length : Int)
        have hy : (l0 ++ putNumM a ++ putNumM (l.length : Int)).length ≤ l0.length + 12 := by rw [List.length_append]; omega
        refine Ev.step (f := fun k => (spec_PutNum.f k (l0 ++ putNumM a) (l.length : Int)).bind fun t158 => (spec_l2Put.l0 k t158 0 a b s l)) (fun k => ?_) (Ev.bind (spec_PutNum_ev _ (by omega) _) ?_)
        · simp only [spec_l2Put.j0]; rw [if_neg hq2, if_neg c2]
        · rw [← List.append_assoc]
          exact spec_l2Put_loop a b s l (by omega) m (fun y hy l1 h1 => ih y hy m (goodL_mem l m hl y hy) (by have := budI_mem l y hy; omega) l1 h1) (fun y hy => enc_len y m (goodL_mem l m hl y hy)) l.length 0 _ (by omega) (by rw [List.drop_zero]; omega)
  refine Ev.step (f := fun k => (spec_PutNum.f k l0 a).bind fun t149 => (if a = 1 then (spec_l2Put.j0 k t149 a (a == 1) a b s l) else (spec_l2Put.j0 k t149 a (a == 3) a b s l))) (fun k => ?_) (Ev.bind e0 ?_)
  · simp only [spec_l2Put.f]
  · by_cases c1 : a = 1
    · refine ev_pos c1 (key _ ?_)
      rw [beq_iff_eq]; omega
    · refine ev_neg c1 (key _ ?_)
      rw [beq_iff_eq]; omega
theorem impl_putNum_l0 (n : Nat) : ∀ (l : List Int) (x : Int), (l.length : Int) + n ≤ 4194304 → 0 ≤ x → x < 2 ^ (7 * (n + 1)) → n ≤ 5 → Ev (fun k => impl_putNum.l0 k l x) (l ++ grp7 n x) := by
  induction n with
  | zero =>
    intro l x hl h0 h1 _
    have h2 : (2 : Int) ^ (7 * (0 + 1)) = 128 := by decide
    refine Ev.step (f := fun _ => some (l ++ [x])) (fun k => ?_) (Ev.now _)
    simp only [impl_putNum.l0]
    rw [if_neg (by omega), if_pos (by omega), show x % 256 = x from by omega]
  | succ n ih =>
    intro l x hl h0 h1 hn
    have hp : (2 : Int) ^ (7 * (n + 1 + 1)) = 2 ^ (7 * (n + 1)) * 128 := by
      rw [show 7 * (n + 1 + 1) = 7 * (n + 1) + 7 from by omega, Int.pow_add]
      rfl
    have hq : (2 : Int) ^ (7 * (n + 1 + 1)) ≤ 4398046511104 := by
      have : n = 0 ∨ n = 1 ∨ n = 2 ∨ n = 3 ∨ n = 4 := by omega
      rcases this with rfl | rfl | rfl | rfl | rfl <;> decide
    by_cases h : x > 127
    · have := ih (l ++ [x % 128 + 128]) (x / 128) (by simp; omega) (by omega) (by rw [hp] at h1; omega) (by omega)
      refine Ev.step (fun k => ?_) (ev_cast ?_ this)
      · simp only [impl_putNum.l0]
        rw [if_pos h, if_pos (by omega), and127_64 x h0 (by omega), or128 _ (by omega) (by omega), show (128 + x % 128) % 256 = x % 128 + 128 from by omega]
      · simp [grp7, h]
    · refine Ev.step (f := fun _ => some (l ++ [x])) (fun k => ?_) (ev_cast ?_ (Ev.now _))
      · simp only [impl_putNum.l0]
        rw [if_neg h, if_pos (by omega), show x % 256 = x from by omega]
      · simp [grp7, h]
theorem mx_clamp (n : Int) : mx (-1000000000000) (mn n 1000000000000) = clampM n := by
  unfold mx mn clampM
  split <;> split <;> (try split) <;> (try split) <;> omega
theorem impl_putNum_ev (l : List Int) (hl : (l.length : Int) ≤ 4194200) (n : Int) : Ev (fun k => impl_putNum.f k l n) (l ++ putNumM n) := by
  have hz := zig_range n
  have h5 : (2 : Int) ^ (7 * (5 + 1)) = 4398046511104 := by decide
  have e := impl_putNum_l0 5 l (zigM (clampM n)) (by omega) hz.1 (by omega) (by omega)
  have e2 : Ev (fun k => impl_putNum.j0 k l (zigM (clampM n))) (l ++ putNumM n) := Ev.step (fun k => by simp only [impl_putNum.j0]) e
  unfold impl_putNum.f
  rw [mx_clamp]
  generalize clampM n = c at *
  unfold zigM at e2
  by_cases hn : c < 0
  · rw [if_pos hn] at e2
    exact ev_pos hn e2
  · rw [if_neg hn] at e2
    exact ev_neg hn e2
theorem impl_putText_ev (l : List Int) (s : ByteArray) (hl : (l.length : Int) ≤ 2097152) (hs : (s.size : Int) ≤ 1048576) : Ev (fun k => impl_putText.f k l s) (l ++ putTextM s) := by
  unfold impl_putText.f
  have hp := putNumM_len s.size
  refine Ev.bind (impl_putNum_ev l (by omega) _) (ev_pos (by rw [List.length_append]; omega) (ev_cast ?_ (Ev.now _)))
  unfold putTextM
  rw [List.append_assoc]
theorem impl_putTerm_loop (l : List S46) (hl : (l.length : Int) ≤ 4194304) (n : Nat) (h : ∀ y ∈ l, ∀ l0 : List Int, l0.length + 32 * countM y ≤ 2000000 → Ev (fun k => impl_putTerm.f k l0 y.f0 y.f1 y.f2 y.f3) (l0 ++ encT y)) (hlen : ∀ y ∈ l, (encT y).length ≤ 32 * countM y) (d : Nat) :
    ∀ (i : Nat) (l0 : List Int), i + d = l.length → l0.length + 32 * countML (l.drop i) ≤ 2000000 → Ev (fun k => impl_putTerm.l0 k l0 l (l.length : Int) i) (l0 ++ encTL (l.drop i)) := by
  induction d with
  | zero =>
    intro i l0 hi hb
    refine Ev.step (f := fun _ => some l0) (fun k => ?_) (ev_cast ?_ (Ev.now _))
    · simp only [impl_putTerm.l0]; rw [if_neg (by omega)]
    · rw [List.drop_eq_nil_of_le (by omega), encTL, List.append_nil]
  | succ d ih =>
    intro i l0 hi hb
    have hlt : i < l.length := by omega
    rw [List.drop_eq_getElem_cons hlt, countML] at hb
    have hz := hlen l[i] (List.getElem_mem hlt)
    refine Ev.step (f := fun k => (impl_putTerm.f k l0 l[i].f0 l[i].f1 l[i].f2 l[i].f3).bind fun t163 => (impl_putTerm.l0 k t163 l (l.length : Int) (wrap64 ((i : Int) + 1)))) (fun k => ?_) (Ev.bind (h l[i] (List.getElem_mem hlt) l0 (by omega)) ?_)
    · simp only [impl_putTerm.l0]
      rw [if_pos (by omega), if_pos (by omega), if_pos (by omega), rdIx2 l i hlt]
    · rw [w64 _ (by omega) (by omega)]
      refine ev_cast ?_ (ih (i + 1) (l0 ++ encT l[i]) (by omega) (by rw [List.length_append]; omega))
      rw [encTL_drop l i hlt, List.append_assoc]
theorem impl_putTerm_all : ∀ x, ∀ n, goodM x n = true → (budI x : Int) ≤ 4194304 → ∀ l0 : List Int, l0.length + 32 * countM x ≤ 2000000 → Ev (fun k => impl_putTerm.f k l0 x.f0 x.f1 x.f2 x.f3) (l0 ++ encT x) := by
  refine indI (fun a b s l ih n hg hbud l0 hb => ?_)
  obtain ⟨m, rfl, hs, hl⟩ := good_mk hg
  rw [budI_mk] at hbud
  have hll := budIL_len l
  have hna := putNumM_len a
  rw [countM] at hb
  show Ev (fun k => impl_putTerm.f k l0 a b s l) _
  rw [encT, ← List.append_assoc]
  have e0 := impl_putNum_ev l0 (by omega) a
  have key : ∀ q : Bool, (q = true ↔ (a = 1 ∨ a = 3)) → Ev (fun k => impl_putTerm.j0 k (l0 ++ putNumM a) a q a b s l) (l0 ++ putNumM a ++ (if a = 1 ∨ a = 3 then putNumM b else if a = 2 then putTextM s else putNumM (l.length : Int) ++ encTL l)) := by
    intro q hq
    have hx : (l0 ++ putNumM a).length ≤ l0.length + 6 := by rw [List.length_append]; omega
    by_cases c1 : a = 1 ∨ a = 3
    · rw [if_pos c1]
      refine Ev.step (f := fun k => (impl_putNum.f k (l0 ++ putNumM a) b).bind fun t152 => (some t152)) (fun k => ?_) (Ev.bind (impl_putNum_ev _ (by omega) b) (Ev.now _))
      simp only [impl_putTerm.j0]; rw [if_pos (hq.2 c1)]
    · have hq2 : ¬ q = true := fun e => c1 (hq.1 e)
      rw [if_neg c1]
      by_cases c2 : a = 2
      · rw [if_pos c2]
        have hsz : s.size ≤ 20 := by
          rcases shape_cases hs with h | h | h | h
          · omega
          · exact atom_size h.2.2.1
          · omega
          · omega
        refine Ev.step (f := fun k => (impl_putText.f k (l0 ++ putNumM a) s).bind fun t155 => (some t155)) (fun k => ?_) (Ev.bind (impl_putText_ev _ s (by omega) (by omega)) (Ev.now _))
        simp only [impl_putTerm.j0]; rw [if_neg hq2, if_pos c2]
      · rw [if_neg c2]
        have hln := putNumM_len (l.length : Int)
        have hy : (l0 ++ putNumM a ++ putNumM (l.length : Int)).length ≤ l0.length + 12 := by rw [List.length_append]; omega
        refine Ev.step (f := fun k => (impl_putNum.f k (l0 ++ putNumM a) (l.length : Int)).bind fun t158 => (impl_putTerm.l0 k t158 l (l.length : Int) 0)) (fun k => ?_) (Ev.bind (impl_putNum_ev _ (by omega) _) ?_)
        · simp only [impl_putTerm.j0]; rw [if_neg hq2, if_neg c2]
        · rw [← List.append_assoc]
          exact impl_putTerm_loop l (by omega) m (fun y hy l1 h1 => ih y hy m (goodL_mem l m hl y hy) (by have := budI_mem l y hy; omega) l1 h1) (fun y hy => enc_len y m (goodL_mem l m hl y hy)) l.length 0 _ (by omega) (by rw [List.drop_zero]; omega)
  refine Ev.step (f := fun k => (impl_putNum.f k l0 a).bind fun t149 => (if a = 1 then (impl_putTerm.j0 k t149 a (a == 1) a b s l) else (impl_putTerm.j0 k t149 a (a == 3) a b s l))) (fun k => ?_) (Ev.bind e0 ?_)
  · simp only [impl_putTerm.f]
  · by_cases c1 : a = 1
    · refine ev_pos c1 (key _ ?_)
      rw [beq_iff_eq]; omega
    · refine ev_neg c1 (key _ ?_)
      rw [beq_iff_eq]; omega
def putM (x : S46) : List Int := if termOkM x = true then encT x else []
theorem putM_yes {x : S46} (h : termOkM x = true) : encT x = putM x := by unfold putM; rw [if_pos h]
theorem putM_no {x : S46} (h : ¬ termOkM x = true) : [] = putM x := by unfold putM; rw [if_neg h]
theorem termOk_parts {x : S46} (h : termOkM x = true) : goodM x 8 = true ∧ countM x ≤ 300 := by
  unfold termOkM at h
  rw [Bool.and_eq_true, decide_eq_true_eq] at h
  exact h
theorem spec_l1In_eq (a b c : Int) : spec_l1In.f a b c = some (decide (b ≤ a) && decide (a ≤ c)) := by
  unfold spec_l1In.f
  by_cases h : b ≤ a <;> simp [h]
theorem spec_AtomOk_l (s : ByteArray) (hs : s.size ≤ 140737488351232) (d : Nat) : ∀ i : Nat, i + d = s.size → Ev (fun k => spec_AtomOk.l0 k s i) (atomFrom s i && (decide (1 ≤ (s.size : Int)) && decide ((s.size : Int) ≤ 20))) := by
  induction d with
  | zero =>
    intro i hi
    refine Ev.step (f := fun _ => some (decide (1 ≤ (s.size : Int)) && decide ((s.size : Int) ≤ 20))) (fun k => ?_) (ev_cast ?_ (Ev.now _))
    · simp only [spec_AtomOk.l0]
      rw [if_neg (by omega), spec_l1In_eq]; rfl
    · rw [atomFrom_end s i (by omega)]; rfl
  | succ d ih =>
    intro i hi
    have hlt : i < s.size := by omega
    have hn := ih (i + 1) (by omega)
    rw [atomFrom_step s i hlt]
    by_cases h1 : lowB (bt s i) = true
    · refine Ev.step (fun k => ?_) (ev_cast ?_ hn)
      · simp only [spec_AtomOk.l0]
        rw [if_pos (by omega), if_pos (by omega), wbt, spec_l1In_eq]
        simp only [Option.bind_some]
        unfold lowB at h1
        rw [if_pos h1, w64 _ (by omega) (by omega)]
        rfl
      · rw [h1]; rfl
    · have h1' : lowB (bt s i) = false := by simpa using h1
      by_cases h0 : i = 0
      · refine Ev.step (f := fun _ => some false) (fun k => ?_) (ev_cast ?_ (Ev.now _))
        · simp only [spec_AtomOk.l0]
          rw [if_pos (by omega), if_pos (by omega), wbt, spec_l1In_eq]
          simp only [Option.bind_some]
          unfold lowB at h1
          rw [if_neg h1, if_pos (by omega)]
        · rw [h1']; simp [h0]
      · by_cases h2 : digB (bt s i) = true
        · refine Ev.step (fun k => ?_) (ev_cast ?_ hn)
          · simp only [spec_AtomOk.l0]
            rw [if_pos (by omega), if_pos (by omega), wbt, spec_l1In_eq]
            simp only [Option.bind_some]
            unfold lowB at h1; unfold digB at h2
            rw [if_neg h1, if_neg (by omega), spec_l1In_eq]
            simp only [Option.bind_some]
            rw [if_pos h2, w64 _ (by omega) (by omega)]
            rfl
          · rw [h2]; simp [h0]
        · have h2' : digB (bt s i) = false := by simpa using h2
          by_cases h3 : bt s i = 95
          · refine Ev.step (fun k => ?_) (ev_cast ?_ hn)
            · simp only [spec_AtomOk.l0]
              rw [if_pos (by omega), if_pos (by omega), wbt, spec_l1In_eq]
              simp only [Option.bind_some]
              unfold lowB at h1; unfold digB at h2
              rw [if_neg h1, if_neg (by omega), spec_l1In_eq]
              simp only [Option.bind_some]
              rw [if_neg h2, if_pos h3, w64 _ (by omega) (by omega)]
              rfl
            · simp [h0, h3]
          · refine Ev.step (f := fun _ => some false) (fun k => ?_) (ev_cast ?_ (Ev.now _))
            · simp only [spec_AtomOk.l0]
              rw [if_pos (by omega), if_pos (by omega), wbt, spec_l1In_eq]
              simp only [Option.bind_some]
              unfold lowB at h1; unfold digB at h2
              rw [if_neg h1, if_neg (by omega), spec_l1In_eq]
              simp only [Option.bind_some]
              rw [if_neg h2, if_neg h3]
            · rw [h1', h2']; simp [h3]
theorem spec_AtomOk_ev (s : ByteArray) (hs : s.size ≤ 140737488351232) : Ev (fun k => spec_AtomOk.f k s) (atomOkM s) := spec_AtomOk_l s hs s.size 0 (by omega)
theorem spec_l2Shape_ev (a b : Int) (s : ByteArray) (l : List S46) (hs : s.size ≤ 140737488351232) : Ev (fun k => spec_l2Shape.f k a b s l) (shapeM a b s l) := by
  unfold spec_l2Shape.f shapeM noText
  by_cases h1 : a = 1
  · rw [if_pos h1]
    refine ev_pos h1 (ev_of ?_)
    rw [spec_l1In_eq]
    simp only [Option.bind_some]
    by_cases p : (decide (-1000000000000 ≤ b) && decide (b ≤ 1000000000000)) = true
    · by_cases q : s.toList = ([] : List UInt8)
      · rw [if_pos p, if_pos q, p, decide_eq_true q]; rfl
      · rw [if_pos p, if_neg q, p, decide_eq_false q]; rfl
    · rw [if_neg p, Bool.eq_false_iff.mpr p]; rfl
  rw [if_neg h1]
  refine ev_neg h1 ?_
  by_cases h2 : a = 2
  · rw [if_pos h2]
    refine ev_pos h2 (Ev.bind (spec_AtomOk_ev s hs) ?_)
    cases hA : atomOkM s with
    | true =>
      by_cases q : b = 0
      · exact ev_pos rfl (ev_pos q (ev_cast (by rw [decide_eq_true q]; rfl) (Ev.now _)))
      · exact ev_pos rfl (ev_neg q (ev_cast (by rw [decide_eq_false q]; rfl) (Ev.now _)))
    | false => exact ev_neg (by decide) (Ev.now _)
  rw [if_neg h2]
  refine ev_neg h2 (ev_of ?_)
  by_cases h3 : a = 3
  · rw [if_pos h3, if_pos h3, spec_l1In_eq]
    simp only [Option.bind_some]
    by_cases p : (decide (0 ≤ b) && decide (b ≤ 1000000)) = true
    · by_cases q : s.toList = ([] : List UInt8)
      · rw [if_pos p, if_pos q, p, decide_eq_true q]; rfl
      · rw [if_pos p, if_neg q, p, decide_eq_false q]; rfl
    · rw [if_neg p, Bool.eq_false_iff.mpr p]; rfl
  rw [if_neg h3, if_neg h3]
  by_cases h4 : a = 4
  · rw [if_pos h4, if_pos h4]
    by_cases p : b = 0
    · by_cases q : s.toList = ([] : List UInt8)
      · rw [if_pos p, if_pos q, decide_eq_true p, decide_eq_true q]; rfl
      · rw [if_pos p, if_neg q, decide_eq_true p, decide_eq_false q]; rfl
    · rw [if_neg p, decide_eq_false p]; rfl
  rw [if_neg h4, if_neg h4]
  by_cases h5 : a = 5
  · rw [if_pos h5, if_pos h5]
    by_cases p : b = 0
    · by_cases q : s.toList = ([] : List UInt8)
      · rw [if_pos p, if_pos q, decide_eq_true p, decide_eq_true q]; rfl
      · rw [if_pos p, if_neg q, decide_eq_true p, decide_eq_false q]; rfl
    · rw [if_neg p, decide_eq_false p]; rfl
  · rw [if_neg h5, if_neg h5]
def lookRes (left : Int) (g : Bool) (c : Nat) : Int := if g = true ∧ (c : Int) ≤ left then left - c else -1
theorem spec_l2Look_loop (a b : Int) (s : ByteArray) (l : List S46) (hl : (budIL l : Int) ≤ 4194304) (n : Nat) (hn : n ≤ 8)
    (h : ∀ y ∈ l, ∀ left : Int, -1 ≤ left → left ≤ 300 → Ev (fun k => spec_l2Look.f k y.f0 y.f1 y.f2 y.f3 n left) (lookRes left (goodM y n) (countM y))) (d : Nat) :
    ∀ (i : Nat) (left : Int), i + d = l.length → -1 ≤ left → left ≤ 300 → Ev (fun k => spec_l2Look.l0 k (n + 1 : Int) left i a b s l) (if left = -1 then -1 else lookRes left (goodML (l.drop i) n) (countML (l.drop i))) := by
  have hlen := budIL_len l
  induction d with
  | zero =>
    intro i left hi h0 h1
    refine Ev.step (f := fun _ => some left) (fun k => ?_) (ev_cast ?_ (Ev.now _))
    · simp only [spec_l2Look.l0]; rw [if_neg (by omega)]
    · rw [List.drop_eq_nil_of_le (by omega), goodML, countML]
      by_cases hm : left = -1
      · rw [if_pos hm]; exact hm
      · rw [if_neg hm]; unfold lookRes; rw [if_pos ⟨rfl, by omega⟩]; omega
  | succ d ih =>
    intro i left hi h0 h1
    have hlt : i < l.length := by omega
    by_cases hm : left = -1
    · refine Ev.step (f := fun _ => some left) (fun k => ?_) (ev_cast ?_ (Ev.now _))
      · simp only [spec_l2Look.l0]; rw [if_pos (by omega), if_neg (by omega)]
      · rw [if_pos hm]; exact hm
    rw [if_neg hm]
    have e := h _ (rdI_mem l i hlt) left h0 h1
    rw [dropI l i hlt, goodML, countML]
    generalize hy : rd_T46 l i = y at *
    refine Ev.step (f := fun k => (spec_l2Look.f k y.f0 y.f1 y.f2 y.f3 n left).bind fun t => (spec_l2Look.l0 k (n + 1 : Int) t (wrap64 ((i : Int) + 1)) a b s l)) (fun k => ?_) (Ev.bind e ?_)
    · simp only [spec_l2Look.l0]; rw [if_pos (by omega), if_pos (by omega), if_pos (by omega), hy, w64 ((n : Int) + 1 - 1) (by omega) (by omega), show (n : Int) + 1 - 1 = n from by omega]
    · rw [w64 _ (by omega) (by omega)]
      have hr : -1 ≤ lookRes left (goodM y n) (countM y) ∧ lookRes left (goodM y n) (countM y) ≤ 300 := by
        unfold lookRes; split <;> omega
      refine ev_cast ?_ (ih (i + 1) _ (by omega) hr.1 hr.2)
      have hc := count_pos y
      cases hg : goodM y n with
      | false =>
        have hv : lookRes left false (countM y) = -1 := by unfold lookRes; simp
        rw [hv, if_pos rfl]
        unfold lookRes; simp
      | true =>
        by_cases hq : (countM y : Int) ≤ left
        · have hv : lookRes left true (countM y) = left - countM y := by unfold lookRes; rw [if_pos ⟨rfl, hq⟩]
          rw [hv, if_neg (by omega), Bool.true_and]
          unfold lookRes
          cases hg2 : goodML (l.drop (i + 1)) n with
          | false => simp
          | true =>
            by_cases hq2 : (countML (l.drop (i + 1)) : Int) ≤ left - countM y
            · rw [if_pos ⟨rfl, hq2⟩, if_pos ⟨rfl, by omega⟩]; omega
            · rw [if_neg (by omega), if_neg (by omega)]
        · have hv : lookRes left true (countM y) = -1 := by unfold lookRes; rw [if_neg (by omega)]
          rw [hv, if_pos rfl]
          unfold lookRes
          rw [if_neg (by omega)]
theorem spec_l2Look_all : ∀ x, (budI x : Int) ≤ 4194304 → ∀ (n : Nat), n ≤ 8 → ∀ left : Int, -1 ≤ left → left ≤ 300 → Ev (fun k => spec_l2Look.f k x.f0 x.f1 x.f2 x.f3 n left) (lookRes left (goodM x n) (countM x)) := by
  refine indI ?_
  intro a b s l ih hb n hn left h0 h1
  rw [budI] at hb
  simp only []
  have no : Ev (fun k => spec_l2Look.j0 k (n : Int) left true a b s l) (-1) := Ev.step (f := fun _ => some (-1)) (fun k => by simp [spec_l2Look.j0]) (Ev.now _)
  cases n with
  | zero =>
    refine Ev.step (fun k => ?_) (ev_cast ?_ no)
    · simp only [spec_l2Look.f]; rw [if_pos (by omega)]
    · rw [goodM]; unfold lookRes; simp
  | succ n =>
    rw [goodM, countM]
    by_cases hl1 : left < 1
    · refine Ev.step (fun k => ?_) (ev_cast ?_ no)
      · simp only [spec_l2Look.f]; rw [if_neg (by omega), if_pos hl1]
      · unfold lookRes; rw [if_neg (by omega)]
    refine Ev.step (f := fun k => (spec_l2Shape.f k a b s l).bind fun t => (spec_l2Look.j0 k ((n + 1 : Nat) : Int) left (!t) a b s l)) (fun k => ?_) (Ev.bind (spec_l2Shape_ev a b s l (by omega)) ?_)
    · simp only [spec_l2Look.f]; rw [if_neg (by omega), if_neg hl1]
    cases hsh : shapeM a b s l with
    | false => exact ev_cast (by unfold lookRes; simp) no
    | true =>
      have e := spec_l2Look_loop a b s l (by omega) n (by omega) (fun y hy left h0 h1 => ih y hy (by have := budI_mem l y hy; omega) n (by omega) left h0 h1) l.length 0 (left - 1) (by omega) (by omega) (by omega)
      refine Ev.step (fun k => ?_) (ev_cast ?_ e)
      · simp only [spec_l2Look.j0]; rw [if_neg (by decide), w64 _ (by omega) (by omega)]; rfl
      · rw [if_neg (by omega), List.drop_zero, Bool.true_and]
        unfold lookRes
        cases goodML l n with
        | false => simp
        | true =>
          by_cases hq : (countML l : Int) ≤ left - 1
          · rw [if_pos ⟨rfl, hq⟩, if_pos ⟨rfl, by omega⟩]; omega
          · rw [if_neg (by omega), if_neg (by omega)]
theorem spec_TermOk_ev (x : S46) (hb : (budI x : Int) ≤ 4194304) : Ev (fun k => spec_TermOk.f k x.f0 x.f1 x.f2 x.f3) (termOkM x) := by
  unfold spec_TermOk.f
  refine Ev.bind (spec_l2Look_all x hb 8 (by omega) 300 (by omega) (by omega)) (ev_cast ?_ (Ev.now _))
  unfold termOkM lookRes
  cases goodM x 8 with
  | false => simp
  | true =>
    by_cases hq : countM x ≤ 300
    · rw [if_pos ⟨rfl, by omega⟩, decide_eq_true hq]; simp; omega
    · rw [if_neg (by omega), decide_eq_false hq]; rfl
theorem spec_PutTerm_ev (x : S46) (hb : (budI x : Int) ≤ 4194304) : Ev (fun k => spec_PutTerm.f k x.f0 x.f1 x.f2 x.f3) (putM x) := by
  unfold spec_PutTerm.f
  refine Ev.bind (spec_TermOk_ev x hb) ?_
  by_cases h : termOkM x = true
  · obtain ⟨h1, h2⟩ := termOk_parts h
    refine ev_cast (putM_yes h) (ev_pos h (Ev.bind ?_ (Ev.now _)))
    have := spec_l2Put_all x 8 h1 hb [] (by simp; omega)
    exact this
  · exact ev_cast (putM_no h) (ev_neg h (Ev.now _))
theorem putM_len (x : S46) : ((putM x).length : Int) ≤ 9600 := by
  unfold putM
  split
  next h =>
    obtain ⟨h1, h2⟩ := termOk_parts h
    have := enc_len x 8 h1
    omega
  next => simp
theorem impl_inRange_eq (a b c : Int) : impl_inRange.f a b c = some (decide (b ≤ a) && decide (a ≤ c)) := by
  unfold impl_inRange.f
  by_cases h : b ≤ a <;> simp [h]
theorem impl_isSmall_eq (c : Int) : impl_isSmall.f c = some (lowB c) := by
  unfold impl_isSmall.f lowB
  by_cases h : 97 ≤ c <;> simp [h]
theorem impl_isFigure_eq (c : Int) : impl_isFigure.f c = some (digB c) := by
  unfold impl_isFigure.f digB
  by_cases h : 48 ≤ c <;> simp [h]
theorem impl_AtomOk_l (s : ByteArray) (hs : s.size ≤ 140737488351232) (d : Nat) : ∀ i : Nat, i + d = s.size → Ev (fun k => impl_AtomOk.l0 k s i) (atomFrom s i && (decide (1 ≤ (s.size : Int)) && decide ((s.size : Int) ≤ 20))) := by
  induction d with
  | zero =>
    intro i hi
    refine Ev.step (f := fun _ => some (decide (1 ≤ (s.size : Int)) && decide ((s.size : Int) ≤ 20))) (fun k => ?_) (ev_cast ?_ (Ev.now _))
    · simp only [impl_AtomOk.l0]
      rw [if_neg (by omega), impl_inRange_eq]; rfl
    · rw [atomFrom_end s i (by omega)]; rfl
  | succ d ih =>
    intro i hi
    have hlt : i < s.size := by omega
    have hn := ih (i + 1) (by omega)
    rw [atomFrom_step s i hlt]
    by_cases h1 : lowB (bt s i) = true
    · refine Ev.step (fun k => ?_) (ev_cast ?_ hn)
      · simp only [impl_AtomOk.l0]
        rw [if_pos (by omega), if_pos (by omega), impl_isSmall_eq]
        simp only [Option.bind_some]
        rw [if_pos h1, w64 _ (by omega) (by omega)]
        rfl
      · rw [h1]; rfl
    · have h1' : lowB (bt s i) = false := by simpa using h1
      by_cases h0 : i = 0
      · refine Ev.step (f := fun _ => some false) (fun k => ?_) (ev_cast ?_ (Ev.now _))
        · simp only [impl_AtomOk.l0]
          rw [if_pos (by omega), if_pos (by omega), impl_isSmall_eq]
          simp only [Option.bind_some]
          rw [if_neg h1, if_pos (by omega)]
        · rw [h1']; simp [h0]
      · by_cases h2 : digB (bt s i) = true
        · refine Ev.step (fun k => ?_) (ev_cast ?_ hn)
          · simp only [impl_AtomOk.l0]
            rw [if_pos (by omega), if_pos (by omega), impl_isSmall_eq]
            simp only [Option.bind_some]
            rw [if_neg h1, if_neg (by omega), impl_isFigure_eq]
            simp only [Option.bind_some]
            rw [if_pos h2, w64 _ (by omega) (by omega)]
            rfl
          · rw [h2]; simp [h0]
        · have h2' : digB (bt s i) = false := by simpa using h2
          by_cases h3 : bt s i = 95
          · refine Ev.step (fun k => ?_) (ev_cast ?_ hn)
            · simp only [impl_AtomOk.l0]
              rw [if_pos (by omega), if_pos (by omega), impl_isSmall_eq]
              simp only [Option.bind_some]
              rw [if_neg h1, if_neg (by omega), impl_isFigure_eq]
              simp only [Option.bind_some]
              rw [if_neg h2, if_pos h3, w64 _ (by omega) (by omega)]
              rfl
            · simp [h0, h3]
          · refine Ev.step (f := fun _ => some false) (fun k => ?_) (ev_cast ?_ (Ev.now _))
            · simp only [impl_AtomOk.l0]
              rw [if_pos (by omega), if_pos (by omega), impl_isSmall_eq]
              simp only [Option.bind_some]
              rw [if_neg h1, if_neg (by omega), impl_isFigure_eq]
              simp only [Option.bind_some]
              rw [if_neg h2, if_neg h3]
            · rw [h1', h2']; simp [h3]
theorem impl_AtomOk_ev (s : ByteArray) (hs : s.size ≤ 140737488351232) : Ev (fun k => impl_AtomOk.f k s) (atomOkM s) := impl_AtomOk_l s hs s.size 0 (by omega)
theorem impl_plainOk_ev (a b : Int) (s : ByteArray) (l : List S46) (hs : s.size ≤ 140737488351232) : Ev (fun k => impl_Term_plainOk.f k a b s l) (shapeM a b s l) := by
  unfold impl_Term_plainOk.f shapeM noText
  by_cases h1 : a = 1
  · rw [if_pos h1]
    refine ev_pos h1 (ev_of ?_)
    rw [impl_inRange_eq]
    simp only [Option.bind_some]
    by_cases p : (decide (-1000000000000 ≤ b) && decide (b ≤ 1000000000000)) = true
    · by_cases q : s.toList = ([] : List UInt8)
      · rw [if_pos p, if_pos q, p, decide_eq_true q]; rfl
      · rw [if_pos p, if_neg q, p, decide_eq_false q]; rfl
    · rw [if_neg p, Bool.eq_false_iff.mpr p]; rfl
  rw [if_neg h1]
  refine ev_neg h1 ?_
  by_cases h2 : a = 2
  · rw [if_pos h2]
    refine ev_pos h2 ?_
    by_cases q : b = 0
    · refine ev_pos q (Ev.bind (impl_AtomOk_ev s hs) ?_)
      cases hA : atomOkM s with
      | true => exact ev_pos rfl (ev_cast (by rw [decide_eq_true q]; rfl) (Ev.now _))
      | false => exact ev_neg (by decide) (Ev.now _)
    · exact ev_neg q (ev_cast (by rw [decide_eq_false q]; simp) (Ev.now _))
  rw [if_neg h2]
  refine ev_neg h2 (ev_of ?_)
  by_cases h3 : a = 3
  · rw [if_pos h3, if_pos h3, impl_inRange_eq]
    simp only [Option.bind_some]
    by_cases p : (decide (0 ≤ b) && decide (b ≤ 1000000)) = true
    · by_cases q : s.toList = ([] : List UInt8)
      · rw [if_pos p, if_pos q, p, decide_eq_true q]; rfl
      · rw [if_pos p, if_neg q, p, decide_eq_false q]; rfl
    · rw [if_neg p, Bool.eq_false_iff.mpr p]; rfl
  rw [if_neg h3, if_neg h3]
  by_cases h4 : a = 4
  · rw [if_pos h4, if_pos h4]
    by_cases p : b = 0
    · by_cases q : s.toList = ([] : List UInt8)
      · rw [if_pos p, if_pos q, decide_eq_true p, decide_eq_true q]; rfl
      · rw [if_pos p, if_neg q, decide_eq_true p, decide_eq_false q]; rfl
    · rw [if_neg p, decide_eq_false p]; rfl
  rw [if_neg h4, if_neg h4]
  by_cases h5 : a = 5
  · rw [if_pos h5, if_pos h5]
    by_cases p : b = 0
    · by_cases q : s.toList = ([] : List UInt8)
      · rw [if_pos p, if_pos q, decide_eq_true p, decide_eq_true q]; rfl
      · rw [if_pos p, if_neg q, decide_eq_true p, decide_eq_false q]; rfl
    · rw [if_neg p, decide_eq_false p]; rfl
  · rw [if_neg h5, if_neg h5]
def measRes (n0 : Nat) (g : Bool) (c : Nat) : Int := if g = true ∧ n0 + c ≤ 300 then ((n0 + c : Nat) : Int) else 301
theorem impl_measure_loop (l : List S46) (hl : (budIL l : Int) ≤ 4194304) (n : Nat) (dp : Int) (hd : dp + n = 8) (hd1 : 1 ≤ dp)
    (h : ∀ y ∈ l, Ev (fun k => impl_Term_measure.f k y.f0 y.f1 y.f2 y.f3 (dp + 1)) (measRes 0 (goodM y n) (countM y))) (d : Nat) :
    ∀ (i : Nat) (m : Nat), i + d = l.length → m ≤ 300 → Ev (fun k => impl_Term_measure.l0 k dp m l (l.length : Int) i) (measRes m (goodML (l.drop i) n) (countML (l.drop i))) := by
  have hlen := budIL_len l
  induction d with
  | zero =>
    intro i m hi hm
    refine Ev.step (f := fun _ => some (m : Int)) (fun k => ?_) (ev_cast ?_ (Ev.now _))
    · simp only [impl_Term_measure.l0]; rw [if_neg (by omega)]
    · rw [List.drop_eq_nil_of_le (by omega), goodML, countML]
      unfold measRes; rw [if_pos ⟨rfl, by omega⟩]; rfl
  | succ d ih =>
    intro i m hi hm
    have hlt : i < l.length := by omega
    have e := h _ (rdI_mem l i hlt)
    rw [dropI l i hlt, goodML, countML]
    generalize hy : rd_T46 l i = y at *
    refine Ev.step (f := fun k => (impl_Term_measure.f k y.f0 y.f1 y.f2 y.f3 (dp + 1)).bind fun t => (if (wrap64 ((m : Int) + t)) > 300 then (some 301) else (impl_Term_measure.l0 k dp (wrap64 ((m : Int) + t)) l (l.length : Int) (wrap64 ((i : Int) + 1))))) (fun k => ?_) (Ev.bind e ?_)
    · simp only [impl_Term_measure.l0]; rw [if_pos (by omega), if_pos (by omega), if_pos (by omega), hy, w64 (dp + 1) (by omega) (by omega)]
    · have hr : 0 ≤ measRes 0 (goodM y n) (countM y) ∧ measRes 0 (goodM y n) (countM y) ≤ 301 := by
        unfold measRes; split <;> omega
      rw [w64 _ (by omega) (by omega), w64 _ (by omega) (by omega)]
      cases hg : goodM y n with
      | false =>
        refine ev_pos (by unfold measRes; simp; omega) (ev_cast ?_ (Ev.now _))
        unfold measRes; simp
      | true =>
        by_cases hq : countM y ≤ 300
        · have hv : measRes 0 true (countM y) = countM y := by unfold measRes; rw [if_pos ⟨rfl, by omega⟩]; omega
          rw [hv]
          by_cases hq2 : (m : Int) + countM y > 300
          · refine ev_pos hq2 (ev_cast ?_ (Ev.now _))
            unfold measRes; rw [if_neg (by omega)]
          · refine ev_neg hq2 ?_
            have := ih (i + 1) (m + countM y) (by omega) (by omega)
            rw [show ((m + countM y : Nat) : Int) = (m : Int) + countM y from by omega] at this
            refine ev_cast ?_ this
            unfold measRes
            rw [Bool.true_and]
            cases goodML (l.drop (i + 1)) n with
            | false => simp
            | true =>
              by_cases hq3 : m + countM y + countML (l.drop (i + 1)) ≤ 300
              · rw [if_pos ⟨rfl, hq3⟩, if_pos ⟨rfl, by omega⟩]; omega
              · rw [if_neg (by omega), if_neg (by omega)]
        · have hv : measRes 0 true (countM y) = 301 := by unfold measRes; rw [if_neg (by omega)]
          rw [hv]
          refine ev_pos (by omega) (ev_cast ?_ (Ev.now _))
          unfold measRes; rw [if_neg (by omega)]
theorem impl_measure_all : ∀ x, (budI x : Int) ≤ 4194304 → ∀ (n : Nat) (dp : Int), dp + n = 9 → 1 ≤ dp → Ev (fun k => impl_Term_measure.f k x.f0 x.f1 x.f2 x.f3 dp) (measRes 0 (goodM x n) (countM x)) := by
  refine indI ?_
  intro a b s l ih hb n dp hd h1
  rw [budI] at hb
  simp only []
  have no : Ev (fun k => impl_Term_measure.j0 k dp true a b s l) 301 := Ev.step (f := fun _ => some 301) (fun k => by simp [impl_Term_measure.j0]) (Ev.now _)
  cases n with
  | zero =>
    refine Ev.step (fun k => ?_) (ev_cast ?_ no)
    · simp only [impl_Term_measure.f]; rw [if_pos (by omega)]
    · rw [goodM]; unfold measRes; simp
  | succ n =>
    rw [goodM, countM]
    refine Ev.step (f := fun k => (impl_Term_plainOk.f k a b s l).bind fun t => (impl_Term_measure.j0 k dp (!t) a b s l)) (fun k => ?_) (Ev.bind (impl_plainOk_ev a b s l (by omega)) ?_)
    · simp only [impl_Term_measure.f]; rw [if_neg (by omega)]
    cases hsh : shapeM a b s l with
    | false => exact ev_cast (by unfold measRes; simp) no
    | true =>
      have e := impl_measure_loop l (by omega) n dp (by omega) h1 (fun y hy => ih y hy (by have := budI_mem l y hy; omega) n (dp + 1) (by omega) (by omega)) l.length 0 1 (by omega) (by omega)
      refine Ev.step (fun k => ?_) (ev_cast ?_ e)
      · simp only [impl_Term_measure.j0]; rw [if_neg (by decide)]; rfl
      · rw [List.drop_zero, Bool.true_and]
        unfold measRes
        rw [Nat.zero_add]
theorem impl_TermOk_ev (x : S46) (hb : (budI x : Int) ≤ 4194304) : Ev (fun k => impl_TermOk.f k x.f0 x.f1 x.f2 x.f3) (termOkM x) := by
  unfold impl_TermOk.f
  refine Ev.bind (impl_measure_all x hb 8 1 (by omega) (by omega)) (ev_cast ?_ (Ev.now _))
  unfold termOkM measRes
  cases goodM x 8 with
  | false => simp
  | true =>
    by_cases hq : countM x ≤ 300
    · rw [if_pos ⟨rfl, by omega⟩, decide_eq_true hq]; simp; omega
    · rw [if_neg (by omega), decide_eq_false hq]; rfl
theorem impl_PutTerm_ev (x : S46) (hb : (budI x : Int) ≤ 4194304) : Ev (fun k => impl_PutTerm.f k x.f0 x.f1 x.f2 x.f3) (putM x) := by
  unfold impl_PutTerm.f
  refine Ev.bind (impl_TermOk_ev x hb) ?_
  by_cases h : termOkM x = true
  · obtain ⟨h1, h2⟩ := termOk_parts h
    refine ev_cast (putM_yes h) (ev_pos h (Ev.bind ?_ (Ev.now _)))
    have := impl_putTerm_all x 8 h1 hb [] (by simp; omega)
    exact this
  · exact ev_cast (putM_no h) (ev_neg h (Ev.now _))
theorem str_one (x : Int) : (strOfNums [x]).size = 1 := by unfold strOfNums; rfl
theorem laws_markText_l0 (m : Nat) : ∀ (n : Nat) (x3 : ByteArray), n ≤ m → n ≤ 4000000000 → x3.size + n ≤ 5000000000 → ∃ r, Ev (fun k => laws_markText.l0 k (n : Int) x3) r := by
  have z : ∀ x3 : ByteArray, x3.size ≤ 5000000000 → ∃ r, Ev (fun k => laws_markText.l0 k ((0 : Nat) : Int) x3) r := fun x3 hs =>
    ⟨_, Ev.step (f := fun _ => (if 1 + x3.size ≤ 9223372036854775807 then (some ((⟨#[109]⟩ : ByteArray) ++ x3)) else none)) (fun k => by simp only [laws_markText.l0]; rw [if_neg (by omega)]) (ev_pos (by omega) (Ev.now _))⟩
  induction m with
  | zero =>
    intro n x3 hm h1 h2
    obtain rfl : n = 0 := by omega
    exact z x3 (by omega)
  | succ m ih =>
    intro n x3 hm h1 h2
    by_cases h0 : n = 0
    · subst h0; exact z x3 (by omega)
    · have ht : wrap64 (Int.tdiv (n : Int) 10) = ((n / 10 : Nat) : Int) := by
        rw [Int.tdiv_eq_ediv_of_nonneg (by omega), w64 _ (by omega) (by omega)]; omega
      obtain ⟨r, e⟩ := ih (n / 10) (strOfNums [(wrap64 (48 + (Int.tmod (n : Int) 10))) % 256] ++ x3) (by omega) (by omega) (by rw [ByteArray.size_append, str_one]; omega)
      refine ⟨r, Ev.step (f := fun k => (some (([(wrap64 (48 + (Int.tmod (n : Int) 10))) % 256] : List Int) : List Int)).bind fun y => (if (strOfNums y).size + x3.size ≤ 9223372036854775807 then (laws_markText.l0 k (wrap64 (Int.tdiv (n : Int) 10)) ((strOfNums y) ++ x3)) else (none))) (fun k => ?_) (Ev.bind (Ev.now _) (ev_pos ?_ ?_))⟩
      · simp only [laws_markText.l0]; rw [if_pos (by omega)]
      · rw [str_one]; omega
      · rw [ht]; exact e
theorem laws_markText_ev (n : Int) (h0 : 0 ≤ n) (h1 : n ≤ 4000000000) : ∃ r, Ev (fun k => laws_markText.f k n) r := by
  unfold laws_markText.f
  by_cases h : n ≤ 0
  · exact ⟨_, ev_pos h (Ev.now _)⟩
  · obtain ⟨m, rfl⟩ : ∃ m : Nat, n = (m : Int) := ⟨n.toNat, by omega⟩
    obtain ⟨r, e⟩ := laws_markText_l0 m m ⟨#[]⟩ (by omega) (by omega) (by show 0 + m ≤ _; omega)
    exact ⟨r, ev_neg h e⟩
theorem markS_loop (l : List S46) (hl : (budIL l : Int) ≤ 4194304) (h : ∀ y ∈ l, ∀ x1 : Int, 0 ≤ x1 → x1 + 3 * countML y.f3 ≤ 100000000 → Ev (fun k => laws_markTermS.f k y.f3 x1) (x1 + 3 * countML y.f3)) (d : Nat) :
    ∀ (i : Nat) (x1 : Int), i + d = l.length → 0 ≤ x1 → x1 + 3 * countML (l.drop i) ≤ 100000000 → Ev (fun k => laws_markTermS.l0 k l x1 i) (x1 + 3 * countML (l.drop i)) := by
  have hll := budIL_len l
  induction d with
  | zero =>
    intro i x1 hi h0 hb
    refine Ev.step (f := fun _ => some x1) (fun k => ?_) (ev_cast ?_ (Ev.now _))
    · simp only [laws_markTermS.l0]; rw [if_neg (by omega)]
    · rw [List.drop_eq_nil_of_le (by omega), countML]; omega
  | succ d ih =>
    intro i x1 hi h0 hb
    have hlt : i < l.length := by omega
    have hc : (countML (l.drop i) : Int) = 1 + countML l[i].f3 + countML (l.drop (i + 1)) := by
      rw [List.drop_eq_getElem_cons hlt, countML]
      have : countM l[i] = 1 + countML l[i].f3 := by
        conv => lhs; rw [← etaI l[i]]
        rw [countM]
      omega
    obtain ⟨r, e⟩ := laws_markText_ev (x1 + 1 + 1) (by omega) (by omega)
    refine Ev.step (f := fun k => (laws_markText.f k (x1 + 1 + 1)).bind fun _ => ((laws_markTermS.f k l[i].f3 (x1 + 1 + 1 + 1)).bind fun t3 => (laws_markTermS.l0 k l t3 (wrap64 ((i : Int) + 1))))) (fun k => ?_) (Ev.bind e (Ev.bind (h l[i] (List.getElem_mem hlt) (x1 + 1 + 1 + 1) (by omega) (by omega)) ?_))
    · simp only [laws_markTermS.l0]
      rw [if_pos (by omega), if_pos (by omega), rdIx2 l i hlt, w64 (x1 + 1) (by omega) (by omega), w64 (x1 + 1 + 1) (by omega) (by omega), w64 (x1 + 1 + 1 + 1) (by omega) (by omega)]
    · rw [w64 _ (by omega) (by omega)]
      exact ev_cast (by omega) (ih (i + 1) _ (by omega) (by omega) (by omega))
theorem markS_of (l : List S46) (hl : (budIL l : Int) ≤ 4194304) (h : ∀ y ∈ l, ∀ x1 : Int, 0 ≤ x1 → x1 + 3 * countML y.f3 ≤ 100000000 → Ev (fun k => laws_markTermS.f k y.f3 x1) (x1 + 3 * countML y.f3)) (x1 : Int) (h0 : 0 ≤ x1) (h1 : x1 + 3 * countML l ≤ 100000000) : Ev (fun k => laws_markTermS.f k l x1) (x1 + 3 * countML l) := by
  have e := markS_loop l hl h l.length 0 x1 (by omega) h0 h1
  rw [List.drop_zero] at e
  exact Ev.step (fun k => by simp only [laws_markTermS.f]; rfl) e
theorem markS_all : ∀ x : S46, (budI x : Int) ≤ 4194304 → ∀ x1 : Int, 0 ≤ x1 → x1 + 3 * countML x.f3 ≤ 100000000 → Ev (fun k => laws_markTermS.f k x.f3 x1) (x1 + 3 * countML x.f3) := by
  refine indI (fun a b s l ih hb x1 h0 h1 => ?_)
  rw [budI_mk] at hb
  exact markS_of l (by omega) (fun y hy x2 h2 h3 => ih y hy (by have := budI_mem l y hy; omega) x2 h2 h3) x1 h0 h1
theorem markTerm_ev (a b : Int) (s : ByteArray) (l : List S46) (hb : (budI ⟨a, b, s, l⟩ : Int) ≤ 4194304) : Ev (fun k => laws_markTerm.f k a b s l 1) (1 + 3 * countML l) := by
  unfold laws_markTerm.f
  have := countL_bud l
  have hb2 := hb
  rw [budI_mk] at hb2
  exact Ev.bind (markS_all ⟨a, b, s, l⟩ hb 1 (by omega) (by show 1 + 3 * (countML l : Int) ≤ _; omega)) (Ev.now _)
theorem laws_eqByteS_l (x : List Int) (hl : (x.length : Int) ≤ 281474976710656) (d : Nat) : ∀ (i : Nat), i + d = x.length → Ev (fun k => laws_eqByteS.l0 k x x i) true := by
  induction d with
  | zero =>
    intro i hi
    refine Ev.step (f := fun _ => some true) (fun k => ?_) (Ev.now _)
    simp only [laws_eqByteS.l0]; rw [if_neg (by omega)]
  | succ d ih =>
    intro i hi
    refine Ev.step (fun k => ?_) (ih (i + 1) (by omega))
    simp only [laws_eqByteS.l0]
    rw [if_pos (by omega), if_pos (by omega), if_pos (by omega), if_pos trivial, w64 _ (by omega) (by omega)]
    rfl
theorem laws_eqByteS_ev (x : List Int) (hl : (x.length : Int) ≤ 281474976710656) : Ev (fun k => laws_eqByteS.f k x x) true := by
  unfold laws_eqByteS.f
  exact ev_pos rfl (laws_eqByteS_l x hl x.length 0 (by omega))
theorem rd_set_eq (l : List Int) (i : Nat) (v : Int) (h : i < l.length) : rd (l.set i v) (i : Int) = v := by
  unfold rd
  simp [List.getD_eq_getElem?_getD, h]
theorem set_take (l : List Int) (i : Nat) (v : Int) (h : i < l.length) : (l.set i v).take (i + 1) = l.take i ++ [v] := by
  rw [List.take_succ_eq_append_getElem (by simpa using h)]
  simp [List.take_set]
  rw [List.set_eq_of_length_le (by simp; omega)]
def markB (n : Nat) (k : Int) : List Int := (List.range n).map fun (i : Nat) => (k + (i : Int)) % 256
theorem markB_len (n : Nat) (k : Int) : (markB n k).length = n := by simp [markB]
theorem markB_rd (n : Nat) (k : Int) (i : Nat) (h : i < n) : rd (markB n k) (i : Int) = (k + (i : Int)) % 256 := by
  unfold rd markB
  simp [List.getD_eq_getElem?_getD, h]
theorem laws_markByteS_l (n : Nat) (k0 : Int) (hn : (n : Int) ≤ 8388608) (hk0 : 0 ≤ k0) (hk : k0 ≤ 8388608) (d : Nat) : ∀ (i : Nat) (y : List Int), i + d = n → y.length = n → y.take i = (markB n k0).take i → Ev (fun k => laws_markByteS.l0 k y (k0 + (i : Int)) i) (k0 + (n : Int), markB n k0) := by
  induction d with
  | zero =>
    intro i y hi hy ht
    refine Ev.step (f := fun _ => some (k0 + (i : Int), y)) (fun k => ?_) (ev_cast ?_ (Ev.now _))
    · simp only [laws_markByteS.l0]; rw [if_neg (by omega)]
    · rw [List.take_of_length_le (by omega), List.take_of_length_le (by rw [markB_len]; omega)] at ht
      rw [ht]; simp; omega
  | succ d ih =>
    intro i y hi hy ht
    have := ih (i + 1) (y.set i ((k0 + (i : Int)) % 256)) (by omega) (by simpa using hy) (by
      rw [set_take _ _ _ (by omega), ht, List.take_succ_eq_append_getElem (by rw [markB_len]; omega)]
      simp [markB])
    refine Ev.step (fun k => ?_) this
    simp only [laws_markByteS.l0]
    rw [if_pos (by omega), if_pos (by omega), w64 _ (by omega) (by omega), w64 _ (by omega) (by omega)]
    have e : k0 + (i : Int) + 1 = k0 + ((i + 1 : Nat) : Int) := by omega
    rw [e]
    rfl
theorem laws_markByteS_ev (l : List Int) (hl : (l.length : Int) ≤ 8388608) : Ev (fun k => laws_markByteS.f k l 1) (1 + (l.length : Int), markB l.length 1) := by
  have := laws_markByteS_l l.length 1 hl (by omega) (by omega) l.length 0 l (by omega) rfl (by simp)
  simpa [laws_markByteS.f] using this
theorem laws_heldByteS_l (n : Nat) (k0 : Int) (hn : (n : Int) ≤ 8388608) (hk0 : 0 ≤ k0) (hk : k0 ≤ 8388608) (d : Nat) : ∀ (i : Nat), i + d = n → Ev (fun k => laws_heldByteS.l0 k (markB n k0) (k0 + (i : Int)) i) (k0 + (n : Int)) := by
  induction d with
  | zero =>
    intro i hi
    refine Ev.step (f := fun _ => some (k0 + (i : Int))) (fun k => ?_) (ev_cast ?_ (Ev.now _))
    · simp only [laws_heldByteS.l0]; rw [if_neg (by rw [markB_len]; omega)]
    · omega
  | succ d ih =>
    intro i hi
    refine Ev.step (fun k => ?_) (ih (i + 1) (by omega))
    simp only [laws_heldByteS.l0]
    rw [if_pos (by rw [markB_len]; omega), if_pos (by omega), markB_rd n k0 i (by omega), if_pos rfl, w64 _ (by omega) (by omega), w64 _ (by omega) (by omega)]
    have e : k0 + (i : Int) + 1 = k0 + ((i + 1 : Nat) : Int) := by omega
    rw [e]
    rfl
theorem laws_heldByteS_ev (n : Nat) (hl : (n : Int) ≤ 8388608) : Ev (fun k => laws_heldByteS.f k (markB n 1) 1) (1 + (n : Int)) := by
  have := laws_heldByteS_l n 1 hl (by omega) (by omega) n 0 (by omega)
  simpa [laws_heldByteS.f] using this
theorem FnExactPutTerm : laws_FnExactPutTerm.Pure := by
  intro a b s l hw
  refine Ev.rounds (g := fun k => laws_FnExactPutTerm.f k a b s l) ?_
  unfold laws_FnExactPutTerm.f
  refine Ev.bind (szTerm_ev a b s l hw 1048576 (by omega) (by omega)) ?_
  unfold szRes
  by_cases hb : (budL ⟨a, b, s, l⟩ : Int) ≤ 1048576
  · rw [if_pos hb]
    have hi : (budI (cv ⟨a, b, s, l⟩) : Int) ≤ 1048576 := by rw [bud_cv]; exact hb
    rw [cv] at hi
    have ht := toTerm_ev a b s l hb
    have es := spec_PutTerm_ev ⟨a, b, s, cvL l⟩ (by omega)
    have ei := impl_PutTerm_ev ⟨a, b, s, cvL l⟩ (by omega)
    have hlen := putM_len ⟨a, b, s, cvL l⟩
    generalize putM ⟨a, b, s, cvL l⟩ = G at es ei hlen
    have eq := laws_eqByteS_ev G (by omega)
    have eh := laws_heldByteS_ev G.length (by omega)
    refine ev_neg (by omega) ?_
    refine Ev.step (fun k => by simp only [laws_FnExactPutTerm.j0]; rfl) ?_
    refine Ev.bind ht (Ev.bind es (Ev.bind ht (Ev.bind ei (Ev.bind eq (ev_pos rfl ?_)))))
    refine Ev.step (fun k => by simp only [laws_FnExactPutTerm.j1]; rfl) ?_
    refine Ev.bind ht (Ev.bind (eqTerm_ev a b s (cvL l) (by omega)) (ev_pos rfl ?_))
    refine Ev.step (fun k => by simp only [laws_FnExactPutTerm.j2]; rfl) ?_
    refine Ev.bind (markTerm_ev a b s (cvL l) (by omega)) (ev_neg (by omega) (Ev.bind eq ?_))
    refine Ev.step (f := fun k => laws_FnExactPutTerm.j4 k G G a b s l) (fun k => by simp only [laws_FnExactPutTerm.j3]; rw [if_neg (by decide)]) ?_
    refine Ev.step (fun k => by simp only [laws_FnExactPutTerm.j4]; rfl) ?_
    refine Ev.bind (laws_markByteS_ev G (by omega)) (Ev.bind eh (ev_neg (by omega) ?_))
    refine Ev.step (f := fun k => laws_FnExactPutTerm.j6 k G (markB G.length 1) (1 + (G.length : Int)) a b s l) (fun k => by simp only [laws_FnExactPutTerm.j5]; rw [if_pos trivial]) ?_
    refine Ev.step (fun k => by simp only [laws_FnExactPutTerm.j6]; rfl) ?_
    refine Ev.bind ht (Ev.bind ei (Ev.bind eq (ev_pos rfl ?_)))
    refine Ev.step (fun k => by simp only [laws_FnExactPutTerm.j7]; rfl) ?_
    exact Ev.bind eh (ev_neg (by omega) (ev_pos rfl (Ev.now _)))
  · rw [if_neg hb]
    exact ev_pos (by omega) (Ev.now _)

end Go.Proofs.Ythfiopjabfaejaa.Pure
