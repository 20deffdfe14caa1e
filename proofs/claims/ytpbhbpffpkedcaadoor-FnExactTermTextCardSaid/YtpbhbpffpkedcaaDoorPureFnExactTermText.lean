/- What the law FnExactTermText of this seat says holds for every input that its row speaks of; no further condition. -/
import Derived.Test.YtpbhbpffpkedcaaDoorQFnExactTermTextx7
set_option linter.unusedVariables false
set_option linter.unusedSimpArgs false
namespace Go.Proofs.YtpbhbpffpkedcaaDoor.Pure
open Go.RowKit Go.Proofs.YtpbhbpffpkedcaaDoor.QFnExactTermText Go.Proofs.YtpbhbpffpkedcaaDoorW.PrintWords Go.Proofs.YtpbhbpffpkedcaaDoorW.PrintLast Go.Proofs.YtpbhbpffpkedcaaDoorW.PrintMore

theorem ev_pos {α : Type} {c : Prop} [Decidable c] {A B : Nat → Option α} {r : α} (h : c) (e : Ev A r) : Ev (fun k => if c then A k else B k) r := by
  obtain ⟨K, hK⟩ := e
  exact ⟨K, fun k hk => by simp only [if_pos h]; exact hK k hk⟩
theorem ev_neg {α : Type} {c : Prop} [Decidable c] {A B : Nat → Option α} {r : α} (h : ¬ c) (e : Ev B r) : Ev (fun k => if c then A k else B k) r := by
  obtain ⟨K, hK⟩ := e
  exact ⟨K, fun k hk => by simp only [if_neg h]; exact hK k hk⟩
theorem ev_of {α : Type} {o : Option α} {r : α} (h : o = some r) : Ev (fun _ => o) r := ⟨0, fun _ _ => h⟩
theorem ev_cast {α : Type} {g : Nat → Option α} {r r' : α} (h : r = r') (e : Ev g r) : Ev g r' := h ▸ e
theorem ev_uniq {α : Type} {g : Nat → Option α} {r r' : α} (h : Ev g r) (h' : Ev g r') : r = r' := by
  obtain ⟨K, hK⟩ := h
  obtain ⟨K', hK'⟩ := h'
  have a := hK (max K K') (Nat.le_max_left _ _)
  have b := hK' (max K K') (Nat.le_max_right _ _)
  rw [a] at b
  exact Option.some.inj b
theorem w64 (n : Int) (h0 : -9223372036854775808 ≤ n) (h1 : n ≤ 9223372036854775807) : wrap64 n = n := by unfold wrap64; omega
theorem dec_and (p q : Prop) [Decidable p] [Decidable q] : decide (p ∧ q) = (decide p && decide q) := by
  by_cases hp : p <;> by_cases hq : q <;> simp [hp, hq]
theorem indI {P : S29 → Prop} (h : ∀ a b s l, (∀ y ∈ l, P y) → P ⟨a, b, s, l⟩) : ∀ x, P x := by
  intro x
  refine S29.rec (motive_1 := P) (motive_2 := fun l => ∀ y ∈ l, P y) ?_ ?_ ?_ x
  · intro a b s l hl
    exact h a b s l hl
  · intro y hy; cases hy
  · intro x r hx hr y hy
    rcases List.mem_cons.1 hy with rfl | hy
    · exact hx
    · exact hr y hy
mutual
def budI : S29 → Nat
  | ⟨_, _, s, l⟩ => s.size + budIL l
def budIL : List S29 → Nat
  | [] => 0
  | x :: r => 1 + budI x + budIL r
end
theorem budI_mk (a b : Int) (s : ByteArray) (l : List S29) : budI ⟨a, b, s, l⟩ = s.size + budIL l := by rw [budI]
theorem budIL_len : ∀ l : List S29, l.length ≤ budIL l
  | [] => by simp [budIL]
  | x :: r => by
    have := budIL_len r
    rw [budIL, List.length_cons]; omega
theorem rdI_mem (l : List S29) (i : Nat) (h : i < l.length) : rd_T29 l i ∈ l := by
  unfold rd_T29
  simp [List.getD_eq_getElem?_getD, List.getElem?_eq_getElem h]
theorem dropI (l : List S29) (i : Nat) (h : i < l.length) : l.drop i = rd_T29 l i :: l.drop (i + 1) := by
  rw [List.drop_eq_getElem_cons h]
  unfold rd_T29
  simp [List.getElem?_eq_getElem h]
theorem budI_mem : ∀ (l : List S29) (x : S29), x ∈ l → budI x + 1 ≤ budIL l
  | [], x, h => by cases h
  | y :: r, x, h => by
    rw [budIL]
    rcases List.mem_cons.1 h with rfl | h
    · omega
    · have := budI_mem r x h; omega
theorem etaI (x : S29) : (⟨x.f0, x.f1, x.f2, x.f3⟩ : S29) = x := by cases x; rfl
theorem indL {P : S24 → Prop} (h : ∀ a b s l, (∀ y ∈ l, P y) → P ⟨a, b, s, l⟩) : ∀ x, P x := by
  intro x
  refine S24.rec (motive_1 := P) (motive_2 := fun l => ∀ y ∈ l, P y) ?_ ?_ ?_ x
  · intro a b s l hl
    exact h a b s l hl
  · intro y hy; cases hy
  · intro x r hx hr y hy
    rcases List.mem_cons.1 hy with rfl | hy
    · exact hx
    · exact hr y hy
mutual
def budL : S24 → Nat
  | ⟨_, _, s, l⟩ => s.size + (l.length + budLE l)
def budLE : List S24 → Nat
  | [] => 0
  | x :: r => budL x + budLE r
end
mutual
def cv : S24 → S29
  | ⟨a, b, s, l⟩ => ⟨a, b, s, cvL l⟩
def cvL : List S24 → List S29
  | [] => []
  | x :: r => cv x :: cvL r
end
theorem cvL_len : ∀ l, (cvL l).length = l.length
  | [] => rfl
  | x :: r => by rw [cvL, List.length_cons, List.length_cons, cvL_len r]
theorem cvL_map : ∀ l, cvL l = l.map cv
  | [] => rfl
  | x :: r => by rw [cvL, List.map_cons, cvL_map r]
mutual
theorem bud_cv : ∀ x, budI (cv x) = budL x
  | ⟨a, b, s, l⟩ => by rw [cv, budI, budL, bud_cvL l]
theorem bud_cvL : ∀ l, budIL (cvL l) = l.length + budLE l
  | [] => by rw [cvL, budIL, budLE]; rfl
  | x :: r => by rw [cvL, budIL, budLE, bud_cv x, bud_cvL r, List.length_cons]; omega
end
theorem rdL_mem (l : List S24) (i : Nat) (h : i < l.length) : rd_T24 l i ∈ l := by
  unfold rd_T24
  simp [List.getD_eq_getElem?_getD, List.getElem?_eq_getElem h]
theorem dropL (l : List S24) (i : Nat) (h : i < l.length) : l.drop i = rd_T24 l i :: l.drop (i + 1) := by
  rw [List.drop_eq_getElem_cons h]
  unfold rd_T24
  simp [List.getElem?_eq_getElem h]
theorem wfL_mem (l : List S24) (h : wfl24 l) : ∀ x ∈ l, wf24 x := (wfl24_iff l).1 h
theorem wfL_mk {a b : Int} {s : ByteArray} {l : List S24} (h : wf24 ⟨a, b, s, l⟩) : (Lit.int .i64 a).wf = true ∧ (Lit.int .i64 b).wf = true ∧ (s.size : Int) ≤ 9223372036854775807 ∧ (l.length : Int) ≤ 9223372036854775807 ∧ ∀ x ∈ l, wf24 x := by
  unfold wf24 at h
  obtain ⟨h0, h1, h2, h3, h4⟩ := h
  unfold maxLen at h2 h3
  exact ⟨h0, h1, by omega, by omega, wfL_mem l h4⟩
theorem wf_u8 {x : Int} (h : (Lit.int .u8 x).wf = true) : 0 ≤ x ∧ x < 256 := by
  simp [Lit.wf, IntKind.min, IntKind.max, IntKind.bits, IntKind.signed] at h
  omega
theorem wf_i64 {x : Int} (h : (Lit.int .i64 x).wf = true) : -9223372036854775808 ≤ x ∧ x ≤ 9223372036854775807 := by
  simp [Lit.wf, IntKind.min, IntKind.max, IntKind.bits, IntKind.signed] at h
  omega
def BytesB (l : List Int) : Prop := ∀ x ∈ l, 0 ≤ x ∧ x < 256
theorem BytesB.at_ {l : List Int} (h : BytesB l) (i : Int) : 0 ≤ rd l i ∧ rd l i < 256 := by
  unfold rd
  rw [List.getD_eq_getElem?_getD]
  by_cases hi : i.toNat < l.length
  · rw [List.getElem?_eq_getElem hi]; exact h _ (List.getElem_mem hi)
  · rw [List.getElem?_eq_none (by omega)]; decide
theorem drop_rd (l : List Int) (p : Nat) (h : p < l.length) : l.drop p = rd l p :: l.drop (p + 1) := by
  rw [List.drop_eq_getElem_cons h]
  unfold rd
  simp [List.getElem?_eq_getElem h]
theorem hk63 (n : Int) (h0 : 0 ≤ n) (h1 : n < 2 ^ 63) : IntKind.i64.wrap n = n := by
  rw [IntKind.wrap_i64]; omega
theorem or_comm64 (a b : Int) : Go.bits .or .i64 a b = Go.bits .or .i64 b a := by
  unfold Go.bits
  simp only [BitVec.or_comm]
theorem and127 (c : Int) (h0 : 0 ≤ c) (h1 : c < 256) : Go.bits .and .i64 c 127 = c % 128 := by
  have := bits_mask .i64 63 (by decide) hk63 7 (by decide) c h0 (by omega)
  simpa using this
theorem wrapU7 (i : Nat) (hi : i < 6) : IntKind.u64.wrap (wrap64 (7 * (i : Int))) = 7 * (i : Int) := by
  rw [w64 _ (by omega) (by omega)]
  simp [IntKind.wrap, IntKind.bits, IntKind.signed]
  omega
theorem p7 (i : Nat) (hi : i < 6) : (1 : Int) ≤ 2 ^ (7 * i) ∧ (2 : Int) ^ (7 * i) ≤ 34359738368 ∧ (2 : Int) ^ (7 * (i + 1)) = 128 * 2 ^ (7 * i) := by
  have : i = 0 ∨ i = 1 ∨ i = 2 ∨ i = 3 ∨ i = 4 ∨ i = 5 := by omega
  rcases this with rfl | rfl | rfl | rfl | rfl | rfl <;> decide
theorem grp (x c : Int) (i : Nat) (hi : i < 6) (hx0 : 0 ≤ x) (hx : x < 2 ^ (7 * i)) (hc0 : 0 ≤ c) (hc : c < 256) :
    Go.bits .or .i64 x (shl .i64 (Go.bits .and .i64 c 127) (IntKind.u64.wrap (wrap64 (7 * (i : Int))))) = x + (c % 128) * 2 ^ (7 * i) := by
  obtain ⟨hp1, hp2, _⟩ := p7 i hi
  rw [and127 c hc0 hc, wrapU7 i hi]
  unfold shl
  have hm : min (7 * (i : Int)).toNat (IntKind.i64.bits) = 7 * i := by show min _ 64 = _; omega
  have hb : 0 ≤ c % 128 ∧ c % 128 ≤ 127 := by omega
  have hq0 : 0 ≤ c % 128 * 2 ^ (7 * i) := Int.mul_nonneg hb.1 (by omega)
  have hq1 : c % 128 * 2 ^ (7 * i) ≤ 127 * 34359738368 := Int.mul_le_mul hb.2 hp2 (by omega) (by decide)
  rw [hm, hk63 _ hq0 (by omega), or_comm64]
  rw [bits_join .i64 63 (by decide) hk63 (7 * i) _ x hq0 (Int.mul_emod_left _ _) (by omega) hx0 hx (by omega)]
  omega
/-- What stands at a place: groups of seven bits; the number, and how many bytes. -/
def numM : Nat → Nat → Int → List Int → Option (Int × Nat)
  | 0, _, _, _ => none
  | _ + 1, _, _, [] => none
  | n + 1, i, x, c :: r => if c > 127 then numM n (i + 1) (x + (c % 128) * 2 ^ (7 * i)) r else if c = 0 ∧ 0 < i then none else some (x + (c % 128) * 2 ^ (7 * i), i + 1)
def zag (m : Int) : Int := if m % 2 = 1 then -(m / 2) - 1 else m / 2
def numFin (a : Int) : Option (Int × Nat) → Int × Int × Bool
  | none => (0, 0, false)
  | some (m, c) => if -1000000000000 ≤ zag m ∧ zag m ≤ 1000000000000 then (zag m, a + c, true) else (0, 0, false)
def getNumM (l : List Int) (a : Int) : Int × Int × Bool := if 0 ≤ a ∧ a < l.length then numFin a (numM 6 0 0 (l.drop a.toNat)) else (0, 0, false)
def szRes (left : Int) (b : Nat) : Int := if (b : Int) ≤ left then left - b else -1
theorem sz_loop (l : List S24) (hl : (l.length : Int) ≤ 9223372036854775807)
    (h : ∀ y ∈ l, ∀ left : Int, 0 ≤ left → left ≤ 1048576 → Ev (fun k => laws_szTerm.f k y.f0 y.f1 y.f2 y.f3 left) (szRes left (budL y))) (d : Nat) :
    ∀ (i : Nat) (left : Int), i + d = l.length → 0 ≤ left → left ≤ 1048576 → Ev (fun k => laws_szTermS.l0 k l left i) (szRes left (budLE (l.drop i))) := by
  induction d with
  | zero =>
    intro i left hi h0 h1
    refine Ev.step (f := fun _ => some left) (fun k => ?_) (ev_cast ?_ (Ev.now _))
    · simp only [laws_szTermS.l0]; rw [if_neg (by omega)]
    · rw [List.drop_eq_nil_of_le (by omega), budLE]; unfold szRes; rw [if_pos (by omega)]; omega
  | succ d ih =>
    intro i left hi h0 h1
    have hlt : i < l.length := by omega
    have e := h _ (rdL_mem l i hlt) left h0 h1
    rw [dropL l i hlt, budLE]
    generalize hy : rd_T24 l i = y at *
    refine Ev.step (f := fun k => (laws_szTerm.f k y.f0 y.f1 y.f2 y.f3 left).bind fun t102 => (if t102 < 0 then (some (-1)) else (laws_szTermS.l0 k l t102 (wrap64 ((i : Int) + 1))))) (fun k => ?_) (Ev.bind e ?_)
    · simp only [laws_szTermS.l0]; rw [if_pos (by omega), if_pos (by omega), hy]
    · unfold szRes
      by_cases hb : (budL y : Int) ≤ left
      · rw [if_pos hb]
        refine ev_neg (by omega) ?_
        rw [w64 _ (by omega) (by omega)]
        refine ev_cast ?_ (ih (i + 1) (left - budL y) (by omega) (by omega) (by omega))
        unfold szRes
        by_cases hc : (budLE (l.drop (i + 1)) : Int) ≤ left - budL y
        · rw [if_pos hc, if_pos (by omega)]; omega
        · rw [if_neg hc, if_neg (by omega)]
      · rw [if_neg hb, if_neg (by omega)]
        exact ev_pos (by omega) (Ev.now _)
theorem szS_of (l : List S24) (hl : (l.length : Int) ≤ 9223372036854775807)
    (h : ∀ y ∈ l, ∀ left : Int, 0 ≤ left → left ≤ 1048576 → Ev (fun k => laws_szTerm.f k y.f0 y.f1 y.f2 y.f3 left) (szRes left (budL y))) (left : Int) (h0 : 0 ≤ left) (h1 : left ≤ 1048576) :
    Ev (fun k => laws_szTermS.f k l left) (szRes left (l.length + budLE l)) := by
  by_cases hc : left - (l.length : Int) < 0
  · refine Ev.step (f := fun _ => some (-1)) (fun k => ?_) (ev_cast ?_ (Ev.now _))
    · simp only [laws_szTermS.f]; rw [w64 _ (by omega) (by omega), if_pos hc]
    · unfold szRes; rw [if_neg (by omega)]
  · refine Ev.step (fun k => ?_) (ev_cast ?_ (sz_loop l hl h l.length 0 (left - l.length) (by omega) (by omega) (by omega)))
    · simp only [laws_szTermS.f]; rw [w64 _ (by omega) (by omega), if_neg hc]; rfl
    · rw [List.drop_zero]
      unfold szRes
      by_cases hb : (budLE l : Int) ≤ left - l.length
      · rw [if_pos hb, if_pos (by omega)]; omega
      · rw [if_neg hb, if_neg (by omega)]
theorem sz_all : ∀ x, wf24 x → ∀ left : Int, 0 ≤ left → left ≤ 1048576 → Ev (fun k => laws_szTerm.f k x.f0 x.f1 x.f2 x.f3 left) (szRes left (budL x)) := by
  refine indL ?_
  intro a b s l ih hw left h0 h1
  obtain ⟨_, _, hs, hl, hm⟩ := wfL_mk hw
  simp only []
  by_cases hc : left - (s.size : Int) < 0
  · refine Ev.step (f := fun _ => some (-1)) (fun k => ?_) (ev_cast ?_ (Ev.now _))
    · simp only [laws_szTerm.f]; rw [w64 _ (by omega) (by omega), if_pos hc]
    · rw [budL]; unfold szRes; rw [if_neg (by omega)]
  · have e := szS_of l hl (fun y hy => ih y hy (hm y hy)) (left - s.size) (by omega) (by omega)
    refine Ev.step (f := fun k => (laws_szTermS.f k l (left - (s.size : Int))).bind fun t104 => (if t104 < 0 then (some (-1)) else (some t104))) (fun k => ?_) (Ev.bind e ?_)
    · simp only [laws_szTerm.f]; rw [w64 _ (by omega) (by omega), if_neg hc]
    · rw [budL]
      unfold szRes
      by_cases hb : ((l.length + budLE l : Nat) : Int) ≤ left - s.size
      · have hb2 : ((s.size + (l.length + budLE l) : Nat) : Int) ≤ left := by omega
        rw [if_pos hb, if_pos hb2]
        exact ev_neg (by omega) (ev_cast (by omega) (Ev.now _))
      · have hb2 : ¬ ((s.size + (l.length + budLE l) : Nat) : Int) ≤ left := by omega
        rw [if_neg hb, if_neg hb2]
        exact ev_pos (by omega) (Ev.now _)
theorem szTerm_ev (a b : Int) (s : ByteArray) (l : List S24) (hw : wf24 ⟨a, b, s, l⟩) (left : Int) (h0 : 0 ≤ left) (h1 : left ≤ 1048576) : Ev (fun k => laws_szTerm.f k a b s l left) (szRes left (budL ⟨a, b, s, l⟩)) := sz_all _ hw left h0 h1
theorem set_takeI (l : List S29) (i : Nat) (v : S29) (h : i < l.length) : (l.set i v).take (i + 1) = l.take i ++ [v] := by
  rw [List.take_succ_eq_append_getElem (by simpa using h)]
  simp [List.take_set]
  rw [List.set_eq_of_length_le (by simp; omega)]
theorem to_loop (l : List S24) (hl : (l.length : Int) ≤ 1048576)
    (h : ∀ y ∈ l, Ev (fun k => laws_toTerm.f k y.f0 y.f1 y.f2 y.f3) (y.f0, y.f1, y.f2, cvL y.f3)) (d : Nat) :
    ∀ (i : Nat) (x : List S29), i + d = l.length → x.length = l.length → x.take i = (cvL l).take i → Ev (fun k => laws_toTermS.l0 k l x i) (cvL l) := by
  induction d with
  | zero =>
    intro i x hi hx ht
    refine Ev.step (f := fun _ => some x) (fun k => ?_) (ev_cast ?_ (Ev.now _))
    · simp only [laws_toTermS.l0]; rw [if_neg (by omega)]
    · rwa [List.take_of_length_le (by omega), List.take_of_length_le (by rw [cvL_len]; omega)] at ht
  | succ d ih =>
    intro i x hi hx ht
    have hlt : i < l.length := by omega
    have e := h _ (rdL_mem l i hlt)
    have hn := ih (i + 1) (x.set i (cv (rd_T24 l i))) (by omega) (by simpa using hx) (by
      rw [set_takeI _ _ _ (by omega), ht, List.take_succ_eq_append_getElem (by rw [cvL_len]; omega)]
      congr 1
      simp only [cvL_map, List.getElem_map]
      unfold rd_T24
      simp [List.getElem?_eq_getElem hlt])
    generalize hy : rd_T24 l i = y at *
    refine Ev.step (f := fun k => (laws_toTerm.f k y.f0 y.f1 y.f2 y.f3).bind fun bt112 => (laws_toTermS.l0 k l (x.set i (⟨bt112.1, bt112.2.1, bt112.2.2.1, bt112.2.2.2⟩ : S29)) (wrap64 ((i : Int) + 1)))) (fun k => ?_) (Ev.bind e ?_)
    · simp only [laws_toTermS.l0]; rw [if_pos (by omega), if_pos (by omega), hy]
      congr 1
      funext bt
      rw [if_pos (by omega)]
      rfl
    · rw [w64 _ (by omega) (by omega)]
      have ec : (⟨y.f0, y.f1, y.f2, cvL y.f3⟩ : S29) = cv y := by cases y; rw [cv]
      simp only [ec]
      exact hn
theorem toS_of (l : List S24) (hl : (l.length : Int) ≤ 1048576)
    (h : ∀ y ∈ l, Ev (fun k => laws_toTerm.f k y.f0 y.f1 y.f2 y.f3) (y.f0, y.f1, y.f2, cvL y.f3)) : Ev (fun k => laws_toTermS.f k l) (cvL l) := by
  refine Ev.step (fun k => ?_) (to_loop l hl h l.length 0 (List.replicate l.length z29) (by omega) (by simp) (by simp))
  simp only [laws_toTermS.f]; rw [if_pos (by omega), if_pos (by omega)]
  simp
theorem budL_mem : ∀ (l : List S24) (x : S24), x ∈ l → budL x ≤ budLE l
  | [], x, h => by cases h
  | y :: r, x, h => by
    rw [budLE]
    rcases List.mem_cons.1 h with rfl | h
    · omega
    · have := budL_mem r x h; omega
theorem to_all : ∀ x, (budL x : Int) ≤ 1048576 → Ev (fun k => laws_toTerm.f k x.f0 x.f1 x.f2 x.f3) (x.f0, x.f1, x.f2, cvL x.f3) := by
  refine indL ?_
  intro a b s l ih hb
  rw [budL] at hb
  refine Ev.step (f := fun k => (laws_toTermS.f k l).bind fun t122 => (some (a, b, s, t122))) (fun k => ?_) (Ev.bind (toS_of l (by omega) (fun y hy => ih y hy (by have := budL_mem l y hy; omega))) (Ev.now _))
  simp only [laws_toTerm.f]
theorem toTerm_ev (a b : Int) (s : ByteArray) (l : List S24) (hb : (budL ⟨a, b, s, l⟩ : Int) ≤ 1048576) : Ev (fun k => laws_toTerm.f k a b s l) (a, b, s, cvL l) := to_all _ hb
theorem eq_loop (l : List S29) (hl : (l.length : Int) ≤ 4194304)
    (h : ∀ y ∈ l, Ev (fun k => laws_eqTerm.f k y.f0 y.f1 y.f2 y.f3 y.f0 y.f1 y.f2 y.f3) true) (d : Nat) : ∀ (i : Nat), i + d = l.length → Ev (fun k => laws_eqTermS.l0 k l l i) true := by
  induction d with
  | zero =>
    intro i hi
    refine Ev.step (f := fun _ => some true) (fun k => ?_) (Ev.now _)
    simp only [laws_eqTermS.l0]; rw [if_neg (by omega)]
  | succ d ih =>
    intro i hi
    have hlt : i < l.length := by omega
    have e := h _ (rdI_mem l i hlt)
    have hn := ih (i + 1) (by omega)
    generalize hy : rd_T29 l i = y at *
    refine Ev.step (f := fun k => (laws_eqTerm.f k y.f0 y.f1 y.f2 y.f3 y.f0 y.f1 y.f2 y.f3).bind fun t131 => (if t131 = true then (laws_eqTermS.l0 k l l (wrap64 ((i : Int) + 1))) else (some false))) (fun k => ?_) (Ev.bind e (ev_pos rfl ?_))
    · simp only [laws_eqTermS.l0]; rw [if_pos (by omega), if_pos (by omega), if_pos (by omega), hy]
    · rw [w64 _ (by omega) (by omega)]; exact hn
theorem eqS_of (l : List S29) (hl : (l.length : Int) ≤ 4194304) (h : ∀ y ∈ l, Ev (fun k => laws_eqTerm.f k y.f0 y.f1 y.f2 y.f3 y.f0 y.f1 y.f2 y.f3) true) : Ev (fun k => laws_eqTermS.f k l l) true := by
  refine Ev.step (fun k => ?_) (eq_loop l hl h l.length 0 (by omega))
  simp only [laws_eqTermS.f]; rw [if_pos trivial]; rfl
theorem eq_all : ∀ x, (budI x : Int) ≤ 4194304 → Ev (fun k => laws_eqTerm.f k x.f0 x.f1 x.f2 x.f3 x.f0 x.f1 x.f2 x.f3) true := by
  refine indI ?_
  intro a b s l ih hb
  rw [budI] at hb
  have hl := budIL_len l
  refine Ev.step (f := fun k => (laws_eqTermS.f k l l).bind fun t134 => (if t134 = true then (some true) else (some false))) (fun k => ?_) (Ev.bind (eqS_of l (by omega) (fun y hy => ih y hy (by have := budI_mem l y hy; omega))) (ev_pos rfl (Ev.now _)))
  simp only [laws_eqTerm.f]
  simp
theorem eqTerm_ev (a b : Int) (s : ByteArray) (l : List S29) (hb : (budI ⟨a, b, s, l⟩ : Int) ≤ 4194304) : Ev (fun k => laws_eqTerm.f k a b s l a b s l) true := eq_all _ hb
theorem eqTermS_ev (l : List S29) (hb : (budIL l : Int) ≤ 4194304) : Ev (fun k => laws_eqTermS.f k l l) true := by
  have hl := budIL_len l
  exact eqS_of l (by omega) (fun y hy => eq_all y (by have := budI_mem l y hy; omega))
def lowB (c : Int) : Bool := decide (97 ≤ c) && decide (c ≤ 122)
def digB (c : Int) : Bool := decide (48 ≤ c) && decide (c ≤ 57)
def atomB (c : Int) : Bool := lowB c || (digB c || decide (c = 95))
def atomFrom (s : ByteArray) (i : Nat) : Bool := (List.range' i (s.size - i)).all fun j => lowB (bt s j) || (!decide (j = 0) && (digB (bt s j) || decide (bt s j = 95)))
def atomOkM (s : ByteArray) : Bool := atomFrom s 0 && (decide (1 ≤ (s.size : Int)) && decide ((s.size : Int) ≤ 20))
theorem atomFrom_end (s : ByteArray) (i : Nat) (h : s.size ≤ i) : atomFrom s i = true := by
  unfold atomFrom
  rw [Nat.sub_eq_zero_of_le h]; rfl
theorem atomFrom_step (s : ByteArray) (i : Nat) (h : i < s.size) : atomFrom s i = ((lowB (bt s i) || (!decide (i = 0) && (digB (bt s i) || decide (bt s i = 95)))) && atomFrom s (i + 1)) := by
  unfold atomFrom
  obtain ⟨n, hn⟩ : ∃ n, s.size - i = n + 1 := ⟨s.size - i - 1, by omega⟩
  rw [hn, show s.size - (i + 1) = n from by omega, List.range'_succ]
  simp [List.all_cons]
theorem wbt (s : ByteArray) (i : Int) : wrap64 (bt s i) = bt s i := by
  have := bt_range s i
  exact w64 _ (by omega) (by omega)
mutual
def countM : S29 → Nat
  | ⟨_, _, _, l⟩ => 1 + countML l
def countML : List S29 → Nat
  | [] => 0
  | x :: r => countM x + countML r
end
mutual
theorem count_bud : ∀ x, countM x ≤ 1 + budI x
  | ⟨a, b, s, l⟩ => by rw [countM, budI]; have := countL_bud l; omega
theorem countL_bud : ∀ l, countML l ≤ budIL l
  | [] => by rw [countML]; omega
  | x :: r => by rw [countML, budIL]; have := count_bud x; have := countL_bud r; omega
end
def noText (s : ByteArray) : Bool := decide (s.toList = ([] : List UInt8))
def shapeM (a b : Int) (s : ByteArray) (l : List S29) : Bool :=
  if a = 1 then (decide (-1000000000000 ≤ b) && decide (b ≤ 1000000000000)) && (noText s && ((l.length : Int) == 0))
  else if a = 2 then atomOkM s && (decide (b = 0) && ((l.length : Int) == 0))
  else if a = 3 then (decide (0 ≤ b) && decide (b ≤ 1000000)) && (noText s && ((l.length : Int) == 0))
  else if a = 4 then decide (b = 0) && (noText s && decide ((l.length : Int) ≤ 20))
  else if a = 5 then decide (b = 0) && (noText s && decide ((l.length : Int) ≤ 60))
  else false
mutual
def goodM : S29 → Nat → Bool
  | ⟨a, b, s, l⟩, n => match n with
    | 0 => false
    | n + 1 => shapeM a b s l && goodML l n
def goodML : List S29 → Nat → Bool
  | [], _ => true
  | x :: r, n => goodM x n && goodML r n
end
def termOkM (x : S29) : Bool := goodM x 8 && decide (countM x ≤ 300)
theorem count_pos (x : S29) : 1 ≤ countM x := by
  cases x; rw [countM]; omega
theorem ba_app (a b : List UInt8) : ((⟨a.toArray⟩ : ByteArray) ++ (⟨b.toArray⟩ : ByteArray)) = ⟨(a ++ b).toArray⟩ := by
  apply ByteArray.ext
  simp [ByteArray.data_append]
theorem ba_size (a : List UInt8) : (⟨a.toArray⟩ : ByteArray).size = a.length := by simp [ByteArray.size]
theorem dig_num (u : Nat) (h : u < 10) : strOfNums [(48 + (u : Int)) % 256] = ⟨[UInt8.ofNat (48 + u)].toArray⟩ := by
  unfold strOfNums
  have e : ((48 + (u : Int)) % 256).toNat = 48 + u := by omega
  simp [e]
theorem spec_l2Int_pos (u : Nat) : (u : Int) ≤ 9000000000000000000 → Ev (fun k => spec_l2Int.f k (u : Int)) ⟨(Go.Lib.decDigits u).toArray⟩ := by
  induction u using Nat.strongRecOn with
  | _ u ih =>
  intro hu
  have h0 : ¬ ((u : Int) < 0) := by omega
  by_cases h : u < 10
  · have h10 : (u : Int) < 10 := by omega
    refine Ev.step (f := fun _ => some (⟨(Go.Lib.decDigits u).toArray⟩ : ByteArray)) (fun k => ?_) (Ev.now _)
    simp only [spec_l2Int.f]
    rw [if_neg h0, if_pos h10, w64 _ (by omega) (by omega), dig_num u h, Go.Lib.decDigits_one h]
  · have h10 : ¬ (u : Int) < 10 := by omega
    have hd : Int.tdiv (u : Int) 10 = ((u / 10 : Nat) : Int) := by
      rw [Int.tdiv_eq_ediv_of_nonneg (by omega)]; omega
    have hm : Int.tmod (u : Int) 10 = ((u % 10 : Nat) : Int) := by
      rw [Int.tmod_eq_emod_of_nonneg (by omega)]; omega
    have e1 := ih (u / 10) (by omega) (by omega)
    have hl : (Go.Lib.decDigits (u / 10)).length ≤ 9223372036854775000 := by
      have : ∀ v : Nat, (Go.Lib.decDigits v).length ≤ v + 1 := by
        intro v
        induction v using Nat.strongRecOn with
        | _ v ihv =>
          by_cases hv : v < 10
          · rw [Go.Lib.decDigits_one hv]; simp
          · rw [Go.Lib.decDigits, dif_neg hv]
            have := ihv (v / 10) (by omega)
            simp only [List.length_append, List.length_singleton]
            omega
      have := this (u / 10)
      omega
    refine Ev.step (f := fun k => (spec_l2Int.f k ((u / 10 : Nat) : Int)).bind fun t => some (t ++ (⟨[UInt8.ofNat (48 + u % 10)].toArray⟩ : ByteArray))) (fun k => ?_) (Ev.bind e1 (ev_cast ?_ (Ev.now _)))
    · simp only [spec_l2Int.f]
      rw [if_neg h0, if_neg h10, hd, hm, w64 _ (by omega) (by omega), w64 _ (by omega) (by omega)]
      simp only [Option.bind_some]
      rw [dig_num (u % 10) (by omega)]
      cases hk : spec_l2Int.f k ((u / 10 : Nat) : Int) with
      | none => rfl
      | some t =>
        simp only [Option.bind_some]
        have ht : t = ⟨(Go.Lib.decDigits (u / 10)).toArray⟩ := ev_uniq (Ev.of (g := fun k => spec_l2Int.f k ((u / 10 : Nat) : Int)) (fun k => spec_l2Int.mono _ k) hk) e1
        rw [if_pos]
        rw [ht, ba_size, ba_size]
        simp
        omega
    · rw [ba_app]
      conv => rhs; rw [Go.Lib.decDigits, dif_neg h]
theorem spec_l2Int_ev (n : Int) (h0 : -9000000000000000000 ≤ n) (h1 : n ≤ 9000000000000000000) : Ev (fun k => spec_l2Int.f k n) ⟨(Go.Lib.itoa n).toArray⟩ := by
  by_cases h : n < 0
  · obtain ⟨u, rfl⟩ : ∃ u : Nat, n = -(u : Int) := ⟨n.natAbs, by omega⟩
    have e1 := spec_l2Int_pos u (by omega)
    have hl : (Go.Lib.decDigits u).length ≤ 9223372036854775000 := by
      have : ∀ v : Nat, (Go.Lib.decDigits v).length ≤ v + 1 := by
        intro v
        induction v using Nat.strongRecOn with
        | _ v ihv =>
          by_cases hv : v < 10
          · rw [Go.Lib.decDigits_one hv]; simp
          · rw [Go.Lib.decDigits, dif_neg hv]
            have := ihv (v / 10) (by omega)
            simp only [List.length_append, List.length_singleton]
            omega
      have := this u
      omega
    refine Ev.step (f := fun k => (spec_l2Int.f k (u : Int)).bind fun t => some ((⟨#[45]⟩ : ByteArray) ++ t)) (fun k => ?_) (Ev.bind e1 (ev_cast ?_ (Ev.now _)))
    · simp only [spec_l2Int.f]
      rw [if_pos h, w64 _ (by omega) (by omega), Int.neg_neg]
      cases hk : spec_l2Int.f k (u : Int) with
      | none => rfl
      | some t =>
        simp only [Option.bind_some]
        have ht : t = ⟨(Go.Lib.decDigits u).toArray⟩ := ev_uniq (Ev.of (g := fun k => spec_l2Int.f k (u : Int)) (fun k => spec_l2Int.mono _ k) hk) e1
        rw [if_pos]
        rw [ht, ba_size]
        omega
    · have e2 : (⟨#[45]⟩ : ByteArray) = ⟨[45].toArray⟩ := rfl
      rw [e2, ba_app, Go.Lib.itoa_neg u (by omega)]
      rfl
  · obtain ⟨u, rfl⟩ : ∃ u : Nat, n = (u : Int) := ⟨n.toNat, by omega⟩
    rw [Go.Lib.itoa_nonneg]
    exact spec_l2Int_pos u h1
theorem strconv_Itoa_eq (n : Int) (h0 : -9223372036854775808 ≤ n) (h1 : n ≤ 9223372036854775807) : strconv_Itoa.f n = some ⟨(Go.Lib.itoa n).toArray⟩ := by
  unfold strconv_Itoa.f
  rw [if_pos ⟨h0, h1⟩]
theorem size_len2 (s : ByteArray) : s.size = s.data.toList.length := by
  rw [Array.length_toList]; rfl
theorem decDigits_le : ∀ (m u : Nat), u < 10 ^ (m + 1) → (Go.Lib.decDigits u).length ≤ m + 1
  | 0, u, h => by rw [Go.Lib.decDigits_one (by omega)]; simp
  | m + 1, u, h => by
    by_cases hu : u < 10
    · rw [Go.Lib.decDigits_one hu]; simp
    · rw [Go.Lib.decDigits, dif_neg hu, List.length_append, List.length_singleton]
      have := decDigits_le m (u / 10) (by rw [Nat.pow_succ] at h; omega)
      omega
theorem itoa_le (n : Int) (h0 : -9223372036854775808 ≤ n) (h1 : n ≤ 9223372036854775807) : (Go.Lib.itoa n).length ≤ 20 := by
  unfold Go.Lib.itoa
  by_cases h : n < 0
  · rw [if_pos h]
    have := decDigits_le 18 n.natAbs (by omega)
    simp only [List.length_cons]; omega
  · rw [if_neg h]
    have := decDigits_le 18 n.toNat (by omega)
    omega
theorem ba_eta (s : ByteArray) : (⟨s.data.toList.toArray⟩ : ByteArray) = s := by
  cases s; simp
theorem ba_cat (a b : ByteArray) : (a ++ b).data.toList = a.data.toList ++ b.data.toList := by simp [ByteArray.data_append]
theorem ba_mk {a : ByteArray} {l : List UInt8} (h : a.data.toList = l) : a = ⟨l.toArray⟩ := by rw [← h, ba_eta]
theorem getDG {α : Type} (z : α) (l : List α) (i : Nat) (h : i < l.length) : l.getD ((i : Int)).toNat z = l[i] := by
  simp [List.getD_eq_getElem?_getD, List.getElem?_eq_getElem h]
theorem map_loop {α β : Type} (L : Nat → List β → Int → Option (List β)) (f : α → β) (l : List α)
    (hstep : ∀ (i : Nat) (h : i < l.length) (x : List β) (r : List β), x.length = l.length → Ev (fun k => L k (x.set i (f l[i])) ((i + 1 : Nat) : Int)) r → Ev (fun k => L k x (i : Int)) r)
    (hend : ∀ x : List β, x.length = l.length → Ev (fun k => L k x (l.length : Int)) x) (d : Nat) :
    ∀ (i : Nat) (x : List β), i + d = l.length → x.length = l.length → x.take i = (l.map f).take i → Ev (fun k => L k x (i : Int)) (l.map f) := by
  induction d with
  | zero =>
    intro i x hi hx ht
    have e : i = l.length := by omega
    subst e
    refine ev_cast ?_ (hend x hx)
    rwa [List.take_of_length_le (by omega), List.take_of_length_le (by rw [List.length_map]; omega)] at ht
  | succ d ih =>
    intro i x hi hx ht
    have hlt : i < l.length := by omega
    refine hstep i hlt x _ hx (ih (i + 1) _ (by omega) (by simpa using hx) ?_)
    rw [List.take_succ_eq_append_getElem (by simpa using (by omega : i < x.length)), List.take_set_of_le (Nat.le_refl i), ht, List.take_succ_eq_append_getElem (by simpa using hlt)]
    simp
theorem map_loop0 {α β : Type} (L : Nat → List β → Int → Option (List β)) (f : α → β) (l : List α) (z : β)
    (hstep : ∀ (i : Nat) (h : i < l.length) (x : List β) (r : List β), x.length = l.length → Ev (fun k => L k (x.set i (f l[i])) ((i + 1 : Nat) : Int)) r → Ev (fun k => L k x (i : Int)) r)
    (hend : ∀ x : List β, x.length = l.length → Ev (fun k => L k x (l.length : Int)) x) : Ev (fun k => L k (List.replicate l.length z) 0) (l.map f) :=
  map_loop L f l hstep hend l.length 0 (List.replicate l.length z) (by omega) (by simp) (by simp)
def sumB {α : Type} (bud : α → Nat) : List α → Nat
  | [] => 0
  | x :: r => bud x + sumB bud r
theorem sumB_drop {α : Type} (bud : α → Nat) (l : List α) (i : Nat) (h : i < l.length) : sumB bud (l.drop i) = bud l[i] + sumB bud (l.drop (i + 1)) := by
  rw [List.drop_eq_getElem_cons h, sumB]
theorem sumB_mem {α : Type} (bud : α → Nat) : ∀ (l : List α) (x : α), x ∈ l → bud x ≤ sumB bud l
  | [], x, h => by cases h
  | y :: r, x, h => by
    rw [sumB]
    rcases List.mem_cons.1 h with rfl | h
    · omega
    · have := sumB_mem bud r x h; omega
theorem sz_loopG {α : Type} (L : Nat → Int → Int → Option Int) (bud : α → Nat) (l : List α)
    (hstep : ∀ (i : Nat) (h : i < l.length) (left r : Int), 0 ≤ left → left ≤ 1048576 → ((bud l[i] : Int) ≤ left → Ev (fun k => L k (left - bud l[i]) ((i + 1 : Nat) : Int)) r) → (¬ (bud l[i] : Int) ≤ left → r = -1) → Ev (fun k => L k left (i : Int)) r)
    (hend : ∀ left : Int, Ev (fun k => L k left (l.length : Int)) left) (d : Nat) :
    ∀ (i : Nat) (left : Int), i + d = l.length → 0 ≤ left → left ≤ 1048576 → Ev (fun k => L k left (i : Int)) (szRes left (sumB bud (l.drop i))) := by
  induction d with
  | zero =>
    intro i left hi h0 h1
    have e : i = l.length := by omega
    subst e
    refine ev_cast ?_ (hend left)
    rw [List.drop_eq_nil_of_le (by omega), sumB]; unfold szRes; rw [if_pos (by omega)]; omega
  | succ d ih =>
    intro i left hi h0 h1
    have hlt : i < l.length := by omega
    rw [sumB_drop bud l i hlt]
    refine hstep i hlt left _ h0 h1 (fun hb => ?_) (fun hb => ?_)
    · refine ev_cast ?_ (ih (i + 1) (left - bud l[i]) (by omega) (by omega) (by omega))
      unfold szRes
      by_cases hc : (sumB bud (l.drop (i + 1)) : Int) ≤ left - bud l[i]
      · rw [if_pos hc, if_pos (by omega)]; omega
      · rw [if_neg hc, if_neg (by omega)]
    · unfold szRes; rw [if_neg (by omega)]
def allFrom (p : Nat → Bool) (i d : Nat) : Bool := (List.range' i d).all p
theorem all_loop (L : Nat → Int → Option Bool) (p : Nat → Bool) (n : Nat)
    (hstep : ∀ (i : Nat), i < n → ∀ r, (p i = true → Ev (fun k => L k ((i + 1 : Nat) : Int)) r) → (p i = false → r = false) → Ev (fun k => L k (i : Int)) r)
    (hend : Ev (fun k => L k (n : Int)) true) (d : Nat) : ∀ i : Nat, i + d = n → Ev (fun k => L k (i : Int)) (allFrom p i d) := by
  induction d with
  | zero =>
    intro i hi
    have e : i = n := by omega
    subst e
    exact hend
  | succ d ih =>
    intro i hi
    refine hstep i (by omega) _ (fun hp => ?_) (fun hp => ?_)
    · refine ev_cast ?_ (ih (i + 1) (by omega))
      unfold allFrom
      rw [List.range'_succ, List.all_cons, hp, Bool.true_and]
    · unfold allFrom
      rw [List.range'_succ, List.all_cons, hp, Bool.false_and]
theorem joinTail_len (sep : List UInt8) : ∀ r : List (List UInt8), (Go.Lib.joinTail sep r).length = sumB (fun x => sep.length + x.length) r
  | [] => by simp [Go.Lib.joinTail, sumB]
  | x :: r => by
    have := joinTail_len sep r
    unfold Go.Lib.joinTail at this ⊢
    rw [List.map_cons, List.flatten_cons, List.length_append, this, sumB, List.length_append]
theorem join_cons (sep x : List UInt8) (r : List (List UInt8)) : Go.Lib.join (x :: r) sep = x ++ Go.Lib.joinTail sep r := Go.Lib.join_cons x r sep
theorem sumB_map {α β : Type} (f : β → Nat) (g : α → β) : ∀ l : List α, sumB f (l.map g) = sumB (fun x => f (g x)) l
  | [] => rfl
  | x :: r => by rw [List.map_cons, sumB, sumB, sumB_map f g r]
theorem sumB_le {α : Type} (f g : α → Nat) (c : Nat) : ∀ l : List α, (∀ x ∈ l, f x ≤ g x + c) → sumB f l ≤ sumB g l + c * l.length
  | [], _ => by simp [sumB]
  | x :: r, h => by
    have h1 := h x (List.mem_cons_self)
    have h2 := sumB_le f g c r (fun y hy => h y (List.mem_cons_of_mem _ hy))
    rw [sumB, sumB, List.length_cons, Nat.mul_add]
    omega
theorem join_len (sep : List UInt8) (l : List (List UInt8)) : (Go.Lib.join l sep).length ≤ sumB List.length l + sep.length * l.length := by
  cases l with
  | nil => simp [Go.Lib.join_nil, sumB]
  | cons x r =>
    rw [join_cons, List.length_append, joinTail_len, sumB, List.length_cons, Nat.mul_add]
    have := sumB_le (fun x => sep.length + x.length) List.length sep.length r (fun y _ => by omega)
    omega
theorem rdIx (l : List S29) (i : Nat) (h : i < l.length) : rd_T29 l (i : Int) = l[i] := getDG _ l i h
mutual
def txM : S29 → List UInt8
  | ⟨a, b, s, l⟩ => if a = 1 then Go.Lib.itoa b else if a = 2 then s.data.toList else if a = 3 then 60 :: (Go.Lib.itoa b ++ [62]) else (if a = 4 then 123 else 91) :: (Go.Lib.join (txL l) [44] ++ [if a = 4 then 125 else 93])
def txL : List S29 → List (List UInt8)
  | [] => []
  | x :: r => txM x :: txL r
end
theorem txL_map : ∀ l, txL l = l.map txM
  | [] => rfl
  | x :: r => by rw [txL, List.map_cons, txL_map r]
theorem goodM_mk {a b : Int} {s : ByteArray} {l : List S29} {n : Nat} (h : goodM ⟨a, b, s, l⟩ n = true) : ∃ m, n = m + 1 ∧ shapeM a b s l = true ∧ goodML l m = true := by
  cases n with
  | zero => rw [goodM] at h; cases h
  | succ m =>
    rw [goodM, Bool.and_eq_true] at h
    exact ⟨m, rfl, h.1, h.2⟩
theorem goodML_mem : ∀ (l : List S29) (n : Nat), goodML l n = true → ∀ y ∈ l, goodM y n = true
  | [], _, _, y, hy => by cases hy
  | x :: r, n, h, y, hy => by
    rw [goodML, Bool.and_eq_true] at h
    rcases List.mem_cons.1 hy with rfl | hy
    · exact h.1
    · exact goodML_mem r n h.2 y hy
theorem shape_num {a b : Int} {s : ByteArray} {l : List S29} (h : shapeM a b s l = true) (ha : a = 1 ∨ a = 3) : -1000000000000 ≤ b ∧ b ≤ 1000000000000 := by
  unfold shapeM at h
  rcases ha with rfl | rfl
  · rw [if_pos rfl] at h
    simp only [Bool.and_eq_true, decide_eq_true_eq] at h
    exact h.1
  · rw [if_neg (by decide), if_neg (by decide), if_pos rfl] at h
    simp only [Bool.and_eq_true, decide_eq_true_eq] at h
    omega
theorem tx_lenL : ∀ (l : List S29), (∀ y ∈ l, (txM y).length ≤ 25 * budI y + 24) → sumB List.length (txL l) + l.length ≤ 25 * budIL l
  | [], _ => by rw [txL, sumB, budIL]; simp
  | x :: r, h => by
    have h1 := h x List.mem_cons_self
    have h2 := tx_lenL r (fun y hy => h y (List.mem_cons_of_mem _ hy))
    rw [txL, sumB, budIL, List.length_cons]
    omega
theorem txL_len (l : List S29) : (txL l).length = l.length := by rw [txL_map, List.length_map]
theorem txM_len : ∀ x, ∀ n, goodM x n = true → (txM x).length ≤ 25 * budI x + 24 := by
  refine indI (fun a b s l ih n hg => ?_)
  obtain ⟨m, rfl, hs, hl⟩ := goodM_mk hg
  rw [txM, budI_mk]
  by_cases h1 : a = 1
  · rw [if_pos h1]
    have := shape_num hs (.inl h1)
    have := itoa_le b (by omega) (by omega)
    omega
  rw [if_neg h1]
  by_cases h2 : a = 2
  · rw [if_pos h2, ← size_len2]; omega
  rw [if_neg h2]
  by_cases h3 : a = 3
  · rw [if_pos h3]
    have := shape_num hs (.inr h3)
    have := itoa_le b (by omega) (by omega)
    simp only [List.length_cons, List.length_append, List.length_nil]
    omega
  rw [if_neg h3]
  have h4 := tx_lenL l (fun y hy => ih y hy m (goodML_mem l m hl y hy))
  have h5 := join_len [44] (txL l)
  rw [txL_len] at h5
  simp only [List.length_cons, List.length_append, List.length_nil] at h5 ⊢
  omega
def finT (a : Int) (t : List UInt8) : ByteArray := ⟨((if a = 4 then 123 else 91) :: (t ++ [if a = 4 then 125 else 93])).toArray⟩
theorem fin_eq (a : Int) (t : ByteArray) (ht : t.size ≤ 1000000000) : (if a = 4 then (if 1 + t.size ≤ 9223372036854775807 then (if ((⟨#[123]⟩ : ByteArray) ++ t).size + 1 ≤ 9223372036854775807 then (some (((⟨#[123]⟩ : ByteArray) ++ t) ++ (⟨#[125]⟩ : ByteArray))) else (none)) else (none)) else (if 1 + t.size ≤ 9223372036854775807 then (if ((⟨#[91]⟩ : ByteArray) ++ t).size + 1 ≤ 9223372036854775807 then (some (((⟨#[91]⟩ : ByteArray) ++ t) ++ (⟨#[93]⟩ : ByteArray))) else (none)) else (none))) = some (finT a t.data.toList) := by
  have q : ∀ c : UInt8, ((⟨#[c]⟩ : ByteArray) ++ t).size = 1 + t.size := fun c => by rw [ByteArray.size_append]; rfl
  unfold finT
  by_cases h : a = 4
  · rw [if_pos h, if_pos h, if_pos h, if_pos (by omega), if_pos (by rw [q]; omega)]
    exact congrArg some (ba_mk (by rw [ba_cat, ba_cat]; simp))
  · rw [if_neg h, if_neg h, if_neg h, if_pos (by omega), if_pos (by rw [q]; omega)]
    exact congrArg some (ba_mk (by rw [ba_cat, ba_cat]; simp))
theorem pid_eq (t : ByteArray) (ht : t.size ≤ 1000000000) : (if 1 + t.size ≤ 9223372036854775807 then (if ((⟨#[60]⟩ : ByteArray) ++ t).size + 1 ≤ 9223372036854775807 then (some (((⟨#[60]⟩ : ByteArray) ++ t) ++ (⟨#[62]⟩ : ByteArray))) else (none)) else (none)) = some (⟨(60 :: (t.data.toList ++ [62])).toArray⟩ : ByteArray) := by
  have q : ∀ c : UInt8, ((⟨#[c]⟩ : ByteArray) ++ t).size = 1 + t.size := fun c => by rw [ByteArray.size_append]; rfl
  rw [if_pos (by omega), if_pos (by rw [q]; omega)]
  exact congrArg some (ba_mk (by rw [ba_cat, ba_cat]; simp))
theorem c44 : (⟨#[44]⟩ : ByteArray).data.toList = [44] := rfl
theorem spec_l1In_eq (a b c : Int) : spec_l1In.f a b c = some (decide (b ≤ a) && decide (a ≤ c)) := by
  unfold spec_l1In.f
  by_cases h : b ≤ a <;> simp [h]
theorem spec_AtomOk_l (s : ByteArray) (hs : s.size ≤ 140737488351232) (d : Nat) : ∀ i : Nat, i + d = s.size → Ev (fun k => spec_AtomOk.l0 k s i) (atomFrom s i && (decide (1 ≤ (s.size : Int)) && decide ((s.size : Int) ≤ 20))) := by
  induction d with
  | zero =>
    intro i hi
    refine Ev.step (f := fun _ => some (decide (1 ≤ (s.size : Int)) && decide ((s.size : Int) ≤ 20))) (fun k => ?_) (ev_cast ?_ (Ev.now _))
    · simp only [spec_AtomOk.l0]
      rw [if_neg (by omega), spec_l1In_eq]; rfl
    · rw [atomFrom_end s i (by omega)]; rfl
  | succ d ih =>
    intro i hi
    have hlt : i < s.size := by omega
    have hn := ih (i + 1) (by omega)
    rw [atomFrom_step s i hlt]
    by_cases h1 : lowB (bt s i) = true
    · refine Ev.step (fun k => ?_) (ev_cast ?_ hn)
      · simp only [spec_AtomOk.l0]
        rw [if_pos (by omega), if_pos (by omega), wbt, spec_l1In_eq]
        simp only [Option.bind_some]
        unfold lowB at h1
        rw [if_pos h1, w64 _ (by omega) (by omega)]
        rfl
      · rw [h1]; rfl
    · have h1' : lowB (bt s i) = false := by simpa using h1
      by_cases h0 : i = 0
      · refine Ev.step (f := fun _ => some false) (fun k => ?_) (ev_cast ?_ (Ev.now _))
        · simp only [spec_AtomOk.l0]
          rw [if_pos (by omega), if_pos (by omega), wbt, spec_l1In_eq]
          simp only [Option.bind_some]
          unfold lowB at h1
          rw [if_neg h1, if_pos (by omega)]
        · rw [h1']; simp [h0]
      · by_cases h2 : digB (bt s i) = true
        · refine Ev.step (fun k => ?_) (ev_cast ?_ hn)
          · simp only [spec_AtomOk.l0]
            rw [if_pos (by omega), if_pos (by omega), wbt, spec_l1In_eq]
            simp only [Option.bind_some]
            unfold lowB at h1; unfold digB at h2
            rw [if_neg h1, if_neg (by omega), spec_l1In_eq]
            simp only [Option.bind_some]
            rw [if_pos h2, w64 _ (by omega) (by omega)]
            rfl
          · rw [h2]; simp [h0]
        · have h2' : digB (bt s i) = false := by simpa using h2
          by_cases h3 : bt s i = 95
          · refine Ev.step (fun k => ?_) (ev_cast ?_ hn)
            · simp only [spec_AtomOk.l0]
              rw [if_pos (by omega), if_pos (by omega), wbt, spec_l1In_eq]
              simp only [Option.bind_some]
              unfold lowB at h1; unfold digB at h2
              rw [if_neg h1, if_neg (by omega), spec_l1In_eq]
              simp only [Option.bind_some]
              rw [if_neg h2, if_pos h3, w64 _ (by omega) (by omega)]
              rfl
            · simp [h0, h3]
          · refine Ev.step (f := fun _ => some false) (fun k => ?_) (ev_cast ?_ (Ev.now _))
            · simp only [spec_AtomOk.l0]
              rw [if_pos (by omega), if_pos (by omega), wbt, spec_l1In_eq]
              simp only [Option.bind_some]
              unfold lowB at h1; unfold digB at h2
              rw [if_neg h1, if_neg (by omega), spec_l1In_eq]
              simp only [Option.bind_some]
              rw [if_neg h2, if_neg h3]
            · rw [h1', h2']; simp [h3]
theorem spec_AtomOk_ev (s : ByteArray) (hs : s.size ≤ 140737488351232) : Ev (fun k => spec_AtomOk.f k s) (atomOkM s) := spec_AtomOk_l s hs s.size 0 (by omega)
theorem spec_l2Shape_ev (a b : Int) (s : ByteArray) (l : List S29) (hs : s.size ≤ 140737488351232) : Ev (fun k => spec_l2Shape.f k a b s l) (shapeM a b s l) := by
  unfold spec_l2Shape.f shapeM noText
  by_cases h1 : a = 1
  · rw [if_pos h1]
    refine ev_pos h1 (ev_of ?_)
    rw [spec_l1In_eq]
    simp only [Option.bind_some]
    by_cases p : (decide (-1000000000000 ≤ b) && decide (b ≤ 1000000000000)) = true
    · by_cases q : s.toList = ([] : List UInt8)
      · rw [if_pos p, if_pos q, p, decide_eq_true q]; rfl
      · rw [if_pos p, if_neg q, p, decide_eq_false q]; rfl
    · rw [if_neg p, Bool.eq_false_iff.mpr p]; rfl
  rw [if_neg h1]
  refine ev_neg h1 ?_
  by_cases h2 : a = 2
  · rw [if_pos h2]
    refine ev_pos h2 (Ev.bind (spec_AtomOk_ev s hs) ?_)
    cases hA : atomOkM s with
    | true =>
      by_cases q : b = 0
      · exact ev_pos rfl (ev_pos q (ev_cast (by rw [decide_eq_true q]; rfl) (Ev.now _)))
      · exact ev_pos rfl (ev_neg q (ev_cast (by rw [decide_eq_false q]; rfl) (Ev.now _)))
    | false => exact ev_neg (by decide) (Ev.now _)
  rw [if_neg h2]
  refine ev_neg h2 (ev_of ?_)
  by_cases h3 : a = 3
  · rw [if_pos h3, if_pos h3, spec_l1In_eq]
    simp only [Option.bind_some]
    by_cases p : (decide (0 ≤ b) && decide (b ≤ 1000000)) = true
    · by_cases q : s.toList = ([] : List UInt8)
      · rw [if_pos p, if_pos q, p, decide_eq_true q]; rfl
      · rw [if_pos p, if_neg q, p, decide_eq_false q]; rfl
    · rw [if_neg p, Bool.eq_false_iff.mpr p]; rfl
  rw [if_neg h3, if_neg h3]
  by_cases h4 : a = 4
  · rw [if_pos h4, if_pos h4]
    by_cases p : b = 0
    · by_cases q : s.toList = ([] : List UInt8)
      · rw [if_pos p, if_pos q, decide_eq_true p, decide_eq_true q]; rfl
      · rw [if_pos p, if_neg q, decide_eq_true p, decide_eq_false q]; rfl
    · rw [if_neg p, decide_eq_false p]; rfl
  rw [if_neg h4, if_neg h4]
  by_cases h5 : a = 5
  · rw [if_pos h5, if_pos h5]
    by_cases p : b = 0
    · by_cases q : s.toList = ([] : List UInt8)
      · rw [if_pos p, if_pos q, decide_eq_true p, decide_eq_true q]; rfl
      · rw [if_pos p, if_neg q, decide_eq_true p, decide_eq_false q]; rfl
    · rw [if_neg p, decide_eq_false p]; rfl
  · rw [if_neg h5, if_neg h5]
def lookRes (left : Int) (g : Bool) (c : Nat) : Int := if g = true ∧ (c : Int) ≤ left then left - c else -1
theorem spec_l2Look_loop (a b : Int) (s : ByteArray) (l : List S29) (hl : (budIL l : Int) ≤ 4194304) (n : Nat) (hn : n ≤ 8)
    (h : ∀ y ∈ l, ∀ left : Int, -1 ≤ left → left ≤ 300 → Ev (fun k => spec_l2Look.f k y.f0 y.f1 y.f2 y.f3 n left) (lookRes left (goodM y n) (countM y))) (d : Nat) :
    ∀ (i : Nat) (left : Int), i + d = l.length → -1 ≤ left → left ≤ 300 → Ev (fun k => spec_l2Look.l0 k (n + 1 : Int) left i a b s l) (if left = -1 then -1 else lookRes left (goodML (l.drop i) n) (countML (l.drop i))) := by
  have hlen := budIL_len l
  induction d with
  | zero =>
    intro i left hi h0 h1
    refine Ev.step (f := fun _ => some left) (fun k => ?_) (ev_cast ?_ (Ev.now _))
    · simp only [spec_l2Look.l0]; rw [if_neg (by omega)]
    · rw [List.drop_eq_nil_of_le (by omega), goodML, countML]
      by_cases hm : left = -1
      · rw [if_pos hm]; exact hm
      · rw [if_neg hm]; unfold lookRes; rw [if_pos ⟨rfl, by omega⟩]; omega
  | succ d ih =>
    intro i left hi h0 h1
    have hlt : i < l.length := by omega
    by_cases hm : left = -1
    · refine Ev.step (f := fun _ => some left) (fun k => ?_) (ev_cast ?_ (Ev.now _))
      · simp only [spec_l2Look.l0]; rw [if_pos (by omega), if_neg (by omega)]
      · rw [if_pos hm]; exact hm
    rw [if_neg hm]
    have e := h _ (rdI_mem l i hlt) left h0 h1
    rw [dropI l i hlt, goodML, countML]
    generalize hy : rd_T29 l i = y at *
    refine Ev.step (f := fun k => (spec_l2Look.f k y.f0 y.f1 y.f2 y.f3 n left).bind fun t => (spec_l2Look.l0 k (n + 1 : Int) t (wrap64 ((i : Int) + 1)) a b s l)) (fun k => ?_) (Ev.bind e ?_)
    · simp only [spec_l2Look.l0]; rw [if_pos (by omega), if_pos (by omega), if_pos (by omega), hy, w64 ((n : Int) + 1 - 1) (by omega) (by omega), show (n : Int) + 1 - 1 = n from by omega]
    · rw [w64 _ (by omega) (by omega)]
      have hr : -1 ≤ lookRes left (goodM y n) (countM y) ∧ lookRes left (goodM y n) (countM y) ≤ 300 := by
        unfold lookRes; split <;> omega
      refine ev_cast ?_ (ih (i + 1) _ (by omega) hr.1 hr.2)
      have hc := count_pos y
      cases hg : goodM y n with
      | false =>
        have hv : lookRes left false (countM y) = -1 := by unfold lookRes; simp
        rw [hv, if_pos rfl]
        unfold lookRes; simp
      | true =>
        by_cases hq : (countM y : Int) ≤ left
        · have hv : lookRes left true (countM y) = left - countM y := by unfold lookRes; rw [if_pos ⟨rfl, hq⟩]
          rw [hv, if_neg (by omega), Bool.true_and]
          unfold lookRes
          cases hg2 : goodML (l.drop (i + 1)) n with
          | false => simp
          | true =>
            by_cases hq2 : (countML (l.drop (i + 1)) : Int) ≤ left - countM y
            · rw [if_pos ⟨rfl, hq2⟩, if_pos ⟨rfl, by omega⟩]; omega
            · rw [if_neg (by omega), if_neg (by omega)]
        · have hv : lookRes left true (countM y) = -1 := by unfold lookRes; rw [if_neg (by omega)]
          rw [hv, if_pos rfl]
          unfold lookRes
          rw [if_neg (by omega)]
theorem spec_l2Look_all : ∀ x, (budI x : Int) ≤ 4194304 → ∀ (n : Nat), n ≤ 8 → ∀ left : Int, -1 ≤ left → left ≤ 300 → Ev (fun k => spec_l2Look.f k x.f0 x.f1 x.f2 x.f3 n left) (lookRes left (goodM x n) (countM x)) := by
  refine indI ?_
  intro a b s l ih hb n hn left h0 h1
  rw [budI] at hb
  simp only []
  have no : Ev (fun k => spec_l2Look.j0 k (n : Int) left true a b s l) (-1) := Ev.step (f := fun _ => some (-1)) (fun k => by simp [spec_l2Look.j0]) (Ev.now _)
  cases n with
  | zero =>
    refine Ev.step (fun k => ?_) (ev_cast ?_ no)
    · simp only [spec_l2Look.f]; rw [if_pos (by omega)]
    · rw [goodM]; unfold lookRes; simp
  | succ n =>
    rw [goodM, countM]
    by_cases hl1 : left < 1
    · refine Ev.step (fun k => ?_) (ev_cast ?_ no)
      · simp only [spec_l2Look.f]; rw [if_neg (by omega), if_pos hl1]
      · unfold lookRes; rw [if_neg (by omega)]
    refine Ev.step (f := fun k => (spec_l2Shape.f k a b s l).bind fun t => (spec_l2Look.j0 k ((n + 1 : Nat) : Int) left (!t) a b s l)) (fun k => ?_) (Ev.bind (spec_l2Shape_ev a b s l (by omega)) ?_)
    · simp only [spec_l2Look.f]; rw [if_neg (by omega), if_neg hl1]
    cases hsh : shapeM a b s l with
    | false => exact ev_cast (by unfold lookRes; simp) no
    | true =>
      have e := spec_l2Look_loop a b s l (by omega) n (by omega) (fun y hy left h0 h1 => ih y hy (by have := budI_mem l y hy; omega) n (by omega) left h0 h1) l.length 0 (left - 1) (by omega) (by omega) (by omega)
      refine Ev.step (fun k => ?_) (ev_cast ?_ e)
      · simp only [spec_l2Look.j0]; rw [if_neg (by decide), w64 _ (by omega) (by omega)]; rfl
      · rw [if_neg (by omega), List.drop_zero, Bool.true_and]
        unfold lookRes
        cases goodML l n with
        | false => simp
        | true =>
          by_cases hq : (countML l : Int) ≤ left - 1
          · rw [if_pos ⟨rfl, hq⟩, if_pos ⟨rfl, by omega⟩]; omega
          · rw [if_neg (by omega), if_neg (by omega)]
theorem spec_TermOk_ev (x : S29) (hb : (budI x : Int) ≤ 4194304) : Ev (fun k => spec_TermOk.f k x.f0 x.f1 x.f2 x.f3) (termOkM x) := by
  unfold spec_TermOk.f
  refine Ev.bind (spec_l2Look_all x hb 8 (by omega) 300 (by omega) (by omega)) (ev_cast ?_ (Ev.now _))
  unfold termOkM lookRes
  cases goodM x 8 with
  | false => simp
  | true =>
    by_cases hq : countM x ≤ 300
    · rw [if_pos ⟨rfl, by omega⟩, decide_eq_true hq]; simp; omega
    · rw [if_neg (by omega), decide_eq_false hq]; rfl
theorem spec_text_loop (a b : Int) (s : ByteArray) (l : List S29) (hl : (l.length : Int) ≤ 4194304) (h : ∀ y ∈ l, Ev (fun k => spec_l2Text.f k y.f0 y.f1 y.f2 y.f3) ⟨(txM y).toArray⟩) (d : Nat) : ∀ (i : Nat) (acc : ByteArray), 0 < i → i + d = l.length → acc.size + sumB (fun x => 1 + (txM x).length) (l.drop i) ≤ 1000000000 →
    Ev (fun k => spec_l2Text.l0 k acc i a b s l) (finT a (acc.data.toList ++ Go.Lib.joinTail [44] (txL (l.drop i)))) := by
  induction d with
  | zero =>
    intro i acc hi0 hi hs
    rw [List.drop_eq_nil_of_le (by omega), sumB] at hs
    refine Ev.step (f := fun _ => some (finT a acc.data.toList)) (fun k => ?_) (ev_cast ?_ (Ev.now _))
    · simp only [spec_l2Text.l0]; rw [if_neg (by omega), fin_eq a acc (by omega)]
    · rw [List.drop_eq_nil_of_le (by omega), txL]
      simp [Go.Lib.joinTail]
  | succ d ih =>
    intro i acc hi0 hi hs
    have hlt : i < l.length := by omega
    rw [sumB_drop _ l i hlt] at hs
    have h1 : (acc ++ (⟨#[44]⟩ : ByteArray)).size = acc.size + 1 := by rw [ByteArray.size_append]; rfl
    refine Ev.step (f := fun k => (spec_l2Text.f k l[i].f0 l[i].f1 l[i].f2 l[i].f3).bind fun t133 => (if (acc ++ (⟨#[44]⟩ : ByteArray)).size + t133.size ≤ 9223372036854775807 then (spec_l2Text.l0 k ((acc ++ (⟨#[44]⟩ : ByteArray)) ++ t133) (wrap64 ((i : Int) + 1)) a b s l) else (none))) (fun k => ?_) (Ev.bind (h l[i] (List.getElem_mem hlt)) (ev_pos (by rw [h1, ba_size (txM l[i])]; omega) ?_))
    · simp only [spec_l2Text.l0]
      rw [if_pos (by omega), if_pos (by omega), if_pos (by omega), if_pos (by omega), rdIx l i hlt]
    · rw [w64 _ (by omega) (by omega)]
      refine ev_cast ?_ (ih (i + 1) ((acc ++ (⟨#[44]⟩ : ByteArray)) ++ ⟨(txM l[i]).toArray⟩) (by omega) (by omega) (by rw [ByteArray.size_append, h1, ba_size (txM l[i])]; omega))
      congr 1
      rw [List.drop_eq_getElem_cons hlt, txL]
      simp only [Go.Lib.joinTail, List.map_cons, List.flatten_cons]
      rw [ba_cat, ba_cat, c44]
      simp
theorem tx_sum (l : List S29) (n : Nat) (hg : goodML l n = true) (hb : (budIL l : Int) ≤ 4194304) : sumB (fun x => 1 + (txM x).length) l ≤ 500000000 := by
  have h : ∀ (l : List S29), (∀ y ∈ l, (txM y).length ≤ 25 * budI y + 24) → sumB (fun x => 1 + (txM x).length) l ≤ 25 * budIL l := by
    intro l
    induction l with
    | nil => intro _; rw [sumB, budIL]; omega
    | cons x r ih =>
      intro h
      have h1 := h x List.mem_cons_self
      have h2 := ih (fun y hy => h y (List.mem_cons_of_mem _ hy))
      rw [sumB, budIL]
      omega
  have := h l (fun y hy => txM_len y n (goodML_mem l n hg y hy))
  omega
theorem spec_l2Text_all : ∀ x, (budI x : Int) ≤ 4194304 → ∀ n, goodM x n = true → Ev (fun k => spec_l2Text.f k x.f0 x.f1 x.f2 x.f3) ⟨(txM x).toArray⟩ := by
  refine indI (fun a b s l ih hb n hg => ?_)
  obtain ⟨m, rfl, hs, hl⟩ := goodM_mk hg
  rw [budI_mk] at hb
  have hll := budIL_len l
  show Ev (fun k => spec_l2Text.f k a b s l) _
  rw [txM]
  by_cases h1 : a = 1
  · rw [if_pos h1]
    have := shape_num hs (.inl h1)
    refine Ev.step (f := fun k => (spec_l2Int.f k b).bind fun t127 => (some t127)) (fun k => ?_) (Ev.bind (spec_l2Int_ev b (by omega) (by omega)) (Ev.now _))
    simp only [spec_l2Text.f]; rw [if_pos h1]
  rw [if_neg h1]
  by_cases h2 : a = 2
  · rw [if_pos h2, ba_eta]
    refine Ev.step (f := fun k => some s) (fun k => ?_) (Ev.now _)
    simp only [spec_l2Text.f]; rw [if_neg h1, if_pos h2]
  rw [if_neg h2]
  by_cases h3 : a = 3
  · rw [if_pos h3]
    have := shape_num hs (.inr h3)
    have hz := itoa_le b (by omega) (by omega)
    refine Ev.step (f := fun k => (spec_l2Int.f k b).bind fun t128 => (if 1 + t128.size ≤ 9223372036854775807 then (if ((⟨#[60]⟩ : ByteArray) ++ t128).size + 1 ≤ 9223372036854775807 then (some (((⟨#[60]⟩ : ByteArray) ++ t128) ++ (⟨#[62]⟩ : ByteArray))) else (none)) else (none))) (fun k => ?_) (Ev.bind (spec_l2Int_ev b (by omega) (by omega)) (ev_of ?_))
    · simp only [spec_l2Text.f]; rw [if_neg h1, if_neg h2, if_pos h3]
    · rw [pid_eq _ (by rw [ba_size]; omega)]
  rw [if_neg h3]
  have hs2 := tx_sum l m hl (by omega)
  refine Ev.step (f := fun k => spec_l2Text.l0 k (⟨#[]⟩ : ByteArray) 0 a b s l) (fun k => ?_) ?_
  · simp only [spec_l2Text.f]; rw [if_neg h1, if_neg h2, if_neg h3]
  show Ev _ (finT a (Go.Lib.join (txL l) [44]))
  have hall : ∀ y ∈ l, Ev (fun k => spec_l2Text.f k y.f0 y.f1 y.f2 y.f3) ⟨(txM y).toArray⟩ := fun y hy => ih y hy (by have := budI_mem l y hy; omega) m (goodML_mem l m hl y hy)
  cases l with
  | nil =>
    refine Ev.step (f := fun _ => some (finT a [])) (fun k => ?_) (Ev.now _)
    simp only [spec_l2Text.l0]; rw [if_neg (by simp), fin_eq a (⟨#[]⟩ : ByteArray) (Nat.zero_le _)]
  | cons x r =>
    rw [sumB] at hs2
    have e0 : (⟨#[]⟩ : ByteArray).size = 0 := rfl
    refine Ev.step (f := fun k => (spec_l2Text.f k x.f0 x.f1 x.f2 x.f3).bind fun t135 => (if (⟨#[]⟩ : ByteArray).size + t135.size ≤ 9223372036854775807 then (spec_l2Text.l0 k ((⟨#[]⟩ : ByteArray) ++ t135) (wrap64 (0 + 1)) a b s (x :: r)) else (none))) (fun k => ?_) (Ev.bind (hall x List.mem_cons_self) (ev_pos (by rw [e0, ba_size]; omega) ?_))
    · simp only [spec_l2Text.l0]
      rw [if_pos (by simp only [List.length_cons]; omega), if_neg (by omega), if_pos (by omega)]
      rfl
    · rw [w64 _ (by omega) (by omega)]
      have q := spec_text_loop a b s (x :: r) (by omega) hall r.length 1 ((⟨#[]⟩ : ByteArray) ++ ⟨(txM x).toArray⟩) (by omega) (by rw [List.length_cons]; omega) (by rw [ByteArray.size_append, e0, ba_size]; show _ + sumB _ r ≤ _; omega)
      refine ev_cast ?_ q
      rw [txL, join_cons, ba_cat]
      rfl
def ttM (x : S29) : ByteArray := if termOkM x = true then ⟨(txM x).toArray⟩ else ⟨#[]⟩
theorem ttM_yes {x : S29} (h : termOkM x = true) : ⟨(txM x).toArray⟩ = ttM x := by unfold ttM; rw [if_pos h]
theorem ttM_no {x : S29} (h : ¬ termOkM x = true) : ⟨#[]⟩ = ttM x := by unfold ttM; rw [if_neg h]
theorem termOk_good {x : S29} (h : termOkM x = true) : goodM x 8 = true := by
  unfold termOkM at h
  rw [Bool.and_eq_true] at h
  exact h.1
theorem spec_TermText_ev (x : S29) (hb : (budI x : Int) ≤ 4194304) : Ev (fun k => spec_TermText.f k x.f0 x.f1 x.f2 x.f3) (ttM x) := by
  unfold spec_TermText.f
  refine Ev.bind (spec_TermOk_ev x hb) ?_
  by_cases h : termOkM x = true
  · exact ev_pos h (ev_cast (ttM_yes h) (Ev.bind (spec_l2Text_all x hb 8 (termOk_good h)) (Ev.now _)))
  · exact ev_cast (ttM_no h) (ev_neg h (Ev.now _))
theorem impl_inRange_eq (a b c : Int) : impl_inRange.f a b c = some (decide (b ≤ a) && decide (a ≤ c)) := by
  unfold impl_inRange.f
  by_cases h : b ≤ a <;> simp [h]
theorem impl_isSmall_eq (c : Int) : impl_isSmall.f c = some (lowB c) := by
  unfold impl_isSmall.f lowB
  by_cases h : 97 ≤ c <;> simp [h]
theorem impl_isFigure_eq (c : Int) : impl_isFigure.f c = some (digB c) := by
  unfold impl_isFigure.f digB
  by_cases h : 48 ≤ c <;> simp [h]
theorem impl_AtomOk_l (s : ByteArray) (hs : s.size ≤ 140737488351232) (d : Nat) : ∀ i : Nat, i + d = s.size → Ev (fun k => impl_AtomOk.l0 k s i) (atomFrom s i && (decide (1 ≤ (s.size : Int)) && decide ((s.size : Int) ≤ 20))) := by
  induction d with
  | zero =>
    intro i hi
    refine Ev.step (f := fun _ => some (decide (1 ≤ (s.size : Int)) && decide ((s.size : Int) ≤ 20))) (fun k => ?_) (ev_cast ?_ (Ev.now _))
    · simp only [impl_AtomOk.l0]
      rw [if_neg (by omega), impl_inRange_eq]; rfl
    · rw [atomFrom_end s i (by omega)]; rfl
  | succ d ih =>
    intro i hi
    have hlt : i < s.size := by omega
    have hn := ih (i + 1) (by omega)
    rw [atomFrom_step s i hlt]
    by_cases h1 : lowB (bt s i) = true
    · refine Ev.step (fun k => ?_) (ev_cast ?_ hn)
      · simp only [impl_AtomOk.l0]
        rw [if_pos (by omega), if_pos (by omega), impl_isSmall_eq]
        simp only [Option.bind_some]
        rw [if_pos h1, w64 _ (by omega) (by omega)]
        rfl
      · rw [h1]; rfl
    · have h1' : lowB (bt s i) = false := by simpa using h1
      by_cases h0 : i = 0
      · refine Ev.step (f := fun _ => some false) (fun k => ?_) (ev_cast ?_ (Ev.now _))
        · simp only [impl_AtomOk.l0]
          rw [if_pos (by omega), if_pos (by omega), impl_isSmall_eq]
          simp only [Option.bind_some]
          rw [if_neg h1, if_pos (by omega)]
        · rw [h1']; simp [h0]
      · by_cases h2 : digB (bt s i) = true
        · refine Ev.step (fun k => ?_) (ev_cast ?_ hn)
          · simp only [impl_AtomOk.l0]
            rw [if_pos (by omega), if_pos (by omega), impl_isSmall_eq]
            simp only [Option.bind_some]
            rw [if_neg h1, if_neg (by omega), impl_isFigure_eq]
            simp only [Option.bind_some]
            rw [if_pos h2, w64 _ (by omega) (by omega)]
            rfl
          · rw [h2]; simp [h0]
        · have h2' : digB (bt s i) = false := by simpa using h2
          by_cases h3 : bt s i = 95
          · refine Ev.step (fun k => ?_) (ev_cast ?_ hn)
            · simp only [impl_AtomOk.l0]
              rw [if_pos (by omega), if_pos (by omega), impl_isSmall_eq]
              simp only [Option.bind_some]
              rw [if_neg h1, if_neg (by omega), impl_isFigure_eq]
              simp only [Option.bind_some]
              rw [if_neg h2, if_pos h3, w64 _ (by omega) (by omega)]
              rfl
            · simp [h0, h3]
          · refine Ev.step (f := fun _ => some false) (fun k => ?_) (ev_cast ?_ (Ev.now _))
            · simp only [impl_AtomOk.l0]
              rw [if_pos (by omega), if_pos (by omega), impl_isSmall_eq]
              simp only [Option.bind_some]
              rw [if_neg h1, if_neg (by omega), impl_isFigure_eq]
              simp only [Option.bind_some]
              rw [if_neg h2, if_neg h3]
            · rw [h1', h2']; simp [h3]
theorem impl_AtomOk_ev (s : ByteArray) (hs : s.size ≤ 140737488351232) : Ev (fun k => impl_AtomOk.f k s) (atomOkM s) := impl_AtomOk_l s hs s.size 0 (by omega)
theorem impl_plainOk_ev (a b : Int) (s : ByteArray) (l : List S29) (hs : s.size ≤ 140737488351232) : Ev (fun k => impl_Term_plainOk.f k a b s l) (shapeM a b s l) := by
  unfold impl_Term_plainOk.f shapeM noText
  by_cases h1 : a = 1
  · rw [if_pos h1]
    refine ev_pos h1 (ev_of ?_)
    rw [impl_inRange_eq]
    simp only [Option.bind_some]
    by_cases p : (decide (-1000000000000 ≤ b) && decide (b ≤ 1000000000000)) = true
    · by_cases q : s.toList = ([] : List UInt8)
      · rw [if_pos p, if_pos q, p, decide_eq_true q]; rfl
      · rw [if_pos p, if_neg q, p, decide_eq_false q]; rfl
    · rw [if_neg p, Bool.eq_false_iff.mpr p]; rfl
  rw [if_neg h1]
  refine ev_neg h1 ?_
  by_cases h2 : a = 2
  · rw [if_pos h2]
    refine ev_pos h2 ?_
    by_cases q : b = 0
    · refine ev_pos q (Ev.bind (impl_AtomOk_ev s hs) ?_)
      cases hA : atomOkM s with
      | true => exact ev_pos rfl (ev_cast (by rw [decide_eq_true q]; rfl) (Ev.now _))
      | false => exact ev_neg (by decide) (Ev.now _)
    · exact ev_neg q (ev_cast (by rw [decide_eq_false q]; simp) (Ev.now _))
  rw [if_neg h2]
  refine ev_neg h2 (ev_of ?_)
  by_cases h3 : a = 3
  · rw [if_pos h3, if_pos h3, impl_inRange_eq]
    simp only [Option.bind_some]
    by_cases p : (decide (0 ≤ b) && decide (b ≤ 1000000)) = true
    · by_cases q : s.toList = ([] : List UInt8)
      · rw [if_pos p, if_pos q, p, decide_eq_true q]; rfl
      · rw [if_pos p, if_neg q, p, decide_eq_false q]; rfl
    · rw [if_neg p, Bool.eq_false_iff.mpr p]; rfl
  rw [if_neg h3, if_neg h3]
  by_cases h4 : a = 4
  · rw [if_pos h4, if_pos h4]
    by_cases p : b = 0
    · by_cases q : s.toList = ([] : List UInt8)
      · rw [if_pos p, if_pos q, decide_eq_true p, decide_eq_true q]; rfl
      · rw [if_pos p, if_neg q, decide_eq_true p, decide_eq_false q]; rfl
    · rw [if_neg p, decide_eq_false p]; rfl
  rw [if_neg h4, if_neg h4]
  by_cases h5 : a = 5
  · rw [if_pos h5, if_pos h5]
    by_cases p : b = 0
    · by_cases q : s.toList = ([] : List UInt8)
      · rw [if_pos p, if_pos q, decide_eq_true p, decide_eq_true q]; rfl
      · rw [if_pos p, if_neg q, decide_eq_true p, decide_eq_false q]; rfl
    · rw [if_neg p, decide_eq_false p]; rfl
  · rw [if_neg h5, if_neg h5]
def measRes (n0 : Nat) (g : Bool) (c : Nat) : Int := if g = true ∧ n0 + c ≤ 300 then ((n0 + c : Nat) : Int) else 301
theorem impl_measure_loop (l : List S29) (hl : (budIL l : Int) ≤ 4194304) (n : Nat) (dp : Int) (hd : dp + n = 8) (hd1 : 1 ≤ dp)
    (h : ∀ y ∈ l, Ev (fun k => impl_Term_measure.f k y.f0 y.f1 y.f2 y.f3 (dp + 1)) (measRes 0 (goodM y n) (countM y))) (d : Nat) :
    ∀ (i : Nat) (m : Nat), i + d = l.length → m ≤ 300 → Ev (fun k => impl_Term_measure.l0 k dp m l (l.length : Int) i) (measRes m (goodML (l.drop i) n) (countML (l.drop i))) := by
  have hlen := budIL_len l
  induction d with
  | zero =>
    intro i m hi hm
    refine Ev.step (f := fun _ => some (m : Int)) (fun k => ?_) (ev_cast ?_ (Ev.now _))
    · simp only [impl_Term_measure.l0]; rw [if_neg (by omega)]
    · rw [List.drop_eq_nil_of_le (by omega), goodML, countML]
      unfold measRes; rw [if_pos ⟨rfl, by omega⟩]; rfl
  | succ d ih =>
    intro i m hi hm
    have hlt : i < l.length := by omega
    have e := h _ (rdI_mem l i hlt)
    rw [dropI l i hlt, goodML, countML]
    generalize hy : rd_T29 l i = y at *
    refine Ev.step (f := fun k => (impl_Term_measure.f k y.f0 y.f1 y.f2 y.f3 (dp + 1)).bind fun t => (if (wrap64 ((m : Int) + t)) > 300 then (some 301) else (impl_Term_measure.l0 k dp (wrap64 ((m : Int) + t)) l (l.length : Int) (wrap64 ((i : Int) + 1))))) (fun k => ?_) (Ev.bind e ?_)
    · simp only [impl_Term_measure.l0]; rw [if_pos (by omega), if_pos (by omega), if_pos (by omega), hy, w64 (dp + 1) (by omega) (by omega)]
    · have hr : 0 ≤ measRes 0 (goodM y n) (countM y) ∧ measRes 0 (goodM y n) (countM y) ≤ 301 := by
        unfold measRes; split <;> omega
      rw [w64 _ (by omega) (by omega), w64 _ (by omega) (by omega)]
      cases hg : goodM y n with
      | false =>
        refine ev_pos (by unfold measRes; simp; omega) (ev_cast ?_ (Ev.now _))
        unfold measRes; simp
      | true =>
        by_cases hq : countM y ≤ 300
        · have hv : measRes 0 true (countM y) = countM y := by unfold measRes; rw [if_pos ⟨rfl, by omega⟩]; omega
          rw [hv]
          by_cases hq2 : (m : Int) + countM y > 300
          · refine ev_pos hq2 (ev_cast ?_ (Ev.now _))
            unfold measRes; rw [if_neg (by omega)]
          · refine ev_neg hq2 ?_
            have := ih (i + 1) (m + countM y) (by omega) (by omega)
            rw [show ((m + countM y : Nat) : Int) = (m : Int) + countM y from by omega] at this
            refine ev_cast ?_ this
            unfold measRes
            rw [Bool.true_and]
            cases goodML (l.drop (i + 1)) n with
            | false => simp
            | true =>
              by_cases hq3 : m + countM y + countML (l.drop (i + 1)) ≤ 300
              · rw [if_pos ⟨rfl, hq3⟩, if_pos ⟨rfl, by omega⟩]; omega
              · rw [if_neg (by omega), if_neg (by omega)]
        · have hv : measRes 0 true (countM y) = 301 := by unfold measRes; rw [if_neg (by omega)]
          rw [hv]
          refine ev_pos (by omega) (ev_cast ?_ (Ev.now _))
          unfold measRes; rw [if_neg (by omega)]
theorem impl_measure_all : ∀ x, (budI x : Int) ≤ 4194304 → ∀ (n : Nat) (dp : Int), dp + n = 9 → 1 ≤ dp → Ev (fun k => impl_Term_measure.f k x.f0 x.f1 x.f2 x.f3 dp) (measRes 0 (goodM x n) (countM x)) := by
  refine indI ?_
  intro a b s l ih hb n dp hd h1
  rw [budI] at hb
  simp only []
  have no : Ev (fun k => impl_Term_measure.j0 k dp true a b s l) 301 := Ev.step (f := fun _ => some 301) (fun k => by simp [impl_Term_measure.j0]) (Ev.now _)
  cases n with
  | zero =>
    refine Ev.step (fun k => ?_) (ev_cast ?_ no)
    · simp only [impl_Term_measure.f]; rw [if_pos (by omega)]
    · rw [goodM]; unfold measRes; simp
  | succ n =>
    rw [goodM, countM]
    refine Ev.step (f := fun k => (impl_Term_plainOk.f k a b s l).bind fun t => (impl_Term_measure.j0 k dp (!t) a b s l)) (fun k => ?_) (Ev.bind (impl_plainOk_ev a b s l (by omega)) ?_)
    · simp only [impl_Term_measure.f]; rw [if_neg (by omega)]
    cases hsh : shapeM a b s l with
    | false => exact ev_cast (by unfold measRes; simp) no
    | true =>
      have e := impl_measure_loop l (by omega) n dp (by omega) h1 (fun y hy => ih y hy (by have := budI_mem l y hy; omega) n (dp + 1) (by omega) (by omega)) l.length 0 1 (by omega) (by omega)
      refine Ev.step (fun k => ?_) (ev_cast ?_ e)
      · simp only [impl_Term_measure.j0]; rw [if_neg (by decide)]; rfl
      · rw [List.drop_zero, Bool.true_and]
        unfold measRes
        rw [Nat.zero_add]
theorem impl_TermOk_ev (x : S29) (hb : (budI x : Int) ≤ 4194304) : Ev (fun k => impl_TermOk.f k x.f0 x.f1 x.f2 x.f3) (termOkM x) := by
  unfold impl_TermOk.f
  refine Ev.bind (impl_measure_all x hb 8 1 (by omega) (by omega)) (ev_cast ?_ (Ev.now _))
  unfold termOkM measRes
  cases goodM x 8 with
  | false => simp
  | true =>
    by_cases hq : countM x ≤ 300
    · rw [if_pos ⟨rfl, by omega⟩, decide_eq_true hq]; simp; omega
    · rw [if_neg (by omega), decide_eq_false hq]; rfl
theorem impl_text_loop (a b : Int) (s : ByteArray) (l : List S29) (hl : (l.length : Int) ≤ 4194304) (h : ∀ y ∈ l, Ev (fun k => impl_Term_text.f k y.f0 y.f1 y.f2 y.f3) ⟨(txM y).toArray⟩) (hs : sumB (fun x => 1 + (txM x).length) l ≤ 500000000) (d : Nat) : ∀ (i : Nat), i + d = l.length →
    Ev (fun k => impl_Term_text.l0 k ((l.take i).map fun x => (⟨(txM x).toArray⟩ : ByteArray)) l (l.length : Int) i a b s l) (finT a (Go.Lib.join (txL l) [44])) := by
  induction d with
  | zero =>
    intro i hi
    have e1 : ((l.map fun x => (⟨(txM x).toArray⟩ : ByteArray)).map (·.data.toList)) = txL l := by rw [List.map_map, txL_map]; simp
    have h1 := join_len [44] (txL l)
    rw [txL_len] at h1
    have h2 : sumB List.length (txL l) + l.length ≤ 500000000 := by
      have : ∀ l : List S29, sumB List.length (txL l) + l.length = sumB (fun x => 1 + (txM x).length) l := by
        intro l
        induction l with
        | nil => rfl
        | cons x r ih => rw [txL, sumB, sumB, List.length_cons]; omega
      rw [this]; exact hs
    simp only [List.length_singleton] at h1
    have hj : strings_Join.f (l.map fun x => (⟨(txM x).toArray⟩ : ByteArray)) (⟨#[44]⟩ : ByteArray) = some ⟨(Go.Lib.join (txL l) [44]).toArray⟩ := by
      unfold strings_Join.f
      rw [e1, c44, if_pos]
      exact ⟨by rw [List.length_map]; omega, by omega⟩
    have hf := fin_eq a ⟨(Go.Lib.join (txL l) [44]).toArray⟩ (by rw [ba_size]; omega)
    refine Ev.step (f := fun _ => some (finT a (Go.Lib.join (txL l) [44]))) (fun k => ?_) (Ev.now _)
    simp only [impl_Term_text.l0]
    rw [if_neg (by omega), List.take_of_length_le (by omega), hj]
    simp only [Option.bind_some]
    exact hf
  | succ d ih =>
    intro i hi
    have hlt : i < l.length := by omega
    refine Ev.step (f := fun k => (impl_Term_text.f k l[i].f0 l[i].f1 l[i].f2 l[i].f3).bind fun t172 => (if ((l.take i).map fun x => (⟨(txM x).toArray⟩ : ByteArray)).length < 8796093022208 then (impl_Term_text.l0 k (((l.take i).map fun x => (⟨(txM x).toArray⟩ : ByteArray)) ++ [t172]) l (l.length : Int) (wrap64 ((i : Int) + 1)) a b s l) else (none))) (fun k => ?_) (Ev.bind (h l[i] (List.getElem_mem hlt)) (ev_pos (by rw [List.length_map, List.length_take]; omega) ?_))
    · simp only [impl_Term_text.l0]
      rw [if_pos (by omega), if_pos (by omega), if_pos (by omega), rdIx l i hlt]
    · rw [w64 _ (by omega) (by omega)]
      refine Ev.congr (fun k => ?_) (ih (i + 1) (by omega))
      rw [List.take_succ_eq_append_getElem hlt, List.map_append]
      rfl
theorem impl_text_all : ∀ x, (budI x : Int) ≤ 4194304 → ∀ n, goodM x n = true → Ev (fun k => impl_Term_text.f k x.f0 x.f1 x.f2 x.f3) ⟨(txM x).toArray⟩ := by
  refine indI (fun a b s l ih hb n hg => ?_)
  obtain ⟨m, rfl, hs, hl⟩ := goodM_mk hg
  rw [budI_mk] at hb
  have hll := budIL_len l
  show Ev (fun k => impl_Term_text.f k a b s l) _
  rw [txM]
  by_cases h1 : a = 1
  · rw [if_pos h1]
    have := shape_num hs (.inl h1)
    refine Ev.step (f := fun k => (strconv_Itoa.f b).bind fun t127 => (some t127)) (fun k => ?_) (ev_of ?_)
    · simp only [impl_Term_text.f]; rw [if_pos h1]
    · rw [strconv_Itoa_eq b (by omega) (by omega)]; rfl
  rw [if_neg h1]
  by_cases h2 : a = 2
  · rw [if_pos h2, ba_eta]
    refine Ev.step (f := fun k => some s) (fun k => ?_) (Ev.now _)
    simp only [impl_Term_text.f]; rw [if_neg h1, if_pos h2]
  rw [if_neg h2]
  by_cases h3 : a = 3
  · rw [if_pos h3]
    have := shape_num hs (.inr h3)
    have hz := itoa_le b (by omega) (by omega)
    refine Ev.step (f := fun k => (strconv_Itoa.f b).bind fun t128 => (if 1 + t128.size ≤ 9223372036854775807 then (if ((⟨#[60]⟩ : ByteArray) ++ t128).size + 1 ≤ 9223372036854775807 then (some (((⟨#[60]⟩ : ByteArray) ++ t128) ++ (⟨#[62]⟩ : ByteArray))) else (none)) else (none))) (fun k => ?_) (ev_of ?_)
    · simp only [impl_Term_text.f]; rw [if_neg h1, if_neg h2, if_pos h3]
    · rw [strconv_Itoa_eq b (by omega) (by omega)]
      simp only [Option.bind_some]
      rw [pid_eq _ (by rw [ba_size]; omega)]
  rw [if_neg h3]
  have hs2 := tx_sum l m hl (by omega)
  refine Ev.step (f := fun k => impl_Term_text.l0 k ([] : List ByteArray) l (l.length : Int) 0 a b s l) (fun k => ?_) ?_
  · simp only [impl_Term_text.f]; rw [if_neg h1, if_neg h2, if_neg h3]
  exact impl_text_loop a b s l (by omega) (fun y hy => ih y hy (by have := budI_mem l y hy; omega) m (goodML_mem l m hl y hy)) hs2 l.length 0 (by omega)
theorem impl_TermText_ev (x : S29) (hb : (budI x : Int) ≤ 4194304) : Ev (fun k => impl_TermText.f k x.f0 x.f1 x.f2 x.f3) (ttM x) := by
  unfold impl_TermText.f
  refine Ev.bind (impl_TermOk_ev x hb) ?_
  by_cases h : termOkM x = true
  · exact ev_pos h (ev_cast (ttM_yes h) (Ev.bind (impl_text_all x hb 8 (termOk_good h)) (Ev.now _)))
  · exact ev_cast (ttM_no h) (ev_neg h (Ev.now _))
theorem FnExactTermText : laws_FnExactTermText.Pure := by
  intro a b s l hw
  refine Ev.rounds (g := fun k => laws_FnExactTermText.f k a b s l) ?_
  unfold laws_FnExactTermText.f
  refine Ev.bind (szTerm_ev a b s l hw 1048576 (by omega) (by omega)) ?_
  unfold szRes
  by_cases hb : (budL ⟨a, b, s, l⟩ : Int) ≤ 1048576
  · rw [if_pos hb]
    have hi : (budI (cv ⟨a, b, s, l⟩) : Int) ≤ 1048576 := by rw [bud_cv]; exact hb
    rw [cv] at hi
    have ht := toTerm_ev a b s l hb
    exact ev_neg (by omega) (Ev.bind ht (Ev.bind (spec_TermText_ev ⟨a, b, s, cvL l⟩ (by omega)) (Ev.bind ht (Ev.bind (impl_TermText_ev ⟨a, b, s, cvL l⟩ (by omega)) (ev_pos rfl (Ev.bind ht (Ev.bind (eqTerm_ev a b s (cvL l) (by omega)) (ev_pos rfl (Ev.now _)))))))))
  · rw [if_neg hb]
    exact ev_pos (by omega) (Ev.now _)

end Go.Proofs.YtpbhbpffpkedcaaDoor.Pure
