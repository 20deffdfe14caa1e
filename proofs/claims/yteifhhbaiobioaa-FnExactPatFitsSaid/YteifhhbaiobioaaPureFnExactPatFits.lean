/- What the law FnExactPatFits of this seat says holds for every input that its row speaks of; no further condition. -/
import Derived.Test.YteifhhbaiobioaaQFnExactPatFitsx8
import Derived.Lib.Strings
set_option linter.unusedVariables false
set_option linter.unusedSimpArgs false
namespace Go.Proofs.Yteifhhbaiobioaa.Pure
open Go.RowKit Go.Proofs.Yteifhhbaiobioaa.QFnExactPatFits Go.Proofs.YteifhhbaiobioaaW.PrintWords Go.Proofs.YteifhhbaiobioaaW.PrintLast Go.Proofs.YteifhhbaiobioaaW.PrintMore

theorem ev_pos {α : Type} {c : Prop} [Decidable c] {A B : Nat → Option α} {r : α} (h : c) (e : Ev A r) : Ev (fun k => if c then A k else B k) r := by
  obtain ⟨K, hK⟩ := e
  exact ⟨K, fun k hk => by simp only [if_pos h]; exact hK k hk⟩
theorem ev_neg {α : Type} {c : Prop} [Decidable c] {A B : Nat → Option α} {r : α} (h : ¬ c) (e : Ev B r) : Ev (fun k => if c then A k else B k) r := by
  obtain ⟨K, hK⟩ := e
  exact ⟨K, fun k hk => by simp only [if_neg h]; exact hK k hk⟩
theorem ev_of {α : Type} {o : Option α} {r : α} (h : o = some r) : Ev (fun _ => o) r := ⟨0, fun _ _ => h⟩
theorem ev_cast {α : Type} {g : Nat → Option α} {r r' : α} (h : r = r') (e : Ev g r) : Ev g r' := h ▸ e
theorem w64 (n : Int) (h0 : -9223372036854775808 ≤ n) (h1 : n ≤ 9223372036854775807) : wrap64 n = n := by unfold wrap64; omega
theorem dec_and (p q : Prop) [Decidable p] [Decidable q] : decide (p ∧ q) = (decide p && decide q) := by
  by_cases hp : p <;> by_cases hq : q <;> simp [hp, hq]
theorem P_indI {P : S29 → Prop} (h : ∀ a b s l, (∀ y ∈ l, P y) → P ⟨a, b, s, l⟩) : ∀ x, P x := by
  intro x
  refine S29.rec (motive_1 := P) (motive_2 := fun l => ∀ y ∈ l, P y) ?_ ?_ ?_ x
  · intro a b s l hl
    exact h a b s l hl
  · intro y hy; cases hy
  · intro x r hx hr y hy
    rcases List.mem_cons.1 hy with rfl | hy
    · exact hx
    · exact hr y hy
mutual
def P_budI : S29 → Nat
  | ⟨_, _, s, l⟩ => s.size + P_budIL l
def P_budIL : List S29 → Nat
  | [] => 0
  | x :: r => 1 + P_budI x + P_budIL r
end
theorem P_budIL_len : ∀ l : List S29, l.length ≤ P_budIL l
  | [] => by simp [P_budIL]
  | x :: r => by
    have := P_budIL_len r
    rw [P_budIL, List.length_cons]; omega
theorem P_rdI_mem (l : List S29) (i : Nat) (h : i < l.length) : rd_T29 l i ∈ l := by
  unfold rd_T29
  simp [List.getD_eq_getElem?_getD, List.getElem?_eq_getElem h]
theorem P_budI_mem : ∀ (l : List S29) (x : S29), x ∈ l → P_budI x + 1 ≤ P_budIL l
  | [], x, h => by cases h
  | y :: r, x, h => by
    rw [P_budIL]
    rcases List.mem_cons.1 h with rfl | h
    · omega
    · have := P_budI_mem r x h; omega
theorem P_indL {P : S24 → Prop} (h : ∀ a b s l, (∀ y ∈ l, P y) → P ⟨a, b, s, l⟩) : ∀ x, P x := by
  intro x
  refine S24.rec (motive_1 := P) (motive_2 := fun l => ∀ y ∈ l, P y) ?_ ?_ ?_ x
  · intro a b s l hl
    exact h a b s l hl
  · intro y hy; cases hy
  · intro x r hx hr y hy
    rcases List.mem_cons.1 hy with rfl | hy
    · exact hx
    · exact hr y hy
mutual
def P_budL : S24 → Nat
  | ⟨_, _, s, l⟩ => s.size + (l.length + P_budLE l)
def P_budLE : List S24 → Nat
  | [] => 0
  | x :: r => P_budL x + P_budLE r
end
mutual
def P_cv : S24 → S29
  | ⟨a, b, s, l⟩ => ⟨a, b, s, P_cvL l⟩
def P_cvL : List S24 → List S29
  | [] => []
  | x :: r => P_cv x :: P_cvL r
end
theorem P_cvL_len : ∀ l, (P_cvL l).length = l.length
  | [] => rfl
  | x :: r => by rw [P_cvL, List.length_cons, List.length_cons, P_cvL_len r]
theorem P_cvL_map : ∀ l, P_cvL l = l.map P_cv
  | [] => rfl
  | x :: r => by rw [P_cvL, List.map_cons, P_cvL_map r]
mutual
theorem P_bud_cv : ∀ x, P_budI (P_cv x) = P_budL x
  | ⟨a, b, s, l⟩ => by rw [P_cv, P_budI, P_budL, P_bud_cvL l]
theorem P_bud_cvL : ∀ l, P_budIL (P_cvL l) = l.length + P_budLE l
  | [] => by rw [P_cvL, P_budIL, P_budLE]; rfl
  | x :: r => by rw [P_cvL, P_budIL, P_budLE, P_bud_cv x, P_bud_cvL r, List.length_cons]; omega
end
theorem P_rdL_mem (l : List S24) (i : Nat) (h : i < l.length) : rd_T24 l i ∈ l := by
  unfold rd_T24
  simp [List.getD_eq_getElem?_getD, List.getElem?_eq_getElem h]
theorem P_dropL (l : List S24) (i : Nat) (h : i < l.length) : l.drop i = rd_T24 l i :: l.drop (i + 1) := by
  rw [List.drop_eq_getElem_cons h]
  unfold rd_T24
  simp [List.getElem?_eq_getElem h]
theorem P_wfL_mem (l : List S24) (h : wfl24 l) : ∀ x ∈ l, wf24 x := (wfl24_iff l).1 h
theorem P_wfL_mk {a b : Int} {s : ByteArray} {l : List S24} (h : wf24 ⟨a, b, s, l⟩) : (Lit.int .i64 a).wf = true ∧ (Lit.int .i64 b).wf = true ∧ (s.size : Int) ≤ 9223372036854775807 ∧ (l.length : Int) ≤ 9223372036854775807 ∧ ∀ x ∈ l, wf24 x := by
  unfold wf24 at h
  obtain ⟨h0, h1, h2, h3, h4⟩ := h
  unfold maxLen at h2 h3
  exact ⟨h0, h1, by omega, by omega, P_wfL_mem l h4⟩
def szRes (left : Int) (b : Nat) : Int := if (b : Int) ≤ left then left - b else -1
theorem P_sz_loop (l : List S24) (hl : (l.length : Int) ≤ 9223372036854775807)
    (h : ∀ y ∈ l, ∀ left : Int, 0 ≤ left → left ≤ 1048576 → Ev (fun k => laws_szPat.f k y.f0 y.f1 y.f2 y.f3 left) (szRes left (P_budL y))) (d : Nat) :
    ∀ (i : Nat) (left : Int), i + d = l.length → 0 ≤ left → left ≤ 1048576 → Ev (fun k => laws_szPatS.l0 k l left i) (szRes left (P_budLE (l.drop i))) := by
  induction d with
  | zero =>
    intro i left hi h0 h1
    refine Ev.step (f := fun _ => some left) (fun k => ?_) (ev_cast ?_ (Ev.now _))
    · simp only [laws_szPatS.l0]; rw [if_neg (by omega)]
    · rw [List.drop_eq_nil_of_le (by omega), P_budLE]; unfold szRes; rw [if_pos (by omega)]; omega
  | succ d ih =>
    intro i left hi h0 h1
    have hlt : i < l.length := by omega
    have e := h _ (P_rdL_mem l i hlt) left h0 h1
    rw [P_dropL l i hlt, P_budLE]
    generalize hy : rd_T24 l i = y at *
    refine Ev.step (f := fun k => (laws_szPat.f k y.f0 y.f1 y.f2 y.f3 left).bind fun t102 => (if t102 < 0 then (some (-1)) else (laws_szPatS.l0 k l t102 (wrap64 ((i : Int) + 1))))) (fun k => ?_) (Ev.bind e ?_)
    · simp only [laws_szPatS.l0]; rw [if_pos (by omega), if_pos (by omega), hy]
    · unfold szRes
      by_cases hb : (P_budL y : Int) ≤ left
      · rw [if_pos hb]
        refine ev_neg (by omega) ?_
        rw [w64 _ (by omega) (by omega)]
        refine ev_cast ?_ (ih (i + 1) (left - P_budL y) (by omega) (by omega) (by omega))
        unfold szRes
        by_cases hc : (P_budLE (l.drop (i + 1)) : Int) ≤ left - P_budL y
        · rw [if_pos hc, if_pos (by omega)]; omega
        · rw [if_neg hc, if_neg (by omega)]
      · rw [if_neg hb, if_neg (by omega)]
        exact ev_pos (by omega) (Ev.now _)
theorem P_szS_of (l : List S24) (hl : (l.length : Int) ≤ 9223372036854775807)
    (h : ∀ y ∈ l, ∀ left : Int, 0 ≤ left → left ≤ 1048576 → Ev (fun k => laws_szPat.f k y.f0 y.f1 y.f2 y.f3 left) (szRes left (P_budL y))) (left : Int) (h0 : 0 ≤ left) (h1 : left ≤ 1048576) :
    Ev (fun k => laws_szPatS.f k l left) (szRes left (l.length + P_budLE l)) := by
  by_cases hc : left - (l.length : Int) < 0
  · refine Ev.step (f := fun _ => some (-1)) (fun k => ?_) (ev_cast ?_ (Ev.now _))
    · simp only [laws_szPatS.f]; rw [w64 _ (by omega) (by omega), if_pos hc]
    · unfold szRes; rw [if_neg (by omega)]
  · refine Ev.step (fun k => ?_) (ev_cast ?_ (P_sz_loop l hl h l.length 0 (left - l.length) (by omega) (by omega) (by omega)))
    · simp only [laws_szPatS.f]; rw [w64 _ (by omega) (by omega), if_neg hc]; rfl
    · rw [List.drop_zero]
      unfold szRes
      by_cases hb : (P_budLE l : Int) ≤ left - l.length
      · rw [if_pos hb, if_pos (by omega)]; omega
      · rw [if_neg hb, if_neg (by omega)]
theorem P_sz_all : ∀ x, wf24 x → ∀ left : Int, 0 ≤ left → left ≤ 1048576 → Ev (fun k => laws_szPat.f k x.f0 x.f1 x.f2 x.f3 left) (szRes left (P_budL x)) := by
  refine P_indL ?_
  intro a b s l ih hw left h0 h1
  obtain ⟨_, _, hs, hl, hm⟩ := P_wfL_mk hw
  simp only []
  by_cases hc : left - (s.size : Int) < 0
  · refine Ev.step (f := fun _ => some (-1)) (fun k => ?_) (ev_cast ?_ (Ev.now _))
    · simp only [laws_szPat.f]; rw [w64 _ (by omega) (by omega), if_pos hc]
    · rw [P_budL]; unfold szRes; rw [if_neg (by omega)]
  · have e := P_szS_of l hl (fun y hy => ih y hy (hm y hy)) (left - s.size) (by omega) (by omega)
    refine Ev.step (f := fun k => (laws_szPatS.f k l (left - (s.size : Int))).bind fun t104 => (if t104 < 0 then (some (-1)) else (some t104))) (fun k => ?_) (Ev.bind e ?_)
    · simp only [laws_szPat.f]; rw [w64 _ (by omega) (by omega), if_neg hc]
    · rw [P_budL]
      unfold szRes
      by_cases hb : ((l.length + P_budLE l : Nat) : Int) ≤ left - s.size
      · have hb2 : ((s.size + (l.length + P_budLE l) : Nat) : Int) ≤ left := by omega
        rw [if_pos hb, if_pos hb2]
        exact ev_neg (by omega) (ev_cast (by omega) (Ev.now _))
      · have hb2 : ¬ ((s.size + (l.length + P_budLE l) : Nat) : Int) ≤ left := by omega
        rw [if_neg hb, if_neg hb2]
        exact ev_pos (by omega) (Ev.now _)
theorem P_szTerm_ev (a b : Int) (s : ByteArray) (l : List S24) (hw : wf24 ⟨a, b, s, l⟩) (left : Int) (h0 : 0 ≤ left) (h1 : left ≤ 1048576) : Ev (fun k => laws_szPat.f k a b s l left) (szRes left (P_budL ⟨a, b, s, l⟩)) := P_sz_all _ hw left h0 h1
theorem P_set_takeI (l : List S29) (i : Nat) (v : S29) (h : i < l.length) : (l.set i v).take (i + 1) = l.take i ++ [v] := by
  rw [List.take_succ_eq_append_getElem (by simpa using h)]
  simp [List.take_set]
  rw [List.set_eq_of_length_le (by simp; omega)]
theorem P_to_loop (l : List S24) (hl : (l.length : Int) ≤ 1048576)
    (h : ∀ y ∈ l, Ev (fun k => laws_toPat.f k y.f0 y.f1 y.f2 y.f3) (y.f0, y.f1, y.f2, P_cvL y.f3)) (d : Nat) :
    ∀ (i : Nat) (x : List S29), i + d = l.length → x.length = l.length → x.take i = (P_cvL l).take i → Ev (fun k => laws_toPatS.l0 k l x i) (P_cvL l) := by
  induction d with
  | zero =>
    intro i x hi hx ht
    refine Ev.step (f := fun _ => some x) (fun k => ?_) (ev_cast ?_ (Ev.now _))
    · simp only [laws_toPatS.l0]; rw [if_neg (by omega)]
    · rwa [List.take_of_length_le (by omega), List.take_of_length_le (by rw [P_cvL_len]; omega)] at ht
  | succ d ih =>
    intro i x hi hx ht
    have hlt : i < l.length := by omega
    have e := h _ (P_rdL_mem l i hlt)
    have hn := ih (i + 1) (x.set i (P_cv (rd_T24 l i))) (by omega) (by simpa using hx) (by
      rw [P_set_takeI _ _ _ (by omega), ht, List.take_succ_eq_append_getElem (by rw [P_cvL_len]; omega)]
      congr 1
      simp only [P_cvL_map, List.getElem_map]
      unfold rd_T24
      simp [List.getElem?_eq_getElem hlt])
    generalize hy : rd_T24 l i = y at *
    refine Ev.step (f := fun k => (laws_toPat.f k y.f0 y.f1 y.f2 y.f3).bind fun bt112 => (laws_toPatS.l0 k l (x.set i (⟨bt112.1, bt112.2.1, bt112.2.2.1, bt112.2.2.2⟩ : S29)) (wrap64 ((i : Int) + 1)))) (fun k => ?_) (Ev.bind e ?_)
    · simp only [laws_toPatS.l0]; rw [if_pos (by omega), if_pos (by omega), hy]
      congr 1
      funext bt
      rw [if_pos (by omega)]
      rfl
    · rw [w64 _ (by omega) (by omega)]
      have ec : (⟨y.f0, y.f1, y.f2, P_cvL y.f3⟩ : S29) = P_cv y := by cases y; rw [P_cv]
      simp only [ec]
      exact hn
theorem P_toS_of (l : List S24) (hl : (l.length : Int) ≤ 1048576)
    (h : ∀ y ∈ l, Ev (fun k => laws_toPat.f k y.f0 y.f1 y.f2 y.f3) (y.f0, y.f1, y.f2, P_cvL y.f3)) : Ev (fun k => laws_toPatS.f k l) (P_cvL l) := by
  refine Ev.step (fun k => ?_) (P_to_loop l hl h l.length 0 (List.replicate l.length z29) (by omega) (by simp) (by simp))
  simp only [laws_toPatS.f]; rw [if_pos (by omega), if_pos (by omega)]
  simp
theorem P_budL_mem : ∀ (l : List S24) (x : S24), x ∈ l → P_budL x ≤ P_budLE l
  | [], x, h => by cases h
  | y :: r, x, h => by
    rw [P_budLE]
    rcases List.mem_cons.1 h with rfl | h
    · omega
    · have := P_budL_mem r x h; omega
theorem P_to_all : ∀ x, (P_budL x : Int) ≤ 1048576 → Ev (fun k => laws_toPat.f k x.f0 x.f1 x.f2 x.f3) (x.f0, x.f1, x.f2, P_cvL x.f3) := by
  refine P_indL ?_
  intro a b s l ih hb
  rw [P_budL] at hb
  refine Ev.step (f := fun k => (laws_toPatS.f k l).bind fun t122 => (some (a, b, s, t122))) (fun k => ?_) (Ev.bind (P_toS_of l (by omega) (fun y hy => ih y hy (by have := P_budL_mem l y hy; omega))) (Ev.now _))
  simp only [laws_toPat.f]
theorem P_toTerm_ev (a b : Int) (s : ByteArray) (l : List S24) (hb : (P_budL ⟨a, b, s, l⟩ : Int) ≤ 1048576) : Ev (fun k => laws_toPat.f k a b s l) (a, b, s, P_cvL l) := P_to_all _ hb
theorem P_eq_loop (l : List S29) (hl : (l.length : Int) ≤ 4194304)
    (h : ∀ y ∈ l, Ev (fun k => laws_eqPat.f k y.f0 y.f1 y.f2 y.f3 y.f0 y.f1 y.f2 y.f3) true) (d : Nat) : ∀ (i : Nat), i + d = l.length → Ev (fun k => laws_eqPatS.l0 k l l i) true := by
  induction d with
  | zero =>
    intro i hi
    refine Ev.step (f := fun _ => some true) (fun k => ?_) (Ev.now _)
    simp only [laws_eqPatS.l0]; rw [if_neg (by omega)]
  | succ d ih =>
    intro i hi
    have hlt : i < l.length := by omega
    have e := h _ (P_rdI_mem l i hlt)
    have hn := ih (i + 1) (by omega)
    generalize hy : rd_T29 l i = y at *
    refine Ev.step (f := fun k => (laws_eqPat.f k y.f0 y.f1 y.f2 y.f3 y.f0 y.f1 y.f2 y.f3).bind fun t131 => (if t131 = true then (laws_eqPatS.l0 k l l (wrap64 ((i : Int) + 1))) else (some false))) (fun k => ?_) (Ev.bind e (ev_pos rfl ?_))
    · simp only [laws_eqPatS.l0]; rw [if_pos (by omega), if_pos (by omega), if_pos (by omega), hy]
    · rw [w64 _ (by omega) (by omega)]; exact hn
theorem P_eqS_of (l : List S29) (hl : (l.length : Int) ≤ 4194304) (h : ∀ y ∈ l, Ev (fun k => laws_eqPat.f k y.f0 y.f1 y.f2 y.f3 y.f0 y.f1 y.f2 y.f3) true) : Ev (fun k => laws_eqPatS.f k l l) true := by
  refine Ev.step (fun k => ?_) (P_eq_loop l hl h l.length 0 (by omega))
  simp only [laws_eqPatS.f]; rw [if_pos trivial]; rfl
theorem P_eq_all : ∀ x, (P_budI x : Int) ≤ 4194304 → Ev (fun k => laws_eqPat.f k x.f0 x.f1 x.f2 x.f3 x.f0 x.f1 x.f2 x.f3) true := by
  refine P_indI ?_
  intro a b s l ih hb
  rw [P_budI] at hb
  have hl := P_budIL_len l
  refine Ev.step (f := fun k => (laws_eqPatS.f k l l).bind fun t134 => (if t134 = true then (some true) else (some false))) (fun k => ?_) (Ev.bind (P_eqS_of l (by omega) (fun y hy => ih y hy (by have := P_budI_mem l y hy; omega))) (ev_pos rfl (Ev.now _)))
  simp only [laws_eqPat.f]
  simp
theorem P_eqTerm_ev (a b : Int) (s : ByteArray) (l : List S29) (hb : (P_budI ⟨a, b, s, l⟩ : Int) ≤ 4194304) : Ev (fun k => laws_eqPat.f k a b s l a b s l) true := P_eq_all _ hb
def lowB (c : Int) : Bool := decide (97 ≤ c) && decide (c ≤ 122)
def digB (c : Int) : Bool := decide (48 ≤ c) && decide (c ≤ 57)
def atomFrom (s : ByteArray) (i : Nat) : Bool := (List.range' i (s.size - i)).all fun j => lowB (bt s j) || (!decide (j = 0) && (digB (bt s j) || decide (bt s j = 95)))
def atomOkM (s : ByteArray) : Bool := atomFrom s 0 && (decide (1 ≤ (s.size : Int)) && decide ((s.size : Int) ≤ 20))
theorem atomFrom_end (s : ByteArray) (i : Nat) (h : s.size ≤ i) : atomFrom s i = true := by
  unfold atomFrom
  rw [Nat.sub_eq_zero_of_le h]; rfl
theorem atomFrom_step (s : ByteArray) (i : Nat) (h : i < s.size) : atomFrom s i = ((lowB (bt s i) || (!decide (i = 0) && (digB (bt s i) || decide (bt s i = 95)))) && atomFrom s (i + 1)) := by
  unfold atomFrom
  obtain ⟨n, hn⟩ : ∃ n, s.size - i = n + 1 := ⟨s.size - i - 1, by omega⟩
  rw [hn, show s.size - (i + 1) = n from by omega, List.range'_succ]
  simp [List.all_cons]
theorem wbt (s : ByteArray) (i : Int) : wrap64 (bt s i) = bt s i := by
  have := bt_range s i
  exact w64 _ (by omega) (by omega)
theorem ev_and {c : Bool} {A : Nat → Option Bool} {r : Bool} (e : Ev A r) : Ev (fun k => if c = true then A k else some false) (c && r) := by
  cases c with
  | false => exact ev_neg (by decide) (Ev.now _)
  | true => exact ev_pos rfl e
theorem ev_andP {c : Prop} [Decidable c] {A : Nat → Option Bool} {r : Bool} (e : Ev A r) : Ev (fun k => if c then A k else some false) (decide c && r) := by
  by_cases h : c
  · rw [decide_eq_true h]; exact ev_pos h e
  · rw [decide_eq_false h]; exact ev_neg h (Ev.now _)
theorem len0B (n : Nat) : ((n : Int) == 0) = decide (n = 0) := by by_cases h : n = 0 <;> simp [h]
theorem len2B (n : Nat) : ((n : Int) == 2) = decide (n = 2) := by
  by_cases h : n = 2
  · simp [h]
  · rw [decide_eq_false h, beq_eq_false_iff_ne]; omega
theorem len1B (n : Nat) : ((n : Int) == 1) = decide (n = 1) := by
  by_cases h : n = 1
  · simp [h]
  · rw [decide_eq_false h, beq_eq_false_iff_ne]; omega
def resL (l : List UInt8) : Bool := decide (l = [99, 97, 115, 101]) || (decide (l = [111, 102]) || decide (l = [101, 110, 100]))
def xatomM (s : ByteArray) : Bool := atomOkM s && !(resL s.toList)
def opL (l : List UInt8) : Bool := decide (l = [43]) || (decide (l = [45]) || (decide (l = [42]) || (decide (l = [61, 61]) || decide (l = [60]))))
def allFrom (p : Nat → Bool) (i d : Nat) : Bool := (List.range' i d).all p
def largeB (c : Int) : Bool := (decide (65 ≤ c) && decide (c ≤ 90)) || decide (c = 95)
def varP (s : ByteArray) (i : Nat) : Bool := largeB (bt s i) || (!decide (i = 0) && (lowB (bt s i) || digB (bt s i)))
def varQ (s : ByteArray) (i : Nat) : Bool := lowB (bt s i) || (largeB (bt s i) || digB (bt s i))
def in20 (s : ByteArray) : Bool := decide (1 ≤ (s.size : Int)) && decide ((s.size : Int) ≤ 20)
def varOkM (s : ByteArray) : Bool := allFrom (varP s) 0 s.size && in20 s
theorem allFrom_iff (p : Nat → Bool) (n : Nat) : allFrom p 0 n = true ↔ ∀ i, i < n → p i = true := by
  unfold allFrom
  rw [List.all_eq_true]
  constructor
  · intro h i hi
    exact h i (by rw [List.mem_range'_1]; omega)
  · intro h i hi
    rw [List.mem_range'_1] at hi
    exact h i (by omega)
theorem varOk_same (s : ByteArray) : (allFrom (varQ s) 0 s.size && (in20 s && largeB (bt s 0))) = varOkM s := by
  unfold varOkM
  cases hn : in20 s with
  | false => simp
  | true =>
    rw [Bool.true_and, Bool.and_true, Bool.eq_iff_iff, Bool.and_eq_true, allFrom_iff, allFrom_iff]
    unfold in20 at hn
    rw [Bool.and_eq_true, decide_eq_true_eq, decide_eq_true_eq] at hn
    constructor
    · rintro ⟨h, h0⟩ i hi
      have := h i hi
      unfold varQ at this
      unfold varP
      by_cases hz : i = 0
      · subst hz
        rw [show ((0 : Nat) : Int) = 0 from rfl, h0]; rfl
      · rw [decide_eq_false hz]
        revert this
        cases lowB (bt s i) <;> cases largeB (bt s i) <;> cases digB (bt s i) <;> simp
    · intro h
      refine ⟨fun i hi => ?_, ?_⟩
      · have := h i hi
        unfold varP at this
        unfold varQ
        revert this
        cases lowB (bt s i) <;> cases largeB (bt s i) <;> cases digB (bt s i) <;> simp
      · have := h 0 (by omega)
        unfold varP at this
        simpa using this
theorem all_loopB (L : Nat → Int → Option Bool) (p : Nat → Bool) (n : Nat) (b : Bool)
    (hstep : ∀ (i : Nat), i < n → ∀ r, (p i = true → Ev (fun k => L k ((i + 1 : Nat) : Int)) r) → (p i = false → r = false) → Ev (fun k => L k (i : Int)) r)
    (hend : Ev (fun k => L k (n : Int)) b) (d : Nat) : ∀ i : Nat, i + d = n → Ev (fun k => L k (i : Int)) (allFrom p i d && b) := by
  induction d with
  | zero =>
    intro i hi
    have e : i = n := by omega
    subst e
    exact ev_cast (by unfold allFrom; simp) hend
  | succ d ih =>
    intro i hi
    refine hstep i (by omega) _ (fun hp => ?_) (fun hp => ?_)
    · refine ev_cast ?_ (ih (i + 1) (by omega))
      unfold allFrom
      rw [List.range'_succ, List.all_cons, hp, Bool.true_and]
    · unfold allFrom
      rw [List.range'_succ, List.all_cons, hp, Bool.false_and, Bool.false_and]
def noT (s : ByteArray) : Bool := decide (s.toList = ([] : List UInt8))
def shOk (a b : Int) (s : ByteArray) (n : Nat) : Bool :=
  if a = 1 then (decide (0 ≤ b) && decide (b ≤ 1000000000000)) && (noT s && decide (n = 0))
  else decide (b = 0) && (
    if a = 2 then xatomM s && decide (n = 0)
    else if a = 3 then varOkM s && decide (n = 0)
    else if a = 4 ∨ a = 5 then noT s && decide (n ≤ 20)
    else if a = 6 then noT s && (decide (2 ≤ n) && decide (n ≤ 6))
    else if a = 7 then opL s.toList && decide (n = 2)
    else if a = 8 then xatomM s && decide (n ≤ 4)
    else if a = 9 then noT s && decide (n = 1)
    else false)
theorem sh_none {a b : Int} {s : ByteArray} {n : Nat} (h : ¬ (a = 1 ∨ a = 2 ∨ a = 3 ∨ a = 4 ∨ a = 5 ∨ a = 6 ∨ a = 7 ∨ a = 8 ∨ a = 9)) : shOk a b s n = false := by
  unfold shOk
  rw [if_neg (by omega), if_neg (by omega), if_neg (by omega), if_neg (by omega), if_neg (by omega), if_neg (by omega), if_neg (by omega), if_neg (by omega), Bool.and_false]
theorem dcast {p q : Prop} [Decidable p] [Decidable q] (h : p ↔ q) : decide p = decide q := decide_eq_decide.2 h
theorem rdN (l : List Int) (i : Nat) (h : i < l.length) : rd l (i : Int) = l[i] := by
  unfold rd
  simp [List.getD_eq_getElem?_getD, List.getElem?_eq_getElem h]
theorem nd_app (l : List Int) (s : Int) : (l ++ [s]).Nodup ↔ l.Nodup ∧ ¬ s ∈ l := by
  rw [List.nodup_append]
  constructor
  · intro h
    exact ⟨h.1, fun hm => h.2.2 _ hm _ (by simp) rfl⟩
  · intro h
    refine ⟨h.1, by simp, fun a ha b hb e => ?_⟩
    simp at hb
    subst hb
    exact h.2 (e ▸ ha)
theorem nd_left {l m : List Int} (h : (l ++ m).Nodup) : l.Nodup := (List.nodup_append.1 h).1
def fShape (a b : Int) (s : ByteArray) (n : Nat) (slots : Int) : Bool :=
  if a = 3 then noT s && (decide (n = 0) && (decide (-1 ≤ b) && decide (b ≤ slots - 1))) else decide (a ≤ 6) && shOk a b s n
mutual
def lookF : S29 → Int → Nat → Int → Int
  | ⟨a, b, s, l⟩, slots, d, left => match d with
    | 0 => -1
    | d + 1 => if left < 1 ∨ fShape a b s l.length slots = false then -1 else lookFL l slots d (left - 1)
def lookFL : List S29 → Int → Nat → Int → Int
  | [], _, _, left => left
  | x :: r, slots, d, left => if left ≥ 0 then lookFL r slots d (lookF x slots d left) else left
end
theorem lookFL_neg (l : List S29) (slots : Int) (d : Nat) (left : Int) (h : left < 0) : lookFL l slots d left = left := by
  cases l with
  | nil => rw [lookFL]
  | cons x r => rw [lookFL, if_neg (by omega)]
mutual
theorem lookF_le : ∀ x slots d left, left ≤ 300 → lookF x slots d left ≤ 300
  | ⟨a, b, s, l⟩, slots, 0, left, h => by rw [lookF]; omega
  | ⟨a, b, s, l⟩, slots, d + 1, left, h => by
    rw [lookF]
    split
    · omega
    · exact lookFL_le l slots d _ (by omega)
theorem lookFL_le : ∀ l slots d left, left ≤ 300 → lookFL l slots d left ≤ 300
  | [], slots, d, left, h => by rw [lookFL]; exact h
  | x :: r, slots, d, left, h => by
    rw [lookFL]
    split
    · exact lookFL_le r slots d _ (lookF_le x slots d left h)
    · exact h
end
mutual
def slotsM : S29 → List Int
  | ⟨a, b, _, l⟩ => (if a = 3 ∧ b ≠ -1 then [b] else []) ++ slotsML l
def slotsML : List S29 → List Int
  | [] => []
  | x :: r => slotsM x ++ slotsML r
end
mutual
theorem slots_len : ∀ x, (slotsM x).length ≤ 1 + P_budI x
  | ⟨a, b, s, l⟩ => by
    rw [slotsM, P_budI, List.length_append]
    have := slotsL_len l
    split <;> simp <;> omega
theorem slotsL_len : ∀ l, (slotsML l).length ≤ P_budIL l
  | [] => by rw [slotsML]; simp
  | x :: r => by
    rw [slotsML, P_budIL, List.length_append]
    have := slots_len x
    have := slotsL_len r
    omega
end
theorem spec_l1In_eq (a b c : Int) : spec_l1In.f a b c = some (decide (b ≤ a) && decide (a ≤ c)) := by
  unfold spec_l1In.f
  by_cases h : b ≤ a <;> simp [h]
theorem spec_AtomOk_l (s : ByteArray) (hs : s.size ≤ 140737488351232) (d : Nat) : ∀ i : Nat, i + d = s.size → Ev (fun k => spec_AtomOk.l0 k s i) (atomFrom s i && (decide (1 ≤ (s.size : Int)) && decide ((s.size : Int) ≤ 20))) := by
  induction d with
  | zero =>
    intro i hi
    refine Ev.step (f := fun _ => some (decide (1 ≤ (s.size : Int)) && decide ((s.size : Int) ≤ 20))) (fun k => ?_) (ev_cast ?_ (Ev.now _))
    · simp only [spec_AtomOk.l0]
      rw [if_neg (by omega), spec_l1In_eq]; rfl
    · rw [atomFrom_end s i (by omega)]; rfl
  | succ d ih =>
    intro i hi
    have hlt : i < s.size := by omega
    have hn := ih (i + 1) (by omega)
    rw [atomFrom_step s i hlt]
    by_cases h1 : lowB (bt s i) = true
    · refine Ev.step (fun k => ?_) (ev_cast ?_ hn)
      · simp only [spec_AtomOk.l0]
        rw [if_pos (by omega), if_pos (by omega), wbt, spec_l1In_eq]
        simp only [Option.bind_some]
        unfold lowB at h1
        rw [if_pos h1, w64 _ (by omega) (by omega)]
        rfl
      · rw [h1]; rfl
    · have h1' : lowB (bt s i) = false := by simpa using h1
      by_cases h0 : i = 0
      · refine Ev.step (f := fun _ => some false) (fun k => ?_) (ev_cast ?_ (Ev.now _))
        · simp only [spec_AtomOk.l0]
          rw [if_pos (by omega), if_pos (by omega), wbt, spec_l1In_eq]
          simp only [Option.bind_some]
          unfold lowB at h1
          rw [if_neg h1, if_pos (by omega)]
        · rw [h1']; simp [h0]
      · by_cases h2 : digB (bt s i) = true
        · refine Ev.step (fun k => ?_) (ev_cast ?_ hn)
          · simp only [spec_AtomOk.l0]
            rw [if_pos (by omega), if_pos (by omega), wbt, spec_l1In_eq]
            simp only [Option.bind_some]
            unfold lowB at h1; unfold digB at h2
            rw [if_neg h1, if_neg (by omega), spec_l1In_eq]
            simp only [Option.bind_some]
            rw [if_pos h2, w64 _ (by omega) (by omega)]
            rfl
          · rw [h2]; simp [h0]
        · have h2' : digB (bt s i) = false := by simpa using h2
          by_cases h3 : bt s i = 95
          · refine Ev.step (fun k => ?_) (ev_cast ?_ hn)
            · simp only [spec_AtomOk.l0]
              rw [if_pos (by omega), if_pos (by omega), wbt, spec_l1In_eq]
              simp only [Option.bind_some]
              unfold lowB at h1; unfold digB at h2
              rw [if_neg h1, if_neg (by omega), spec_l1In_eq]
              simp only [Option.bind_some]
              rw [if_neg h2, if_pos h3, w64 _ (by omega) (by omega)]
              rfl
            · simp [h0, h3]
          · refine Ev.step (f := fun _ => some false) (fun k => ?_) (ev_cast ?_ (Ev.now _))
            · simp only [spec_AtomOk.l0]
              rw [if_pos (by omega), if_pos (by omega), wbt, spec_l1In_eq]
              simp only [Option.bind_some]
              unfold lowB at h1; unfold digB at h2
              rw [if_neg h1, if_neg (by omega), spec_l1In_eq]
              simp only [Option.bind_some]
              rw [if_neg h2, if_neg h3]
            · rw [h1', h2']; simp [h3]
theorem spec_AtomOk_ev (s : ByteArray) (hs : s.size ≤ 140737488351232) : Ev (fun k => spec_AtomOk.f k s) (atomOkM s) := spec_AtomOk_l s hs s.size 0 (by omega)
theorem spec_l4Reserved_eq (s : ByteArray) : spec_l4Reserved.f s = some (resL s.toList) := by
  unfold spec_l4Reserved.f resL
  generalize s.toList = l
  by_cases h1 : l = [99, 97, 115, 101]
  · rw [if_pos h1]; simp [h1]
  · rw [if_neg h1]
    by_cases h2 : l = [111, 102]
    · rw [if_pos h2]; simp [h2]
    · rw [if_neg h2]
      by_cases h3 : l = [101, 110, 100] <;> simp [h1, h2, h3]
theorem spec_l4Atom_ev (s : ByteArray) (hs : s.size ≤ 140737488351232) : Ev (fun k => spec_l4Atom.f k s) (xatomM s) := by
  unfold spec_l4Atom.f xatomM
  exact Ev.bind (spec_AtomOk_ev s hs) (ev_and (Ev.bind (ev_of (spec_l4Reserved_eq s)) (Ev.now _)))
theorem spec_l9Shape_ev (slots : Int) (h0 : 0 ≤ slots ∧ slots ≤ 400) (a b : Int) (s : ByteArray) (l : List S29) (hs : s.size ≤ 140737488351232) :
    Ev (fun k => spec_l9Shape.f k a b s l slots) (fShape a b s l.length slots) := by
  unfold spec_l9Shape.f fShape
  by_cases c1 : a = 1
  · subst c1
    rw [if_neg (show ¬ (1 : Int) = 3 by decide)]
    refine ev_pos rfl (ev_cast ?_ (Ev.bind (ev_of (spec_l1In_eq _ _ _)) (ev_and (ev_andP (Ev.now _)))))
    unfold shOk noT
    rw [if_pos rfl, len0B]; rfl
  refine ev_neg c1 ?_
  by_cases c2 : a = 2
  · subst c2
    rw [if_neg (show ¬ (2 : Int) = 3 by decide)]
    refine ev_pos rfl (ev_cast ?_ (Ev.bind (spec_l4Atom_ev s hs) (ev_and (ev_andP (Ev.now _)))))
    unfold shOk
    rw [if_neg (by decide), if_pos rfl, len0B, Bool.and_left_comm]; rfl
  refine ev_neg c2 ?_
  by_cases c3 : a = 3
  · subst c3
    rw [if_pos rfl, w64 (slots - 1) (by omega) (by omega)]
    refine ev_pos rfl (ev_cast ?_ (ev_andP (ev_andP (Ev.bind (ev_of (spec_l1In_eq _ _ _)) (Ev.now _)))))
    unfold noT
    rw [dcast (show (l.length : Int) = 0 ↔ l.length = 0 by omega)]
  refine ev_neg c3 ?_
  rw [if_neg c3]
  have key : ∀ q : Bool, (q = true ↔ a = 4 ∨ a = 5) → Ev (fun k => spec_l9Shape.j0 k (l.length : Int) a q a b s l) (decide (a ≤ 6) && shOk a b s l.length) := by
    intro q hq
    refine Ev.step (f := fun _ => if q = true then (if s.toList = ([] : List UInt8) then (if b = 0 then (some (decide ((l.length : Int) ≤ 20))) else (some false)) else (some false)) else (if a = 6 then (if s.toList = ([] : List UInt8) then (if b = 0 then ((spec_l1In.f (l.length : Int) 2 6).bind fun t114 => (some t114)) else (some false)) else (some false)) else (some false))) (fun k => by simp only [spec_l9Shape.j0]) ?_
    by_cases c4 : a = 4 ∨ a = 5
    · refine ev_pos (hq.2 c4) (ev_cast ?_ (ev_andP (ev_andP (Ev.now _))))
      unfold shOk noT
      rw [if_neg c1, if_neg c2, if_neg c3, if_pos c4, decide_eq_true (show a ≤ 6 by omega), dcast (show (l.length : Int) ≤ 20 ↔ l.length ≤ 20 by omega), Bool.and_left_comm, Bool.true_and]
    refine ev_neg (fun h => c4 (hq.1 h)) ?_
    by_cases c6 : a = 6
    · refine ev_pos c6 (ev_cast ?_ (ev_andP (ev_andP (Ev.bind (ev_of (spec_l1In_eq _ _ _)) (Ev.now _)))))
      unfold shOk noT
      rw [if_neg c1, if_neg c2, if_neg c3, if_neg c4, if_pos c6, decide_eq_true (show a ≤ 6 by omega), dcast (show (2 : Int) ≤ l.length ↔ 2 ≤ l.length by omega), dcast (show (l.length : Int) ≤ 6 ↔ l.length ≤ 6 by omega), Bool.and_left_comm, Bool.true_and]
    · refine ev_neg c6 (ev_cast ?_ (Ev.now _))
      by_cases h6 : a ≤ 6
      · rw [sh_none (by omega), Bool.and_false]
      · rw [decide_eq_false h6, Bool.false_and]
  by_cases c4 : a = 4
  · exact ev_pos c4 (key _ (by rw [beq_iff_eq]; omega))
  · exact ev_neg c4 (key _ (by rw [beq_iff_eq]; omega))
theorem rdP (l : List S29) (i : Nat) (h : i < l.length) : rd_T29 l (i : Int) = l[i] := by
  unfold rd_T29
  simp [List.getD_eq_getElem?_getD, List.getElem?_eq_getElem h]
theorem fLook_l0 (slots : Int) (d : Nat) (hd : d ≤ 9) (a b : Int) (s : ByteArray) (l : List S29) (hl : (l.length : Int) ≤ 4194304)
    (h : ∀ x ∈ l, ∀ (left : Int), left ≤ 300 → Ev (fun k => spec_l9Look.f k x.f0 x.f1 x.f2 x.f3 slots (d : Int) left) (lookF x slots d left)) (n : Nat) :
    ∀ (i : Nat) (left : Int), i + n = l.length → left ≤ 300 → Ev (fun k => spec_l9Look.l0 k slots ((d + 1 : Nat) : Int) left i a b s l) (lookFL (l.drop i) slots d left) := by
  induction n with
  | zero =>
    intro i left hi hleft
    rw [List.drop_eq_nil_of_le (by omega), lookFL]
    refine Ev.step (f := fun _ => some left) (fun k => ?_) (Ev.now _)
    simp only [spec_l9Look.l0]; rw [if_neg (by omega)]
  | succ n ih =>
    intro i left hi hleft
    have hlt : i < l.length := by omega
    have hdr : l.drop i = l[i] :: l.drop (i + 1) := List.drop_eq_getElem_cons hlt
    by_cases h0 : left ≥ 0
    · rw [hdr, lookFL, if_pos h0]
      refine Ev.step (f := fun k => ((spec_l9Look.f k l[i].f0 l[i].f1 l[i].f2 l[i].f3 slots (d : Int) left).bind fun t118 => (spec_l9Look.l0 k slots ((d + 1 : Nat) : Int) t118 ((i + 1 : Nat) : Int) a b s l))) (fun k => ?_) (Ev.bind (h l[i] (List.getElem_mem hlt) left hleft) (ih (i + 1) _ (by omega) (lookF_le _ slots d left hleft)))
      simp only [spec_l9Look.l0]
      have e1 : (((d + 1 : Nat) : Int)) - 1 = (d : Int) := by omega
      have e2 : (i : Int) + 1 = ((i + 1 : Nat) : Int) := by omega
      rw [if_pos (by omega), if_pos h0, if_pos (by omega), rdP l i hlt, w64 (((d + 1 : Nat) : Int) - 1) (by omega) (by omega), w64 ((i : Int) + 1) (by omega) (by omega), e1, e2]
    · rw [lookFL_neg _ _ _ _ (by omega)]
      refine Ev.step (f := fun _ => some left) (fun k => ?_) (Ev.now _)
      simp only [spec_l9Look.l0]; rw [if_pos (by omega), if_neg h0]
theorem fLook_all (slots : Int) (h0 : 0 ≤ slots ∧ slots ≤ 400) : ∀ x, (P_budI x : Int) ≤ 2097152 → ∀ (d : Nat), d ≤ 10 → ∀ left : Int, left ≤ 300 → Ev (fun k => spec_l9Look.f k x.f0 x.f1 x.f2 x.f3 slots (d : Int) left) (lookF x slots d left) := by
  refine P_indI (fun a b s l ih hb d hd left hleft => ?_)
  rw [P_budI] at hb
  have hll := P_budIL_len l
  have bad : ∀ d' : Int, Ev (fun k => spec_l9Look.j0 k slots d' left true a b s l) (-1) := fun d' => Ev.step (f := fun _ => some (-1)) (fun k => by simp only [spec_l9Look.j0]; rw [if_pos trivial]) (Ev.now _)
  show Ev (fun k => spec_l9Look.f k a b s l slots (d : Int) left) _
  cases d with
  | zero =>
    rw [lookF]
    exact Ev.step (fun k => by simp only [spec_l9Look.f]; rw [if_pos (by omega)]) (bad _)
  | succ d =>
    rw [lookF]
    by_cases hl1 : left < 1
    · rw [if_pos (.inl hl1)]
      exact Ev.step (fun k => by simp only [spec_l9Look.f]; rw [if_neg (by omega), if_pos hl1]) (bad _)
    have es := spec_l9Shape_ev slots h0 a b s l (by omega)
    refine Ev.step (f := fun k => (spec_l9Shape.f k a b s l slots).bind fun t116 => (spec_l9Look.j0 k slots ((d + 1 : Nat) : Int) left (!t116) a b s l)) (fun k => by simp only [spec_l9Look.f]; rw [if_neg (by omega), if_neg hl1]) (Ev.bind es ?_)
    cases hs : fShape a b s l.length slots with
    | false =>
      rw [if_pos (.inr rfl)]
      exact bad _
    | true =>
      rw [if_neg (by simp; omega)]
      refine Ev.step (f := fun k => spec_l9Look.l0 k slots ((d + 1 : Nat) : Int) (left - 1) 0 a b s l) (fun k => by simp only [spec_l9Look.j0]; rw [if_neg (by decide), w64 _ (by omega) (by omega)]) ?_
      have := fLook_l0 slots d (by omega) a b s l (by omega) (fun x hx lf hlf => ih x hx (by have := P_budI_mem l x hx; omega) d (by omega) lf hlf) l.length 0 (left - 1) (by omega) (by omega)
      rw [List.drop_zero] at this
      exact this
theorem slots_l (a b : Int) (s : ByteArray) (l : List S29) (hl : (P_budIL l : Int) ≤ 4194304) (h : ∀ y ∈ l, Ev (fun k => spec_l9Slots.f k y.f0 y.f1 y.f2 y.f3) (slotsM y)) (n : Nat) :
    ∀ (i : Nat) (acc : List Int), i + n = l.length → acc.length + (slotsML (l.drop i)).length ≤ 9000000 → Ev (fun k => spec_l9Slots.l0 k acc i a b s l) (acc ++ slotsML (l.drop i)) := by
  have hll := P_budIL_len l
  induction n with
  | zero =>
    intro i acc hi hb
    refine Ev.step (f := fun _ => some acc) (fun k => ?_) (ev_cast ?_ (Ev.now _))
    · simp only [spec_l9Slots.l0]; rw [if_neg (by omega)]
    · rw [List.drop_eq_nil_of_le (by omega), slotsML, List.append_nil]
  | succ n ih =>
    intro i acc hi hb
    have hlt : i < l.length := by omega
    have hdr : l.drop i = l[i] :: l.drop (i + 1) := List.drop_eq_getElem_cons hlt
    rw [hdr, slotsML, List.length_append] at hb
    rw [hdr, slotsML, ← List.append_assoc]
    refine Ev.step (f := fun k => ((spec_l9Slots.f k l[i].f0 l[i].f1 l[i].f2 l[i].f3).bind fun t127 => (if acc.length + t127.length < 17592186044416 then (spec_l9Slots.l0 k (acc ++ t127) ((i + 1 : Nat) : Int) a b s l) else (none)))) (fun k => ?_) (Ev.bind (h l[i] (List.getElem_mem hlt)) (ev_pos (by omega) (ih (i + 1) _ (by omega) (by rw [List.length_append]; omega))))
    simp only [spec_l9Slots.l0]
    have e2 : (i : Int) + 1 = ((i + 1 : Nat) : Int) := by omega
    rw [if_pos (by omega), if_pos (by omega), rdP l i hlt, w64 ((i : Int) + 1) (by omega) (by omega), e2]
theorem slots_all : ∀ x, (P_budI x : Int) ≤ 4194304 → Ev (fun k => spec_l9Slots.f k x.f0 x.f1 x.f2 x.f3) (slotsM x) := by
  refine P_indI (fun a b s l ih hb => ?_)
  rw [P_budI] at hb
  have hlen := slotsL_len l
  have hL : ∀ acc : List Int, acc.length ≤ 1 → Ev (fun k => spec_l9Slots.j1 k acc a b s l) (acc ++ slotsML l) := fun acc ha => by
    have := slots_l a b s l (by omega) (fun y hy => ih y hy (by have := P_budI_mem l y hy; omega)) l.length 0 acc (by omega) (by rw [List.drop_zero]; omega)
    rw [List.drop_zero] at this
    exact Ev.step (f := fun k => spec_l9Slots.l0 k acc 0 a b s l) (fun k => by simp only [spec_l9Slots.j1]) this
  show Ev (fun k => spec_l9Slots.f k a b s l) _
  rw [slotsM]
  have key : ∀ q : Bool, (q = true ↔ a = 3 ∧ b ≠ -1) → Ev (fun k => spec_l9Slots.j0 k [] q a b s l) ((if a = 3 ∧ b ≠ -1 then [b] else []) ++ slotsML l) := by
    intro q hq
    by_cases c : a = 3 ∧ b ≠ -1
    · rw [if_pos c]
      refine Ev.step (f := fun k => spec_l9Slots.j1 k [b] a b s l) (fun k => ?_) (hL [b] (by simp))
      simp only [spec_l9Slots.j0]; rw [if_pos (hq.2 c), if_pos (by simp)]; rfl
    · rw [if_neg c]
      refine Ev.step (f := fun k => spec_l9Slots.j1 k [] a b s l) (fun k => ?_) (hL [] (by simp))
      simp only [spec_l9Slots.j0]; rw [if_neg (fun h => c (hq.1 h))]
  by_cases c3 : a = 3
  · refine Ev.step (f := fun k => spec_l9Slots.j0 k [] (b != (-1)) a b s l) (fun k => ?_) (key _ (by rw [bne_iff_ne]; exact ⟨fun h => ⟨c3, h⟩, fun h => h.2⟩))
    simp only [spec_l9Slots.f, Option.bind_some]; rw [if_pos c3]
  · refine Ev.step (f := fun k => spec_l9Slots.j0 k [] false a b s l) (fun k => ?_) (key _ ⟨fun h => (by cases h), fun h => absurd h.1 c3⟩)
    simp only [spec_l9Slots.f, Option.bind_some]; rw [if_neg c3]
theorem dup_l1 (l : List Int) (hl : (l.length : Int) ≤ 8388608) (i : Nat) (hi : i < l.length) (r : Bool) (hnext : ¬ l[i] ∈ l.take i → Ev (fun k => spec_PatFits.l0 k l ((i + 1 : Nat) : Int)) r) (hstop : l[i] ∈ l.take i → r = false) (n : Nat) :
    ∀ j : Nat, j + n = i → ¬ l[i] ∈ l.take j → Ev (fun k => spec_PatFits.l1 k l i j) r := by
  induction n with
  | zero =>
    intro j hj hn
    have e : j = i := by omega
    subst e
    refine Ev.step (fun k => ?_) (hnext hn)
    simp only [spec_PatFits.l1]
    have e2 : (j : Int) + 1 = ((j + 1 : Nat) : Int) := by omega
    rw [if_neg (by omega), w64 ((j : Int) + 1) (by omega) (by omega), e2]
  | succ n ih =>
    intro j hj hn
    have hjl : j < l.length := by omega
    refine Ev.step (f := fun k => (if l[j] = l[i] then (some false) else (spec_PatFits.l1 k l i ((j + 1 : Nat) : Int)))) (fun k => ?_) ?_
    · simp only [spec_PatFits.l1]
      have e2 : (j : Int) + 1 = ((j + 1 : Nat) : Int) := by omega
      rw [if_pos (by omega), if_pos (by omega), if_pos (by omega), if_pos (by omega), if_pos (by omega), rdN l j hjl, rdN l i hi, w64 ((j : Int) + 1) (by omega) (by omega), e2]
    · have htk : l.take (j + 1) = l.take j ++ [l[j]] := List.take_succ_eq_append_getElem hjl
      by_cases h : l[j] = l[i]
      · have hm : l[i] ∈ l.take i := by
          rw [← h]
          rw [List.mem_take_iff_getElem]
          exact ⟨j, by omega, rfl⟩
        rw [hstop hm]
        exact ev_pos h (Ev.now _)
      · refine ev_neg h (ih (j + 1) (by omega) ?_)
        rw [htk, List.mem_append, List.mem_singleton]
        rintro (h2 | h2)
        · exact hn h2
        · exact h h2.symm
theorem dup_l0 (l : List Int) (hl : (l.length : Int) ≤ 8388608) (d : Nat) : ∀ (i : Nat), i + d = l.length → (l.take i).Nodup → Ev (fun k => spec_PatFits.l0 k l i) (decide l.Nodup) := by
  induction d with
  | zero =>
    intro i hi hn
    refine Ev.step (f := fun _ => some true) (fun k => ?_) (ev_cast ?_ (Ev.now _))
    · simp only [spec_PatFits.l0]; rw [if_neg (by omega)]
    · rw [List.take_of_length_le (by omega)] at hn
      exact (decide_eq_true hn).symm
  | succ d ih =>
    intro i hi hn
    have hlt : i < l.length := by omega
    have ht := nd_app (l.take i) l[i]
    have htk : l.take i ++ [l[i]] = l.take (i + 1) := (List.take_succ_eq_append_getElem hlt).symm
    rw [htk] at ht
    refine Ev.step (f := fun k => spec_PatFits.l1 k l i 0) (fun k => by simp only [spec_PatFits.l0]; rw [if_pos (by omega)]) ?_
    refine dup_l1 l hl i hlt _ (fun hm => ih (i + 1) (by omega) (ht.2 ⟨hn, hm⟩)) (fun hm => decide_eq_false (fun h => ?_)) i 0 (by omega) (by simp)
    have h2 : (l.take (i + 1)).Nodup := by
      have e2 : (l.take (i + 1) ++ l.drop (i + 1)).Nodup := by rw [List.take_append_drop]; exact h
      exact nd_left e2
    exact (ht.1 h2).2 hm
def fitsM (x : S29) (slots : Int) : Bool := (decide (0 ≤ slots) && decide (slots ≤ 400)) && (decide (0 ≤ lookF x slots 10 300) && decide (slotsM x).Nodup)
theorem spec_PatFits_ev (x : S29) (slots : Int) (hb : (P_budI x : Int) ≤ 2097152) : Ev (fun k => spec_PatFits.f k x.f0 x.f1 x.f2 x.f3 slots) (fitsM x slots) := by
  unfold spec_PatFits.f fitsM
  have bad : Ev (fun k => spec_PatFits.j0 k true x.f0 x.f1 x.f2 x.f3) false := Ev.step (f := fun _ => some false) (fun k => by simp only [spec_PatFits.j0]; rw [if_pos trivial]) (Ev.now _)
  refine Ev.bind (ev_of (spec_l1In_eq _ _ _)) ?_
  by_cases hs : 0 ≤ slots ∧ slots ≤ 400
  · rw [decide_eq_true hs.1, decide_eq_true hs.2]
    refine ev_pos rfl (Ev.bind (fLook_all slots hs x hb 10 (by omega) 300 (by omega)) ?_)
    by_cases h0 : 0 ≤ lookF x slots 10 300
    · rw [decide_eq_true h0, decide_eq_false (show ¬ lookF x slots 10 300 < 0 by omega)]
      have hv := slots_len x
      refine Ev.step (f := fun k => (spec_l9Slots.f k x.f0 x.f1 x.f2 x.f3).bind fun t136 => (spec_PatFits.l0 k t136 0)) (fun k => by simp only [spec_PatFits.j0]; rw [if_neg (by decide)]) (Ev.bind (slots_all x (by omega)) ?_)
      exact dup_l0 (slotsM x) (by omega) (slotsM x).length 0 (by omega) (by rw [List.take_zero]; exact List.nodup_nil)
    · rw [decide_eq_false h0, decide_eq_true (show lookF x slots 10 300 < 0 by omega)]
      exact bad
  · have hf : (decide (0 ≤ slots) && decide (slots ≤ 400)) = false := by
      rw [← dec_and]; exact decide_eq_false hs
    rw [hf]
    exact ev_neg (by decide) bad
theorem impl_inRange_eq (a b c : Int) : impl_inRange.f a b c = some (decide (b ≤ a) && decide (a ≤ c)) := by
  unfold impl_inRange.f
  by_cases h : b ≤ a <;> simp [h]
theorem impl_isSmall_eq (c : Int) : impl_isSmall.f c = some (lowB c) := by
  unfold impl_isSmall.f lowB
  by_cases h : 97 ≤ c <;> simp [h]
theorem impl_isFigure_eq (c : Int) : impl_isFigure.f c = some (digB c) := by
  unfold impl_isFigure.f digB
  by_cases h : 48 ≤ c <;> simp [h]
theorem impl_AtomOk_l (s : ByteArray) (hs : s.size ≤ 140737488351232) (d : Nat) : ∀ i : Nat, i + d = s.size → Ev (fun k => impl_AtomOk.l0 k s i) (atomFrom s i && (decide (1 ≤ (s.size : Int)) && decide ((s.size : Int) ≤ 20))) := by
  induction d with
  | zero =>
    intro i hi
    refine Ev.step (f := fun _ => some (decide (1 ≤ (s.size : Int)) && decide ((s.size : Int) ≤ 20))) (fun k => ?_) (ev_cast ?_ (Ev.now _))
    · simp only [impl_AtomOk.l0]
      rw [if_neg (by omega), impl_inRange_eq]; rfl
    · rw [atomFrom_end s i (by omega)]; rfl
  | succ d ih =>
    intro i hi
    have hlt : i < s.size := by omega
    have hn := ih (i + 1) (by omega)
    rw [atomFrom_step s i hlt]
    by_cases h1 : lowB (bt s i) = true
    · refine Ev.step (fun k => ?_) (ev_cast ?_ hn)
      · simp only [impl_AtomOk.l0]
        rw [if_pos (by omega), if_pos (by omega), impl_isSmall_eq]
        simp only [Option.bind_some]
        rw [if_pos h1, w64 _ (by omega) (by omega)]
        rfl
      · rw [h1]; rfl
    · have h1' : lowB (bt s i) = false := by simpa using h1
      by_cases h0 : i = 0
      · refine Ev.step (f := fun _ => some false) (fun k => ?_) (ev_cast ?_ (Ev.now _))
        · simp only [impl_AtomOk.l0]
          rw [if_pos (by omega), if_pos (by omega), impl_isSmall_eq]
          simp only [Option.bind_some]
          rw [if_neg h1, if_pos (by omega)]
        · rw [h1']; simp [h0]
      · by_cases h2 : digB (bt s i) = true
        · refine Ev.step (fun k => ?_) (ev_cast ?_ hn)
          · simp only [impl_AtomOk.l0]
            rw [if_pos (by omega), if_pos (by omega), impl_isSmall_eq]
            simp only [Option.bind_some]
            rw [if_neg h1, if_neg (by omega), impl_isFigure_eq]
            simp only [Option.bind_some]
            rw [if_pos h2, w64 _ (by omega) (by omega)]
            rfl
          · rw [h2]; simp [h0]
        · have h2' : digB (bt s i) = false := by simpa using h2
          by_cases h3 : bt s i = 95
          · refine Ev.step (fun k => ?_) (ev_cast ?_ hn)
            · simp only [impl_AtomOk.l0]
              rw [if_pos (by omega), if_pos (by omega), impl_isSmall_eq]
              simp only [Option.bind_some]
              rw [if_neg h1, if_neg (by omega), impl_isFigure_eq]
              simp only [Option.bind_some]
              rw [if_neg h2, if_pos h3, w64 _ (by omega) (by omega)]
              rfl
            · simp [h0, h3]
          · refine Ev.step (f := fun _ => some false) (fun k => ?_) (ev_cast ?_ (Ev.now _))
            · simp only [impl_AtomOk.l0]
              rw [if_pos (by omega), if_pos (by omega), impl_isSmall_eq]
              simp only [Option.bind_some]
              rw [if_neg h1, if_neg (by omega), impl_isFigure_eq]
              simp only [Option.bind_some]
              rw [if_neg h2, if_neg h3]
            · rw [h1', h2']; simp [h3]
theorem impl_AtomOk_ev (s : ByteArray) (hs : s.size ≤ 140737488351232) : Ev (fun k => impl_AtomOk.f k s) (atomOkM s) := impl_AtomOk_l s hs s.size 0 (by omega)
theorem impl_xAtomOk_ev (s : ByteArray) (hs : s.size ≤ 140737488351232) : Ev (fun k => impl_xAtomOk.f k s) (xatomM s) := by
  unfold impl_xAtomOk.f xatomM
  refine Ev.bind (impl_AtomOk_ev s hs) (ev_and (ev_of ?_))
  unfold resL
  generalize s.toList = l
  by_cases h1 : l = [99, 97, 115, 101]
  · rw [if_pos h1]; simp [h1]
  · rw [if_neg h1]
    by_cases h2 : l = [111, 102]
    · rw [if_pos h2]; simp [h2]
    · rw [if_neg h2]
      by_cases h3 : l = [101, 110, 100] <;> simp [h1, h2, h3]
theorem impl_isOp_eq (s : ByteArray) : impl_isOp.f s = some (opL s.toList) := by
  unfold impl_isOp.f opL
  generalize s.toList = l
  by_cases h1 : l = [43]
  · rw [if_pos h1]; simp [h1]
  rw [if_neg h1]
  by_cases h2 : l = [45]
  · rw [if_pos h2]; simp [h2]
  rw [if_neg h2]
  by_cases h3 : l = [42]
  · rw [if_pos h3]; simp [h3]
  rw [if_neg h3]
  by_cases h4 : l = [61, 61]
  · rw [if_pos h4]; simp [h4]
  rw [if_neg h4]
  by_cases h5 : l = [60] <;> simp [h1, h2, h3, h4, h5]
theorem impl_isLarge_eq (c : Int) : impl_isLarge.f c = some (largeB c) := by
  unfold impl_isLarge.f largeB
  by_cases h : c ≥ 65
  · rw [if_pos h]
    by_cases h2 : c ≤ 90
    · rw [if_pos h2]; simp [h2]; omega
    · rw [if_neg h2]; simp [h2]; rfl
  · rw [if_neg h]; simp; rw [decide_eq_false (by omega)]; simp; rfl
theorem impl_isWord_eq (c : Int) : impl_isWordByte.f c = some (lowB c || (largeB c || digB c)) := by
  unfold impl_isWordByte.f
  rw [impl_isSmall_eq, impl_isLarge_eq, impl_isFigure_eq]
  cases lowB c <;> cases largeB c <;> rfl
theorem impl_varOk_ev (s : ByteArray) (hs : s.size ≤ 140737488351232) : Ev (fun k => impl_varOk.f k s) (varOkM s) := by
  rw [← varOk_same]
  unfold impl_varOk.f
  refine all_loopB (fun k i => impl_varOk.l0 k s i) (varQ s) s.size (in20 s && largeB (bt s 0)) ?_ ?_ s.size 0 (by omega)
  · intro i hi r hr hn
    have e1 := impl_isWord_eq (bt s i)
    have hw : wrap64 ((i : Int) + 1) = ((i + 1 : Nat) : Int) := by rw [w64 _ (by omega) (by omega)]; rfl
    have hq : varQ s i = (lowB (bt s i) || (largeB (bt s i) || digB (bt s i))) := rfl
    rw [← hq] at e1
    cases g : varQ s i with
    | true =>
      refine Ev.step (fun k => ?_) (hr g)
      simp only [impl_varOk.l0]
      rw [if_pos (by omega), if_pos (by omega), e1, g, hw]
      rfl
    | false =>
      refine Ev.step (f := fun _ => some false) (fun k => ?_) (ev_cast (hn g).symm (Ev.now _))
      simp only [impl_varOk.l0]
      rw [if_pos (by omega), if_pos (by omega), e1, g]
      rfl
  · refine Ev.step (f := fun _ => some (in20 s && largeB (bt s 0))) (fun k => ?_) (Ev.now _)
    simp only [impl_varOk.l0]
    rw [if_neg (by omega), impl_inRange_eq, impl_isLarge_eq]
    have hi : (decide (1 ≤ (s.size : Int)) && decide ((s.size : Int) ≤ 20)) = in20 s := rfl
    rw [hi]
    simp only [Option.bind_some]
    cases h : in20 s with
    | true =>
      unfold in20 at h
      rw [Bool.and_eq_true, decide_eq_true_eq, decide_eq_true_eq] at h
      rw [if_pos rfl, if_pos (by omega)]; rfl
    | false => rw [if_neg (by decide)]; rfl
theorem impl_shapeOk_j0 (a : Int) (s : ByteArray) (n : Nat) (hs : s.size ≤ 140737488351232) (h3 : ¬ (a = 1 ∨ a = 2 ∨ a = 3)) (b : Int) (q : Bool) (hq : q = true ↔ a = 4 ∨ a = 5) :
    Ev (fun k => impl_shapeOk.j0 k b s (n : Int) a q) (shOk a b s n) := by
  unfold shOk noT
  rw [if_neg (by omega), if_neg (by omega), if_neg (by omega)]
  refine Ev.step (f := fun k => if q = true then (if b = 0 then (if s.toList = ([] : List UInt8) then (some (decide ((n : Int) ≤ 20))) else (some false)) else (some false)) else (if a = 6 then (if b = 0 then (if s.toList = ([] : List UInt8) then ((impl_inRange.f (n : Int) 2 6).bind fun t251 => (some t251)) else (some false)) else (some false)) else (if a = 7 then (if b = 0 then ((impl_isOp.f s).bind fun t252 => (if t252 = true then (some ((n : Int) == 2)) else (some false))) else (some false)) else (if a = 8 then (if b = 0 then ((impl_xAtomOk.f k s).bind fun t253 => (if t253 = true then (some (decide ((n : Int) ≤ 4))) else (some false))) else (some false)) else (if a = 9 then (if b = 0 then (if s.toList = ([] : List UInt8) then (some ((n : Int) == 1)) else (some false)) else (some false)) else (some false)))))) (fun k => by simp only [impl_shapeOk.j0]) ?_
  by_cases c4 : a = 4 ∨ a = 5
  · rw [if_pos c4]
    refine ev_pos (hq.2 c4) (ev_cast ?_ (ev_andP (ev_andP (Ev.now _))))
    rw [dcast (show (n : Int) ≤ 20 ↔ n ≤ 20 by omega)]
  rw [if_neg c4]
  refine ev_neg (fun h => c4 (hq.1 h)) ?_
  by_cases c6 : a = 6
  · rw [if_pos c6]
    refine ev_pos c6 (ev_cast ?_ (ev_andP (ev_andP (Ev.bind (ev_of (impl_inRange_eq _ _ _)) (Ev.now _)))))
    rw [dcast (show (2 : Int) ≤ n ↔ 2 ≤ n by omega), dcast (show (n : Int) ≤ 6 ↔ n ≤ 6 by omega)]
  rw [if_neg c6]
  refine ev_neg c6 ?_
  by_cases c7 : a = 7
  · rw [if_pos c7]
    refine ev_pos c7 (ev_cast ?_ (ev_andP (Ev.bind (ev_of (impl_isOp_eq s)) (ev_and (Ev.now _)))))
    rw [len2B]
  rw [if_neg c7]
  refine ev_neg c7 ?_
  by_cases c8 : a = 8
  · rw [if_pos c8]
    refine ev_pos c8 (ev_cast ?_ (ev_andP (Ev.bind (impl_xAtomOk_ev s hs) (ev_and (Ev.now _)))))
    rw [dcast (show (n : Int) ≤ 4 ↔ n ≤ 4 by omega)]
  rw [if_neg c8]
  refine ev_neg c8 ?_
  by_cases c9 : a = 9
  · refine ev_pos c9 ?_
    rw [if_pos c9]
    refine ev_cast ?_ (ev_andP (ev_andP (Ev.now _)))
    rw [len1B]
  · refine ev_neg c9 ?_
    rw [if_neg c9, Bool.and_false]
    exact Ev.now _
theorem impl_shapeOk_ev (a b : Int) (s : ByteArray) (n : Nat) (hs : s.size ≤ 140737488351232) : Ev (fun k => impl_shapeOk.f k a b s (n : Int)) (shOk a b s n) := by
  unfold impl_shapeOk.f
  by_cases c1 : a = 1
  · unfold shOk noT
    rw [if_pos c1]
    refine ev_pos c1 (ev_cast ?_ (Ev.bind (ev_of (impl_inRange_eq _ _ _)) (ev_and (ev_andP (Ev.now _)))))
    rw [len0B]
  refine ev_neg c1 ?_
  by_cases c2 : a = 2
  · unfold shOk
    rw [if_neg c1, if_pos c2]
    refine ev_pos c2 (ev_cast ?_ (ev_andP (Ev.bind (impl_xAtomOk_ev s hs) (ev_and (Ev.now _)))))
    rw [len0B]
  refine ev_neg c2 ?_
  by_cases c3 : a = 3
  · unfold shOk
    rw [if_neg c1, if_neg c2, if_pos c3]
    refine ev_pos c3 (ev_cast ?_ (ev_andP (Ev.bind (impl_varOk_ev s hs) (ev_and (Ev.now _)))))
    rw [len0B]
  refine ev_neg c3 ?_
  by_cases c4 : a = 4
  · exact ev_pos c4 (impl_shapeOk_j0 a s n hs (by omega) b _ (by rw [beq_iff_eq]; omega))
  · exact ev_neg c4 (impl_shapeOk_j0 a s n hs (by omega) b _ (by rw [beq_iff_eq]; omega))
theorem dcast2 {p q : Prop} [Decidable p] [Decidable q] (h : p ↔ q) : decide p = decide q := decide_eq_decide.2 h
theorem iIndex_l (l : List Int) (hl : (l.length : Int) ≤ 8388608) (s : Int) (d : Nat) : ∀ (i : Nat), i + d = l.length → ∃ r, Ev (fun k => slices_Index_int_int.l0 k l s (l.length : Int) i) r ∧ decide (r ≥ 0) = decide (s ∈ l.drop i) := by
  induction d with
  | zero =>
    intro i hi
    refine ⟨-1, Ev.step (f := fun _ => some (-1)) (fun k => ?_) (Ev.now _), ?_⟩
    · simp only [slices_Index_int_int.l0]; rw [if_neg (by omega)]
    · rw [List.drop_eq_nil_of_le (by omega)]; simp
  | succ d ih =>
    intro i hi
    have hlt : i < l.length := by omega
    have hd : l.drop i = l[i] :: l.drop (i + 1) := List.drop_eq_getElem_cons hlt
    have st : ∀ r, Ev (fun k => (if s = l[i] then (some (i : Int)) else (slices_Index_int_int.l0 k l s (l.length : Int) ((i + 1 : Nat) : Int)))) r → Ev (fun k => slices_Index_int_int.l0 k l s (l.length : Int) i) r := fun r er => Ev.step (fun k => by
      simp only [slices_Index_int_int.l0]
      have e1 : (i : Int) + 1 = ((i + 1 : Nat) : Int) := by omega
      rw [if_pos (by omega), if_pos (by omega), if_pos (by omega), rdN l i hlt, w64 ((i : Int) + 1) (by omega) (by omega), e1]) er
    rw [hd]
    by_cases h : s = l[i]
    · refine ⟨(i : Int), st _ (ev_pos h (Ev.now _)), ?_⟩
      rw [h, decide_eq_true (show (i : Int) ≥ 0 by omega)]
      exact (decide_eq_true List.mem_cons_self).symm
    · obtain ⟨r, e, hr⟩ := ih (i + 1) (by omega)
      refine ⟨r, st _ (ev_neg h e), ?_⟩
      rw [hr]
      refine dcast2 ?_
      rw [List.mem_cons]
      exact ⟨fun h3 => .inr h3, fun h3 => h3.elim (fun e => absurd e h) id⟩
theorem iContains_ev (l : List Int) (hl : (l.length : Int) ≤ 8388608) (s : Int) : Ev (fun k => slices_Contains_int_int.f k l s) (decide (s ∈ l)) := by
  obtain ⟨r, e, hr⟩ := iIndex_l l hl s l.length 0 (by omega)
  unfold slices_Contains_int_int.f
  rw [List.drop_zero] at hr
  unfold slices_Index_int_int.f
  exact ev_cast hr (Ev.bind e (Ev.now _))
def fl (l : List Int) : List Int := l.filter (fun z => decide (z ≠ -1))
theorem fl_app (l m : List Int) : fl (l ++ m) = fl l ++ fl m := List.filter_append ..
theorem fl_mem {l : List Int} {z : Int} (h : z ≠ -1) : z ∈ fl l ↔ z ∈ l := by
  unfold fl
  rw [List.mem_filter]
  simp [h]
/-- What a run over a pattern has come to: of x, from count c and slots ns. -/
def FP (x : S29) (slots : Int) (d c : Nat) (ns : List Int) (ok : Bool) (ns2 : List Int) (c2 : Int) : Prop :=
  (ok = true → c2 ≤ 300 ∧ 0 ≤ c2 ∧ lookF x slots d (300 - c) = 300 - c2 ∧ fl ns2 = fl ns ++ slotsM x ∧ (fl ns ++ slotsM x).Nodup ∧ (ns2.length : Int) ≤ c2) ∧ (ok = false → lookF x slots d (300 - c) < 0 ∨ ¬ (fl ns ++ slotsM x).Nodup)
theorem fp_loop (slots : Int) (dp : Int) (d : Nat) (hd : dp + d = 10) (h1 : 1 ≤ dp) (l : List S29) (hl : (l.length : Int) ≤ 4194304)
    (h : ∀ x ∈ l, ∀ (c : Nat) (ns : List Int), c ≤ 300 → ns.length ≤ c → (fl ns).Nodup → ∃ ok ns2 c2, Ev (fun k => impl_fitter_fits.f k slots (c : Int) ns x.f0 x.f1 x.f2 x.f3 (dp + 1)) (ok, ns2, slots, c2) ∧ FP x slots d c ns ok ns2 c2) (n : Nat) :
    ∀ (i c : Nat) (ns : List Int), i + n = l.length → c ≤ 300 → ns.length ≤ c → (fl ns).Nodup → ∃ ok ns2 c2, Ev (fun k => impl_fitter_fits.l0 k dp l (l.length : Int) i slots (c : Int) ns) (ok, ns2, slots, c2) ∧
      (ok = true → c2 ≤ 300 ∧ 0 ≤ c2 ∧ lookFL (l.drop i) slots d (300 - c) = 300 - c2 ∧ fl ns2 = fl ns ++ slotsML (l.drop i) ∧ (fl ns ++ slotsML (l.drop i)).Nodup ∧ (ns2.length : Int) ≤ c2) ∧ (ok = false → lookFL (l.drop i) slots d (300 - c) < 0 ∨ ¬ (fl ns ++ slotsML (l.drop i)).Nodup) := by
  induction n with
  | zero =>
    intro i c ns hi hc hn hnd
    refine ⟨true, ns, c, Ev.step (f := fun _ => some (true, ns, slots, (c : Int))) (fun k => by simp only [impl_fitter_fits.l0]; rw [if_neg (by omega)]) (Ev.now _), fun _ => ?_, fun h => (by cases h)⟩
    rw [List.drop_eq_nil_of_le (by omega), lookFL, slotsML, List.append_nil]
    exact ⟨by omega, by omega, rfl, rfl, hnd, by omega⟩
  | succ n ih =>
    intro i c ns hi hc hn hnd
    have hlt : i < l.length := by omega
    have hdr : l.drop i = l[i] :: l.drop (i + 1) := List.drop_eq_getElem_cons hlt
    obtain ⟨ok, ns1, c1, e, hok, hno⟩ := h l[i] (List.getElem_mem hlt) c ns hc hn hnd
    have st : ∀ r, Ev (fun k => if ok = true then (impl_fitter_fits.l0 k dp l (l.length : Int) ((i + 1 : Nat) : Int) slots c1 ns1) else (some (false, ns1, slots, c1))) r → Ev (fun k => impl_fitter_fits.l0 k dp l (l.length : Int) i slots (c : Int) ns) r := by
      intro r er
      refine Ev.step (f := fun k => (impl_fitter_fits.f k slots (c : Int) ns l[i].f0 l[i].f1 l[i].f2 l[i].f3 (dp + 1)).bind fun bt188 => (if bt188.1 = true then (impl_fitter_fits.l0 k dp l (l.length : Int) ((i + 1 : Nat) : Int) bt188.2.2.1 bt188.2.2.2 bt188.2.1) else (some (false, bt188.2.1, bt188.2.2.1, bt188.2.2.2)))) (fun k => ?_) (Ev.bind e er)
      simp only [impl_fitter_fits.l0]
      have e1 : (i : Int) + 1 = ((i + 1 : Nat) : Int) := by omega
      rw [if_pos (by omega), if_pos (by omega), if_pos (by omega), rdP l i hlt, w64 (dp + 1) (by omega) (by omega), w64 ((i : Int) + 1) (by omega) (by omega), e1]
    rw [hdr, lookFL, if_pos (by omega), slotsML, ← List.append_assoc]
    cases ok with
    | true =>
      obtain ⟨a1, a2, a3, a4, a5, a6⟩ := hok rfl
      obtain ⟨c1n, rfl⟩ : ∃ m : Nat, c1 = (m : Int) := ⟨c1.toNat, by omega⟩
      obtain ⟨ok2, ns2, c2, e2, q1, q2⟩ := ih (i + 1) c1n ns1 (by omega) (by omega) (by omega) (by rw [a4]; exact a5)
      rw [a3]
      rw [a4] at q1 q2
      exact ⟨ok2, ns2, c2, st _ (ev_pos rfl e2), q1, q2⟩
    | false =>
      refine ⟨false, ns1, c1, st _ (ev_neg (by decide) (Ev.now _)), fun h => (by cases h), fun _ => ?_⟩
      rcases hno rfl with h2 | h2
      · exact .inl (by rw [lookFL_neg _ _ _ _ h2]; exact h2)
      · exact .inr (fun h3 => h2 (nd_left h3))
theorem fp_all (slots : Int) (hsl : 0 ≤ slots ∧ slots ≤ 400) : ∀ x, (P_budI x : Int) ≤ 2097152 → ∀ (d : Nat) (dp : Int), dp + d = 11 → 1 ≤ dp → ∀ (c : Nat) (ns : List Int), c ≤ 300 → ns.length ≤ c → (fl ns).Nodup →
    ∃ ok ns2 c2, Ev (fun k => impl_fitter_fits.f k slots (c : Int) ns x.f0 x.f1 x.f2 x.f3 dp) (ok, ns2, slots, c2) ∧ FP x slots d c ns ok ns2 c2 := by
  refine P_indI (fun a b s l ih hb d dp hd h1 c ns hc hn hnd => ?_)
  rw [P_budI] at hb
  have hll := P_budIL_len l
  show ∃ ok ns2 c2, Ev (fun k => impl_fitter_fits.f k slots (c : Int) ns a b s l dp) (ok, ns2, slots, c2) ∧ FP ⟨a, b, s, l⟩ slots d c ns ok ns2 c2
  have hc1 : (c : Int) + 1 = ((c + 1 : Nat) : Int) := by omega
  have bad : Ev (fun k => impl_fitter_fits.j0 k dp true slots ((c + 1 : Nat) : Int) ns a b s l) (false, ns, slots, ((c + 1 : Nat) : Int)) := Ev.step (f := fun _ => some (false, ns, slots, ((c + 1 : Nat) : Int))) (fun k => by simp only [impl_fitter_fits.j0]; rw [if_pos trivial]) (Ev.now _)
  have no : (lookF ⟨a, b, s, l⟩ slots d (300 - c) < 0) → FP ⟨a, b, s, l⟩ slots d c ns false ns ((c + 1 : Nat) : Int) := fun h => ⟨fun h => (by cases h), fun _ => .inl h⟩
  cases d with
  | zero =>
    refine ⟨false, ns, ((c + 1 : Nat) : Int), Ev.step (fun k => ?_) bad, no (by rw [lookF]; omega)⟩
    simp only [impl_fitter_fits.f]
    rw [if_pos (by omega), w64 ((c : Int) + 1) (by omega) (by omega), hc1]
  | succ d =>
    have hlook : lookF ⟨a, b, s, l⟩ slots (d + 1) (300 - c) = if (300 - c : Int) < 1 ∨ fShape a b s l.length slots = false then -1 else lookFL l slots d (300 - c - 1) := by rw [lookF]
    have top : ∀ (q : Bool) r, q = decide (((c + 1 : Nat) : Int) > 300) → Ev (fun k => impl_fitter_fits.j0 k dp q slots ((c + 1 : Nat) : Int) ns a b s l) r → Ev (fun k => impl_fitter_fits.f k slots (c : Int) ns a b s l dp) r := by
      intro q r hq er
      subst hq
      refine Ev.step (fun k => ?_) er
      simp only [impl_fitter_fits.f]
      rw [if_neg (by omega), w64 ((c : Int) + 1) (by omega) (by omega), hc1]
    by_cases hcc : ((c + 1 : Nat) : Int) > 300
    · exact ⟨false, ns, ((c + 1 : Nat) : Int), top true _ (decide_eq_true hcc).symm bad, no (by rw [hlook, if_pos (.inl (by omega))]; omega)⟩
    replace top := fun r => top false r (decide_eq_false hcc).symm
    have hcc2 : (300 : Int) - c - 1 = 300 - ((c + 1 : Nat) : Int) := by omega
    have fail : fShape a b s l.length slots = false → ∀ r, r = (false, ns, slots, ((c + 1 : Nat) : Int)) → Ev (fun k => impl_fitter_fits.j0 k dp false slots ((c + 1 : Nat) : Int) ns a b s l) r → ∃ ok ns2 c2, Ev (fun k => impl_fitter_fits.f k slots (c : Int) ns a b s l dp) (ok, ns2, slots, c2) ∧ FP ⟨a, b, s, l⟩ slots (d + 1) c ns ok ns2 c2 := by
      intro hf r hr er
      subst hr
      exact ⟨false, ns, ((c + 1 : Nat) : Int), top _ er, no (by rw [hlook, if_pos (.inr hf)]; omega)⟩
    by_cases c3 : a = 3
    · have hfs : fShape a b s l.length slots = (noT s && (decide (l.length = 0) && (decide (-1 ≤ b) && decide (b ≤ slots - 1)))) := by unfold fShape; rw [if_pos c3]
      have j0 : ∀ r, Ev (fun k => (if (decide (-1 ≤ b) && decide (b ≤ slots - 1)) = true then (if s.toList = ([] : List UInt8) then (if (l.length : Int) > 0 then (some (false, ns, slots, ((c + 1 : Nat) : Int))) else (if b ≥ 0 then ((slices_Contains_int_int.f k ns b).bind fun t178 => (if t178 = true then (some (false, ns, slots, ((c + 1 : Nat) : Int))) else (if ns.length < 17592186044416 then (some (true, (ns ++ [b]), slots, ((c + 1 : Nat) : Int))) else (none)))) else (if ns.length < 17592186044416 then (some (true, (ns ++ [b]), slots, ((c + 1 : Nat) : Int))) else (none)))) else (some (false, ns, slots, ((c + 1 : Nat) : Int)))) else (some (false, ns, slots, ((c + 1 : Nat) : Int))))) r → Ev (fun k => impl_fitter_fits.j0 k dp false slots ((c + 1 : Nat) : Int) ns a b s l) r := by
        intro r er
        refine Ev.step (f := fun k => (impl_inRange.f b (-1) (slots - 1)).bind fun t177 => (if t177 = true then (if s.toList = ([] : List UInt8) then (if (l.length : Int) > 0 then (some (false, ns, slots, ((c + 1 : Nat) : Int))) else (if b ≥ 0 then ((slices_Contains_int_int.f k ns b).bind fun t178 => (if t178 = true then (some (false, ns, slots, ((c + 1 : Nat) : Int))) else (if ns.length < 17592186044416 then (some (true, (ns ++ [b]), slots, ((c + 1 : Nat) : Int))) else (none)))) else (if ns.length < 17592186044416 then (some (true, (ns ++ [b]), slots, ((c + 1 : Nat) : Int))) else (none)))) else (some (false, ns, slots, ((c + 1 : Nat) : Int)))) else (some (false, ns, slots, ((c + 1 : Nat) : Int))))) (fun k => ?_) (Ev.bind (ev_of (impl_inRange_eq _ _ _)) er)
        simp only [impl_fitter_fits.j0]
        rw [if_neg (by decide), if_pos c3, w64 (slots - 1) (by omega) (by omega)]
      by_cases hr : -1 ≤ b ∧ b ≤ slots - 1
      · have hrt : (decide (-1 ≤ b) && decide (b ≤ slots - 1)) = true := by rw [decide_eq_true hr.1, decide_eq_true hr.2]; rfl
        by_cases ht : s.toList = ([] : List UInt8)
        · by_cases hl0 : (l.length : Int) > 0
          · refine fail ?_ _ rfl (j0 _ (ev_pos hrt (ev_pos ht (ev_pos hl0 (Ev.now _)))))
            rw [hfs, decide_eq_false (show ¬ l.length = 0 by omega), Bool.false_and, Bool.and_false]
          · have hl : l = [] := List.eq_nil_of_length_eq_zero (by omega)
            subst hl
            have hft : fShape a b s ([] : List S29).length slots = true := by
              rw [hfs, hrt]; unfold noT; rw [decide_eq_true ht]; rfl
            rw [hft, if_neg (by simp; omega), lookFL, hcc2] at hlook
            have hsm : slotsM ⟨a, b, s, []⟩ = (if a = 3 ∧ b ≠ -1 then [b] else []) := by rw [slotsM, slotsML, List.append_nil]
            by_cases hb1 : b = -1
            · rw [if_neg (fun h => h.2 hb1)] at hsm
              refine ⟨true, ns ++ [b], ((c + 1 : Nat) : Int), top _ (j0 _ (ev_pos hrt (ev_pos ht (ev_neg hl0 (ev_neg (by omega) (ev_pos (by omega) (Ev.now _))))))), fun _ => ?_, fun h => (by cases h)⟩
              rw [hlook, hsm, fl_app, List.append_nil]
              refine ⟨by omega, by omega, rfl, ?_, hnd, by rw [List.length_append, List.length_singleton]; omega⟩
              rw [hb1]; unfold fl; simp
            · rw [if_pos ⟨c3, hb1⟩] at hsm
              have na := nd_app (fl ns) b
              have ec := iContains_ev ns (by omega) b
              have st : ∀ r, Ev (fun _ => (if decide (b ∈ ns) = true then (some (false, ns, slots, ((c + 1 : Nat) : Int))) else (if ns.length < 17592186044416 then (some (true, (ns ++ [b]), slots, ((c + 1 : Nat) : Int))) else (none)))) r → Ev (fun k => impl_fitter_fits.f k slots (c : Int) ns a b s [] dp) r := fun r er => top _ (j0 _ (ev_pos hrt (ev_pos ht (ev_neg hl0 (ev_pos (by omega) (Ev.bind ec er))))))
              by_cases hm : b ∈ ns
              · refine ⟨false, ns, ((c + 1 : Nat) : Int), st _ (ev_pos (decide_eq_true hm) (Ev.now _)), fun h => (by cases h), fun _ => .inr ?_⟩
                rw [hsm]
                exact fun h => (na.1 h).2 ((fl_mem hb1).2 hm)
              · refine ⟨true, ns ++ [b], ((c + 1 : Nat) : Int), st _ (ev_neg (by rw [decide_eq_false hm]; decide) (ev_pos (by omega) (Ev.now _))), fun _ => ?_, fun h => (by cases h)⟩
                rw [hlook, hsm, fl_app]
                refine ⟨by omega, by omega, rfl, ?_, na.2 ⟨hnd, fun h => hm ((fl_mem hb1).1 h)⟩, by rw [List.length_append, List.length_singleton]; omega⟩
                have : fl [b] = [b] := by unfold fl; simp [hb1]
                rw [this]
        · refine fail ?_ _ rfl (j0 _ (ev_pos hrt (ev_neg ht (Ev.now _))))
          rw [hfs]; unfold noT; rw [decide_eq_false ht]; rfl
      · have hrf : (decide (-1 ≤ b) && decide (b ≤ slots - 1)) = false := by rw [← dec_and]; exact decide_eq_false hr
        refine fail ?_ _ rfl (j0 _ (ev_neg (by rw [hrf]; decide) (Ev.now _)))
        rw [hfs, hrf, Bool.and_false, Bool.and_false]
    · have hfs : fShape a b s l.length slots = (decide (a ≤ 6) && shOk a b s l.length) := by unfold fShape; rw [if_neg c3]
      have stop : Ev (fun k => impl_fitter_fits.j1 k dp true slots ((c + 1 : Nat) : Int) ns a b s l) (false, ns, slots, ((c + 1 : Nat) : Int)) := Ev.step (f := fun _ => some (false, ns, slots, ((c + 1 : Nat) : Int))) (fun k => by simp only [impl_fitter_fits.j1]; rw [if_pos trivial]) (Ev.now _)
      by_cases h6 : a > 6
      · refine fail (by rw [hfs, decide_eq_false (by omega), Bool.false_and]) _ rfl (Ev.step (fun k => ?_) stop)
        simp only [impl_fitter_fits.j0]
        rw [if_neg (by decide), if_neg c3, if_pos h6]
      rw [decide_eq_true (show a ≤ 6 by omega), Bool.true_and] at hfs
      have es := impl_shapeOk_ev a b s l.length (by omega)
      have j0 : ∀ r, Ev (fun k => impl_fitter_fits.j1 k dp (!(shOk a b s l.length)) slots ((c + 1 : Nat) : Int) ns a b s l) r → Ev (fun k => impl_fitter_fits.j0 k dp false slots ((c + 1 : Nat) : Int) ns a b s l) r := by
        intro r er
        refine Ev.step (f := fun k => (impl_shapeOk.f k a b s (l.length : Int)).bind fun t185 => (impl_fitter_fits.j1 k dp (!t185) slots ((c + 1 : Nat) : Int) ns a b s l)) (fun k => ?_) (Ev.bind es er)
        simp only [impl_fitter_fits.j0]
        rw [if_neg (by decide), if_neg c3, if_neg h6]
      cases hs : shOk a b s l.length with
      | false =>
        rw [hs] at j0 hfs
        exact fail hfs _ rfl (j0 _ stop)
      | true =>
        rw [hs] at j0 hfs
        rw [hfs, if_neg (by simp; omega), hcc2] at hlook
        have hsm : slotsM ⟨a, b, s, l⟩ = slotsML l := by rw [slotsM, if_neg (fun h => c3 h.1), List.nil_append]
        obtain ⟨ok, ns2, c2, e, q1, q2⟩ := fp_loop slots dp d (by omega) h1 l (by omega) (fun x hx c ns hc hn hnd => ih x hx (by have := P_budI_mem l x hx; omega) d (dp + 1) (by omega) (by omega) c ns hc hn hnd) l.length 0 (c + 1) ns (by omega) (by omega) (by omega) hnd
        rw [List.drop_zero] at q1 q2
        refine ⟨ok, ns2, c2, top _ (j0 _ (Ev.step (f := fun k => impl_fitter_fits.l0 k dp l (l.length : Int) 0 slots ((c + 1 : Nat) : Int) ns) (fun k => by simp only [impl_fitter_fits.j1]; rw [if_neg (by decide)]) e)), ?_⟩
        unfold FP
        rw [hlook, hsm]
        exact ⟨q1, q2⟩
theorem impl_PatFits_ev (x : S29) (slots : Int) (hb : (P_budI x : Int) ≤ 2097152) : Ev (fun k => impl_PatFits.f k x.f0 x.f1 x.f2 x.f3 slots) (fitsM x slots) := by
  unfold impl_PatFits.f fitsM
  refine Ev.bind (ev_of (impl_inRange_eq _ _ _)) ?_
  by_cases hs : 0 ≤ slots ∧ slots ≤ 400
  · obtain ⟨ok, ns2, c2, e, q1, q2⟩ := fp_all slots hs x hb 10 1 (by omega) (by omega) 0 [] (by omega) (by simp) List.nodup_nil
    rw [decide_eq_true hs.1, decide_eq_true hs.2]
    refine ev_pos rfl (Ev.bind e (ev_cast ?_ (Ev.now _)))
    show ok = _
    have e300 : (300 : Int) - ((0 : Nat) : Int) = 300 := by omega
    have e0 : fl [] = [] := rfl
    rw [e300, e0, List.nil_append] at q1 q2
    cases ok with
    | true =>
      obtain ⟨a1, a2, a3, a4, a5, a6⟩ := q1 rfl
      rw [decide_eq_true a5, decide_eq_true (show 0 ≤ lookF x slots 10 300 by omega)]; rfl
    | false =>
      rcases q2 rfl with h | h
      · rw [decide_eq_false (show ¬ 0 ≤ lookF x slots 10 300 by omega)]; rfl
      · rw [decide_eq_false h, Bool.and_false, Bool.and_false]
  · have hf : (decide (0 ≤ slots) && decide (slots ≤ 400)) = false := by
      rw [← dec_and]; exact decide_eq_false hs
    rw [hf]
    exact ev_neg (by decide) (Ev.now _)
theorem FnExactPatFits : laws_FnExactPatFits.Pure := by
  intro a b s l n hw _
  refine Ev.rounds (g := fun k => laws_FnExactPatFits.f k a b s l n) ?_
  unfold laws_FnExactPatFits.f
  refine Ev.bind (P_szTerm_ev a b s l hw 1048576 (by omega) (by omega)) ?_
  unfold szRes
  by_cases hb : (P_budL ⟨a, b, s, l⟩ : Int) ≤ 1048576
  · rw [if_pos hb]
    have hi : (P_budI (P_cv ⟨a, b, s, l⟩) : Int) ≤ 1048576 := by rw [P_bud_cv]; exact hb
    rw [P_cv] at hi
    have ht := P_toTerm_ev a b s l hb
    have es := spec_PatFits_ev ⟨a, b, s, P_cvL l⟩ n (by omega)
    have ei := impl_PatFits_ev ⟨a, b, s, P_cvL l⟩ n (by omega)
    refine ev_neg (by omega) ?_
    refine Ev.step (fun k => by simp only [laws_FnExactPatFits.j0]; rfl) ?_
    exact Ev.bind ht (Ev.bind es (Ev.bind ht (Ev.bind ei (ev_neg (by simp) (Ev.bind ht (Ev.bind (P_eqTerm_ev a b s (P_cvL l) (by omega)) (ev_pos rfl (Ev.now _))))))))
  · rw [if_neg hb]
    exact ev_pos (by omega) (Ev.now _)

end Go.Proofs.Yteifhhbaiobioaa.Pure
